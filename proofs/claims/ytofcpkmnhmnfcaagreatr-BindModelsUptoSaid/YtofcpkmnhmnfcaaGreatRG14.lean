import Derived.Test.YtofcpkmnhmnfcaaGreatRG13
namespace Go.Proofs.YtofcpkmnhmnfcaaGreatR.Ev
open Go An
set_option maxRecDepth 100000
set_option maxHeartbeats 4000000
set_option linter.unusedVariables false
set_option linter.unusedSimpArgs false
set_option linter.unnecessarySimpa false
noncomputable section
variable {A:Type} (L n:Nat) (kk:Cz) (K:Ba) (k:Bq)
def c34:=CC Tryz.f34
def O34:Bd:=oL [X33 L,X52 L,X53 L,X54 L,X55 L,X56 L,X57 L]
def Byk(a0:Aa)(a1:Aa)(v:Yq):St:=⟨[(0,.any),(1,.any),(2,.loc 2 0),(3,.loc 3 0),(4,B v.1),(5,I v.2),(6,.any),(7,.any),(8,.any),(9,.any),(10,.any),(11,.any),(12,.any),(13,.any),(14,.any)],[(2,(Af a0)),(3,(Af a1))],0⟩
def Xm [An A M3](a0:Aa)(a1:Aa)(rec:Bool→Int→A)(Al:Bool)(Ai:Int):A:=
 (lw Ai a0.Resources
 (gi Ai a1.Resources
 (bd (K7 L (⟨(a0.Resources.getD (Int.toNat Ai) default).Name,(a0.Resources.getD (Int.toNat Ai) default).Units,(a0.Resources.getD (Int.toNat Ai) default).Shift,(a0.Resources.getD (Int.toNat Ai) default).Cycle,(⟨((a0.Resources.getD (Int.toNat Ai) default).Fault).Stream,(((a0.Resources.getD (Int.toNat Ai) default).Fault).Up),(((a0.Resources.getD (Int.toNat Ai) default).Fault).Down)⟩:Ki)⟩:Ah) (⟨(a1.Resources.getD (Int.toNat Ai) default).Name,(a1.Resources.getD (Int.toNat Ai) default).Units,(a1.Resources.getD (Int.toNat Ai) default).Shift,(a1.Resources.getD (Int.toNat Ai) default).Cycle,(⟨((a1.Resources.getD (Int.toNat Ai) default).Fault).Stream,(((a1.Resources.getD (Int.toNat Ai) default).Fault).Up),(((a1.Resources.getD (Int.toNat Ai) default).Fault).Down)⟩:Ki)⟩:Ah)) fun r18=>
 (cn (!r18)
 (lf (0,false,Ai))
 (rec Al (B7 (Ai+1))))))
 (lf (1,Al,Ai)))
def Ju(L:Nat)(a0:Aa)(a1:Aa):Nat→Bool→Int→Option M3
 |0,_,_=>none
 |n+1,Al,Ai=>Xm L a0 a1 (Ju L a0 a1 n) Al Ai
theorem Ccs(a0:Aa)(a1:Aa):LP (EV (O34 L) L 9 c34.w.u.l.u.l.l) [0,1,2,3,4,5,6,7,8,9,10,11,12,13,14] [2,3] (Byk a0 a1) [.ret,.exit 0] (fun n v=>Ju L a0 a1 n v.1 v.2) K:=lE (fun _=>rfl) fun n v ih=>eE (Xm L a0 a1 (fun Al Ai=>re (ih (Al,Ai))) v.1 v.2)
def Byl(a0:Aa)(a1:Aa)(v:Yq):St:=⟨[(0,.any),(1,.any),(2,.loc 2 0),(3,.loc 3 0),(4,B v.1),(5,.any),(6,I v.2),(7,.any),(8,.any),(9,.any),(10,.any),(11,.any),(12,.any),(13,.any),(14,.any)],[(2,(Af a0)),(3,(Af a1))],0⟩
def Xn [An A M3](L:Nat)(a0:Aa)(a1:Aa)(rec:Bool→Int→A)(Bo:Bool)(Bt:Int):A:=
 (lw Bt a0.Stores
 (gi Bt a1.Stores
 (cn (!(((a0.Stores.getD (Int.toNat Bt) default).Name == (a1.Stores.getD (Int.toNat Bt) default).Name) && (((a0.Stores.getD (Int.toNat Bt) default).Room == (a1.Stores.getD (Int.toNat Bt) default).Room) && (((a0.Stores.getD (Int.toNat Bt) default).Policy == (a1.Stores.getD (Int.toNat Bt) default).Policy) && true))))
 (lf (0,false,Bt))
 (rec Bo (B7 (Bt+1)))))
 (lf (1,Bo,Bt)))
def Jv(L:Nat)(a0:Aa)(a1:Aa):Nat→Bool→Int→Option M3
 |0,_,_=>none
 |n+1,Bo,Bt=>Xn L a0 a1 (Jv L a0 a1 n) Bo Bt
theorem Cct(a0:Aa)(a1:Aa):LP (EV (O34 L) L 9 c34.x.l.u.l.l) [0,1,2,3,4,5,6,7,8,9,10,11,12,13,14] [2,3] (Byl a0 a1) [.ret,.exit 2] (fun n v=>Jv L a0 a1 n v.1 v.2) K:=lE (fun _=>rfl) fun n v ih=>eE (Xn L a0 a1 (fun Bo Bt=>re (ih (Bo,Bt))) v.1 v.2)
def Bym(a0:Aa)(a1:Aa)(v:Yq):St:=⟨[(0,.any),(1,.any),(2,.loc 2 0),(3,.loc 3 0),(4,B v.1),(5,.any),(6,.any),(7,I v.2),(8,.any),(9,.any),(10,.any),(11,.any),(12,.any),(13,.any),(14,.any)],[(2,(Af a0)),(3,(Af a1))],0⟩
def Xo [An A M3](L:Nat)(a0:Aa)(a1:Aa)(rec:Bool→Int→A)(D6:Bool)(Ef:Int):A:=
 (lw Ef a0.Belts
 (gi Ef a1.Belts
 (cn (!(((a0.Belts.getD (Int.toNat Ef) default).Name == (a1.Belts.getD (Int.toNat Ef) default).Name) && (((a0.Belts.getD (Int.toNat Ef) default).Length == (a1.Belts.getD (Int.toNat Ef) default).Length) && (((a0.Belts.getD (Int.toNat Ef) default).Step == (a1.Belts.getD (Int.toNat Ef) default).Step) && true))))
 (lf (0,false,Ef))
 (rec D6 (B7 (Ef+1)))))
 (lf (1,D6,Ef)))
def Jw(L:Nat)(a0:Aa)(a1:Aa):Nat→Bool→Int→Option M3
 |0,_,_=>none
 |n+1,D6,Ef=>Xo L a0 a1 (Jw L a0 a1 n) D6 Ef
theorem Ccu(a0:Aa)(a1:Aa):LP (EV (O34 L) L 9 c34.x.u.l.u.l.l) [0,1,2,3,4,5,6,7,8,9,10,11,12,13,14] [2,3] (Bym a0 a1) [.ret,.exit 4] (fun n v=>Jw L a0 a1 n v.1 v.2) K:=lE (fun _=>rfl) fun n v ih=>eE (Xo L a0 a1 (fun D6 Ef=>re (ih (D6,Ef))) v.1 v.2)
def Byn(a0:Aa)(a1:Aa)(v:Yq):St:=⟨[(0,.any),(1,.any),(2,.loc 2 0),(3,.loc 3 0),(4,B v.1),(5,.any),(6,.any),(7,.any),(8,I v.2),(11,.any),(12,.any),(13,.any),(14,.any)],[(2,(Af a0)),(3,(Af a1))],0⟩
def Xp [An A M3](a0:Aa)(a1:Aa)(rec:Bool→Int→A)(He:Bool)(Cq:Int):A:=
 (lw Cq a0.Routines
 (gi Cq a1.Routines
 (jb (.cn (!(((a0.Routines.getD (Int.toNat Cq) default).Name).toList == ((a1.Routines.getD (Int.toNat Cq) default).Name).toList))
 (.lf true)
 (.bd (K6 L ((a0.Routines.getD (Int.toNat Cq) default).Params) ((a1.Routines.getD (Int.toNat Cq) default).Params)) fun r23=>
 (.lf (!r23)))) (fun b22=>
 (jb (.cn b22
 (.lf true)
 (.bd (K6 L ((a0.Routines.getD (Int.toNat Cq) default).Locals) ((a1.Routines.getD (Int.toNat Cq) default).Locals)) fun r25=>
 (.lf (!r25)))) (fun b24=>
 (jb (.cn b24
 (.lf true)
 (.bd (Nd L ((a0.Routines.getD (Int.toNat Cq) default).Body) ((a1.Routines.getD (Int.toNat Cq) default).Body)) fun r27=>
 (.lf (!r27)))) (fun b26=>
 (cn b26
 (lf (0,false,Cq))
 (rec He (B7 (Cq+1)))))))))))
 (lf (1,He,Cq)))
def Jx(L:Nat)(a0:Aa)(a1:Aa):Nat→Bool→Int→Option M3
 |0,_,_=>none
 |n+1,He,Cq=>Xp L a0 a1 (Jx L a0 a1 n) He Cq
theorem Ccv(a0:Aa)(a1:Aa):LP (EV (O34 L) L 9 c34.x.w.l.u.l.l) [0,1,2,3,4,5,6,7,8,11,12,13,14] [2,3] (Byn a0 a1) [.ret,.exit 6] (fun n v=>Jx L a0 a1 n v.1 v.2) K:=lE (fun _=>rfl) fun n v ih=>eE (Xp L a0 a1 (fun He Cq=>re (ih (He,Cq))) v.1 v.2)
def Byo(a0:Aa)(a1:Aa)(v:Yq):St:=⟨[(0,.any),(1,.any),(2,.loc 2 0),(3,.loc 3 0),(4,B v.1),(5,.any),(6,.any),(7,.any),(8,.any),(9,.any),(10,.any),(11,I v.2),(14,.any)],[(2,(Af a0)),(3,(Af a1))],0⟩
def Xq [An A M3](a0:Aa)(a1:Aa)(rec:Bool→Int→A)(Ma:Bool)(W4:Int):A:=
 (lw W4 a0.Starts
 (gi W4 a1.Starts
 (jp (.cn (!(((a0.Starts.getD (Int.toNat W4) default).Routine).toList == ((a1.Starts.getD (Int.toNat W4) default).Routine).toList))
 (.lf true)
 (.lf ((a0.Starts.getD (Int.toNat W4) default).At != (a1.Starts.getD (Int.toNat W4) default).At))) (fun b29=>
 (jp (.cn b29
 (.lf true)
 (.lf ((a0.Starts.getD (Int.toNat W4) default).Every != (a1.Starts.getD (Int.toNat W4) default).Every))) (fun b30=>
 (jp (.cn b30
 (.lf true)
 (.lf ((a0.Starts.getD (Int.toNat W4) default).Until != (a1.Starts.getD (Int.toNat W4) default).Until))) (fun b31=>
 (jb (.cn b31
 (.lf true)
 (.bd (Y0 L ((a0.Starts.getD (Int.toNat W4) default).Args) ((a1.Starts.getD (Int.toNat W4) default).Args)) fun r33=>
 (.lf (!r33)))) (fun b32=>
 (cn b32
 (lf (0,false,W4))
 (rec Ma (B7 (W4+1)))))))))))))
 (lf (1,Ma,W4)))
def Jy(L:Nat)(a0:Aa)(a1:Aa):Nat→Bool→Int→Option M3
 |0,_,_=>none
 |n+1,Ma,W4=>Xq L a0 a1 (Jy L a0 a1 n) Ma W4
theorem Ccw(a0:Aa)(a1:Aa):LP (EV (O34 L) L 9 c34.x.w.u.l.u.l.l) [0,1,2,3,4,5,6,7,8,9,10,11,14] [2,3] (Byo a0 a1) [.ret,.exit 8] (fun n v=>Jy L a0 a1 n v.1 v.2) K:=lE (fun _=>rfl) fun n v ih=>eE (Xq L a0 a1 (fun Ma W4=>re (ih (Ma,W4))) v.1 v.2)
def Byp(a0:Aa)(a1:Aa)(v:Yq):St:=⟨[(0,.any),(1,.any),(2,.loc 2 0),(3,.loc 3 0),(4,B v.1),(5,.any),(6,.any),(7,.any),(8,.any),(9,.any),(10,.any),(11,.any),(12,.any),(13,.any),(14,I v.2)],[(2,(Af a0)),(3,(Af a1))],0⟩
def Xr [An A M3](a0:Aa)(a1:Aa)(rec:Bool→Int→A)(Mb:Bool)(Ac1:Int):A:=
 (lw Ac1 a0.Laws
 (gi Ac1 a1.Laws
 (bd (Aan L (a0.Laws.getD (Int.toNat Ac1) default) (a1.Laws.getD (Int.toNat Ac1) default)) fun r35=>
 (cn (!r35)
 (lf (0,false,Ac1))
 (rec Mb (B7 (Ac1+1))))))
 (lf (1,Mb,Ac1)))
def Jz(L:Nat)(a0:Aa)(a1:Aa):Nat→Bool→Int→Option M3
 |0,_,_=>none
 |n+1,Mb,Ac1=>Xr L a0 a1 (Jz L a0 a1 n) Mb Ac1
theorem Ccx(a0:Aa)(a1:Aa):LP (EV (O34 L) L 9 c34.x.x.l.u.l.l) [0,1,2,3,4,5,6,7,8,9,10,11,12,13,14] [2,3] (Byp a0 a1) [.ret,.exit 10] (fun n v=>Jz L a0 a1 n v.1 v.2) K:=lE (fun _=>rfl) fun n v ih=>eE (Xr L a0 a1 (fun Mb Ac1=>re (ih (Mb,Ac1))) v.1 v.2)
def S0 [An A Bool](L:Nat)(o36:Nat×Yq):A:=
 (sl o36.1 [(lf o36.2.1),
 (lf true)])
def Bwh:Ba:=(Av 10 (Be (EV (O34 L) L 9 c34.x.x.r) (Cp Tryz.prog (RS Tryz.f34) kk)))
theorem Cmx(a0:Aa)(a1:Aa)(o36:Nat×Yq):kX [.ret,.exit 10] (Byp a0 a1) (Bwh L kk) o36=ob (S0 L o36) (kQ B kk):=eE (S0 L o36)
def Yg [An A Bool](L:Nat)(a0:Aa)(a1:Aa)(o34:Nat×Yq)(nx6:M3→A):A:=
 (sl o34.1 [(lf o34.2.1),
 (nx6 o34)])
def X1 [An A Bool](a0:Aa)(a1:Aa)(o34:Nat×Yq):A:=Yg L a0 a1 o34 (fun o34=>bd (Jz L a0 a1 L o34.2.1 0) fun o36=>S0 L o36)
def Bwg:Ba:=(Av 8 (Be (EV (O34 L) L 9 c34.x.w.u.r) (Cp Tryz.prog (RS Tryz.f34) kk)))
theorem Cmw(a0:Aa)(a1:Aa)(o34:Nat×Yq):kX [.ret,.exit 8] (Byo a0 a1) (Bwg L kk) o34=ob (X1 L a0 a1 o34) (kQ B kk):=eE (Yg L a0 a1 o34 (fun o34=>ho (Ccx L (Bwh L kk) a0 a1 L (o34.2.1,0)) fun o36=>Cmx L kk a0 a1 o36))
def Yf [An A Bool](L:Nat)(a0:Aa)(a1:Aa)(o28:Nat×Yq)(nx5:M3→A):A:=
 (sl o28.1 [(lf o28.2.1),
 (nx5 o28)])
def X0 [An A Bool](a0:Aa)(a1:Aa)(o28:Nat×Yq):A:=Yf L a0 a1 o28 (fun o28=>bd (Jy L a0 a1 L o28.2.1 0) fun o34=>X1 L a0 a1 o34)
def Bwf:Ba:=(Av 6 (Be (EV (O34 L) L 9 c34.x.w.r) (Cp Tryz.prog (RS Tryz.f34) kk)))
theorem Cmv(a0:Aa)(a1:Aa)(o28:Nat×Yq):kX [.ret,.exit 6] (Byn a0 a1) (Bwf L kk) o28=ob (X0 L a0 a1 o28) (kQ B kk):=eE (Yf L a0 a1 o28 (fun o28=>ho (Ccw L (Bwg L kk) a0 a1 L (o28.2.1,0)) fun o34=>Cmw L kk a0 a1 o34))
def Ye [An A Bool](L:Nat)(a0:Aa)(a1:Aa)(o21:Nat×Yq)(nx4:M3→A):A:=
 (sl o21.1 [(lf o21.2.1),
 (nx4 o21)])
def Xz [An A Bool](a0:Aa)(a1:Aa)(o21:Nat×Yq):A:=Ye L a0 a1 o21 (fun o21=>bd (Jx L a0 a1 L o21.2.1 0) fun o28=>X0 L a0 a1 o28)
def Bwe:Ba:=(Av 4 (Be (EV (O34 L) L 9 c34.x.u.r) (Cp Tryz.prog (RS Tryz.f34) kk)))
theorem Cmu(a0:Aa)(a1:Aa)(o21:Nat×Yq):kX [.ret,.exit 4] (Bym a0 a1) (Bwe L kk) o21=ob (Xz L a0 a1 o21) (kQ B kk):=eE (Ye L a0 a1 o21 (fun o21=>ho (Ccv L (Bwf L kk) a0 a1 L (o21.2.1,0)) fun o28=>Cmv L kk a0 a1 o28))
def Yd [An A Bool](L:Nat)(a0:Aa)(a1:Aa)(o20:Nat×Yq)(nx3:M3→A):A:=
 (sl o20.1 [(lf o20.2.1),
 (nx3 o20)])
def Xy [An A Bool](a0:Aa)(a1:Aa)(o20:Nat×Yq):A:=Yd L a0 a1 o20 (fun o20=>bd (Jw L a0 a1 L o20.2.1 0) fun o21=>Xz L a0 a1 o21)
def Bwd:Ba:=(Av 2 (Be (EV (O34 L) L 9 c34.x.r) (Cp Tryz.prog (RS Tryz.f34) kk)))
theorem Cmt(a0:Aa)(a1:Aa)(o20:Nat×Yq):kX [.ret,.exit 2] (Byl a0 a1) (Bwd L kk) o20=ob (Xy L a0 a1 o20) (kQ B kk):=eE (Yd L a0 a1 o20 (fun o20=>ho (Ccu L (Bwe L kk) a0 a1 L (o20.2.1,0)) fun o21=>Cmu L kk a0 a1 o21))
def Yc [An A Bool](L:Nat)(a0:Aa)(a1:Aa)(o19:Nat×Yq)(nx2:M3→A):A:=
 (sl o19.1 [(lf o19.2.1),
 (nx2 o19)])
def Xx [An A Bool](a0:Aa)(a1:Aa)(o19:Nat×Yq):A:=Yc L a0 a1 o19 (fun o19=>bd (Jv L a0 a1 L o19.2.1 0) fun o20=>Xy L a0 a1 o20)
def Bwc:Ba:=(Av 0 (Be (EV (O34 L) L 9 c34.w.u.r) (Cp Tryz.prog (RS Tryz.f34) kk)))
theorem Cms(a0:Aa)(a1:Aa)(o19:Nat×Yq):kX [.ret,.exit 0] (Byk a0 a1) (Bwc L kk) o19=ob (Xx L a0 a1 o19) (kQ B kk):=eE (Yc L a0 a1 o19 (fun o19=>ho (Cct L (Bwd L kk) a0 a1 L (o19.2.1,0)) fun o20=>Cmt L kk a0 a1 o20))
def Yb [An A Bool](a0:Aa)(a1:Aa)(nx1:A):A:=
 (jb (.cn (!(a0.Name.toList == a1.Name.toList))
 (.lf true)
 (.bd (Uk L a0.Vars a1.Vars) fun r2=>
 (.lf (!r2)))) (fun b1=>
 (jp (.cn b1
 (.lf true)
 (.lf ((a0.Resources.length:Int) != (a1.Resources.length:Int)))) (fun b3=>
 (jp (.cn b3
 (.lf true)
 (.lf ((a0.Stores.length:Int) != (a1.Stores.length:Int)))) (fun b4=>
 (jp (.cn b4
 (.lf true)
 (.lf ((a0.Belts.length:Int) != (a1.Belts.length:Int)))) (fun b5=>
 (jp (.cn b5
 (.lf true)
 (.lf ((a0.Routines.length:Int) != (a1.Routines.length:Int)))) (fun b6=>
 (jp (.cn b6
 (.lf true)
 (.lf ((a0.Starts.length:Int) != (a1.Starts.length:Int)))) (fun b7=>
 (jp (.cn b7
 (.lf true)
 (.lf ((a0.Laws.length:Int) != (a1.Laws.length:Int)))) (fun b8=>
 (cn b8
 (lf false)
 (bd (Kk L a0.Queues a1.Queues) fun r9=>
 (jb (.cn (!r9)
 (.lf true)
 (.bd (Kk L a0.Streams a1.Streams) fun r11=>
 (.lf (!r11)))) (fun b10=>
 (jb (.cn b10
 (.lf true)
 (.bd (Kk L a0.Tallies a1.Tallies) fun r13=>
 (.lf (!r13)))) (fun b12=>
 (jb (.cn b12
 (.lf true)
 (.bd (Kk L a0.Levels a1.Levels) fun r15=>
 (.lf (!r15)))) (fun b14=>
 (jb (.cn b14
 (.lf true)
 (.bd (Kk L a0.Counts a1.Counts) fun r17=>
 (.lf (!r17)))) (fun b16=>
 (cn b16
 (lf false)
 nx1)))))))))))))))))))))))))
def Atl [An A Bool](a0:Aa)(a1:Aa):A:=Yb L a0 a1 (bd (Ju L a0 a1 L false 0) fun o19=>Xx L a0 a1 o19)
def Yw(a0:Aa)(a1:Aa):Option Bool:=Atl L a0 a1
def X34:F7:=E2 B 34 Cn Cn (Yw L) fun a0 a1 r h=>hF Tryz.func34 (C:=O34 L) (oS _) L (fun kk=>eE (Yb L a0 a1 (ho (Ccs L (Bwc L kk) a0 a1 L (false,0)) fun o19=>Cms L kk a0 a1 o19))) h
def c10:=CC Tryz.f10
def O10:Bd:=oL [X33 L,X34 L]
def Bya(a0:Ac)(a1:Ac)(v:Yq):St:=⟨[(0,.any),(1,.any),(2,.loc 2 0),(3,.loc 3 0),(4,B v.1),(5,I v.2),(6,.any)],[(2,(Au a0)),(3,(Au a1))],0⟩
def Aia [An A M3](a0:Ac)(a1:Ac)(rec:Bool→Int→A)(Al:Bool)(Ai:Int):A:=
 (lw Ai a0.Sites
 (gi Ai a1.Sites
 (bd (Yw L (a0.Sites.getD (Int.toNat Ai) default) (a1.Sites.getD (Int.toNat Ai) default)) fun r5=>
 (cn (!r5)
 (lf (0,false,Ai))
 (rec Al (B7 (Ai+1))))))
 (lf (1,Al,Ai)))
def Tp(L:Nat)(a0:Ac)(a1:Ac):Nat→Bool→Int→Option M3
 |0,_,_=>none
 |n+1,Al,Ai=>Aia L a0 a1 (Tp L a0 a1 n) Al Ai
theorem Ccf(a0:Ac)(a1:Ac):LP (EV (O10 L) L 9 c10.w.l.u.l.l) [0,1,2,3,4,5,6] [2,3] (Bya a0 a1) [.ret,.exit 0] (fun n v=>Tp L a0 a1 n v.1 v.2) K:=lE (fun _=>rfl) fun n v ih=>eE (Aia L a0 a1 (fun Al Ai=>re (ih (Al,Ai))) v.1 v.2)
def Byb(a0:Ac)(a1:Ac)(v:Yq):St:=⟨[(0,.any),(1,.any),(2,.loc 2 0),(3,.loc 3 0),(4,B v.1),(5,.any),(6,I v.2)],[(2,(Au a0)),(3,(Au a1))],0⟩
def Aib [An A M3](L:Nat)(a0:Ac)(a1:Ac)(rec:Bool→Int→A)(Bo:Bool)(Bt:Int):A:=
 (lw Bt a0.Links
 (gi Bt a1.Links
 (cn (!(((a0.Links.getD (Int.toNat Bt) default).From == (a1.Links.getD (Int.toNat Bt) default).From) && (((a0.Links.getD (Int.toNat Bt) default).To == (a1.Links.getD (Int.toNat Bt) default).To) && (((a0.Links.getD (Int.toNat Bt) default).Delay == (a1.Links.getD (Int.toNat Bt) default).Delay) && true))))
 (lf (0,false,Bt))
 (rec Bo (B7 (Bt+1)))))
 (lf (1,Bo,Bt)))
def Tq(L:Nat)(a0:Ac)(a1:Ac):Nat→Bool→Int→Option M3
 |0,_,_=>none
 |n+1,Bo,Bt=>Aib L a0 a1 (Tq L a0 a1 n) Bo Bt
theorem Ccg(a0:Ac)(a1:Ac):LP (EV (O10 L) L 9 c10.w.u.l.u.l.l) [0,1,2,3,4,5,6] [2,3] (Byb a0 a1) [.ret,.exit 2] (fun n v=>Tq L a0 a1 n v.1 v.2) K:=lE (fun _=>rfl) fun n v ih=>eE (Aib L a0 a1 (fun Bo Bt=>re (ih (Bo,Bt))) v.1 v.2)
def Aa2 [An A Bool](L:Nat)(o7:Nat×Yq):A:=
 (sl o7.1 [(lf o7.2.1),
 (lf true)])
def Bv0:Ba:=(Av 2 (Be (EV (O10 L) L 9 c10.w.u.r) (Cp Tryz.prog (RS Tryz.f10) kk)))
theorem Cmg(a0:Ac)(a1:Ac)(o7:Nat×Yq):kX [.ret,.exit 2] (Byb a0 a1) (Bv0 L kk) o7=ob (Aa2 L o7) (kQ B kk):=eE (Aa2 L o7)
def Aiu [An A Bool](L:Nat)(a0:Ac)(a1:Ac)(o6:Nat×Yq)(nx2:M3→A):A:=
 (sl o6.1 [(lf o6.2.1),
 (nx2 o6)])
def Aik [An A Bool](a0:Ac)(a1:Ac)(o6:Nat×Yq):A:=Aiu L a0 a1 o6 (fun o6=>bd (Tq L a0 a1 L o6.2.1 0) fun o7=>Aa2 L o7)
def Bvz:Ba:=(Av 0 (Be (EV (O10 L) L 9 c10.w.r) (Cp Tryz.prog (RS Tryz.f10) kk)))
theorem Cmf(a0:Ac)(a1:Ac)(o6:Nat×Yq):kX [.ret,.exit 0] (Bya a0 a1) (Bvz L kk) o6=ob (Aik L a0 a1 o6) (kQ B kk):=eE (Aiu L a0 a1 o6 (fun o6=>ho (Ccg L (Bv0 L kk) a0 a1 L (o6.2.1,0)) fun o7=>Cmg L kk a0 a1 o7))
def Ait [An A Bool](a0:Ac)(a1:Ac)(nx1:A):A:=
 (jb (.cn (!(a0.Name.toList == a1.Name.toList))
 (.lf true)
 (.bd (Uk L a0.Params a1.Params) fun r2=>
 (.lf (!r2)))) (fun b1=>
 (jp (.cn b1
 (.lf true)
 (.lf ((a0.Sites.length:Int) != (a1.Sites.length:Int)))) (fun b3=>
 (jp (.cn b3
 (.lf true)
 (.lf ((a0.Links.length:Int) != (a1.Links.length:Int)))) (fun b4=>
 (cn b4
 (lf false)
 nx1)))))))
def A6x [An A Bool](a0:Ac)(a1:Ac):A:=Ait L a0 a1 (bd (Tp L a0 a1 L false 0) fun o6=>Aik L a0 a1 o6)
def Alv(a0:Ac)(a1:Ac):Option Bool:=A6x L a0 a1
def X10:F7:=E2 B 10 Cu Cu (Alv L) fun a0 a1 r h=>hF Tryz.func10 (C:=O10 L) (oS _) L (fun kk=>eE (Ait L a0 a1 (ho (Ccf L (Bvz L kk) a0 a1 L (false,0)) fun o6=>Cmf L kk a0 a1 o6))) h
end
end Go.Proofs.YtofcpkmnhmnfcaaGreatR.Ev
