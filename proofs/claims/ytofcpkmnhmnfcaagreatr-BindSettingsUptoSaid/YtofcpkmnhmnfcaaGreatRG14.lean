import Derived.Test.YtofcpkmnhmnfcaaGreatRG13
namespace Go.Proofs.YtofcpkmnhmnfcaaGreatR.Ev
open Go An
set_option maxRecDepth 100000
set_option maxHeartbeats 4000000
set_option linter.unusedVariables false
set_option linter.unusedSimpArgs false
set_option linter.unnecessarySimpa false
noncomputable section
variable {A:Type} (L n:Nat) (kk:Cz) (K:Ax) (k:Bk)
def c34:=CC Tryz.f34
def O34:Ba:=oL [X33 L,X52 L,X53 L,X54 L,X55 L,X56 L,X57 L]
def Bsf(a0:Aa)(a1:Aa)(v:U4):St:=⟨[(0,.any),(1,.any),(2,.loc 2 0),(3,.loc 3 0),(4,B v.1),(5,I v.2),(6,.any),(7,.any),(8,.any),(9,.any),(10,.any),(11,.any),(12,.any),(13,.any),(14,.any)],[(2,(Af a0)),(3,(Af a1))],0⟩
def T6 [An A Ln](a0:Aa)(a1:Aa)(rec:Bool→Int→A)(Al:Bool)(Aj:Int):A:=
 (lw Aj a0.Resources
 (gi Aj a1.Resources
 (bd (Kg L (⟨(a0.Resources.getD (Int.toNat Aj) default).Name,(a0.Resources.getD (Int.toNat Aj) default).Units,(a0.Resources.getD (Int.toNat Aj) default).Shift,(a0.Resources.getD (Int.toNat Aj) default).Cycle,(⟨((a0.Resources.getD (Int.toNat Aj) default).Fault).Stream,(((a0.Resources.getD (Int.toNat Aj) default).Fault).Up),(((a0.Resources.getD (Int.toNat Aj) default).Fault).Down)⟩:Jq)⟩:Ah) (⟨(a1.Resources.getD (Int.toNat Aj) default).Name,(a1.Resources.getD (Int.toNat Aj) default).Units,(a1.Resources.getD (Int.toNat Aj) default).Shift,(a1.Resources.getD (Int.toNat Aj) default).Cycle,(⟨((a1.Resources.getD (Int.toNat Aj) default).Fault).Stream,(((a1.Resources.getD (Int.toNat Aj) default).Fault).Up),(((a1.Resources.getD (Int.toNat Aj) default).Fault).Down)⟩:Jq)⟩:Ah)) fun r18=>
 (cn (!r18)
 (lf (0,false,Aj))
 (rec Al (B6 (Aj+1))))))
 (lf (1,Al,Aj)))
def I5(L:Nat)(a0:Aa)(a1:Aa):Nat→Bool→Int→Option Ln
 |0,_,_=>none
 |n+1,Al,Aj=>T6 L a0 a1 (I5 L a0 a1 n) Al Aj
theorem B6g(a0:Aa)(a1:Aa):LP (EV (O34 L) L 9 c34.w.u.l.u.l.l) [0,1,2,3,4,5,6,7,8,9,10,11,12,13,14] [2,3] (Bsf a0 a1) [.ret,.exit 0] (fun n v=>I5 L a0 a1 n v.1 v.2) K:=lE (fun _=>rfl) fun n v ih=>eE (T6 L a0 a1 (fun Al Aj=>re (ih (Al,Aj))) v.1 v.2)
def Bsg(a0:Aa)(a1:Aa)(v:U4):St:=⟨[(0,.any),(1,.any),(2,.loc 2 0),(3,.loc 3 0),(4,B v.1),(5,.any),(6,I v.2),(7,.any),(8,.any),(9,.any),(10,.any),(11,.any),(12,.any),(13,.any),(14,.any)],[(2,(Af a0)),(3,(Af a1))],0⟩
def T7 [An A Ln](L:Nat)(a0:Aa)(a1:Aa)(rec:Bool→Int→A)(Bl:Bool)(Bv:Int):A:=
 (lw Bv a0.Stores
 (gi Bv a1.Stores
 (cn (!(((a0.Stores.getD (Int.toNat Bv) default).Name == (a1.Stores.getD (Int.toNat Bv) default).Name) && (((a0.Stores.getD (Int.toNat Bv) default).Room == (a1.Stores.getD (Int.toNat Bv) default).Room) && (((a0.Stores.getD (Int.toNat Bv) default).Policy == (a1.Stores.getD (Int.toNat Bv) default).Policy) && true))))
 (lf (0,false,Bv))
 (rec Bl (B6 (Bv+1)))))
 (lf (1,Bl,Bv)))
def I6(L:Nat)(a0:Aa)(a1:Aa):Nat→Bool→Int→Option Ln
 |0,_,_=>none
 |n+1,Bl,Bv=>T7 L a0 a1 (I6 L a0 a1 n) Bl Bv
theorem B6h(a0:Aa)(a1:Aa):LP (EV (O34 L) L 9 c34.x.l.u.l.l) [0,1,2,3,4,5,6,7,8,9,10,11,12,13,14] [2,3] (Bsg a0 a1) [.ret,.exit 2] (fun n v=>I6 L a0 a1 n v.1 v.2) K:=lE (fun _=>rfl) fun n v ih=>eE (T7 L a0 a1 (fun Bl Bv=>re (ih (Bl,Bv))) v.1 v.2)
def Bsh(a0:Aa)(a1:Aa)(v:U4):St:=⟨[(0,.any),(1,.any),(2,.loc 2 0),(3,.loc 3 0),(4,B v.1),(5,.any),(6,.any),(7,I v.2),(8,.any),(9,.any),(10,.any),(11,.any),(12,.any),(13,.any),(14,.any)],[(2,(Af a0)),(3,(Af a1))],0⟩
def T8 [An A Ln](L:Nat)(a0:Aa)(a1:Aa)(rec:Bool→Int→A)(E8:Bool)(Fs:Int):A:=
 (lw Fs a0.Belts
 (gi Fs a1.Belts
 (cn (!(((a0.Belts.getD (Int.toNat Fs) default).Name == (a1.Belts.getD (Int.toNat Fs) default).Name) && (((a0.Belts.getD (Int.toNat Fs) default).Length == (a1.Belts.getD (Int.toNat Fs) default).Length) && (((a0.Belts.getD (Int.toNat Fs) default).Step == (a1.Belts.getD (Int.toNat Fs) default).Step) && true))))
 (lf (0,false,Fs))
 (rec E8 (B6 (Fs+1)))))
 (lf (1,E8,Fs)))
def I7(L:Nat)(a0:Aa)(a1:Aa):Nat→Bool→Int→Option Ln
 |0,_,_=>none
 |n+1,E8,Fs=>T8 L a0 a1 (I7 L a0 a1 n) E8 Fs
theorem B6i(a0:Aa)(a1:Aa):LP (EV (O34 L) L 9 c34.x.u.l.u.l.l) [0,1,2,3,4,5,6,7,8,9,10,11,12,13,14] [2,3] (Bsh a0 a1) [.ret,.exit 4] (fun n v=>I7 L a0 a1 n v.1 v.2) K:=lE (fun _=>rfl) fun n v ih=>eE (T8 L a0 a1 (fun E8 Fs=>re (ih (E8,Fs))) v.1 v.2)
def Bsi(a0:Aa)(a1:Aa)(v:U4):St:=⟨[(0,.any),(1,.any),(2,.loc 2 0),(3,.loc 3 0),(4,B v.1),(5,.any),(6,.any),(7,.any),(8,I v.2),(11,.any),(12,.any),(13,.any),(14,.any)],[(2,(Af a0)),(3,(Af a1))],0⟩
def T9 [An A Ln](a0:Aa)(a1:Aa)(rec:Bool→Int→A)(Iw:Bool)(Cx:Int):A:=
 (lw Cx a0.Routines
 (gi Cx a1.Routines
 (jb (.cn (!(((a0.Routines.getD (Int.toNat Cx) default).Name).toList == ((a1.Routines.getD (Int.toNat Cx) default).Name).toList))
 (.lf true)
 (.bd (Kf L ((a0.Routines.getD (Int.toNat Cx) default).Params) ((a1.Routines.getD (Int.toNat Cx) default).Params)) fun r23=>
 (.lf (!r23)))) (fun b22=>
 (jb (.cn b22
 (.lf true)
 (.bd (Kf L ((a0.Routines.getD (Int.toNat Cx) default).Locals) ((a1.Routines.getD (Int.toNat Cx) default).Locals)) fun r25=>
 (.lf (!r25)))) (fun b24=>
 (jb (.cn b24
 (.lf true)
 (.bd (Lx L ((a0.Routines.getD (Int.toNat Cx) default).Body) ((a1.Routines.getD (Int.toNat Cx) default).Body)) fun r27=>
 (.lf (!r27)))) (fun b26=>
 (cn b26
 (lf (0,false,Cx))
 (rec Iw (B6 (Cx+1)))))))))))
 (lf (1,Iw,Cx)))
def I8(L:Nat)(a0:Aa)(a1:Aa):Nat→Bool→Int→Option Ln
 |0,_,_=>none
 |n+1,Iw,Cx=>T9 L a0 a1 (I8 L a0 a1 n) Iw Cx
theorem B6j(a0:Aa)(a1:Aa):LP (EV (O34 L) L 9 c34.x.w.l.u.l.l) [0,1,2,3,4,5,6,7,8,11,12,13,14] [2,3] (Bsi a0 a1) [.ret,.exit 6] (fun n v=>I8 L a0 a1 n v.1 v.2) K:=lE (fun _=>rfl) fun n v ih=>eE (T9 L a0 a1 (fun Iw Cx=>re (ih (Iw,Cx))) v.1 v.2)
def Bsj(a0:Aa)(a1:Aa)(v:U4):St:=⟨[(0,.any),(1,.any),(2,.loc 2 0),(3,.loc 3 0),(4,B v.1),(5,.any),(6,.any),(7,.any),(8,.any),(9,.any),(10,.any),(11,I v.2),(14,.any)],[(2,(Af a0)),(3,(Af a1))],0⟩
def Ua [An A Ln](a0:Aa)(a1:Aa)(rec:Bool→Int→A)(Lf:Bool)(Tp:Int):A:=
 (lw Tp a0.Starts
 (gi Tp a1.Starts
 (jp (.cn (!(((a0.Starts.getD (Int.toNat Tp) default).Routine).toList == ((a1.Starts.getD (Int.toNat Tp) default).Routine).toList))
 (.lf true)
 (.lf ((a0.Starts.getD (Int.toNat Tp) default).At != (a1.Starts.getD (Int.toNat Tp) default).At))) (fun b29=>
 (jp (.cn b29
 (.lf true)
 (.lf ((a0.Starts.getD (Int.toNat Tp) default).Every != (a1.Starts.getD (Int.toNat Tp) default).Every))) (fun b30=>
 (jp (.cn b30
 (.lf true)
 (.lf ((a0.Starts.getD (Int.toNat Tp) default).Until != (a1.Starts.getD (Int.toNat Tp) default).Until))) (fun b31=>
 (jb (.cn b31
 (.lf true)
 (.bd (Vb L ((a0.Starts.getD (Int.toNat Tp) default).Args) ((a1.Starts.getD (Int.toNat Tp) default).Args)) fun r33=>
 (.lf (!r33)))) (fun b32=>
 (cn b32
 (lf (0,false,Tp))
 (rec Lf (B6 (Tp+1)))))))))))))
 (lf (1,Lf,Tp)))
def I9(L:Nat)(a0:Aa)(a1:Aa):Nat→Bool→Int→Option Ln
 |0,_,_=>none
 |n+1,Lf,Tp=>Ua L a0 a1 (I9 L a0 a1 n) Lf Tp
theorem B6k(a0:Aa)(a1:Aa):LP (EV (O34 L) L 9 c34.x.w.u.l.u.l.l) [0,1,2,3,4,5,6,7,8,9,10,11,14] [2,3] (Bsj a0 a1) [.ret,.exit 8] (fun n v=>I9 L a0 a1 n v.1 v.2) K:=lE (fun _=>rfl) fun n v ih=>eE (Ua L a0 a1 (fun Lf Tp=>re (ih (Lf,Tp))) v.1 v.2)
def Bsk(a0:Aa)(a1:Aa)(v:U4):St:=⟨[(0,.any),(1,.any),(2,.loc 2 0),(3,.loc 3 0),(4,B v.1),(5,.any),(6,.any),(7,.any),(8,.any),(9,.any),(10,.any),(11,.any),(12,.any),(13,.any),(14,I v.2)],[(2,(Af a0)),(3,(Af a1))],0⟩
def Ub [An A Ln](a0:Aa)(a1:Aa)(rec:Bool→Int→A)(Lg:Bool)(Zr:Int):A:=
 (lw Zr a0.Laws
 (gi Zr a1.Laws
 (bd (Xq L (a0.Laws.getD (Int.toNat Zr) default) (a1.Laws.getD (Int.toNat Zr) default)) fun r35=>
 (cn (!r35)
 (lf (0,false,Zr))
 (rec Lg (B6 (Zr+1))))))
 (lf (1,Lg,Zr)))
def Ja(L:Nat)(a0:Aa)(a1:Aa):Nat→Bool→Int→Option Ln
 |0,_,_=>none
 |n+1,Lg,Zr=>Ub L a0 a1 (Ja L a0 a1 n) Lg Zr
theorem B6l(a0:Aa)(a1:Aa):LP (EV (O34 L) L 9 c34.x.x.l.u.l.l) [0,1,2,3,4,5,6,7,8,9,10,11,12,13,14] [2,3] (Bsk a0 a1) [.ret,.exit 10] (fun n v=>Ja L a0 a1 n v.1 v.2) K:=lE (fun _=>rfl) fun n v ih=>eE (Ub L a0 a1 (fun Lg Zr=>re (ih (Lg,Zr))) v.1 v.2)
def P5 [An A Bool](L:Nat)(o36:Nat×U4):A:=
 (sl o36.1 [(lf o36.2.1),
 (lf true)])
def Bp5:Ax:=(Av 10 (Bb (EV (O34 L) L 9 c34.x.x.r) (Cm Tryz.prog (RS Tryz.f34) kk)))
theorem Cgm(a0:Aa)(a1:Aa)(o36:Nat×U4):kX [.ret,.exit 10] (Bsk a0 a1) (Bp5 L kk) o36=ob (P5 L o36) (kQ B kk):=eE (P5 L o36)
def Uw [An A Bool](L:Nat)(a0:Aa)(a1:Aa)(o34:Nat×U4)(nx6:Ln→A):A:=
 (sl o34.1 [(lf o34.2.1),
 (nx6 o34)])
def Uk [An A Bool](a0:Aa)(a1:Aa)(o34:Nat×U4):A:=Uw L a0 a1 o34 (fun o34=>bd (Ja L a0 a1 L o34.2.1 0) fun o36=>P5 L o36)
def Bp4:Ax:=(Av 8 (Bb (EV (O34 L) L 9 c34.x.w.u.r) (Cm Tryz.prog (RS Tryz.f34) kk)))
theorem Cgl(a0:Aa)(a1:Aa)(o34:Nat×U4):kX [.ret,.exit 8] (Bsj a0 a1) (Bp4 L kk) o34=ob (Uk L a0 a1 o34) (kQ B kk):=eE (Uw L a0 a1 o34 (fun o34=>ho (B6l L (Bp5 L kk) a0 a1 L (o34.2.1,0)) fun o36=>Cgm L kk a0 a1 o36))
def Uv [An A Bool](L:Nat)(a0:Aa)(a1:Aa)(o28:Nat×U4)(nx5:Ln→A):A:=
 (sl o28.1 [(lf o28.2.1),
 (nx5 o28)])
def Uj [An A Bool](a0:Aa)(a1:Aa)(o28:Nat×U4):A:=Uv L a0 a1 o28 (fun o28=>bd (I9 L a0 a1 L o28.2.1 0) fun o34=>Uk L a0 a1 o34)
def Bp3:Ax:=(Av 6 (Bb (EV (O34 L) L 9 c34.x.w.r) (Cm Tryz.prog (RS Tryz.f34) kk)))
theorem Cgk(a0:Aa)(a1:Aa)(o28:Nat×U4):kX [.ret,.exit 6] (Bsi a0 a1) (Bp3 L kk) o28=ob (Uj L a0 a1 o28) (kQ B kk):=eE (Uv L a0 a1 o28 (fun o28=>ho (B6k L (Bp4 L kk) a0 a1 L (o28.2.1,0)) fun o34=>Cgl L kk a0 a1 o34))
def Uu [An A Bool](L:Nat)(a0:Aa)(a1:Aa)(o21:Nat×U4)(nx4:Ln→A):A:=
 (sl o21.1 [(lf o21.2.1),
 (nx4 o21)])
def Ui [An A Bool](a0:Aa)(a1:Aa)(o21:Nat×U4):A:=Uu L a0 a1 o21 (fun o21=>bd (I8 L a0 a1 L o21.2.1 0) fun o28=>Uj L a0 a1 o28)
def Bp2:Ax:=(Av 4 (Bb (EV (O34 L) L 9 c34.x.u.r) (Cm Tryz.prog (RS Tryz.f34) kk)))
theorem Cgj(a0:Aa)(a1:Aa)(o21:Nat×U4):kX [.ret,.exit 4] (Bsh a0 a1) (Bp2 L kk) o21=ob (Ui L a0 a1 o21) (kQ B kk):=eE (Uu L a0 a1 o21 (fun o21=>ho (B6j L (Bp3 L kk) a0 a1 L (o21.2.1,0)) fun o28=>Cgk L kk a0 a1 o28))
def Ut [An A Bool](L:Nat)(a0:Aa)(a1:Aa)(o20:Nat×U4)(nx3:Ln→A):A:=
 (sl o20.1 [(lf o20.2.1),
 (nx3 o20)])
def Uh [An A Bool](a0:Aa)(a1:Aa)(o20:Nat×U4):A:=Ut L a0 a1 o20 (fun o20=>bd (I7 L a0 a1 L o20.2.1 0) fun o21=>Ui L a0 a1 o21)
def Bp1:Ax:=(Av 2 (Bb (EV (O34 L) L 9 c34.x.r) (Cm Tryz.prog (RS Tryz.f34) kk)))
theorem Cgi(a0:Aa)(a1:Aa)(o20:Nat×U4):kX [.ret,.exit 2] (Bsg a0 a1) (Bp1 L kk) o20=ob (Uh L a0 a1 o20) (kQ B kk):=eE (Ut L a0 a1 o20 (fun o20=>ho (B6i L (Bp2 L kk) a0 a1 L (o20.2.1,0)) fun o21=>Cgj L kk a0 a1 o21))
def Us [An A Bool](L:Nat)(a0:Aa)(a1:Aa)(o19:Nat×U4)(nx2:Ln→A):A:=
 (sl o19.1 [(lf o19.2.1),
 (nx2 o19)])
def Ug [An A Bool](a0:Aa)(a1:Aa)(o19:Nat×U4):A:=Us L a0 a1 o19 (fun o19=>bd (I6 L a0 a1 L o19.2.1 0) fun o20=>Uh L a0 a1 o20)
def Bp0:Ax:=(Av 0 (Bb (EV (O34 L) L 9 c34.w.u.r) (Cm Tryz.prog (RS Tryz.f34) kk)))
theorem Cgh(a0:Aa)(a1:Aa)(o19:Nat×U4):kX [.ret,.exit 0] (Bsf a0 a1) (Bp0 L kk) o19=ob (Ug L a0 a1 o19) (kQ B kk):=eE (Us L a0 a1 o19 (fun o19=>ho (B6h L (Bp1 L kk) a0 a1 L (o19.2.1,0)) fun o20=>Cgi L kk a0 a1 o20))
def Ur [An A Bool](a0:Aa)(a1:Aa)(nx1:A):A:=
 (jb (.cn (!(a0.Name.toList == a1.Name.toList))
 (.lf true)
 (.bd (Rc L a0.Vars a1.Vars) fun r2=>
 (.lf (!r2)))) (fun b1=>
 (jp (.cn b1
 (.lf true)
 (.lf ((a0.Resources.length:Int) != (a1.Resources.length:Int)))) (fun b3=>
 (jp (.cn b3
 (.lf true)
 (.lf ((a0.Stores.length:Int) != (a1.Stores.length:Int)))) (fun b4=>
 (jp (.cn b4
 (.lf true)
 (.lf ((a0.Belts.length:Int) != (a1.Belts.length:Int)))) (fun b5=>
 (jp (.cn b5
 (.lf true)
 (.lf ((a0.Routines.length:Int) != (a1.Routines.length:Int)))) (fun b6=>
 (jp (.cn b6
 (.lf true)
 (.lf ((a0.Starts.length:Int) != (a1.Starts.length:Int)))) (fun b7=>
 (jp (.cn b7
 (.lf true)
 (.lf ((a0.Laws.length:Int) != (a1.Laws.length:Int)))) (fun b8=>
 (cn b8
 (lf false)
 (bd (Js L a0.Queues a1.Queues) fun r9=>
 (jb (.cn (!r9)
 (.lf true)
 (.bd (Js L a0.Streams a1.Streams) fun r11=>
 (.lf (!r11)))) (fun b10=>
 (jb (.cn b10
 (.lf true)
 (.bd (Js L a0.Tallies a1.Tallies) fun r13=>
 (.lf (!r13)))) (fun b12=>
 (jb (.cn b12
 (.lf true)
 (.bd (Js L a0.Levels a1.Levels) fun r15=>
 (.lf (!r15)))) (fun b14=>
 (jb (.cn b14
 (.lf true)
 (.bd (Js L a0.Counts a1.Counts) fun r17=>
 (.lf (!r17)))) (fun b16=>
 (cn b16
 (lf false)
 nx1)))))))))))))))))))))))))
def Amo [An A Bool](a0:Aa)(a1:Aa):A:=Ur L a0 a1 (bd (I5 L a0 a1 L false 0) fun o19=>Ug L a0 a1 o19)
def Va(a0:Aa)(a1:Aa):Option Bool:=Amo L a0 a1
def X34:Ew:=E2 B 34 B8 B8 (Va L) fun a0 a1 r h=>hF Tryz.func34 (C:=O34 L) (oS _) L (fun kk=>eE (Ur L a0 a1 (ho (B6g L (Bp0 L kk) a0 a1 L (false,0)) fun o19=>Cgh L kk a0 a1 o19))) h
def c10:=CC Tryz.f10
def O10:Ba:=oL [X33 L,X34 L]
def Br5(a0:Ac)(a1:Ac)(v:U4):St:=⟨[(0,.any),(1,.any),(2,.loc 2 0),(3,.loc 3 0),(4,B v.1),(5,I v.2),(6,.any)],[(2,(Aq a0)),(3,(Aq a1))],0⟩
def Abm [An A Ln](a0:Ac)(a1:Ac)(rec:Bool→Int→A)(Al:Bool)(Aj:Int):A:=
 (lw Aj a0.Sites
 (gi Aj a1.Sites
 (bd (Va L (a0.Sites.getD (Int.toNat Aj) default) (a1.Sites.getD (Int.toNat Aj) default)) fun r5=>
 (cn (!r5)
 (lf (0,false,Aj))
 (rec Al (B6 (Aj+1))))))
 (lf (1,Al,Aj)))
def Qj(L:Nat)(a0:Ac)(a1:Ac):Nat→Bool→Int→Option Ln
 |0,_,_=>none
 |n+1,Al,Aj=>Abm L a0 a1 (Qj L a0 a1 n) Al Aj
theorem B53(a0:Ac)(a1:Ac):LP (EV (O10 L) L 9 c10.w.l.u.l.l) [0,1,2,3,4,5,6] [2,3] (Br5 a0 a1) [.ret,.exit 0] (fun n v=>Qj L a0 a1 n v.1 v.2) K:=lE (fun _=>rfl) fun n v ih=>eE (Abm L a0 a1 (fun Al Aj=>re (ih (Al,Aj))) v.1 v.2)
def Br6(a0:Ac)(a1:Ac)(v:U4):St:=⟨[(0,.any),(1,.any),(2,.loc 2 0),(3,.loc 3 0),(4,B v.1),(5,.any),(6,I v.2)],[(2,(Aq a0)),(3,(Aq a1))],0⟩
def Abn [An A Ln](L:Nat)(a0:Ac)(a1:Ac)(rec:Bool→Int→A)(Bl:Bool)(Bv:Int):A:=
 (lw Bv a0.Links
 (gi Bv a1.Links
 (cn (!(((a0.Links.getD (Int.toNat Bv) default).From == (a1.Links.getD (Int.toNat Bv) default).From) && (((a0.Links.getD (Int.toNat Bv) default).To == (a1.Links.getD (Int.toNat Bv) default).To) && (((a0.Links.getD (Int.toNat Bv) default).Delay == (a1.Links.getD (Int.toNat Bv) default).Delay) && true))))
 (lf (0,false,Bv))
 (rec Bl (B6 (Bv+1)))))
 (lf (1,Bl,Bv)))
def Qk(L:Nat)(a0:Ac)(a1:Ac):Nat→Bool→Int→Option Ln
 |0,_,_=>none
 |n+1,Bl,Bv=>Abn L a0 a1 (Qk L a0 a1 n) Bl Bv
theorem B54(a0:Ac)(a1:Ac):LP (EV (O10 L) L 9 c10.w.u.l.u.l.l) [0,1,2,3,4,5,6] [2,3] (Br6 a0 a1) [.ret,.exit 2] (fun n v=>Qk L a0 a1 n v.1 v.2) K:=lE (fun _=>rfl) fun n v ih=>eE (Abn L a0 a1 (fun Bl Bv=>re (ih (Bl,Bv))) v.1 v.2)
def X1 [An A Bool](L:Nat)(o7:Nat×U4):A:=
 (sl o7.1 [(lf o7.2.1),
 (lf true)])
def Bpo:Ax:=(Av 2 (Bb (EV (O10 L) L 9 c10.w.u.r) (Cm Tryz.prog (RS Tryz.f10) kk)))
theorem Cf5(a0:Ac)(a1:Ac)(o7:Nat×U4):kX [.ret,.exit 2] (Br6 a0 a1) (Bpo L kk) o7=ob (X1 L o7) (kQ B kk):=eE (X1 L o7)
def Aby [An A Bool](L:Nat)(a0:Ac)(a1:Ac)(o6:Nat×U4)(nx2:Ln→A):A:=
 (sl o6.1 [(lf o6.2.1),
 (nx2 o6)])
def Abs [An A Bool](a0:Ac)(a1:Ac)(o6:Nat×U4):A:=Aby L a0 a1 o6 (fun o6=>bd (Qk L a0 a1 L o6.2.1 0) fun o7=>X1 L o7)
def Bpn:Ax:=(Av 0 (Bb (EV (O10 L) L 9 c10.w.r) (Cm Tryz.prog (RS Tryz.f10) kk)))
theorem Cf4(a0:Ac)(a1:Ac)(o6:Nat×U4):kX [.ret,.exit 0] (Br5 a0 a1) (Bpn L kk) o6=ob (Abs L a0 a1 o6) (kQ B kk):=eE (Aby L a0 a1 o6 (fun o6=>ho (B54 L (Bpo L kk) a0 a1 L (o6.2.1,0)) fun o7=>Cf5 L kk a0 a1 o7))
def Abx [An A Bool](a0:Ac)(a1:Ac)(nx1:A):A:=
 (jb (.cn (!(a0.Name.toList == a1.Name.toList))
 (.lf true)
 (.bd (Rc L a0.Params a1.Params) fun r2=>
 (.lf (!r2)))) (fun b1=>
 (jp (.cn b1
 (.lf true)
 (.lf ((a0.Sites.length:Int) != (a1.Sites.length:Int)))) (fun b3=>
 (jp (.cn b3
 (.lf true)
 (.lf ((a0.Links.length:Int) != (a1.Links.length:Int)))) (fun b4=>
 (cn b4
 (lf false)
 nx1)))))))
def A1z [An A Bool](a0:Ac)(a1:Ac):A:=Abx L a0 a1 (bd (Qj L a0 a1 L false 0) fun o6=>Abs L a0 a1 o6)
def Aef(a0:Ac)(a1:Ac):Option Bool:=A1z L a0 a1
def X10:Ew:=E2 B 10 Cq Cq (Aef L) fun a0 a1 r h=>hF Tryz.func10 (C:=O10 L) (oS _) L (fun kk=>eE (Abx L a0 a1 (ho (B53 L (Bpn L kk) a0 a1 L (false,0)) fun o6=>Cf4 L kk a0 a1 o6))) h
end
end Go.Proofs.YtofcpkmnhmnfcaaGreatR.Ev
