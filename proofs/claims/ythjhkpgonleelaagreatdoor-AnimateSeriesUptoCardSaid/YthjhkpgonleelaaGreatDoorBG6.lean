import Derived.Test.YthjhkpgonleelaaGreatDoorBG1
import Derived.Test.YthjhkpgonleelaaGreatDoorBG5
namespace Go.Proofs.YthjhkpgonleelaaGreatDoor.Ev
open Go An
set_option maxRecDepth 100000
set_option maxHeartbeats 4000000
set_option linter.unusedVariables false
set_option linter.unusedSimpArgs false
set_option linter.unnecessarySimpa false
noncomputable section
variable {A:Type} (L n:Nat) (kk:Ep) (K:Ci) (k:Bn)
def Ayn(F:Ar→Ab→Option Bool):Prop:=∀y0 y1 r,F y0 y1=some r→Ho Tryz.prog 128 [Ot.en y0,Cw.en y1] B r
def Akp:=CC Tryz.f166
def Bkf:=CC Tryz.f196
def Av2:=CC Tryz.f128
def Pz(Ay:Ar→Ab→Option Bool)(L:Nat):Bt:=(orc 128 (A2 B Ot Cw Ay) (oL [Bet L,Bez L]))
theorem Bpf(Ay:Ar→Ab→Option Bool)(A5x:Ayn Ay)(L:Nat):Ed Tryz.prog (Pz Ay L):=(Mu (a2 _ A5x) (oS [Bet L,Bez L]))
def Aeb(Ay:Ar→Ab→Option Bool)(L:Nat)(kk:Ep):Ci:=(Bz (EV (Pz Ay L) L 9 Av2.w.u.r) (Kb Tryz.prog (RS Tryz.f128) kk))
def A1r(p1_0:List Ab)(p1_1:Ar)(p1_2:Ab)(v:L1):St:=⟨[(0,lv (.t98 p1_0)),(1,.clo 167 0 [.loc 2 0]),(4,I v.1),(7,I (p1_0.length:Int)),(8,I v.2)],[(2,(Dl p1_1)),(3,(Dc p1_2))],1004⟩
def Ll [An A Hl](Ay:Ar→Ab→Option Bool)(L:Nat)(p1_0:List Ab)(p1_1:Ar)(p1_2:Ab)(rec:Int→Int→A)(Bg:Int)(Am:Int):A:=
 (lw Am p1_0
 (bd (Ay (⟨(⟨p1_1.u_p.Name,p1_1.u_p.Sites,p1_1.u_p.Links⟩:Ad),p1_1.u_site,p1_1.u_c⟩:Ar) (Ab.cp (p1_0.getD (Int.toNat Am) default))) fun r2=>
 (cn (!r2)
 (lf (0,Am,Am))
 (rec Bg (Bi (Am+1)))))
 (lf (1,Bg,Am)))
def Ey(Ay:Ar→Ab→Option Bool)(L:Nat)(p1_0:List Ab)(p1_1:Ar)(p1_2:Ab):Nat→Int→Int→Option Hl
 |0,_,_=>none
 |n+1,Bg,Am=>Ll Ay L p1_0 p1_1 p1_2 (Ey Ay L p1_0 p1_1 p1_2 n) Bg Am
theorem Bbb(Ay:Ar→Ab→Option Bool)(L:Nat)(K:Ci)(p1_0:List Ab)(p1_1:Ar)(p1_2:Ab):LP (EV (Pz Ay L) L 7 Bkf.u.l.u.l.l) [0,1,4,7,8] [2,3] (A1r p1_0 p1_1 p1_2) [.ret,.exit 0] (fun n v=>Ey Ay L p1_0 p1_1 p1_2 n v.1 v.2) K:=lE (fun _=>rfl) fun n v ih=>eE (Ll Ay L p1_0 p1_1 p1_2 (fun Bg Am=>re (ih (Bg,Am))) v.1 v.2)
def j6(p1_0:List Ab)(p1_1:Ar)(p1_2:Ab)(k:Bn):Int→Prop:=fun o=>k (I o) [(2,(Dl p1_1)),(3,(Dc p1_2))]
def Ls [An A Int](Ay:Ar→Ab→Option Bool)(L:Nat)(o3:Nat×L1):A:=
 (sl o3.1 [(lf o3.2.1),
 (lf (-1))])
def Azo(Ay:Ar→Ab→Option Bool)(L:Nat)(k:Bn):Ci:=(Bs 0 (Bz (EV (Pz Ay L) L 7 Bkf.u.r) (Dg Tryz.prog (RS Tryz.f196) k)))
theorem Bg2(Ay:Ar→Ab→Option Bool)(L:Nat)(k:Bn)(p1_0:List Ab)(p1_1:Ar)(p1_2:Ab)(o3:Nat×L1):kX [.ret,.exit 0] (A1r p1_0 p1_1 p1_2) (Azo Ay L k) o3=ob (Ls Ay L o3) (j6 p1_0 p1_1 p1_2 k):=eE (Ls Ay L o3)
def Xp [An A Int](Ay:Ar→Ab→Option Bool)(L:Nat)(p1_0:List Ab)(p1_1:Ar)(p1_2:Ab):A:=(bd (Ey Ay L p1_0 p1_1 p1_2 L 0 0) fun o3=>Ls Ay L o3)
def Dm(Ay:Ar→Ab→Option Bool)(L:Nat)(p1_0:List Ab)(p1_1:Ar)(p1_2:Ab):Option Int:=Xp Ay L p1_0 p1_1 p1_2
theorem Aea(Ay:Ar→Ab→Option Bool)(L:Nat)(k:Bn)(p1_0:List Ab)(p1_1:Ar)(p1_2:Ab):YO (Pz Ay L) L 8 196 [lv (.t98 p1_0),.clo 167 0 [.loc 2 0]] [(2,(Dl p1_1)),(3,(Dc p1_2))] k=ob (Dm Ay L p1_0 p1_1 p1_2) (j6 p1_0 p1_1 p1_2 k):=(C6 _ _ _ y9 _ _ _ _ _ _ _).trans (eE ((ho (Bbb Ay L (Azo Ay L k) p1_0 p1_1 p1_2 L (0,0)) fun o3=>Bg2 Ay L k p1_0 p1_1 p1_2 o3)))
def H9 [An A Bool](Ay:Ar→Ab→Option Bool)(L:Nat)(o9:Int):A:=
 (nq (lf (!(decide (o9≥0)))))
def Azp(Ay:Ar→Ab→Option Bool)(L:Nat)(kk:Ep)(a1:Ab)(a0:Ar)(r1:Bool):Bn:=(Bx Tryz.prog (Pz Ay L) (EI (Pz Ay L) L 8) 2 (List.drop 3 Akp.u.l.ops) ⟨[(6,.clo 167 0 [.loc 2 0]),(5,lv (.t98 a1.Kids)),(0,lv (.t98 a1.Kids)),(1,.clo 167 0 [.loc 2 0]),(4,B false)],[(2,(Dl a0)),(3,(Dc a1))],1004⟩ (some 7) (fun st9=>(Bz (EV (Pz Ay L) L 8 Akp.u.r) (Dg Tryz.prog (RS Tryz.f166) (Bx Tryz.prog (Pz Ay L) (EI (Pz Ay L) L 9) 3 (List.drop 6 Av2.w.u.l.ops) ⟨[(43,B true),(46,.clo 167 0 [.loc 2 0]),(43,B true),(45,lv (.t98 a1.Kids)),(43,B true),(44,.loc 3 3),(43,B true),(43,B r1),(42,B r1),(2,.loc 2 0),(3,.loc 3 0),(4,B false),(5,B r1)],[(2,(Dl a0)),(3,(Dc a1))],0⟩ (some 47) (fun st9=>(Aeb Ay L kk) .normal st9)))) .normal st9))
theorem Bg3(Ay:Ar→Ab→Option Bool)(L:Nat)(kk:Ep)(a1:Ab)(a0:Ar)(r1:Bool)(o9:Int):j6 a1.Kids a0 a1 (Azp Ay L kk a1 a0 r1) o9=ob (H9 Ay L o9) (kQ B kk):=eE (H9 Ay L o9)
def Ia [An A Bool](Ay:Ar→Ab→Option Bool)(L:Nat)(o10:Int):A:=
 (nq (lf (!(decide (o10≥0)))))
def Azq(Ay:Ar→Ab→Option Bool)(L:Nat)(kk:Ep)(a1:Ab)(a0:Ar)(r4:Bool):Bn:=(Bx Tryz.prog (Pz Ay L) (EI (Pz Ay L) L 8) 2 (List.drop 3 Akp.u.l.ops) ⟨[(6,.clo 167 0 [.loc 2 0]),(5,lv (.t98 a1.Kids)),(0,lv (.t98 a1.Kids)),(1,.clo 167 0 [.loc 2 0]),(4,B false)],[(2,(Dl a0)),(3,(Dc a1))],1004⟩ (some 7) (fun st9=>(Bz (EV (Pz Ay L) L 8 Akp.u.r) (Dg Tryz.prog (RS Tryz.f166) (Bx Tryz.prog (Pz Ay L) (EI (Pz Ay L) L 9) 3 (List.drop 6 Av2.w.u.l.ops) ⟨[(43,B true),(46,.clo 167 0 [.loc 2 0]),(43,B true),(45,lv (.t98 a1.Kids)),(43,B true),(44,.loc 3 3),(43,B true),(43,B r4),(42,B r4),(2,.loc 2 0),(3,.loc 3 0),(4,B false),(5,B r4)],[(2,(Dl a0)),(3,(Dc a1))],0⟩ (some 47) (fun st9=>(Aeb Ay L kk) .normal st9)))) .normal st9))
theorem Bg4(Ay:Ar→Ab→Option Bool)(L:Nat)(kk:Ep)(a1:Ab)(a0:Ar)(r4:Bool)(o10:Int):j6 a1.Kids a0 a1 (Azq Ay L kk a1 a0 r4) o10=ob (Ia Ay L o10) (kQ B kk):=eE (Ia Ay L o10)
def Ib [An A Bool](Ay:Ar→Ab→Option Bool)(L:Nat)(o11:Int):A:=
 (nq (lf (!(decide (o11≥0)))))
def Azr(Ay:Ar→Ab→Option Bool)(L:Nat)(kk:Ep)(a1:Ab)(a0:Ar)(r5:Bool):Bn:=(Bx Tryz.prog (Pz Ay L) (EI (Pz Ay L) L 8) 2 (List.drop 3 Akp.u.l.ops) ⟨[(6,.clo 167 0 [.loc 2 0]),(5,lv (.t98 a1.Kids)),(0,lv (.t98 a1.Kids)),(1,.clo 167 0 [.loc 2 0]),(4,B false)],[(2,(Dl a0)),(3,(Dc a1))],1004⟩ (some 7) (fun st9=>(Bz (EV (Pz Ay L) L 8 Akp.u.r) (Dg Tryz.prog (RS Tryz.f166) (Bx Tryz.prog (Pz Ay L) (EI (Pz Ay L) L 9) 3 (List.drop 6 Av2.w.u.l.ops) ⟨[(43,B true),(46,.clo 167 0 [.loc 2 0]),(43,B true),(45,lv (.t98 a1.Kids)),(43,B true),(44,.loc 3 3),(43,B true),(43,B r5),(42,B r5),(2,.loc 2 0),(3,.loc 3 0),(4,B false),(5,B r5)],[(2,(Dl a0)),(3,(Dc a1))],0⟩ (some 47) (fun st9=>(Aeb Ay L kk) .normal st9)))) .normal st9))
theorem Bg5(Ay:Ar→Ab→Option Bool)(L:Nat)(kk:Ep)(a1:Ab)(a0:Ar)(r5:Bool)(o11:Int):j6 a1.Kids a0 a1 (Azr Ay L kk a1 a0 r5) o11=ob (Ib Ay L o11) (kQ B kk):=eE (Ib Ay L o11)
def Ic [An A Bool](Ay:Ar→Ab→Option Bool)(L:Nat)(o12:Int):A:=
 (nq (lf (!(decide (o12≥0)))))
def Azs(Ay:Ar→Ab→Option Bool)(L:Nat)(kk:Ep)(a1:Ab)(a0:Ar)(r6:Bool):Bn:=(Bx Tryz.prog (Pz Ay L) (EI (Pz Ay L) L 8) 2 (List.drop 3 Akp.u.l.ops) ⟨[(6,.clo 167 0 [.loc 2 0]),(5,lv (.t98 a1.Kids)),(0,lv (.t98 a1.Kids)),(1,.clo 167 0 [.loc 2 0]),(4,B false)],[(2,(Dl a0)),(3,(Dc a1))],1004⟩ (some 7) (fun st9=>(Bz (EV (Pz Ay L) L 8 Akp.u.r) (Dg Tryz.prog (RS Tryz.f166) (Bx Tryz.prog (Pz Ay L) (EI (Pz Ay L) L 9) 3 (List.drop 6 Av2.w.u.l.ops) ⟨[(43,B true),(46,.clo 167 0 [.loc 2 0]),(43,B true),(45,lv (.t98 a1.Kids)),(43,B true),(44,.loc 3 3),(43,B true),(43,B r6),(42,B r6),(2,.loc 2 0),(3,.loc 3 0),(4,B false),(5,B r6)],[(2,(Dl a0)),(3,(Dc a1))],0⟩ (some 47) (fun st9=>(Aeb Ay L kk) .normal st9)))) .normal st9))
theorem Bg6(Ay:Ar→Ab→Option Bool)(L:Nat)(kk:Ep)(a1:Ab)(a0:Ar)(r6:Bool)(o12:Int):j6 a1.Kids a0 a1 (Azs Ay L kk a1 a0 r6) o12=ob (Ic Ay L o12) (kQ B kk):=eE (Ic Ay L o12)
def Ie [An A Bool](Ay:Ar→Ab→Option Bool)(L:Nat)(o13:Int):A:=
 (nq (lf (!(decide (o13≥0)))))
def Azt(Ay:Ar→Ab→Option Bool)(L:Nat)(kk:Ep)(a1:Ab)(a0:Ar)(r7:Int)(r8:Int):Bn:=(Bx Tryz.prog (Pz Ay L) (EI (Pz Ay L) L 8) 2 (List.drop 3 Akp.u.l.ops) ⟨[(6,.clo 167 0 [.loc 2 0]),(5,lv (.t98 a1.Kids)),(0,lv (.t98 a1.Kids)),(1,.clo 167 0 [.loc 2 0]),(4,B false)],[(2,(Dl a0)),(3,(Dc a1))],1004⟩ (some 7) (fun st9=>(Bz (EV (Pz Ay L) L 8 Akp.u.r) (Dg Tryz.prog (RS Tryz.f166) (Bx Tryz.prog (Pz Ay L) (EI (Pz Ay L) L 9) 3 (List.drop 6 Av2.w.u.l.ops) ⟨[(43,B true),(46,.clo 167 0 [.loc 2 0]),(43,B true),(45,lv (.t98 a1.Kids)),(43,B true),(44,.loc 3 3),(43,B true),(43,B (decide (a1.N < (Bi (r7+r8))))),(42,B (decide (a1.N < (Bi (r7+r8))))),(2,.loc 2 0),(3,.loc 3 0),(4,B false),(5,B (decide (a1.N < (Bi (r7+r8)))))],[(2,(Dl a0)),(3,(Dc a1))],0⟩ (some 47) (fun st9=>(Aeb Ay L kk) .normal st9)))) .normal st9))
theorem Bg7(Ay:Ar→Ab→Option Bool)(L:Nat)(kk:Ep)(a1:Ab)(a0:Ar)(r7:Int)(r8:Int)(o13:Int):j6 a1.Kids a0 a1 (Azt Ay L kk a1 a0 r7 r8) o13=ob (Ie Ay L o13) (kQ B kk):=eE (Ie Ay L o13)
def Ig [An A Bool](Ay:Ar→Ab→Option Bool)(L:Nat)(o14:Int):A:=
 (nq (lf (!(decide (o14≥0)))))
def Azu(Ay:Ar→Ab→Option Bool)(L:Nat)(kk:Ep)(a1:Ab)(a0:Ar):Bn:=(Bx Tryz.prog (Pz Ay L) (EI (Pz Ay L) L 8) 2 (List.drop 3 Akp.u.l.ops) ⟨[(6,.clo 167 0 [.loc 2 0]),(5,lv (.t98 a1.Kids)),(0,lv (.t98 a1.Kids)),(1,.clo 167 0 [.loc 2 0]),(4,B false)],[(2,(Dl a0)),(3,(Dc a1))],1004⟩ (some 7) (fun st9=>(Bz (EV (Pz Ay L) L 8 Akp.u.r) (Dg Tryz.prog (RS Tryz.f166) (Bx Tryz.prog (Pz Ay L) (EI (Pz Ay L) L 9) 3 (List.drop 6 Av2.w.u.l.ops) ⟨[(43,B true),(46,.clo 167 0 [.loc 2 0]),(43,B true),(45,lv (.t98 a1.Kids)),(43,B true),(44,.loc 3 3),(43,B true),(43,B true),(42,B true),(2,.loc 2 0),(3,.loc 3 0),(4,B false),(5,B true)],[(2,(Dl a0)),(3,(Dc a1))],0⟩ (some 47) (fun st9=>(Aeb Ay L kk) .normal st9)))) .normal st9))
theorem Bg8(Ay:Ar→Ab→Option Bool)(L:Nat)(kk:Ep)(a1:Ab)(a0:Ar)(o14:Int):j6 a1.Kids a0 a1 (Azu Ay L kk a1 a0) o14=ob (Ig Ay L o14) (kQ B kk):=eE (Ig Ay L o14)
def Ly [An A Bool](Ay:Ar→Ab→Option Bool)(L:Nat)(a0:Ar)(a1:Ab)(nx3:Bool→A)(nx4:Bool→A)(nx5:Bool→A)(nx6:Bool→A)(nx7:Int→Int→A)(nx8:A):A:=
 (cn (a1.Op == 25)
 (bd (Cu L (⟨(⟨a0.u_p.Name,a0.u_p.Sites,a0.u_p.Links⟩:Ad),a0.u_site,a0.u_c⟩:Ar) 1 a1.N 0) fun r1=>
 (cn r1
 (nx3 r1)
 (nq (lf false))))
 (cn (a1.Op == 26)
 (bd (Cu L (⟨(⟨a0.u_p.Name,a0.u_p.Sites,a0.u_p.Links⟩:Ad),a0.u_site,a0.u_c⟩:Ar) 2 a1.N 0) fun r4=>
 (cn r4
 (nx4 r4)
 (nq (lf false))))
 (cn (a1.Op == 22)
 (bd (Cu L (⟨(⟨a0.u_p.Name,a0.u_p.Sites,a0.u_p.Links⟩:Ad),a0.u_site,a0.u_c⟩:Ar) 5 a1.N 0) fun r5=>
 (cn r5
 (nx5 r5)
 (nq (lf false))))
 (cn (a1.Op == 23)
 (bd (Cu L (⟨(⟨a0.u_p.Name,a0.u_p.Sites,a0.u_p.Links⟩:Ad),a0.u_site,a0.u_c⟩:Ar) 6 a1.N 0) fun r6=>
 (cn r6
 (nx6 r6)
 (nq (lf false))))
 (cn (a1.Op == 24)
 (bd (F2 L (⟨(⟨a0.u_p.Name,a0.u_p.Sites,a0.u_p.Links⟩:Ad),a0.u_site,a0.u_c⟩:Ar) 5 0) fun r7=>
 (bd (F2 L (⟨(⟨a0.u_p.Name,a0.u_p.Sites,a0.u_p.Links⟩:Ad),a0.u_site,a0.u_c⟩:Ar) 8 0) fun r8=>
 (cn (decide (a1.N < (Bi (r7+r8))))
 (nx7 r7 r8)
 (nq (lf false)))))
 nx8)))))
def j9 [An A Bool](Ay:Ar→Ab→Option Bool)(L:Nat)(a0:Ar)(a1:Ab):A:=Ly Ay L a0 a1 (fun r1=>bd (Dm Ay L a1.Kids a0 a1) fun o9=>H9 Ay L o9) (fun r4=>bd (Dm Ay L a1.Kids a0 a1) fun o10=>Ia Ay L o10) (fun r5=>bd (Dm Ay L a1.Kids a0 a1) fun o11=>Ib Ay L o11) (fun r6=>bd (Dm Ay L a1.Kids a0 a1) fun o12=>Ic Ay L o12) (fun r7 r8=>bd (Dm Ay L a1.Kids a0 a1) fun o13=>Ie Ay L o13) (bd (Dm Ay L a1.Kids a0 a1) fun o14=>Ig Ay L o14)
def Tt(Ay:Ar→Ab→Option Bool)(L:Nat)(a0:Ar)(a1:Ab):Option Bool:=j9 Ay L a0 a1
theorem Bn0(Ay:Ar→Ab→Option Bool)(A5x:Ayn Ay)(L:Nat):Ayn (Tt Ay L):=fun a0 a1 r h=>hF Tryz.func128 (Bpf Ay A5x L) L (fun kk=>eE (Ly Ay L a0 a1 (fun r1=>ho (Aea Ay L (Azp Ay L kk a1 a0 r1) a1.Kids a0 a1) fun o9=>Bg3 Ay L kk a1 a0 r1 o9) (fun r4=>ho (Aea Ay L (Azq Ay L kk a1 a0 r4) a1.Kids a0 a1) fun o10=>Bg4 Ay L kk a1 a0 r4 o10) (fun r5=>ho (Aea Ay L (Azr Ay L kk a1 a0 r5) a1.Kids a0 a1) fun o11=>Bg5 Ay L kk a1 a0 r5 o11) (fun r6=>ho (Aea Ay L (Azs Ay L kk a1 a0 r6) a1.Kids a0 a1) fun o12=>Bg6 Ay L kk a1 a0 r6 o12) (fun r7 r8=>ho (Aea Ay L (Azt Ay L kk a1 a0 r7 r8) a1.Kids a0 a1) fun o13=>Bg7 Ay L kk a1 a0 r7 r8 o13) (ho (Aea Ay L (Azu Ay L kk a1 a0) a1.Kids a0 a1) fun o14=>Bg8 Ay L kk a1 a0 o14))) h
def Cx:Nat→Ar→Ab→Option Bool
 |0,_,_=>none
 |L+1,a0,a1=>Tt (Cx L) L a0 a1
theorem A90(L:Nat):Ayn (Cx L):=by
 induction L with
 |zero=>exact fun _ _ _ h=>(by cases h)
 |succ L ih=>
  have i128:=ih
  exact Bn0 (Cx L) i128 L
def Bne(L:Nat):Qi:=E2 B 128 Ot Cw (Cx L) (A90 L)
def c64:=CC Tryz.f64
def O64:Bt:=oL [Bja L,Bna L,Bet L,Bnb L,Bnc L,Bnd L,Bne L,Beu L]
def Awv:Ci:=(Bs 4 (Bz (EV (O64 L) L 9 c64.x.w.r) (Kb Tryz.prog (RS Tryz.f64) kk)))
def Ar9(r9:List Ab)(a0:Ar)(a1:Bm)(v:L1):St:=⟨[(0,.any),(1,.any),(2,.loc 2 0),(3,.loc 3 0),(4,I v.1),(5,.loc 5 0),(6,.any),(7,.any),(8,.any),(42,.any),(44,.any),(101,lv (.t98 r9)),(102,I (r9.length:Int)),(103,I v.2)],[(2,(Dl a0)),(3,(Adh a1)),(5,(Aj7 (Z1.getD (Int.toNat a1.Op) default)))],0⟩
def Kt [An A Hl](r9:List Ab)(a0:Ar)(a1:Bm)(rec:Int→Int→A)(Au:Int)(Am:Int):A:=
 (lw Am r9
 (bd (Hr L (Ab.cp (r9.getD (Int.toNat Am) default))) fun r10=>
 (cn (r10 != 0)
 (lf (0,r10,Am))
 (bd (Cx L (⟨(⟨a0.u_p.Name,a0.u_p.Sites,a0.u_p.Links⟩:Ad),a0.u_site,a0.u_c⟩:Ar) (Ab.cp (r9.getD (Int.toNat Am) default))) fun r11=>
 (cn (!r11)
 (lf (0,2,Am))
 (rec Au (Bi (Am+1)))))))
 (lf (1,Au,Am)))
def Ct(L:Nat)(r9:List Ab)(a0:Ar)(a1:Bm):Nat→Int→Int→Option Hl
 |0,_,_=>none
 |n+1,Au,Am=>Kt L r9 a0 a1 (Ct L r9 a0 a1 n) Au Am
theorem Aww(r9:List Ab)(a0:Ar)(a1:Bm):LP (EV (O64 L) L 9 c64.x.w.l.u.l.l) [0,1,2,3,4,5,6,7,8,42,44,101,102,103] [2,3,5] (Ar9 r9 a0 a1) [.ret,.exit 4] (fun n v=>Ct L r9 a0 a1 n v.1 v.2) K:=lE (fun _=>rfl) fun n v ih=>eE (Kt L r9 a0 a1 (fun Au Am=>re (ih (Au,Am))) v.1 v.2)
def Oz [An A Int](a1:Bm)(o17:Nat×L1):A:=
 (sl o17.1 [(lf o17.2.1),
 (cn ((Z1.getD (Int.toNat a1.Op) default).u_dist)
 (bd (Em L a1.Dist) fun r18=>
 (lf r18))
 (lf 0))])
def A6v:Ci:=(Awv L kk)
theorem Blt(r9:List Ab)(a0:Ar)(a1:Bm)(o17:Nat×L1):kX [.ret,.exit 4] (Ar9 r9 a0 a1) (A6v L kk) o17=ob (Oz L a1 o17) (kQ I kk):=eE (Oz L a1 o17)
def O0 [An A Int](a1:Bm)(o19:Nat×L1):A:=
 (sl o19.1 [(lf o19.2.1),
 (cn ((Z1.getD (Int.toNat a1.Op) default).u_dist)
 (bd (Em L a1.Dist) fun r20=>
 (lf r20))
 (lf 0))])
def A6w:Ci:=(Awv L kk)
theorem Blu(r13:List Ab)(a0:Ar)(a1:Bm)(o19:Nat×L1):kX [.ret,.exit 4] (Ar9 r13 a0 a1) (A6w L kk) o19=ob (O0 L a1 o19) (kQ I kk):=eE (O0 L a1 o19)
def Kv [An A Int](a1:Bm)(o21:Nat×L1):A:=
 (sl o21.1 [(lf o21.2.1),
 (cn ((Z1.getD (Int.toNat a1.Op) default).u_dist)
 (bd (Em L a1.Dist) fun r22=>
 (lf r22))
 (lf 0))])
def A6x:Ci:=(Awv L kk)
theorem Blv(r16:List Ab)(a0:Ar)(a1:Bm)(o21:Nat×L1):kX [.ret,.exit 4] (Ar9 r16 a0 a1) (A6x L kk) o21=ob (Kv L a1 o21) (kQ I kk):=eE (Kv L a1 o21)
def O1 [An A Int](a0:Ar)(a1:Bm)(nx1:(List Ab)→A)(nx2:(List Ab)→A)(nx3:(List Ab)→A):A:=
 (bd (Tx L a1.Op) fun r1=>
 (jb (.cn (!r1)
 (.lf true)
 (.bd (Tw L (⟨a1.Op,a1.A,a1.B,a1.C,(Ab.cp a1.E),(Ab.cp a1.F),a1.Args,a1.Dist,a1.Flag⟩:Bm)) fun r3=>
 (.lf (!r3)))) (fun b2=>
 (cn b2
 (lf 1)
 (gi a1.Op Z1
 (bd (Cu L (⟨(⟨a0.u_p.Name,a0.u_p.Sites,a0.u_p.Links⟩:Ad),a0.u_site,a0.u_c⟩:Ar) ((Z1.getD (Int.toNat a1.Op) default).u_a) a1.A 0) fun r4=>
 (jp (.cn (!r4)
 (.lf ((Z1.getD (Int.toNat a1.Op) default).u_a != 0))
 (.lf false)) (fun b5=>
 (cn b5
 (lf 2)
 (cn (a1.Op == 14)
 (bd (Zm L (⟨a0.u_p.Name,a0.u_p.Sites,a0.u_p.Links⟩:Ad) a0.u_site a1.A) fun r6=>
 (jp (.cn (!r6.2)
 (.lf true)
 (.lf (r6.1 != a1.C))) (fun b7=>
 (cn b7
 (lf 16)
 (bd (Cu L (⟨(⟨a0.u_p.Name,a0.u_p.Sites,a0.u_p.Links⟩:Ad),a0.u_site,a0.u_c⟩:Ar) 10 a1.B a1.A) fun r8=>
 (cn (!r8)
 (lf 2)
 (gi a1.A a0.u_p.Sites
 (gi a1.B ((a0.u_p.Sites.getD (Int.toNat a1.A) default).Routines)
 (cn ((a1.Args.length:Int) != (((a0.u_p.Sites.getD (Int.toNat a1.A) default).Routines).getD (Int.toNat a1.B) default).Params)
 (lf 8)
 (bd (Ec L (⟨a1.Op,a1.A,a1.B,a1.C,(Ab.cp a1.E),(Ab.cp a1.F),a1.Args,a1.Dist,a1.Flag⟩:Bm)) fun r9=>
 (nx1 r9)))))))))))
 (cn (a1.Op == 15)
 (bd (Cu L (⟨(⟨a0.u_p.Name,a0.u_p.Sites,a0.u_p.Links⟩:Ad),a0.u_site,a0.u_c⟩:Ar) 10 a1.B a0.u_site) fun r12=>
 (cn (!r12)
 (lf 2)
 (gi a0.u_site a0.u_p.Sites
 (gi a1.B ((a0.u_p.Sites.getD (Int.toNat a0.u_site) default).Routines)
 (cn ((a1.Args.length:Int) != (((a0.u_p.Sites.getD (Int.toNat a0.u_site) default).Routines).getD (Int.toNat a1.B) default).Params)
 (lf 8)
 (bd (Ec L (⟨a1.Op,a1.A,a1.B,a1.C,(Ab.cp a1.E),(Ab.cp a1.F),a1.Args,a1.Dist,a1.Flag⟩:Bm)) fun r13=>
 (nx2 r13)))))))
 (jb (.cn ((Z1.getD (Int.toNat a1.Op) default).u_b != 0)
 (.bd (Cu L (⟨(⟨a0.u_p.Name,a0.u_p.Sites,a0.u_p.Links⟩:Ad),a0.u_site,a0.u_c⟩:Ar) ((Z1.getD (Int.toNat a1.Op) default).u_b) a1.B 0) fun r15=>
 (.lf (!r15)))
 (.lf false)) (fun b14=>
 (cn b14
 (lf 2)
 (bd (Ec L (⟨a1.Op,a1.A,a1.B,a1.C,(Ab.cp a1.E),(Ab.cp a1.F),a1.Args,a1.Dist,a1.Flag⟩:Bm)) fun r16=>
 (nx3 r16))))))))))))))))
def Zr [An A Int](a0:Ar)(a1:Bm):A:=O1 L a0 a1 (fun r9=>bd (Ct L r9 a0 a1 L 0 0) fun o17=>Oz L a1 o17) (fun r13=>bd (Ct L r13 a0 a1 L 0 0) fun o19=>O0 L a1 o19) (fun r16=>bd (Ct L r16 a0 a1 L 0 0) fun o21=>Kv L a1 o21)
def Hq(a0:Ar)(a1:Bm):Option Int:=Zr L a0 a1
def X64:Qi:=E2 I 64 Ot Abs (Hq L) fun a0 a1 r h=>hF Tryz.func64 (C:=O64 L) (oS _) L (fun kk=>eE (O1 L a0 a1 (fun r9=>ho (Aww L (A6v L kk) r9 a0 a1 L (0,0)) fun o17=>Blt L kk r9 a0 a1 o17) (fun r13=>ho (Aww L (A6w L kk) r13 a0 a1 L (0,0)) fun o19=>Blu L kk r13 a0 a1 o19) (fun r16=>ho (Aww L (A6x L kk) r16 a0 a1 L (0,0)) fun o21=>Blv L kk r16 a0 a1 o21))) h
def c39:=CC Tryz.f39
def O39:Bt:=oL [X35 L,X64 L]
def A72(a2:Bu)(a0:Ad)(a1:Int)(v:L1):St:=⟨[(0,.any),(1,.any),(2,.any),(3,.any),(5,.loc 5 0),(6,I v.1),(7,.any),(8,.loc 8 0),(12,.any),(28,.any),(49,.any),(54,.any),(64,lv (.t100 a2.Instrs)),(65,I (a2.Instrs.length:Int)),(66,I v.2)],[(3,(B4 a0)),(5,(Aff a2)),(8,[S a0.Name,lv (.t69 a0.Sites),lv (.t127 a0.Links),I a1,S a2.Name,I a2.Params,I a2.Slots,lv (.t100 a2.Instrs)])],0⟩
def O6 [An A Hl](a2:Bu)(a0:Ad)(a1:Int)(rec:Int→Int→A)(Au:Int)(Am:Int):A:=
 (lw Am a2.Instrs
 (bd (Hq L (⟨(⟨a0.Name,a0.Sites,a0.Links⟩:Ad),a1,a2⟩:Ar) (⟨(a2.Instrs.getD (Int.toNat Am) default).Op,(a2.Instrs.getD (Int.toNat Am) default).A,(a2.Instrs.getD (Int.toNat Am) default).B,(a2.Instrs.getD (Int.toNat Am) default).C,(Ab.cp ((a2.Instrs.getD (Int.toNat Am) default).E)),(Ab.cp ((a2.Instrs.getD (Int.toNat Am) default).F)),(a2.Instrs.getD (Int.toNat Am) default).Args,((a2.Instrs.getD (Int.toNat Am) default).Dist),(a2.Instrs.getD (Int.toNat Am) default).Flag⟩:Bm)) fun r6=>
 (cn (r6 != 0)
 (lf (0,r6,Am))
 (rec Au (Bi (Am+1)))))
 (lf (1,Au,Am)))
def Gs(L:Nat)(a2:Bu)(a0:Ad)(a1:Int):Nat→Int→Int→Option Hl
 |0,_,_=>none
 |n+1,Au,Am=>O6 L a2 a0 a1 (Gs L a2 a0 a1 n) Au Am
theorem Bgf(a2:Bu)(a0:Ad)(a1:Int):LP (EV (O39 L) L 9 c39.x.u.l.u.l.l) [0,1,2,3,5,6,7,8,12,28,49,54,64,65,66] [3,5,8] (A72 a2 a0 a1) [.ret,.exit 1] (fun n v=>Gs L a2 a0 a1 n v.1 v.2) K:=lE (fun _=>rfl) fun n v ih=>eE (O6 L a2 a0 a1 (fun Au Am=>re (ih (Au,Am))) v.1 v.2)
def Lr [An A Int](L:Nat)(a2:Bu)(o7:Nat×L1):A:=
 (sl o7.1 [(lf o7.2.1),
 (gi (Bi ((a2.Instrs.length:Int) - 1)) a2.Instrs
 (jp (.cn ((a2.Instrs.getD (Int.toNat (Bi ((a2.Instrs.length:Int) - 1))) default).Op != 19)
 (.lf ((a2.Instrs.getD (Int.toNat (Bi ((a2.Instrs.length:Int) - 1))) default).Op != 4))
 (.lf false)) (fun b8=>
 (cn b8
 (lf 8)
 (lf 0)))))])
def A6r:Ci:=(Bs 1 (Bz (EV (O39 L) L 9 c39.x.u.r) (Kb Tryz.prog (RS Tryz.f39) kk)))
theorem Blp(a2:Bu)(a0:Ad)(a1:Int)(o7:Nat×L1):kX [.ret,.exit 1] (A72 a2 a0 a1) (A6r L kk) o7=ob (Lr L a2 o7) (kQ I kk):=eE (Lr L a2 o7)
def Pp [An A Int](a0:Ad)(a1:Int)(a2:Bu)(nx1:A):A:=
 (jp (.cn (decide (a1 < 0))
 (.lf true)
 (.lf (decide (a1≥(a0.Sites.length:Int))))) (fun b1=>
 (cn b1
 (lf 2)
 (bd (Cr L a2.Name) fun r2=>
 (cn (r2 != 0)
 (lf r2)
 (jp (.cn (decide (a2.Params < 0))
 (.lf true)
 (.lf (decide (a2.Params > a2.Slots)))) (fun b3=>
 (jp (.cn b3
 (.lf true)
 (.lf (decide (a2.Params > 6)))) (fun b4=>
 (jp (.cn b4
 (.lf true)
 (.lf (decide (a2.Slots > 16)))) (fun b5=>
 (cn b5
 (lf 2)
 (cn ((a2.Instrs.length:Int) == 0)
 (lf 7)
 (cn (decide ((a2.Instrs.length:Int) > 1000))
 (lf 6)
 nx1))))))))))))))
def Ac3 [An A Int](a0:Ad)(a1:Int)(a2:Bu):A:=Pp L a0 a1 a2 (bd (Gs L a2 a0 a1 L 0 0) fun o7=>Lr L a2 o7)
def Mh(a0:Ad)(a1:Int)(a2:Bu):Option Int:=Ac3 L a0 a1 a2
def X39:Qi:=E3 I 39 H5 (cI .i64) As0 (Mh L) fun a0 a1 a2 r h=>hF Tryz.func39 (C:=O39 L) (oS _) L (fun kk=>eE (Pp L a0 a1 a2 (ho (Bgf L (A6r L kk) a2 a0 a1 L (0,0)) fun o7=>Blp L kk a2 a0 a1 o7))) h
def c20:=CC Tryz.f20
def O20:Bt:=oL [X35 L,X36 L,X37 L,X38 L,X39 L]
def A7t(a0:Ad)(v:Y6):St:=⟨[(0,.any),(1,.loc 1 0),(2,I v.1),(3,.any),(4,.mp 30),(8,.any),(9,.any),(10,.any),(12,.any),(13,.any),(20,.any),(25,.any),(32,lv (.t69 a0.Sites)),(33,I (a0.Sites.length:Int)),(34,I v.2.1),(71,.any),(79,.any)],[(1,(B4 a0)),(30,[.mapO false false (.t9 v.2.2.1) (.t4 v.2.2.2)])],0⟩
def Sk [An A L5](a0:Ad)(rec:Int→Int→List ByteArray→List Bool→A)(Au:Int)(Am:Int)(Df:List ByteArray)(Bl:List Bool):A:=
 (lw Am a0.Sites
 (bd (Oo L (⟨a0.Name,[],[((a0.Sites.getD (Int.toNat Am) default).Decl)],[]⟩:Aq)) fun r2=>
 (cn (r2 != 0)
 (lf (0,r2,Am,Df,Bl))
 (fq (Df.findIdx? fun b=>((a0.Sites.getD (Int.toNat Am) default).Decl).Name == b) (fun i3=>
 (cn (Bl.getD i3 default)
 (lf (0,4,Am,Df,Bl))
 (bd (Jy L (⟨((a0.Sites.getD (Int.toNat Am) default).Decl),(a0.Sites.getD (Int.toNat Am) default).Routines⟩:Bk)) fun r4=>
 (cn (!r4)
 (lf (0,8,Am,Df,Bl))
 (fq (Df.findIdx? fun b=>((a0.Sites.getD (Int.toNat Am) default).Decl).Name == b) (fun i5=>
 (rec Au (Bi (Am+1)) Df (Bl.set i5 true)))
 (rec Au (Bi (Am+1)) (Df++ [((a0.Sites.getD (Int.toNat Am) default).Decl).Name]) (Bl++ [true])))))))
 (bd (Jy L (⟨((a0.Sites.getD (Int.toNat Am) default).Decl),(a0.Sites.getD (Int.toNat Am) default).Routines⟩:Bk)) fun r6=>
 (cn (!r6)
 (lf (0,8,Am,Df,Bl))
 (fq (Df.findIdx? fun b=>((a0.Sites.getD (Int.toNat Am) default).Decl).Name == b) (fun i7=>
 (rec Au (Bi (Am+1)) Df (Bl.set i7 true)))
 (rec Au (Bi (Am+1)) (Df++ [((a0.Sites.getD (Int.toNat Am) default).Decl).Name]) (Bl++ [true]))))))))
 (lf (1,Au,Am,Df,Bl)))
def Im(L:Nat)(a0:Ad):Nat→Int→Int→List ByteArray→List Bool→Option L5
 |0,_,_,_,_=>none
 |n+1,Au,Am,Df,Bl=>Sk L a0 (Im L a0 n) Au Am Df Bl
theorem Bf1(a0:Ad):LP (EV (O20 L) L 9 c20.x.l.u.l.l) [0,1,2,3,4,8,9,10,12,13,20,25,32,33,34,71,79] [1,30] (A7t a0) [.ret,.exit 1] (fun n v=>Im L a0 n v.1 v.2.1 v.2.2.1 v.2.2.2) K:=lE (fun _=>rfl) fun n v ih=>eE (Sk L a0 (fun Au Am Df Bl=>re (ih (Au,Am,Df,Bl))) v.1 v.2.1 v.2.2.1 v.2.2.2)
def A7u(Bw:Int)(a0:Ad)(o8:Nat×Y6)(v:L1):St:=⟨[(0,.any),(1,.loc 1 0),(2,I v.1),(3,.any),(4,.any),(6,.any),(7,.any),(8,.any),(9,I Bw),(10,.loc 10 0),(20,.any),(25,.any),(34,.any),(48,.any),(54,.any),(69,lv (.t69 a0.Sites)),(70,I (a0.Sites.length:Int)),(71,I Bw),(77,lv (.t78 ((a0.Sites.getD (Int.toNat Bw) default).Routines))),(78,I (((a0.Sites.getD (Int.toNat Bw) default).Routines).length:Int)),(79,I v.2)],[(1,(B4 a0)),(10,[S ((a0.Sites.getD (Int.toNat Bw) default).Decl).Name,lv (.t123 (((a0.Sites.getD (Int.toNat Bw) default).Decl).Vars)),lv (.t86 (((a0.Sites.getD (Int.toNat Bw) default).Decl).Resources)),lv (.t89 (((a0.Sites.getD (Int.toNat Bw) default).Decl).Stores)),lv (.t178 (((a0.Sites.getD (Int.toNat Bw) default).Decl).Belts)),lv (.t9 (((a0.Sites.getD (Int.toNat Bw) default).Decl).Queues)),lv (.t9 (((a0.Sites.getD (Int.toNat Bw) default).Decl).Streams)),lv (.t9 (((a0.Sites.getD (Int.toNat Bw) default).Decl).Tallies)),lv (.t9 (((a0.Sites.getD (Int.toNat Bw) default).Decl).Levels)),lv (.t9 (((a0.Sites.getD (Int.toNat Bw) default).Decl).Counts)),lv (.t93 (((a0.Sites.getD (Int.toNat Bw) default).Decl).Routines)),lv (.t150 (((a0.Sites.getD (Int.toNat Bw) default).Decl).Starts)),lv (.t154 (((a0.Sites.getD (Int.toNat Bw) default).Decl).Laws)),lv (.t78 ((a0.Sites.getD (Int.toNat Bw) default).Routines))]),(30,[.mapO false false (.t9 o8.2.2.2.1) (.t4 o8.2.2.2.2)])],0⟩
def Sl [An A Hl](Bw:Int)(a0:Ad)(o8:Nat×Y6)(rec:Int→Int→A)(Et:Int)(Asi:Int):A:=
 (lw Asi ((a0.Sites.getD (Int.toNat Bw) default).Routines)
 (bd (Mh L (⟨a0.Name,a0.Sites,a0.Links⟩:Ad) Bw (((a0.Sites.getD (Int.toNat Bw) default).Routines).getD (Int.toNat Asi) default)) fun r10=>
 (cn (r10 != 0)
 (lf (0,r10,Asi))
 (rec Et (Bi (Asi+1)))))
 (lf (1,Et,Asi)))
def Gy(L:Nat)(Bw:Int)(a0:Ad)(o8:Nat×Y6):Nat→Int→Int→Option Hl
 |0,_,_=>none
 |n+1,Et,Asi=>Sl L Bw a0 o8 (Gy L Bw a0 o8 n) Et Asi
theorem Bf3(Bw:Int)(a0:Ad)(o8:Nat×Y6):LP (EV (O20 L) L 9 c20.x.w.l.u.l.l.w.l.l.w.l.l) [0,1,2,3,4,6,7,8,9,10,20,25,34,48,54,69,70,71,77,78,79] [1,10,30] (A7u Bw a0 o8) [.ret,.exit 6] (fun n v=>Gy L Bw a0 o8 n v.1 v.2) K:=lE (fun _=>rfl) fun n v ih=>eE (Sl L Bw a0 o8 (fun Et Asi=>re (ih (Et,Asi))) v.1 v.2)
def Axk(a0:Ad)(o8:Nat×Y6)(v:L1):St:=⟨[(0,.any),(1,.loc 1 0),(2,I v.1),(3,.any),(4,.any),(6,.any),(7,.any),(8,.any),(20,.any),(25,.any),(34,.any),(48,.any),(54,.any),(69,lv (.t69 a0.Sites)),(70,I (a0.Sites.length:Int)),(71,I v.2)],[(1,(B4 a0)),(30,[.mapO false false (.t9 o8.2.2.2.1) (.t4 o8.2.2.2.2)])],0⟩
def N5 [An A Hl](L:Nat)(Bw:Int)(rec:Int→Int→A)(o11:Nat×L1):A:=
 (sl o11.1 [(lf (0,o11.2.1,Bw)),
 (rec o11.2.1 (Bi (Bw+1)))])
def S8 [An A Hl](L:Nat)(a0:Ad)(o8:Nat×Y6)(rec:Int→Int→A)(Cn:Int)(Bw:Int)(nx2:Int→Int→A):A:=
 (lw Bw a0.Sites
 (nx2 Bw Cn)
 (lf (1,Cn,Bw)))
def Ye [An A Hl](a0:Ad)(o8:Nat×Y6)(rec:Int→Int→A)(Cn:Int)(Bw:Int):A:=S8 L a0 o8 rec Cn Bw (fun Bw Cn=>bd (Gy L Bw a0 o8 L Cn 0) fun o11=>N5 L Bw rec o11)
def Gx(L:Nat)(a0:Ad)(o8:Nat×Y6):Nat→Int→Int→Option Hl
 |0,_,_=>none
 |n+1,Cn,Bw=>Ye L a0 o8 (Gx L a0 o8 n) Cn Bw
def A4h(a0:Ad)(o8:Nat×Y6):Prop:=LI (EV (O20 L) L 9 c20.x.w.l.u.l.l) [0,1,2,3,4,6,7,8,20,25,34,48,54,69,70,71] [1,30] (Axk a0 o8) [.ret,.exit 4] (fun n v=>Gx L a0 o8 n v.1 v.2) K n
def A6b:Ci:=(Bs 6 (Bs 5 (Bz (EV (O20 L) L 9 c20.x.w.l.u.l.l.w.r) (H6 (Kj (EV (O20 L) L 9 c20.x.w.l.u.l.l) [0,1,2,3,4,6,7,8,20,25,34,48,54,69,70,71] [1,30] n) [0,1,2,3,4,6,7,8,20,25,34,48,54,69,70,71] [1,30] K))))
theorem Bk9(Bw:Int)(a0:Ad)(o8:Nat×Y6)(ih:A4h L n K a0 o8)(o11:Nat×L1):kX [.ret,.exit 6] (A7u Bw a0 o8) (A6b L n K) o11=ob (N5 L Bw (Gx L a0 o8 n) o11) (kX [.ret,.exit 4] (Axk a0 o8) K):=eE (N5 L Bw (fun Cn Bw=>re (ih (Cn,Bw))) o11)
theorem Bf2(a0:Ad)(o8:Nat×Y6):∀n,A4h L n K a0 o8:=lE (fun _=>rfl) fun n v ih=>eE (S8 L a0 o8 (fun Cn Bw=>re (ih (Cn,Bw))) v.1 v.2 (fun Bw Cn=>ho (Bf3 L (A6b L n K) Bw a0 o8 L (Cn,0)) fun o11=>Bk9 L n K Bw a0 o8 ih o11))
def N6 [An A Int](L:Nat)(o12:Nat×L1):A:=
 (sl o12.1 [(lf o12.2.1),
 (lf 0)])
def A6c:Ci:=(Bs 4 (Bz (EV (O20 L) L 9 c20.x.w.r) (Kb Tryz.prog (RS Tryz.f20) kk)))
theorem Bla(a0:Ad)(o8:Nat×Y6)(o12:Nat×L1):kX [.ret,.exit 4] (Axk a0 o8) (A6c L kk) o12=ob (N6 L o12) (kQ I kk):=eE (N6 L o12)
def S9 [An A Int](a0:Ad)(o8:Nat×Y6)(nx3:L5→A):A:=
 (sl o8.1 [(lf o8.2.1),
 (bd (Xf L (⟨a0.Name,a0.Sites,a0.Links⟩:Ad)) fun r9=>
 (cn (r9 != 0)
 (lf r9)
 (nx3 o8)))])
def S2 [An A Int](a0:Ad)(o8:Nat×Y6):A:=S9 L a0 o8 (fun o8=>bd (Gx L a0 o8 L o8.2.1 0) fun o12=>N6 L o12)
def A6a:Ci:=(Bs 1 (Bz (EV (O20 L) L 9 c20.x.r) (Kb Tryz.prog (RS Tryz.f20) kk)))
theorem Bk8(a0:Ad)(o8:Nat×Y6):kX [.ret,.exit 1] (A7t a0) (A6a L kk) o8=ob (S2 L a0 o8) (kQ I kk):=eE (S9 L a0 o8 (fun o8=>ho (Bf2 L (A6c L kk) a0 o8 L (o8.2.1,0)) fun o12=>Bla L kk a0 o8 o12))
def S7 [An A Int](a0:Ad)(nx1:A):A:=
 (bd (Cr L a0.Name) fun r1=>
 (cn (r1 != 0)
 (lf r1)
 (cn ((a0.Sites.length:Int) == 0)
 (lf 7)
 (cn (decide ((a0.Sites.length:Int) > 16))
 (lf 6)
 nx1))))
def Agf [An A Int](a0:Ad):A:=S7 L a0 (bd (Im L a0 L 0 0 [] []) fun o8=>S2 L a0 o8)
def Nk(a0:Ad):Option Int:=Agf L a0
def X20:Qi:=E1 I 20 H5 (Nk L) fun a0 r h=>hF Tryz.func20 (C:=O20 L) (oS _) L (fun kk=>eE (S7 L a0 (ho (Bf1 L (A6a L kk) a0 L (0,0,[],[])) fun o8=>Bk8 L kk a0 o8))) h
def s8 [An A Bool](L:Nat)(a0:Ad)(a1:Int)(a2:Int):A:=
 (jp (.cn (decide (a1 < 0))
 (.lf true)
 (.lf (decide (a1≥(a0.Sites.length:Int))))) (fun b1=>
 (jp (.cn b1
 (.lf true)
 (.lf (decide (a2 < 0)))) (fun b2=>
 (jp (.cn b2
 (.lf true)
 (.lf (decide (a2 > 1000000000)))) (fun b3=>
 (lf b3)))))))
def L2(a0:Ad)(a1:Int)(a2:Int):Option Bool:=s8 L a0 a1 a2
def X21:Qi:=E3 B 21 H5 (cI .i64) (cI .i64) (L2 L) fun a0 a1 a2 r h=>hF Tryz.func21 (oS []) L (fun kk=>eE (s8 L a0 a1 a2)) h
end
end Go.Proofs.YthjhkpgonleelaaGreatDoor.Ev
