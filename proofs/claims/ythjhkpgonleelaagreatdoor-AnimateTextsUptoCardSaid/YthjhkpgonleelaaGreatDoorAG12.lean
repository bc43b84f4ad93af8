import Derived.Test.YthjhkpgonleelaaGreatDoorAG9
import Derived.Test.YthjhkpgonleelaaGreatDoorAG11
namespace Go.Proofs.YthjhkpgonleelaaGreatDoor.Ev
open Go An
set_option maxRecDepth 100000
set_option maxHeartbeats 4000000
set_option linter.unusedVariables false
set_option linter.unusedSimpArgs false
set_option linter.unnecessarySimpa false
noncomputable section
variable {A:Type} (L n:Nat) (kk:Cc) (K:Bg) (k:Bu)
def c34:=CC Tryz.f34
def O34:Bi:=oL [X30 L,X53 L]
def Bd0(a1:Int)(a0:Ac)(a2:Ay)(v:Tu6):St:=⟨[(0,.any),(1,I a1),(2,.any),(3,.loc 3 0),(5,.loc 5 0),(6,I v.1),(7,I v.2.1),(8,I v.2.2),(9,.any),(25,.any),(46,.any),(51,.any)],[(3,(Bh a0)),(5,(Oe a2))],0⟩
def d3 [An A (Nat×Tu6)](a1:Int)(a0:Ac)(a2:Ay)(rec:Int→Int→Int→A)(Aw:Int)(Ao:Int)(Ag:Int):A:=
 (lw Ag a2.Instrs
 (bd (Amd L (⟨a0.Name,a0.Sites,a0.Links⟩:Ac) a1 a2 (⟨(a2.Instrs.getD (Int.toNat Ag) default).Op,(a2.Instrs.getD (Int.toNat Ag) default).A,(a2.Instrs.getD (Int.toNat Ag) default).B,(a2.Instrs.getD (Int.toNat Ag) default).C,(Ab.cp ((a2.Instrs.getD (Int.toNat Ag) default).E)),(Ab.cp ((a2.Instrs.getD (Int.toNat Ag) default).F)),(a2.Instrs.getD (Int.toNat Ag) default).Args,((a2.Instrs.getD (Int.toNat Ag) default).Dist),(a2.Instrs.getD (Int.toNat Ag) default).Flag⟩:Bm)) fun r6=>
 (cn (r6 != 0)
 (lf (0,r6,r6,Ag))
 (rec Aw r6 (Bo (Ag+1)))))
 (lf (1,Aw,Ao,Ag)))
def Oj(L:Nat)(a1:Int)(a0:Ac)(a2:Ay):Nat→Int→Int→Int→Option (Nat×Tu6)
 |0,_,_,_=>none
 |n+1,Aw,Ao,Ag=>d3 L a1 a0 a2 (Oj L a1 a0 a2 n) Aw Ao Ag
theorem Bn8(a1:Int)(a0:Ac)(a2:Ay):LP (EV (O34 L) L 9 c34.x.u.l.u.l.l) [0,1,2,3,5,6,7,8,9,25,46,51] [3,5] (Bd0 a1 a0 a2) [.ret,.exit 1] (fun n v=>Oj L a1 a0 a2 n v.1 v.2.1 v.2.2) K:=lE (fun _=>rfl) fun n v ih=>eE (d3 L a1 a0 a2 (fun Aw Ao Ag=>re (ih (Aw,Ao,Ag))) v.1 v.2.1 v.2.2)
def Ow [An A Int](L:Nat)(a2:Ay)(o7:Nat×Tu6):A:=
 (sl o7.1 [(lf o7.2.1),
 (gi (Bo ((a2.Instrs.length:Int) - 1)) a2.Instrs
 (jp (.cn ((a2.Instrs.getD (Int.toNat (Bo ((a2.Instrs.length:Int) - 1))) default).Op != 19)
 (.lf ((a2.Instrs.getD (Int.toNat (Bo ((a2.Instrs.length:Int) - 1))) default).Op != 4))
 (.lf false)) (fun b8=>
 (cn b8
 (lf 8)
 (lf 0)))))])
def Bbu:Bg:=(Bb 1 (Bp (EV (O34 L) L 9 c34.x.u.r) (Ct Tryz.prog (RS Tryz.f34) kk)))
theorem Bwa(a1:Int)(a0:Ac)(a2:Ay)(o7:Nat×Tu6):kX [.ret,.exit 1] (Bd0 a1 a0 a2) (Bbu L kk) o7=ob (Ow L a2 o7) (kQ I kk):=eE (Ow L a2 o7)
def l5 [An A Int](a0:Ac)(a1:Int)(a2:Ay)(nx1:Int→A):A:=
 (jp (.cn (decide (a1 < 0))
 (.lf true)
 (.lf (decide (a1≥(a0.Sites.length:Int))))) (fun b1=>
 (cn b1
 (lf 2)
 (bd (Gz L a2.Name) fun r2=>
 (cn (r2 != 0)
 (lf r2)
 (jp (.cn (decide (a2.Params < 0))
 (.lf true)
 (.lf (decide (a2.Params > a2.Slots)))) (fun b3=>
 (jp (.cn b3
 (.lf true)
 (.lf (decide (a2.Params > 6)))) (fun b4=>
 (jp (.cn b4
 (.lf true)
 (.lf (decide (a2.Slots > 16)))) (fun b5=>
 (cn b5
 (lf 2)
 (cn ((a2.Instrs.length:Int) == 0)
 (lf 7)
 (cn (decide ((a2.Instrs.length:Int) > 1000))
 (lf 6)
 (nx1 r2)))))))))))))))
def Arl [An A Int](a0:Ac)(a1:Int)(a2:Ay):A:=l5 L a0 a1 a2 (fun r2=>bd (Oj L a1 a0 a2 L 0 r2 0) fun o7=>Ow L a2 o7)
def Afp(a0:Ac)(a1:Int)(a2:Ay):Option Int:=Arl L a0 a1 a2
def X34:Di:=E3 I 34 B6 (cI .i64) Hc (Afp L) fun a0 a1 a2 r h=>hF Tryz.func34 (C:=O34 L) (oS _) L (fun kk=>eE (l5 L a0 a1 a2 (fun r2=>ho (Bn8 L (Bbu L kk) a1 a0 a2 L (0,r2,0)) fun o7=>Bwa L kk a1 a0 a2 o7))) h
def c18:=CC Tryz.f18
def O18:Bi:=oL [X30 L,X31 L,X32 L,X33 L,X34 L]
def Bdk(r2:Int)(Ao:Int)(a0:Ac)(v:C8):St:=⟨[(0,.any),(1,.loc 1 0),(2,I v.1),(3,I r2),(4,I Ao),(5,I v.2),(6,.any),(7,.any),(11,.any),(15,.any),(20,.any)],[(1,(Bh a0))],0⟩
def Ads [An A Cq](L:Nat)(r2:Int)(Ao:Int)(a0:Ac)(rec:Int→Int→A)(Cm:Int)(Bt:Int):A:=
 (cn (decide (Bt < Ao))
 (gi Bt a0.Sites
 (gi Ao a0.Sites
 (cn ((((a0.Sites.getD (Int.toNat Bt) default).Decl).Name).toList == (((a0.Sites.getD (Int.toNat Ao) default).Decl).Name).toList)
 (lf (0,4,Bt))
 (rec Cm (Bo (Bt+1))))))
 (lf (1,Cm,Bt)))
def Uv(L:Nat)(r2:Int)(Ao:Int)(a0:Ac):Nat→Int→Int→Option Cq
 |0,_,_=>none
 |n+1,Cm,Bt=>Ads L r2 Ao a0 (Uv L r2 Ao a0 n) Cm Bt
theorem Bnm(r2:Int)(Ao:Int)(a0:Ac):LP (EV (O18 L) L 9 c18.w.u.l.u.l.l.u.l.l.w.l.u.l.l) [0,1,2,3,4,5,6,7,11,15,20] [1] (Bdk r2 Ao a0) [.ret,.exit 3] (fun n v=>Uv L r2 Ao a0 n v.1 v.2) K:=lE (fun _=>rfl) fun n v ih=>eE (Ads L r2 Ao a0 (fun Cm Bt=>re (ih (Cm,Bt))) v.1 v.2)
def A1e(a0:Ac)(v:Tu6):St:=⟨[(0,.any),(1,.loc 1 0),(2,I v.1),(3,I v.2.1),(4,I v.2.2),(6,.any),(7,.any),(11,.any),(15,.any),(20,.any)],[(1,(Bh a0))],0⟩
def Vk [An A (Nat×Tu6)](r2:Int)(Ao:Int)(a0:Ac)(rec:Int→Int→Int→A)(o3:Nat×C8):A:=
 (sl o3.1 [(lf (0,o3.2.1,r2,Ao)),
 (gi Ao a0.Sites
 (bd (Apj L (⟨((a0.Sites.getD (Int.toNat Ao) default).Decl),(a0.Sites.getD (Int.toNat Ao) default).Routines⟩:Bz)) fun r4=>
 (cn (!r4)
 (lf (0,8,r2,Ao))
 (rec o3.2.1 r2 (Bo (Ao+1))))))])
def Aex [An A (Nat×Tu6)](a0:Ac)(rec:Int→Int→Int→A)(Ar:Int)(Aw:Int)(Ao:Int)(nx1:Int→Int→Int→A):A:=
 (lw Ao a0.Sites
 (bd (Al7 L (⟨a0.Name,[],[((a0.Sites.getD (Int.toNat Ao) default).Decl)],[]⟩:Ai)) fun r2=>
 (cn (r2 != 0)
 (lf (0,r2,r2,Ao))
 (nx1 r2 Ao Ar)))
 (lf (1,Ar,Aw,Ao)))
def Aqn [An A (Nat×Tu6)](a0:Ac)(rec:Int→Int→Int→A)(Ar:Int)(Aw:Int)(Ao:Int):A:=Aex L a0 rec Ar Aw Ao (fun r2 Ao Ar=>bd (Uv L r2 Ao a0 L Ar 0) fun o3=>Vk L r2 Ao a0 rec o3)
def M7(L:Nat)(a0:Ac):Nat→Int→Int→Int→Option (Nat×Tu6)
 |0,_,_,_=>none
 |n+1,Ar,Aw,Ao=>Aqn L a0 (M7 L a0 n) Ar Aw Ao
def A81(a0:Ac):Prop:=LI (EV (O18 L) L 9 c18.w.u.l.u.l.l) [0,1,2,3,4,6,7,11,15,20] [1] (A1e a0) [.ret,.exit 1] (fun n v=>M7 L a0 n v.1 v.2.1 v.2.2) K n
def Ba5:Bg:=(Bb 3 (Bp (EV (O18 L) L 9 c18.w.u.l.u.l.l.u.l.l.w.r) (Bb 2 (Bp (EV (O18 L) L 9 c18.w.u.l.u.l.l.u.r) (D4 (Ep (EV (O18 L) L 9 c18.w.u.l.u.l.l) [0,1,2,3,4,6,7,11,15,20] [1] n) [0,1,2,3,4,6,7,11,15,20] [1] K)))))
theorem Bvk(r2:Int)(Ao:Int)(a0:Ac)(ih:A81 L n K a0)(o3:Nat×C8):kX [.ret,.exit 3] (Bdk r2 Ao a0) (Ba5 L n K) o3=ob (Vk L r2 Ao a0 (M7 L a0 n) o3) (kX [.ret,.exit 1] (A1e a0) K):=eE (Vk L r2 Ao a0 (fun Ar Aw Ao=>re (ih (Ar,Aw,Ao))) o3)
theorem Bnl(a0:Ac):∀n,A81 L n K a0:=lE (fun _=>rfl) fun n v ih=>eE (Aex L a0 (fun Ar Aw Ao=>re (ih (Ar,Aw,Ao))) v.1 v.2.1 v.2.2 (fun r2 Ao Ar=>ho (Bnm L (Ba5 L n K) r2 Ao a0 L (Ar,0)) fun o3=>Bvk L n K r2 Ao a0 ih o3))
def Bdl(o5:Nat×Tu6)(Ii:Int)(a0:Ac)(v:C8):St:=⟨[(0,.any),(1,.loc 1 0),(2,I o5.2.1),(3,I v.1),(4,.any),(5,.any),(6,I Ii),(7,I v.2),(11,.any),(15,.any),(20,.any)],[(1,(Bh a0))],0⟩
def Adt [An A Cq](o5:Nat×Tu6)(Ii:Int)(a0:Ac)(rec:Int→Int→A)(Gy:Int)(Gq:Int):A:=
 (gi Ii a0.Sites
 (cn (decide (Gq < (((a0.Sites.getD (Int.toNat Ii) default).Routines).length:Int)))
 (cn (Gy == 0)
 (gi Ii a0.Sites
 (gi Gq ((a0.Sites.getD (Int.toNat Ii) default).Routines)
 (bd (Afp L (⟨a0.Name,a0.Sites,a0.Links⟩:Ac) Ii (((a0.Sites.getD (Int.toNat Ii) default).Routines).getD (Int.toNat Gq) default)) fun r7=>
 (rec r7 (Bo (Gq+1))))))
 (rec Gy (Bo (Gq+1))))
 (lf (0,Gy,Gq))))
def Uw(L:Nat)(o5:Nat×Tu6)(Ii:Int)(a0:Ac):Nat→Int→Int→Option Cq
 |0,_,_=>none
 |n+1,Gy,Gq=>Adt L o5 Ii a0 (Uw L o5 Ii a0 n) Gy Gq
theorem Bno(o5:Nat×Tu6)(Ii:Int)(a0:Ac):LP (EV (O18 L) L 9 c18.x.u.l.u.l.l.u.l.l.u.l.l) [0,1,2,3,4,5,6,7,11,15,20] [1] (Bdl o5 Ii a0) [.exit 7] (fun n v=>Uw L o5 Ii a0 n v.1 v.2) K:=lE (fun _=>rfl) fun n v ih=>eE (Adt L o5 Ii a0 (fun Gy Gq=>re (ih (Gy,Gq))) v.1 v.2)
def A1f(o5:Nat×Tu6)(a0:Ac)(v:C8):St:=⟨[(0,.any),(1,.loc 1 0),(2,I o5.2.1),(3,I v.1),(4,.any),(5,.any),(6,I v.2),(11,.any),(15,.any),(20,.any)],[(1,(Bh a0))],0⟩
def Vl [An A Cq](L:Nat)(Ii:Int)(rec:Int→Int→A)(o8:Nat×C8):A:=
 (sl o8.1 [(rec o8.2.1 (Bo (Ii+1)))])
def Aez [An A Cq](L:Nat)(o5:Nat×Tu6)(a0:Ac)(rec:Int→Int→A)(Gu:Int)(Ii:Int)(nx3:Int→Int→A):A:=
 (cn (decide (Ii < (a0.Sites.length:Int)))
 (nx3 Ii Gu)
 (lf (0,Gu,Ii)))
def Aqo [An A Cq](o5:Nat×Tu6)(a0:Ac)(rec:Int→Int→A)(Gu:Int)(Ii:Int):A:=Aez L o5 a0 rec Gu Ii (fun Ii Gu=>bd (Uw L o5 Ii a0 L Gu 0) fun o8=>Vl L Ii rec o8)
def M8(L:Nat)(o5:Nat×Tu6)(a0:Ac):Nat→Int→Int→Option Cq
 |0,_,_=>none
 |n+1,Gu,Ii=>Aqo L o5 a0 (M8 L o5 a0 n) Gu Ii
def A82(o5:Nat×Tu6)(a0:Ac):Prop:=LI (EV (O18 L) L 9 c18.x.u.l.u.l.l) [0,1,2,3,4,5,6,11,15,20] [1] (A1f o5 a0) [.exit 5] (fun n v=>M8 L o5 a0 n v.1 v.2) K n
def Ba7:Bg:=(Bb 7 (Bb 6 (Bp (EV (O18 L) L 9 c18.x.u.l.u.l.l.u.r) (D4 (Ep (EV (O18 L) L 9 c18.x.u.l.u.l.l) [0,1,2,3,4,5,6,11,15,20] [1] n) [0,1,2,3,4,5,6,11,15,20] [1] K))))
theorem Bvm(o5:Nat×Tu6)(Ii:Int)(a0:Ac)(ih:A82 L n K o5 a0)(o8:Nat×C8):kX [.exit 7] (Bdl o5 Ii a0) (Ba7 L n K) o8=ob (Vl L Ii (M8 L o5 a0 n) o8) (kX [.exit 5] (A1f o5 a0) K):=eE (Vl L Ii (fun Gu Ii=>re (ih (Gu,Ii))) o8)
theorem Bnn(o5:Nat×Tu6)(a0:Ac):∀n,A82 L n K o5 a0:=lE (fun _=>rfl) fun n v ih=>eE (Aez L o5 a0 (fun Gu Ii=>re (ih (Gu,Ii))) v.1 v.2 (fun Ii Gu=>ho (Bno L (Ba7 L n K) o5 Ii a0 L (Gu,0)) fun o8=>Bvm L n K o5 Ii a0 ih o8))
def Vm [An A Int](L:Nat)(o9:Nat×C8):A:=
 (sl o9.1 [(lf o9.2.1)])
def Ba8:Bg:=(Bb 5 (Bp (EV (O18 L) L 9 c18.x.u.r) (Ct Tryz.prog (RS Tryz.f18) kk)))
theorem Bvn(o5:Nat×Tu6)(a0:Ac)(o9:Nat×C8):kX [.exit 5] (A1f o5 a0) (Ba8 L kk) o9=ob (Vm L o9) (kQ I kk):=eE (Vm L o9)
def Ae0 [An A Int](a0:Ac)(o5:Nat×Tu6)(nx4:(Nat×Tu6)→Int→A):A:=
 (sl o5.1 [(lf o5.2.1),
 (bd (Api L (⟨a0.Name,a0.Sites,a0.Links⟩:Ac)) fun r6=>
 (nx4 o5 r6))])
def Aea [An A Int](a0:Ac)(o5:Nat×Tu6):A:=Ae0 L a0 o5 (fun o5 r6=>bd (M8 L o5 a0 L r6 0) fun o9=>Vm L o9)
def Ba6:Bg:=(Bb 1 (Bp (EV (O18 L) L 9 c18.w.u.r) (Ct Tryz.prog (RS Tryz.f18) kk)))
theorem Bvl(a0:Ac)(o5:Nat×Tu6):kX [.ret,.exit 1] (A1e a0) (Ba6 L kk) o5=ob (Aea L a0 o5) (kQ I kk):=eE (Ae0 L a0 o5 (fun o5 r6=>ho (Bnn L (Ba8 L kk) o5 a0 L (r6,0)) fun o9=>Bvn L kk o5 a0 o9))
def Aey [An A Int](a0:Ac)(nx2:Int→A):A:=
 (bd (Gz L a0.Name) fun r1=>
 (cn (r1 != 0)
 (lf r1)
 (cn ((a0.Sites.length:Int) == 0)
 (lf 7)
 (cn (decide ((a0.Sites.length:Int) > 16))
 (lf 6)
 (nx2 r1)))))
def Awk [An A Int](a0:Ac):A:=Aey L a0 (fun r1=>bd (M7 L a0 L 0 r1 0) fun o5=>Aea L a0 o5)
def V5(a0:Ac):Option Int:=Awk L a0
def X18:Di:=E1 I 18 B6 (V5 L) fun a0 r h=>hF Tryz.func18 (C:=O18 L) (oS _) L (fun kk=>eE (Aey L a0 (fun r1=>ho (Bnl L (Ba6 L kk) a0 L (0,r1,0)) fun o5=>Bvl L kk a0 o5))) h
def Amw [An A Bool](L:Nat)(a0:Int):A:=
 (jp (.cn (decide (a0≥1))
 (.lf (decide (a0≤1000)))
 (.lf false)) (fun b1=>
 (lf b1)))
def V7(a0:Int):Option Bool:=Amw L a0
def X67:Di:=E1 B 67 (cI .i64) (V7 L) fun a0 r h=>hF Tryz.func67 (oS []) L (fun kk=>eE (Amw L a0)) h
end
end Go.Proofs.YthjhkpgonleelaaGreatDoor.Ev
