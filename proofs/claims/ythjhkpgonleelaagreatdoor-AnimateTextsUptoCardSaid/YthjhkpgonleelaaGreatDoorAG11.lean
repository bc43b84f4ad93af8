import Derived.Test.YthjhkpgonleelaaGreatDoorAG9
import Derived.Test.YthjhkpgonleelaaGreatDoorAG10
namespace Go.Proofs.YthjhkpgonleelaaGreatDoor.Ev
open Go An
set_option maxRecDepth 100000
set_option maxHeartbeats 4000000
set_option linter.unusedVariables false
set_option linter.unusedSimpArgs false
set_option linter.unnecessarySimpa false
noncomputable section
variable {A:Type} (L n:Nat) (kk:Cc) (K:Bg) (k:Bu)
def c77:=CC Tryz.f77
def O77(L:Nat):Bi:=oL []
def Bej(a1:ByteArray)(a0:Ai)(v:C8):St:=⟨[(0,.any),(1,S a1),(2,.loc 2 0),(4,I v.1),(5,I v.2)],[(2,(Bw a0))],0⟩
def Agb [An A Cq](L:Nat)(a1:ByteArray)(a0:Ai)(rec:Int→Int→A)(Aw:Int)(Ao:Int):A:=
 (lw Ao a0.Sites
 (cn (((a0.Sites.getD (Int.toNat Ao) default).Name).toList == a1.toList)
 (lf (0,Ao,Ao))
 (rec Aw (Bo (Ao+1))))
 (lf (1,Aw,Ao)))
def X0(L:Nat)(a1:ByteArray)(a0:Ai):Nat→Int→Int→Option Cq
 |0,_,_=>none
 |n+1,Aw,Ao=>Agb L a1 a0 (X0 L a1 a0 n) Aw Ao
theorem Bo3(a1:ByteArray)(a0:Ai):LP (EV (O77 L) L 9 c77.u.l.u.l.l) [0,1,2,4,5] [2] (Bej a1 a0) [.ret,.exit 0] (fun n v=>X0 L a1 a0 n v.1 v.2) K:=lE (fun _=>rfl) fun n v ih=>eE (Agb L a1 a0 (fun Aw Ao=>re (ih (Aw,Ao))) v.1 v.2)
def Ye [An A Int](L:Nat)(o1:Nat×C8):A:=
 (sl o1.1 [(lf o1.2.1),
 (lf (-1))])
def Bcp:Bg:=(Bb 0 (Bp (EV (O77 L) L 9 c77.u.r) (Ct Tryz.prog (RS Tryz.f77) kk)))
theorem Bw5(a1:ByteArray)(a0:Ai)(o1:Nat×C8):kX [.ret,.exit 0] (Bej a1 a0) (Bcp L kk) o1=ob (Ye L o1) (kQ I kk):=eE (Ye L o1)
def Azp [An A Int](a0:Ai)(a1:ByteArray):A:=(bd (X0 L a1 a0 L 0 0) fun o1=>Ye L o1)
def Ag7(a0:Ai)(a1:ByteArray):Option Int:=Azp L a0 a1
def X77:Di:=E2 I 77 J8 cS (Ag7 L) fun a0 a1 r h=>hF Tryz.func77 (C:=O77 L) (oS _) L (fun kk=>eE ((ho (Bo3 L (Bcp L kk) a1 a0 L (0,0)) fun o1=>Bw5 L kk a1 a0 o1))) h
def c52:=CC Tryz.f52
def O52:Bi:=oL [X77 L,X78 L]
def Bd8(Aw:Int)(a0:Ai)(v:C8):St:=⟨[(0,.any),(1,.loc 1 0),(2,I v.1),(3,I Aw),(4,.loc 4 0),(5,I v.2)],[(1,(Bw a0)),(4,(Hp (a0.Links.getD (Int.toNat Aw) default)))],0⟩
def Adq [An A Cq](L:Nat)(Aw:Int)(a0:Ai)(rec:Int→Int→A)(Cm:Int)(Th:Int):A:=
 (cn (decide (Th < Aw))
 (gi Th a0.Links
 (cn (((a0.Links.getD (Int.toNat Th) default).From).toList == ((a0.Links.getD (Int.toNat Aw) default).From).toList)
 (gi Th a0.Links
 (cn (((a0.Links.getD (Int.toNat Th) default).To).toList == ((a0.Links.getD (Int.toNat Aw) default).To).toList)
 (lf (0,4,Th))
 (rec Cm (Bo (Th+1)))))
 (rec Cm (Bo (Th+1)))))
 (lf (1,Cm,Th)))
def Ut(L:Nat)(Aw:Int)(a0:Ai):Nat→Int→Int→Option Cq
 |0,_,_=>none
 |n+1,Cm,Th=>Adq L Aw a0 (Ut L Aw a0 n) Cm Th
theorem Bok(Aw:Int)(a0:Ai):LP (EV (O52 L) L 9 c52.w.l.u.l.l.u.l.l.x.u.l.l) [0,1,2,3,4,5] [1,4] (Bd8 Aw a0) [.ret,.exit 2] (fun n v=>Ut L Aw a0 n v.1 v.2) K:=lE (fun _=>rfl) fun n v ih=>eE (Adq L Aw a0 (fun Cm Th=>re (ih (Cm,Th))) v.1 v.2)
def A1o(a0:Ai)(v:C8):St:=⟨[(0,.any),(1,.loc 1 0),(2,I v.1),(3,I v.2)],[(1,(Bw a0))],0⟩
def Vh [An A Cq](L:Nat)(Aw:Int)(rec:Int→Int→A)(o5:Nat×C8):A:=
 (sl o5.1 [(lf (0,o5.2.1,Aw)),
 (rec o5.2.1 (Bo (Aw+1)))])
def Aeu [An A Cq](a0:Ai)(rec:Int→Int→A)(Ar:Int)(Aw:Int)(nx1:Int→Int→A):A:=
 (lw Aw a0.Links
 (bd (Ag7 L a0 ((a0.Links.getD (Int.toNat Aw) default).From)) fun r1=>
 (jb (.cn (decide (r1 < 0))
 (.lf true)
 (.bd (Ag7 L a0 ((a0.Links.getD (Int.toNat Aw) default).To)) fun r3=>
 (.lf (decide (r3 < 0))))) (fun b2=>
 (cn b2
 (lf (0,5,Aw))
 (cn (((a0.Links.getD (Int.toNat Aw) default).From).toList == ((a0.Links.getD (Int.toNat Aw) default).To).toList)
 (lf (0,1,Aw))
 (bd (Dj L ((a0.Links.getD (Int.toNat Aw) default).Delay) 1 1000000000) fun r4=>
 (cn (!r4)
 (lf (0,2,Aw))
 (nx1 Aw Ar))))))))
 (lf (1,Ar,Aw)))
def Aqm [An A Cq](a0:Ai)(rec:Int→Int→A)(Ar:Int)(Aw:Int):A:=Aeu L a0 rec Ar Aw (fun Aw Ar=>bd (Ut L Aw a0 L Ar 0) fun o5=>Vh L Aw rec o5)
def M6(L:Nat)(a0:Ai):Nat→Int→Int→Option Cq
 |0,_,_=>none
 |n+1,Ar,Aw=>Aqm L a0 (M6 L a0 n) Ar Aw
def A89(a0:Ai):Prop:=LI (EV (O52 L) L 9 c52.w.l.u.l.l) [0,1,2,3] [1] (A1o a0) [.ret,.exit 0] (fun n v=>M6 L a0 n v.1 v.2) K n
def Bb8:Bg:=(Bb 2 (Bb 1 (Bp (EV (O52 L) L 9 c52.w.l.u.l.l.u.r) (D4 (Ep (EV (O52 L) L 9 c52.w.l.u.l.l) [0,1,2,3] [1] n) [0,1,2,3] [1] K))))
theorem Bwo(Aw:Int)(a0:Ai)(ih:A89 L n K a0)(o5:Nat×C8):kX [.ret,.exit 2] (Bd8 Aw a0) (Bb8 L n K) o5=ob (Vh L Aw (M6 L a0 n) o5) (kX [.ret,.exit 0] (A1o a0) K):=eE (Vh L Aw (fun Ar Aw=>re (ih (Ar,Aw))) o5)
theorem Boj(a0:Ai):∀n,A89 L n K a0:=lE (fun _=>rfl) fun n v ih=>eE (Aeu L a0 (fun Ar Aw=>re (ih (Ar,Aw))) v.1 v.2 (fun Aw Ar=>ho (Bok L (Bb8 L n K) Aw a0 L (Ar,0)) fun o5=>Bwo L n K Aw a0 ih o5))
def Vi [An A Int](L:Nat)(o6:Nat×C8):A:=
 (sl o6.1 [(lf o6.2.1),
 (lf 0)])
def Bb9:Bg:=(Bb 0 (Bp (EV (O52 L) L 9 c52.w.r) (Ct Tryz.prog (RS Tryz.f52) kk)))
theorem Bwp(a0:Ai)(o6:Nat×C8):kX [.ret,.exit 0] (A1o a0) (Bb9 L kk) o6=ob (Vi L o6) (kQ I kk):=eE (Vi L o6)
def Aev [An A Int](L:Nat)(a0:Ai)(nx2:A):A:=
 (cn (decide ((a0.Links.length:Int) > 32))
 (lf 6)
 nx2)
def Awi [An A Int](a0:Ai):A:=Aev L a0 (bd (M6 L a0 L 0 0) fun o6=>Vi L o6)
def Al8(a0:Ai):Option Int:=Awi L a0
def X52:Di:=E1 I 52 J8 (Al8 L) fun a0 r h=>hF Tryz.func52 (C:=O52 L) (oS _) L (fun kk=>eE (Aev L a0 (ho (Boj L (Bb9 L kk) a0 L (0,0)) fun o6=>Bwp L kk a0 o6))) h
def c31:=CC Tryz.f31
def O31:Bi:=oL [X30 L,X47 L,X48 L,X49 L,X50 L,X51 L,X52 L]
def Bdw(a0:Ai)(v:Anw):St:=⟨[(0,.any),(1,.loc 1 0),(2,I v.1),(3,I v.2.1),(4,.lst true (.t9 v.2.2.1)),(5,I v.2.2.2),(6,.any),(7,.any)],[(1,(Bw a0))],0⟩
def Adj [An A (Nat×Anw)](a0:Ai)(rec:Int→Int→List ByteArray→Int→A)(Ar:Int)(Aw:Int)(Ao:List ByteArray)(Ag:Int):A:=
 (lw Ag a0.Params
 (bd (Ama L (a0.Params.getD (Int.toNat Ag) default) Ao) fun r4=>
 (cn (r4 != 0)
 (lf (0,r4,r4,Ao,Ag))
 (gi Ag a0.Params
 (gq ((Ao.length+ [(a0.Params.getD (Int.toNat Ag) default).Name].length)*16≤140737488355328)
 (gq (Ao.length+ [(a0.Params.getD (Int.toNat Ag) default).Name].length≤maxLen)
 (rec Ar r4 (Ao++ [(a0.Params.getD (Int.toNat Ag) default).Name]) (Bo (Ag+1))))))))
 (lf (1,Ar,Aw,Ao,Ag)))
def Ul(L:Nat)(a0:Ai):Nat→Int→Int→List ByteArray→Int→Option (Nat×Anw)
 |0,_,_,_,_=>none
 |n+1,Ar,Aw,Ao,Ag=>Adj L a0 (Ul L a0 n) Ar Aw Ao Ag
theorem Bn3(a0:Ai):LP (EV (O31 L) L 9 c31.x.l.u.l.l) [0,1,2,3,4,5,6,7] [1] (Bdw a0) [.ret,.exit 0] (fun n v=>Ul L a0 n v.1 v.2.1 v.2.2.1 v.2.2.2) K:=lE (fun _=>rfl) fun n v ih=>eE (Adj L a0 (fun Ar Aw Ao Ag=>re (ih (Ar,Aw,Ao,Ag))) v.1 v.2.1 v.2.2.1 v.2.2.2)
def Bdx(a0:Ai)(v:Anw):St:=⟨[(0,.any),(1,.loc 1 0),(2,I v.1),(3,I v.2.1),(4,.any),(5,.any),(6,.lst true (.t9 v.2.2.1)),(7,I v.2.2.2)],[(1,(Bw a0))],0⟩
def Adk [An A (Nat×Anw)](a0:Ai)(rec:Int→Int→List ByteArray→Int→A)(Cm:Int)(Gm:Int)(Th:List ByteArray)(Bt:Int):A:=
 (lw Bt a0.Sites
 (bd (Ma L ((a0.Sites.getD (Int.toNat Bt) default).Name) Th) fun r9=>
 (gi Bt a0.Sites
 (bd (Apg L (a0.Sites.getD (Int.toNat Bt) default)) fun r10=>
 (bd (C5 L r9 r10) fun r11=>
 (cn (r11 != 0)
 (lf (0,r11,r11,Th,Bt))
 (gi Bt a0.Sites
 (gq ((Th.length+ [(a0.Sites.getD (Int.toNat Bt) default).Name].length)*16≤140737488355328)
 (gq (Th.length+ [(a0.Sites.getD (Int.toNat Bt) default).Name].length≤maxLen)
 (rec Cm r11 (Th++ [(a0.Sites.getD (Int.toNat Bt) default).Name]) (Bo (Bt+1)))))))))))
 (lf (1,Cm,Gm,Th,Bt)))
def Um(L:Nat)(a0:Ai):Nat→Int→Int→List ByteArray→Int→Option (Nat×Anw)
 |0,_,_,_,_=>none
 |n+1,Cm,Gm,Th,Bt=>Adk L a0 (Um L a0 n) Cm Gm Th Bt
theorem Bn4(a0:Ai):LP (EV (O31 L) L 9 c31.x.x.l.u.l.l) [0,1,2,3,4,5,6,7] [1] (Bdx a0) [.ret,.exit 2] (fun n v=>Um L a0 n v.1 v.2.1 v.2.2.1 v.2.2.2) K:=lE (fun _=>rfl) fun n v ih=>eE (Adk L a0 (fun Cm Gm Th Bt=>re (ih (Cm,Gm,Th,Bt))) v.1 v.2.1 v.2.2.1 v.2.2.2)
def Vf [An A Int](a0:Ai)(o12:Nat×Anw):A:=
 (sl o12.1 [(lf o12.2.1),
 (bd (Al8 L a0) fun r13=>
 (lf r13))])
def Bbq:Bg:=(Bb 2 (Bp (EV (O31 L) L 9 c31.x.x.r) (Ct Tryz.prog (RS Tryz.f31) kk)))
theorem Bv6(a0:Ai)(o12:Nat×Anw):kX [.ret,.exit 2] (Bdx a0) (Bbq L kk) o12=ob (Vf L a0 o12) (kQ I kk):=eE (Vf L a0 o12)
def Aep [An A Int](a0:Ai)(o5:Nat×Anw)(nx2:(Nat×Anw)→Int→A):A:=
 (sl o5.1 [(lf o5.2.1),
 (bd (Ci L (decide ((a0.Sites.length:Int) > 0)) 7) fun r6=>
 (bd (Ci L (decide ((a0.Sites.length:Int)≤16)) 6) fun r7=>
 (bd (C5 L r6 r7) fun r8=>
 (cn (r8 != 0)
 (lf r8)
 (nx2 o5 r8)))))])
def Ad5 [An A Int](a0:Ai)(o5:Nat×Anw):A:=Aep L a0 o5 (fun o5 r8=>bd (Um L a0 L o5.2.1 r8 [] 0) fun o12=>Vf L a0 o12)
def Bbp:Bg:=(Bb 0 (Bp (EV (O31 L) L 9 c31.x.r) (Ct Tryz.prog (RS Tryz.f31) kk)))
theorem Bv5(a0:Ai)(o5:Nat×Anw):kX [.ret,.exit 0] (Bdw a0) (Bbp L kk) o5=ob (Ad5 L a0 o5) (kQ I kk):=eE (Aep L a0 o5 (fun o5 r8=>ho (Bn4 L (Bbq L kk) a0 L (o5.2.1,r8,[],0)) fun o12=>Bv6 L kk a0 o12))
def Aeo [An A Int](a0:Ai)(nx1:Int→A):A:=
 (bd (Gz L a0.Name) fun r1=>
 (bd (Ci L (decide ((a0.Params.length:Int)≤32)) 6) fun r2=>
 (bd (C5 L r1 r2) fun r3=>
 (cn (r3 != 0)
 (lf r3)
 (nx1 r3)))))
def Awg [An A Int](a0:Ai):A:=Aeo L a0 (fun r3=>bd (Ul L a0 L 0 r3 [] 0) fun o5=>Ad5 L a0 o5)
def Al7(a0:Ai):Option Int:=Awg L a0
def X31:Di:=E1 I 31 J8 (Al7 L) fun a0 r h=>hF Tryz.func31 (C:=O31 L) (oS _) L (fun kk=>eE (Aeo L a0 (fun r3=>ho (Bn3 L (Bbp L kk) a0 L (0,r3,[],0)) fun o5=>Bv5 L kk a0 o5))) h
def c32:=CC Tryz.f32
def O32(L:Nat):Bi:=oL []
def Bdy(a0:Bz)(v:N2):St:=⟨[(0,.any),(1,.loc 1 0),(2,B v.1),(3,I v.2)],[(1,(Gl a0))],0⟩
def Agg [An A (Nat×N2)](L:Nat)(a0:Bz)(rec:Bool→Int→A)(Ar:Bool)(Aw:Int):A:=
 (cn (decide (Aw < (a0.Routines.length:Int)))
 (gi Aw a0.Decl.Routines
 (cn (decide ((((a0.Decl.Routines.getD (Int.toNat Aw) default).Body).length:Int) > 0))
 (lf (0,false,Aw))
 (gi Aw a0.Routines
 (cn (!(((a0.Decl.Routines.getD (Int.toNat Aw) default).Name).toList == ((a0.Routines.getD (Int.toNat Aw) default).Name).toList))
 (lf (0,false,Aw))
 (gi Aw a0.Routines
 (cn ((((a0.Decl.Routines.getD (Int.toNat Aw) default).Params).length:Int) != (a0.Routines.getD (Int.toNat Aw) default).Params)
 (lf (0,false,Aw))
 (rec Ar (Bo (Aw+1)))))))))
 (lf (1,Ar,Aw)))
def X5(L:Nat)(a0:Bz):Nat→Bool→Int→Option (Nat×N2)
 |0,_,_=>none
 |n+1,Ar,Aw=>Agg L a0 (X5 L a0 n) Ar Aw
theorem Bn5(a0:Bz):LP (EV (O32 L) L 9 c32.w.l.u.l.l) [0,1,2,3] [1] (Bdy a0) [.ret,.exit 0] (fun n v=>X5 L a0 n v.1 v.2) K:=lE (fun _=>rfl) fun n v ih=>eE (Agg L a0 (fun Ar Aw=>re (ih (Ar,Aw))) v.1 v.2)
def Yj [An A Bool](L:Nat)(o1:Nat×N2):A:=
 (sl o1.1 [(lf o1.2.1),
 (lf true)])
def Bbr:Bg:=(Bb 0 (Bp (EV (O32 L) L 9 c32.w.r) (Ct Tryz.prog (RS Tryz.f32) kk)))
theorem Bv7(a0:Bz)(o1:Nat×N2):kX [.ret,.exit 0] (Bdy a0) (Bbr L kk) o1=ob (Yj L o1) (kQ B kk):=eE (Yj L o1)
def Ag2 [An A Bool](L:Nat)(a0:Bz)(nx1:A):A:=
 (cn ((a0.Routines.length:Int) != (a0.Decl.Routines.length:Int))
 (lf false)
 nx1)
def Azt [An A Bool](a0:Bz):A:=Ag2 L a0 (bd (X5 L a0 L false 0) fun o1=>Yj L o1)
def Apj(a0:Bz):Option Bool:=Azt L a0
def X32:Di:=E1 B 32 Aba (Apj L) fun a0 r h=>hF Tryz.func32 (C:=O32 L) (oS _) L (fun kk=>eE (Ag2 L a0 (ho (Bn5 L (Bbr L kk) a0 L (false,0)) fun o1=>Bv7 L kk a0 o1))) h
def c33:=CC Tryz.f33
def O33(L:Nat):Bi:=oL []
def Bdz(a0:Ac)(Ao:Int)(v:C8):St:=⟨[(0,.any),(1,.loc 1 0),(2,I v.1),(3,I (a0.Sites.length:Int)),(4,I Ao),(5,.loc 5 0),(6,I v.2)],[(1,(Bh a0)),(5,(Ake (a0.Links.getD (Int.toNat Ao) default)))],0⟩
def Agf [An A Cq](L:Nat)(a0:Ac)(Ao:Int)(rec:Int→Int→A)(Cm:Int)(Bt:Int):A:=
 (cn (decide (Bt < Ao))
 (gi Bt a0.Links
 (cn ((a0.Links.getD (Int.toNat Bt) default).From == (a0.Links.getD (Int.toNat Ao) default).From)
 (gi Bt a0.Links
 (cn ((a0.Links.getD (Int.toNat Bt) default).To == (a0.Links.getD (Int.toNat Ao) default).To)
 (lf (0,4,Bt))
 (rec Cm (Bo (Bt+1)))))
 (rec Cm (Bo (Bt+1)))))
 (lf (1,Cm,Bt)))
def X4(L:Nat)(a0:Ac)(Ao:Int):Nat→Int→Int→Option Cq
 |0,_,_=>none
 |n+1,Cm,Bt=>Agf L a0 Ao (X4 L a0 Ao n) Cm Bt
theorem Bn7(a0:Ac)(Ao:Int):LP (EV (O33 L) L 9 c33.w.u.l.u.l.l.u.l.l.w.u.l.l) [0,1,2,3,4,5,6] [1,5] (Bdz a0 Ao) [.ret,.exit 2] (fun n v=>X4 L a0 Ao n v.1 v.2) K:=lE (fun _=>rfl) fun n v ih=>eE (Agf L a0 Ao (fun Cm Bt=>re (ih (Cm,Bt))) v.1 v.2)
def A1k(a0:Ac)(v:C8):St:=⟨[(0,.any),(1,.loc 1 0),(2,I v.1),(3,I (a0.Sites.length:Int)),(4,I v.2)],[(1,(Bh a0))],0⟩
def Yh [An A Cq](L:Nat)(Ao:Int)(rec:Int→Int→A)(o7:Nat×C8):A:=
 (sl o7.1 [(lf (0,o7.2.1,Ao)),
 (rec o7.2.1 (Bo (Ao+1)))])
def Ag0 [An A Cq](L:Nat)(a0:Ac)(rec:Int→Int→A)(Ar:Int)(Ao:Int)(nx1:Int→Int→A):A:=
 (lw Ao a0.Links
 (jp (.cn (decide ((a0.Links.getD (Int.toNat Ao) default).From < 0))
 (.lf true)
 (.lf (decide ((a0.Links.getD (Int.toNat Ao) default).From≥(a0.Sites.length:Int))))) (fun b1=>
 (jp (.cn b1
 (.lf true)
 (.lf (decide ((a0.Links.getD (Int.toNat Ao) default).To < 0)))) (fun b2=>
 (jp (.cn b2
 (.lf true)
 (.lf (decide ((a0.Links.getD (Int.toNat Ao) default).To≥(a0.Sites.length:Int))))) (fun b3=>
 (jp (.cn b3
 (.lf true)
 (.lf ((a0.Links.getD (Int.toNat Ao) default).From == (a0.Links.getD (Int.toNat Ao) default).To))) (fun b4=>
 (jp (.cn b4
 (.lf true)
 (.lf (decide ((a0.Links.getD (Int.toNat Ao) default).Delay < 1)))) (fun b5=>
 (jp (.cn b5
 (.lf true)
 (.lf (decide ((a0.Links.getD (Int.toNat Ao) default).Delay > 1000000000)))) (fun b6=>
 (cn b6
 (lf (0,2,Ao))
 (nx1 Ao Ar))))))))))))))
 (lf (1,Ar,Ao)))
def Arz [An A Cq](a0:Ac)(rec:Int→Int→A)(Ar:Int)(Ao:Int):A:=Ag0 L a0 rec Ar Ao (fun Ao Ar=>bd (X4 L a0 Ao L Ar 0) fun o7=>Yh L Ao rec o7)
def P6(L:Nat)(a0:Ac):Nat→Int→Int→Option Cq
 |0,_,_=>none
 |n+1,Ar,Ao=>Arz L a0 (P6 L a0 n) Ar Ao
def A85(a0:Ac):Prop:=LI (EV (O33 L) L 9 c33.w.u.l.u.l.l) [0,1,2,3,4] [1] (A1k a0) [.ret,.exit 0] (fun n v=>P6 L a0 n v.1 v.2) K n
def Bbs:Bg:=(Bb 2 (Bb 1 (Bp (EV (O33 L) L 9 c33.w.u.l.u.l.l.u.r) (D4 (Ep (EV (O33 L) L 9 c33.w.u.l.u.l.l) [0,1,2,3,4] [1] n) [0,1,2,3,4] [1] K))))
theorem Bv8(a0:Ac)(Ao:Int)(ih:A85 L n K a0)(o7:Nat×C8):kX [.ret,.exit 2] (Bdz a0 Ao) (Bbs L n K) o7=ob (Yh L Ao (P6 L a0 n) o7) (kX [.ret,.exit 0] (A1k a0) K):=eE (Yh L Ao (fun Ar Ao=>re (ih (Ar,Ao))) o7)
theorem Bn6(a0:Ac):∀n,A85 L n K a0:=lE (fun _=>rfl) fun n v ih=>eE (Ag0 L a0 (fun Ar Ao=>re (ih (Ar,Ao))) v.1 v.2 (fun Ao Ar=>ho (Bn7 L (Bbs L n K) a0 Ao L (Ar,0)) fun o7=>Bv8 L n K a0 Ao ih o7))
def Yi [An A Int](L:Nat)(o8:Nat×C8):A:=
 (sl o8.1 [(lf o8.2.1),
 (lf 0)])
def Bbt:Bg:=(Bb 0 (Bp (EV (O33 L) L 9 c33.w.u.r) (Ct Tryz.prog (RS Tryz.f33) kk)))
theorem Bv9(a0:Ac)(o8:Nat×C8):kX [.ret,.exit 0] (A1k a0) (Bbt L kk) o8=ob (Yi L o8) (kQ I kk):=eE (Yi L o8)
def Ag1 [An A Int](L:Nat)(a0:Ac)(nx2:A):A:=
 (cn (decide ((a0.Links.length:Int) > 32))
 (lf 6)
 nx2)
def Azs [An A Int](a0:Ac):A:=Ag1 L a0 (bd (P6 L a0 L 0 0) fun o8=>Yi L o8)
def Api(a0:Ac):Option Int:=Azs L a0
def X33:Di:=E1 I 33 B6 (Api L) fun a0 r h=>hF Tryz.func33 (C:=O33 L) (oS _) L (fun kk=>eE (Ag1 L a0 (ho (Bn6 L (Bbt L kk) a0 L (0,0)) fun o8=>Bv9 L kk a0 o8))) h
def Amv [An A Bool](L:Nat)(a0:Int):A:=
 (jp (.cn (decide (a0≥1))
 (.lf (decide (a0≤19)))
 (.lf false)) (fun b1=>
 (lf b1)))
def Aci(a0:Int):Option Bool:=Amv L a0
def X79:Di:=E1 B 79 (cI .i64) (Aci L) fun a0 r h=>hF Tryz.func79 (oS []) L (fun kk=>eE (Amv L a0)) h
def Ams [An A (List Cn)](L:Nat):A:=
 (lf [(⟨(⟨#[]⟩:ByteArray),(⟨#[]⟩:ByteArray),(⟨#[]⟩:ByteArray),false,false,false,false,false,false⟩:Cn),(⟨(⟨#[115,108,111,116]⟩:ByteArray),(⟨#[115,108,111,116]⟩:ByteArray),(⟨#[]⟩:ByteArray),false,true,false,false,false,false⟩:Cn),(⟨(⟨#[118,97,114]⟩:ByteArray),(⟨#[118,97,114]⟩:ByteArray),(⟨#[]⟩:ByteArray),false,true,false,false,false,false⟩:Cn),(⟨(⟨#[100,114,97,119]⟩:ByteArray),(⟨#[115,108,111,116]⟩:ByteArray),(⟨#[115,116,114,101,97,109]⟩:ByteArray),false,false,false,false,false,true⟩:Cn),(⟨(⟨#[106,117,109,112]⟩:ByteArray),(⟨#[105,110,115,116,114]⟩:ByteArray),(⟨#[]⟩:ByteArray),false,false,false,false,false,false⟩:Cn),(⟨(⟨#[98,114,97,110,99,104]⟩:ByteArray),(⟨#[105,110,115,116,114]⟩:ByteArray),(⟨#[]⟩:ByteArray),false,true,false,false,false,false⟩:Cn),(⟨(⟨#[104,111,108,100]⟩:ByteArray),(⟨#[]⟩:ByteArray),(⟨#[]⟩:ByteArray),false,true,false,false,false,false⟩:Cn),(⟨(⟨#[115,101,105,122,101]⟩:ByteArray),(⟨#[114,101,115,111,117,114,99,101]⟩:ByteArray),(⟨#[]⟩:ByteArray),false,true,true,true,false,false⟩:Cn),(⟨(⟨#[114,101,108,101,97,115,101]⟩:ByteArray),(⟨#[114,101,115,111,117,114,99,101]⟩:ByteArray),(⟨#[]⟩:ByteArray),false,true,false,false,false,false⟩:Cn),(⟨(⟨#[112,117,116]⟩:ByteArray),(⟨#[115,116,111,114,101]⟩:ByteArray),(⟨#[]⟩:ByteArray),false,true,false,false,false,false⟩:Cn),(⟨(⟨#[103,101,116]⟩:ByteArray),(⟨#[115,116,111,114,101]⟩:ByteArray),(⟨#[115,108,111,116]⟩:ByteArray),false,false,false,false,false,false⟩:Cn),(⟨(⟨#[114,105,100,101]⟩:ByteArray),(⟨#[98,101,108,116]⟩:ByteArray),(⟨#[]⟩:ByteArray),false,false,false,false,false,false⟩:Cn),(⟨(⟨#[119,97,105,116]⟩:ByteArray),(⟨#[113,117,101,117,101]⟩:ByteArray),(⟨#[]⟩:ByteArray),false,false,false,false,false,false⟩:Cn),(⟨(⟨#[115,105,103,110,97,108]⟩:ByteArray),(⟨#[113,117,101,117,101]⟩:ByteArray),(⟨#[]⟩:ByteArray),false,true,false,false,false,false⟩:Cn),(⟨(⟨#[115,101,110,100]⟩:ByteArray),(⟨#[115,105,116,101]⟩:ByteArray),(⟨#[114,111,117,116,105,110,101]⟩:ByteArray),true,true,false,false,true,false⟩:Cn),(⟨(⟨#[115,112,97,119,110]⟩:ByteArray),(⟨#[]⟩:ByteArray),(⟨#[114,111,117,116,105,110,101]⟩:ByteArray),false,true,false,false,true,false⟩:Cn),(⟨(⟨#[111,98,115,101,114,118,101]⟩:ByteArray),(⟨#[116,97,108,108,121]⟩:ByteArray),(⟨#[]⟩:ByteArray),false,true,false,false,false,false⟩:Cn),(⟨(⟨#[108,101,118,101,108]⟩:ByteArray),(⟨#[108,101,118,101,108]⟩:ByteArray),(⟨#[]⟩:ByteArray),false,true,false,false,false,false⟩:Cn),(⟨(⟨#[99,111,117,110,116]⟩:ByteArray),(⟨#[99,111,117,110,116]⟩:ByteArray),(⟨#[]⟩:ByteArray),false,true,false,false,false,false⟩:Cn),(⟨(⟨#[101,110,100]⟩:ByteArray),(⟨#[]⟩:ByteArray),(⟨#[]⟩:ByteArray),false,false,false,false,false,false⟩:Cn)])
def V6:Option (List Cn):=Ams L
def Bfj:Di:=E0 (fun(x:List Cn)=>lv (.t205 x)) 136 (V6 L) fun r h=>hF Tryz.func136 (oS []) L (fun kk=>eE (Ams L)) h
def Ar5(F:Ab→Ab→Option Bool):Prop:=∀y0 y1 r,F y0 y1=some r→Ho Tryz.prog 137 [Bq.en y0,Bq.en y1] B r
def Ar6(F:(List Ab)→(List Ab)→Option Bool):Prop:=∀y0 y1 r,F y0 y1=some r→Ho Tryz.prog 177 [Awx.en y0,Awx.en y1] B r
def Bx9(C0:Ab→Ab→Option Bool)(C1:(List Ab)→(List Ab)→Option Bool)(L:Nat):Bi:=(orc 137 (A2 B Bq Bq C0) (orc 177 (A2 B Awx Awx C1) (oL [])))
theorem B0l(C0:Ab→Ab→Option Bool)(C1:(List Ab)→(List Ab)→Option Bool)(Aqh:Ar5 C0)(Aqi:Ar6 C1)(L:Nat):Cz Tryz.prog (Bx9 C0 C1 L):=(De (a2 _ Aqh) (De (a2 _ Aqi) (oS [])))
def Aps [An A Bool](C0:Ab→Ab→Option Bool)(C1:(List Ab)→(List Ab)→Option Bool)(L:Nat)(a0:Ab)(a1:Ab):A:=
 (jp (.cn (a0.Op != a1.Op)
 (.lf true)
 (.lf (!(a0.Name.toList == a1.Name.toList)))) (fun b1=>
 (jp (.cn b1
 (.lf true)
 (.lf (a0.N != a1.N))) (fun b2=>
 (cn b2
 (lf false)
 (bd (C1 a0.Kids a1.Kids) fun r3=>
 (lf r3)))))))
def Apa(C0:Ab→Ab→Option Bool)(C1:(List Ab)→(List Ab)→Option Bool)(L:Nat)(a0:Ab)(a1:Ab):Option Bool:=Aps C0 C1 L a0 a1
theorem By4(C0:Ab→Ab→Option Bool)(C1:(List Ab)→(List Ab)→Option Bool)(Aqh:Ar5 C0)(Aqi:Ar6 C1)(L:Nat):Ar5 (Apa C0 C1 L):=fun a0 a1 r h=>hF Tryz.func137 (B0l C0 C1 Aqh Aqi L) L (fun kk=>eE (Aps C0 C1 L a0 a1)) h
def Bud:=CC Tryz.f177
def Blg(C0:Ab→Ab→Option Bool)(C1:(List Ab)→(List Ab)→Option Bool)(L:Nat):Bi:=(orc 137 (A2 B Bq Bq C0) (orc 177 (A2 B Awx Awx C1) (oL [])))
theorem B0m(C0:Ab→Ab→Option Bool)(C1:(List Ab)→(List Ab)→Option Bool)(Aqh:Ar5 C0)(Aqi:Ar6 C1)(L:Nat):Cz Tryz.prog (Blg C0 C1 L):=(De (a2 _ Aqh) (De (a2 _ Aqi) (oS [])))
def A6l(a0:List Ab)(a1:List Ab)(v:N2):St:=⟨[(0,lv (.t98 a0)),(1,lv (.t98 a1)),(4,B v.1),(5,I v.2)],[],0⟩
def Z9 [An A (Nat×N2)](C0:Ab→Ab→Option Bool)(C1:(List Ab)→(List Ab)→Option Bool)(L:Nat)(a0:List Ab)(a1:List Ab)(rec:Bool→Int→A)(Ao:Bool)(Ag:Int):A:=
 (lw Ag a0
 (gi Ag a1
 (bd (C0 (Ab.cp (a0.getD (Int.toNat Ag) default)) (Ab.cp (a1.getD (Int.toNat Ag) default))) fun r1=>
 (cn (!r1)
 (lf (0,false,Ag))
 (rec Ao (Bo (Ag+1))))))
 (lf (1,Ao,Ag)))
def Oh(C0:Ab→Ab→Option Bool)(C1:(List Ab)→(List Ab)→Option Bool)(L:Nat)(a0:List Ab)(a1:List Ab):Nat→Bool→Int→Option (Nat×N2)
 |0,_,_=>none
 |n+1,Ao,Ag=>Z9 C0 C1 L a0 a1 (Oh C0 C1 L a0 a1 n) Ao Ag
theorem Biq(C0:Ab→Ab→Option Bool)(C1:(List Ab)→(List Ab)→Option Bool)(L:Nat)(K:Bg)(a0:List Ab)(a1:List Ab):LP (EV (Blg C0 C1 L) L 9 Bud.w.l.u.l.l) [0,1,4,5] [] (A6l a0 a1) [.ret,.exit 0] (fun n v=>Oh C0 C1 L a0 a1 n v.1 v.2) K:=lE (fun _=>rfl) fun n v ih=>eE (Z9 C0 C1 L a0 a1 (fun Ao Ag=>re (ih (Ao,Ag))) v.1 v.2)
def Ou [An A Bool](C0:Ab→Ab→Option Bool)(C1:(List Ab)→(List Ab)→Option Bool)(L:Nat)(o2:Nat×N2):A:=
 (sl o2.1 [(lf o2.2.1),
 (lf true)])
def A38(C0:Ab→Ab→Option Bool)(C1:(List Ab)→(List Ab)→Option Bool)(L:Nat)(kk:Cc):Bg:=(Bb 0 (Bp (EV (Blg C0 C1 L) L 9 Bud.w.r) (Ct Tryz.prog (RS Tryz.f177) kk)))
theorem Bp4(C0:Ab→Ab→Option Bool)(C1:(List Ab)→(List Ab)→Option Bool)(L:Nat)(kk:Cc)(a0:List Ab)(a1:List Ab)(o2:Nat×N2):kX [.ret,.exit 0] (A6l a0 a1) (A38 C0 C1 L kk) o2=ob (Ou C0 C1 L o2) (kQ B kk):=eE (Ou C0 C1 L o2)
def k6 [An A Bool](C0:Ab→Ab→Option Bool)(C1:(List Ab)→(List Ab)→Option Bool)(L:Nat)(a0:List Ab)(a1:List Ab)(nx1:A):A:=
 (cn ((a0.length:Int) != (a1.length:Int))
 (lf false)
 nx1)
def Arj [An A Bool](C0:Ab→Ab→Option Bool)(C1:(List Ab)→(List Ab)→Option Bool)(L:Nat)(a0:List Ab)(a1:List Ab):A:=k6 C0 C1 L a0 a1 (bd (Oh C0 C1 L a0 a1 L false 0) fun o2=>Ou C0 C1 L o2)
def Afl(C0:Ab→Ab→Option Bool)(C1:(List Ab)→(List Ab)→Option Bool)(L:Nat)(a0:List Ab)(a1:List Ab):Option Bool:=Arj C0 C1 L a0 a1
theorem By5(C0:Ab→Ab→Option Bool)(C1:(List Ab)→(List Ab)→Option Bool)(Aqh:Ar5 C0)(Aqi:Ar6 C1)(L:Nat):Ar6 (Afl C0 C1 L):=fun a0 a1 r h=>hF Tryz.func177 (B0m C0 C1 Aqh Aqi L) L (fun kk=>eE (k6 C0 C1 L a0 a1 (ho (Biq C0 C1 L (A38 C0 C1 L kk) a0 a1 L (false,0)) fun o2=>Bp4 C0 C1 L kk a0 a1 o2))) h
mutual
def Ji:Nat→Ab→Ab→Option Bool
 |0,_,_=>none
 |L+1,a0,a1=>Apa (Ji L) (Iy L) L a0 a1
def Iy:Nat→(List Ab)→(List Ab)→Option Bool
 |0,_,_=>none
 |L+1,a0,a1=>Afl (Ji L) (Iy L) L a0 a1
end
theorem A28(L:Nat):Ar5 (Ji L)∧Ar6 (Iy L):=by
 induction L with
 |zero=>exact ⟨fun _ _ _ h=>(by cases h),fun _ _ _ h=>(by cases h)⟩
 |succ L ih=>
  obtain ⟨i137,i177⟩:=ih
  exact ⟨By4 (Ji L) (Iy L) i137 i177 L,By5 (Ji L) (Iy L) i137 i177 L⟩
def Bsm(L:Nat):Di:=E2 B 137 Bq Bq (Ji L) ((A28 L).1)
def Byu(L:Nat):Di:=E2 B 177 Awx Awx (Iy L) ((A28 L).2)
def c80:=CC Tryz.f80
def O80:Bi:=oL [Bfj L,Bsm L,Bfk L]
def Bdg(a0:Bm)(r1:List Cn):St:=⟨[(1,.loc 1 0),(2,B false),(3,.loc 3 0)],[(1,(H5 a0)),(3,(Ahn (r1.getD (Int.toNat a0.Op) default))),(4,[I 0,S (⟨#[]⟩:ByteArray),I 0,lv (.t98 [])])],0⟩
def Bcy(L:Nat)(kk:Cc):Bg:=(Ct Tryz.prog (RS Tryz.f80) kk)
def Vq [An A Bool](a0:Bm)(r1:List Cn):A:=
 (cn ((r1.getD (Int.toNat a0.Op) default).Dist)
 (nq (lf true))
 (jb (.bd (Tl L a0.Dist (⟨0,0,0,0,[],[]⟩:B8)) fun r7=>
 (.lf r7)) (fun b6=>
 (lf b6))))
theorem Bmv(a0:Bm)(r1:List Cn):EV (O80 L) L 9 c80.x (Bdg a0 r1) (Bcy L kk)=ob (Vq L a0 r1) (kQ B kk):=eE (Vq L a0 r1)
def Avl(a0:Bm)(r1:List Cn)(p802_1:Bool):St:=⟨[(1,.loc 1 0),(2,B false),(3,.loc 3 0),(4,.loc 4 0),(11,B p802_1)],[(1,(H5 a0)),(3,(Ahn (r1.getD (Int.toNat a0.Op) default))),(4,[I 0,S (⟨#[]⟩:ByteArray),I 0,lv (.t98 [])])],0⟩
def Au3(e0:EC):Bg:=(Bb 0 (Bp (EV (O80 L) L 9 e0) (Ct Tryz.prog (RS Tryz.f80) kk)))
def sx_R17_plain_2 [An A Bool](a0:Bm)(r1:List Cn)(p802_1:Bool)(nx1:Bm→(List Cn)→A):A:=
 (cn p802_1
 (lf false)
 (jb (.cn (!((r1.getD (Int.toNat a0.Op) default).E))
 (.bd (Ji L (Ab.cp a0.E) (Ab.mk 0 (⟨#[]⟩:ByteArray) 0 [])) fun r9=>
 (.lf (!r9)))
 (.lf false)) (fun b8=>
 (cn b8
 (cn b8
 (lf false)
 (nx1 a0 r1))
 (jb (.cn (!((r1.getD (Int.toNat a0.Op) default).F))
 (.bd (Ji L (Ab.cp a0.F) (Ab.mk 0 (⟨#[]⟩:ByteArray) 0 [])) fun r11=>
 (.lf (!r11)))
 (.lf false)) (fun b10=>
 (cn b10
 (cn b10
 (lf false)
 (nx1 a0 r1))
 (jp (.cn (!((r1.getD (Int.toNat a0.Op) default).Args))
 (.lf (decide ((a0.Args.length:Int) > 0)))
 (.lf false)) (fun b12=>
 (cn b12
 (lf false)
 (nx1 a0 r1)))))))))))
def Aeh [An A Bool](a0:Bm)(r1:List Cn)(p802_1:Bool):A:=sx_R17_plain_2 L a0 r1 p802_1 (fun a0 r1=>Vq L a0 r1)
theorem Bmy(a0:Bm)(r1:List Cn)(p802_1:Bool)(z1:EC):EV (O80 L) L 9 c80.w.u.l.l.u (Avl a0 r1 p802_1) (Au3 L kk (EC.put (rl [1]) z1 c80.w.u.r))= @sx_R17_plain_2 Prop L (anP (kQ B kk)) a0 r1 p802_1 (fun a0 r1=>EV (O80 L) L 9 z1 (Bdg a0 r1) (Bcy L kk)):=by kernel_rfl
theorem Bmw(a0:Bm)(r1:List Cn)(p802_1:Bool):EV (O80 L) L 9 c80.w.u.l.l.u (Avl a0 r1 p802_1) (Au3 L kk c80.w.u.r)=ob (Aeh L a0 r1 p802_1) (kQ B kk):=Eq.trans (b:=EV (O80 L) L 9 c80.w.u.l.l.u (Avl a0 r1 p802_1) (Au3 L kk (EC.put (rl [1]) c80.x c80.w.u.r))) (by kernel_rfl) ((Bmy L kk a0 r1 p802_1 c80.x).trans (eE (sx_R17_plain_2 L a0 r1 p802_1 (fun a0 r1=>re (Bmv L kk a0 r1)))))
def sx_R17_plain_0 [An A Bool](a0:Bm)(nx2:Bm→(List Cn)→Bool→A):A:=
 (bd (V6 L) fun r1=>
 (gi a0.Op r1
 (jp (.cn (((r1.getD (Int.toNat a0.Op) default).A).toList == (⟨#[]⟩:ByteArray).toList)
 (.lf (a0.A != 0))
 (.lf false)) (fun b2=>
 (cn b2
 (nx2 a0 r1 b2)
 (jp (.cn (((r1.getD (Int.toNat a0.Op) default).B).toList == (⟨#[]⟩:ByteArray).toList)
 (.lf (a0.B != 0))
 (.lf false)) (fun b3=>
 (cn b3
 (nx2 a0 r1 b3)
 (jp (.cn (!((r1.getD (Int.toNat a0.Op) default).C))
 (.lf (a0.C != 0))
 (.lf false)) (fun b4=>
 (cn b4
 (nx2 a0 r1 b4)
 (jp (.cn (!((r1.getD (Int.toNat a0.Op) default).Flag))
 (.lf a0.Flag)
 (.lf false)) (fun b5=>
 (nx2 a0 r1 b5))))))))))))))
def Awm [An A Bool](a0:Bm):A:=sx_R17_plain_0 L a0 (fun a0 r1 p802_1=>Aeh L a0 r1 p802_1)
theorem Bmx(a0:Bm)(z2:EC):EW (O80 L) L 9 (RS Tryz.f80) (EC.put (rl [6,2,2]) z2 c80) [.agg (H5 a0)] kk= @sx_R17_plain_0 Prop L (anP (kQ B kk)) a0 (fun a0 r1 p802_1=>EV (O80 L) L 9 z2 (Avl a0 r1 p802_1) (Au3 L kk c80.w.u.r)):=by kernel_rfl
def Ame(a0:Bm):Option Bool:=Awm L a0
def X80:Di:=E1 B 80 Hf (Ame L) fun a0 r h=>hF Tryz.func80 (C:=O80 L) (oS _) L (fun kk=>Eq.trans (b:=EW (O80 L) L 9 (RS Tryz.f80) (EC.put (rl [6,2,2]) c80.w.u.l.l.u c80) [.agg (H5 a0)] kk) (by kernel_rfl) ((Bmx L kk a0 c80.w.u.l.l.u).trans (eE (sx_R17_plain_0 L a0 (fun a0 r1 p802_1=>re (Bmw L kk a0 r1 p802_1)))))) h
def Amu [An A Int](L:Nat)(a0:Ac)(a1:Int)(a2:Ay)(a3:ByteArray):A:=
 (gi a1 a0.Sites
 (cn (a3.toList == (⟨#[115,108,111,116]⟩:ByteArray).toList)
 (lf a2.Slots)
 (cn (a3.toList == (⟨#[105,110,115,116,114]⟩:ByteArray).toList)
 (lf (a2.Instrs.length:Int))
 (cn (a3.toList == (⟨#[115,105,116,101]⟩:ByteArray).toList)
 (lf (a0.Sites.length:Int))
 (cn (a3.toList == (⟨#[118,97,114]⟩:ByteArray).toList)
 (lf ((((a0.Sites.getD (Int.toNat a1) default).Decl).Vars).length:Int))
 (cn (a3.toList == (⟨#[114,101,115,111,117,114,99,101]⟩:ByteArray).toList)
 (lf ((((a0.Sites.getD (Int.toNat a1) default).Decl).Resources).length:Int))
 (cn (a3.toList == (⟨#[115,116,111,114,101]⟩:ByteArray).toList)
 (lf ((((a0.Sites.getD (Int.toNat a1) default).Decl).Stores).length:Int))
 (cn (a3.toList == (⟨#[98,101,108,116]⟩:ByteArray).toList)
 (lf ((((a0.Sites.getD (Int.toNat a1) default).Decl).Belts).length:Int))
 (cn (a3.toList == (⟨#[113,117,101,117,101]⟩:ByteArray).toList)
 (lf ((((a0.Sites.getD (Int.toNat a1) default).Decl).Queues).length:Int))
 (cn (a3.toList == (⟨#[115,116,114,101,97,109]⟩:ByteArray).toList)
 (lf ((((a0.Sites.getD (Int.toNat a1) default).Decl).Streams).length:Int))
 (cn (a3.toList == (⟨#[116,97,108,108,121]⟩:ByteArray).toList)
 (lf ((((a0.Sites.getD (Int.toNat a1) default).Decl).Tallies).length:Int))
 (cn (a3.toList == (⟨#[108,101,118,101,108]⟩:ByteArray).toList)
 (lf ((((a0.Sites.getD (Int.toNat a1) default).Decl).Levels).length:Int))
 (lf ((((a0.Sites.getD (Int.toNat a1) default).Decl).Counts).length:Int))))))))))))))
def Amc(a0:Ac)(a1:Int)(a2:Ay)(a3:ByteArray):Option Int:=Amu L a0 a1 a2 a3
def Bs2:Di:=E4 I 179 B6 (cI .i64) Hc cS (Amc L) fun a0 a1 a2 a3 r h=>hF Tryz.func179 (oS []) L (fun kk=>eE (Amu L a0 a1 a2 a3)) h
def Aiu [An A Bool](a0:Ac)(a1:Int)(a2:Ay)(a3:ByteArray)(a4:Int):A:=
 (jb (.cn (a3.toList == (⟨#[]⟩:ByteArray).toList)
 (.lf true)
 (.cn (decide (a4≥0))
 (.bd (Amc L (⟨a0.Name,a0.Sites,a0.Links⟩:Ac) a1 a2 a3) fun r2=>
 (.lf (decide (a4 < r2))))
 (.lf false))) (fun b1=>
 (lf b1)))
def w3(a0:Ac)(a1:Int)(a2:Ay)(a3:ByteArray)(a4:Int):Option Bool:=Aiu L a0 a1 a2 a3 a4
def Bsn:Di:=E5 B 139 B6 (cI .i64) Hc cS (cI .i64) (w3 L) fun a0 a1 a2 a3 a4 r h=>hF Tryz.func139 (oS [Bs2 L]) L (fun kk=>eE (Aiu L a0 a1 a2 a3 a4)) h
def Amt [An A Int](L:Nat)(a0:Ac)(a1:Int)(a2:Bm):A:=
 (gi a1 a0.Sites
 (jp (.cn (decide (a2.B < 0))
 (.lf true)
 (.lf (decide (a2.B≥(((a0.Sites.getD (Int.toNat a1) default).Routines).length:Int))))) (fun b1=>
 (cn b1
 (lf 2)
 (gi a2.B ((a0.Sites.getD (Int.toNat a1) default).Routines)
 (cn ((a2.Args.length:Int) != (((a0.Sites.getD (Int.toNat a1) default).Routines).getD (Int.toNat a2.B) default).Params)
 (lf 8)
 (lf 0)))))))
def Ach(a0:Ac)(a1:Int)(a2:Bm):Option Int:=Amt L a0 a1 a2
def Bso:Di:=E3 I 140 B6 (cI .i64) Hf (Ach L) fun a0 a1 a2 r h=>hF Tryz.func140 (oS []) L (fun kk=>eE (Amt L a0 a1 a2)) h
def Bt4:=CC Tryz.f141
def Blc(L:Nat):Bi:=oL []
def Bu7:(Int×Bool)→Prop:=fun x=>kk ((fun(x:Int×Bool)=> .tup [I x.1,B x.2]) x)
def A6c(a1:Int)(a2:Int)(a0:Ac)(v:Int×Bool×Int):St:=⟨[(0,.any),(1,I a1),(2,I a2),(3,.loc 3 0),(6,I v.1),(7,B v.2.1),(8,I v.2.2)],[(3,(Bh a0))],0⟩
def Ajq [An A (Nat×Int×Bool×Int)](L:Nat)(a1:Int)(a2:Int)(a0:Ac)(rec:Int→Bool→Int→A)(Ao:Int)(Ag:Bool)(Ae:Int):A:=
 (lw Ae a0.Links
 (jb (.cn ((a0.Links.getD (Int.toNat Ae) default).From == a1)
 (.gq (0≤Ae)
 (.gq (Ae < (a0.Links.length:Int))
 (.lf ((a0.Links.getD (Int.toNat Ae) default).To == a2))))
 (.lf false)) (fun b1=>
 (cn b1
 (gi Ae a0.Links
 (lf (0,(((a0.Links.getD (Int.toNat Ae) default).Delay),true,Ae))))
 (rec Ao Ag (Bo (Ae+1))))))
 (lf (1,Ao,Ag,Ae)))
def Aap(L:Nat)(a1:Int)(a2:Int)(a0:Ac):Nat→Int→Bool→Int→Option (Nat×Int×Bool×Int)
 |0,_,_,_=>none
 |n+1,Ao,Ag,Ae=>Ajq L a1 a2 a0 (Aap L a1 a2 a0 n) Ao Ag Ae
theorem Bih(a1:Int)(a2:Int)(a0:Ac):LP (EV (Blc L) L 9 Bt4.u.l.u.l.l) [0,1,2,3,6,7,8] [3] (A6c a1 a2 a0) [.ret,.exit 0] (fun n v=>Aap L a1 a2 a0 n v.1 v.2.1 v.2.2) K:=lE (fun _=>rfl) fun n v ih=>eE (Ajq L a1 a2 a0 (fun Ao Ag Ae=>re (ih (Ao,Ag,Ae))) v.1 v.2.1 v.2.2)
def Aax [An A (Int×Bool)](L:Nat)(o2:Nat×Int×Bool×Int):A:=
 (sl o2.1 [(lf (o2.2.1,o2.2.2.1)),
 (lf (0,false))])
def A3q:Bg:=(Bb 0 (Bp (EV (Blc L) L 9 Bt4.u.r) (Ct Tryz.prog (RS Tryz.f141) kk)))
theorem Bpm(a1:Int)(a2:Int)(a0:Ac)(o2:Nat×Int×Bool×Int):kX [.ret,.exit 0] (A6c a1 a2 a0) (A3q L kk) o2=ob (Aax L o2) (Bu7 kk):=eE (Aax L o2)
def A7f [An A (Int×Bool)](a0:Ac)(a1:Int)(a2:Int):A:=(bd (Aap L a1 a2 a0 L 0 false 0) fun o2=>Aax L o2)
def Ar4(a0:Ac)(a1:Int)(a2:Int):Option (Int×Bool):=A7f L a0 a1 a2
def Bsp:Di:=E3 (fun(x:Int×Bool)=> .tup [I x.1,B x.2]) 141 B6 (cI .i64) (cI .i64) (Ar4 L) fun a0 a1 a2 r h=>hF Tryz.func141 (C:=Blc L) (oS _) L (fun kk=>eE ((ho (Bih L (A3q L kk) a1 a2 a0 L (0,false,0)) fun o2=>Bpm L kk a1 a2 a0 o2))) h
def Afy [An A Int](a0:Ac)(a1:Int)(a2:Ay)(a3:Bm):A:=
 (bd (V6 L) fun r1=>
 (gi a3.Op r1
 (bd (w3 L (⟨a0.Name,a0.Sites,a0.Links⟩:Ac) a1 a2 ((r1.getD (Int.toNat a3.Op) default).A) a3.A) fun r2=>
 (cn (!r2)
 (lf 2)
 (cn (a3.Op == 15)
 (bd (Ach L (⟨a0.Name,a0.Sites,a0.Links⟩:Ac) a1 (⟨a3.Op,a3.A,a3.B,a3.C,(Ab.cp a3.E),(Ab.cp a3.F),a3.Args,a3.Dist,a3.Flag⟩:Bm)) fun r3=>
 (lf r3))
 (cn (a3.Op == 14)
 (bd (Ar4 L (⟨a0.Name,a0.Sites,a0.Links⟩:Ac) a1 a3.A) fun r4=>
 (jp (.cn (!r4.2)
 (.lf true)
 (.lf (r4.1 != a3.C))) (fun b5=>
 (cn b5
 (lf 16)
 (bd (Ach L (⟨a0.Name,a0.Sites,a0.Links⟩:Ac) a3.A (⟨a3.Op,a3.A,a3.B,a3.C,(Ab.cp a3.E),(Ab.cp a3.F),a3.Args,a3.Dist,a3.Flag⟩:Bm)) fun r6=>
 (lf r6))))))
 (bd (w3 L (⟨a0.Name,a0.Sites,a0.Links⟩:Ac) a1 a2 ((r1.getD (Int.toNat a3.Op) default).B) a3.B) fun r7=>
 (cn (!r7)
 (lf 2)
 (lf 0)))))))))
def Afq(a0:Ac)(a1:Int)(a2:Ay)(a3:Bm):Option Int:=Afy L a0 a1 a2 a3
def X81:Di:=E4 I 81 B6 (cI .i64) Hc Hf (Afq L) fun a0 a1 a2 a3 r h=>hF Tryz.func81 (oS [Bfj L,Bsn L,Bso L,Bsp L]) L (fun kk=>eE (Afy L a0 a1 a2 a3)) h
def Amr [An A (List Ab)](a0:Bm):A:=
 (bd (Aci L a0.Op) fun r1=>
 (cn (!r1)
 (lf [])
 (bd (V6 L) fun r2=>
 (gi a0.Op r2
 (cn ((r2.getD (Int.toNat a0.Op) default).E)
 (gq ((0+ [(Ab.cp a0.E)].length)*56≤140737488355328)
 (gq (0+ [(Ab.cp a0.E)].length≤maxLen)
 (cn ((r2.getD (Int.toNat a0.Op) default).F)
 (gq (([(Ab.cp a0.E)].length+ [(Ab.cp a0.F)].length)*56≤140737488355328)
 (gq ([(Ab.cp a0.E)].length+ [(Ab.cp a0.F)].length≤maxLen)
 (cn ((r2.getD (Int.toNat a0.Op) default).Args)
 (gq ((([(Ab.cp a0.E)]++ [(Ab.cp a0.F)]).length+a0.Args.length)*56≤140737488355328)
 (gq (([(Ab.cp a0.E)]++ [(Ab.cp a0.F)]).length+a0.Args.length≤maxLen)
 (lf (([(Ab.cp a0.E)]++ [(Ab.cp a0.F)])++a0.Args))))
 (lf ([(Ab.cp a0.E)]++ [(Ab.cp a0.F)])))))
 (cn ((r2.getD (Int.toNat a0.Op) default).Args)
 (gq (([(Ab.cp a0.E)].length+a0.Args.length)*56≤140737488355328)
 (gq ([(Ab.cp a0.E)].length+a0.Args.length≤maxLen)
 (lf ([(Ab.cp a0.E)]++a0.Args))))
 (lf [(Ab.cp a0.E)])))))
 (cn ((r2.getD (Int.toNat a0.Op) default).F)
 (gq ((0+ [(Ab.cp a0.F)].length)*56≤140737488355328)
 (gq (0+ [(Ab.cp a0.F)].length≤maxLen)
 (cn ((r2.getD (Int.toNat a0.Op) default).Args)
 (gq (([(Ab.cp a0.F)].length+a0.Args.length)*56≤140737488355328)
 (gq ([(Ab.cp a0.F)].length+a0.Args.length≤maxLen)
 (lf ([(Ab.cp a0.F)]++a0.Args))))
 (lf [(Ab.cp a0.F)]))))
 (cn ((r2.getD (Int.toNat a0.Op) default).Args)
 (gq ((0+a0.Args.length)*56≤140737488355328)
 (gq (0+a0.Args.length≤maxLen)
 (lf a0.Args)))
 (lf []))))))))
def Amb(a0:Bm):Option (List Ab):=Amr L a0
def X82:Di:=E1 (fun(x:List Ab)=>lv (.t98 x)) 82 Hf (Amb L) fun a0 r h=>hF Tryz.func82 (oS [X79 L,Bfj L]) L (fun kk=>eE (Amr L a0)) h
def Aa7 [An A Int](a0:Ab):A:=
 (bd (Acd L (Ab.cp a0) true) fun r1=>
 (lf r1))
def Aa3(a0:Ab):Option Int:=Aa7 L a0
def X83:Di:=E1 I 83 Bq (Aa3 L) fun a0 r h=>hF Tryz.func83 (oS [Blz L]) L (fun kk=>eE (Aa7 L a0)) h
def Bfg(F:Ac→Int→Ay→Ab→Option Bool):Prop:=∀y0 y1 y2 y3 r,F y0 y1 y2 y3=some r→Ho Tryz.prog 84 [B6.en y0,(cI .i64).en y1,Hc.en y2,Bq.en y3] B r
def c84:=CC Tryz.f84
def O84(Co:Ac→Int→Ay→Ab→Option Bool)(L:Nat):Bi:=(orc 84 (A4 B B6 (cI .i64) Hc Bq Co) (oL []))
theorem s84(Co:Ac→Int→Ay→Ab→Option Bool)(Bm4:Bfg Co)(L:Nat):Cz Tryz.prog (O84 Co L):=(De (a4 _ Bm4) (oS []))
def Au1(Co:Ac→Int→Ay→Ab→Option Bool)(L:Nat)(kk:Cc):Bg:=(Bb 1 (Bp (EV (O84 Co L) L 9 c84.w.u.r) (Ct Tryz.prog (RS Tryz.f84) kk)))
def Aq6(a1:Int)(a0:Ac)(a2:Ay)(a3:Ab)(v:N2):St:=⟨[(0,.any),(1,I a1),(2,.any),(3,.any),(4,.loc 4 0),(6,.loc 6 0),(7,.loc 7 0),(8,B v.1),(9,.any),(10,I v.2),(17,.any),(39,.any),(62,.any)],[(4,(Bh a0)),(6,(Oe a2)),(7,(Ca a3)),(9,(Ad ((a0.Sites.getD (Int.toNat a1) default).Decl)))],0⟩
def Agh [An A (Nat×N2)](Co:Ac→Int→Ay→Ab→Option Bool)(L:Nat)(a1:Int)(a0:Ac)(a2:Ay)(a3:Ab)(rec:Bool→Int→A)(Aw:Bool)(Ao:Int):A:=
 (lw Ao a3.Kids
 (bd (Co (⟨a0.Name,a0.Sites,a0.Links⟩:Ac) a1 a2 (Ab.cp (a3.Kids.getD (Int.toNat Ao) default))) fun r4=>
 (cn (!r4)
 (lf (0,false,Ao))
 (rec Aw (Bo (Ao+1)))))
 (lf (1,Aw,Ao)))
def I2(Co:Ac→Int→Ay→Ab→Option Bool)(L:Nat)(a1:Int)(a0:Ac)(a2:Ay)(a3:Ab):Nat→Bool→Int→Option (Nat×N2)
 |0,_,_=>none
 |n+1,Aw,Ao=>Agh Co L a1 a0 a2 a3 (I2 Co L a1 a0 a2 a3 n) Aw Ao
theorem Au4(Co:Ac→Int→Ay→Ab→Option Bool)(L:Nat)(K:Bg)(a1:Int)(a0:Ac)(a2:Ay)(a3:Ab):LP (EV (O84 Co L) L 9 c84.w.u.l.u.l.l) [0,1,2,3,4,6,7,8,9,10,17,39,62] [4,6,7,9] (Aq6 a1 a0 a2 a3) [.ret,.exit 1] (fun n v=>I2 Co L a1 a0 a2 a3 n v.1 v.2) K:=lE (fun _=>rfl) fun n v ih=>eE (Agh Co L a1 a0 a2 a3 (fun Aw Ao=>re (ih (Aw,Ao))) v.1 v.2)
def Yk [An A Bool](Co:Ac→Int→Ay→Ab→Option Bool)(L:Nat)(o12:Nat×N2):A:=
 (sl o12.1 [(lf o12.2.1),
 (lf true)])
def Bcq(Co:Ac→Int→Ay→Ab→Option Bool)(L:Nat)(kk:Cc):Bg:=(Au1 Co L kk)
theorem Bw6(Co:Ac→Int→Ay→Ab→Option Bool)(L:Nat)(kk:Cc)(a1:Int)(a0:Ac)(a2:Ay)(a3:Ab)(o12:Nat×N2):kX [.ret,.exit 1] (Aq6 a1 a0 a2 a3) (Bcq Co L kk) o12=ob (Yk Co L o12) (kQ B kk):=eE (Yk Co L o12)
def Yl [An A Bool](Co:Ac→Int→Ay→Ab→Option Bool)(L:Nat)(o13:Nat×N2):A:=
 (sl o13.1 [(lf o13.2.1),
 (lf true)])
def Bcr(Co:Ac→Int→Ay→Ab→Option Bool)(L:Nat)(kk:Cc):Bg:=(Au1 Co L kk)
theorem Bw7(Co:Ac→Int→Ay→Ab→Option Bool)(L:Nat)(kk:Cc)(a1:Int)(a0:Ac)(a2:Ay)(a3:Ab)(o13:Nat×N2):kX [.ret,.exit 1] (Aq6 a1 a0 a2 a3) (Bcr Co L kk) o13=ob (Yl Co L o13) (kQ B kk):=eE (Yl Co L o13)
def Ym [An A Bool](Co:Ac→Int→Ay→Ab→Option Bool)(L:Nat)(o14:Nat×N2):A:=
 (sl o14.1 [(lf o14.2.1),
 (lf true)])
def Bcs(Co:Ac→Int→Ay→Ab→Option Bool)(L:Nat)(kk:Cc):Bg:=(Au1 Co L kk)
theorem Bw8(Co:Ac→Int→Ay→Ab→Option Bool)(L:Nat)(kk:Cc)(a1:Int)(a0:Ac)(a2:Ay)(a3:Ab)(o14:Nat×N2):kX [.ret,.exit 1] (Aq6 a1 a0 a2 a3) (Bcs Co L kk) o14=ob (Ym Co L o14) (kQ B kk):=eE (Ym Co L o14)
def Yn [An A Bool](Co:Ac→Int→Ay→Ab→Option Bool)(L:Nat)(o15:Nat×N2):A:=
 (sl o15.1 [(lf o15.2.1),
 (lf true)])
def Bct(Co:Ac→Int→Ay→Ab→Option Bool)(L:Nat)(kk:Cc):Bg:=(Au1 Co L kk)
theorem Bw9(Co:Ac→Int→Ay→Ab→Option Bool)(L:Nat)(kk:Cc)(a1:Int)(a0:Ac)(a2:Ay)(a3:Ab)(o15:Nat×N2):kX [.ret,.exit 1] (Aq6 a1 a0 a2 a3) (Bct Co L kk) o15=ob (Yn Co L o15) (kQ B kk):=eE (Yn Co L o15)
def Ag3 [An A Bool](Co:Ac→Int→Ay→Ab→Option Bool)(L:Nat)(a0:Ac)(a1:Int)(a2:Ay)(a3:Ab)(nx1:A)(nx2:A)(nx3:A)(nx4:A):A:=
 (gi a1 a0.Sites
 (jp (.cn (a3.Op == 25)
 (.lf (decide (a3.N≥a2.Slots)))
 (.lf false)) (fun b1=>
 (cn b1
 (cn b1
 (lf false)
 (jp (.cn (a3.Op == 22)
 (.lf (decide (a3.N≥((((a0.Sites.getD (Int.toNat a1) default).Decl).Resources).length:Int))))
 (.lf false)) (fun b2=>
 (cn b2
 (cn b2
 (lf false)
 (jp (.cn (a3.Op == 24)
 (.lf (decide (a3.N≥(Bo (((((a0.Sites.getD (Int.toNat a1) default).Decl).Resources).length:Int)+((((a0.Sites.getD (Int.toNat a1) default).Decl).Queues).length:Int))))))
 (.lf false)) (fun b3=>
 (cn b3
 (lf false)
 nx1))))
 (jp (.cn (a3.Op == 23)
 (.lf (decide (a3.N≥((((a0.Sites.getD (Int.toNat a1) default).Decl).Stores).length:Int))))
 (.lf false)) (fun b5=>
 (cn b5
 (lf false)
 (jp (.cn (a3.Op == 24)
 (.lf (decide (a3.N≥(Bo (((((a0.Sites.getD (Int.toNat a1) default).Decl).Resources).length:Int)+((((a0.Sites.getD (Int.toNat a1) default).Decl).Queues).length:Int))))))
 (.lf false)) (fun b6=>
 (cn b6
 (lf false)
 nx2))))))))))
 (jp (.cn (a3.Op == 26)
 (.lf (decide (a3.N≥((((a0.Sites.getD (Int.toNat a1) default).Decl).Vars).length:Int))))
 (.lf false)) (fun b7=>
 (cn b7
 (lf false)
 (jp (.cn (a3.Op == 22)
 (.lf (decide (a3.N≥((((a0.Sites.getD (Int.toNat a1) default).Decl).Resources).length:Int))))
 (.lf false)) (fun b8=>
 (cn b8
 (cn b8
 (lf false)
 (jp (.cn (a3.Op == 24)
 (.lf (decide (a3.N≥(Bo (((((a0.Sites.getD (Int.toNat a1) default).Decl).Resources).length:Int)+((((a0.Sites.getD (Int.toNat a1) default).Decl).Queues).length:Int))))))
 (.lf false)) (fun b9=>
 (cn b9
 (lf false)
 nx3))))
 (jp (.cn (a3.Op == 23)
 (.lf (decide (a3.N≥((((a0.Sites.getD (Int.toNat a1) default).Decl).Stores).length:Int))))
 (.lf false)) (fun b10=>
 (cn b10
 (lf false)
 (jp (.cn (a3.Op == 24)
 (.lf (decide (a3.N≥(Bo (((((a0.Sites.getD (Int.toNat a1) default).Decl).Resources).length:Int)+((((a0.Sites.getD (Int.toNat a1) default).Decl).Queues).length:Int))))))
 (.lf false)) (fun b11=>
 (cn b11
 (lf false)
 nx4))))))))))))))))
def Azu [An A Bool](Co:Ac→Int→Ay→Ab→Option Bool)(L:Nat)(a0:Ac)(a1:Int)(a2:Ay)(a3:Ab):A:=Ag3 Co L a0 a1 a2 a3 (bd (I2 Co L a1 a0 a2 a3 L false 0) fun o12=>Yk Co L o12) (bd (I2 Co L a1 a0 a2 a3 L false 0) fun o13=>Yl Co L o13) (bd (I2 Co L a1 a0 a2 a3 L false 0) fun o14=>Ym Co L o14) (bd (I2 Co L a1 a0 a2 a3 L false 0) fun o15=>Yn Co L o15)
def Apd(Co:Ac→Int→Ay→Ab→Option Bool)(L:Nat)(a0:Ac)(a1:Int)(a2:Ay)(a3:Ab):Option Bool:=Azu Co L a0 a1 a2 a3
theorem b84(Co:Ac→Int→Ay→Ab→Option Bool)(Bm4:Bfg Co)(L:Nat):Bfg (Apd Co L):=fun a0 a1 a2 a3 r h=>hF Tryz.func84 (s84 Co Bm4 L) L (fun kk=>eE (Ag3 Co L a0 a1 a2 a3 (ho (Au4 Co L (Bcq Co L kk) a1 a0 a2 a3 L (false,0)) fun o12=>Bw6 Co L kk a1 a0 a2 a3 o12) (ho (Au4 Co L (Bcr Co L kk) a1 a0 a2 a3 L (false,0)) fun o13=>Bw7 Co L kk a1 a0 a2 a3 o13) (ho (Au4 Co L (Bcs Co L kk) a1 a0 a2 a3 L (false,0)) fun o14=>Bw8 Co L kk a1 a0 a2 a3 o14) (ho (Au4 Co L (Bct Co L kk) a1 a0 a2 a3 L (false,0)) fun o15=>Bw9 Co L kk a1 a0 a2 a3 o15))) h
def Tq:Nat→Ac→Int→Ay→Ab→Option Bool
 |0,_,_,_,_=>none
 |L+1,a0,a1,a2,a3=>Apd (Tq L) L a0 a1 a2 a3
theorem Bm2(L:Nat):Bfg (Tq L):=by
 induction L with
 |zero=>exact fun _ _ _ _ _ h=>(by cases h)
 |succ L ih=>
  have i84:=ih
  exact b84 (Tq L) i84 L
def X84(L:Nat):Di:=E4 B 84 B6 (cI .i64) Hc Bq (Tq L) (Bm2 L)
def c53:=CC Tryz.f53
def O53:Bi:=oL [X79 L,X80 L,X81 L,X82 L,X83 L,X84 L,X85 L]
def Bd9(a1:Int)(r5:List Ab)(a0:Ac)(a2:Ay)(a3:Bm)(v:Tu6):St:=⟨[(0,.any),(1,I a1),(2,.any),(3,.any),(4,.loc 4 0),(6,.loc 6 0),(7,.loc 7 0),(8,I v.1),(9,I v.2.1),(10,lv (.t98 r5)),(11,I v.2.2)],[(4,(Bh a0)),(6,(Oe a2)),(7,(H5 a3))],0⟩
def Adu [An A (Nat×Tu6)](a1:Int)(r5:List Ab)(a0:Ac)(a2:Ay)(a3:Bm)(rec:Int→Int→Int→A)(Aw:Int)(Ao:Int)(Ae:Int):A:=
 (lw Ae r5
 (bd (Aa3 L (Ab.cp (r5.getD (Int.toNat Ae) default))) fun r6=>
 (cn (r6 == 0)
 (gi Ae r5
 (bd (Tq L (⟨a0.Name,a0.Sites,a0.Links⟩:Ac) a1 a2 (Ab.cp (r5.getD (Int.toNat Ae) default))) fun r7=>
 (cn (!r7)
 (lf (0,2,2,Ae))
 (cn (r6 != 0)
 (lf (0,r6,r6,Ae))
 (rec Aw r6 (Bo (Ae+1)))))))
 (cn (r6 != 0)
 (lf (0,r6,r6,Ae))
 (rec Aw r6 (Bo (Ae+1))))))
 (lf (1,Aw,Ao,Ae)))
def Ux(L:Nat)(a1:Int)(r5:List Ab)(a0:Ac)(a2:Ay)(a3:Bm):Nat→Int→Int→Int→Option (Nat×Tu6)
 |0,_,_,_=>none
 |n+1,Aw,Ao,Ae=>Adu L a1 r5 a0 a2 a3 (Ux L a1 r5 a0 a2 a3 n) Aw Ao Ae
theorem Bol(a1:Int)(r5:List Ab)(a0:Ac)(a2:Ay)(a3:Bm):LP (EV (O53 L) L 9 c53.x.u.l.u.l.l) [0,1,2,3,4,6,7,8,9,10,11] [4,6,7] (Bd9 a1 r5 a0 a2 a3) [.ret,.exit 0] (fun n v=>Ux L a1 r5 a0 a2 a3 n v.1 v.2.1 v.2.2) K:=lE (fun _=>rfl) fun n v ih=>eE (Adu L a1 r5 a0 a2 a3 (fun Aw Ao Ae=>re (ih (Aw,Ao,Ae))) v.1 v.2.1 v.2.2)
def Vn [An A Int](a3:Bm)(o8:Nat×Tu6):A:=
 (sl o8.1 [(lf o8.2.1),
 (cn (a3.Op == 3)
 (bd (Qc L a3.Dist) fun r9=>
 (lf r9))
 (lf 0))])
def Bca:Bg:=(Bb 0 (Bp (EV (O53 L) L 9 c53.x.u.r) (Ct Tryz.prog (RS Tryz.f53) kk)))
theorem Bwq(a1:Int)(r5:List Ab)(a0:Ac)(a2:Ay)(a3:Bm)(o8:Nat×Tu6):kX [.ret,.exit 0] (Bd9 a1 r5 a0 a2 a3) (Bca L kk) o8=ob (Vn L a3 o8) (kQ I kk):=eE (Vn L a3 o8)
def Ae1 [An A Int](a0:Ac)(a1:Int)(a2:Ay)(a3:Bm)(nx1:(List Ab)→Int→A):A:=
 (bd (Aci L a3.Op) fun r1=>
 (jb (.cn (!r1)
 (.lf true)
 (.bd (Ame L (⟨a3.Op,a3.A,a3.B,a3.C,(Ab.cp a3.E),(Ab.cp a3.F),a3.Args,a3.Dist,a3.Flag⟩:Bm)) fun r3=>
 (.lf (!r3)))) (fun b2=>
 (cn b2
 (lf 1)
 (bd (Afq L (⟨a0.Name,a0.Sites,a0.Links⟩:Ac) a1 a2 (⟨a3.Op,a3.A,a3.B,a3.C,(Ab.cp a3.E),(Ab.cp a3.F),a3.Args,a3.Dist,a3.Flag⟩:Bm)) fun r4=>
 (cn (r4 != 0)
 (lf r4)
 (bd (Amb L (⟨a3.Op,a3.A,a3.B,a3.C,(Ab.cp a3.E),(Ab.cp a3.F),a3.Args,a3.Dist,a3.Flag⟩:Bm)) fun r5=>
 (nx1 r5 r4))))))))
def Awl [An A Int](a0:Ac)(a1:Int)(a2:Ay)(a3:Bm):A:=Ae1 L a0 a1 a2 a3 (fun r5 r4=>bd (Ux L a1 r5 a0 a2 a3 L 0 r4 0) fun o8=>Vn L a3 o8)
def Amd(a0:Ac)(a1:Int)(a2:Ay)(a3:Bm):Option Int:=Awl L a0 a1 a2 a3
def X53:Di:=E4 I 53 B6 (cI .i64) Hc Hf (Amd L) fun a0 a1 a2 a3 r h=>hF Tryz.func53 (C:=O53 L) (oS _) L (fun kk=>eE (Ae1 L a0 a1 a2 a3 (fun r5 r4=>ho (Bol L (Bca L kk) a1 r5 a0 a2 a3 L (0,r4,0)) fun o8=>Bwq L kk a1 r5 a0 a2 a3 o8))) h
end
end Go.Proofs.YthjhkpgonleelaaGreatDoor.Ev
