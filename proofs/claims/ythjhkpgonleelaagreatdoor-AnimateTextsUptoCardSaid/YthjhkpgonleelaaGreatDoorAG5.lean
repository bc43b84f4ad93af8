import Derived.Test.YthjhkpgonleelaaGreatDoorAG1
import Derived.Test.YthjhkpgonleelaaGreatDoorAG2
import Derived.Test.YthjhkpgonleelaaGreatDoorAG4
namespace Go.Proofs.YthjhkpgonleelaaGreatDoor.Ev
open Go An
set_option maxRecDepth 100000
set_option maxHeartbeats 4000000
set_option linter.unusedVariables false
set_option linter.unusedSimpArgs false
set_option linter.unnecessarySimpa false
noncomputable section
variable {A:Type} (L n:Nat) (kk:Cc) (K:Bg) (k:Bu)
def Bt8:=CC Tryz.f159
def Bt1:=CC Tryz.f121
def Aze(L:Nat):Bi:=oL []
def A58(p1_0:List Aa)(p1_1:Ai)(p1_2:ByteArray)(v:C8):St:=⟨[(0,lv (.t66 p1_0)),(1,.clo 160 0 [.loc 3 0]),(4,I v.1),(7,I (p1_0.length:Int)),(8,I v.2)],[(2,(Bw p1_1)),(3,[S p1_2])],1004⟩
def Abk [An A Cq](L:Nat)(p1_0:List Aa)(p1_1:Ai)(p1_2:ByteArray)(rec:Int→Int→A)(Aw:Int)(Ag:Int):A:=
 (lw Ag p1_0
 (cn (((p1_0.getD (Int.toNat Ag) default).Name).toList == p1_2.toList)
 (lf (0,Ag,Ag))
 (rec Aw (Bo (Ag+1))))
 (lf (1,Aw,Ag)))
def Rw(L:Nat)(p1_0:List Aa)(p1_1:Ai)(p1_2:ByteArray):Nat→Int→Int→Option Cq
 |0,_,_=>none
 |n+1,Aw,Ag=>Abk L p1_0 p1_1 p1_2 (Rw L p1_0 p1_1 p1_2 n) Aw Ag
theorem Bid(p1_0:List Aa)(p1_1:Ai)(p1_2:ByteArray):LP (EV (Aze L) L 8 Bt8.u.l.u.l.l) [0,1,4,7,8] [2,3] (A58 p1_0 p1_1 p1_2) [.ret,.exit 0] (fun n v=>Rw L p1_0 p1_1 p1_2 n v.1 v.2) K:=lE (fun _=>rfl) fun n v ih=>eE (Abk L p1_0 p1_1 p1_2 (fun Aw Ag=>re (ih (Aw,Ag))) v.1 v.2)
def Ath(p1_0:List Aa)(p1_1:Ai)(p1_2:ByteArray)(k:Bu):Int→Prop:=fun o=>k (I o) [(2,(Bw p1_1)),(3,[S p1_2])]
def Sd [An A Int](L:Nat)(o1:Nat×C8):A:=
 (sl o1.1 [(lf o1.2.1),
 (lf (-1))])
def A3e:Bg:=(Bb 0 (Bp (EV (Aze L) L 8 Bt8.u.r) (Cx Tryz.prog (RS Tryz.f159) k)))
theorem Bpa(p1_0:List Aa)(p1_1:Ai)(p1_2:ByteArray)(o1:Nat×C8):kX [.ret,.exit 0] (A58 p1_0 p1_1 p1_2) (A3e L k) o1=ob (Sd L o1) (Ath p1_0 p1_1 p1_2 k):=eE (Sd L o1)
def An6 [An A Int](p1_0:List Aa)(p1_1:Ai)(p1_2:ByteArray):A:=(bd (Rw L p1_0 p1_1 p1_2 L 0 0) fun o1=>Sd L o1)
def Abb(p1_0:List Aa)(p1_1:Ai)(p1_2:ByteArray):Option Int:=An6 L p1_0 p1_1 p1_2
theorem Bhh(p1_0:List Aa)(p1_1:Ai)(p1_2:ByteArray):YO (Aze L) L 9 159 [lv (.t66 p1_0),.clo 160 0 [.loc 3 0]] [(2,(Bw p1_1)),(3,[S p1_2])] k=ob (Abb L p1_0 p1_1 p1_2) (Ath p1_0 p1_1 p1_2 k):=(Cu _ _ _ Xu _ _ _ _ _ _ _).trans (eE ((ho (Bid L (A3e L k) p1_0 p1_1 p1_2 L (0,0)) fun o1=>Bpa L k p1_0 p1_1 p1_2 o1)))
def Se [An A Int](L:Nat)(o2:Int):A:=
 (lf o2)
def A3f(a0:Ai)(a1:ByteArray):Bu:=(B2 Tryz.prog (Aze L) (EI (Aze L) L 9) 1 (List.drop 4 Bt1.u.l.ops) ⟨[(7,.clo 160 0 [.loc 3 0]),(6,lv (.t66 a0.Sites)),(5,.loc 2 2),(2,.loc 2 0),(3,.loc 3 0),(4,I 0)],[(2,(Bw a0)),(3,[S a1])],0⟩ (some 8) (fun st9=>(Bp (EV (Aze L) L 9 Bt1.u.r) (Ct Tryz.prog (RS Tryz.f121) kk)) .normal st9))
theorem Bpb(a0:Ai)(a1:ByteArray)(o2:Int):Ath a0.Sites a0 a1 (A3f L kk a0 a1) o2=ob (Se L o2) (kQ I kk):=eE (Se L o2)
def At3 [An A Int](a0:Ai)(a1:ByteArray):A:=(bd (Abb L a0.Sites a0 a1) fun o2=>Se L o2)
def w8(a0:Ai)(a1:ByteArray):Option Int:=At3 L a0 a1
def Bsc:Di:=E2 I 121 J8 cS (w8 L) fun a0 a1 r h=>hF Tryz.func121 (C:=Aze L) (oS _) L (fun kk=>eE ((ho (Bhh L (A3f L kk a0 a1) a0.Sites a0 a1) fun o2=>Bpb L kk a0 a1 o2))) h
def A7r:=CC Tryz.f119
def c61:=CC Tryz.f61
def O61:Bi:=oL [X95 L,Bsc L]
def A9i(p3_0:C9)(p3_1:Ai)(p3_2:List Cb)(p3_3:List Bool)(p3_4:C9)(k:Bu):Anv→Prop:=fun o=>k (I o.1) [(1,(Bw p3_1)),(3,[.mp 4]),(4,[.mapO true false (.t186 o.2.1) (.t4 o.2.2)]),(1013,(Hp p3_4)),(2017,(Hp p3_0)),(2019,[S p3_0.From,S p3_0.To])]
def Za [An A Anv](p3_0:C9)(p3_1:Ai)(p3_2:List Cb)(p3_3:List Bool)(p3_4:C9):A:=
 (bd (w8 L p3_1 p3_0.From) fun r1=>
 (jb (.cn (decide (r1 < 0))
 (.lf true)
 (.bd (w8 L p3_1 p3_0.To) fun r3=>
 (.lf (decide (r3 < 0))))) (fun b2=>
 (cn b2
 (lf (5,p3_2,p3_3))
 (cn (p3_0.From.toList == p3_0.To.toList)
 (lf (1,p3_2,p3_3))
 (bd (Br L p3_0.Delay 1 1000000000) fun r4=>
 (cn (!r4)
 (lf (2,p3_2,p3_3))
 (fq (p3_2.findIdx? fun b=>(p3_0.From == b.a0 && (p3_0.To == b.a1))) (fun i5=>
 (cn (p3_3.getD i5 default)
 (lf (4,p3_2,p3_3))
 (fq (p3_2.findIdx? fun b=>(p3_0.From == b.a0 && (p3_0.To == b.a1))) (fun i6=>
 (lf (0,p3_2,(p3_3.set i6 true))))
 (lf (0,(p3_2++ [(⟨p3_0.From,p3_0.To⟩:Cb)]),(p3_3++ [true]))))))
 (fq (p3_2.findIdx? fun b=>(p3_0.From == b.a0 && (p3_0.To == b.a1))) (fun i7=>
 (lf (0,p3_2,(p3_3.set i7 true))))
 (lf (0,(p3_2++ [(⟨p3_0.From,p3_0.To⟩:Cb)]),(p3_3++ [true]))))))))))))
def Zr(p3_0:C9)(p3_1:Ai)(p3_2:List Cb)(p3_3:List Bool)(p3_4:C9):Option Anv:=Za L p3_0 p3_1 p3_2 p3_3 p3_4
theorem Bnd(p3_0:C9)(p3_1:Ai)(p3_2:List Cb)(p3_3:List Bool)(p3_4:C9):YO (O61 L) L 8 120 [.agg (Hp p3_0),.loc 1 0,.loc 3 0] [(1,(Bw p3_1)),(3,[.mp 4]),(4,[.mapO true false (.t186 p3_2) (.t4 p3_3)]),(1013,(Hp p3_4))] k=ob (Zr L p3_0 p3_1 p3_2 p3_3 p3_4) (A9i p3_0 p3_1 p3_2 p3_3 p3_4 k):=(Cu _ _ _ Xu _ _ _ _ _ _ _).trans (eE (Za L p3_0 p3_1 p3_2 p3_3 p3_4))
def A1v(p1_0:List C9)(p1_1:Ai)(v:Azw):St:=⟨[(0,.any),(1,.any),(2,.clo 120 0 [.loc 1 0,.loc 3 0]),(6,I v.1),(14,lv (.t156 p1_0)),(15,I (p1_0.length:Int)),(16,I v.2.1)],[(1,(Bw p1_1)),(3,[.mp 4]),(4,[.mapO true false (.t186 v.2.2.1) (.t4 v.2.2.2)])],1005⟩
def Pf [An A (Nat×Azw)](L:Nat)(Ag:Int)(Ar:Int)(rec:Int→Int→List Cb→List Bool→A)(o8:Anv):A:=
 (cn (o8.1 != 0)
 (lf (0,o8.1,Ag,o8.2.1,o8.2.2))
 (rec Ar (Bo (Ag+1)) o8.2.1 o8.2.2))
def n3 [An A (Nat×Azw)](L:Nat)(p1_0:List C9)(p1_1:Ai)(rec:Int→Int→List Cb→List Bool→A)(Ar:Int)(Ag:Int)(Cl:List Cb)(Ec:List Bool)(nx3:Int→(List Cb)→(List Bool)→Int→A):A:=
 (lw Ag p1_0
 (nx3 Ag Cl Ec Ar)
 (lf (1,Ar,Ag,Cl,Ec)))
def Ak9 [An A (Nat×Azw)](p1_0:List C9)(p1_1:Ai)(rec:Int→Int→List Cb→List Bool→A)(Ar:Int)(Ag:Int)(Cl:List Cb)(Ec:List Bool):A:=n3 L p1_0 p1_1 rec Ar Ag Cl Ec (fun Ag Cl Ec Ar=>bd (Zr L (p1_0.getD (Int.toNat Ag) default) p1_1 Cl Ec (p1_0.getD (Int.toNat Ag) default)) fun o8=>Pf L Ag Ar rec o8)
def Ke(L:Nat)(p1_0:List C9)(p1_1:Ai):Nat→Int→Int→List Cb→List Bool→Option (Nat×Azw)
 |0,_,_,_,_=>none
 |n+1,Ar,Ag,Cl,Ec=>Ak9 L p1_0 p1_1 (Ke L p1_0 p1_1 n) Ar Ag Cl Ec
def A9g(p1_0:List C9)(p1_1:Ai):Prop:=LI (EV (O61 L) L 8 A7r.w.l.u.l.l) [0,1,2,6,14,15,16] [1,3,4] (A1v p1_0 p1_1) [.ret,.exit 0] (fun n v=>Ke L p1_0 p1_1 n v.1 v.2.1 v.2.2.1 v.2.2.2) K n
def Bcb(p1_0:List C9)(Ag:Int)(Ar:Int)(p1_1:Ai)(Cl:List Cb)(Ec:List Bool):Bu:=(B2 Tryz.prog (O61 L) (EI (O61 L) L 8) 1 (List.drop 3 A7r.w.l.u.l.l.w.l.l.u.l.ops) ⟨[(21,.agg (Hp (p1_0.getD (Int.toNat Ag) default))),(20,.clo 120 0 [.loc 1 0,.loc 3 0]),(2,.clo 120 0 [.loc 1 0,.loc 3 0]),(6,I Ar),(8,.loc 1013 0),(14,lv (.t156 p1_0)),(15,I (p1_0.length:Int)),(16,I Ag),(17,B (decide (Ag < (p1_0.length:Int)))),(18,.ref (Hp (p1_0.getD (Int.toNat Ag) default))),(19,.agg (Hp (p1_0.getD (Int.toNat Ag) default)))],[(1,(Bw p1_1)),(3,[.mp 4]),(4,[.mapO true false (.t186 Cl) (.t4 Ec)]),(1013,(Hp (p1_0.getD (Int.toNat Ag) default)))],1005⟩ (some 22) (fun st9=>(Bp (EV (O61 L) L 8 A7r.w.l.u.l.l.w.l.l.u.r) (Bb 1 (Bp (EV (O61 L) L 8 A7r.w.l.u.l.l.w.r) (D4 (Ep (EV (O61 L) L 8 A7r.w.l.u.l.l) [0,1,2,6,14,15,16] [1,3,4] n) [0,1,2,6,14,15,16] [1,3,4] K)))) .normal st9))
theorem Bwr(p1_0:List C9)(Ag:Int)(p1_1:Ai)(Cl:List Cb)(Ec:List Bool)(Ar:Int)(ih:A9g L n K p1_0 p1_1)(o8:Anv):A9i (p1_0.getD (Int.toNat Ag) default) p1_1 Cl Ec (p1_0.getD (Int.toNat Ag) default) (Bcb L n K p1_0 Ag Ar p1_1 Cl Ec) o8=ob (Pf L Ag Ar (Ke L p1_0 p1_1 n) o8) (kX [.ret,.exit 0] (A1v p1_0 p1_1) K):=eE (Pf L Ag Ar (fun Ar Ag Cl Ec=>re (ih (Ar,Ag,Cl,Ec))) o8)
theorem Bou(p1_0:List C9)(p1_1:Ai):∀n,A9g L n K p1_0 p1_1:=lE (fun _=>rfl) fun n v ih=>eE (n3 L p1_0 p1_1 (fun Ar Ag Cl Ec=>re (ih (Ar,Ag,Cl,Ec))) v.1 v.2.1 v.2.2.1 v.2.2.2 (fun Ag Cl Ec Ar=>ho (Bnd L (Bcb L n K p1_0 Ag Ar p1_1 Cl Ec) (p1_0.getD (Int.toNat Ag) default) p1_1 Cl Ec (p1_0.getD (Int.toNat Ag) default)) fun o8=>Bwr L n K p1_0 Ag p1_1 Cl Ec Ar ih o8))
def Azd(p1_0:List C9)(p1_1:Ai)(k:Bu):Anv→Prop:=fun o=>k (I o.1) [(1,(Bw p1_1)),(3,[.mp 4]),(4,[.mapO true false (.t186 o.2.1) (.t4 o.2.2)])]
def Pg [An A Anv](L:Nat)(o9:Nat×Azw):A:=
 (sl o9.1 [(lf (o9.2.1,o9.2.2.2.1,o9.2.2.2.2)),
 (lf (0,o9.2.2.2.1,o9.2.2.2.2))])
def Bcc:Bg:=(Bb 0 (Bp (EV (O61 L) L 8 A7r.w.r) (Cx Tryz.prog (RS Tryz.f119) k)))
theorem Bws(p1_0:List C9)(p1_1:Ai)(o9:Nat×Azw):kX [.ret,.exit 0] (A1v p1_0 p1_1) (Bcc L k) o9=ob (Pg L o9) (Azd p1_0 p1_1 k):=eE (Pg L o9)
def n5 [An A Anv](L:Nat)(p1_0:List C9)(p1_1:Ai)(nx4:A):A:=
 (cn (decide ((p1_0.length:Int) > 32))
 (lf (6,[],[]))
 nx4)
def Akq [An A Anv](p1_0:List C9)(p1_1:Ai):A:=n5 L p1_0 p1_1 (bd (Ke L p1_0 p1_1 L 0 0 [] []) fun o9=>Pg L o9)
def Zq(p1_0:List C9)(p1_1:Ai):Option Anv:=Akq L p1_0 p1_1
theorem Bnc(p1_0:List C9)(p1_1:Ai):YO (O61 L) L 9 119 [lv (.t156 p1_0),I 32,.clo 120 0 [.loc 1 0,.loc 3 0]] [(1,(Bw p1_1)),(3,[.mp 4]),(4,[.mapO true false (.t186 []) (.t4 [])])] k=ob (Zq L p1_0 p1_1) (Azd p1_0 p1_1 k):=(Cu _ _ _ Xu _ _ _ _ _ _ _).trans (eE (n5 L p1_0 p1_1 (ho (Bou L (Bcc L k) p1_0 p1_1 L (0,0,[],[])) fun o9=>Bws L k p1_0 p1_1 o9)))
def Ph [An A Int](L:Nat)(o10:Anv):A:=
 (lf o10.1)
def Bcd(a0:Ai):Bu:=(B2 Tryz.prog (O61 L) (EI (O61 L) L 9) 1 (List.drop 4 c61.w.l.ops) ⟨[(7,.clo 120 0 [.loc 1 0,.loc 3 0]),(6,lv (.t156 a0.Links)),(5,.loc 1 3),(1,.loc 1 0),(2,I 0),(3,.loc 3 0)],[(1,(Bw a0)),(3,[.mp 4]),(4,[.mapO true false (.t186 []) (.t4 [])])],0⟩ (some 8) (fun st9=>(Bp (EV (O61 L) L 9 c61.w.r) (Ct Tryz.prog (RS Tryz.f61) kk)) .normal st9))
theorem Bwt(a0:Ai)(o10:Anv):Azd a0.Links a0 (Bcd L kk a0) o10=ob (Ph L o10) (kQ I kk):=eE (Ph L o10)
def Arq [An A Int](a0:Ai):A:=(bd (Zq L a0.Links a0) fun o10=>Ph L o10)
def Aft(a0:Ai):Option Int:=Arq L a0
def X61:Di:=E1 I 61 J8 (Aft L) fun a0 r h=>hF Tryz.func61 (C:=O61 L) (oS _) L (fun kk=>eE ((ho (Bnc L (Bcd L kk a0) a0.Links a0) fun o10=>Bwt L kk a0 o10))) h
def c57:=CC Tryz.f57
def c58:=CC Tryz.f58
def c36:=CC Tryz.f36
def x9:Bi:=oL [X35 L,X60 L,X61 L,Bfl L,Bfm L]
def A9h(p7_0:ByteArray)(p7_1:Ai)(p7_2:List ByteArray)(p7_3:List Bool)(p7_4:Av)(p7_5:Av)(k:Bu):Cj→Prop:=fun o=>k (I o.1) [(1,(Bw p7_1)),(13,[.mapO false false (.t9 o.2.1) (.t4 o.2.2)]),(1022,(B9 p7_4)),(2026,(B9 p7_5))]
def Y8 [An A Cj](p7_0:ByteArray)(p7_1:Ai)(p7_2:List ByteArray)(p7_3:List Bool)(p7_4:Av)(p7_5:Av):A:=
 (bd (Cy L p7_0) fun r2=>
 (cn (r2 != 0)
 (lf (r2,p7_2,p7_3))
 (fq (p7_2.findIdx? fun b=>p7_0 == b) (fun i3=>
 (cn (p7_3.getD i3 default)
 (lf (4,p7_2,p7_3))
 (fq (p7_2.findIdx? fun b=>p7_0 == b) (fun i4=>
 (lf (0,p7_2,(p7_3.set i4 true))))
 (lf (0,(p7_2++ [p7_0]),(p7_3++ [true]))))))
 (fq (p7_2.findIdx? fun b=>p7_0 == b) (fun i5=>
 (lf (0,p7_2,(p7_3.set i5 true))))
 (lf (0,(p7_2++ [p7_0]),(p7_3++ [true])))))))
def Zm(p7_0:ByteArray)(p7_1:Ai)(p7_2:List ByteArray)(p7_3:List Bool)(p7_4:Av)(p7_5:Av):Option Cj:=Y8 L p7_0 p7_1 p7_2 p7_3 p7_4 p7_5
theorem Bm8(p7_0:ByteArray)(p7_1:Ai)(p7_2:List ByteArray)(p7_3:List Bool)(p7_4:Av)(p7_5:Av):YO (x9 L) L 6 59 [.mp 13,S p7_0] [(1,(Bw p7_1)),(13,[.mapO false false (.t9 p7_2) (.t4 p7_3)]),(1022,(B9 p7_4)),(2026,(B9 p7_5))] k=ob (Zm L p7_0 p7_1 p7_2 p7_3 p7_4 p7_5) (A9h p7_0 p7_1 p7_2 p7_3 p7_4 p7_5 k):=(Cu _ _ _ Xu _ _ _ _ _ _ _).trans (eE (Y8 L p7_0 p7_1 p7_2 p7_3 p7_4 p7_5))
def Aza(p5_0:Av)(p5_1:Ai)(p5_2:List ByteArray)(p5_3:List Bool)(p5_4:Av)(k:Bu):Cj→Prop:=fun o=>k (I o.1) [(1,(Bw p5_1)),(13,[.mapO false false (.t9 o.2.1) (.t4 o.2.2)]),(1022,(B9 p5_4)),(2026,(B9 p5_0))]
def O6 [An A Cj](p5_0:Av)(o6:Cj):A:=
 (cn (o6.1 != 0)
 (lf (o6.1,o6.2.1,o6.2.2))
 (bd (P2 L p5_0.Type_) fun r7=>
 (cn (!r7)
 (lf (1,o6.2.1,o6.2.2))
 (bd (S2 L p5_0.Type_ p5_0.N) fun r8=>
 (cn (!r8)
 (lf (2,o6.2.1,o6.2.2))
 (lf (0,o6.2.1,o6.2.2)))))))
def Bbw(p5_0:Av)(p5_1:Ai)(p5_2:List ByteArray)(p5_3:List Bool)(p5_4:Av):Bu:=(B2 Tryz.prog (x9 L) (EI (x9 L) L 6) 1 (List.drop 4 c87.u.l.l.ops) ⟨[(8,S p5_0.Name),(7,.loc 2026 0),(6,.mp 13),(0,.mp 13),(3,.loc 2026 0),(4,I 0)],[(1,(Bw p5_1)),(13,[.mapO false false (.t9 p5_2) (.t4 p5_3)]),(1022,(B9 p5_4)),(2026,(B9 p5_0))],2023⟩ (some 9) (fun st9=>(Bp (EV (x9 L) L 6 c87.u.l.r) (Bp (EV (x9 L) L 6 c87.u.r) (Cx Tryz.prog (RS Tryz.f87) k))) .normal st9))
theorem Bwc(p5_0:Av)(p5_1:Ai)(p5_2:List ByteArray)(p5_3:List Bool)(p5_4:Av)(o6:Cj):A9h p5_0.Name p5_1 p5_2 p5_3 p5_4 p5_0 (Bbw L k p5_0 p5_1 p5_2 p5_3 p5_4) o6=ob (O6 L p5_0 o6) (Aza p5_0 p5_1 p5_2 p5_3 p5_4 k):=eE (O6 L p5_0 o6)
def Akn [An A Cj](p5_0:Av)(p5_1:Ai)(p5_2:List ByteArray)(p5_3:List Bool)(p5_4:Av):A:=(bd (Zm L p5_0.Name p5_1 p5_2 p5_3 p5_4 p5_0) fun o6=>O6 L p5_0 o6)
def Zl(p5_0:Av)(p5_1:Ai)(p5_2:List ByteArray)(p5_3:List Bool)(p5_4:Av):Option Cj:=Akn L p5_0 p5_1 p5_2 p5_3 p5_4
theorem Bm7(p5_0:Av)(p5_1:Ai)(p5_2:List ByteArray)(p5_3:List Bool)(p5_4:Av):YO (x9 L) L 7 87 [.mp 13,.agg (B9 p5_0)] [(1,(Bw p5_1)),(13,[.mapO false false (.t9 p5_2) (.t4 p5_3)]),(1022,(B9 p5_4))] k=ob (Zl L p5_0 p5_1 p5_2 p5_3 p5_4) (Aza p5_0 p5_1 p5_2 p5_3 p5_4 k):=(Cu _ _ _ Xu _ _ _ _ _ _ _).trans (eE ((ho (Bm8 L (Bbw L k p5_0 p5_1 p5_2 p5_3 p5_4) p5_0.Name p5_1 p5_2 p5_3 p5_4 p5_0) fun o6=>Bwc L k p5_0 p5_1 p5_2 p5_3 p5_4 o6)))
def A1l(p1_0:List Av)(p1_1:Ai)(v:T1):St:=⟨[(0,.any),(1,.any),(2,.clo 87 1 [.mp 13]),(6,I v.1),(14,lv (.t123 p1_0)),(15,I (p1_0.length:Int)),(16,I v.2.1)],[(1,(Bw p1_1)),(13,[.mapO false false (.t9 v.2.2.1) (.t4 v.2.2.2)])],1014⟩
def O7 [An A Hn](L:Nat)(Ag:Int)(Ar:Int)(rec:Int→Int→List ByteArray→List Bool→A)(o9:Cj):A:=
 (cn (o9.1 != 0)
 (lf (0,o9.1,Ag,o9.2.1,o9.2.2))
 (rec Ar (Bo (Ag+1)) o9.2.1 o9.2.2))
def l8 [An A Hn](L:Nat)(p1_0:List Av)(p1_1:Ai)(rec:Int→Int→List ByteArray→List Bool→A)(Ar:Int)(Ag:Int)(Cl:List ByteArray)(Ec:List Bool)(nx7:Int→(List ByteArray)→(List Bool)→Int→A):A:=
 (lw Ag p1_0
 (nx7 Ag Cl Ec Ar)
 (lf (1,Ar,Ag,Cl,Ec)))
def Ak7 [An A Hn](p1_0:List Av)(p1_1:Ai)(rec:Int→Int→List ByteArray→List Bool→A)(Ar:Int)(Ag:Int)(Cl:List ByteArray)(Ec:List Bool):A:=l8 L p1_0 p1_1 rec Ar Ag Cl Ec (fun Ag Cl Ec Ar=>bd (Zl L (p1_0.getD (Int.toNat Ag) default) p1_1 Cl Ec (p1_0.getD (Int.toNat Ag) default)) fun o9=>O7 L Ag Ar rec o9)
def Kc(L:Nat)(p1_0:List Av)(p1_1:Ai):Nat→Int→Int→List ByteArray→List Bool→Option Hn
 |0,_,_,_,_=>none
 |n+1,Ar,Ag,Cl,Ec=>Ak7 L p1_0 p1_1 (Kc L p1_0 p1_1 n) Ar Ag Cl Ec
def A86(p1_0:List Av)(p1_1:Ai):Prop:=LI (EV (x9 L) L 7 c86.w.l.u.l.l) [0,1,2,6,14,15,16] [1,13] (A1l p1_0 p1_1) [.ret,.exit 0] (fun n v=>Kc L p1_0 p1_1 n v.1 v.2.1 v.2.2.1 v.2.2.2) K n
def Bbx(p1_0:List Av)(Ag:Int)(Ar:Int)(p1_1:Ai)(Cl:List ByteArray)(Ec:List Bool):Bu:=(B2 Tryz.prog (x9 L) (EI (x9 L) L 7) 1 (List.drop 3 c86.w.l.u.l.l.w.l.l.u.l.ops) ⟨[(21,.agg (B9 (p1_0.getD (Int.toNat Ag) default))),(20,.clo 87 1 [.mp 13]),(2,.clo 87 1 [.mp 13]),(6,I Ar),(8,.loc 1022 0),(14,lv (.t123 p1_0)),(15,I (p1_0.length:Int)),(16,I Ag),(17,B (decide (Ag < (p1_0.length:Int)))),(18,.ref (B9 (p1_0.getD (Int.toNat Ag) default))),(19,.agg (B9 (p1_0.getD (Int.toNat Ag) default)))],[(1,(Bw p1_1)),(13,[.mapO false false (.t9 Cl) (.t4 Ec)]),(1022,(B9 (p1_0.getD (Int.toNat Ag) default)))],1014⟩ (some 22) (fun st9=>(Bp (EV (x9 L) L 7 c86.w.l.u.l.l.w.l.l.u.r) (Bb 1 (Bp (EV (x9 L) L 7 c86.w.l.u.l.l.w.r) (D4 (Ep (EV (x9 L) L 7 c86.w.l.u.l.l) [0,1,2,6,14,15,16] [1,13] n) [0,1,2,6,14,15,16] [1,13] K)))) .normal st9))
theorem Bwd(p1_0:List Av)(Ag:Int)(p1_1:Ai)(Cl:List ByteArray)(Ec:List Bool)(Ar:Int)(ih:A86 L n K p1_0 p1_1)(o9:Cj):Aza (p1_0.getD (Int.toNat Ag) default) p1_1 Cl Ec (p1_0.getD (Int.toNat Ag) default) (Bbx L n K p1_0 Ag Ar p1_1 Cl Ec) o9=ob (O7 L Ag Ar (Kc L p1_0 p1_1 n) o9) (kX [.ret,.exit 0] (A1l p1_0 p1_1) K):=eE (O7 L Ag Ar (fun Ar Ag Cl Ec=>re (ih (Ar,Ag,Cl,Ec))) o9)
theorem Boa(p1_0:List Av)(p1_1:Ai):∀n,A86 L n K p1_0 p1_1:=lE (fun _=>rfl) fun n v ih=>eE (l8 L p1_0 p1_1 (fun Ar Ag Cl Ec=>re (ih (Ar,Ag,Cl,Ec))) v.1 v.2.1 v.2.2.1 v.2.2.2 (fun Ag Cl Ec Ar=>ho (Bm7 L (Bbx L n K p1_0 Ag Ar p1_1 Cl Ec) (p1_0.getD (Int.toNat Ag) default) p1_1 Cl Ec (p1_0.getD (Int.toNat Ag) default)) fun o9=>Bwd L n K p1_0 Ag p1_1 Cl Ec Ar ih o9))
def Ay9(p1_0:List Av)(p1_1:Ai)(k:Bu):Cj→Prop:=fun o=>k (I o.1) [(1,(Bw p1_1)),(13,[.mapO false false (.t9 o.2.1) (.t4 o.2.2)])]
def O8 [An A Cj](L:Nat)(o10:Nat×T1):A:=
 (sl o10.1 [(lf (o10.2.1,o10.2.2.2.1,o10.2.2.2.2)),
 (lf (0,o10.2.2.2.1,o10.2.2.2.2))])
def Bby:Bg:=(Bb 0 (Bp (EV (x9 L) L 7 c86.w.r) (Cx Tryz.prog (RS Tryz.f86) k)))
theorem Bwe(p1_0:List Av)(p1_1:Ai)(o10:Nat×T1):kX [.ret,.exit 0] (A1l p1_0 p1_1) (Bby L k) o10=ob (O8 L o10) (Ay9 p1_0 p1_1 k):=eE (O8 L o10)
def l9 [An A Cj](L:Nat)(p1_0:List Av)(p1_1:Ai)(nx8:A):A:=
 (cn (decide ((p1_0.length:Int) > 32))
 (lf (6,[],[]))
 nx8)
def Akm [An A Cj](p1_0:List Av)(p1_1:Ai):A:=l9 L p1_0 p1_1 (bd (Kc L p1_0 p1_1 L 0 0 [] []) fun o10=>O8 L o10)
def Zk(p1_0:List Av)(p1_1:Ai):Option Cj:=Akm L p1_0 p1_1
theorem Bm6(p1_0:List Av)(p1_1:Ai):YO (x9 L) L 8 86 [lv (.t123 p1_0),I 32,.clo 87 1 [.mp 13]] [(1,(Bw p1_1)),(13,[.mapO false false (.t9 []) (.t4 [])])] k=ob (Zk L p1_0 p1_1) (Ay9 p1_0 p1_1 k):=(Cu _ _ _ Xu _ _ _ _ _ _ _).trans (eE (l9 L p1_0 p1_1 (ho (Boa L (Bby L k) p1_0 p1_1 L (0,0,[],[])) fun o10=>Bwe L k p1_0 p1_1 o10)))
def A2d(p14_0:ByteArray)(p14_1:Ai)(p14_2:List ByteArray)(p14_3:List Bool)(p14_4:List ByteArray)(p14_5:List Bool)(p14_6:Aa)(p14_7:Aa)(k:Bu):Cj→Prop:=fun o=>k (I o.1) [(1,(Bw p14_1)),(5,[.mp 24]),(13,[.mapO false false (.t9 p14_2) (.t4 p14_3)]),(24,[.mapO false false (.t9 o.2.1) (.t4 o.2.2)]),(1033,(Ad p14_6)),(2036,(Ad p14_7))]
def Wj [An A Cj](p14_0:ByteArray)(p14_1:Ai)(p14_2:List ByteArray)(p14_3:List Bool)(p14_4:List ByteArray)(p14_5:List Bool)(p14_6:Aa)(p14_7:Aa):A:=
 (bd (Cy L p14_0) fun r12=>
 (cn (r12 != 0)
 (lf (r12,p14_4,p14_5))
 (fq (p14_4.findIdx? fun b=>p14_0 == b) (fun i13=>
 (cn (p14_5.getD i13 default)
 (lf (4,p14_4,p14_5))
 (fq (p14_4.findIdx? fun b=>p14_0 == b) (fun i14=>
 (lf (0,p14_4,(p14_5.set i14 true))))
 (lf (0,(p14_4++ [p14_0]),(p14_5++ [true]))))))
 (fq (p14_4.findIdx? fun b=>p14_0 == b) (fun i15=>
 (lf (0,p14_4,(p14_5.set i15 true))))
 (lf (0,(p14_4++ [p14_0]),(p14_5++ [true])))))))
def Wl(p14_0:ByteArray)(p14_1:Ai)(p14_2:List ByteArray)(p14_3:List Bool)(p14_4:List ByteArray)(p14_5:List Bool)(p14_6:Aa)(p14_7:Aa):Option Cj:=Wj L p14_0 p14_1 p14_2 p14_3 p14_4 p14_5 p14_6 p14_7
theorem Bhm(p14_0:ByteArray)(p14_1:Ai)(p14_2:List ByteArray)(p14_3:List Bool)(p14_4:List ByteArray)(p14_5:List Bool)(p14_6:Aa)(p14_7:Aa):YO (x9 L) L 7 59 [.mp 24,S p14_0] [(1,(Bw p14_1)),(5,[.mp 24]),(13,[.mapO false false (.t9 p14_2) (.t4 p14_3)]),(24,[.mapO false false (.t9 p14_4) (.t4 p14_5)]),(1033,(Ad p14_6)),(2036,(Ad p14_7))] k=ob (Wl L p14_0 p14_1 p14_2 p14_3 p14_4 p14_5 p14_6 p14_7) (A2d p14_0 p14_1 p14_2 p14_3 p14_4 p14_5 p14_6 p14_7 k):=(Cu _ _ _ Xu _ _ _ _ _ _ _).trans (eE (Wj L p14_0 p14_1 p14_2 p14_3 p14_4 p14_5 p14_6 p14_7))
def Atl(p12_0:Aa)(p12_1:Ai)(p12_2:List ByteArray)(p12_3:List Bool)(p12_4:List ByteArray)(p12_5:List Bool)(p12_6:Aa)(k:Bu):Cj→Prop:=fun o=>k (I o.1) [(1,(Bw p12_1)),(5,[.mp 24]),(13,[.mapO false false (.t9 p12_2) (.t4 p12_3)]),(24,[.mapO false false (.t9 o.2.1) (.t4 o.2.2)]),(1033,(Ad p12_6)),(2036,(Ad p12_0))]
def Np [An A Cj](p12_0:Aa)(o16:Cj):A:=
 (cn (o16.1 != 0)
 (lf (o16.1,o16.2.1,o16.2.2))
 (bd (Aij L p12_0) fun r17=>
 (lf (r17,o16.2.1,o16.2.2))))
def A43(p12_0:Aa)(p12_1:Ai)(p12_2:List ByteArray)(p12_3:List Bool)(p12_4:List ByteArray)(p12_5:List Bool)(p12_6:Aa):Bu:=(B2 Tryz.prog (x9 L) (EI (x9 L) L 7) 1 (List.drop 4 c58.u.l.l.ops) ⟨[(7,S p12_0.Name),(6,.loc 2036 0),(5,.mp 24),(1,.loc 5 0),(2,.loc 2036 0),(3,I 0)],[(1,(Bw p12_1)),(5,[.mp 24]),(13,[.mapO false false (.t9 p12_2) (.t4 p12_3)]),(24,[.mapO false false (.t9 p12_4) (.t4 p12_5)]),(1033,(Ad p12_6)),(2036,(Ad p12_0))],2034⟩ (some 8) (fun st9=>(Bp (EV (x9 L) L 7 c58.u.l.r) (Bp (EV (x9 L) L 7 c58.u.r) (Cx Tryz.prog (RS Tryz.f58) k))) .normal st9))
theorem Bqz(p12_0:Aa)(p12_1:Ai)(p12_2:List ByteArray)(p12_3:List Bool)(p12_4:List ByteArray)(p12_5:List Bool)(p12_6:Aa)(o16:Cj):A2d p12_0.Name p12_1 p12_2 p12_3 p12_4 p12_5 p12_6 p12_0 (A43 L k p12_0 p12_1 p12_2 p12_3 p12_4 p12_5 p12_6) o16=ob (Np L p12_0 o16) (Atl p12_0 p12_1 p12_2 p12_3 p12_4 p12_5 p12_6 k):=eE (Np L p12_0 o16)
def Ajm [An A Cj](p12_0:Aa)(p12_1:Ai)(p12_2:List ByteArray)(p12_3:List Bool)(p12_4:List ByteArray)(p12_5:List Bool)(p12_6:Aa):A:=(bd (Wl L p12_0.Name p12_1 p12_2 p12_3 p12_4 p12_5 p12_6 p12_0) fun o16=>Np L p12_0 o16)
def Wk(p12_0:Aa)(p12_1:Ai)(p12_2:List ByteArray)(p12_3:List Bool)(p12_4:List ByteArray)(p12_5:List Bool)(p12_6:Aa):Option Cj:=Ajm L p12_0 p12_1 p12_2 p12_3 p12_4 p12_5 p12_6
theorem Bhl(p12_0:Aa)(p12_1:Ai)(p12_2:List ByteArray)(p12_3:List Bool)(p12_4:List ByteArray)(p12_5:List Bool)(p12_6:Aa):YO (x9 L) L 8 58 [.agg (Ad p12_0),.loc 5 0] [(1,(Bw p12_1)),(5,[.mp 24]),(13,[.mapO false false (.t9 p12_2) (.t4 p12_3)]),(24,[.mapO false false (.t9 p12_4) (.t4 p12_5)]),(1033,(Ad p12_6))] k=ob (Wk L p12_0 p12_1 p12_2 p12_3 p12_4 p12_5 p12_6) (Atl p12_0 p12_1 p12_2 p12_3 p12_4 p12_5 p12_6 k):=(Cu _ _ _ Xu _ _ _ _ _ _ _).trans (eE ((ho (Bhm L (A43 L k p12_0 p12_1 p12_2 p12_3 p12_4 p12_5 p12_6) p12_0.Name p12_1 p12_2 p12_3 p12_4 p12_5 p12_6 p12_0) fun o16=>Bqz L k p12_0 p12_1 p12_2 p12_3 p12_4 p12_5 p12_6 o16)))
def A1m(p8_0:List Aa)(p8_1:Ai)(p8_2:List ByteArray)(p8_3:List Bool)(v:T1):St:=⟨[(0,.any),(1,.any),(2,.clo 58 0 [.loc 5 0]),(6,I v.1),(14,lv (.t66 p8_0)),(15,I (p8_0.length:Int)),(16,I v.2.1)],[(1,(Bw p8_1)),(5,[.mp 24]),(13,[.mapO false false (.t9 p8_2) (.t4 p8_3)]),(24,[.mapO false false (.t9 v.2.2.1) (.t4 v.2.2.2)])],1025⟩
def Nq [An A Hn](L:Nat)(Bt:Int)(Cm:Int)(rec:Int→Int→List ByteArray→List Bool→A)(o18:Cj):A:=
 (cn (o18.1 != 0)
 (lf (0,o18.1,Bt,o18.2.1,o18.2.2))
 (rec Cm (Bo (Bt+1)) o18.2.1 o18.2.2))
def Xb [An A Hn](L:Nat)(p8_0:List Aa)(p8_1:Ai)(p8_2:List ByteArray)(p8_3:List Bool)(rec:Int→Int→List ByteArray→List Bool→A)(Cm:Int)(Bt:Int)(K5:List ByteArray)(K6:List Bool)(nx16:Int→(List ByteArray)→(List Bool)→Int→A):A:=
 (lw Bt p8_0
 (nx16 Bt K5 K6 Cm)
 (lf (1,Cm,Bt,K5,K6)))
def Ak8 [An A Hn](p8_0:List Aa)(p8_1:Ai)(p8_2:List ByteArray)(p8_3:List Bool)(rec:Int→Int→List ByteArray→List Bool→A)(Cm:Int)(Bt:Int)(K5:List ByteArray)(K6:List Bool):A:=Xb L p8_0 p8_1 p8_2 p8_3 rec Cm Bt K5 K6 (fun Bt K5 K6 Cm=>bd (Wk L (p8_0.getD (Int.toNat Bt) default) p8_1 p8_2 p8_3 K5 K6 (p8_0.getD (Int.toNat Bt) default)) fun o18=>Nq L Bt Cm rec o18)
def Kd(L:Nat)(p8_0:List Aa)(p8_1:Ai)(p8_2:List ByteArray)(p8_3:List Bool):Nat→Int→Int→List ByteArray→List Bool→Option Hn
 |0,_,_,_,_=>none
 |n+1,Cm,Bt,K5,K6=>Ak8 L p8_0 p8_1 p8_2 p8_3 (Kd L p8_0 p8_1 p8_2 p8_3 n) Cm Bt K5 K6
def A87(p8_0:List Aa)(p8_1:Ai)(p8_2:List ByteArray)(p8_3:List Bool):Prop:=LI (EV (x9 L) L 8 c57.w.l.u.l.l) [0,1,2,6,14,15,16] [1,5,13,24] (A1m p8_0 p8_1 p8_2 p8_3) [.ret,.exit 0] (fun n v=>Kd L p8_0 p8_1 p8_2 p8_3 n v.1 v.2.1 v.2.2.1 v.2.2.2) K n
def A44(p8_0:List Aa)(Bt:Int)(Cm:Int)(p8_1:Ai)(p8_2:List ByteArray)(p8_3:List Bool)(K5:List ByteArray)(K6:List Bool):Bu:=(B2 Tryz.prog (x9 L) (EI (x9 L) L 8) 1 (List.drop 3 c57.w.l.u.l.l.w.l.l.u.l.ops) ⟨[(21,.agg (Ad (p8_0.getD (Int.toNat Bt) default))),(20,.clo 58 0 [.loc 5 0]),(2,.clo 58 0 [.loc 5 0]),(6,I Cm),(8,.loc 1033 0),(14,lv (.t66 p8_0)),(15,I (p8_0.length:Int)),(16,I Bt),(17,B (decide (Bt < (p8_0.length:Int)))),(18,.ref (Ad (p8_0.getD (Int.toNat Bt) default))),(19,.agg (Ad (p8_0.getD (Int.toNat Bt) default)))],[(1,(Bw p8_1)),(5,[.mp 24]),(13,[.mapO false false (.t9 p8_2) (.t4 p8_3)]),(24,[.mapO false false (.t9 K5) (.t4 K6)]),(1033,(Ad (p8_0.getD (Int.toNat Bt) default)))],1025⟩ (some 22) (fun st9=>(Bp (EV (x9 L) L 8 c57.w.l.u.l.l.w.l.l.u.r) (Bb 1 (Bp (EV (x9 L) L 8 c57.w.l.u.l.l.w.r) (D4 (Ep (EV (x9 L) L 8 c57.w.l.u.l.l) [0,1,2,6,14,15,16] [1,5,13,24] n) [0,1,2,6,14,15,16] [1,5,13,24] K)))) .normal st9))
theorem Bq0(p8_0:List Aa)(Bt:Int)(p8_1:Ai)(p8_2:List ByteArray)(p8_3:List Bool)(K5:List ByteArray)(K6:List Bool)(Cm:Int)(ih:A87 L n K p8_0 p8_1 p8_2 p8_3)(o18:Cj):Atl (p8_0.getD (Int.toNat Bt) default) p8_1 p8_2 p8_3 K5 K6 (p8_0.getD (Int.toNat Bt) default) (A44 L n K p8_0 Bt Cm p8_1 p8_2 p8_3 K5 K6) o18=ob (Nq L Bt Cm (Kd L p8_0 p8_1 p8_2 p8_3 n) o18) (kX [.ret,.exit 0] (A1m p8_0 p8_1 p8_2 p8_3) K):=eE (Nq L Bt Cm (fun Cm Bt K5 K6=>re (ih (Cm,Bt,K5,K6))) o18)
theorem Bob(p8_0:List Aa)(p8_1:Ai)(p8_2:List ByteArray)(p8_3:List Bool):∀n,A87 L n K p8_0 p8_1 p8_2 p8_3:=lE (fun _=>rfl) fun n v ih=>eE (Xb L p8_0 p8_1 p8_2 p8_3 (fun Cm Bt K5 K6=>re (ih (Cm,Bt,K5,K6))) v.1 v.2.1 v.2.2.1 v.2.2.2 (fun Bt K5 K6 Cm=>ho (Bhl L (A44 L n K p8_0 Bt Cm p8_1 p8_2 p8_3 K5 K6) (p8_0.getD (Int.toNat Bt) default) p8_1 p8_2 p8_3 K5 K6 (p8_0.getD (Int.toNat Bt) default)) fun o18=>Bq0 L n K p8_0 Bt p8_1 p8_2 p8_3 K5 K6 Cm ih o18))
def Azb(p8_0:List Aa)(p8_1:Ai)(p8_2:List ByteArray)(p8_3:List Bool)(k:Bu):Cj→Prop:=fun o=>k (I o.1) [(1,(Bw p8_1)),(5,[.mp 24]),(13,[.mapO false false (.t9 p8_2) (.t4 p8_3)]),(24,[.mapO false false (.t9 o.2.1) (.t4 o.2.2)])]
def Nr [An A Cj](L:Nat)(o19:Nat×T1):A:=
 (sl o19.1 [(lf (o19.2.1,o19.2.2.2.1,o19.2.2.2.2)),
 (lf (0,o19.2.2.2.1,o19.2.2.2.2))])
def A45:Bg:=(Bb 0 (Bp (EV (x9 L) L 8 c57.w.r) (Cx Tryz.prog (RS Tryz.f57) k)))
theorem Bq1(p8_0:List Aa)(p8_1:Ai)(p8_2:List ByteArray)(p8_3:List Bool)(o19:Nat×T1):kX [.ret,.exit 0] (A1m p8_0 p8_1 p8_2 p8_3) (A45 L k) o19=ob (Nr L o19) (Azb p8_0 p8_1 p8_2 p8_3 k):=eE (Nr L o19)
def Xc [An A Cj](L:Nat)(p8_0:List Aa)(p8_1:Ai)(p8_2:List ByteArray)(p8_3:List Bool)(nx17:A):A:=
 (cn (decide ((p8_0.length:Int) > 16))
 (lf (6,[],[]))
 nx17)
def Ako [An A Cj](p8_0:List Aa)(p8_1:Ai)(p8_2:List ByteArray)(p8_3:List Bool):A:=Xc L p8_0 p8_1 p8_2 p8_3 (bd (Kd L p8_0 p8_1 p8_2 p8_3 L 0 0 [] []) fun o19=>Nr L o19)
def Zn(p8_0:List Aa)(p8_1:Ai)(p8_2:List ByteArray)(p8_3:List Bool):Option Cj:=Ako L p8_0 p8_1 p8_2 p8_3
theorem Bm9(p8_0:List Aa)(p8_1:Ai)(p8_2:List ByteArray)(p8_3:List Bool):YO (x9 L) L 9 57 [lv (.t66 p8_0),I 16,.clo 58 0 [.loc 5 0]] [(1,(Bw p8_1)),(5,[.mp 24]),(13,[.mapO false false (.t9 p8_2) (.t4 p8_3)]),(24,[.mapO false false (.t9 []) (.t4 [])])] k=ob (Zn L p8_0 p8_1 p8_2 p8_3) (Azb p8_0 p8_1 p8_2 p8_3 k):=(Cu _ _ _ Xu _ _ _ _ _ _ _).trans (eE (Xc L p8_0 p8_1 p8_2 p8_3 (ho (Bob L (A45 L k) p8_0 p8_1 p8_2 p8_3 L (0,0,[],[])) fun o19=>Bq1 L k p8_0 p8_1 p8_2 p8_3 o19)))
def Ns [An A Int](a0:Ai)(o20:Cj):A:=
 (cn (o20.1 != 0)
 (lf o20.1)
 (bd (Aft L a0) fun r21=>
 (lf r21)))
def A46(a0:Ai)(o11:Cj):Bu:=(B2 Tryz.prog (x9 L) (EI (x9 L) L 9) 1 (List.drop 4 c36.x.u.l.ops) ⟨[(27,.clo 58 0 [.loc 5 0]),(26,lv (.t66 a0.Sites)),(25,.loc 1 2),(1,.loc 1 0),(2,I 0),(5,.loc 5 0)],[(1,(Bw a0)),(5,[.mp 24]),(13,[.mapO false false (.t9 o11.2.1) (.t4 o11.2.2)]),(24,[.mapO false false (.t9 []) (.t4 [])])],0⟩ (some 28) (fun st9=>(Bp (EV (x9 L) L 9 c36.x.u.r) (Ct Tryz.prog (RS Tryz.f36) kk)) .normal st9))
theorem Bq2(a0:Ai)(o11:Cj)(o20:Cj):Azb a0.Sites a0 o11.2.1 o11.2.2 (A46 L kk a0 o11) o20=ob (Ns L a0 o20) (kQ I kk):=eE (Ns L a0 o20)
def Xd [An A Int](L:Nat)(a0:Ai)(o11:Cj)(nx18:Cj→A):A:=
 (cn (o11.1 != 0)
 (lf o11.1)
 (cn ((a0.Sites.length:Int) == 0)
 (lf 7)
 (nx18 o11)))
def g8 [An A Int](a0:Ai)(o11:Cj):A:=Xd L a0 o11 (fun o11=>bd (Zn L a0.Sites a0 o11.2.1 o11.2.2) fun o20=>Ns L a0 o20)
def Bbz(a0:Ai):Bu:=(B2 Tryz.prog (x9 L) (EI (x9 L) L 8) 1 (List.drop 4 c56.u.l.ops) ⟨[(7,.clo 87 1 [.mp 13]),(6,.mp 13),(5,lv (.t123 a0.Params)),(0,.mp 13),(1,lv (.t123 a0.Params)),(4,I 0)],[(1,(Bw a0)),(13,[.mapO false false (.t9 []) (.t4 [])])],1014⟩ (some 8) (fun st9=>(Bp (EV (x9 L) L 8 c56.u.r) (Cx Tryz.prog (RS Tryz.f56) (B2 Tryz.prog (x9 L) (EI (x9 L) L 9) 1 (List.drop 4 c36.w.l.l.ops) ⟨[(15,lv (.t123 a0.Params)),(14,.loc 1 1),(13,.mp 13),(1,.loc 1 0),(2,I 0)],[(13,[.mapO false false (.t9 []) (.t4 [])]),(1,(Bw a0))],0⟩ (some 16) (fun st9=>(Bp (EV (x9 L) L 9 c36.w.l.r) (Bp (EV (x9 L) L 9 c36.w.r) (Ct Tryz.prog (RS Tryz.f36) kk))) .normal st9)))) .normal st9))
theorem Bwf(a0:Ai)(o11:Cj):Ay9 a0.Params a0 (Bbz L kk a0) o11=ob (g8 L a0 o11) (kQ I kk):=eE (Xd L a0 o11 (fun o11=>ho (Bm9 L (A46 L kk a0 o11) a0.Sites a0 o11.2.1 o11.2.2) fun o20=>Bq2 L kk a0 o11 o20))
def m0 [An A Int](a0:Ai)(nx9:A):A:=
 (bd (Cy L a0.Name) fun r1=>
 (cn (r1 != 0)
 (lf r1)
 nx9))
def Arp [An A Int](a0:Ai):A:=m0 L a0 (bd (Zk L a0.Params a0) fun o11=>g8 L a0 o11)
def Afs(a0:Ai):Option Int:=Arp L a0
def X36:Di:=E1 I 36 J8 (Afs L) fun a0 r h=>hF Tryz.func36 (C:=x9 L) (oS _) L (fun kk=>eE (m0 L a0 (ho (Bm6 L (Bbz L kk a0) a0.Params a0) fun o11=>Bwf L kk a0 o11))) h
def c62:=CC Tryz.f62
def c37:=CC Tryz.f37
def O37(L:Nat):Bi:=oL []
def Bd2(p1_1:List Aj)(p1_0:List Ay)(p1_2:Bz)(v:N2):St:=⟨[(0,.any),(1,lv (.t93 p1_1)),(2,.clo 63 0 []),(6,B v.1),(15,lv (.t78 p1_0)),(16,I (p1_0.length:Int)),(17,I v.2)],[(1,(Gl p1_2))],1002⟩
def d7 [An A (Nat×N2)](L:Nat)(p1_1:List Aj)(p1_0:List Ay)(p1_2:Bz)(rec:Bool→Int→A)(Aw:Bool)(Ae:Int):A:=
 (lw Ae p1_0
 (gi Ae p1_1
 (jp (.cn (((p1_0.getD (Int.toNat Ae) default).Name).toList == ((p1_1.getD (Int.toNat Ae) default).Name).toList)
 (.lf ((p1_0.getD (Int.toNat Ae) default).Params == (((p1_1.getD (Int.toNat Ae) default).Params).length:Int)))
 (.lf false)) (fun b1=>
 (jp (.cn b1
 (.lf ((((p1_1.getD (Int.toNat Ae) default).Body).length:Int) == 0))
 (.lf false)) (fun b2=>
 (cn (!b2)
 (lf (0,false,Ae))
 (rec Aw (Bo (Ae+1)))))))))
 (lf (1,Aw,Ae)))
def Ol(L:Nat)(p1_1:List Aj)(p1_0:List Ay)(p1_2:Bz):Nat→Bool→Int→Option (Nat×N2)
 |0,_,_=>none
 |n+1,Aw,Ae=>d7 L p1_1 p1_0 p1_2 (Ol L p1_1 p1_0 p1_2 n) Aw Ae
theorem Boc(p1_1:List Aj)(p1_0:List Ay)(p1_2:Bz):LP (EV (O37 L) L 8 c62.w.l.u.l.l) [0,1,2,6,15,16,17] [1] (Bd2 p1_1 p1_0 p1_2) [.ret,.exit 0] (fun n v=>Ol L p1_1 p1_0 p1_2 n v.1 v.2) K:=lE (fun _=>rfl) fun n v ih=>eE (d7 L p1_1 p1_0 p1_2 (fun Aw Ae=>re (ih (Aw,Ae))) v.1 v.2)
def Azc(p1_0:List Ay)(p1_1:List Aj)(p1_2:Bz)(k:Bu):Bool→Prop:=fun o=>k (B o) [(1,(Gl p1_2))]
def O1 [An A Bool](L:Nat)(o3:Nat×N2):A:=
 (sl o3.1 [(lf o3.2.1),
 (lf true)])
def Bb0:Bg:=(Bb 0 (Bp (EV (O37 L) L 8 c62.w.r) (Cx Tryz.prog (RS Tryz.f62) k)))
theorem Bwg(p1_1:List Aj)(p1_0:List Ay)(p1_2:Bz)(o3:Nat×N2):kX [.ret,.exit 0] (Bd2 p1_1 p1_0 p1_2) (Bb0 L k) o3=ob (O1 L o3) (Azc p1_0 p1_1 p1_2 k):=eE (O1 L o3)
def l7 [An A Bool](L:Nat)(p1_0:List Ay)(p1_1:List Aj)(p1_2:Bz)(nx2:A):A:=
 (cn ((p1_0.length:Int) != (p1_1.length:Int))
 (lf false)
 nx2)
def Akk [An A Bool](p1_0:List Ay)(p1_1:List Aj)(p1_2:Bz):A:=l7 L p1_0 p1_1 p1_2 (bd (Ol L p1_1 p1_0 p1_2 L false 0) fun o3=>O1 L o3)
def Zi(p1_0:List Ay)(p1_1:List Aj)(p1_2:Bz):Option Bool:=Akk L p1_0 p1_1 p1_2
theorem Bna(p1_0:List Ay)(p1_1:List Aj)(p1_2:Bz):YO (O37 L) L 9 62 [lv (.t78 p1_0),lv (.t93 p1_1),.clo 63 0 []] [(1,(Gl p1_2))] k=ob (Zi L p1_0 p1_1 p1_2) (Azc p1_0 p1_1 p1_2 k):=(Cu _ _ _ Xu _ _ _ _ _ _ _).trans (eE (l7 L p1_0 p1_1 p1_2 (ho (Boc L (Bb0 L k) p1_1 p1_0 p1_2 L (false,0)) fun o3=>Bwg L k p1_1 p1_0 p1_2 o3)))
def O2 [An A Bool](L:Nat)(o4:Bool):A:=
 (lf o4)
def Bb1(a0:Bz):Bu:=(B2 Tryz.prog (O37 L) (EI (O37 L) L 9) 1 (List.drop 6 c37.u.l.ops) ⟨[(7,lv (.t93 a0.Decl.Routines)),(6,.loc 1 10),(5,.loc 1 0),(4,lv (.t78 a0.Routines)),(3,.loc 1 13),(1,.loc 1 0),(2,B false)],[(1,(Gl a0))],0⟩ (some 8) (fun st9=>(Bp (EV (O37 L) L 9 c37.u.r) (Ct Tryz.prog (RS Tryz.f37) kk)) .normal st9))
theorem Bwh(a0:Bz)(o4:Bool):Azc a0.Routines a0.Decl.Routines a0 (Bb1 L kk a0) o4=ob (O2 L o4) (kQ B kk):=eE (O2 L o4)
def Arn [An A Bool](a0:Bz):A:=(bd (Zi L a0.Routines a0.Decl.Routines a0) fun o4=>O2 L o4)
def Xo(a0:Bz):Option Bool:=Arn L a0
def X37:Di:=E1 B 37 Aba (Xo L) fun a0 r h=>hF Tryz.func37 (C:=O37 L) (oS _) L (fun kk=>eE ((ho (Bna L (Bb1 L kk a0) a0.Routines a0.Decl.Routines a0) fun o4=>Bwh L kk a0 o4))) h
def c38:=CC Tryz.f38
def O38(L:Nat):Bi:=oL []
def Bd3(a0:Ac)(v:Int×Int×List F4×List Bool):St:=⟨[(0,.any),(1,.loc 1 0),(2,I v.1),(3,.mp 11),(13,lv (.t127 a0.Links)),(14,I (a0.Links.length:Int)),(15,I v.2.1)],[(1,(Bh a0)),(11,[.mapO true false (.t135 v.2.2.1) (.t4 v.2.2.2)])],0⟩
def Adw [An A (Nat×Int×Int×List F4×List Bool)](L:Nat)(a0:Ac)(rec:Int→Int→List F4→List Bool→A)(Ar:Int)(Ag:Int)(Gc:List F4)(Cl:List Bool):A:=
 (lw Ag a0.Links
 (jp (.cn (decide ((if (a0.Links.getD (Int.toNat Ag) default).To < (a0.Links.getD (Int.toNat Ag) default).From then (a0.Links.getD (Int.toNat Ag) default).To else (a0.Links.getD (Int.toNat Ag) default).From) < 0))
 (.lf true)
 (.lf (decide ((if (a0.Links.getD (Int.toNat Ag) default).To > (a0.Links.getD (Int.toNat Ag) default).From then (a0.Links.getD (Int.toNat Ag) default).To else (a0.Links.getD (Int.toNat Ag) default).From)≥(a0.Sites.length:Int))))) (fun b1=>
 (jp (.cn b1
 (.lf true)
 (.lf ((a0.Links.getD (Int.toNat Ag) default).From == (a0.Links.getD (Int.toNat Ag) default).To))) (fun b2=>
 (cn b2
 (cn b2
 (lf (0,2,Ag,Gc,Cl))
 (fq (Gc.findIdx? fun b=>((a0.Links.getD (Int.toNat Ag) default).From == b.a0 && ((a0.Links.getD (Int.toNat Ag) default).To == b.a1))) (fun i3=>
 (cn (Cl.getD i3 default)
 (lf (0,4,Ag,Gc,Cl))
 (fq (Gc.findIdx? fun b=>((a0.Links.getD (Int.toNat Ag) default).From == b.a0 && ((a0.Links.getD (Int.toNat Ag) default).To == b.a1))) (fun i4=>
 (rec Ar (Bo (Ag+1)) Gc (Cl.set i4 true)))
 (rec Ar (Bo (Ag+1)) (Gc++ [(⟨(a0.Links.getD (Int.toNat Ag) default).From,(a0.Links.getD (Int.toNat Ag) default).To⟩:F4)]) (Cl++ [true])))))
 (fq (Gc.findIdx? fun b=>((a0.Links.getD (Int.toNat Ag) default).From == b.a0 && ((a0.Links.getD (Int.toNat Ag) default).To == b.a1))) (fun i5=>
 (rec Ar (Bo (Ag+1)) Gc (Cl.set i5 true)))
 (rec Ar (Bo (Ag+1)) (Gc++ [(⟨(a0.Links.getD (Int.toNat Ag) default).From,(a0.Links.getD (Int.toNat Ag) default).To⟩:F4)]) (Cl++ [true])))))
 (jp (.cn (decide ((a0.Links.getD (Int.toNat Ag) default).Delay < 1))
 (.lf true)
 (.lf (decide ((a0.Links.getD (Int.toNat Ag) default).Delay > 1000000000)))) (fun b6=>
 (cn b6
 (lf (0,2,Ag,Gc,Cl))
 (fq (Gc.findIdx? fun b=>((a0.Links.getD (Int.toNat Ag) default).From == b.a0 && ((a0.Links.getD (Int.toNat Ag) default).To == b.a1))) (fun i7=>
 (cn (Cl.getD i7 default)
 (lf (0,4,Ag,Gc,Cl))
 (fq (Gc.findIdx? fun b=>((a0.Links.getD (Int.toNat Ag) default).From == b.a0 && ((a0.Links.getD (Int.toNat Ag) default).To == b.a1))) (fun i8=>
 (rec Ar (Bo (Ag+1)) Gc (Cl.set i8 true)))
 (rec Ar (Bo (Ag+1)) (Gc++ [(⟨(a0.Links.getD (Int.toNat Ag) default).From,(a0.Links.getD (Int.toNat Ag) default).To⟩:F4)]) (Cl++ [true])))))
 (fq (Gc.findIdx? fun b=>((a0.Links.getD (Int.toNat Ag) default).From == b.a0 && ((a0.Links.getD (Int.toNat Ag) default).To == b.a1))) (fun i9=>
 (rec Ar (Bo (Ag+1)) Gc (Cl.set i9 true)))
 (rec Ar (Bo (Ag+1)) (Gc++ [(⟨(a0.Links.getD (Int.toNat Ag) default).From,(a0.Links.getD (Int.toNat Ag) default).To⟩:F4)]) (Cl++ [true]))))))))))))
 (lf (1,Ar,Ag,Gc,Cl)))
def Uy(L:Nat)(a0:Ac):Nat→Int→Int→List F4→List Bool→Option (Nat×Int×Int×List F4×List Bool)
 |0,_,_,_,_=>none
 |n+1,Ar,Ag,Gc,Cl=>Adw L a0 (Uy L a0 n) Ar Ag Gc Cl
theorem Bod(a0:Ac):LP (EV (O38 L) L 9 c38.w.u.l.u.l.l) [0,1,2,3,13,14,15] [1,11] (Bd3 a0) [.ret,.exit 0] (fun n v=>Uy L a0 n v.1 v.2.1 v.2.2.1 v.2.2.2) K:=lE (fun _=>rfl) fun n v ih=>eE (Adw L a0 (fun Ar Ag Gc Cl=>re (ih (Ar,Ag,Gc,Cl))) v.1 v.2.1 v.2.2.1 v.2.2.2)
def Vo [An A Int](L:Nat)(o10:Nat×Int×Int×List F4×List Bool):A:=
 (sl o10.1 [(lf o10.2.1),
 (lf 0)])
def Bb2:Bg:=(Bb 0 (Bp (EV (O38 L) L 9 c38.w.u.r) (Ct Tryz.prog (RS Tryz.f38) kk)))
theorem Bwi(a0:Ac)(o10:Nat×Int×Int×List F4×List Bool):kX [.ret,.exit 0] (Bd3 a0) (Bb2 L kk) o10=ob (Vo L o10) (kQ I kk):=eE (Vo L o10)
def Ae2 [An A Int](L:Nat)(a0:Ac)(nx1:A):A:=
 (cn (decide ((a0.Links.length:Int) > 32))
 (lf 6)
 nx1)
def Awo [An A Int](a0:Ac):A:=Ae2 L a0 (bd (Uy L a0 L 0 0 [] []) fun o10=>Vo L o10)
def Amf(a0:Ac):Option Int:=Awo L a0
def X38:Di:=E1 I 38 B6 (Amf L) fun a0 r h=>hF Tryz.func38 (C:=O38 L) (oS _) L (fun kk=>eE (Ae2 L a0 (ho (Bod L (Bb2 L kk) a0 L (0,0,[],[])) fun o10=>Bwi L kk a0 o10))) h
def Aiy [An A Bool](L:Nat)(a0:Int):A:=
 (jp (.cn (decide (a0≥1))
 (.lf (decide (a0≤19)))
 (.lf false)) (fun b1=>
 (lf b1)))
def w6(a0:Int):Option Bool:=Aiy L a0
def Bly:Di:=E1 B 122 (cI .i64) (w6 L) fun a0 r h=>hF Tryz.func122 (oS []) L (fun kk=>eE (Aiy L a0)) h
def Amx [An A Bool](a0:Ab):A:=
 (bd (H4 L (Ab.cp a0) (Ab.mk 0 (⟨#[]⟩:ByteArray) 0 [])) fun r1=>
 (lf r1))
def Acl(a0:Ab):Option Bool:=Amx L a0
def Bsv:Di:=E1 B 161 Bq (Acl L) fun a0 r h=>hF Tryz.func161 (oS [Bl4 L]) L (fun kk=>eE (Amx L a0)) h
def Aix [An A Bool](a0:Bm):A:=
 (gi a0.Op gl0
 (jp (.cn ((gl0.getD (Int.toNat a0.Op) default).u_a != 0)
 (.lf true)
 (.lf (a0.A == 0))) (fun b1=>
 (jp (.cn b1
 (.cn ((gl0.getD (Int.toNat a0.Op) default).u_b != 0)
 (.lf true)
 (.lf (a0.B == 0)))
 (.lf false)) (fun b2=>
 (jp (.cn b2
 (.cn ((gl0.getD (Int.toNat a0.Op) default).u_c)
 (.lf true)
 (.lf (a0.C == 0)))
 (.lf false)) (fun b3=>
 (jb (.cn b3
 (.cn ((gl0.getD (Int.toNat a0.Op) default).u_e)
 (.lf true)
 (.bd (Acl L (Ab.cp a0.E)) fun r5=>
 (.lf r5)))
 (.lf false)) (fun b4=>
 (jb (.cn b4
 (.cn ((gl0.getD (Int.toNat a0.Op) default).u_f)
 (.lf true)
 (.bd (Acl L (Ab.cp a0.F)) fun r7=>
 (.lf r7)))
 (.lf false)) (fun b6=>
 (jp (.cn b6
 (.cn ((gl0.getD (Int.toNat a0.Op) default).u_args)
 (.lf true)
 (.lf ((a0.Args.length:Int) == 0)))
 (.lf false)) (fun b8=>
 (cn b8
 (cn ((gl0.getD (Int.toNat a0.Op) default).u_dist)
 (nq (jp (.cn ((gl0.getD (Int.toNat a0.Op) default).u_preempt)
 (.lf true)
 (.lf (!a0.Flag))) (fun b9=>
 (lf b9))))
 (bd (H3 L a0.Dist (⟨0,0,0,0,[],[]⟩:B8)) fun r10=>
 (nq (jp (.cn r10
 (.cn ((gl0.getD (Int.toNat a0.Op) default).u_preempt)
 (.lf true)
 (.lf (!a0.Flag)))
 (.lf false)) (fun b11=>
 (lf b11))))))
 (nq (nq (lf false)))))))))))))))))
def Aih(a0:Bm):Option Bool:=Aix L a0
def Bsd:Di:=E1 B 123 Hf (Aih L) fun a0 r h=>hF Tryz.func123 (oS [Bfn L,Bsv L]) L (fun kk=>eE (Aix L a0)) h
def Wb [An A Int](L:Nat)(a0:Am)(a1:Int)(a2:Int):A:=
 (gi a0.u_site a0.u_p.Sites
 (cn (a1 == 1)
 (lf a0.u_c.Slots)
 (cn (a1 == 2)
 (lf ((((a0.u_p.Sites.getD (Int.toNat a0.u_site) default).Decl).Vars).length:Int))
 (cn (a1 == 3)
 (lf ((((a0.u_p.Sites.getD (Int.toNat a0.u_site) default).Decl).Streams).length:Int))
 (cn (a1 == 4)
 (lf (a0.u_c.Instrs.length:Int))
 (cn (a1 == 5)
 (lf ((((a0.u_p.Sites.getD (Int.toNat a0.u_site) default).Decl).Resources).length:Int))
 (cn (a1 == 6)
 (lf ((((a0.u_p.Sites.getD (Int.toNat a0.u_site) default).Decl).Stores).length:Int))
 (cn (a1 == 7)
 (lf ((((a0.u_p.Sites.getD (Int.toNat a0.u_site) default).Decl).Belts).length:Int))
 (cn (a1 == 8)
 (lf ((((a0.u_p.Sites.getD (Int.toNat a0.u_site) default).Decl).Queues).length:Int))
 (cn (a1 == 9)
 (lf (a0.u_p.Sites.length:Int))
 (cn (a1 == 10)
 (gi a2 a0.u_p.Sites
 (lf (((a0.u_p.Sites.getD (Int.toNat a2) default).Routines).length:Int)))
 (cn (a1 == 11)
 (lf ((((a0.u_p.Sites.getD (Int.toNat a0.u_site) default).Decl).Tallies).length:Int))
 (cn (a1 == 12)
 (lf ((((a0.u_p.Sites.getD (Int.toNat a0.u_site) default).Decl).Levels).length:Int))
 (cn (a1 == 13)
 (lf ((((a0.u_p.Sites.getD (Int.toNat a0.u_site) default).Decl).Counts).length:Int))
 (lf 1)))))))))))))))
def I8(a0:Am)(a1:Int)(a2:Int):Option Int:=Wb L a0 a1 a2
def Bfp:Di:=E3 I 162 Iz (cI .i64) (cI .i64) (I8 L) fun a0 a1 a2 r h=>hF Tryz.func162 (oS []) L (fun kk=>eE (Wb L a0 a1 a2)) h
def Yz [An A Bool](a0:Am)(a1:Int)(a2:Int)(a3:Int):A:=
 (jb (.cn (decide (a2≥0))
 (.bd (I8 L (⟨(⟨a0.u_p.Name,a0.u_p.Sites,a0.u_p.Links⟩:Ac),a0.u_site,a0.u_c⟩:Am) a1 a3) fun r2=>
 (.lf (decide (a2 < r2))))
 (.lf false)) (fun b1=>
 (lf b1)))
def Dt(a0:Am)(a1:Int)(a2:Int)(a3:Int):Option Bool:=Yz L a0 a1 a2 a3
def Bfh:Di:=E4 B 124 Iz (cI .i64) (cI .i64) (cI .i64) (Dt L) fun a0 a1 a2 a3 r h=>hF Tryz.func124 (oS [Bfp L]) L (fun kk=>eE (Yz L a0 a1 a2 a3)) h
def Bt9:=CC Tryz.f163
def Bt2:=CC Tryz.f125
def Azf(L:Nat):Bi:=oL []
def Bu6:(Int×Bool)→Prop:=fun x=>kk ((fun(x:Int×Bool)=> .tup [I x.1,B x.2]) x)
def A59(p1_0:List Hv)(p1_1:Ac)(p1_2:Int)(p1_3:Int)(v:C8):St:=⟨[(0,lv (.t127 p1_0)),(1,.clo 164 0 [.loc 4 0,.loc 5 0]),(4,I v.1),(7,I (p1_0.length:Int)),(8,I v.2)],[(3,(Bh p1_1)),(4,[I p1_2]),(5,[I p1_3])],1006⟩
def Agi [An A Cq](L:Nat)(p1_0:List Hv)(p1_1:Ac)(p1_2:Int)(p1_3:Int)(rec:Int→Int→A)(Aw:Int)(Ag:Int):A:=
 (lw Ag p1_0
 (jp (.cn ((p1_0.getD (Int.toNat Ag) default).From == p1_2)
 (.lf ((p1_0.getD (Int.toNat Ag) default).To == p1_3))
 (.lf false)) (fun b1=>
 (cn b1
 (lf (0,Ag,Ag))
 (rec Aw (Bo (Ag+1))))))
 (lf (1,Aw,Ag)))
def X6(L:Nat)(p1_0:List Hv)(p1_1:Ac)(p1_2:Int)(p1_3:Int):Nat→Int→Int→Option Cq
 |0,_,_=>none
 |n+1,Aw,Ag=>Agi L p1_0 p1_1 p1_2 p1_3 (X6 L p1_0 p1_1 p1_2 p1_3 n) Aw Ag
theorem Bie(p1_0:List Hv)(p1_1:Ac)(p1_2:Int)(p1_3:Int):LP (EV (Azf L) L 8 Bt9.u.l.u.l.l) [0,1,4,7,8] [3,4,5] (A59 p1_0 p1_1 p1_2 p1_3) [.ret,.exit 0] (fun n v=>X6 L p1_0 p1_1 p1_2 p1_3 n v.1 v.2) K:=lE (fun _=>rfl) fun n v ih=>eE (Agi L p1_0 p1_1 p1_2 p1_3 (fun Aw Ag=>re (ih (Aw,Ag))) v.1 v.2)
def Ati(p1_0:List Hv)(p1_1:Ac)(p1_2:Int)(p1_3:Int)(k:Bu):Int→Prop:=fun o=>k (I o) [(3,(Bh p1_1)),(4,[I p1_2]),(5,[I p1_3])]
def Yp [An A Int](L:Nat)(o2:Nat×C8):A:=
 (sl o2.1 [(lf o2.2.1),
 (lf (-1))])
def A3g:Bg:=(Bb 0 (Bp (EV (Azf L) L 8 Bt9.u.r) (Cx Tryz.prog (RS Tryz.f163) k)))
theorem Bpc(p1_0:List Hv)(p1_1:Ac)(p1_2:Int)(p1_3:Int)(o2:Nat×C8):kX [.ret,.exit 0] (A59 p1_0 p1_1 p1_2 p1_3) (A3g L k) o2=ob (Yp L o2) (Ati p1_0 p1_1 p1_2 p1_3 k):=eE (Yp L o2)
def Arv [An A Int](p1_0:List Hv)(p1_1:Ac)(p1_2:Int)(p1_3:Int):A:=(bd (X6 L p1_0 p1_1 p1_2 p1_3 L 0 0) fun o2=>Yp L o2)
def Af6(p1_0:List Hv)(p1_1:Ac)(p1_2:Int)(p1_3:Int):Option Int:=Arv L p1_0 p1_1 p1_2 p1_3
theorem Bhi(p1_0:List Hv)(p1_1:Ac)(p1_2:Int)(p1_3:Int):YO (Azf L) L 9 163 [lv (.t127 p1_0),.clo 164 0 [.loc 4 0,.loc 5 0]] [(3,(Bh p1_1)),(4,[I p1_2]),(5,[I p1_3])] k=ob (Af6 L p1_0 p1_1 p1_2 p1_3) (Ati p1_0 p1_1 p1_2 p1_3 k):=(Cu _ _ _ Xu _ _ _ _ _ _ _).trans (eE ((ho (Bie L (A3g L k) p1_0 p1_1 p1_2 p1_3 L (0,0)) fun o2=>Bpc L k p1_0 p1_1 p1_2 p1_3 o2)))
def Yq [An A (Int×Bool)](L:Nat)(a0:Ac)(o3:Int):A:=
 (cn (decide (o3 < 0))
 (lf (0,false))
 (gi o3 a0.Links
 (lf ((a0.Links.getD (Int.toNat o3) default).Delay,true))))
def A3h(a0:Ac)(a1:Int)(a2:Int):Bu:=(B2 Tryz.prog (Azf L) (EI (Azf L) L 9) 1 (List.drop 4 Bt2.u.l.ops) ⟨[(11,.clo 164 0 [.loc 4 0,.loc 5 0]),(10,lv (.t127 a0.Links)),(9,.loc 3 2),(3,.loc 3 0),(4,.loc 4 0),(5,.loc 5 0),(6,I 0),(7,B false)],[(3,(Bh a0)),(4,[I a1]),(5,[I a2])],0⟩ (some 12) (fun st9=>(Bp (EV (Azf L) L 9 Bt2.u.r) (Ct Tryz.prog (RS Tryz.f125) kk)) .normal st9))
theorem Bpd(a0:Ac)(a1:Int)(a2:Int)(o3:Int):Ati a0.Links a0 a1 a2 (A3h L kk a0 a1 a2) o3=ob (Yq L a0 o3) (Bu6 kk):=eE (Yq L a0 o3)
def Azv [An A (Int×Bool)](a0:Ac)(a1:Int)(a2:Int):A:=(bd (Af6 L a0.Links a0 a1 a2) fun o3=>Yq L a0 o3)
def Apk(a0:Ac)(a1:Int)(a2:Int):Option (Int×Bool):=Azv L a0 a1 a2
def Bse:Di:=E3 (fun(x:Int×Bool)=> .tup [I x.1,B x.2]) 125 B6 (cI .i64) (cI .i64) (Apk L) fun a0 a1 a2 r h=>hF Tryz.func125 (C:=Azf L) (oS _) L (fun kk=>eE ((ho (Bhi L (A3h L kk a0 a1 a2) a0.Links a0 a1 a2) fun o3=>Bpd L kk a0 a1 a2 o3))) h
def Tz [An A (List Ab)](a0:Bm):A:=
 (bd (w6 L a0.Op) fun r1=>
 (cn (!r1)
 (lf [])
 (gi a0.Op gl0
 (cn ((gl0.getD (Int.toNat a0.Op) default).u_e)
 (gq ((0+ [(Ab.cp a0.E)].length)*56≤140737488355328)
 (gq (0+ [(Ab.cp a0.E)].length≤maxLen)
 (cn ((gl0.getD (Int.toNat a0.Op) default).u_f)
 (gq (([(Ab.cp a0.E)].length+ [(Ab.cp a0.F)].length)*56≤140737488355328)
 (gq ([(Ab.cp a0.E)].length+ [(Ab.cp a0.F)].length≤maxLen)
 (cn ((gl0.getD (Int.toNat a0.Op) default).u_args)
 (gq ((([(Ab.cp a0.E)]++ [(Ab.cp a0.F)]).length+a0.Args.length)*56≤140737488355328)
 (gq (([(Ab.cp a0.E)]++ [(Ab.cp a0.F)]).length+a0.Args.length≤maxLen)
 (lf (([(Ab.cp a0.E)]++ [(Ab.cp a0.F)])++a0.Args))))
 (lf ([(Ab.cp a0.E)]++ [(Ab.cp a0.F)])))))
 (cn ((gl0.getD (Int.toNat a0.Op) default).u_args)
 (gq (([(Ab.cp a0.E)].length+a0.Args.length)*56≤140737488355328)
 (gq ([(Ab.cp a0.E)].length+a0.Args.length≤maxLen)
 (lf ([(Ab.cp a0.E)]++a0.Args))))
 (lf [(Ab.cp a0.E)])))))
 (cn ((gl0.getD (Int.toNat a0.Op) default).u_f)
 (gq ((0+ [(Ab.cp a0.F)].length)*56≤140737488355328)
 (gq (0+ [(Ab.cp a0.F)].length≤maxLen)
 (cn ((gl0.getD (Int.toNat a0.Op) default).u_args)
 (gq (([(Ab.cp a0.F)].length+a0.Args.length)*56≤140737488355328)
 (gq ([(Ab.cp a0.F)].length+a0.Args.length≤maxLen)
 (lf ([(Ab.cp a0.F)]++a0.Args))))
 (lf [(Ab.cp a0.F)]))))
 (cn ((gl0.getD (Int.toNat a0.Op) default).u_args)
 (gq ((0+a0.Args.length)*56≤140737488355328)
 (gq (0+a0.Args.length≤maxLen)
 (lf a0.Args)))
 (lf [])))))))
def H9(a0:Bm):Option (List Ab):=Tz L a0
def Bsf:Di:=E1 (fun(x:List Ab)=>lv (.t98 x)) 126 Hf (H9 L) fun a0 r h=>hF Tryz.func126 (oS [Bly L]) L (fun kk=>eE (Tz L a0)) h
def Y0 [An A Int](a0:Ab):A:=
 (bd (Mp L (⟨true⟩:B1) (Ab.cp a0)) fun r1=>
 (lf r1))
def Yt(a0:Ab):Option Int:=Y0 L a0
def Bsg:Di:=E1 I 127 Bq (Yt L) fun a0 r h=>hF Tryz.func127 (oS [Bl3 L]) L (fun kk=>eE (Y0 L a0)) h
end
end Go.Proofs.YthjhkpgonleelaaGreatDoor.Ev
