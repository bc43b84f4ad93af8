import Derived.Test.YthjhkpgonleelaaGreatDoorAG1
import Derived.Test.YthjhkpgonleelaaGreatDoorAG2
namespace Go.Proofs.YthjhkpgonleelaaGreatDoor.Ev
open Go An
set_option maxRecDepth 100000
set_option maxHeartbeats 4000000
set_option linter.unusedVariables false
set_option linter.unusedSimpArgs false
set_option linter.unnecessarySimpa false
noncomputable section
variable {A:Type} (L n:Nat) (kk:Cc) (K:Bg) (k:Bu)
def A7s:=CC Tryz.f153
def A7t:=CC Tryz.f154
def Bt7:=CC Tryz.f155
def Bt0:=CC Tryz.f118
def Rl:Bi:=oL [X35 L,Bsu L,Bfo L]
def Av6(p10_0:ByteArray)(p10_1:Aa)(p10_2:List ByteArray)(p10_3:List Bool)(p10_4:Bk)(p10_5:Bk)(k:Bu):Cj→Prop:=fun o=>k (I o.1) [(1,(Ad p10_1)),(3,[.mp 4]),(4,[.mapO false false (.t9 o.2.1) (.t4 o.2.2)]),(1013,(C4 p10_4)),(2017,(C4 p10_5))]
def Y9 [An A Cj](p10_0:ByteArray)(p10_1:Aa)(p10_2:List ByteArray)(p10_3:List Bool)(p10_4:Bk)(p10_5:Bk):A:=
 (bd (Cy L p10_0) fun r1=>
 (cn (r1 != 0)
 (lf (r1,p10_2,p10_3))
 (fq (p10_2.findIdx? fun b=>p10_0 == b) (fun i2=>
 (cn (p10_3.getD i2 default)
 (lf (4,p10_2,p10_3))
 (fq (p10_2.findIdx? fun b=>p10_0 == b) (fun i3=>
 (lf (0,p10_2,(p10_3.set i3 true))))
 (lf (0,(p10_2++ [p10_0]),(p10_3++ [true]))))))
 (fq (p10_2.findIdx? fun b=>p10_0 == b) (fun i4=>
 (lf (0,p10_2,(p10_3.set i4 true))))
 (lf (0,(p10_2++ [p10_0]),(p10_3++ [true])))))))
def Zo(p10_0:ByteArray)(p10_1:Aa)(p10_2:List ByteArray)(p10_3:List Bool)(p10_4:Bk)(p10_5:Bk):Option Cj:=Y9 L p10_0 p10_1 p10_2 p10_3 p10_4 p10_5
theorem Baw(p10_0:ByteArray)(p10_1:Aa)(p10_2:List ByteArray)(p10_3:List Bool)(p10_4:Bk)(p10_5:Bk):YO (Rl L) L 7 59 [.mp 4,S p10_0] [(1,(Ad p10_1)),(3,[.mp 4]),(4,[.mapO false false (.t9 p10_2) (.t4 p10_3)]),(1013,(C4 p10_4)),(2017,(C4 p10_5))] k=ob (Zo L p10_0 p10_1 p10_2 p10_3 p10_4 p10_5) (Av6 p10_0 p10_1 p10_2 p10_3 p10_4 p10_5 k):=(Cu _ _ _ Xu _ _ _ _ _ _ _).trans (eE (Y9 L p10_0 p10_1 p10_2 p10_3 p10_4 p10_5))
def A57(p11_0:List Bj)(p11_1:Aa)(p11_2:List ByteArray)(p11_3:List Bool)(p11_4:Bk)(p11_5:Bk)(v:C8):St:=⟨[(0,.any),(1,.any),(2,.clo 156 0 [.loc 1 0]),(6,I v.1),(14,lv (.t203 p11_0)),(15,I (p11_0.length:Int)),(16,I v.2)],[(1,(Ad p11_1)),(3,[.mp 4]),(4,[.mapO false false (.t9 p11_2) (.t4 p11_3)]),(1013,(C4 p11_4)),(2017,(C4 p11_5))],3018⟩
def Abl [An A Cq](p11_0:List Bj)(p11_1:Aa)(p11_2:List ByteArray)(p11_3:List Bool)(p11_4:Bk)(p11_5:Bk)(rec:Int→Int→A)(Cm:Int)(Bt:Int):A:=
 (lw Bt p11_0
 (bd (Aik L p11_1 (p11_0.getD (Int.toNat Bt) default)) fun r6=>
 (cn (r6 != 0)
 (lf (0,r6,Bt))
 (rec Cm (Bo (Bt+1)))))
 (lf (1,Cm,Bt)))
def Rx(L:Nat)(p11_0:List Bj)(p11_1:Aa)(p11_2:List ByteArray)(p11_3:List Bool)(p11_4:Bk)(p11_5:Bk):Nat→Int→Int→Option Cq
 |0,_,_=>none
 |n+1,Cm,Bt=>Abl L p11_0 p11_1 p11_2 p11_3 p11_4 p11_5 (Rx L p11_0 p11_1 p11_2 p11_3 p11_4 p11_5 n) Cm Bt
theorem Bic(p11_0:List Bj)(p11_1:Aa)(p11_2:List ByteArray)(p11_3:List Bool)(p11_4:Bk)(p11_5:Bk):LP (EV (Rl L) L 6 Bt7.w.l.u.l.l) [0,1,2,6,14,15,16] [1,3,4,1013,2017] (A57 p11_0 p11_1 p11_2 p11_3 p11_4 p11_5) [.ret,.exit 0] (fun n v=>Rx L p11_0 p11_1 p11_2 p11_3 p11_4 p11_5 n v.1 v.2) K:=lE (fun _=>rfl) fun n v ih=>eE (Abl L p11_0 p11_1 p11_2 p11_3 p11_4 p11_5 (fun Cm Bt=>re (ih (Cm,Bt))) v.1 v.2)
def Apm(p11_0:List Bj)(p11_1:Aa)(p11_2:List ByteArray)(p11_3:List Bool)(p11_4:Bk)(p11_5:Bk)(k:Bu):Int→Prop:=fun o=>k (I o) [(1,(Ad p11_1)),(3,[.mp 4]),(4,[.mapO false false (.t9 p11_2) (.t4 p11_3)]),(1013,(C4 p11_4)),(2017,(C4 p11_5))]
def O9 [An A Int](L:Nat)(o7:Nat×C8):A:=
 (sl o7.1 [(lf o7.2.1),
 (lf 0)])
def Axl:Bg:=(Bb 0 (Bp (EV (Rl L) L 6 Bt7.w.r) (Cx Tryz.prog (RS Tryz.f155) k)))
theorem Bjk(p11_0:List Bj)(p11_1:Aa)(p11_2:List ByteArray)(p11_3:List Bool)(p11_4:Bk)(p11_5:Bk)(o7:Nat×C8):kX [.ret,.exit 0] (A57 p11_0 p11_1 p11_2 p11_3 p11_4 p11_5) (Axl L k) o7=ob (O9 L o7) (Apm p11_0 p11_1 p11_2 p11_3 p11_4 p11_5 k):=eE (O9 L o7)
def m6 [An A Int](L:Nat)(p11_0:List Bj)(p11_1:Aa)(p11_2:List ByteArray)(p11_3:List Bool)(p11_4:Bk)(p11_5:Bk)(nx17:A):A:=
 (cn (decide ((p11_0.length:Int) > 8))
 (lf 6)
 nx17)
def Akp [An A Int](p11_0:List Bj)(p11_1:Aa)(p11_2:List ByteArray)(p11_3:List Bool)(p11_4:Bk)(p11_5:Bk):A:=m6 L p11_0 p11_1 p11_2 p11_3 p11_4 p11_5 (bd (Rx L p11_0 p11_1 p11_2 p11_3 p11_4 p11_5 L 0 0) fun o7=>O9 L o7)
def Zp(p11_0:List Bj)(p11_1:Aa)(p11_2:List ByteArray)(p11_3:List Bool)(p11_4:Bk)(p11_5:Bk):Option Int:=Akp L p11_0 p11_1 p11_2 p11_3 p11_4 p11_5
theorem Bax(p11_0:List Bj)(p11_1:Aa)(p11_2:List ByteArray)(p11_3:List Bool)(p11_4:Bk)(p11_5:Bk):YO (Rl L) L 7 155 [lv (.t203 p11_0),I 8,.clo 156 0 [.loc 1 0]] [(1,(Ad p11_1)),(3,[.mp 4]),(4,[.mapO false false (.t9 p11_2) (.t4 p11_3)]),(1013,(C4 p11_4)),(2017,(C4 p11_5))] k=ob (Zp L p11_0 p11_1 p11_2 p11_3 p11_4 p11_5) (Apm p11_0 p11_1 p11_2 p11_3 p11_4 p11_5 k):=(Cu _ _ _ Xu _ _ _ _ _ _ _).trans (eE (m6 L p11_0 p11_1 p11_2 p11_3 p11_4 p11_5 (ho (Bic L (Axl L k) p11_0 p11_1 p11_2 p11_3 p11_4 p11_5 L (0,0)) fun o7=>Bjk L k p11_0 p11_1 p11_2 p11_3 p11_4 p11_5 o7)))
def Aon(p7_0:Bk)(p7_1:Aa)(p7_2:List ByteArray)(p7_3:List Bool)(p7_4:Bk)(k:Bu):Cj→Prop:=fun o=>k (I o.1) [(1,(Ad p7_1)),(3,[.mp 4]),(4,[.mapO false false (.t9 o.2.1) (.t4 o.2.2)]),(1013,(C4 p7_4)),(2017,(C4 p7_0))]
def Pb [An A Cj](o5:Cj)(p7_0:Bk)(o8:Int):A:=
 (cn (o8 != 0)
 (lf (o8,o5.2.1,o5.2.2))
 (bd (Acm L p7_0.Total) fun r9=>
 (cn (!r9)
 (lf (2,o5.2.1,o5.2.2))
 (lf (0,o5.2.1,o5.2.2)))))
def Axm(p7_0:Bk)(p7_1:Aa)(o5:Cj)(p7_4:Bk):Bu:=(B2 Tryz.prog (Rl L) (EI (Rl L) L 7) 1 (List.drop 4 A7t.w.u.l.l.ops) ⟨[(20,.clo 156 0 [.loc 1 0]),(19,lv (.t203 p7_0.Terms)),(18,.loc 2017 1),(2,.loc 1 0),(3,.loc 2017 0),(4,I 0)],[(1,(Ad p7_1)),(3,[.mp 4]),(4,[.mapO false false (.t9 o5.2.1) (.t4 o5.2.2)]),(1013,(C4 p7_4)),(2017,(C4 p7_0))],2014⟩ (some 21) (fun st9=>(Bp (EV (Rl L) L 7 A7t.w.u.l.r) (Bp (EV (Rl L) L 7 A7t.w.u.r) (Cx Tryz.prog (RS Tryz.f154) k))) .normal st9))
theorem Bjl(p7_0:Bk)(p7_1:Aa)(o5:Cj)(p7_4:Bk)(p7_2:List ByteArray)(p7_3:List Bool)(o8:Int):Apm p7_0.Terms p7_1 o5.2.1 o5.2.2 p7_4 p7_0 (Axm L k p7_0 p7_1 o5 p7_4) o8=ob (Pb L o5 p7_0 o8) (Aon p7_0 p7_1 p7_2 p7_3 p7_4 k):=eE (Pb L o5 p7_0 o8)
def m7 [An A Cj](L:Nat)(p7_0:Bk)(p7_1:Aa)(p7_4:Bk)(o5:Cj)(nx18:Cj→A):A:=
 (cn (o5.1 != 0)
 (lf (o5.1,o5.2.1,o5.2.2))
 (cn ((p7_0.Terms.length:Int) == 0)
 (lf (7,o5.2.1,o5.2.2))
 (nx18 o5)))
def j4 [An A Cj](p7_0:Bk)(p7_1:Aa)(p7_4:Bk)(o5:Cj):A:=m7 L p7_0 p7_1 p7_4 o5 (fun o5=>bd (Zp L p7_0.Terms p7_1 o5.2.1 o5.2.2 p7_4 p7_0) fun o8=>Pb L o5 p7_0 o8)
def Axk(p7_0:Bk)(p7_1:Aa)(p7_2:List ByteArray)(p7_3:List Bool)(p7_4:Bk):Bu:=(B2 Tryz.prog (Rl L) (EI (Rl L) L 7) 1 (List.drop 4 A7t.u.l.l.ops) ⟨[(9,S p7_0.Name),(8,.loc 2017 0),(7,.mp 4),(1,.loc 3 0),(2,.loc 1 0),(3,.loc 2017 0),(4,I 0)],[(1,(Ad p7_1)),(3,[.mp 4]),(4,[.mapO false false (.t9 p7_2) (.t4 p7_3)]),(1013,(C4 p7_4)),(2017,(C4 p7_0))],2014⟩ (some 10) (fun st9=>(Bp (EV (Rl L) L 7 A7t.u.l.r) (Bp (EV (Rl L) L 7 A7t.u.r) (Cx Tryz.prog (RS Tryz.f154) k))) .normal st9))
theorem Bjj(p7_0:Bk)(p7_1:Aa)(p7_2:List ByteArray)(p7_3:List Bool)(p7_4:Bk)(o5:Cj):Av6 p7_0.Name p7_1 p7_2 p7_3 p7_4 p7_0 (Axk L k p7_0 p7_1 p7_2 p7_3 p7_4) o5=ob (j4 L p7_0 p7_1 p7_4 o5) (Aon p7_0 p7_1 p7_2 p7_3 p7_4 k):=eE (m7 L p7_0 p7_1 p7_4 o5 (fun o5=>ho (Bax L (Axm L k p7_0 p7_1 o5 p7_4) p7_0.Terms p7_1 o5.2.1 o5.2.2 p7_4 p7_0) fun o8=>Bjl L k p7_0 p7_1 o5 p7_4 p7_2 p7_3 o8))
def An8 [An A Cj](p7_0:Bk)(p7_1:Aa)(p7_2:List ByteArray)(p7_3:List Bool)(p7_4:Bk):A:=(bd (Zo L p7_0.Name p7_1 p7_2 p7_3 p7_4 p7_0) fun o5=>j4 L p7_0 p7_1 p7_4 o5)
def Abd(p7_0:Bk)(p7_1:Aa)(p7_2:List ByteArray)(p7_3:List Bool)(p7_4:Bk):Option Cj:=An8 L p7_0 p7_1 p7_2 p7_3 p7_4
theorem Bhg(p7_0:Bk)(p7_1:Aa)(p7_2:List ByteArray)(p7_3:List Bool)(p7_4:Bk):YO (Rl L) L 8 154 [.agg (C4 p7_0),.loc 3 0,.loc 1 0] [(1,(Ad p7_1)),(3,[.mp 4]),(4,[.mapO false false (.t9 p7_2) (.t4 p7_3)]),(1013,(C4 p7_4))] k=ob (Abd L p7_0 p7_1 p7_2 p7_3 p7_4) (Aon p7_0 p7_1 p7_2 p7_3 p7_4 k):=(Cu _ _ _ Xu _ _ _ _ _ _ _).trans (eE ((ho (Baw L (Axk L k p7_0 p7_1 p7_2 p7_3 p7_4) p7_0.Name p7_1 p7_2 p7_3 p7_4 p7_0) fun o5=>Bjj L k p7_0 p7_1 p7_2 p7_3 p7_4 o5)))
def Avn(p1_0:List Bk)(p1_1:Aa)(v:T1):St:=⟨[(0,.any),(1,.any),(2,.clo 154 0 [.loc 3 0,.loc 1 0]),(6,I v.1),(14,lv (.t154 p1_0)),(15,I (p1_0.length:Int)),(16,I v.2.1)],[(1,(Ad p1_1)),(3,[.mp 4]),(4,[.mapO false false (.t9 v.2.2.1) (.t4 v.2.2.2)])],1005⟩
def Pc [An A Hn](L:Nat)(Ag:Int)(Ar:Int)(rec:Int→Int→List ByteArray→List Bool→A)(o10:Cj):A:=
 (cn (o10.1 != 0)
 (lf (0,o10.1,Ag,o10.2.1,o10.2.2))
 (rec Ar (Bo (Ag+1)) o10.2.1 o10.2.2))
def m8 [An A Hn](L:Nat)(p1_0:List Bk)(p1_1:Aa)(rec:Int→Int→List ByteArray→List Bool→A)(Ar:Int)(Ag:Int)(Ea:List ByteArray)(Eb:List Bool)(nx19:Int→(List ByteArray)→(List Bool)→Int→A):A:=
 (lw Ag p1_0
 (nx19 Ag Ea Eb Ar)
 (lf (1,Ar,Ag,Ea,Eb)))
def Aoc [An A Hn](p1_0:List Bk)(p1_1:Aa)(rec:Int→Int→List ByteArray→List Bool→A)(Ar:Int)(Ag:Int)(Ea:List ByteArray)(Eb:List Bool):A:=m8 L p1_0 p1_1 rec Ar Ag Ea Eb (fun Ag Ea Eb Ar=>bd (Abd L (p1_0.getD (Int.toNat Ag) default) p1_1 Ea Eb (p1_0.getD (Int.toNat Ag) default)) fun o10=>Pc L Ag Ar rec o10)
def Lg(L:Nat)(p1_0:List Bk)(p1_1:Aa):Nat→Int→Int→List ByteArray→List Bool→Option Hn
 |0,_,_,_,_=>none
 |n+1,Ar,Ag,Ea,Eb=>Aoc L p1_0 p1_1 (Lg L p1_0 p1_1 n) Ar Ag Ea Eb
def A2b(p1_0:List Bk)(p1_1:Aa):Prop:=LI (EV (Rl L) L 8 A7s.w.l.u.l.l) [0,1,2,6,14,15,16] [1,3,4] (Avn p1_0 p1_1) [.ret,.exit 0] (fun n v=>Lg L p1_0 p1_1 n v.1 v.2.1 v.2.2.1 v.2.2.2) K n
def Axn(p1_0:List Bk)(Ag:Int)(Ar:Int)(p1_1:Aa)(Ea:List ByteArray)(Eb:List Bool):Bu:=(B2 Tryz.prog (Rl L) (EI (Rl L) L 8) 1 (List.drop 3 A7s.w.l.u.l.l.w.l.l.u.l.ops) ⟨[(21,.agg (C4 (p1_0.getD (Int.toNat Ag) default))),(20,.clo 154 0 [.loc 3 0,.loc 1 0]),(2,.clo 154 0 [.loc 3 0,.loc 1 0]),(6,I Ar),(8,.loc 1013 0),(14,lv (.t154 p1_0)),(15,I (p1_0.length:Int)),(16,I Ag),(17,B (decide (Ag < (p1_0.length:Int)))),(18,.ref (C4 (p1_0.getD (Int.toNat Ag) default))),(19,.agg (C4 (p1_0.getD (Int.toNat Ag) default)))],[(1,(Ad p1_1)),(3,[.mp 4]),(4,[.mapO false false (.t9 Ea) (.t4 Eb)]),(1013,(C4 (p1_0.getD (Int.toNat Ag) default)))],1005⟩ (some 22) (fun st9=>(Bp (EV (Rl L) L 8 A7s.w.l.u.l.l.w.l.l.u.r) (Bb 1 (Bp (EV (Rl L) L 8 A7s.w.l.u.l.l.w.r) (D4 (Ep (EV (Rl L) L 8 A7s.w.l.u.l.l) [0,1,2,6,14,15,16] [1,3,4] n) [0,1,2,6,14,15,16] [1,3,4] K)))) .normal st9))
theorem Bjm(p1_0:List Bk)(Ag:Int)(p1_1:Aa)(Ea:List ByteArray)(Eb:List Bool)(Ar:Int)(ih:A2b L n K p1_0 p1_1)(o10:Cj):Aon (p1_0.getD (Int.toNat Ag) default) p1_1 Ea Eb (p1_0.getD (Int.toNat Ag) default) (Axn L n K p1_0 Ag Ar p1_1 Ea Eb) o10=ob (Pc L Ag Ar (Lg L p1_0 p1_1 n) o10) (kX [.ret,.exit 0] (Avn p1_0 p1_1) K):=eE (Pc L Ag Ar (fun Ar Ag Ea Eb=>re (ih (Ar,Ag,Ea,Eb))) o10)
theorem Bib(p1_0:List Bk)(p1_1:Aa):∀n,A2b L n K p1_0 p1_1:=lE (fun _=>rfl) fun n v ih=>eE (m8 L p1_0 p1_1 (fun Ar Ag Ea Eb=>re (ih (Ar,Ag,Ea,Eb))) v.1 v.2.1 v.2.2.1 v.2.2.2 (fun Ag Ea Eb Ar=>ho (Bhg L (Axn L n K p1_0 Ag Ar p1_1 Ea Eb) (p1_0.getD (Int.toNat Ag) default) p1_1 Ea Eb (p1_0.getD (Int.toNat Ag) default)) fun o10=>Bjm L n K p1_0 Ag p1_1 Ea Eb Ar ih o10))
def Atg(p1_0:List Bk)(p1_1:Aa)(k:Bu):Cj→Prop:=fun o=>k (I o.1) [(1,(Ad p1_1)),(3,[.mp 4]),(4,[.mapO false false (.t9 o.2.1) (.t4 o.2.2)])]
def Pd [An A Cj](L:Nat)(o11:Nat×T1):A:=
 (sl o11.1 [(lf (o11.2.1,o11.2.2.2.1,o11.2.2.2.2)),
 (lf (0,o11.2.2.2.1,o11.2.2.2.2))])
def Axo:Bg:=(Bb 0 (Bp (EV (Rl L) L 8 A7s.w.r) (Cx Tryz.prog (RS Tryz.f153) k)))
theorem Bjn(p1_0:List Bk)(p1_1:Aa)(o11:Nat×T1):kX [.ret,.exit 0] (Avn p1_0 p1_1) (Axo L k) o11=ob (Pd L o11) (Atg p1_0 p1_1 k):=eE (Pd L o11)
def m9 [An A Cj](L:Nat)(p1_0:List Bk)(p1_1:Aa)(nx20:A):A:=
 (cn (decide ((p1_0.length:Int) > 32))
 (lf (6,[],[]))
 nx20)
def An7 [An A Cj](p1_0:List Bk)(p1_1:Aa):A:=m9 L p1_0 p1_1 (bd (Lg L p1_0 p1_1 L 0 0 [] []) fun o11=>Pd L o11)
def Abc(p1_0:List Bk)(p1_1:Aa):Option Cj:=An7 L p1_0 p1_1
theorem Bhf(p1_0:List Bk)(p1_1:Aa):YO (Rl L) L 9 153 [lv (.t154 p1_0),I 32,.clo 154 0 [.loc 3 0,.loc 1 0]] [(1,(Ad p1_1)),(3,[.mp 4]),(4,[.mapO false false (.t9 []) (.t4 [])])] k=ob (Abc L p1_0 p1_1) (Atg p1_0 p1_1 k):=(Cu _ _ _ Xu _ _ _ _ _ _ _).trans (eE (m9 L p1_0 p1_1 (ho (Bib L (Axo L k) p1_0 p1_1 L (0,0,[],[])) fun o11=>Bjn L k p1_0 p1_1 o11)))
def Pe [An A Int](L:Nat)(o12:Cj):A:=
 (lf o12.1)
def Axp(a0:Aa):Bu:=(B2 Tryz.prog (Rl L) (EI (Rl L) L 9) 1 (List.drop 4 Bt0.w.l.ops) ⟨[(7,.clo 154 0 [.loc 3 0,.loc 1 0]),(6,lv (.t154 a0.Laws)),(5,.loc 1 12),(1,.loc 1 0),(2,I 0),(3,.loc 3 0)],[(1,(Ad a0)),(3,[.mp 4]),(4,[.mapO false false (.t9 []) (.t4 [])])],0⟩ (some 8) (fun st9=>(Bp (EV (Rl L) L 9 Bt0.w.r) (Ct Tryz.prog (RS Tryz.f118) kk)) .normal st9))
theorem Bjo(a0:Aa)(o12:Cj):Atg a0.Laws a0 (Axp L kk a0) o12=ob (Pe L o12) (kQ I kk):=eE (Pe L o12)
def At4 [An A Int](a0:Aa):A:=(bd (Abc L a0.Laws a0) fun o12=>Pe L o12)
def Aii(a0:Aa):Option Int:=At4 L a0
def Bsb:Di:=E1 I 118 Cs (Aii L) fun a0 r h=>hF Tryz.func118 (C:=Rl L) (oS _) L (fun kk=>eE ((ho (Bhf L (Axp L kk a0) a0.Laws a0) fun o12=>Bjo L kk a0 o12))) h
end
end Go.Proofs.YthjhkpgonleelaaGreatDoor.Ev
