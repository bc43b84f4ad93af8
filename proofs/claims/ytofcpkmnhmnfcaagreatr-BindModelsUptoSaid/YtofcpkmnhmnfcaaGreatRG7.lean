import Derived.Test.YtofcpkmnhmnfcaaGreatRG3
import Derived.Test.YtofcpkmnhmnfcaaGreatRG6
namespace Go.Proofs.YtofcpkmnhmnfcaaGreatR.Ev
open Go An
set_option maxRecDepth 100000
set_option maxHeartbeats 4000000
set_option linter.unusedVariables false
set_option linter.unusedSimpArgs false
set_option linter.unnecessarySimpa false
noncomputable section
variable {A:Type} (L n:Nat) (kk:Cz) (K:Ba) (k:Bq)
def Ckj:=CC Tryz.f182
def Cjw:=CC Tryz.f132
def Bjf(L:Nat):Bd:=oL []
def Bp5(p1_0:List Aa)(p1_1:Ac)(p1_2:ByteArray)(v:Cs):St:=⟨[(0,lv (.t53 p1_0)),(1,.clo 183 0 [.loc 3 0]),(4,I v.1),(7,I (p1_0.length:Int)),(8,I v.2)],[(2,(Au p1_1)),(3,[S p1_2])],4⟩
def Abm [An A Cm](L:Nat)(p1_0:List Aa)(p1_1:Ac)(p1_2:ByteArray)(rec:Int→Int→A)(Ai:Int)(Aj:Int):A:=
 (lw Aj p1_0
 (cn (((p1_0.getD (Int.toNat Aj) default).Name).toList == p1_2.toList)
 (lf (0,Aj,Aj))
 (rec Ai (B7 (Aj+1))))
 (lf (1,Ai,Aj)))
def Nl(L:Nat)(p1_0:List Aa)(p1_1:Ac)(p1_2:ByteArray):Nat→Int→Int→Option Cm
 |0,_,_=>none
 |n+1,Ai,Aj=>Abm L p1_0 p1_1 p1_2 (Nl L p1_0 p1_1 p1_2 n) Ai Aj
theorem B4m(p1_0:List Aa)(p1_1:Ac)(p1_2:ByteArray):LP (EV (Bjf L) L 8 Ckj.u.l.u.l.l) [0,1,4,7,8] [2,3] (Bp5 p1_0 p1_1 p1_2) [.ret,.exit 0] (fun n v=>Nl L p1_0 p1_1 p1_2 n v.1 v.2) K:=lE (fun _=>rfl) fun n v ih=>eE (Abm L p1_0 p1_1 p1_2 (fun Ai Aj=>re (ih (Ai,Aj))) v.1 v.2)
def Bcq(p1_0:List Aa)(p1_1:Ac)(p1_2:ByteArray)(k:Bq):Int→Prop:=fun o=>k (I o) [(2,(Au p1_1)),(3,[S p1_2])]
def Abz [An A Int](L:Nat)(o1:Nat×Cs):A:=
 (sl o1.1 [(lf o1.2.1),
 (lf (-1))])
def Bmq:Ba:=(Av 0 (Be (EV (Bjf L) L 8 Ckj.u.r) (Eb Tryz.prog (RS Tryz.f182) k)))
theorem Cea(p1_0:List Aa)(p1_1:Ac)(p1_2:ByteArray)(o1:Nat×Cs):kX [.ret,.exit 0] (Bp5 p1_0 p1_1 p1_2) (Bmq L k) o1=ob (Abz L o1) (Bcq p1_0 p1_1 p1_2 k):=eE (Abz L o1)
def Asj [An A Int](p1_0:List Aa)(p1_1:Ac)(p1_2:ByteArray):A:=(bd (Nl L p1_0 p1_1 p1_2 L 0 0) fun o1=>Abz L o1)
def Abe(p1_0:List Aa)(p1_1:Ac)(p1_2:ByteArray):Option Int:=Asj L p1_0 p1_1 p1_2
theorem B3i(p1_0:List Aa)(p1_1:Ac)(p1_2:ByteArray):YO (Bjf L) L 9 182 [lv (.t53 p1_0),.clo 183 0 [.loc 3 0]] [(2,(Au p1_1)),(3,[S p1_2])] k=ob (Abe L p1_0 p1_1 p1_2) (Bcq p1_0 p1_1 p1_2 k):=(C3 _ _ _ jn4 _ _ _ _ _ _ _).trans (eE ((ho (B4m L (Bmq L k) p1_0 p1_1 p1_2 L (0,0)) fun o1=>Cea L k p1_0 p1_1 p1_2 o1)))
def Ws [An A Int](L:Nat)(o2:Int):A:=
 (lf o2)
def Bmr(a0:Ac)(a1:ByteArray):Bq:=(B4 Tryz.prog (Bjf L) (EI (Bjf L) L 9) 1 (List.drop 4 Cjw.u.l.ops) ⟨[(7,.clo 183 0 [.loc 3 0]),(6,lv (.t53 a0.Sites)),(5,.loc 2 2),(2,.loc 2 0),(3,.loc 3 0),(4,I 0)],[(2,(Au a0)),(3,[S a1])],0⟩ (some 8) (fun st9=>(Be (EV (Bjf L) L 9 Cjw.u.r) (Cp Tryz.prog (RS Tryz.f132) kk)) .normal st9))
theorem Ceb(a0:Ac)(a1:ByteArray)(o2:Int):Bcq a0.Sites a0 a1 (Bmr L kk a0 a1) o2=ob (Ws L o2) (kQ I kk):=eE (Ws L o2)
def Ayk [An A Int](a0:Ac)(a1:ByteArray):A:=(bd (Abe L a0.Sites a0 a1) fun o2=>Ws L o2)
def d6(a0:Ac)(a1:ByteArray):Option Int:=Ayk L a0 a1
def B92:F7:=E2 I 132 Cu cS (d6 L) fun a0 a1 r h=>hF Tryz.func132 (C:=Bjf L) (oS _) L (fun kk=>eE ((ho (B3i L (Bmr L kk a0 a1) a0.Sites a0 a1) fun o2=>Ceb L kk a0 a1 o2))) h
def Bsh:=CC Tryz.f130
def c71:=CC Tryz.f71
def O71:Bd:=oL [Bjl L,B92 L]
def Buc(p3_0:Bk)(p3_1:Ac)(p3_2:List Bs)(p3_3:List Bool)(p3_4:Bk)(k:Bq):A3t→Prop:=fun o=>k (I o.1) [(1,(Au p3_1)),(3,[.mp 4]),(4,[.mapO true false (.t193 o.2.1) (.t4 o.2.2)]),(13,(P7 p3_4)),(17,(P7 p3_0)),(19,[S p3_0.From,S p3_0.To])]
def Agc [An A A3t](p3_0:Bk)(p3_1:Ac)(p3_2:List Bs)(p3_3:List Bool)(p3_4:Bk):A:=
 (bd (d6 L p3_1 p3_0.From) fun r1=>
 (jb (.cn (decide (r1 < 0))
 (.lf true)
 (.bd (d6 L p3_1 p3_0.To) fun r3=>
 (.lf (decide (r3 < 0))))) (fun b2=>
 (cn b2
 (lf (5,p3_2,p3_3))
 (cn (p3_0.From.toList == p3_0.To.toList)
 (lf (1,p3_2,p3_3))
 (bd (Bh L p3_0.Delay 1 1000000000) fun r4=>
 (cn (!r4)
 (lf (2,p3_2,p3_3))
 (fq (p3_2.findIdx? fun b=>(p3_0.From == b.a0 && (p3_0.To == b.a1))) (fun i5=>
 (cn (p3_3.getD i5 default)
 (lf (4,p3_2,p3_3))
 (fq (p3_2.findIdx? fun b=>(p3_0.From == b.a0 && (p3_0.To == b.a1))) (fun i6=>
 (lf (0,p3_2,(p3_3.set i6 true))))
 (lf (0,(p3_2++ [(⟨p3_0.From,p3_0.To⟩:Bs)]),(p3_3++ [true]))))))
 (fq (p3_2.findIdx? fun b=>(p3_0.From == b.a0 && (p3_0.To == b.a1))) (fun i7=>
 (lf (0,p3_2,(p3_3.set i7 true))))
 (lf (0,(p3_2++ [(⟨p3_0.From,p3_0.To⟩:Bs)]),(p3_3++ [true]))))))))))))
def Uu(p3_0:Bk)(p3_1:Ac)(p3_2:List Bs)(p3_3:List Bool)(p3_4:Bk):Option A3t:=Agc L p3_0 p3_1 p3_2 p3_3 p3_4
theorem Cby(p3_0:Bk)(p3_1:Ac)(p3_2:List Bs)(p3_3:List Bool)(p3_4:Bk):YO (O71 L) L 8 131 [.agg (P7 p3_0),.loc 1 0,.loc 3 0] [(1,(Au p3_1)),(3,[.mp 4]),(4,[.mapO true false (.t193 p3_2) (.t4 p3_3)]),(13,(P7 p3_4))] k=ob (Uu L p3_0 p3_1 p3_2 p3_3 p3_4) (Buc p3_0 p3_1 p3_2 p3_3 p3_4 k):=(C3 _ _ _ jn4 _ _ _ _ _ _ _).trans (eE (Agc L p3_0 p3_1 p3_2 p3_3 p3_4))
def Bk5(p1_0:List Bk)(p1_1:Ac)(v:Bjk):St:=⟨[(0,.any),(1,.any),(2,.clo 131 0 [.loc 1 0,.loc 3 0]),(6,I v.1),(14,lv (.t81 p1_0)),(15,I (p1_0.length:Int)),(16,I v.2.1)],[(1,(Au p1_1)),(3,[.mp 4]),(4,[.mapO true false (.t193 v.2.2.1) (.t4 v.2.2.2)])],5⟩
def Va [An A (Nat×Bjk)](L:Nat)(Aj:Int)(Al:Int)(rec:Int→Int→List Bs→List Bool→A)(o8:A3t):A:=
 (cn (o8.1 != 0)
 (lf (0,o8.1,Aj,o8.2.1,o8.2.2))
 (rec Al (B7 (Aj+1)) o8.2.1 o8.2.2))
def x9 [An A (Nat×Bjk)](L:Nat)(p1_0:List Bk)(p1_1:Ac)(rec:Int→Int→List Bs→List Bool→A)(Al:Int)(Aj:Int)(C2:List Bs)(Dn:List Bool)(nx3:Int→(List Bs)→(List Bool)→Int→A):A:=
 (lw Aj p1_0
 (nx3 Aj C2 Dn Al)
 (lf (1,Al,Aj,C2,Dn)))
def Agx [An A (Nat×Bjk)](p1_0:List Bk)(p1_1:Ac)(rec:Int→Int→List Bs→List Bool→A)(Al:Int)(Aj:Int)(C2:List Bs)(Dn:List Bool):A:=x9 L p1_0 p1_1 rec Al Aj C2 Dn (fun Aj C2 Dn Al=>bd (Uu L (p1_0.getD (Int.toNat Aj) default) p1_1 C2 Dn (p1_0.getD (Int.toNat Aj) default)) fun o8=>Va L Aj Al rec o8)
def Jd(L:Nat)(p1_0:List Bk)(p1_1:Ac):Nat→Int→Int→List Bs→List Bool→Option (Nat×Bjk)
 |0,_,_,_,_=>none
 |n+1,Al,Aj,C2,Dn=>Agx L p1_0 p1_1 (Jd L p1_0 p1_1 n) Al Aj C2 Dn
def Bt6(p1_0:List Bk)(p1_1:Ac):Prop:=LI (EV (O71 L) L 8 Bsh.w.l.u.l.l) [0,1,2,6,14,15,16] [1,3,4] (Bk5 p1_0 p1_1) [.ret,.exit 0] (fun n v=>Jd L p1_0 p1_1 n v.1 v.2.1 v.2.2.1 v.2.2.2) K n
def Bwz(p1_0:List Bk)(Aj:Int)(Al:Int)(p1_1:Ac)(C2:List Bs)(Dn:List Bool):Bq:=(B4 Tryz.prog (O71 L) (EI (O71 L) L 8) 1 (List.drop 3 Bsh.w.l.u.l.l.w.l.l.u.l.ops) ⟨[(21,.agg (P7 (p1_0.getD (Int.toNat Aj) default))),(20,.clo 131 0 [.loc 1 0,.loc 3 0]),(2,.clo 131 0 [.loc 1 0,.loc 3 0]),(6,I Al),(8,.loc 13 0),(14,lv (.t81 p1_0)),(15,I (p1_0.length:Int)),(16,I Aj),(17,B (decide (Aj < (p1_0.length:Int)))),(18,.ref (P7 (p1_0.getD (Int.toNat Aj) default))),(19,.agg (P7 (p1_0.getD (Int.toNat Aj) default)))],[(1,(Au p1_1)),(3,[.mp 4]),(4,[.mapO true false (.t193 C2) (.t4 Dn)]),(13,(P7 (p1_0.getD (Int.toNat Aj) default)))],5⟩ (some 22) (fun st9=>(Be (EV (O71 L) L 8 Bsh.w.l.u.l.l.w.l.l.u.r) (Av 1 (Be (EV (O71 L) L 8 Bsh.w.l.u.l.l.w.r) (Hh (Jj (EV (O71 L) L 8 Bsh.w.l.u.l.l) [0,1,2,6,14,15,16] [1,3,4] n) [0,1,2,6,14,15,16] [1,3,4] K)))) .normal st9))
theorem Cnf(p1_0:List Bk)(Aj:Int)(p1_1:Ac)(C2:List Bs)(Dn:List Bool)(Al:Int)(ih:Bt6 L n K p1_0 p1_1)(o8:A3t):Buc (p1_0.getD (Int.toNat Aj) default) p1_1 C2 Dn (p1_0.getD (Int.toNat Aj) default) (Bwz L n K p1_0 Aj Al p1_1 C2 Dn) o8=ob (Va L Aj Al (Jd L p1_0 p1_1 n) o8) (kX [.ret,.exit 0] (Bk5 p1_0 p1_1) K):=eE (Va L Aj Al (fun Al Aj C2 Dn=>re (ih (Al,Aj,C2,Dn))) o8)
theorem Cdk(p1_0:List Bk)(p1_1:Ac):∀n,Bt6 L n K p1_0 p1_1:=lE (fun _=>rfl) fun n v ih=>eE (x9 L p1_0 p1_1 (fun Al Aj C2 Dn=>re (ih (Al,Aj,C2,Dn))) v.1 v.2.1 v.2.2.1 v.2.2.2 (fun Aj C2 Dn Al=>ho (Cby L (Bwz L n K p1_0 Aj Al p1_1 C2 Dn) (p1_0.getD (Int.toNat Aj) default) p1_1 C2 Dn (p1_0.getD (Int.toNat Aj) default)) fun o8=>Cnf L n K p1_0 Aj p1_1 C2 Dn Al ih o8))
def Bja(p1_0:List Bk)(p1_1:Ac)(k:Bq):A3t→Prop:=fun o=>k (I o.1) [(1,(Au p1_1)),(3,[.mp 4]),(4,[.mapO true false (.t193 o.2.1) (.t4 o.2.2)])]
def t7 [An A A3t](L:Nat)(o9:Nat×Bjk):A:=
 (sl o9.1 [(lf (o9.2.1,o9.2.2.2.1,o9.2.2.2.2)),
 (lf (0,o9.2.2.2.1,o9.2.2.2.2))])
def Bw0:Ba:=(Av 0 (Be (EV (O71 L) L 8 Bsh.w.r) (Eb Tryz.prog (RS Tryz.f130) k)))
theorem Cng(p1_0:List Bk)(p1_1:Ac)(o9:Nat×Bjk):kX [.ret,.exit 0] (Bk5 p1_0 p1_1) (Bw0 L k) o9=ob (t7 L o9) (Bja p1_0 p1_1 k):=eE (t7 L o9)
def Ahj [An A A3t](L:Nat)(p1_0:List Bk)(p1_1:Ac)(nx4:A):A:=
 (cn (decide ((p1_0.length:Int) > 32))
 (lf (6,[],[]))
 nx4)
def Apt [An A A3t](p1_0:List Bk)(p1_1:Ac):A:=Ahj L p1_0 p1_1 (bd (Jd L p1_0 p1_1 L 0 0 [] []) fun o9=>t7 L o9)
def Agj(p1_0:List Bk)(p1_1:Ac):Option A3t:=Apt L p1_0 p1_1
theorem Cbx(p1_0:List Bk)(p1_1:Ac):YO (O71 L) L 9 130 [lv (.t81 p1_0),I 32,.clo 131 0 [.loc 1 0,.loc 3 0]] [(1,(Au p1_1)),(3,[.mp 4]),(4,[.mapO true false (.t193 []) (.t4 [])])] k=ob (Agj L p1_0 p1_1) (Bja p1_0 p1_1 k):=(C3 _ _ _ jn4 _ _ _ _ _ _ _).trans (eE (Ahj L p1_0 p1_1 (ho (Cdk L (Bw0 L k) p1_0 p1_1 L (0,0,[],[])) fun o9=>Cng L k p1_0 p1_1 o9)))
def Vb [An A Int](L:Nat)(o10:A3t):A:=
 (lf o10.1)
def Bw1(a0:Ac):Bq:=(B4 Tryz.prog (O71 L) (EI (O71 L) L 9) 1 (List.drop 4 c71.w.l.ops) ⟨[(7,.clo 131 0 [.loc 1 0,.loc 3 0]),(6,lv (.t81 a0.Links)),(5,.loc 1 3),(1,.loc 1 0),(2,I 0),(3,.loc 3 0)],[(1,(Au a0)),(3,[.mp 4]),(4,[.mapO true false (.t193 []) (.t4 [])])],0⟩ (some 8) (fun st9=>(Be (EV (O71 L) L 9 c71.w.r) (Cp Tryz.prog (RS Tryz.f71) kk)) .normal st9))
theorem Cnh(a0:Ac)(o10:A3t):Bja a0.Links a0 (Bw1 L kk a0) o10=ob (Vb L o10) (kQ I kk):=eE (Vb L o10)
def Av0 [An A Int](a0:Ac):A:=(bd (Agj L a0.Links a0) fun o10=>Vb L o10)
def Ahv(a0:Ac):Option Int:=Av0 L a0
def X71:F7:=E1 I 71 Cu (Ahv L) fun a0 r h=>hF Tryz.func71 (C:=O71 L) (oS _) L (fun kk=>eE ((ho (Cbx L (Bw1 L kk a0) a0.Links a0) fun o10=>Cnh L kk a0 o10))) h
def c67:=CC Tryz.f67
def c68:=CC Tryz.f68
def c39:=CC Tryz.f39
def O39:Bd:=oL [X65 L,X70 L,X71 L,B0x L,B0y L]
def Bub(p7_0:ByteArray)(p7_1:Ac)(p7_2:List ByteArray)(p7_3:List Bool)(p7_4:Ag)(p7_5:Ag)(k:Bq):Cw→Prop:=fun o=>k (I o.1) [(1,(Au p7_1)),(13,[.mapO false false (.t9 o.2.1) (.t4 o.2.2)]),(22,(B9 p7_4)),(26,(B9 p7_5))]
def Apr [An A Cw](p7_0:ByteArray)(p7_1:Ac)(p7_2:List ByteArray)(p7_3:List Bool)(p7_4:Ag)(p7_5:Ag):A:=
 (bd (Dc L p7_0) fun r2=>
 (cn (r2 != 0)
 (lf (r2,p7_2,p7_3))
 (fq (p7_2.findIdx? fun b=>p7_0 == b) (fun i3=>
 (cn (p7_3.getD i3 default)
 (lf (4,p7_2,p7_3))
 (fq (p7_2.findIdx? fun b=>p7_0 == b) (fun i4=>
 (lf (0,p7_2,(p7_3.set i4 true))))
 (lf (0,(p7_2++ [p7_0]),(p7_3++ [true]))))))
 (fq (p7_2.findIdx? fun b=>p7_0 == b) (fun i5=>
 (lf (0,p7_2,(p7_3.set i5 true))))
 (lf (0,(p7_2++ [p7_0]),(p7_3++ [true])))))))
def Agf(p7_0:ByteArray)(p7_1:Ac)(p7_2:List ByteArray)(p7_3:List Bool)(p7_4:Ag)(p7_5:Ag):Option Cw:=Apr L p7_0 p7_1 p7_2 p7_3 p7_4 p7_5
theorem Cbu(p7_0:ByteArray)(p7_1:Ac)(p7_2:List ByteArray)(p7_3:List Bool)(p7_4:Ag)(p7_5:Ag):YO (O39 L) L 6 69 [.mp 13,S p7_0] [(1,(Au p7_1)),(13,[.mapO false false (.t9 p7_2) (.t4 p7_3)]),(22,(B9 p7_4)),(26,(B9 p7_5))] k=ob (Agf L p7_0 p7_1 p7_2 p7_3 p7_4 p7_5) (Bub p7_0 p7_1 p7_2 p7_3 p7_4 p7_5 k):=(C3 _ _ _ jn4 _ _ _ _ _ _ _).trans (eE (Apr L p7_0 p7_1 p7_2 p7_3 p7_4 p7_5))
def Bi8(p5_0:Ag)(p5_1:Ac)(p5_2:List ByteArray)(p5_3:List Bool)(p5_4:Ag)(k:Bq):Cw→Prop:=fun o=>k (I o.1) [(1,(Au p5_1)),(13,[.mapO false false (.t9 o.2.1) (.t4 o.2.2)]),(22,(B9 p5_4)),(26,(B9 p5_0))]
def s9 [An A Cw](p5_0:Ag)(o6:Cw):A:=
 (cn (o6.1 != 0)
 (lf (o6.1,o6.2.1,o6.2.2))
 (bd (L1 L p5_0.Type_) fun r7=>
 (cn (!r7)
 (lf (1,o6.2.1,o6.2.2))
 (bd (Vu L p5_0.Type_ p5_0.N) fun r8=>
 (cn (!r8)
 (lf (2,o6.2.1,o6.2.2))
 (lf (0,o6.2.1,o6.2.2)))))))
def Bwi(p5_0:Ag)(p5_1:Ac)(p5_2:List ByteArray)(p5_3:List Bool)(p5_4:Ag):Bq:=(B4 Tryz.prog (O39 L) (EI (O39 L) L 6) 1 (List.drop 4 c98.u.l.l.ops) ⟨[(8,S p5_0.Name),(7,.loc 26 0),(6,.mp 13),(0,.mp 13),(3,.loc 26 0),(4,I 0)],[(1,(Au p5_1)),(13,[.mapO false false (.t9 p5_2) (.t4 p5_3)]),(22,(B9 p5_4)),(26,(B9 p5_0))],23⟩ (some 9) (fun st9=>(Be (EV (O39 L) L 6 c98.u.l.r) (Be (EV (O39 L) L 6 c98.u.r) (Eb Tryz.prog (RS Tryz.f98) k))) .normal st9))
theorem Cmy(p5_0:Ag)(p5_1:Ac)(p5_2:List ByteArray)(p5_3:List Bool)(p5_4:Ag)(o6:Cw):Bub p5_0.Name p5_1 p5_2 p5_3 p5_4 p5_0 (Bwi L k p5_0 p5_1 p5_2 p5_3 p5_4) o6=ob (s9 L p5_0 o6) (Bi8 p5_0 p5_1 p5_2 p5_3 p5_4 k):=eE (s9 L p5_0 o6)
def Apq [An A Cw](p5_0:Ag)(p5_1:Ac)(p5_2:List ByteArray)(p5_3:List Bool)(p5_4:Ag):A:=(bd (Agf L p5_0.Name p5_1 p5_2 p5_3 p5_4 p5_0) fun o6=>s9 L p5_0 o6)
def Pv(p5_0:Ag)(p5_1:Ac)(p5_2:List ByteArray)(p5_3:List Bool)(p5_4:Ag):Option Cw:=Apq L p5_0 p5_1 p5_2 p5_3 p5_4
theorem Cbt(p5_0:Ag)(p5_1:Ac)(p5_2:List ByteArray)(p5_3:List Bool)(p5_4:Ag):YO (O39 L) L 7 98 [.mp 13,.agg (B9 p5_0)] [(1,(Au p5_1)),(13,[.mapO false false (.t9 p5_2) (.t4 p5_3)]),(22,(B9 p5_4))] k=ob (Pv L p5_0 p5_1 p5_2 p5_3 p5_4) (Bi8 p5_0 p5_1 p5_2 p5_3 p5_4 k):=(C3 _ _ _ jn4 _ _ _ _ _ _ _).trans (eE ((ho (Cbu L (Bwi L k p5_0 p5_1 p5_2 p5_3 p5_4) p5_0.Name p5_1 p5_2 p5_3 p5_4 p5_0) fun o6=>Cmy L k p5_0 p5_1 p5_2 p5_3 p5_4 o6)))
def Bkx(p1_0:List Ag)(p1_1:Ac)(v:Tu5):St:=⟨[(0,.any),(1,.any),(2,.clo 98 1 [.mp 13]),(6,I v.1),(14,lv (.t39 p1_0)),(15,I (p1_0.length:Int)),(16,I v.2.1)],[(1,(Au p1_1)),(13,[.mapO false false (.t9 v.2.2.1) (.t4 v.2.2.2)])],14⟩
def U7 [An A Vo](L:Nat)(Aj:Int)(Al:Int)(rec:Int→Int→List ByteArray→List Bool→A)(o9:Cw):A:=
 (cn (o9.1 != 0)
 (lf (0,o9.1,Aj,o9.2.1,o9.2.2))
 (rec Al (B7 (Aj+1)) o9.2.1 o9.2.2))
def w8 [An A Vo](L:Nat)(p1_0:List Ag)(p1_1:Ac)(rec:Int→Int→List ByteArray→List Bool→A)(Al:Int)(Aj:Int)(C2:List ByteArray)(Dn:List Bool)(nx7:Int→(List ByteArray)→(List Bool)→Int→A):A:=
 (lw Aj p1_0
 (nx7 Aj C2 Dn Al)
 (lf (1,Al,Aj,C2,Dn)))
def Agv [An A Vo](p1_0:List Ag)(p1_1:Ac)(rec:Int→Int→List ByteArray→List Bool→A)(Al:Int)(Aj:Int)(C2:List ByteArray)(Dn:List Bool):A:=w8 L p1_0 p1_1 rec Al Aj C2 Dn (fun Aj C2 Dn Al=>bd (Pv L (p1_0.getD (Int.toNat Aj) default) p1_1 C2 Dn (p1_0.getD (Int.toNat Aj) default)) fun o9=>U7 L Aj Al rec o9)
def Jb(L:Nat)(p1_0:List Ag)(p1_1:Ac):Nat→Int→Int→List ByteArray→List Bool→Option Vo
 |0,_,_,_,_=>none
 |n+1,Al,Aj,C2,Dn=>Agv L p1_0 p1_1 (Jb L p1_0 p1_1 n) Al Aj C2 Dn
def Bty(p1_0:List Ag)(p1_1:Ac):Prop:=LI (EV (O39 L) L 7 c97.w.l.u.l.l) [0,1,2,6,14,15,16] [1,13] (Bkx p1_0 p1_1) [.ret,.exit 0] (fun n v=>Jb L p1_0 p1_1 n v.1 v.2.1 v.2.2.1 v.2.2.2) K n
def Bwj(p1_0:List Ag)(Aj:Int)(Al:Int)(p1_1:Ac)(C2:List ByteArray)(Dn:List Bool):Bq:=(B4 Tryz.prog (O39 L) (EI (O39 L) L 7) 1 (List.drop 3 c97.w.l.u.l.l.w.l.l.u.l.ops) ⟨[(21,.agg (B9 (p1_0.getD (Int.toNat Aj) default))),(20,.clo 98 1 [.mp 13]),(2,.clo 98 1 [.mp 13]),(6,I Al),(8,.loc 22 0),(14,lv (.t39 p1_0)),(15,I (p1_0.length:Int)),(16,I Aj),(17,B (decide (Aj < (p1_0.length:Int)))),(18,.ref (B9 (p1_0.getD (Int.toNat Aj) default))),(19,.agg (B9 (p1_0.getD (Int.toNat Aj) default)))],[(1,(Au p1_1)),(13,[.mapO false false (.t9 C2) (.t4 Dn)]),(22,(B9 (p1_0.getD (Int.toNat Aj) default)))],14⟩ (some 22) (fun st9=>(Be (EV (O39 L) L 7 c97.w.l.u.l.l.w.l.l.u.r) (Av 1 (Be (EV (O39 L) L 7 c97.w.l.u.l.l.w.r) (Hh (Jj (EV (O39 L) L 7 c97.w.l.u.l.l) [0,1,2,6,14,15,16] [1,13] n) [0,1,2,6,14,15,16] [1,13] K)))) .normal st9))
theorem Cmz(p1_0:List Ag)(Aj:Int)(p1_1:Ac)(C2:List ByteArray)(Dn:List Bool)(Al:Int)(ih:Bty L n K p1_0 p1_1)(o9:Cw):Bi8 (p1_0.getD (Int.toNat Aj) default) p1_1 C2 Dn (p1_0.getD (Int.toNat Aj) default) (Bwj L n K p1_0 Aj Al p1_1 C2 Dn) o9=ob (U7 L Aj Al (Jb L p1_0 p1_1 n) o9) (kX [.ret,.exit 0] (Bkx p1_0 p1_1) K):=eE (U7 L Aj Al (fun Al Aj C2 Dn=>re (ih (Al,Aj,C2,Dn))) o9)
theorem Ccy(p1_0:List Ag)(p1_1:Ac):∀n,Bty L n K p1_0 p1_1:=lE (fun _=>rfl) fun n v ih=>eE (w8 L p1_0 p1_1 (fun Al Aj C2 Dn=>re (ih (Al,Aj,C2,Dn))) v.1 v.2.1 v.2.2.1 v.2.2.2 (fun Aj C2 Dn Al=>ho (Cbt L (Bwj L n K p1_0 Aj Al p1_1 C2 Dn) (p1_0.getD (Int.toNat Aj) default) p1_1 C2 Dn (p1_0.getD (Int.toNat Aj) default)) fun o9=>Cmz L n K p1_0 Aj p1_1 C2 Dn Al ih o9))
def Bi7(p1_0:List Ag)(p1_1:Ac)(k:Bq):Cw→Prop:=fun o=>k (I o.1) [(1,(Au p1_1)),(13,[.mapO false false (.t9 o.2.1) (.t4 o.2.2)])]
def Ag0 [An A Cw](L:Nat)(o10:Nat×Tu5):A:=
 (sl o10.1 [(lf (o10.2.1,o10.2.2.2.1,o10.2.2.2.2)),
 (lf (0,o10.2.2.2.1,o10.2.2.2.2))])
def Bwk:Ba:=(Av 0 (Be (EV (O39 L) L 7 c97.w.r) (Eb Tryz.prog (RS Tryz.f97) k)))
theorem Cm0(p1_0:List Ag)(p1_1:Ac)(o10:Nat×Tu5):kX [.ret,.exit 0] (Bkx p1_0 p1_1) (Bwk L k) o10=ob (Ag0 L o10) (Bi7 p1_0 p1_1 k):=eE (Ag0 L o10)
def Aqh [An A Cw](L:Nat)(p1_0:List Ag)(p1_1:Ac)(nx8:A):A:=
 (cn (decide ((p1_0.length:Int) > 32))
 (lf (6,[],[]))
 nx8)
def A0s [An A Cw](p1_0:List Ag)(p1_1:Ac):A:=Aqh L p1_0 p1_1 (bd (Jb L p1_0 p1_1 L 0 0 [] []) fun o10=>Ag0 L o10)
def Age(p1_0:List Ag)(p1_1:Ac):Option Cw:=A0s L p1_0 p1_1
theorem Cbs(p1_0:List Ag)(p1_1:Ac):YO (O39 L) L 8 97 [lv (.t39 p1_0),I 32,.clo 98 1 [.mp 13]] [(1,(Au p1_1)),(13,[.mapO false false (.t9 []) (.t4 [])])] k=ob (Age L p1_0 p1_1) (Bi7 p1_0 p1_1 k):=(C3 _ _ _ jn4 _ _ _ _ _ _ _).trans (eE (Aqh L p1_0 p1_1 (ho (Ccy L (Bwk L k) p1_0 p1_1 L (0,0,[],[])) fun o10=>Cm0 L k p1_0 p1_1 o10)))
def Blo(p14_0:ByteArray)(p14_1:Ac)(p14_2:List ByteArray)(p14_3:List Bool)(p14_4:List ByteArray)(p14_5:List Bool)(p14_6:Aa)(p14_7:Aa)(k:Bq):Cw→Prop:=fun o=>k (I o.1) [(1,(Au p14_1)),(5,[.mp 24]),(13,[.mapO false false (.t9 p14_2) (.t4 p14_3)]),(24,[.mapO false false (.t9 o.2.1) (.t4 o.2.2)]),(33,(Af p14_6)),(36,(Af p14_7))]
def Ano [An A Cw](p14_0:ByteArray)(p14_1:Ac)(p14_2:List ByteArray)(p14_3:List Bool)(p14_4:List ByteArray)(p14_5:List Bool)(p14_6:Aa)(p14_7:Aa):A:=
 (bd (Dc L p14_0) fun r12=>
 (cn (r12 != 0)
 (lf (r12,p14_4,p14_5))
 (fq (p14_4.findIdx? fun b=>p14_0 == b) (fun i13=>
 (cn (p14_5.getD i13 default)
 (lf (4,p14_4,p14_5))
 (fq (p14_4.findIdx? fun b=>p14_0 == b) (fun i14=>
 (lf (0,p14_4,(p14_5.set i14 true))))
 (lf (0,(p14_4++ [p14_0]),(p14_5++ [true]))))))
 (fq (p14_4.findIdx? fun b=>p14_0 == b) (fun i15=>
 (lf (0,p14_4,(p14_5.set i15 true))))
 (lf (0,(p14_4++ [p14_0]),(p14_5++ [true])))))))
def Adq(p14_0:ByteArray)(p14_1:Ac)(p14_2:List ByteArray)(p14_3:List Bool)(p14_4:List ByteArray)(p14_5:List Bool)(p14_6:Aa)(p14_7:Aa):Option Cw:=Ano L p14_0 p14_1 p14_2 p14_3 p14_4 p14_5 p14_6 p14_7
theorem B3n(p14_0:ByteArray)(p14_1:Ac)(p14_2:List ByteArray)(p14_3:List Bool)(p14_4:List ByteArray)(p14_5:List Bool)(p14_6:Aa)(p14_7:Aa):YO (O39 L) L 7 69 [.mp 24,S p14_0] [(1,(Au p14_1)),(5,[.mp 24]),(13,[.mapO false false (.t9 p14_2) (.t4 p14_3)]),(24,[.mapO false false (.t9 p14_4) (.t4 p14_5)]),(33,(Af p14_6)),(36,(Af p14_7))] k=ob (Adq L p14_0 p14_1 p14_2 p14_3 p14_4 p14_5 p14_6 p14_7) (Blo p14_0 p14_1 p14_2 p14_3 p14_4 p14_5 p14_6 p14_7 k):=(C3 _ _ _ jn4 _ _ _ _ _ _ _).trans (eE (Ano L p14_0 p14_1 p14_2 p14_3 p14_4 p14_5 p14_6 p14_7))
def Bcu(p12_0:Aa)(p12_1:Ac)(p12_2:List ByteArray)(p12_3:List Bool)(p12_4:List ByteArray)(p12_5:List Bool)(p12_6:Aa)(k:Bq):Cw→Prop:=fun o=>k (I o.1) [(1,(Au p12_1)),(5,[.mp 24]),(13,[.mapO false false (.t9 p12_2) (.t4 p12_3)]),(24,[.mapO false false (.t9 o.2.1) (.t4 o.2.2)]),(33,(Af p12_6)),(36,(Af p12_0))]
def X2 [An A Cw](p12_0:Aa)(o16:Cw):A:=
 (cn (o16.1 != 0)
 (lf (o16.1,o16.2.1,o16.2.2))
 (bd (Ak1 L p12_0) fun r17=>
 (lf (r17,o16.2.1,o16.2.2))))
def Bon(p12_0:Aa)(p12_1:Ac)(p12_2:List ByteArray)(p12_3:List Bool)(p12_4:List ByteArray)(p12_5:List Bool)(p12_6:Aa):Bq:=(B4 Tryz.prog (O39 L) (EI (O39 L) L 7) 1 (List.drop 4 c68.u.l.l.ops) ⟨[(7,S p12_0.Name),(6,.loc 36 0),(5,.mp 24),(1,.loc 5 0),(2,.loc 36 0),(3,I 0)],[(1,(Au p12_1)),(5,[.mp 24]),(13,[.mapO false false (.t9 p12_2) (.t4 p12_3)]),(24,[.mapO false false (.t9 p12_4) (.t4 p12_5)]),(33,(Af p12_6)),(36,(Af p12_0))],34⟩ (some 8) (fun st9=>(Be (EV (O39 L) L 7 c68.u.l.r) (Be (EV (O39 L) L 7 c68.u.r) (Eb Tryz.prog (RS Tryz.f68) k))) .normal st9))
theorem Cf7(p12_0:Aa)(p12_1:Ac)(p12_2:List ByteArray)(p12_3:List Bool)(p12_4:List ByteArray)(p12_5:List Bool)(p12_6:Aa)(o16:Cw):Blo p12_0.Name p12_1 p12_2 p12_3 p12_4 p12_5 p12_6 p12_0 (Bon L k p12_0 p12_1 p12_2 p12_3 p12_4 p12_5 p12_6) o16=ob (X2 L p12_0 o16) (Bcu p12_0 p12_1 p12_2 p12_3 p12_4 p12_5 p12_6 k):=eE (X2 L p12_0 o16)
def Ann [An A Cw](p12_0:Aa)(p12_1:Ac)(p12_2:List ByteArray)(p12_3:List Bool)(p12_4:List ByteArray)(p12_5:List Bool)(p12_6:Aa):A:=(bd (Adq L p12_0.Name p12_1 p12_2 p12_3 p12_4 p12_5 p12_6 p12_0) fun o16=>X2 L p12_0 o16)
def M7(p12_0:Aa)(p12_1:Ac)(p12_2:List ByteArray)(p12_3:List Bool)(p12_4:List ByteArray)(p12_5:List Bool)(p12_6:Aa):Option Cw:=Ann L p12_0 p12_1 p12_2 p12_3 p12_4 p12_5 p12_6
theorem B3m(p12_0:Aa)(p12_1:Ac)(p12_2:List ByteArray)(p12_3:List Bool)(p12_4:List ByteArray)(p12_5:List Bool)(p12_6:Aa):YO (O39 L) L 8 68 [.agg (Af p12_0),.loc 5 0] [(1,(Au p12_1)),(5,[.mp 24]),(13,[.mapO false false (.t9 p12_2) (.t4 p12_3)]),(24,[.mapO false false (.t9 p12_4) (.t4 p12_5)]),(33,(Af p12_6))] k=ob (M7 L p12_0 p12_1 p12_2 p12_3 p12_4 p12_5 p12_6) (Bcu p12_0 p12_1 p12_2 p12_3 p12_4 p12_5 p12_6 k):=(C3 _ _ _ jn4 _ _ _ _ _ _ _).trans (eE ((ho (B3n L (Bon L k p12_0 p12_1 p12_2 p12_3 p12_4 p12_5 p12_6) p12_0.Name p12_1 p12_2 p12_3 p12_4 p12_5 p12_6 p12_0) fun o16=>Cf7 L k p12_0 p12_1 p12_2 p12_3 p12_4 p12_5 p12_6 o16)))
def Bky(p8_0:List Aa)(p8_1:Ac)(p8_2:List ByteArray)(p8_3:List Bool)(v:Tu5):St:=⟨[(0,.any),(1,.any),(2,.clo 68 0 [.loc 5 0]),(6,I v.1),(14,lv (.t53 p8_0)),(15,I (p8_0.length:Int)),(16,I v.2.1)],[(1,(Au p8_1)),(5,[.mp 24]),(13,[.mapO false false (.t9 p8_2) (.t4 p8_3)]),(24,[.mapO false false (.t9 v.2.2.1) (.t4 v.2.2.2)])],25⟩
def S4 [An A Vo](L:Nat)(B1:Int)(Bo:Int)(rec:Int→Int→List ByteArray→List Bool→A)(o18:Cw):A:=
 (cn (o18.1 != 0)
 (lf (0,o18.1,B1,o18.2.1,o18.2.2))
 (rec Bo (B7 (B1+1)) o18.2.1 o18.2.2))
def Yj [An A Vo](L:Nat)(p8_0:List Aa)(p8_1:Ac)(p8_2:List ByteArray)(p8_3:List Bool)(rec:Int→Int→List ByteArray→List Bool→A)(Bo:Int)(B1:Int)(Jl:List ByteArray)(Oc:List Bool)(nx16:Int→(List ByteArray)→(List Bool)→Int→A):A:=
 (lw B1 p8_0
 (nx16 B1 Jl Oc Bo)
 (lf (1,Bo,B1,Jl,Oc)))
def Agw [An A Vo](p8_0:List Aa)(p8_1:Ac)(p8_2:List ByteArray)(p8_3:List Bool)(rec:Int→Int→List ByteArray→List Bool→A)(Bo:Int)(B1:Int)(Jl:List ByteArray)(Oc:List Bool):A:=Yj L p8_0 p8_1 p8_2 p8_3 rec Bo B1 Jl Oc (fun B1 Jl Oc Bo=>bd (M7 L (p8_0.getD (Int.toNat B1) default) p8_1 p8_2 p8_3 Jl Oc (p8_0.getD (Int.toNat B1) default)) fun o18=>S4 L B1 Bo rec o18)
def Jc(L:Nat)(p8_0:List Aa)(p8_1:Ac)(p8_2:List ByteArray)(p8_3:List Bool):Nat→Int→Int→List ByteArray→List Bool→Option Vo
 |0,_,_,_,_=>none
 |n+1,Bo,B1,Jl,Oc=>Agw L p8_0 p8_1 p8_2 p8_3 (Jc L p8_0 p8_1 p8_2 p8_3 n) Bo B1 Jl Oc
def Btz(p8_0:List Aa)(p8_1:Ac)(p8_2:List ByteArray)(p8_3:List Bool):Prop:=LI (EV (O39 L) L 8 c67.w.l.u.l.l) [0,1,2,6,14,15,16] [1,5,13,24] (Bky p8_0 p8_1 p8_2 p8_3) [.ret,.exit 0] (fun n v=>Jc L p8_0 p8_1 p8_2 p8_3 n v.1 v.2.1 v.2.2.1 v.2.2.2) K n
def Boo(p8_0:List Aa)(B1:Int)(Bo:Int)(p8_1:Ac)(p8_2:List ByteArray)(p8_3:List Bool)(Jl:List ByteArray)(Oc:List Bool):Bq:=(B4 Tryz.prog (O39 L) (EI (O39 L) L 8) 1 (List.drop 3 c67.w.l.u.l.l.w.l.l.u.l.ops) ⟨[(21,.agg (Af (p8_0.getD (Int.toNat B1) default))),(20,.clo 68 0 [.loc 5 0]),(2,.clo 68 0 [.loc 5 0]),(6,I Bo),(8,.loc 33 0),(14,lv (.t53 p8_0)),(15,I (p8_0.length:Int)),(16,I B1),(17,B (decide (B1 < (p8_0.length:Int)))),(18,.ref (Af (p8_0.getD (Int.toNat B1) default))),(19,.agg (Af (p8_0.getD (Int.toNat B1) default)))],[(1,(Au p8_1)),(5,[.mp 24]),(13,[.mapO false false (.t9 p8_2) (.t4 p8_3)]),(24,[.mapO false false (.t9 Jl) (.t4 Oc)]),(33,(Af (p8_0.getD (Int.toNat B1) default)))],25⟩ (some 22) (fun st9=>(Be (EV (O39 L) L 8 c67.w.l.u.l.l.w.l.l.u.r) (Av 1 (Be (EV (O39 L) L 8 c67.w.l.u.l.l.w.r) (Hh (Jj (EV (O39 L) L 8 c67.w.l.u.l.l) [0,1,2,6,14,15,16] [1,5,13,24] n) [0,1,2,6,14,15,16] [1,5,13,24] K)))) .normal st9))
theorem Cf8(p8_0:List Aa)(B1:Int)(p8_1:Ac)(p8_2:List ByteArray)(p8_3:List Bool)(Jl:List ByteArray)(Oc:List Bool)(Bo:Int)(ih:Btz L n K p8_0 p8_1 p8_2 p8_3)(o18:Cw):Bcu (p8_0.getD (Int.toNat B1) default) p8_1 p8_2 p8_3 Jl Oc (p8_0.getD (Int.toNat B1) default) (Boo L n K p8_0 B1 Bo p8_1 p8_2 p8_3 Jl Oc) o18=ob (S4 L B1 Bo (Jc L p8_0 p8_1 p8_2 p8_3 n) o18) (kX [.ret,.exit 0] (Bky p8_0 p8_1 p8_2 p8_3) K):=eE (S4 L B1 Bo (fun Bo B1 Jl Oc=>re (ih (Bo,B1,Jl,Oc))) o18)
theorem Ccz(p8_0:List Aa)(p8_1:Ac)(p8_2:List ByteArray)(p8_3:List Bool):∀n,Btz L n K p8_0 p8_1 p8_2 p8_3:=lE (fun _=>rfl) fun n v ih=>eE (Yj L p8_0 p8_1 p8_2 p8_3 (fun Bo B1 Jl Oc=>re (ih (Bo,B1,Jl,Oc))) v.1 v.2.1 v.2.2.1 v.2.2.2 (fun B1 Jl Oc Bo=>ho (B3m L (Boo L n K p8_0 B1 Bo p8_1 p8_2 p8_3 Jl Oc) (p8_0.getD (Int.toNat B1) default) p8_1 p8_2 p8_3 Jl Oc (p8_0.getD (Int.toNat B1) default)) fun o18=>Cf8 L n K p8_0 B1 p8_1 p8_2 p8_3 Jl Oc Bo ih o18))
def Bi9(p8_0:List Aa)(p8_1:Ac)(p8_2:List ByteArray)(p8_3:List Bool)(k:Bq):Cw→Prop:=fun o=>k (I o.1) [(1,(Au p8_1)),(5,[.mp 24]),(13,[.mapO false false (.t9 p8_2) (.t4 p8_3)]),(24,[.mapO false false (.t9 o.2.1) (.t4 o.2.2)])]
def Aew [An A Cw](L:Nat)(o19:Nat×Tu5):A:=
 (sl o19.1 [(lf (o19.2.1,o19.2.2.2.1,o19.2.2.2.2)),
 (lf (0,o19.2.2.2.1,o19.2.2.2.2))])
def Bop:Ba:=(Av 0 (Be (EV (O39 L) L 8 c67.w.r) (Eb Tryz.prog (RS Tryz.f67) k)))
theorem Cf9(p8_0:List Aa)(p8_1:Ac)(p8_2:List ByteArray)(p8_3:List Bool)(o19:Nat×Tu5):kX [.ret,.exit 0] (Bky p8_0 p8_1 p8_2 p8_3) (Bop L k) o19=ob (Aew L o19) (Bi9 p8_0 p8_1 p8_2 p8_3 k):=eE (Aew L o19)
def An1 [An A Cw](L:Nat)(p8_0:List Aa)(p8_1:Ac)(p8_2:List ByteArray)(p8_3:List Bool)(nx17:A):A:=
 (cn (decide ((p8_0.length:Int) > 16))
 (lf (6,[],[]))
 nx17)
def A0t [An A Cw](p8_0:List Aa)(p8_1:Ac)(p8_2:List ByteArray)(p8_3:List Bool):A:=An1 L p8_0 p8_1 p8_2 p8_3 (bd (Jc L p8_0 p8_1 p8_2 p8_3 L 0 0 [] []) fun o19=>Aew L o19)
def Agg(p8_0:List Aa)(p8_1:Ac)(p8_2:List ByteArray)(p8_3:List Bool):Option Cw:=A0t L p8_0 p8_1 p8_2 p8_3
theorem Cbv(p8_0:List Aa)(p8_1:Ac)(p8_2:List ByteArray)(p8_3:List Bool):YO (O39 L) L 9 67 [lv (.t53 p8_0),I 16,.clo 68 0 [.loc 5 0]] [(1,(Au p8_1)),(5,[.mp 24]),(13,[.mapO false false (.t9 p8_2) (.t4 p8_3)]),(24,[.mapO false false (.t9 []) (.t4 [])])] k=ob (Agg L p8_0 p8_1 p8_2 p8_3) (Bi9 p8_0 p8_1 p8_2 p8_3 k):=(C3 _ _ _ jn4 _ _ _ _ _ _ _).trans (eE (An1 L p8_0 p8_1 p8_2 p8_3 (ho (Ccz L (Bop L k) p8_0 p8_1 p8_2 p8_3 L (0,0,[],[])) fun o19=>Cf9 L k p8_0 p8_1 p8_2 p8_3 o19)))
def S5 [An A Int](a0:Ac)(o20:Cw):A:=
 (cn (o20.1 != 0)
 (lf o20.1)
 (bd (Ahv L a0) fun r21=>
 (lf r21)))
def Boq(a0:Ac)(o11:Cw):Bq:=(B4 Tryz.prog (O39 L) (EI (O39 L) L 9) 1 (List.drop 4 c39.x.u.l.ops) ⟨[(27,.clo 68 0 [.loc 5 0]),(26,lv (.t53 a0.Sites)),(25,.loc 1 2),(1,.loc 1 0),(2,I 0),(5,.loc 5 0)],[(1,(Au a0)),(5,[.mp 24]),(13,[.mapO false false (.t9 o11.2.1) (.t4 o11.2.2)]),(24,[.mapO false false (.t9 []) (.t4 [])])],0⟩ (some 28) (fun st9=>(Be (EV (O39 L) L 9 c39.x.u.r) (Cp Tryz.prog (RS Tryz.f39) kk)) .normal st9))
theorem Cga(a0:Ac)(o11:Cw)(o20:Cw):Bi9 a0.Sites a0 o11.2.1 o11.2.2 (Boq L kk a0 o11) o20=ob (S5 L a0 o20) (kQ I kk):=eE (S5 L a0 o20)
def Yk [An A Int](L:Nat)(a0:Ac)(o11:Cw)(nx18:Cw→A):A:=
 (cn (o11.1 != 0)
 (lf o11.1)
 (cn ((a0.Sites.length:Int) == 0)
 (lf 7)
 (nx18 o11)))
def t5 [An A Int](a0:Ac)(o11:Cw):A:=Yk L a0 o11 (fun o11=>bd (Agg L a0.Sites a0 o11.2.1 o11.2.2) fun o20=>S5 L a0 o20)
def Bwl(a0:Ac):Bq:=(B4 Tryz.prog (O39 L) (EI (O39 L) L 8) 1 (List.drop 4 c66.u.l.ops) ⟨[(7,.clo 98 1 [.mp 13]),(6,.mp 13),(5,lv (.t39 a0.Params)),(0,.mp 13),(1,lv (.t39 a0.Params)),(4,I 0)],[(1,(Au a0)),(13,[.mapO false false (.t9 []) (.t4 [])])],14⟩ (some 8) (fun st9=>(Be (EV (O39 L) L 8 c66.u.r) (Eb Tryz.prog (RS Tryz.f66) (B4 Tryz.prog (O39 L) (EI (O39 L) L 9) 1 (List.drop 4 c39.w.l.l.ops) ⟨[(15,lv (.t39 a0.Params)),(14,.loc 1 1),(13,.mp 13),(1,.loc 1 0),(2,I 0)],[(13,[.mapO false false (.t9 []) (.t4 [])]),(1,(Au a0))],0⟩ (some 16) (fun st9=>(Be (EV (O39 L) L 9 c39.w.l.r) (Be (EV (O39 L) L 9 c39.w.r) (Cp Tryz.prog (RS Tryz.f39) kk))) .normal st9)))) .normal st9))
theorem Cm1(a0:Ac)(o11:Cw):Bi7 a0.Params a0 (Bwl L kk a0) o11=ob (t5 L a0 o11) (kQ I kk):=eE (Yk L a0 o11 (fun o11=>ho (Cbv L (Boq L kk a0 o11) a0.Sites a0 o11.2.1 o11.2.2) fun o20=>Cga L kk a0 o11 o20))
def w9 [An A Int](a0:Ac)(nx9:A):A:=
 (bd (Dc L a0.Name) fun r1=>
 (cn (r1 != 0)
 (lf r1)
 nx9))
def Avz [An A Int](a0:Ac):A:=w9 L a0 (bd (Age L a0.Params a0) fun o11=>t5 L a0 o11)
def Ahu(a0:Ac):Option Int:=Avz L a0
def X39:F7:=E1 I 39 Cu (Ahu L) fun a0 r h=>hF Tryz.func39 (C:=O39 L) (oS _) L (fun kk=>eE (w9 L a0 (ho (Cbs L (Bwl L kk a0) a0.Params a0) fun o11=>Cm1 L kk a0 o11))) h
def Cku:=CC Tryz.f223
def B9s(L:Nat):Bd:=oL []
def Cln:Tu6→Prop:=fun x=>kk ((fun(x:Tu6)=> .tup [I x.1,B x.2]) x)
def Bq8(a0:List Ap)(a1:ByteArray)(v:Tu7):St:=⟨[(0,lv (.t127 a0)),(1,S a1),(4,I v.1),(5,B v.2.1),(6,I v.2.2)],[],0⟩
def Sw [An A (Nat×Tu7)](L:Nat)(a0:List Ap)(a1:ByteArray)(rec:Int→Bool→Int→A)(Ak:Int)(Aj:Bool)(Bu:Int):A:=
 (cn (decide (Bu≥0))
 (gi Bu a0
 (cn (((a0.getD (Int.toNat Bu) default).Name).toList == a1.toList)
 (gi Bu a0
 (lf (0,(((a0.getD (Int.toNat Bu) default).Type_),true,Bu))))
 (rec Ak Aj (B7 (Bu - 1)))))
 (lf (1,Ak,Aj,Bu)))
def J3(L:Nat)(a0:List Ap)(a1:ByteArray):Nat→Int→Bool→Int→Option (Nat×Tu7)
 |0,_,_,_=>none
 |n+1,Ak,Aj,Bu=>Sw L a0 a1 (J3 L a0 a1 n) Ak Aj Bu
theorem B5p(a0:List Ap)(a1:ByteArray):LP (EV (B9s L) L 9 Cku.u.l.u.l.l) [0,1,4,5,6] [] (Bq8 a0 a1) [.ret,.exit 0] (fun n v=>J3 L a0 a1 n v.1 v.2.1 v.2.2) K:=lE (fun _=>rfl) fun n v ih=>eE (Sw L a0 a1 (fun Ak Aj Bu=>re (ih (Ak,Aj,Bu))) v.1 v.2.1 v.2.2)
def Tb [An A Tu6](L:Nat)(o1:Nat×Tu7):A:=
 (sl o1.1 [(lf (o1.2.1,o1.2.2.1)),
 (lf (0,false))])
def Bn3:Ba:=(Av 0 (Be (EV (B9s L) L 9 Cku.u.r) (Cp Tryz.prog (RS Tryz.f223) kk)))
theorem Cfn(a0:List Ap)(a1:ByteArray)(o1:Nat×Tu7):kX [.ret,.exit 0] (Bq8 a0 a1) (Bn3 L kk) o1=ob (Tb L o1) (Cln kk):=eE (Tb L o1)
def At2 [An A Tu6](a0:List Ap)(a1:ByteArray):A:=(bd (J3 L a0 a1 L 0 false (B7 ((a0.length:Int) - 1))) fun o1=>Tb L o1)
def P6(a0:List Ap)(a1:ByteArray):Option Tu6:=At2 L a0 a1
def Bum:F7:=E2 (fun(x:Tu6)=> .tup [I x.1,B x.2]) 223 A7c cS (P6 L) fun a0 a1 r h=>hF Tryz.func223 (C:=B9s L) (oS _) L (fun kk=>eE ((ho (B5p L (Bn3 L kk) a0 a1 L (0,false,(B7 ((a0.length:Int) - 1)))) fun o1=>Cfn L kk a0 a1 o1))) h
def B08:=CC Tryz.f195
def Bui:Bd:=oL [Bum L]
def B73:Tu6→Prop:=fun x=>kk ((fun(x:Tu6)=> .tup [I x.1,B x.2]) x)
def Bq0(a1:ByteArray)(a0:Aq)(v:Tu7):St:=⟨[(0,.any),(1,S a1),(2,.loc 2 0),(4,I v.1),(5,B v.2.1),(6,.any),(7,.any),(11,.any),(23,lv (.t39 a0.Site.Vars)),(24,I (a0.Site.Vars.length:Int)),(25,I v.2.2),(39,.any)],[(2,(Pu a0))],0⟩
def m7 [An A (Nat×Tu7)](L:Nat)(a1:ByteArray)(a0:Aq)(rec:Int→Bool→Int→A)(Ai:Int)(Ak:Bool)(Ac0:Int):A:=
 (lw Ac0 a0.Site.Vars
 (cn (((a0.Site.Vars.getD (Int.toNat Ac0) default).Name).toList == a1.toList)
 (lf (0,(((a0.Site.Vars.getD (Int.toNat Ac0) default).Type_),true,Ac0)))
 (rec Ai Ak (B7 (Ac0+1))))
 (lf (1,Ai,Ak,Ac0)))
def Ll(L:Nat)(a1:ByteArray)(a0:Aq):Nat→Int→Bool→Int→Option (Nat×Tu7)
 |0,_,_,_=>none
 |n+1,Ai,Ak,Ac0=>m7 L a1 a0 (Ll L a1 a0 n) Ai Ak Ac0
theorem B5h(a1:ByteArray)(a0:Aq):LP (EV (Bui L) L 9 B08.w.l.u.l.l) [0,1,2,4,5,6,7,11,23,24,25,39] [2] (Bq0 a1 a0) [.ret,.exit 0] (fun n v=>Ll L a1 a0 n v.1 v.2.1 v.2.2) K:=lE (fun _=>rfl) fun n v ih=>eE (m7 L a1 a0 (fun Ai Ak Ac0=>re (ih (Ai,Ak,Ac0))) v.1 v.2.1 v.2.2)
def Bq1(a1:ByteArray)(a0:Aq)(v:Tu7):St:=⟨[(0,.any),(1,S a1),(2,.any),(4,I v.1),(5,B v.2.1),(6,.any),(7,.any),(9,.any),(25,.any),(37,lv (.t39 a0.Params)),(38,I (a0.Params.length:Int)),(39,I v.2.2)],[(2,(Pu a0))],0⟩
def m8 [An A (Nat×Tu7)](L:Nat)(a1:ByteArray)(a0:Aq)(rec:Int→Bool→Int→A)(Bt:Int)(Gh:Bool)(Aam:Int):A:=
 (lw Aam a0.Params
 (cn (((a0.Params.getD (Int.toNat Aam) default).Name).toList == a1.toList)
 (lf (0,(((a0.Params.getD (Int.toNat Aam) default).Type_),true,Aam)))
 (rec Bt Gh (B7 (Aam+1))))
 (lf (1,Bt,Gh,Aam)))
def Lm(L:Nat)(a1:ByteArray)(a0:Aq):Nat→Int→Bool→Int→Option (Nat×Tu7)
 |0,_,_,_=>none
 |n+1,Bt,Gh,Aam=>m8 L a1 a0 (Lm L a1 a0 n) Bt Gh Aam
theorem B5i(a1:ByteArray)(a0:Aq):LP (EV (Bui L) L 9 B08.w.u.l.u.l.l) [0,1,2,4,5,6,7,9,25,37,38,39] [2] (Bq1 a1 a0) [.ret,.exit 2] (fun n v=>Lm L a1 a0 n v.1 v.2.1 v.2.2) K:=lE (fun _=>rfl) fun n v ih=>eE (m8 L a1 a0 (fun Bt Gh Aam=>re (ih (Bt,Gh,Aam))) v.1 v.2.1 v.2.2)
def Vl [An A Tu6](L:Nat)(o3:Nat×Tu7):A:=
 (sl o3.1 [(lf (o3.2.1,o3.2.2.1)),
 (lf (0,false))])
def Bnv:Ba:=(Av 2 (Be (EV (Bui L) L 9 B08.w.u.r) (Cp Tryz.prog (RS Tryz.f195) kk)))
theorem Cff(a1:ByteArray)(a0:Aq)(o3:Nat×Tu7):kX [.ret,.exit 2] (Bq1 a1 a0) (Bnv L kk) o3=ob (Vl L o3) (B73 kk):=eE (Vl L o3)
def Aac [An A Tu6](L:Nat)(a1:ByteArray)(a0:Aq)(o2:Nat×Tu7)(nx2:(Nat×Tu7)→A):A:=
 (sl o2.1 [(lf (o2.2.1,o2.2.2.1)),
 (nx2 o2)])
def w3 [An A Tu6](a1:ByteArray)(a0:Aq)(o2:Nat×Tu7):A:=Aac L a1 a0 o2 (fun o2=>bd (Lm L a1 a0 L o2.2.1 o2.2.2.1 0) fun o3=>Vl L o3)
def Bnu:Ba:=(Av 0 (Be (EV (Bui L) L 9 B08.w.r) (Cp Tryz.prog (RS Tryz.f195) kk)))
theorem Cfe(a1:ByteArray)(a0:Aq)(o2:Nat×Tu7):kX [.ret,.exit 0] (Bq0 a1 a0) (Bnu L kk) o2=ob (w3 L a1 a0 o2) (B73 kk):=eE (Aac L a1 a0 o2 (fun o2=>ho (B5i L (Bnv L kk) a1 a0 L (o2.2.1,o2.2.2.1,0)) fun o3=>Cff L kk a1 a0 o3))
def Aab [An A Tu6](a0:Aq)(a1:ByteArray)(nx1:A):A:=
 (bd (P6 L a0.Locals a1) fun r1=>
 (cn r1.2
 (lf (r1.1,true))
 nx1))
def Av4 [An A Tu6](a0:Aq)(a1:ByteArray):A:=Aab L a0 a1 (bd (Ll L a1 a0 L 0 false 0) fun o2=>w3 L a1 a0 o2)
def Ahy(a0:Aq)(a1:ByteArray):Option Tu6:=Av4 L a0 a1
def Cag:F7:=E2 (fun(x:Tu6)=> .tup [I x.1,B x.2]) 195 Gg cS (Ahy L) fun a0 a1 r h=>hF Tryz.func195 (C:=Bui L) (oS _) L (fun kk=>eE (Aab L a0 a1 (ho (B5h L (Bnu L kk) a1 a0 L (0,false,0)) fun o2=>Cfe L kk a1 a0 o2))) h
end
end Go.Proofs.YtofcpkmnhmnfcaaGreatR.Ev
