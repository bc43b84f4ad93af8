import Derived.Test.YthjhkpgonleelaaGreatDoorDG1
import Derived.Test.YthjhkpgonleelaaGreatDoorDG2
set_option maxRecDepth 100000
set_option maxHeartbeats 4000000
set_option linter.unusedVariables false
set_option linter.unusedSimpArgs false
set_option linter.unnecessarySimpa false
namespace Go.Proofs.YthjhkpgonleelaaGreatDoor.Ev
open Go An
noncomputable section
variable {A:Type} (L n:Nat) (kk:Lr) (K:Ei) (k:Dj)
def Bnw:=CC Tryz.f153
def Bs0:=CC Tryz.f154
def B7y:=CC Tryz.f155
def B7r:=CC Tryz.f118
def Aqj:Bc:=oL [X35 L,Cbo L,B05 L]
def Bnf(p10_0:Yb)(p10_1:Aa)(p10_2:List Yb)(p10_3:List Bool)(p10_4:Bh)(p10_5:Bh)(k:Dj):Df->Prop:=λo=>k (I o.1) [(1,(Ae p10_1)),Amj,(4,[.aQ false false (.t9 o.2.1) (.t4 o.2.2)]),(1013,(Dv p10_4)),(2017,(Dv p10_5))]
def Am3 [An A Df](p10_0:Yb)(p10_1:Aa)(p10_2:List Yb)(p10_3:List Bool)(p10_4:Bh)(p10_5:Bh):A:=
 (bd (Cw L p10_0) λr1=>
 (cn (r1 != 0)
 (lf (r1,p10_2,p10_3))
 (fq (p10_2.findIdx? λb=>p10_0 == b) (λi2=>
 (cn (p10_3.getD i2 default)
 (lf (4,p10_2,p10_3))
 (fq (p10_2.findIdx? λb=>p10_0 == b) (λi3=>
 (lf (0,p10_2,(p10_3.set i3 true))))
 (lf (0,(p10_2++ [p10_0]),(p10_3++ [true]))))))
 (fq (p10_2.findIdx? λb=>p10_0 == b) (λi4=>
 (lf (0,p10_2,(p10_3.set i4 true))))
 (lf (0,(p10_2++ [p10_0]),(p10_3++ [true])))))))
def Ada(p10_0:Yb)(p10_1:Aa)(p10_2:List Yb)(p10_3:List Bool)(p10_4:Bh)(p10_5:Bh):Option Df:=Am3 L p10_0 p10_1 p10_2 p10_3 p10_4 p10_5
theorem Bo3(p10_0:Yb)(p10_1:Aa)(p10_2:List Yb)(p10_3:List Bool)(p10_4:Bh)(p10_5:Bh):YO (Aqj L) L 7 59 [.mp 4,S p10_0] [(1,(Ae p10_1)),Amj,(4,[.aQ false false (.t9 p10_2) (.t4 p10_3)]),(1013,(Dv p10_4)),(2017,(Dv p10_5))] k=ob (Ada L p10_0 p10_1 p10_2 p10_3 p10_4 p10_5) (Bnf p10_0 p10_1 p10_2 p10_3 p10_4 p10_5 k):=(C4 _ _ _ jn4 _ _ _ _ _ _ _).trans (eE (Am3 L p10_0 p10_1 p10_2 p10_3 p10_4 p10_5))
def Bxe(p11_0:List Bd)(p11_1:Aa)(p11_2:List Yb)(p11_3:List Bool)(p11_4:Bh)(p11_5:Bh)(v:Js):St:=⟨[(0,.any),(1,.any),(2,.bK 156 0 A25),(6,I v.1),(14,lv (.t203 p11_0)),(15,I (p11_0.length:Int)),(16,I v.2)],[(1,(Ae p11_1)),Amj,(4,[.aQ false false (.t9 p11_2) (.t4 p11_3)]),(1013,(Dv p11_4)),(2017,(Dv p11_5))],3018⟩
def Yp [An A C3](p11_0:List Bd)(p11_1:Aa)(p11_2:List Yb)(p11_3:List Bool)(p11_4:Bh)(p11_5:Bh)(rec:Int->Int->A)(Bz:Int)(Bq:Int):A:=
 (lw Bq p11_0
 (bd (V3 L p11_1 (gD p11_0 Bq)) λr6=>
 (cn (r6 != 0)
 (lf (0,r6,Bq))
 (rec Bz (Bs (Bq+1)))))
 (lf (1,Bz,Bq)))
def Kx(L:Nat)(p11_0:List Bd)(p11_1:Aa)(p11_2:List Yb)(p11_3:List Bool)(p11_4:Bh)(p11_5:Bh):Nat->Int->Int->Option C3
 |0,_,_=>none
 |n+1,Bz,Bq=>Yp L p11_0 p11_1 p11_2 p11_3 p11_4 p11_5 (Kx L p11_0 p11_1 p11_2 p11_3 p11_4 p11_5 n) Bz Bq
theorem Bvp(p11_0:List Bd)(p11_1:Aa)(p11_2:List Yb)(p11_3:List Bool)(p11_4:Bh)(p11_5:Bh):LP (EV (Aqj L) L 6 B7y.w.l.u.l.l) [0,1,2,6,14,15,16] [1,3,4,1013,2017] (Bxe p11_0 p11_1 p11_2 p11_3 p11_4 p11_5) [.ret,.exit 0] (λn v=>Kx L p11_0 p11_1 p11_2 p11_3 p11_4 p11_5 n v.1 v.2) K:=lE (λ_=>rfl) λn v ih=>eE (Yp L p11_0 p11_1 p11_2 p11_3 p11_4 p11_5 (λBz Bq=>re (ih (Bz,Bq))) v.1 v.2)
def Bng(p11_0:List Bd)(p11_1:Aa)(p11_2:List Yb)(p11_3:List Bool)(p11_4:Bh)(p11_5:Bh)(k:Dj):Int->Prop:=λo=>k (I o) [(1,(Ae p11_1)),Amj,(4,[.aQ false false (.t9 p11_2) (.t4 p11_3)]),(1013,(Dv p11_4)),(2017,(Dv p11_5))]
def Ann [An A Int](L:Nat)(o7:Nat×Js):A:=
 (sl o7.1 [(lf o7.2.1),
 (lf 0)])
def An4 [An A Int](L:Nat)(p11_0:List Bd)(p11_1:Aa)(p11_2:List Yb)(p11_3:List Bool)(p11_4:Bh)(p11_5:Bh)(nx17:A):A:=
 (cn (decide ((p11_0.length:Int)>8))
 (lf 6)
 nx17)
def Ayz [An A Int](p11_0:List Bd)(p11_1:Aa)(p11_2:List Yb)(p11_3:List Bool)(p11_4:Bh)(p11_5:Bh):A:=An4 L p11_0 p11_1 p11_2 p11_3 p11_4 p11_5 (bd (Kx L p11_0 p11_1 p11_2 p11_3 p11_4 p11_5 L 0 0) λo7=>Ann L o7)
def Adb(p11_0:List Bd)(p11_1:Aa)(p11_2:List Yb)(p11_3:List Bool)(p11_4:Bh)(p11_5:Bh):Option Int:=Ayz L p11_0 p11_1 p11_2 p11_3 p11_4 p11_5
theorem Bo4(p11_0:List Bd)(p11_1:Aa)(p11_2:List Yb)(p11_3:List Bool)(p11_4:Bh)(p11_5:Bh):YO (Aqj L) L 7 155 [lv (.t203 p11_0),I 8,.bK 156 0 A25] [(1,(Ae p11_1)),Amj,(4,[.aQ false false (.t9 p11_2) (.t4 p11_3)]),(1013,(Dv p11_4)),(2017,(Dv p11_5))] k=ob (Adb L p11_0 p11_1 p11_2 p11_3 p11_4 p11_5) (Bng p11_0 p11_1 p11_2 p11_3 p11_4 p11_5 k):=(C4 _ _ _ jn4 _ _ _ _ _ _ _).trans (eE (An4 L p11_0 p11_1 p11_2 p11_3 p11_4 p11_5 (hq (Bvp L (KA (Aqj L) L 6 B7y (rl [4,1,2,1]) (KJ Tryz.f155 k)) p11_0 p11_1 p11_2 p11_3 p11_4 p11_5 L (0,0)) λo7=>Ann L o7)))
def Brw(p7_0:Bh)(p7_1:Aa)(p7_2:List Yb)(p7_3:List Bool)(p7_4:Bh)(k:Dj):Df->Prop:=λo=>k (I o.1) [(1,(Ae p7_1)),Amj,(4,[.aQ false false (.t9 o.2.1) (.t4 o.2.2)]),(1013,(Dv p7_4)),(2017,(Dv p7_0))]
def Adx [An A Df](o5:Df)(p7_0:Bh)(o8:Int):A:=
 (cn (o8 != 0)
 (lf (o8,o5.2.1,o5.2.2))
 (bd (Aiq L p7_0.Total) λr9=>
 (cn (!r9)
 (lf (2,o5.2.1,o5.2.2))
 (lf (0,o5.2.1,o5.2.2)))))
def Ad8 [An A Df](L:Nat)(p7_0:Bh)(p7_1:Aa)(p7_4:Bh)(o5:Df)(nx18:Df->A):A:=
 (cn (o5.1 != 0)
 (lf (o5.1,o5.2.1,o5.2.2))
 (cn ((p7_0.bV.length:Int) == 0)
 (lf (7,o5.2.1,o5.2.2))
 (nx18 o5)))
def Anm [An A Df](p7_0:Bh)(p7_1:Aa)(p7_4:Bh)(o5:Df):A:=Ad8 L p7_0 p7_1 p7_4 o5 (λo5=>bd (Adb L p7_0.bV p7_1 o5.2.1 o5.2.2 p7_4 p7_0) λo8=>Adx L o5 p7_0 o8)
def Ap9 [An A Df](p7_0:Bh)(p7_1:Aa)(p7_2:List Yb)(p7_3:List Bool)(p7_4:Bh):A:=(bd (Ada L p7_0.aF p7_1 p7_2 p7_3 p7_4 p7_0) λo5=>Anm L p7_0 p7_1 p7_4 o5)
def N9(p7_0:Bh)(p7_1:Aa)(p7_2:List Yb)(p7_3:List Bool)(p7_4:Bh):Option Df:=Ap9 L p7_0 p7_1 p7_2 p7_3 p7_4
theorem Bur(p7_0:Bh)(p7_1:Aa)(p7_2:List Yb)(p7_3:List Bool)(p7_4:Bh):YO (Aqj L) L 8 154 [.agg (Dv p7_0),.loc 3 0,.loc 1 0] [(1,(Ae p7_1)),Amj,(4,[.aQ false false (.t9 p7_2) (.t4 p7_3)]),(1013,(Dv p7_4))] k=ob (N9 L p7_0 p7_1 p7_2 p7_3 p7_4) (Brw p7_0 p7_1 p7_2 p7_3 p7_4 k):=(C4 _ _ _ jn4 _ _ _ _ _ _ _).trans (eE ((hq (Bo3 L (Mx (Aqj L) L 7 1 4 Bs0.u.l.l ⟨[(9,S p7_0.aF),(8,Bdd),(7,.mp 4),Aye,(2,.loc 1 0),(3,Bdd),(4,I 0)],[(1,(Ae p7_1)),Amj,(4,[.aQ false false (.t9 p7_2) (.t4 p7_3)]),(1013,(Dv p7_4)),(2017,(Dv p7_0))],2014⟩ (some 10) (kN (KA (Aqj L) L 7 Bs0 (rl [2,2]) (KJ Tryz.f154 k)))) p7_0.aF p7_1 p7_2 p7_3 p7_4 p7_0) λo5=>Ad8 L p7_0 p7_1 p7_4 o5 (λo5=>hq (Bo4 L (Mx (Aqj L) L 7 1 4 Bs0.w.u.l.l ⟨[(20,.bK 156 0 A25),(19,lv (.t203 p7_0.bV)),(18,.loc 2017 1),(2,.loc 1 0),(3,Bdd),(4,I 0)],[(1,(Ae p7_1)),Amj,(4,[.aQ false false (.t9 o5.2.1) (.t4 o5.2.2)]),(1013,(Dv p7_4)),(2017,(Dv p7_0))],2014⟩ (some 21) (kN (KA (Aqj L) L 7 Bs0 (rl [6,2]) (KJ Tryz.f154 k)))) p7_0.bV p7_1 o5.2.1 o5.2.2 p7_4 p7_0) λo8=>Adx L o5 p7_0 o8))))
def Bxd(p1_0:List Bh)(p1_1:Aa)(v:Tu4):St:=⟨[(0,.any),(1,.any),(2,.bK 154 0 Avx),(6,I v.1),(14,lv (.t154 p1_0)),(15,I (p1_0.length:Int)),(16,I v.2.1)],[(1,(Ae p1_1)),Amj,(4,[.aQ false false (.t9 v.2.2.1) (.t4 v.2.2.2)])],1005⟩
def Wv [An A P8](L:Nat)(Af:Int)(Ai:Int)(rec:Int->Int->List Yb->List Bool->A)(o10:Df):A:=
 (cn (o10.1 != 0)
 (lf (0,o10.1,Af,o10.2.1,o10.2.2))
 (rec Ai (Bs (Af+1)) o10.2.1 o10.2.2))
def Xe [An A P8](L:Nat)(p1_0:List Bh)(p1_1:Aa)(rec:Int->Int->List Yb->List Bool->A)(Ai:Int)(Af:Int)(Cp:List Yb)(Cq:List Bool)(nx19:Int->(List Yb)->(List Bool)->Int->A):A:=
 (lw Af p1_0
 (nx19 Af Cp Cq Ai)
 (lf (1,Ai,Af,Cp,Cq)))
def Agt [An A P8](p1_0:List Bh)(p1_1:Aa)(rec:Int->Int->List Yb->List Bool->A)(Ai:Int)(Af:Int)(Cp:List Yb)(Cq:List Bool):A:=Xe L p1_0 p1_1 rec Ai Af Cp Cq (λAf Cp Cq Ai=>bd (N9 L (gD p1_0 Af) p1_1 Cp Cq (gD p1_0 Af)) λo10=>Wv L Af Ai rec o10)
def Kw(L:Nat)(p1_0:List Bh)(p1_1:Aa):Nat->Int->Int->List Yb->List Bool->Option P8
 |0,_,_,_,_=>none
 |n+1,Ai,Af,Cp,Cq=>Agt L p1_0 p1_1 (Kw L p1_0 p1_1 n) Ai Af Cp Cq
theorem Bvo(p1_0:List Bh)(p1_1:Aa):LP (EV (Aqj L) L 8 Bnw.w.l.u.l.l) [0,1,2,6,14,15,16] [1,3,4] (Bxd p1_0 p1_1) [.ret,.exit 0] (λn v=>Kw L p1_0 p1_1 n v.1 v.2.1 v.2.2.1 v.2.2.2) K:=lE (λ_=>rfl) λn v ih=>eE (Xe L p1_0 p1_1 (λAi Af Cp Cq=>re (ih (Ai,Af,Cp,Cq))) v.1 v.2.1 v.2.2.1 v.2.2.2 (λAf Cp Cq Ai=>hq (Bur L (Mx (Aqj L) L 8 1 3 Bnw.w.l.u.l.l.w.l.l.u.l ⟨[(21,.agg (Dv (gD p1_0 Af))),(20,.bK 154 0 Avx),(2,.bK 154 0 Avx),(6,I Ai),(8,.loc 1013 0),(14,lv (.t154 p1_0)),(15,I (p1_0.length:Int)),(16,I Af),(17,B (decide (Af<(p1_0.length:Int)))),(18,.ref (Dv (gD p1_0 Af))),(19,.agg (Dv (gD p1_0 Af)))],[(1,(Ae p1_1)),Amj,(4,[.aQ false false (.t9 Cp) (.t4 Cq)]),(1013,(Dv (gD p1_0 Af)))],1005⟩ (some 22) (kN (KA (Aqj L) L 8 Bnw.w.l.u.l.l (rl [4,2,2,1]) (Hm (I2 (EV (Aqj L) L 8 Bnw.w.l.u.l.l) [0,1,2,6,14,15,16] [1,3,4] n) [0,1,2,6,14,15,16] [1,3,4] K)))) (gD p1_0 Af) p1_1 Cp Cq (gD p1_0 Af)) λo10=>Wv L Af Ai (λAi Af Cp Cq=>re (ih (Ai,Af,Cp,Cq))) o10))
def Brv(p1_0:List Bh)(p1_1:Aa)(k:Dj):Df->Prop:=λo=>k (I o.1) [(1,(Ae p1_1)),Amj,(4,[.aQ false false (.t9 o.2.1) (.t4 o.2.2)])]
def Ano [An A Df](L:Nat)(o11:Nat×Tu4):A:=
 (sl o11.1 [(lf (o11.2.1,o11.2.2.2.1,o11.2.2.2.2)),
 (lf (0,o11.2.2.2.1,o11.2.2.2.2))])
def An5 [An A Df](L:Nat)(p1_0:List Bh)(p1_1:Aa)(nx20:A):A:=
 (cn (decide ((p1_0.length:Int)>32))
 (lf (6,[],[]))
 nx20)
def A19 [An A Df](p1_0:List Bh)(p1_1:Aa):A:=An5 L p1_0 p1_1 (bd (Kw L p1_0 p1_1 L 0 0 [] []) λo11=>Ano L o11)
def Agr(p1_0:List Bh)(p1_1:Aa):Option Df:=A19 L p1_0 p1_1
theorem Buq(p1_0:List Bh)(p1_1:Aa):YO (Aqj L) L 9 153 [lv (.t154 p1_0),I 32,.bK 154 0 Avx] [(1,(Ae p1_1)),Amj,(4,zq8)] k=ob (Agr L p1_0 p1_1) (Brv p1_0 p1_1 k):=(C4 _ _ _ jn4 _ _ _ _ _ _ _).trans (eE (An5 L p1_0 p1_1 (hq (Bvo L (KA (Aqj L) L 8 Bnw (rl [4,1,2,1]) (KJ Tryz.f153 k)) p1_0 p1_1 L (0,0,[],[])) λo11=>Ano L o11)))
def Ww [An A Int](L:Nat)(o12:Df):A:=
 (lf o12.1)
def Av9 [An A Int](a0:Aa):A:=(bd (Agr L a0.Laws a0) λo12=>Ww L o12)
def Ahs(a0:Aa):Option Int:=Av9 L a0
def Ca5:F6:=E1 I 118 C7 (Ahs L) λa0 r h=>hF Tryz.func118 (C:=Aqj L) (oS _) L (λkk=>eE ((hq (Buq L (Mx (Aqj L) L 9 1 4 B7r.w.l ⟨[(7,.bK 154 0 Avx),(6,lv (.t154 a0.Laws)),(5,.loc 1 12),zq7,(2,I 0),T4],[(1,(Ae a0)),Amj,(4,zq8)],0⟩ (some 8) (kN (KA (Aqj L) L 9 B7r (rl [4,1]) (KE Tryz.f118 kk)))) a0.Laws a0) λo12=>Ww L o12))) h
end
end Go.Proofs.YthjhkpgonleelaaGreatDoor.Ev
