import Derived.Test.YtgacplpjamkieaaGreatHG1
import Derived.Test.YtgacplpjamkieaaGreatHG2
set_option maxRecDepth 100000
set_option maxHeartbeats 4000000
set_option linter.unusedVariables false
set_option linter.unusedSimpArgs false
set_option linter.unnecessarySimpa false
namespace Go.Proofs.YtgacplpjamkieaaGreat.Ev
open Go An
noncomputable section
variable {A:Type} (L n:Nat) (kk:Hf) (K:De) (k:C3)
def A53:=CC Tryz.f206
def A94:=CC Tryz.f207
def Bnn:=CC Tryz.f208
def Bm9:=CC Tryz.f157
def Aez:Ba:=oL [X75 L,Bqy L,Bgr L]
def A5n(p10_0:Yb)(p10_1:Ab)(p10_2:List Yb)(p10_3:List Bool)(p10_4:Bh)(p10_5:Bh)(k:C3):Ck->Prop:=λo=>k (I o.1) [(1,(Af p10_1)),l7,(4,[.aL false false (.t9 o.2.1) (.t4 o.2.2)]),(1013,(Db p10_4)),(2017,(Db p10_5))]
def n8 [An A Ck](p10_0:Yb)(p10_1:Ab)(p10_2:List Yb)(p10_3:List Bool)(p10_4:Bh)(p10_5:Bh):A:=
 (bd (Cq L p10_0) λr1=>
 (cn (r1 != 0)
 (lf (r1,p10_2,p10_3))
 (fq (p10_2.findIdx? λb=>p10_0 == b) (λi2=>
 (cn (p10_3.getD i2 default)
 (lf (4,p10_2,p10_3))
 (fq (p10_2.findIdx? λb=>p10_0 == b) (λi3=>
 (lf (0,p10_2,(p10_3.set i3 true))))
 (lf (0,(p10_2++ [p10_0]),(p10_3++ [true]))))))
 (fq (p10_2.findIdx? λb=>p10_0 == b) (λi4=>
 (lf (0,p10_2,(p10_3.set i4 true))))
 (lf (0,(p10_2++ [p10_0]),(p10_3++ [true])))))))
def x0(p10_0:Yb)(p10_1:Ab)(p10_2:List Yb)(p10_3:List Bool)(p10_4:Bh)(p10_5:Bh):Option Ck:=n8 L p10_0 p10_1 p10_2 p10_3 p10_4 p10_5
theorem A6x(p10_0:Yb)(p10_1:Ab)(p10_2:List Yb)(p10_3:List Bool)(p10_4:Bh)(p10_5:Bh):YO (Aez L) L 7 79 [.mp 4,S p10_0] [(1,(Af p10_1)),l7,(4,[.aL false false (.t9 p10_2) (.t4 p10_3)]),(1013,(Db p10_4)),(2017,(Db p10_5))] k=ob (x0 L p10_0 p10_1 p10_2 p10_3 p10_4 p10_5) (A5n p10_0 p10_1 p10_2 p10_3 p10_4 p10_5 k):=(Cf _ _ _ Yr _ _ _ _ _ _ _).trans (eE (n8 L p10_0 p10_1 p10_2 p10_3 p10_4 p10_5))
def Bdz(p11_0:List Cb)(p11_1:Ab)(p11_2:List Yb)(p11_3:List Bool)(p11_4:Bh)(p11_5:Bh)(v:Ef):St:=⟨[(0,.any),(1,.any),(2,.bA 209 0 Apy),(6,I v.1),(14,lv (.dK p11_0)),(15,I (p11_0.length:Int)),(16,I v.2)],[(1,(Af p11_1)),l7,(4,[.aL false false (.t9 p11_2) (.t4 p11_3)]),(1013,(Db p11_4)),(2017,(Db p11_5))],3018⟩
def Ad3 [An A C0](p11_0:List Cb)(p11_1:Ab)(p11_2:List Yb)(p11_3:List Bool)(p11_4:Bh)(p11_5:Bh)(rec:Int->Int->A)(Gf:Int)(C2:Int):A:=
 (lw C2 p11_0
 (bd (Aji L p11_1 (gD p11_0 C2)) λr6=>
 (cn (r6 != 0)
 (lf (0,r6,C2))
 (rec Gf (Cp (C2+1)))))
 (lf (1,Gf,C2)))
def Vm(L:Nat)(p11_0:List Cb)(p11_1:Ab)(p11_2:List Yb)(p11_3:List Bool)(p11_4:Bh)(p11_5:Bh):Nat->Int->Int->Option C0
 |0,_,_=>none
 |n+1,Gf,C2=>Ad3 L p11_0 p11_1 p11_2 p11_3 p11_4 p11_5 (Vm L p11_0 p11_1 p11_2 p11_3 p11_4 p11_5 n) Gf C2
theorem Bcc(p11_0:List Cb)(p11_1:Ab)(p11_2:List Yb)(p11_3:List Bool)(p11_4:Bh)(p11_5:Bh):LP (EV (Aez L) L 6 Bnn.w.l.u.l.l) [0,1,2,6,14,15,16] [1,3,4,1013,2017] (Bdz p11_0 p11_1 p11_2 p11_3 p11_4 p11_5) [.ret,.exit 0] (λn v=>Vm L p11_0 p11_1 p11_2 p11_3 p11_4 p11_5 n v.1 v.2) K:=lE (λ_=>rfl) λn v ih=>eE (Ad3 L p11_0 p11_1 p11_2 p11_3 p11_4 p11_5 (λGf C2=>re (ih (Gf,C2))) v.1 v.2)
def A5o(p11_0:List Cb)(p11_1:Ab)(p11_2:List Yb)(p11_3:List Bool)(p11_4:Bh)(p11_5:Bh)(k:C3):Int->Prop:=λo=>k (I o) [(1,(Af p11_1)),l7,(4,[.aL false false (.t9 p11_2) (.t4 p11_3)]),(1013,(Db p11_4)),(2017,(Db p11_5))]
def Aax [An A Int](L:Nat)(o7:Nat×Ef):A:=
 (sl o7.1 [(lf o7.2.1),
 (lf 0)])
def Abu [An A Int](L:Nat)(p11_0:List Cb)(p11_1:Ab)(p11_2:List Yb)(p11_3:List Bool)(p11_4:Bh)(p11_5:Bh)(nx17:A):A:=
 (cn (decide ((p11_0.length:Int)>8))
 (lf 6)
 nx17)
def Alu [An A Int](p11_0:List Cb)(p11_1:Ab)(p11_2:List Yb)(p11_3:List Bool)(p11_4:Bh)(p11_5:Bh):A:=Abu L p11_0 p11_1 p11_2 p11_3 p11_4 p11_5 (bd (Vm L p11_0 p11_1 p11_2 p11_3 p11_4 p11_5 L 0 0) λo7=>Aax L o7)
def x9(p11_0:List Cb)(p11_1:Ab)(p11_2:List Yb)(p11_3:List Bool)(p11_4:Bh)(p11_5:Bh):Option Int:=Alu L p11_0 p11_1 p11_2 p11_3 p11_4 p11_5
theorem A6y(p11_0:List Cb)(p11_1:Ab)(p11_2:List Yb)(p11_3:List Bool)(p11_4:Bh)(p11_5:Bh):YO (Aez L) L 7 208 [lv (.dK p11_0),I 8,.bA 209 0 Apy] [(1,(Af p11_1)),l7,(4,[.aL false false (.t9 p11_2) (.t4 p11_3)]),(1013,(Db p11_4)),(2017,(Db p11_5))] k=ob (x9 L p11_0 p11_1 p11_2 p11_3 p11_4 p11_5) (A5o p11_0 p11_1 p11_2 p11_3 p11_4 p11_5 k):=(Cf _ _ _ Yr _ _ _ _ _ _ _).trans (eE (Abu L p11_0 p11_1 p11_2 p11_3 p11_4 p11_5 (hq (Bcc L (KA (Aez L) L 6 Bnn (rl [4,1,2,1]) (KJ Tryz.f208 k)) p11_0 p11_1 p11_2 p11_3 p11_4 p11_5 L (0,0)) λo7=>Aax L o7)))
def A8y(p7_0:Bh)(p7_1:Ab)(p7_2:List Yb)(p7_3:List Bool)(p7_4:Bh)(k:C3):Ck->Prop:=λo=>k (I o.1) [(1,(Af p7_1)),l7,(4,[.aL false false (.t9 o.2.1) (.t4 o.2.2)]),(1013,(Db p7_4)),(2017,(Db p7_0))]
def Aay [An A Ck](o5:Ck)(p7_0:Bh)(o8:Int):A:=
 (cn (o8 != 0)
 (lf (o8,o5.2.1,o5.2.2))
 (bd (W7 L p7_0.Total) λr9=>
 (cn (!r9)
 (lf (2,o5.2.1,o5.2.2))
 (lf (0,o5.2.1,o5.2.2)))))
def Abv [An A Ck](L:Nat)(p7_0:Bh)(p7_1:Ab)(p7_4:Bh)(o5:Ck)(nx18:Ck->A):A:=
 (cn (o5.1 != 0)
 (lf (o5.1,o5.2.1,o5.2.2))
 (cn ((p7_0.eX.length:Int) == 0)
 (lf (7,o5.2.1,o5.2.2))
 (nx18 o5)))
def Am3 [An A Ck](p7_0:Bh)(p7_1:Ab)(p7_4:Bh)(o5:Ck):A:=Abv L p7_0 p7_1 p7_4 o5 (λo5=>bd (x9 L p7_0.eX p7_1 o5.2.1 o5.2.2 p7_4 p7_0) λo8=>Aay L o5 p7_0 o8)
def Aoz [An A Ck](p7_0:Bh)(p7_1:Ab)(p7_2:List Yb)(p7_3:List Bool)(p7_4:Bh):A:=(bd (x0 L p7_0.aD p7_1 p7_2 p7_3 p7_4 p7_0) λo5=>Am3 L p7_0 p7_1 p7_4 o5)
def Adz(p7_0:Bh)(p7_1:Ab)(p7_2:List Yb)(p7_3:List Bool)(p7_4:Bh):Option Ck:=Aoz L p7_0 p7_1 p7_2 p7_3 p7_4
theorem Bbf(p7_0:Bh)(p7_1:Ab)(p7_2:List Yb)(p7_3:List Bool)(p7_4:Bh):YO (Aez L) L 8 207 [.agg (Db p7_0),.loc 3 0,.loc 1 0] [(1,(Af p7_1)),l7,(4,[.aL false false (.t9 p7_2) (.t4 p7_3)]),(1013,(Db p7_4))] k=ob (Adz L p7_0 p7_1 p7_2 p7_3 p7_4) (A8y p7_0 p7_1 p7_2 p7_3 p7_4 k):=(Cf _ _ _ Yr _ _ _ _ _ _ _).trans (eE ((hq (A6x L (K1 (Aez L) L 7 1 4 A94.u.l.l ⟨[(9,S p7_0.aD),(8,Axi),(7,.mp 4),Alc,(2,.loc 1 0),(3,Axi),(4,I 0)],[(1,(Af p7_1)),l7,(4,[.aL false false (.t9 p7_2) (.t4 p7_3)]),(1013,(Db p7_4)),(2017,(Db p7_0))],2014⟩ (some 10) (kN (KA (Aez L) L 7 A94 (rl [2,2]) (KJ Tryz.f207 k)))) p7_0.aD p7_1 p7_2 p7_3 p7_4 p7_0) λo5=>Abv L p7_0 p7_1 p7_4 o5 (λo5=>hq (A6y L (K1 (Aez L) L 7 1 4 A94.w.u.l.l ⟨[(20,.bA 209 0 Apy),(19,lv (.dK p7_0.eX)),(18,.loc 2017 1),(2,.loc 1 0),(3,Axi),(4,I 0)],[(1,(Af p7_1)),l7,(4,[.aL false false (.t9 o5.2.1) (.t4 o5.2.2)]),(1013,(Db p7_4)),(2017,(Db p7_0))],2014⟩ (some 21) (kN (KA (Aez L) L 7 A94 (rl [6,2]) (KJ Tryz.f207 k)))) p7_0.eX p7_1 o5.2.1 o5.2.2 p7_4 p7_0) λo8=>Aay L o5 p7_0 o8))))
def Bdy(p1_0:List Bh)(p1_1:Ab)(v:Tu4):St:=⟨[(0,.any),(1,.any),(2,.bA 207 0 Ai8),(6,I v.1),(14,lv (.bT p1_0)),(15,I (p1_0.length:Int)),(16,I v.2.1)],[(1,(Af p1_1)),l7,(4,[.aL false false (.t9 v.2.2.1) (.t4 v.2.2.2)])],1005⟩
def Aaz [An A K3](L:Nat)(Aj:Int)(A9:Int)(rec:Int->Int->List Yb->List Bool->A)(o10:Ck):A:=
 (cn (o10.1 != 0)
 (lf (0,o10.1,Aj,o10.2.1,o10.2.2))
 (rec A9 (Cp (Aj+1)) o10.2.1 o10.2.2))
def Abw [An A K3](L:Nat)(p1_0:List Bh)(p1_1:Ab)(rec:Int->Int->List Yb->List Bool->A)(A9:Int)(Aj:Int)(Dc:List Yb)(Dd:List Bool)(nx19:Int->(List Yb)->(List Bool)->Int->A):A:=
 (lw Aj p1_0
 (nx19 Aj Dc Dd A9)
 (lf (1,A9,Aj,Dc,Dd)))
def Ao2 [An A K3](p1_0:List Bh)(p1_1:Ab)(rec:Int->Int->List Yb->List Bool->A)(A9:Int)(Aj:Int)(Dc:List Yb)(Dd:List Bool):A:=Abw L p1_0 p1_1 rec A9 Aj Dc Dd (λAj Dc Dd A9=>bd (Adz L (gD p1_0 Aj) p1_1 Dc Dd (gD p1_0 Aj)) λo10=>Aaz L Aj A9 rec o10)
def Vl(L:Nat)(p1_0:List Bh)(p1_1:Ab):Nat->Int->Int->List Yb->List Bool->Option K3
 |0,_,_,_,_=>none
 |n+1,A9,Aj,Dc,Dd=>Ao2 L p1_0 p1_1 (Vl L p1_0 p1_1 n) A9 Aj Dc Dd
theorem Bcb(p1_0:List Bh)(p1_1:Ab):LP (EV (Aez L) L 8 A53.w.l.u.l.l) [0,1,2,6,14,15,16] [1,3,4] (Bdy p1_0 p1_1) [.ret,.exit 0] (λn v=>Vl L p1_0 p1_1 n v.1 v.2.1 v.2.2.1 v.2.2.2) K:=lE (λ_=>rfl) λn v ih=>eE (Abw L p1_0 p1_1 (λA9 Aj Dc Dd=>re (ih (A9,Aj,Dc,Dd))) v.1 v.2.1 v.2.2.1 v.2.2.2 (λAj Dc Dd A9=>hq (Bbf L (K1 (Aez L) L 8 1 3 A53.w.l.u.l.l.w.l.l.u.l ⟨[(21,.agg (Db (gD p1_0 Aj))),(20,.bA 207 0 Ai8),(2,.bA 207 0 Ai8),(6,I A9),(8,.loc 1013 0),(14,lv (.bT p1_0)),(15,I (p1_0.length:Int)),(16,I Aj),(17,B (decide (Aj<(p1_0.length:Int)))),(18,.ref (Db (gD p1_0 Aj))),(19,.agg (Db (gD p1_0 Aj)))],[(1,(Af p1_1)),l7,(4,[.aL false false (.t9 Dc) (.t4 Dd)]),(1013,(Db (gD p1_0 Aj)))],1005⟩ (some 22) (kN (KA (Aez L) L 8 A53.w.l.u.l.l (rl [4,2,2,1]) (Ic (Js (EV (Aez L) L 8 A53.w.l.u.l.l) [0,1,2,6,14,15,16] [1,3,4] n) [0,1,2,6,14,15,16] [1,3,4] K)))) (gD p1_0 Aj) p1_1 Dc Dd (gD p1_0 Aj)) λo10=>Aaz L Aj A9 (λA9 Aj Dc Dd=>re (ih (A9,Aj,Dc,Dd))) o10))
def A8x(p1_0:List Bh)(p1_1:Ab)(k:C3):Ck->Prop:=λo=>k (I o.1) [(1,(Af p1_1)),l7,(4,[.aL false false (.t9 o.2.1) (.t4 o.2.2)])]
def Aa0 [An A Ck](L:Nat)(o11:Nat×Tu4):A:=
 (sl o11.1 [(lf (o11.2.1,o11.2.2.2.1,o11.2.2.2.2)),
 (lf (0,o11.2.2.2.1,o11.2.2.2.2))])
def Abx [An A Ck](L:Nat)(p1_0:List Bh)(p1_1:Ab)(nx20:A):A:=
 (cn (decide ((p1_0.length:Int)>32))
 (lf (6,[],[]))
 nx20)
def Aoy [An A Ck](p1_0:List Bh)(p1_1:Ab):A:=Abx L p1_0 p1_1 (bd (Vl L p1_0 p1_1 L 0 0 [] []) λo11=>Aa0 L o11)
def Ady(p1_0:List Bh)(p1_1:Ab):Option Ck:=Aoy L p1_0 p1_1
theorem Bbe(p1_0:List Bh)(p1_1:Ab):YO (Aez L) L 9 206 [lv (.bT p1_0),I 32,.bA 207 0 Ai8] [(1,(Af p1_1)),l7,(4,zq6)] k=ob (Ady L p1_0 p1_1) (A8x p1_0 p1_1 k):=(Cf _ _ _ Yr _ _ _ _ _ _ _).trans (eE (Abx L p1_0 p1_1 (hq (Bcb L (KA (Aez L) L 8 A53 (rl [4,1,2,1]) (KJ Tryz.f206 k)) p1_0 p1_1 L (0,0,[],[])) λo11=>Aa0 L o11)))
def Aa1 [An A Int](L:Nat)(o12:Ck):A:=
 (lf o12.1)
def Au8 [An A Int](a0:Ab):A:=(bd (Ady L a0.Laws a0) λo12=>Aa1 L o12)
def Ajg(a0:Ab):Option Int:=Au8 L a0
def Bqp:Fs:=E1 I 157 Cr (Ajg L) λa0 r h=>hF Tryz.func157 (C:=Aez L) (oS _) L (λkk=>eE ((hq (Bbe L (K1 (Aez L) L 9 1 4 Bm9.w.l ⟨[(7,.bA 207 0 Ai8),(6,lv (.bT a0.Laws)),(5,.loc 1 12),Yq,(2,I 0),Qe],[(1,(Af a0)),l7,(4,zq6)],0⟩ (some 8) (kN (KA (Aez L) L 9 Bm9 (rl [4,1]) (KE Tryz.f157 kk)))) a0.Laws a0) λo12=>Aa1 L o12))) h
end
end Go.Proofs.YtgacplpjamkieaaGreat.Ev
