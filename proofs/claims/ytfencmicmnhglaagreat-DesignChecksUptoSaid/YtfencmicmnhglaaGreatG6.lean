import Derived.Test.YtfencmicmnhglaaGreatG3
import Derived.Test.YtfencmicmnhglaaGreatG4
import Derived.Test.YtfencmicmnhglaaGreatG5
namespace Go.Proofs.YtfencmicmnhglaaGreat.Ev
open Go An
set_option maxRecDepth 100000
set_option maxHeartbeats 4000000
set_option linter.unusedVariables false
set_option linter.unusedSimpArgs false
set_option linter.unnecessarySimpa false
noncomputable section
variable {A:Type} (L n:Nat) (kk:Dm) (K:Be) (k:Bx)
def c61:=CC Tryz.f61
def c82:=CC Tryz.f82
def c83:=CC Tryz.f83
def c84:=CC Tryz.f84
def c85:=CC Tryz.f85
def c86:=CC Tryz.f86
def c87:=CC Tryz.f87
def c88:=CC Tryz.f88
def c89:=CC Tryz.f89
def c90:=CC Tryz.f90
def c94:=CC Tryz.f94
def c95:=CC Tryz.f95
def c96:=CC Tryz.f96
def c97:=CC Tryz.f97
def c98:=CC Tryz.f98
def c99:=CC Tryz.f99
def Cjp:=CC Tryz.f100
def Cjq:=CC Tryz.f101
def Cjr:=CC Tryz.f102
def Cjs:=CC Tryz.f103
def Cjt:=CC Tryz.f104
def Cju:=CC Tryz.f105
def Bsx:=CC Tryz.f106
def Caz:=CC Tryz.f107
def Cjv:=CC Tryz.f109
def Cjw:=CC Tryz.f110
def c65:=CC Tryz.f65
def D4:Bi:=oL [X60 L,X91 L,X92 L,X93 L,Chd L,Che L,Chf L,Bz9 L,B0a L]
def Aj5:Be:=(Ax 0 (Bk (EV (D4 L) (L+24) 8 c86.u.r) (E8 Tryz.prog (RS Tryz.f86) k)))
def Bln(p47_0:ByteArray)(p47_1:Aa)(p47_2:List ByteArray)(p47_3:List Bool)(p47_4:Al)(p47_5:Al)(k:Bx):Cw→Prop:=fun o=>k (I o.1) [(1,(Ae p47_1)),(3,[.mp 5]),(4,[.clo 84 0 [.loc 3 0]]),(5,[.mapO false false (.t9 o.2.1) (.t4 o.2.2)]),(14,(B3 p47_4)),(18,(B3 p47_5))]
def Anr [An A Cw](p47_0:ByteArray)(p47_1:Aa)(p47_2:List ByteArray)(p47_3:List Bool)(p47_4:Al)(p47_5:Al):A:=
 (bd (Dp L p47_0) fun r1=>
 (cn (r1 != 0)
 (lf (r1,p47_2,p47_3))
 (fq (p47_2.findIdx? fun b=>p47_0 == b) (fun i2=>
 (cn (p47_3.getD i2 default)
 (lf (4,p47_2,p47_3))
 (fq (p47_2.findIdx? fun b=>p47_0 == b) (fun i3=>
 (lf (0,p47_2,(p47_3.set i3 true))))
 (lf (0,(p47_2++ [p47_0]),(p47_3++ [true]))))))
 (fq (p47_2.findIdx? fun b=>p47_0 == b) (fun i4=>
 (lf (0,p47_2,(p47_3.set i4 true))))
 (lf (0,(p47_2++ [p47_0]),(p47_3++ [true])))))))
def Aen(p47_0:ByteArray)(p47_1:Aa)(p47_2:List ByteArray)(p47_3:List Bool)(p47_4:Al)(p47_5:Al):Option Cw:=Anr L p47_0 p47_1 p47_2 p47_3 p47_4 p47_5
theorem B3c(p47_0:ByteArray)(p47_1:Aa)(p47_2:List ByteArray)(p47_3:List Bool)(p47_4:Al)(p47_5:Al):YO (D4 L) (L+24) 4 64 [.mp 5,S p47_0] [(1,(Ae p47_1)),(3,[.mp 5]),(4,[.clo 84 0 [.loc 3 0]]),(5,[.mapO false false (.t9 p47_2) (.t4 p47_3)]),(14,(B3 p47_4)),(18,(B3 p47_5))] k=ob (Aen L p47_0 p47_1 p47_2 p47_3 p47_4 p47_5) (Bln p47_0 p47_1 p47_2 p47_3 p47_4 p47_5 k):=(Dg _ _ _ jn4 _ _ _ _ _ _ _).trans (eE (Anr L p47_0 p47_1 p47_2 p47_3 p47_4 p47_5))
def Bcc(p45_0:Al)(p45_1:Aa)(p45_2:List ByteArray)(p45_3:List Bool)(p45_4:Al)(k:Bx):Cw→Prop:=fun o=>k (I o.1) [(1,(Ae p45_1)),(3,[.mp 5]),(4,[.clo 84 0 [.loc 3 0]]),(5,[.mapO false false (.t9 o.2.1) (.t4 o.2.2)]),(14,(B3 p45_4)),(18,(B3 p45_0))]
def Zg [An A Cw](p45_0:Al)(o5:Cw):A:=
 (cn (o5.1 != 0)
 (lf (o5.1,o5.2.1,o5.2.2))
 (bd (Li L p45_0.Type_) fun r6=>
 (cn (!r6)
 (lf (1,o5.2.1,o5.2.2))
 (bd (Un L p45_0.Type_ p45_0.N) fun r7=>
 (cn (!r7)
 (lf (2,o5.2.1,o5.2.2))
 (lf (0,o5.2.1,o5.2.2)))))))
def Bpe(p45_0:Al)(p45_1:Aa)(p45_2:List ByteArray)(p45_3:List Bool)(p45_4:Al):Bx:=(Cm Tryz.prog (D4 L) (EI (D4 L) (L+24) 4) 1 (List.drop 4 c83.u.l.l.ops) ⟨[(8,S p45_0.Name),(7,.loc 18 0),(6,.mp 5),(0,.mp 5),(3,.loc 18 0),(4,I 0)],[(1,(Ae p45_1)),(3,[.mp 5]),(4,[.clo 84 0 [.loc 3 0]]),(5,[.mapO false false (.t9 p45_2) (.t4 p45_3)]),(14,(B3 p45_4)),(18,(B3 p45_0))],15⟩ (some 9) (fun st9=>(Bk (EV (D4 L) (L+24) 4 c83.u.l.r) (Bk (EV (D4 L) (L+24) 4 c83.u.r) (E8 Tryz.prog (RS Tryz.f83) k))) .normal st9))
theorem Cfo(p45_0:Al)(p45_1:Aa)(p45_2:List ByteArray)(p45_3:List Bool)(p45_4:Al)(o5:Cw):Bln p45_0.Name p45_1 p45_2 p45_3 p45_4 p45_0 (Bpe L k p45_0 p45_1 p45_2 p45_3 p45_4) o5=ob (Zg L p45_0 o5) (Bcc p45_0 p45_1 p45_2 p45_3 p45_4 k):=eE (Zg L p45_0 o5)
def Anq [An A Cw](p45_0:Al)(p45_1:Aa)(p45_2:List ByteArray)(p45_3:List Bool)(p45_4:Al):A:=(bd (Aen L p45_0.Name p45_1 p45_2 p45_3 p45_4 p45_0) fun o5=>Zg L p45_0 o5)
def Oi(p45_0:Al)(p45_1:Aa)(p45_2:List ByteArray)(p45_3:List Bool)(p45_4:Al):Option Cw:=Anq L p45_0 p45_1 p45_2 p45_3 p45_4
theorem B3b(p45_0:Al)(p45_1:Aa)(p45_2:List ByteArray)(p45_3:List Bool)(p45_4:Al):YO (D4 L) (L+24) 5 83 [.mp 5,.agg (B3 p45_0)] [(1,(Ae p45_1)),(3,[.mp 5]),(4,[.clo 84 0 [.loc 3 0]]),(5,[.mapO false false (.t9 p45_2) (.t4 p45_3)]),(14,(B3 p45_4))] k=ob (Oi L p45_0 p45_1 p45_2 p45_3 p45_4) (Bcc p45_0 p45_1 p45_2 p45_3 p45_4 k):=(Dg _ _ _ jn4 _ _ _ _ _ _ _).trans (eE ((ho (B3c L (Bpe L k p45_0 p45_1 p45_2 p45_3 p45_4) p45_0.Name p45_1 p45_2 p45_3 p45_4 p45_0) fun o5=>Cfo L k p45_0 p45_1 p45_2 p45_3 p45_4 o5)))
def Bky(p41_0:List Al)(p41_1:Aa)(v:Tu5):St:=⟨[(0,.any),(1,.any),(2,.clo 83 1 [.mp 5]),(6,I v.1),(14,lv (.t77 p41_0)),(15,I (p41_0.length:Int)),(16,I v.2.1)],[(1,(Ae p41_1)),(3,[.mp 5]),(4,[.clo 84 0 [.loc 3 0]]),(5,[.mapO false false (.t9 v.2.2.1) (.t4 v.2.2.2)])],6⟩
def T2 [An A Ue](L:Nat)(Ai:Int)(Ao:Int)(rec:Int→Int→List ByteArray→List Bool→A)(o8:Cw):A:=
 (cn (o8.1 != 0)
 (lf (0,o8.1,Ai,o8.2.1,o8.2.2))
 (rec Ao (Cq (Ai+1)) o8.2.1 o8.2.2))
def Zt [An A Ue](L:Nat)(p41_0:List Al)(p41_1:Aa)(rec:Int→Int→List ByteArray→List Bool→A)(Ao:Int)(Ai:Int)(Dx:List ByteArray)(Dy:List Bool)(nx64:Int→(List ByteArray)→(List Bool)→Int→A):A:=
 (lw Ai p41_0
 (nx64 Ai Dx Dy Ao)
 (lf (1,Ao,Ai,Dx,Dy)))
def Ahv [An A Ue](p41_0:List Al)(p41_1:Aa)(rec:Int→Int→List ByteArray→List Bool→A)(Ao:Int)(Ai:Int)(Dx:List ByteArray)(Dy:List Bool):A:=Zt L p41_0 p41_1 rec Ao Ai Dx Dy (fun Ai Dx Dy Ao=>bd (Oi L (p41_0.getD (Int.toNat Ai) default) p41_1 Dx Dy (p41_0.getD (Int.toNat Ai) default)) fun o8=>T2 L Ai Ao rec o8)
def J5(L:Nat)(p41_0:List Al)(p41_1:Aa):Nat→Int→Int→List ByteArray→List Bool→Option Ue
 |0,_,_,_,_=>none
 |n+1,Ao,Ai,Dx,Dy=>Ahv L p41_0 p41_1 (J5 L p41_0 p41_1 n) Ao Ai Dx Dy
def Bui(p41_0:List Al)(p41_1:Aa):Prop:=LI (EV (D4 L) (L+24) 5 c82.w.l.u.l.l) [0,1,2,6,14,15,16] [1,3,4,5] (Bky p41_0 p41_1) [.ret,.exit 0] (fun n v=>J5 L p41_0 p41_1 n v.1 v.2.1 v.2.2.1 v.2.2.2) K n
def Bpf(p41_0:List Al)(Ai:Int)(Ao:Int)(p41_1:Aa)(Dx:List ByteArray)(Dy:List Bool):Bx:=(Cm Tryz.prog (D4 L) (EI (D4 L) (L+24) 5) 1 (List.drop 3 c82.w.l.u.l.l.w.l.l.u.l.ops) ⟨[(21,.agg (B3 (p41_0.getD (Int.toNat Ai) default))),(20,.clo 83 1 [.mp 5]),(2,.clo 83 1 [.mp 5]),(6,I Ao),(8,.loc 14 0),(14,lv (.t77 p41_0)),(15,I (p41_0.length:Int)),(16,I Ai),(17,B (decide (Ai < (p41_0.length:Int)))),(18,.ref (B3 (p41_0.getD (Int.toNat Ai) default))),(19,.agg (B3 (p41_0.getD (Int.toNat Ai) default)))],[(1,(Ae p41_1)),(3,[.mp 5]),(4,[.clo 84 0 [.loc 3 0]]),(5,[.mapO false false (.t9 Dx) (.t4 Dy)]),(14,(B3 (p41_0.getD (Int.toNat Ai) default)))],6⟩ (some 22) (fun st9=>(Bk (EV (D4 L) (L+24) 5 c82.w.l.u.l.l.w.l.l.u.r) (Ax 1 (Bk (EV (D4 L) (L+24) 5 c82.w.l.u.l.l.w.r) (Ir (Lh (EV (D4 L) (L+24) 5 c82.w.l.u.l.l) [0,1,2,6,14,15,16] [1,3,4,5] n) [0,1,2,6,14,15,16] [1,3,4,5] K)))) .normal st9))
theorem Cfp(p41_0:List Al)(Ai:Int)(p41_1:Aa)(Dx:List ByteArray)(Dy:List Bool)(Ao:Int)(ih:Bui L n K p41_0 p41_1)(o8:Cw):Bcc (p41_0.getD (Int.toNat Ai) default) p41_1 Dx Dy (p41_0.getD (Int.toNat Ai) default) (Bpf L n K p41_0 Ai Ao p41_1 Dx Dy) o8=ob (T2 L Ai Ao (J5 L p41_0 p41_1 n) o8) (kX [.ret,.exit 0] (Bky p41_0 p41_1) K):=eE (T2 L Ai Ao (fun Ao Ai Dx Dy=>re (ih (Ao,Ai,Dx,Dy))) o8)
theorem Cck(p41_0:List Al)(p41_1:Aa):∀n,Bui L n K p41_0 p41_1:=lE (fun _=>rfl) fun n v ih=>eE (Zt L p41_0 p41_1 (fun Ao Ai Dx Dy=>re (ih (Ao,Ai,Dx,Dy))) v.1 v.2.1 v.2.2.1 v.2.2.2 (fun Ai Dx Dy Ao=>ho (B3b L (Bpf L n K p41_0 Ai Ao p41_1 Dx Dy) (p41_0.getD (Int.toNat Ai) default) p41_1 Dx Dy (p41_0.getD (Int.toNat Ai) default)) fun o8=>Cfp L n K p41_0 Ai p41_1 Dx Dy Ao ih o8))
def Bcb(p41_0:List Al)(p41_1:Aa)(k:Bx):Cw→Prop:=fun o=>k (I o.1) [(1,(Ae p41_1)),(3,[.mp 5]),(4,[.clo 84 0 [.loc 3 0]]),(5,[.mapO false false (.t9 o.2.1) (.t4 o.2.2)])]
def Ae5 [An A Cw](L:Nat)(o9:Nat×Tu5):A:=
 (sl o9.1 [(lf (o9.2.1,o9.2.2.2.1,o9.2.2.2.2)),
 (lf (0,o9.2.2.2.1,o9.2.2.2.2))])
def Bpg:Be:=(Ax 0 (Bk (EV (D4 L) (L+24) 5 c82.w.r) (E8 Tryz.prog (RS Tryz.f82) k)))
theorem Cfq(p41_0:List Al)(p41_1:Aa)(o9:Nat×Tu5):kX [.ret,.exit 0] (Bky p41_0 p41_1) (Bpg L k) o9=ob (Ae5 L o9) (Bcb p41_0 p41_1 k):=eE (Ae5 L o9)
def Aof [An A Cw](L:Nat)(p41_0:List Al)(p41_1:Aa)(nx65:A):A:=
 (cn (decide ((p41_0.length:Int) > 32))
 (lf (6,[],[]))
 nx65)
def Ay6 [An A Cw](p41_0:List Al)(p41_1:Aa):A:=Aof L p41_0 p41_1 (bd (J5 L p41_0 p41_1 (L+24) 0 0 [] []) fun o9=>Ae5 L o9)
def Aem(p41_0:List Al)(p41_1:Aa):Option Cw:=Ay6 L p41_0 p41_1
theorem B3a(p41_0:List Al)(p41_1:Aa):YO (D4 L) (L+24) 6 82 [lv (.t77 p41_0),I 32,.clo 83 1 [.mp 5]] [(1,(Ae p41_1)),(3,[.mp 5]),(4,[.clo 84 0 [.loc 3 0]]),(5,[.mapO false false (.t9 []) (.t4 [])])] k=ob (Aem L p41_0 p41_1) (Bcb p41_0 p41_1 k):=(Dg _ _ _ jn4 _ _ _ _ _ _ _).trans (eE (Aof L p41_0 p41_1 (ho (Cck L (Bpg L k) p41_0 p41_1 (L+24) (0,0,[],[])) fun o9=>Cfq L k p41_0 p41_1 o9)))
def Blo(p54_0:ByteArray)(p54_1:Aa)(p54_2:List ByteArray)(p54_3:List Bool)(p54_4:Af)(p54_5:Af)(k:Bx):Cw→Prop:=fun o=>k (I o.1) [(1,(Ae p54_1)),(3,[.mp 5]),(4,[.clo 84 0 [.loc 3 0]]),(5,[.mapO false false (.t9 o.2.1) (.t4 o.2.2)]),(14,(Bq p54_4)),(18,(Bq p54_5))]
def Ant [An A Cw](p54_0:ByteArray)(p54_1:Aa)(p54_2:List ByteArray)(p54_3:List Bool)(p54_4:Af)(p54_5:Af):A:=
 (bd (Dp L p54_0) fun r11=>
 (cn (r11 != 0)
 (lf (r11,p54_2,p54_3))
 (fq (p54_2.findIdx? fun b=>p54_0 == b) (fun i12=>
 (cn (p54_3.getD i12 default)
 (lf (4,p54_2,p54_3))
 (fq (p54_2.findIdx? fun b=>p54_0 == b) (fun i13=>
 (lf (0,p54_2,(p54_3.set i13 true))))
 (lf (0,(p54_2++ [p54_0]),(p54_3++ [true]))))))
 (fq (p54_2.findIdx? fun b=>p54_0 == b) (fun i14=>
 (lf (0,p54_2,(p54_3.set i14 true))))
 (lf (0,(p54_2++ [p54_0]),(p54_3++ [true])))))))
def Aep(p54_0:ByteArray)(p54_1:Aa)(p54_2:List ByteArray)(p54_3:List Bool)(p54_4:Af)(p54_5:Af):Option Cw:=Ant L p54_0 p54_1 p54_2 p54_3 p54_4 p54_5
theorem B3f(p54_0:ByteArray)(p54_1:Aa)(p54_2:List ByteArray)(p54_3:List Bool)(p54_4:Af)(p54_5:Af):YO (D4 L) (L+24) 5 64 [.mp 5,S p54_0] [(1,(Ae p54_1)),(3,[.mp 5]),(4,[.clo 84 0 [.loc 3 0]]),(5,[.mapO false false (.t9 p54_2) (.t4 p54_3)]),(14,(Bq p54_4)),(18,(Bq p54_5))] k=ob (Aep L p54_0 p54_1 p54_2 p54_3 p54_4 p54_5) (Blo p54_0 p54_1 p54_2 p54_3 p54_4 p54_5 k):=(Dg _ _ _ jn4 _ _ _ _ _ _ _).trans (eE (Ant L p54_0 p54_1 p54_2 p54_3 p54_4 p54_5))
def Bce(p52_0:Af)(p52_1:Aa)(p52_2:List ByteArray)(p52_3:List Bool)(p52_4:Af)(k:Bx):Cw→Prop:=fun o=>k (I o.1) [(1,(Ae p52_1)),(3,[.mp 5]),(4,[.clo 84 0 [.loc 3 0]]),(5,[.mapO false false (.t9 o.2.1) (.t4 o.2.2)]),(14,(Bq p52_4)),(18,(Bq p52_0))]
def Zh [An A Cw](p52_0:Af)(p52_1:Aa)(o15:Cw):A:=
 (cn (o15.1 != 0)
 (lf (o15.1,o15.2.1,o15.2.2))
 (bd (Bn L p52_0.Units 0 1000) fun r16=>
 (cn (!r16)
 (lf (2,o15.2.1,o15.2.2))
 (bd (Yh L p52_0) fun r17=>
 (cn (r17 != 0)
 (lf (r17,o15.2.1,o15.2.2))
 (bd (Yg L p52_1 p52_0.Fault) fun r18=>
 (lf (r18,o15.2.1,o15.2.2))))))))
def Bpi(p52_0:Af)(p52_1:Aa)(p52_2:List ByteArray)(p52_3:List Bool)(p52_4:Af):Bx:=(Cm Tryz.prog (D4 L) (EI (D4 L) (L+24) 5) 1 (List.drop 4 c90.u.l.l.ops) ⟨[(9,S p52_0.Name),(8,.loc 18 0),(7,.mp 5),(1,.loc 3 0),(2,.loc 1 0),(3,.loc 18 0),(4,I 0)],[(1,(Ae p52_1)),(3,[.mp 5]),(4,[.clo 84 0 [.loc 3 0]]),(5,[.mapO false false (.t9 p52_2) (.t4 p52_3)]),(14,(Bq p52_4)),(18,(Bq p52_0))],15⟩ (some 10) (fun st9=>(Bk (EV (D4 L) (L+24) 5 c90.u.l.r) (Bk (EV (D4 L) (L+24) 5 c90.u.r) (E8 Tryz.prog (RS Tryz.f90) k))) .normal st9))
theorem Cfs(p52_0:Af)(p52_1:Aa)(p52_2:List ByteArray)(p52_3:List Bool)(p52_4:Af)(o15:Cw):Blo p52_0.Name p52_1 p52_2 p52_3 p52_4 p52_0 (Bpi L k p52_0 p52_1 p52_2 p52_3 p52_4) o15=ob (Zh L p52_0 p52_1 o15) (Bce p52_0 p52_1 p52_2 p52_3 p52_4 k):=eE (Zh L p52_0 p52_1 o15)
def Ans [An A Cw](p52_0:Af)(p52_1:Aa)(p52_2:List ByteArray)(p52_3:List Bool)(p52_4:Af):A:=(bd (Aep L p52_0.Name p52_1 p52_2 p52_3 p52_4 p52_0) fun o15=>Zh L p52_0 p52_1 o15)
def Oj(p52_0:Af)(p52_1:Aa)(p52_2:List ByteArray)(p52_3:List Bool)(p52_4:Af):Option Cw:=Ans L p52_0 p52_1 p52_2 p52_3 p52_4
theorem B3e(p52_0:Af)(p52_1:Aa)(p52_2:List ByteArray)(p52_3:List Bool)(p52_4:Af):YO (D4 L) (L+24) 6 90 [.agg (Bq p52_0),.loc 3 0,.loc 1 0] [(1,(Ae p52_1)),(3,[.mp 5]),(4,[.clo 84 0 [.loc 3 0]]),(5,[.mapO false false (.t9 p52_2) (.t4 p52_3)]),(14,(Bq p52_4))] k=ob (Oj L p52_0 p52_1 p52_2 p52_3 p52_4) (Bce p52_0 p52_1 p52_2 p52_3 p52_4 k):=(Dg _ _ _ jn4 _ _ _ _ _ _ _).trans (eE ((ho (B3f L (Bpi L k p52_0 p52_1 p52_2 p52_3 p52_4) p52_0.Name p52_1 p52_2 p52_3 p52_4 p52_0) fun o15=>Cfs L k p52_0 p52_1 p52_2 p52_3 p52_4 o15)))
def Bkz(p48_0:List Af)(p48_1:Aa)(v:Tu5):St:=⟨[(0,.any),(1,.any),(2,.clo 90 0 [.loc 3 0,.loc 1 0]),(6,I v.1),(14,lv (.t145 p48_0)),(15,I (p48_0.length:Int)),(16,I v.2.1)],[(1,(Ae p48_1)),(3,[.mp 5]),(4,[.clo 84 0 [.loc 3 0]]),(5,[.mapO false false (.t9 v.2.2.1) (.t4 v.2.2.2)])],6⟩
def T3 [An A Ue](L:Nat)(Bw:Int)(Bz:Int)(rec:Int→Int→List ByteArray→List Bool→A)(o19:Cw):A:=
 (cn (o19.1 != 0)
 (lf (0,o19.1,Bw,o19.2.1,o19.2.2))
 (rec Bz (Cq (Bw+1)) o19.2.1 o19.2.2))
def Zu [An A Ue](L:Nat)(p48_0:List Af)(p48_1:Aa)(rec:Int→Int→List ByteArray→List Bool→A)(Bz:Int)(Bw:Int)(Nj:List ByteArray)(Nk:List Bool)(nx73:Int→(List ByteArray)→(List Bool)→Int→A):A:=
 (lw Bw p48_0
 (nx73 Bw Nj Nk Bz)
 (lf (1,Bz,Bw,Nj,Nk)))
def Ahw [An A Ue](p48_0:List Af)(p48_1:Aa)(rec:Int→Int→List ByteArray→List Bool→A)(Bz:Int)(Bw:Int)(Nj:List ByteArray)(Nk:List Bool):A:=Zu L p48_0 p48_1 rec Bz Bw Nj Nk (fun Bw Nj Nk Bz=>bd (Oj L (p48_0.getD (Int.toNat Bw) default) p48_1 Nj Nk (p48_0.getD (Int.toNat Bw) default)) fun o19=>T3 L Bw Bz rec o19)
def J6(L:Nat)(p48_0:List Af)(p48_1:Aa):Nat→Int→Int→List ByteArray→List Bool→Option Ue
 |0,_,_,_,_=>none
 |n+1,Bz,Bw,Nj,Nk=>Ahw L p48_0 p48_1 (J6 L p48_0 p48_1 n) Bz Bw Nj Nk
def Buj(p48_0:List Af)(p48_1:Aa):Prop:=LI (EV (D4 L) (L+24) 6 c89.w.l.u.l.l) [0,1,2,6,14,15,16] [1,3,4,5] (Bkz p48_0 p48_1) [.ret,.exit 0] (fun n v=>J6 L p48_0 p48_1 n v.1 v.2.1 v.2.2.1 v.2.2.2) K n
def Bpj(p48_0:List Af)(Bw:Int)(Bz:Int)(p48_1:Aa)(Nj:List ByteArray)(Nk:List Bool):Bx:=(Cm Tryz.prog (D4 L) (EI (D4 L) (L+24) 6) 1 (List.drop 3 c89.w.l.u.l.l.w.l.l.u.l.ops) ⟨[(21,.agg (Bq (p48_0.getD (Int.toNat Bw) default))),(20,.clo 90 0 [.loc 3 0,.loc 1 0]),(2,.clo 90 0 [.loc 3 0,.loc 1 0]),(6,I Bz),(8,.loc 14 0),(14,lv (.t145 p48_0)),(15,I (p48_0.length:Int)),(16,I Bw),(17,B (decide (Bw < (p48_0.length:Int)))),(18,.ref (Bq (p48_0.getD (Int.toNat Bw) default))),(19,.agg (Bq (p48_0.getD (Int.toNat Bw) default)))],[(1,(Ae p48_1)),(3,[.mp 5]),(4,[.clo 84 0 [.loc 3 0]]),(5,[.mapO false false (.t9 Nj) (.t4 Nk)]),(14,(Bq (p48_0.getD (Int.toNat Bw) default)))],6⟩ (some 22) (fun st9=>(Bk (EV (D4 L) (L+24) 6 c89.w.l.u.l.l.w.l.l.u.r) (Ax 1 (Bk (EV (D4 L) (L+24) 6 c89.w.l.u.l.l.w.r) (Ir (Lh (EV (D4 L) (L+24) 6 c89.w.l.u.l.l) [0,1,2,6,14,15,16] [1,3,4,5] n) [0,1,2,6,14,15,16] [1,3,4,5] K)))) .normal st9))
theorem Cft(p48_0:List Af)(Bw:Int)(p48_1:Aa)(Nj:List ByteArray)(Nk:List Bool)(Bz:Int)(ih:Buj L n K p48_0 p48_1)(o19:Cw):Bce (p48_0.getD (Int.toNat Bw) default) p48_1 Nj Nk (p48_0.getD (Int.toNat Bw) default) (Bpj L n K p48_0 Bw Bz p48_1 Nj Nk) o19=ob (T3 L Bw Bz (J6 L p48_0 p48_1 n) o19) (kX [.ret,.exit 0] (Bkz p48_0 p48_1) K):=eE (T3 L Bw Bz (fun Bz Bw Nj Nk=>re (ih (Bz,Bw,Nj,Nk))) o19)
theorem Ccl(p48_0:List Af)(p48_1:Aa):∀n,Buj L n K p48_0 p48_1:=lE (fun _=>rfl) fun n v ih=>eE (Zu L p48_0 p48_1 (fun Bz Bw Nj Nk=>re (ih (Bz,Bw,Nj,Nk))) v.1 v.2.1 v.2.2.1 v.2.2.2 (fun Bw Nj Nk Bz=>ho (B3e L (Bpj L n K p48_0 Bw Bz p48_1 Nj Nk) (p48_0.getD (Int.toNat Bw) default) p48_1 Nj Nk (p48_0.getD (Int.toNat Bw) default)) fun o19=>Cft L n K p48_0 Bw p48_1 Nj Nk Bz ih o19))
def Bcd(p48_0:List Af)(p48_1:Aa)(p48_2:List ByteArray)(p48_3:List Bool)(k:Bx):Cw→Prop:=fun o=>k (I o.1) [(1,(Ae p48_1)),(3,[.mp 5]),(4,[.clo 84 0 [.loc 3 0]]),(5,[.mapO false false (.t9 o.2.1) (.t4 o.2.2)])]
def Ae7 [An A Cw](L:Nat)(o20:Nat×Tu5):A:=
 (sl o20.1 [(lf (o20.2.1,o20.2.2.2.1,o20.2.2.2.2)),
 (lf (0,o20.2.2.2.1,o20.2.2.2.2))])
def Bpk:Be:=(Ax 0 (Bk (EV (D4 L) (L+24) 6 c89.w.r) (E8 Tryz.prog (RS Tryz.f89) k)))
theorem Cfu(p48_0:List Af)(p48_1:Aa)(p48_2:List ByteArray)(p48_3:List Bool)(o20:Nat×Tu5):kX [.ret,.exit 0] (Bkz p48_0 p48_1) (Bpk L k) o20=ob (Ae7 L o20) (Bcd p48_0 p48_1 p48_2 p48_3 k):=eE (Ae7 L o20)
def Aog [An A Cw](L:Nat)(p48_0:List Af)(p48_1:Aa)(p48_2:List ByteArray)(p48_3:List Bool)(nx74:A):A:=
 (cn (decide ((p48_0.length:Int) > 32))
 (lf (6,p48_2,p48_3))
 nx74)
def Ay7 [An A Cw](p48_0:List Af)(p48_1:Aa)(p48_2:List ByteArray)(p48_3:List Bool):A:=Aog L p48_0 p48_1 p48_2 p48_3 (bd (J6 L p48_0 p48_1 (L+24) 0 0 p48_2 p48_3) fun o20=>Ae7 L o20)
def Aeo(p48_0:List Af)(p48_1:Aa)(p48_2:List ByteArray)(p48_3:List Bool):Option Cw:=Ay7 L p48_0 p48_1 p48_2 p48_3
theorem B3d(p48_0:List Af)(p48_1:Aa)(p48_2:List ByteArray)(p48_3:List Bool):YO (D4 L) (L+24) 7 89 [lv (.t145 p48_0),I 32,.clo 90 0 [.loc 3 0,.loc 1 0]] [(1,(Ae p48_1)),(3,[.mp 5]),(4,[.clo 84 0 [.loc 3 0]]),(5,[.mapO false false (.t9 p48_2) (.t4 p48_3)])] k=ob (Aeo L p48_0 p48_1 p48_2 p48_3) (Bcd p48_0 p48_1 p48_2 p48_3 k):=(Dg _ _ _ jn4 _ _ _ _ _ _ _).trans (eE (Aog L p48_0 p48_1 p48_2 p48_3 (ho (Ccl L (Bpk L k) p48_0 p48_1 (L+24) (0,0,p48_2,p48_3)) fun o20=>Cfu L k p48_0 p48_1 p48_2 p48_3 o20)))
def Blp(p61_0:ByteArray)(p61_1:Aa)(p61_2:List ByteArray)(p61_3:List Bool)(p61_4:Aq)(p61_5:Aq)(k:Bx):Cw→Prop:=fun o=>k (I o.1) [(1,(Ae p61_1)),(3,[.mp 5]),(4,[.clo 84 0 [.loc 3 0]]),(5,[.mapO false false (.t9 o.2.1) (.t4 o.2.2)]),(14,(Cv p61_4)),(17,(Cv p61_5))]
def Anv [An A Cw](p61_0:ByteArray)(p61_1:Aa)(p61_2:List ByteArray)(p61_3:List Bool)(p61_4:Aq)(p61_5:Aq):A:=
 (bd (Dp L p61_0) fun r22=>
 (cn (r22 != 0)
 (lf (r22,p61_2,p61_3))
 (fq (p61_2.findIdx? fun b=>p61_0 == b) (fun i23=>
 (cn (p61_3.getD i23 default)
 (lf (4,p61_2,p61_3))
 (fq (p61_2.findIdx? fun b=>p61_0 == b) (fun i24=>
 (lf (0,p61_2,(p61_3.set i24 true))))
 (lf (0,(p61_2++ [p61_0]),(p61_3++ [true]))))))
 (fq (p61_2.findIdx? fun b=>p61_0 == b) (fun i25=>
 (lf (0,p61_2,(p61_3.set i25 true))))
 (lf (0,(p61_2++ [p61_0]),(p61_3++ [true])))))))
def Aer(p61_0:ByteArray)(p61_1:Aa)(p61_2:List ByteArray)(p61_3:List Bool)(p61_4:Aq)(p61_5:Aq):Option Cw:=Anv L p61_0 p61_1 p61_2 p61_3 p61_4 p61_5
theorem B3i(p61_0:ByteArray)(p61_1:Aa)(p61_2:List ByteArray)(p61_3:List Bool)(p61_4:Aq)(p61_5:Aq):YO (D4 L) (L+24) 5 64 [.mp 5,S p61_0] [(1,(Ae p61_1)),(3,[.mp 5]),(4,[.clo 84 0 [.loc 3 0]]),(5,[.mapO false false (.t9 p61_2) (.t4 p61_3)]),(14,(Cv p61_4)),(17,(Cv p61_5))] k=ob (Aer L p61_0 p61_1 p61_2 p61_3 p61_4 p61_5) (Blp p61_0 p61_1 p61_2 p61_3 p61_4 p61_5 k):=(Dg _ _ _ jn4 _ _ _ _ _ _ _).trans (eE (Anv L p61_0 p61_1 p61_2 p61_3 p61_4 p61_5))
def Bcg(p59_0:Aq)(p59_1:Aa)(p59_2:List ByteArray)(p59_3:List Bool)(p59_4:Aq)(k:Bx):Cw→Prop:=fun o=>k (I o.1) [(1,(Ae p59_1)),(3,[.mp 5]),(4,[.clo 84 0 [.loc 3 0]]),(5,[.mapO false false (.t9 o.2.1) (.t4 o.2.2)]),(14,(Cv p59_4)),(17,(Cv p59_0))]
def Zi [An A Cw](p59_0:Aq)(o26:Cw):A:=
 (cn (o26.1 != 0)
 (lf (o26.1,o26.2.1,o26.2.2))
 (bd (Bn L p59_0.Room 1 1000) fun r27=>
 (cn (!r27)
 (lf (2,o26.2.1,o26.2.2))
 (jp (.cn (decide (p59_0.Policy < 1))
 (.lf true)
 (.lf (decide (p59_0.Policy > 3)))) (fun b28=>
 (cn b28
 (lf (1,o26.2.1,o26.2.2))
 (lf (0,o26.2.1,o26.2.2))))))))
def Bpm(p59_0:Aq)(p59_1:Aa)(p59_2:List ByteArray)(p59_3:List Bool)(p59_4:Aq):Bx:=(Cm Tryz.prog (D4 L) (EI (D4 L) (L+24) 5) 1 (List.drop 4 c96.u.l.l.ops) ⟨[(7,S p59_0.Name),(6,.loc 17 0),(5,.mp 5),(1,.loc 3 0),(2,.loc 17 0),(3,I 0)],[(1,(Ae p59_1)),(3,[.mp 5]),(4,[.clo 84 0 [.loc 3 0]]),(5,[.mapO false false (.t9 p59_2) (.t4 p59_3)]),(14,(Cv p59_4)),(17,(Cv p59_0))],15⟩ (some 8) (fun st9=>(Bk (EV (D4 L) (L+24) 5 c96.u.l.r) (Bk (EV (D4 L) (L+24) 5 c96.u.r) (E8 Tryz.prog (RS Tryz.f96) k))) .normal st9))
theorem Cfw(p59_0:Aq)(p59_1:Aa)(p59_2:List ByteArray)(p59_3:List Bool)(p59_4:Aq)(o26:Cw):Blp p59_0.Name p59_1 p59_2 p59_3 p59_4 p59_0 (Bpm L k p59_0 p59_1 p59_2 p59_3 p59_4) o26=ob (Zi L p59_0 o26) (Bcg p59_0 p59_1 p59_2 p59_3 p59_4 k):=eE (Zi L p59_0 o26)
def Anu [An A Cw](p59_0:Aq)(p59_1:Aa)(p59_2:List ByteArray)(p59_3:List Bool)(p59_4:Aq):A:=(bd (Aer L p59_0.Name p59_1 p59_2 p59_3 p59_4 p59_0) fun o26=>Zi L p59_0 o26)
def Ok(p59_0:Aq)(p59_1:Aa)(p59_2:List ByteArray)(p59_3:List Bool)(p59_4:Aq):Option Cw:=Anu L p59_0 p59_1 p59_2 p59_3 p59_4
theorem B3h(p59_0:Aq)(p59_1:Aa)(p59_2:List ByteArray)(p59_3:List Bool)(p59_4:Aq):YO (D4 L) (L+24) 6 96 [.agg (Cv p59_0),.loc 3 0] [(1,(Ae p59_1)),(3,[.mp 5]),(4,[.clo 84 0 [.loc 3 0]]),(5,[.mapO false false (.t9 p59_2) (.t4 p59_3)]),(14,(Cv p59_4))] k=ob (Ok L p59_0 p59_1 p59_2 p59_3 p59_4) (Bcg p59_0 p59_1 p59_2 p59_3 p59_4 k):=(Dg _ _ _ jn4 _ _ _ _ _ _ _).trans (eE ((ho (B3i L (Bpm L k p59_0 p59_1 p59_2 p59_3 p59_4) p59_0.Name p59_1 p59_2 p59_3 p59_4 p59_0) fun o26=>Cfw L k p59_0 p59_1 p59_2 p59_3 p59_4 o26)))
def Bk0(p55_0:List Aq)(p55_1:Aa)(v:Tu5):St:=⟨[(0,.any),(1,.any),(2,.clo 96 0 [.loc 3 0]),(6,I v.1),(14,lv (.t151 p55_0)),(15,I (p55_0.length:Int)),(16,I v.2.1)],[(1,(Ae p55_1)),(3,[.mp 5]),(4,[.clo 84 0 [.loc 3 0]]),(5,[.mapO false false (.t9 v.2.2.1) (.t4 v.2.2.2)])],6⟩
def T4 [An A Ue](L:Nat)(H0:Int)(Hh:Int)(rec:Int→Int→List ByteArray→List Bool→A)(o29:Cw):A:=
 (cn (o29.1 != 0)
 (lf (0,o29.1,H0,o29.2.1,o29.2.2))
 (rec Hh (Cq (H0+1)) o29.2.1 o29.2.2))
def Zv [An A Ue](L:Nat)(p55_0:List Aq)(p55_1:Aa)(rec:Int→Int→List ByteArray→List Bool→A)(Hh:Int)(H0:Int)(F3:List ByteArray)(Nl:List Bool)(nx82:Int→(List ByteArray)→(List Bool)→Int→A):A:=
 (lw H0 p55_0
 (nx82 H0 F3 Nl Hh)
 (lf (1,Hh,H0,F3,Nl)))
def Ahx [An A Ue](p55_0:List Aq)(p55_1:Aa)(rec:Int→Int→List ByteArray→List Bool→A)(Hh:Int)(H0:Int)(F3:List ByteArray)(Nl:List Bool):A:=Zv L p55_0 p55_1 rec Hh H0 F3 Nl (fun H0 F3 Nl Hh=>bd (Ok L (p55_0.getD (Int.toNat H0) default) p55_1 F3 Nl (p55_0.getD (Int.toNat H0) default)) fun o29=>T4 L H0 Hh rec o29)
def J7(L:Nat)(p55_0:List Aq)(p55_1:Aa):Nat→Int→Int→List ByteArray→List Bool→Option Ue
 |0,_,_,_,_=>none
 |n+1,Hh,H0,F3,Nl=>Ahx L p55_0 p55_1 (J7 L p55_0 p55_1 n) Hh H0 F3 Nl
def Buk(p55_0:List Aq)(p55_1:Aa):Prop:=LI (EV (D4 L) (L+24) 6 c95.w.l.u.l.l) [0,1,2,6,14,15,16] [1,3,4,5] (Bk0 p55_0 p55_1) [.ret,.exit 0] (fun n v=>J7 L p55_0 p55_1 n v.1 v.2.1 v.2.2.1 v.2.2.2) K n
def Bpn(p55_0:List Aq)(H0:Int)(Hh:Int)(p55_1:Aa)(F3:List ByteArray)(Nl:List Bool):Bx:=(Cm Tryz.prog (D4 L) (EI (D4 L) (L+24) 6) 1 (List.drop 3 c95.w.l.u.l.l.w.l.l.u.l.ops) ⟨[(21,.agg (Cv (p55_0.getD (Int.toNat H0) default))),(20,.clo 96 0 [.loc 3 0]),(2,.clo 96 0 [.loc 3 0]),(6,I Hh),(8,.loc 14 0),(14,lv (.t151 p55_0)),(15,I (p55_0.length:Int)),(16,I H0),(17,B (decide (H0 < (p55_0.length:Int)))),(18,.ref (Cv (p55_0.getD (Int.toNat H0) default))),(19,.agg (Cv (p55_0.getD (Int.toNat H0) default)))],[(1,(Ae p55_1)),(3,[.mp 5]),(4,[.clo 84 0 [.loc 3 0]]),(5,[.mapO false false (.t9 F3) (.t4 Nl)]),(14,(Cv (p55_0.getD (Int.toNat H0) default)))],6⟩ (some 22) (fun st9=>(Bk (EV (D4 L) (L+24) 6 c95.w.l.u.l.l.w.l.l.u.r) (Ax 1 (Bk (EV (D4 L) (L+24) 6 c95.w.l.u.l.l.w.r) (Ir (Lh (EV (D4 L) (L+24) 6 c95.w.l.u.l.l) [0,1,2,6,14,15,16] [1,3,4,5] n) [0,1,2,6,14,15,16] [1,3,4,5] K)))) .normal st9))
theorem Cfx(p55_0:List Aq)(H0:Int)(p55_1:Aa)(F3:List ByteArray)(Nl:List Bool)(Hh:Int)(ih:Buk L n K p55_0 p55_1)(o29:Cw):Bcg (p55_0.getD (Int.toNat H0) default) p55_1 F3 Nl (p55_0.getD (Int.toNat H0) default) (Bpn L n K p55_0 H0 Hh p55_1 F3 Nl) o29=ob (T4 L H0 Hh (J7 L p55_0 p55_1 n) o29) (kX [.ret,.exit 0] (Bk0 p55_0 p55_1) K):=eE (T4 L H0 Hh (fun Hh H0 F3 Nl=>re (ih (Hh,H0,F3,Nl))) o29)
theorem Ccm(p55_0:List Aq)(p55_1:Aa):∀n,Buk L n K p55_0 p55_1:=lE (fun _=>rfl) fun n v ih=>eE (Zv L p55_0 p55_1 (fun Hh H0 F3 Nl=>re (ih (Hh,H0,F3,Nl))) v.1 v.2.1 v.2.2.1 v.2.2.2 (fun H0 F3 Nl Hh=>ho (B3h L (Bpn L n K p55_0 H0 Hh p55_1 F3 Nl) (p55_0.getD (Int.toNat H0) default) p55_1 F3 Nl (p55_0.getD (Int.toNat H0) default)) fun o29=>Cfx L n K p55_0 H0 p55_1 F3 Nl Hh ih o29))
def Bcf(p55_0:List Aq)(p55_1:Aa)(p55_2:List ByteArray)(p55_3:List Bool)(k:Bx):Cw→Prop:=fun o=>k (I o.1) [(1,(Ae p55_1)),(3,[.mp 5]),(4,[.clo 84 0 [.loc 3 0]]),(5,[.mapO false false (.t9 o.2.1) (.t4 o.2.2)])]
def Ae9 [An A Cw](L:Nat)(o30:Nat×Tu5):A:=
 (sl o30.1 [(lf (o30.2.1,o30.2.2.2.1,o30.2.2.2.2)),
 (lf (0,o30.2.2.2.1,o30.2.2.2.2))])
def Bpo:Be:=(Ax 0 (Bk (EV (D4 L) (L+24) 6 c95.w.r) (E8 Tryz.prog (RS Tryz.f95) k)))
theorem Cfy(p55_0:List Aq)(p55_1:Aa)(p55_2:List ByteArray)(p55_3:List Bool)(o30:Nat×Tu5):kX [.ret,.exit 0] (Bk0 p55_0 p55_1) (Bpo L k) o30=ob (Ae9 L o30) (Bcf p55_0 p55_1 p55_2 p55_3 k):=eE (Ae9 L o30)
def Aoh [An A Cw](L:Nat)(p55_0:List Aq)(p55_1:Aa)(p55_2:List ByteArray)(p55_3:List Bool)(nx83:A):A:=
 (cn (decide ((p55_0.length:Int) > 32))
 (lf (6,p55_2,p55_3))
 nx83)
def Ay8 [An A Cw](p55_0:List Aq)(p55_1:Aa)(p55_2:List ByteArray)(p55_3:List Bool):A:=Aoh L p55_0 p55_1 p55_2 p55_3 (bd (J7 L p55_0 p55_1 (L+24) 0 0 p55_2 p55_3) fun o30=>Ae9 L o30)
def Aeq(p55_0:List Aq)(p55_1:Aa)(p55_2:List ByteArray)(p55_3:List Bool):Option Cw:=Ay8 L p55_0 p55_1 p55_2 p55_3
theorem B3g(p55_0:List Aq)(p55_1:Aa)(p55_2:List ByteArray)(p55_3:List Bool):YO (D4 L) (L+24) 7 95 [lv (.t151 p55_0),I 32,.clo 96 0 [.loc 3 0]] [(1,(Ae p55_1)),(3,[.mp 5]),(4,[.clo 84 0 [.loc 3 0]]),(5,[.mapO false false (.t9 p55_2) (.t4 p55_3)])] k=ob (Aeq L p55_0 p55_1 p55_2 p55_3) (Bcf p55_0 p55_1 p55_2 p55_3 k):=(Dg _ _ _ jn4 _ _ _ _ _ _ _).trans (eE (Aoh L p55_0 p55_1 p55_2 p55_3 (ho (Ccm L (Bpo L k) p55_0 p55_1 (L+24) (0,0,p55_2,p55_3)) fun o30=>Cfy L k p55_0 p55_1 p55_2 p55_3 o30)))
def Blq(p68_0:ByteArray)(p68_1:Aa)(p68_2:List ByteArray)(p68_3:List Bool)(p68_4:Au)(p68_5:Au)(k:Bx):Cw→Prop:=fun o=>k (I o.1) [(1,(Ae p68_1)),(3,[.mp 5]),(4,[.clo 84 0 [.loc 3 0]]),(5,[.mapO false false (.t9 o.2.1) (.t4 o.2.2)]),(14,(Cz p68_4)),(17,(Cz p68_5))]
def Anx [An A Cw](p68_0:ByteArray)(p68_1:Aa)(p68_2:List ByteArray)(p68_3:List Bool)(p68_4:Au)(p68_5:Au):A:=
 (bd (Dp L p68_0) fun r32=>
 (cn (r32 != 0)
 (lf (r32,p68_2,p68_3))
 (fq (p68_2.findIdx? fun b=>p68_0 == b) (fun i33=>
 (cn (p68_3.getD i33 default)
 (lf (4,p68_2,p68_3))
 (fq (p68_2.findIdx? fun b=>p68_0 == b) (fun i34=>
 (lf (0,p68_2,(p68_3.set i34 true))))
 (lf (0,(p68_2++ [p68_0]),(p68_3++ [true]))))))
 (fq (p68_2.findIdx? fun b=>p68_0 == b) (fun i35=>
 (lf (0,p68_2,(p68_3.set i35 true))))
 (lf (0,(p68_2++ [p68_0]),(p68_3++ [true])))))))
def Aet(p68_0:ByteArray)(p68_1:Aa)(p68_2:List ByteArray)(p68_3:List Bool)(p68_4:Au)(p68_5:Au):Option Cw:=Anx L p68_0 p68_1 p68_2 p68_3 p68_4 p68_5
theorem B3l(p68_0:ByteArray)(p68_1:Aa)(p68_2:List ByteArray)(p68_3:List Bool)(p68_4:Au)(p68_5:Au):YO (D4 L) (L+24) 5 64 [.mp 5,S p68_0] [(1,(Ae p68_1)),(3,[.mp 5]),(4,[.clo 84 0 [.loc 3 0]]),(5,[.mapO false false (.t9 p68_2) (.t4 p68_3)]),(14,(Cz p68_4)),(17,(Cz p68_5))] k=ob (Aet L p68_0 p68_1 p68_2 p68_3 p68_4 p68_5) (Blq p68_0 p68_1 p68_2 p68_3 p68_4 p68_5 k):=(Dg _ _ _ jn4 _ _ _ _ _ _ _).trans (eE (Anx L p68_0 p68_1 p68_2 p68_3 p68_4 p68_5))
def Bci(p66_0:Au)(p66_1:Aa)(p66_2:List ByteArray)(p66_3:List Bool)(p66_4:Au)(k:Bx):Cw→Prop:=fun o=>k (I o.1) [(1,(Ae p66_1)),(3,[.mp 5]),(4,[.clo 84 0 [.loc 3 0]]),(5,[.mapO false false (.t9 o.2.1) (.t4 o.2.2)]),(14,(Cz p66_4)),(17,(Cz p66_0))]
def Zj [An A Cw](p66_0:Au)(o36:Cw):A:=
 (cn (o36.1 != 0)
 (lf (o36.1,o36.2.1,o36.2.2))
 (bd (Bn L p66_0.Length 1 1000) fun r37=>
 (jb (.cn (!r37)
 (.lf true)
 (.bd (Bn L p66_0.Step 1 1000) fun r39=>
 (.lf (!r39)))) (fun b38=>
 (cn b38
 (lf (2,o36.2.1,o36.2.2))
 (lf (0,o36.2.1,o36.2.2)))))))
def Bpq(p66_0:Au)(p66_1:Aa)(p66_2:List ByteArray)(p66_3:List Bool)(p66_4:Au):Bx:=(Cm Tryz.prog (D4 L) (EI (D4 L) (L+24) 5) 1 (List.drop 4 c99.u.l.l.ops) ⟨[(7,S p66_0.Name),(6,.loc 17 0),(5,.mp 5),(1,.loc 3 0),(2,.loc 17 0),(3,I 0)],[(1,(Ae p66_1)),(3,[.mp 5]),(4,[.clo 84 0 [.loc 3 0]]),(5,[.mapO false false (.t9 p66_2) (.t4 p66_3)]),(14,(Cz p66_4)),(17,(Cz p66_0))],15⟩ (some 8) (fun st9=>(Bk (EV (D4 L) (L+24) 5 c99.u.l.r) (Bk (EV (D4 L) (L+24) 5 c99.u.r) (E8 Tryz.prog (RS Tryz.f99) k))) .normal st9))
theorem Cf0(p66_0:Au)(p66_1:Aa)(p66_2:List ByteArray)(p66_3:List Bool)(p66_4:Au)(o36:Cw):Blq p66_0.Name p66_1 p66_2 p66_3 p66_4 p66_0 (Bpq L k p66_0 p66_1 p66_2 p66_3 p66_4) o36=ob (Zj L p66_0 o36) (Bci p66_0 p66_1 p66_2 p66_3 p66_4 k):=eE (Zj L p66_0 o36)
def Anw [An A Cw](p66_0:Au)(p66_1:Aa)(p66_2:List ByteArray)(p66_3:List Bool)(p66_4:Au):A:=(bd (Aet L p66_0.Name p66_1 p66_2 p66_3 p66_4 p66_0) fun o36=>Zj L p66_0 o36)
def Ol(p66_0:Au)(p66_1:Aa)(p66_2:List ByteArray)(p66_3:List Bool)(p66_4:Au):Option Cw:=Anw L p66_0 p66_1 p66_2 p66_3 p66_4
theorem B3k(p66_0:Au)(p66_1:Aa)(p66_2:List ByteArray)(p66_3:List Bool)(p66_4:Au):YO (D4 L) (L+24) 6 99 [.agg (Cz p66_0),.loc 3 0] [(1,(Ae p66_1)),(3,[.mp 5]),(4,[.clo 84 0 [.loc 3 0]]),(5,[.mapO false false (.t9 p66_2) (.t4 p66_3)]),(14,(Cz p66_4))] k=ob (Ol L p66_0 p66_1 p66_2 p66_3 p66_4) (Bci p66_0 p66_1 p66_2 p66_3 p66_4 k):=(Dg _ _ _ jn4 _ _ _ _ _ _ _).trans (eE ((ho (B3l L (Bpq L k p66_0 p66_1 p66_2 p66_3 p66_4) p66_0.Name p66_1 p66_2 p66_3 p66_4 p66_0) fun o36=>Cf0 L k p66_0 p66_1 p66_2 p66_3 p66_4 o36)))
def Bk1(p62_0:List Au)(p62_1:Aa)(v:Tu5):St:=⟨[(0,.any),(1,.any),(2,.clo 99 0 [.loc 3 0]),(6,I v.1),(14,lv (.t155 p62_0)),(15,I (p62_0.length:Int)),(16,I v.2.1)],[(1,(Ae p62_1)),(3,[.mp 5]),(4,[.clo 84 0 [.loc 3 0]]),(5,[.mapO false false (.t9 v.2.2.1) (.t4 v.2.2.2)])],6⟩
def T5 [An A Ue](L:Nat)(Qd:Int)(Lr:Int)(rec:Int→Int→List ByteArray→List Bool→A)(o40:Cw):A:=
 (cn (o40.1 != 0)
 (lf (0,o40.1,Qd,o40.2.1,o40.2.2))
 (rec Lr (Cq (Qd+1)) o40.2.1 o40.2.2))
def Zw [An A Ue](L:Nat)(p62_0:List Au)(p62_1:Aa)(rec:Int→Int→List ByteArray→List Bool→A)(Lr:Int)(Qd:Int)(Nm:List ByteArray)(F4:List Bool)(nx91:Int→(List ByteArray)→(List Bool)→Int→A):A:=
 (lw Qd p62_0
 (nx91 Qd Nm F4 Lr)
 (lf (1,Lr,Qd,Nm,F4)))
def Ahy [An A Ue](p62_0:List Au)(p62_1:Aa)(rec:Int→Int→List ByteArray→List Bool→A)(Lr:Int)(Qd:Int)(Nm:List ByteArray)(F4:List Bool):A:=Zw L p62_0 p62_1 rec Lr Qd Nm F4 (fun Qd Nm F4 Lr=>bd (Ol L (p62_0.getD (Int.toNat Qd) default) p62_1 Nm F4 (p62_0.getD (Int.toNat Qd) default)) fun o40=>T5 L Qd Lr rec o40)
def J8(L:Nat)(p62_0:List Au)(p62_1:Aa):Nat→Int→Int→List ByteArray→List Bool→Option Ue
 |0,_,_,_,_=>none
 |n+1,Lr,Qd,Nm,F4=>Ahy L p62_0 p62_1 (J8 L p62_0 p62_1 n) Lr Qd Nm F4
def Bul(p62_0:List Au)(p62_1:Aa):Prop:=LI (EV (D4 L) (L+24) 6 c98.w.l.u.l.l) [0,1,2,6,14,15,16] [1,3,4,5] (Bk1 p62_0 p62_1) [.ret,.exit 0] (fun n v=>J8 L p62_0 p62_1 n v.1 v.2.1 v.2.2.1 v.2.2.2) K n
def Bpr(p62_0:List Au)(Qd:Int)(Lr:Int)(p62_1:Aa)(Nm:List ByteArray)(F4:List Bool):Bx:=(Cm Tryz.prog (D4 L) (EI (D4 L) (L+24) 6) 1 (List.drop 3 c98.w.l.u.l.l.w.l.l.u.l.ops) ⟨[(21,.agg (Cz (p62_0.getD (Int.toNat Qd) default))),(20,.clo 99 0 [.loc 3 0]),(2,.clo 99 0 [.loc 3 0]),(6,I Lr),(8,.loc 14 0),(14,lv (.t155 p62_0)),(15,I (p62_0.length:Int)),(16,I Qd),(17,B (decide (Qd < (p62_0.length:Int)))),(18,.ref (Cz (p62_0.getD (Int.toNat Qd) default))),(19,.agg (Cz (p62_0.getD (Int.toNat Qd) default)))],[(1,(Ae p62_1)),(3,[.mp 5]),(4,[.clo 84 0 [.loc 3 0]]),(5,[.mapO false false (.t9 Nm) (.t4 F4)]),(14,(Cz (p62_0.getD (Int.toNat Qd) default)))],6⟩ (some 22) (fun st9=>(Bk (EV (D4 L) (L+24) 6 c98.w.l.u.l.l.w.l.l.u.r) (Ax 1 (Bk (EV (D4 L) (L+24) 6 c98.w.l.u.l.l.w.r) (Ir (Lh (EV (D4 L) (L+24) 6 c98.w.l.u.l.l) [0,1,2,6,14,15,16] [1,3,4,5] n) [0,1,2,6,14,15,16] [1,3,4,5] K)))) .normal st9))
theorem Cf1(p62_0:List Au)(Qd:Int)(p62_1:Aa)(Nm:List ByteArray)(F4:List Bool)(Lr:Int)(ih:Bul L n K p62_0 p62_1)(o40:Cw):Bci (p62_0.getD (Int.toNat Qd) default) p62_1 Nm F4 (p62_0.getD (Int.toNat Qd) default) (Bpr L n K p62_0 Qd Lr p62_1 Nm F4) o40=ob (T5 L Qd Lr (J8 L p62_0 p62_1 n) o40) (kX [.ret,.exit 0] (Bk1 p62_0 p62_1) K):=eE (T5 L Qd Lr (fun Lr Qd Nm F4=>re (ih (Lr,Qd,Nm,F4))) o40)
theorem Ccn(p62_0:List Au)(p62_1:Aa):∀n,Bul L n K p62_0 p62_1:=lE (fun _=>rfl) fun n v ih=>eE (Zw L p62_0 p62_1 (fun Lr Qd Nm F4=>re (ih (Lr,Qd,Nm,F4))) v.1 v.2.1 v.2.2.1 v.2.2.2 (fun Qd Nm F4 Lr=>ho (B3k L (Bpr L n K p62_0 Qd Lr p62_1 Nm F4) (p62_0.getD (Int.toNat Qd) default) p62_1 Nm F4 (p62_0.getD (Int.toNat Qd) default)) fun o40=>Cf1 L n K p62_0 Qd p62_1 Nm F4 Lr ih o40))
def Bch(p62_0:List Au)(p62_1:Aa)(p62_2:List ByteArray)(p62_3:List Bool)(k:Bx):Cw→Prop:=fun o=>k (I o.1) [(1,(Ae p62_1)),(3,[.mp 5]),(4,[.clo 84 0 [.loc 3 0]]),(5,[.mapO false false (.t9 o.2.1) (.t4 o.2.2)])]
def Afb [An A Cw](L:Nat)(o41:Nat×Tu5):A:=
 (sl o41.1 [(lf (o41.2.1,o41.2.2.2.1,o41.2.2.2.2)),
 (lf (0,o41.2.2.2.1,o41.2.2.2.2))])
def Bps:Be:=(Ax 0 (Bk (EV (D4 L) (L+24) 6 c98.w.r) (E8 Tryz.prog (RS Tryz.f98) k)))
theorem Cf2(p62_0:List Au)(p62_1:Aa)(p62_2:List ByteArray)(p62_3:List Bool)(o41:Nat×Tu5):kX [.ret,.exit 0] (Bk1 p62_0 p62_1) (Bps L k) o41=ob (Afb L o41) (Bch p62_0 p62_1 p62_2 p62_3 k):=eE (Afb L o41)
def Aoi [An A Cw](L:Nat)(p62_0:List Au)(p62_1:Aa)(p62_2:List ByteArray)(p62_3:List Bool)(nx92:A):A:=
 (cn (decide ((p62_0.length:Int) > 32))
 (lf (6,p62_2,p62_3))
 nx92)
def Ay9 [An A Cw](p62_0:List Au)(p62_1:Aa)(p62_2:List ByteArray)(p62_3:List Bool):A:=Aoi L p62_0 p62_1 p62_2 p62_3 (bd (J8 L p62_0 p62_1 (L+24) 0 0 p62_2 p62_3) fun o41=>Afb L o41)
def Aes(p62_0:List Au)(p62_1:Aa)(p62_2:List ByteArray)(p62_3:List Bool):Option Cw:=Ay9 L p62_0 p62_1 p62_2 p62_3
theorem B3j(p62_0:List Au)(p62_1:Aa)(p62_2:List ByteArray)(p62_3:List Bool):YO (D4 L) (L+24) 7 98 [lv (.t155 p62_0),I 32,.clo 99 0 [.loc 3 0]] [(1,(Ae p62_1)),(3,[.mp 5]),(4,[.clo 84 0 [.loc 3 0]]),(5,[.mapO false false (.t9 p62_2) (.t4 p62_3)])] k=ob (Aes L p62_0 p62_1 p62_2 p62_3) (Bch p62_0 p62_1 p62_2 p62_3 k):=(Dg _ _ _ jn4 _ _ _ _ _ _ _).trans (eE (Aoi L p62_0 p62_1 p62_2 p62_3 (ho (Ccn L (Bps L k) p62_0 p62_1 (L+24) (0,0,p62_2,p62_3)) fun o41=>Cf2 L k p62_0 p62_1 p62_2 p62_3 o41)))
def Blr(p71_0:ByteArray)(p71_1:Aa)(p71_2:List ByteArray)(p71_3:List Bool)(k:Bx):Cw→Prop:=fun o=>k (I o.1) [(1,(Ae p71_1)),(3,[.mp 5]),(4,[.clo 84 0 [.loc 3 0]]),(5,[.mapO false false (.t9 o.2.1) (.t4 o.2.2)])]
def Any [An A Cw](p71_0:ByteArray)(p71_1:Aa)(p71_2:List ByteArray)(p71_3:List Bool):A:=
 (bd (Dp L p71_0) fun r43=>
 (cn (r43 != 0)
 (lf (r43,p71_2,p71_3))
 (fq (p71_2.findIdx? fun b=>p71_0 == b) (fun i44=>
 (cn (p71_3.getD i44 default)
 (lf (4,p71_2,p71_3))
 (fq (p71_2.findIdx? fun b=>p71_0 == b) (fun i45=>
 (lf (0,p71_2,(p71_3.set i45 true))))
 (lf (0,(p71_2++ [p71_0]),(p71_3++ [true]))))))
 (fq (p71_2.findIdx? fun b=>p71_0 == b) (fun i46=>
 (lf (0,p71_2,(p71_3.set i46 true))))
 (lf (0,(p71_2++ [p71_0]),(p71_3++ [true])))))))
def Om(p71_0:ByteArray)(p71_1:Aa)(p71_2:List ByteArray)(p71_3:List Bool):Option Cw:=Any L p71_0 p71_1 p71_2 p71_3
theorem B3m(p71_0:ByteArray)(p71_1:Aa)(p71_2:List ByteArray)(p71_3:List Bool):YO (D4 L) (L+24) 5 64 [.mp 5,S p71_0] [(1,(Ae p71_1)),(3,[.mp 5]),(4,[.clo 84 0 [.loc 3 0]]),(5,[.mapO false false (.t9 p71_2) (.t4 p71_3)])] k=ob (Om L p71_0 p71_1 p71_2 p71_3) (Blr p71_0 p71_1 p71_2 p71_3 k):=(Dg _ _ _ jn4 _ _ _ _ _ _ _).trans (eE (Any L p71_0 p71_1 p71_2 p71_3))
def Bk2(p69_0:List ByteArray)(p69_1:Aa)(v:Tu5):St:=⟨[(0,.any),(1,.any),(2,.clo 64 1 [.mp 5]),(6,I v.1),(14,lv (.t9 p69_0)),(15,I (p69_0.length:Int)),(16,I v.2.1)],[(1,(Ae p69_1)),(3,[.mp 5]),(4,[.clo 84 0 [.loc 3 0]]),(5,[.mapO false false (.t9 v.2.2.1) (.t4 v.2.2.2)])],6⟩
def T6 [An A Ue](L:Nat)(i9:Int)(Yc:Int)(rec:Int→Int→List ByteArray→List Bool→A)(o47:Cw):A:=
 (cn (o47.1 != 0)
 (lf (0,o47.1,i9,o47.2.1,o47.2.2))
 (rec Yc (Cq (i9+1)) o47.2.1 o47.2.2))
def Zx [An A Ue](L:Nat)(p69_0:List ByteArray)(p69_1:Aa)(rec:Int→Int→List ByteArray→List Bool→A)(Yc:Int)(i9:Int)(Nn:List ByteArray)(No:List Bool)(nx96:Int→(List ByteArray)→(List Bool)→Int→A):A:=
 (lw i9 p69_0
 (nx96 i9 Nn No Yc)
 (lf (1,Yc,i9,Nn,No)))
def Ahz [An A Ue](p69_0:List ByteArray)(p69_1:Aa)(rec:Int→Int→List ByteArray→List Bool→A)(Yc:Int)(i9:Int)(Nn:List ByteArray)(No:List Bool):A:=Zx L p69_0 p69_1 rec Yc i9 Nn No (fun i9 Nn No Yc=>bd (Om L (p69_0.getD (Int.toNat i9) default) p69_1 Nn No) fun o47=>T6 L i9 Yc rec o47)
def J9(L:Nat)(p69_0:List ByteArray)(p69_1:Aa):Nat→Int→Int→List ByteArray→List Bool→Option Ue
 |0,_,_,_,_=>none
 |n+1,Yc,i9,Nn,No=>Ahz L p69_0 p69_1 (J9 L p69_0 p69_1 n) Yc i9 Nn No
def Bum(p69_0:List ByteArray)(p69_1:Aa):Prop:=LI (EV (D4 L) (L+24) 5 c85.w.l.u.l.l) [0,1,2,6,14,15,16] [1,3,4,5] (Bk2 p69_0 p69_1) [.ret,.exit 0] (fun n v=>J9 L p69_0 p69_1 n v.1 v.2.1 v.2.2.1 v.2.2.2) K n
def Bpu(p69_0:List ByteArray)(i9:Int)(Yc:Int)(p69_1:Aa)(Nn:List ByteArray)(No:List Bool):Bx:=(Cm Tryz.prog (D4 L) (EI (D4 L) (L+24) 5) 1 (List.drop 3 c85.w.l.u.l.l.w.l.l.u.l.ops) ⟨[(21,S (p69_0.getD (Int.toNat i9) default)),(20,.clo 64 1 [.mp 5]),(2,.clo 64 1 [.mp 5]),(6,I Yc),(8,S (p69_0.getD (Int.toNat i9) default)),(14,lv (.t9 p69_0)),(15,I (p69_0.length:Int)),(16,I i9),(17,B (decide (i9 < (p69_0.length:Int)))),(18,.ref [S (p69_0.getD (Int.toNat i9) default)]),(19,S (p69_0.getD (Int.toNat i9) default))],[(1,(Ae p69_1)),(3,[.mp 5]),(4,[.clo 84 0 [.loc 3 0]]),(5,[.mapO false false (.t9 Nn) (.t4 No)])],6⟩ (some 22) (fun st9=>(Bk (EV (D4 L) (L+24) 5 c85.w.l.u.l.l.w.l.l.u.r) (Ax 1 (Bk (EV (D4 L) (L+24) 5 c85.w.l.u.l.l.w.r) (Ir (Lh (EV (D4 L) (L+24) 5 c85.w.l.u.l.l) [0,1,2,6,14,15,16] [1,3,4,5] n) [0,1,2,6,14,15,16] [1,3,4,5] K)))) .normal st9))
theorem Cf4(p69_0:List ByteArray)(i9:Int)(p69_1:Aa)(Nn:List ByteArray)(No:List Bool)(Yc:Int)(ih:Bum L n K p69_0 p69_1)(o47:Cw):Blr (p69_0.getD (Int.toNat i9) default) p69_1 Nn No (Bpu L n K p69_0 i9 Yc p69_1 Nn No) o47=ob (T6 L i9 Yc (J9 L p69_0 p69_1 n) o47) (kX [.ret,.exit 0] (Bk2 p69_0 p69_1) K):=eE (T6 L i9 Yc (fun Yc i9 Nn No=>re (ih (Yc,i9,Nn,No))) o47)
theorem Cco(p69_0:List ByteArray)(p69_1:Aa):∀n,Bum L n K p69_0 p69_1:=lE (fun _=>rfl) fun n v ih=>eE (Zx L p69_0 p69_1 (fun Yc i9 Nn No=>re (ih (Yc,i9,Nn,No))) v.1 v.2.1 v.2.2.1 v.2.2.2 (fun i9 Nn No Yc=>ho (B3m L (Bpu L n K p69_0 i9 Yc p69_1 Nn No) (p69_0.getD (Int.toNat i9) default) p69_1 Nn No) fun o47=>Cf4 L n K p69_0 i9 p69_1 Nn No Yc ih o47))
def Aox(p69_0:List ByteArray)(p69_1:Aa)(p69_2:List ByteArray)(p69_3:List Bool)(k:Bx):Cw→Prop:=fun o=>k (I o.1) [(1,(Ae p69_1)),(3,[.mp 5]),(4,[.clo 84 0 [.loc 3 0]]),(5,[.mapO false false (.t9 o.2.1) (.t4 o.2.2)])]
def Afd [An A Cw](L:Nat)(o48:Nat×Tu5):A:=
 (sl o48.1 [(lf (o48.2.1,o48.2.2.2.1,o48.2.2.2.2)),
 (lf (0,o48.2.2.2.1,o48.2.2.2.2))])
def Bpv:Be:=(Ax 0 (Bk (EV (D4 L) (L+24) 5 c85.w.r) (E8 Tryz.prog (RS Tryz.f85) k)))
theorem Cf5(p69_0:List ByteArray)(p69_1:Aa)(p69_2:List ByteArray)(p69_3:List Bool)(o48:Nat×Tu5):kX [.ret,.exit 0] (Bk2 p69_0 p69_1) (Bpv L k) o48=ob (Afd L o48) (Aox p69_0 p69_1 p69_2 p69_3 k):=eE (Afd L o48)
def Aoj [An A Cw](L:Nat)(p69_0:List ByteArray)(p69_1:Aa)(p69_2:List ByteArray)(p69_3:List Bool)(nx97:A):A:=
 (cn (decide ((p69_0.length:Int) > 32))
 (lf (6,p69_2,p69_3))
 nx97)
def Aza [An A Cw](p69_0:List ByteArray)(p69_1:Aa)(p69_2:List ByteArray)(p69_3:List Bool):A:=Aoj L p69_0 p69_1 p69_2 p69_3 (bd (J9 L p69_0 p69_1 (L+24) 0 0 p69_2 p69_3) fun o48=>Afd L o48)
def Ks(p69_0:List ByteArray)(p69_1:Aa)(p69_2:List ByteArray)(p69_3:List Bool):Option Cw:=Aza L p69_0 p69_1 p69_2 p69_3
theorem Axe(p69_0:List ByteArray)(p69_1:Aa)(p69_2:List ByteArray)(p69_3:List Bool):YO (D4 L) (L+24) 6 85 [lv (.t9 p69_0),I 32,.clo 64 1 [.mp 5]] [(1,(Ae p69_1)),(3,[.mp 5]),(4,[.clo 84 0 [.loc 3 0]]),(5,[.mapO false false (.t9 p69_2) (.t4 p69_3)])] k=ob (Ks L p69_0 p69_1 p69_2 p69_3) (Aox p69_0 p69_1 p69_2 p69_3 k):=(Dg _ _ _ jn4 _ _ _ _ _ _ _).trans (eE (Aoj L p69_0 p69_1 p69_2 p69_3 (ho (Cco L (Bpv L k) p69_0 p69_1 (L+24) (0,0,p69_2,p69_3)) fun o48=>Cf5 L k p69_0 p69_1 p69_2 p69_3 o48)))
def Bls(p78_0:ByteArray)(p78_1:Aa)(p78_2:List ByteArray)(p78_3:List Bool)(p78_4:Ak)(p78_5:Ak)(k:Bx):Cw→Prop:=fun o=>k (I o.1) [(1,(Ae p78_1)),(3,[.mp 5]),(4,[.clo 84 0 [.loc 3 0]]),(5,[.mapO false false (.t9 o.2.1) (.t4 o.2.2)]),(14,(B5 p78_4)),(17,(B5 p78_5))]
def An0 [An A Cw](p78_0:ByteArray)(p78_1:Aa)(p78_2:List ByteArray)(p78_3:List Bool)(p78_4:Ak)(p78_5:Ak):A:=
 (bd (Dp L p78_0) fun r54=>
 (cn (r54 != 0)
 (lf (r54,p78_2,p78_3))
 (fq (p78_2.findIdx? fun b=>p78_0 == b) (fun i55=>
 (cn (p78_3.getD i55 default)
 (lf (4,p78_2,p78_3))
 (fq (p78_2.findIdx? fun b=>p78_0 == b) (fun i56=>
 (lf (0,p78_2,(p78_3.set i56 true))))
 (lf (0,(p78_2++ [p78_0]),(p78_3++ [true]))))))
 (fq (p78_2.findIdx? fun b=>p78_0 == b) (fun i57=>
 (lf (0,p78_2,(p78_3.set i57 true))))
 (lf (0,(p78_2++ [p78_0]),(p78_3++ [true])))))))
def Aev(p78_0:ByteArray)(p78_1:Aa)(p78_2:List ByteArray)(p78_3:List Bool)(p78_4:Ak)(p78_5:Ak):Option Cw:=An0 L p78_0 p78_1 p78_2 p78_3 p78_4 p78_5
theorem B3p(p78_0:ByteArray)(p78_1:Aa)(p78_2:List ByteArray)(p78_3:List Bool)(p78_4:Ak)(p78_5:Ak):YO (D4 L) (L+24) 5 64 [.mp 5,S p78_0] [(1,(Ae p78_1)),(3,[.mp 5]),(4,[.clo 84 0 [.loc 3 0]]),(5,[.mapO false false (.t9 p78_2) (.t4 p78_3)]),(14,(B5 p78_4)),(17,(B5 p78_5))] k=ob (Aev L p78_0 p78_1 p78_2 p78_3 p78_4 p78_5) (Bls p78_0 p78_1 p78_2 p78_3 p78_4 p78_5 k):=(Dg _ _ _ jn4 _ _ _ _ _ _ _).trans (eE (An0 L p78_0 p78_1 p78_2 p78_3 p78_4 p78_5))
def Bck(p76_0:Ak)(p76_1:Aa)(p76_2:List ByteArray)(p76_3:List Bool)(p76_4:Ak)(k:Bx):Cw→Prop:=fun o=>k (I o.1) [(1,(Ae p76_1)),(3,[.mp 5]),(4,[.clo 84 0 [.loc 3 0]]),(5,[.mapO false false (.t9 o.2.1) (.t4 o.2.2)]),(14,(B5 p76_4)),(17,(B5 p76_0))]
def Wg [An A Cw](p76_0:Ak)(o58:Cw):A:=
 (cn (o58.1 != 0)
 (lf (o58.1,o58.2.1,o58.2.2))
 (bd (s8 L p76_0) fun r59=>
 (lf (r59,o58.2.1,o58.2.2))))
def Bg2(p76_0:Ak)(p76_1:Aa)(p76_2:List ByteArray)(p76_3:List Bool)(p76_4:Ak):Bx:=(Cm Tryz.prog (D4 L) (EI (D4 L) (L+24) 5) 1 (List.drop 4 Caz.u.l.l.ops) ⟨[(7,S p76_0.Name),(6,.loc 17 0),(5,.mp 5),(1,.loc 3 0),(2,.loc 17 0),(3,I 0)],[(1,(Ae p76_1)),(3,[.mp 5]),(4,[.clo 84 0 [.loc 3 0]]),(5,[.mapO false false (.t9 p76_2) (.t4 p76_3)]),(14,(B5 p76_4)),(17,(B5 p76_0))],15⟩ (some 8) (fun st9=>(Bk (EV (D4 L) (L+24) 5 Caz.u.l.r) (Bk (EV (D4 L) (L+24) 5 Caz.u.r) (E8 Tryz.prog (RS Tryz.f107) k))) .normal st9))
theorem B6d(p76_0:Ak)(p76_1:Aa)(p76_2:List ByteArray)(p76_3:List Bool)(p76_4:Ak)(o58:Cw):Bls p76_0.Name p76_1 p76_2 p76_3 p76_4 p76_0 (Bg2 L k p76_0 p76_1 p76_2 p76_3 p76_4) o58=ob (Wg L p76_0 o58) (Bck p76_0 p76_1 p76_2 p76_3 p76_4 k):=eE (Wg L p76_0 o58)
def Anz [An A Cw](p76_0:Ak)(p76_1:Aa)(p76_2:List ByteArray)(p76_3:List Bool)(p76_4:Ak):A:=(bd (Aev L p76_0.Name p76_1 p76_2 p76_3 p76_4 p76_0) fun o58=>Wg L p76_0 o58)
def On(p76_0:Ak)(p76_1:Aa)(p76_2:List ByteArray)(p76_3:List Bool)(p76_4:Ak):Option Cw:=Anz L p76_0 p76_1 p76_2 p76_3 p76_4
theorem B3o(p76_0:Ak)(p76_1:Aa)(p76_2:List ByteArray)(p76_3:List Bool)(p76_4:Ak):YO (D4 L) (L+24) 6 107 [.agg (B5 p76_0),.loc 3 0] [(1,(Ae p76_1)),(3,[.mp 5]),(4,[.clo 84 0 [.loc 3 0]]),(5,[.mapO false false (.t9 p76_2) (.t4 p76_3)]),(14,(B5 p76_4))] k=ob (On L p76_0 p76_1 p76_2 p76_3 p76_4) (Bck p76_0 p76_1 p76_2 p76_3 p76_4 k):=(Dg _ _ _ jn4 _ _ _ _ _ _ _).trans (eE ((ho (B3p L (Bg2 L k p76_0 p76_1 p76_2 p76_3 p76_4) p76_0.Name p76_1 p76_2 p76_3 p76_4 p76_0) fun o58=>B6d L k p76_0 p76_1 p76_2 p76_3 p76_4 o58)))
def Bk3(p72_0:List Ak)(p72_1:Aa)(v:Tu5):St:=⟨[(0,.any),(1,.any),(2,.clo 107 0 [.loc 3 0]),(6,I v.1),(14,lv (.t60 p72_0)),(15,I (p72_0.length:Int)),(16,I v.2.1)],[(1,(Ae p72_1)),(3,[.mp 5]),(4,[.clo 84 0 [.loc 3 0]]),(5,[.mapO false false (.t9 v.2.2.1) (.t4 v.2.2.2)])],6⟩
def R6 [An A Ue](L:Nat)(Ww:Int)(Yd:Int)(rec:Int→Int→List ByteArray→List Bool→A)(o60:Cw):A:=
 (cn (o60.1 != 0)
 (lf (0,o60.1,Ww,o60.2.1,o60.2.2))
 (rec Yd (Cq (Ww+1)) o60.2.1 o60.2.2))
def Wq [An A Ue](L:Nat)(p72_0:List Ak)(p72_1:Aa)(rec:Int→Int→List ByteArray→List Bool→A)(Yd:Int)(Ww:Int)(Np:List ByteArray)(Nq:List Bool)(nx109:Int→(List ByteArray)→(List Bool)→Int→A):A:=
 (lw Ww p72_0
 (nx109 Ww Np Nq Yd)
 (lf (1,Yd,Ww,Np,Nq)))
def Ah0 [An A Ue](p72_0:List Ak)(p72_1:Aa)(rec:Int→Int→List ByteArray→List Bool→A)(Yd:Int)(Ww:Int)(Np:List ByteArray)(Nq:List Bool):A:=Wq L p72_0 p72_1 rec Yd Ww Np Nq (fun Ww Np Nq Yd=>bd (On L (p72_0.getD (Int.toNat Ww) default) p72_1 Np Nq (p72_0.getD (Int.toNat Ww) default)) fun o60=>R6 L Ww Yd rec o60)
def Ka(L:Nat)(p72_0:List Ak)(p72_1:Aa):Nat→Int→Int→List ByteArray→List Bool→Option Ue
 |0,_,_,_,_=>none
 |n+1,Yd,Ww,Np,Nq=>Ah0 L p72_0 p72_1 (Ka L p72_0 p72_1 n) Yd Ww Np Nq
def Bun(p72_0:List Ak)(p72_1:Aa):Prop:=LI (EV (D4 L) (L+24) 6 Bsx.w.l.u.l.l) [0,1,2,6,14,15,16] [1,3,4,5] (Bk3 p72_0 p72_1) [.ret,.exit 0] (fun n v=>Ka L p72_0 p72_1 n v.1 v.2.1 v.2.2.1 v.2.2.2) K n
def Bg3(p72_0:List Ak)(Ww:Int)(Yd:Int)(p72_1:Aa)(Np:List ByteArray)(Nq:List Bool):Bx:=(Cm Tryz.prog (D4 L) (EI (D4 L) (L+24) 6) 1 (List.drop 3 Bsx.w.l.u.l.l.w.l.l.u.l.ops) ⟨[(21,.agg (B5 (p72_0.getD (Int.toNat Ww) default))),(20,.clo 107 0 [.loc 3 0]),(2,.clo 107 0 [.loc 3 0]),(6,I Yd),(8,.loc 14 0),(14,lv (.t60 p72_0)),(15,I (p72_0.length:Int)),(16,I Ww),(17,B (decide (Ww < (p72_0.length:Int)))),(18,.ref (B5 (p72_0.getD (Int.toNat Ww) default))),(19,.agg (B5 (p72_0.getD (Int.toNat Ww) default)))],[(1,(Ae p72_1)),(3,[.mp 5]),(4,[.clo 84 0 [.loc 3 0]]),(5,[.mapO false false (.t9 Np) (.t4 Nq)]),(14,(B5 (p72_0.getD (Int.toNat Ww) default)))],6⟩ (some 22) (fun st9=>(Bk (EV (D4 L) (L+24) 6 Bsx.w.l.u.l.l.w.l.l.u.r) (Ax 1 (Bk (EV (D4 L) (L+24) 6 Bsx.w.l.u.l.l.w.r) (Ir (Lh (EV (D4 L) (L+24) 6 Bsx.w.l.u.l.l) [0,1,2,6,14,15,16] [1,3,4,5] n) [0,1,2,6,14,15,16] [1,3,4,5] K)))) .normal st9))
theorem B6e(p72_0:List Ak)(Ww:Int)(p72_1:Aa)(Np:List ByteArray)(Nq:List Bool)(Yd:Int)(ih:Bun L n K p72_0 p72_1)(o60:Cw):Bck (p72_0.getD (Int.toNat Ww) default) p72_1 Np Nq (p72_0.getD (Int.toNat Ww) default) (Bg3 L n K p72_0 Ww Yd p72_1 Np Nq) o60=ob (R6 L Ww Yd (Ka L p72_0 p72_1 n) o60) (kX [.ret,.exit 0] (Bk3 p72_0 p72_1) K):=eE (R6 L Ww Yd (fun Yd Ww Np Nq=>re (ih (Yd,Ww,Np,Nq))) o60)
theorem Ccp(p72_0:List Ak)(p72_1:Aa):∀n,Bun L n K p72_0 p72_1:=lE (fun _=>rfl) fun n v ih=>eE (Wq L p72_0 p72_1 (fun Yd Ww Np Nq=>re (ih (Yd,Ww,Np,Nq))) v.1 v.2.1 v.2.2.1 v.2.2.2 (fun Ww Np Nq Yd=>ho (B3o L (Bg3 L n K p72_0 Ww Yd p72_1 Np Nq) (p72_0.getD (Int.toNat Ww) default) p72_1 Np Nq (p72_0.getD (Int.toNat Ww) default)) fun o60=>B6e L n K p72_0 Ww p72_1 Np Nq Yd ih o60))
def Bcj(p72_0:List Ak)(p72_1:Aa)(p72_2:List ByteArray)(p72_3:List Bool)(k:Bx):Cw→Prop:=fun o=>k (I o.1) [(1,(Ae p72_1)),(3,[.mp 5]),(4,[.clo 84 0 [.loc 3 0]]),(5,[.mapO false false (.t9 o.2.1) (.t4 o.2.2)])]
def Ac1 [An A Cw](L:Nat)(o61:Nat×Tu5):A:=
 (sl o61.1 [(lf (o61.2.1,o61.2.2.2.1,o61.2.2.2.2)),
 (lf (0,o61.2.2.2.1,o61.2.2.2.2))])
def Bg4:Be:=(Ax 0 (Bk (EV (D4 L) (L+24) 6 Bsx.w.r) (E8 Tryz.prog (RS Tryz.f106) k)))
theorem B6f(p72_0:List Ak)(p72_1:Aa)(p72_2:List ByteArray)(p72_3:List Bool)(o61:Nat×Tu5):kX [.ret,.exit 0] (Bk3 p72_0 p72_1) (Bg4 L k) o61=ob (Ac1 L o61) (Bcj p72_0 p72_1 p72_2 p72_3 k):=eE (Ac1 L o61)
def Alr [An A Cw](L:Nat)(p72_0:List Ak)(p72_1:Aa)(p72_2:List ByteArray)(p72_3:List Bool)(nx110:A):A:=
 (cn (decide ((p72_0.length:Int) > 16))
 (lf (6,p72_2,p72_3))
 nx110)
def Azb [An A Cw](p72_0:List Ak)(p72_1:Aa)(p72_2:List ByteArray)(p72_3:List Bool):A:=Alr L p72_0 p72_1 p72_2 p72_3 (bd (Ka L p72_0 p72_1 (L+24) 0 0 p72_2 p72_3) fun o61=>Ac1 L o61)
def Aeu(p72_0:List Ak)(p72_1:Aa)(p72_2:List ByteArray)(p72_3:List Bool):Option Cw:=Azb L p72_0 p72_1 p72_2 p72_3
theorem B3n(p72_0:List Ak)(p72_1:Aa)(p72_2:List ByteArray)(p72_3:List Bool):YO (D4 L) (L+24) 7 106 [lv (.t60 p72_0),I 16,.clo 107 0 [.loc 3 0]] [(1,(Ae p72_1)),(3,[.mp 5]),(4,[.clo 84 0 [.loc 3 0]]),(5,[.mapO false false (.t9 p72_2) (.t4 p72_3)])] k=ob (Aeu L p72_0 p72_1 p72_2 p72_3) (Bcj p72_0 p72_1 p72_2 p72_3 k):=(Dg _ _ _ jn4 _ _ _ _ _ _ _).trans (eE (Alr L p72_0 p72_1 p72_2 p72_3 (ho (Ccp L (Bg4 L k) p72_0 p72_1 (L+24) (0,0,p72_2,p72_3)) fun o61=>B6f L k p72_0 p72_1 p72_2 p72_3 o61)))
def Byn(p79_0:List Bm)(p79_1:Aa)(p79_2:List ByteArray)(p79_3:List Bool)(v:Cp):St:=⟨[(0,.any),(1,.any),(2,.clo 111 0 [.loc 1 0]),(6,I v.1),(14,lv (.t161 p79_0)),(15,I (p79_0.length:Int)),(16,I v.2)],[(1,(Ae p79_1)),(3,[.mp 5]),(4,[.clo 84 0 [.loc 3 0]]),(5,[.mapO false false (.t9 p79_2) (.t4 p79_3)])],6⟩
def v7 [An A B8](p79_0:List Bm)(p79_1:Aa)(p79_2:List ByteArray)(p79_3:List Bool)(rec:Int→Int→A)(Aqx:Int)(Be5:Int):A:=
 (lw Be5 p79_0
 (bd (Vs L p79_1 (p79_0.getD (Int.toNat Be5) default)) fun r63=>
 (cn (r63 != 0)
 (lf (0,r63,Be5))
 (rec Aqx (Cq (Be5+1)))))
 (lf (1,Aqx,Be5)))
def Mu(L:Nat)(p79_0:List Bm)(p79_1:Aa)(p79_2:List ByteArray)(p79_3:List Bool):Nat→Int→Int→Option B8
 |0,_,_=>none
 |n+1,Aqx,Be5=>v7 L p79_0 p79_1 p79_2 p79_3 (Mu L p79_0 p79_1 p79_2 p79_3 n) Aqx Be5
theorem Ccq(p79_0:List Bm)(p79_1:Aa)(p79_2:List ByteArray)(p79_3:List Bool):LP (EV (D4 L) (L+24) 6 Cjw.w.l.u.l.l) [0,1,2,6,14,15,16] [1,3,4,5] (Byn p79_0 p79_1 p79_2 p79_3) [.ret,.exit 0] (fun n v=>Mu L p79_0 p79_1 p79_2 p79_3 n v.1 v.2) K:=lE (fun _=>rfl) fun n v ih=>eE (v7 L p79_0 p79_1 p79_2 p79_3 (fun Aqx Be5=>re (ih (Aqx,Be5))) v.1 v.2)
def Bcl(p79_0:List Bm)(p79_1:Aa)(p79_2:List ByteArray)(p79_3:List Bool)(k:Bx):Int→Prop:=fun o=>k (I o) [(1,(Ae p79_1)),(3,[.mp 5]),(4,[.clo 84 0 [.loc 3 0]]),(5,[.mapO false false (.t9 p79_2) (.t4 p79_3)])]
def Ac3 [An A Int](L:Nat)(o64:Nat×Cp):A:=
 (sl o64.1 [(lf o64.2.1),
 (lf 0)])
def Bg6:Be:=(Ax 0 (Bk (EV (D4 L) (L+24) 6 Cjw.w.r) (E8 Tryz.prog (RS Tryz.f110) k)))
theorem B6h(p79_0:List Bm)(p79_1:Aa)(p79_2:List ByteArray)(p79_3:List Bool)(o64:Nat×Cp):kX [.ret,.exit 0] (Byn p79_0 p79_1 p79_2 p79_3) (Bg6 L k) o64=ob (Ac3 L o64) (Bcl p79_0 p79_1 p79_2 p79_3 k):=eE (Ac3 L o64)
def Als [An A Int](L:Nat)(p79_0:List Bm)(p79_1:Aa)(p79_2:List ByteArray)(p79_3:List Bool)(nx113:A):A:=
 (cn (decide ((p79_0.length:Int) > 32))
 (lf 6)
 nx113)
def Azc [An A Int](p79_0:List Bm)(p79_1:Aa)(p79_2:List ByteArray)(p79_3:List Bool):A:=Als L p79_0 p79_1 p79_2 p79_3 (bd (Mu L p79_0 p79_1 p79_2 p79_3 (L+24) 0 0) fun o64=>Ac3 L o64)
def Aew(p79_0:List Bm)(p79_1:Aa)(p79_2:List ByteArray)(p79_3:List Bool):Option Int:=Azc L p79_0 p79_1 p79_2 p79_3
theorem B3q(p79_0:List Bm)(p79_1:Aa)(p79_2:List ByteArray)(p79_3:List Bool):YO (D4 L) (L+24) 7 110 [lv (.t161 p79_0),I 32,.clo 111 0 [.loc 1 0]] [(1,(Ae p79_1)),(3,[.mp 5]),(4,[.clo 84 0 [.loc 3 0]]),(5,[.mapO false false (.t9 p79_2) (.t4 p79_3)])] k=ob (Aew L p79_0 p79_1 p79_2 p79_3) (Bcl p79_0 p79_1 p79_2 p79_3 k):=(Dg _ _ _ jn4 _ _ _ _ _ _ _).trans (eE (Als L p79_0 p79_1 p79_2 p79_3 (ho (Ccq L (Bg6 L k) p79_0 p79_1 p79_2 p79_3 (L+24) (0,0)) fun o64=>B6h L k p79_0 p79_1 p79_2 p79_3 o64)))
def Ad6(p1_0:Aa)(k:Bx):Cw→Prop:=fun o=>k (I o.1) [(1,(Ae p1_0)),(3,[.mp 5]),(4,[.clo 84 0 [.loc 3 0]]),(5,[.mapO false false (.t9 o.2.1) (.t4 o.2.2)])]
def Wh [An A Cw](o62:Cw)(p1_0:Aa)(o65:Int):A:=
 (cn (o65 != 0)
 (lf (o65,o62.2.1,o62.2.2))
 (gq (0≤11)
 (gq (11 < ((12:Nat):Int))
 (bd (Ain L p1_0) fun r66=>
 (cn (r66 != 0)
 (lf (r66,o62.2.1,o62.2.2))
 (lf (0,o62.2.1,o62.2.2)))))))
def Bg7(p1_0:Aa)(o62:Cw):Bx:=(Cm Tryz.prog (D4 L) (EI (D4 L) (L+24) 7) 1 (List.drop 4 Cjv.u.l.ops) ⟨[(4,.clo 111 0 [.loc 1 0]),(3,lv (.t161 p1_0.Starts)),(2,.loc 1 11),(0,.loc 1 0),(1,I 0)],[(1,(Ae p1_0)),(3,[.mp 5]),(4,[.clo 84 0 [.loc 3 0]]),(5,[.mapO false false (.t9 o62.2.1) (.t4 o62.2.2)])],6⟩ (some 5) (fun st9=>(Bk (EV (D4 L) (L+24) 7 Cjv.u.r) (E8 Tryz.prog (RS Tryz.f109) (Cm Tryz.prog (D4 L) (EI (D4 L) (L+24) 8) 1 (List.drop 2 c86.u.l.u.l.l.w.l.l.u.l.ops) ⟨[(12,.clo 109 0 [.loc 1 0]),(2,I 0),(4,.clo 109 0 [.loc 1 0]),(6,.sl false 139 1 [[.clo 87 0 [.loc 3 0,.loc 1 0]],[.clo 88 0 [.loc 1 0,.loc 3 0]],[.clo 94 0 [.loc 1 0,.loc 3 0]],[.clo 97 0 [.loc 1 0,.loc 3 0]],[.clo 100 0 [.loc 4 0,.loc 1 0]],[.clo 101 0 [.loc 4 0,.loc 1 0]],[.clo 102 0 [.loc 4 0,.loc 1 0]],[.clo 103 0 [.loc 4 0,.loc 1 0]],[.clo 104 0 [.loc 4 0,.loc 1 0]],[.clo 105 0 [.loc 1 0,.loc 3 0]],[.clo 109 0 [.loc 1 0]],[.clo 113 0 [.loc 1 0]]]),(7,I 12),(8,I 10),(9,B true),(10,.ref [.clo 109 0 [.loc 1 0]]),(11,.clo 109 0 [.loc 1 0])],[(1,(Ae p1_0)),(3,[.mp 5]),(4,[.clo 84 0 [.loc 3 0]]),(5,[.mapO false false (.t9 o62.2.1) (.t4 o62.2.2)])],6⟩ (some 13) (fun st9=>(Bk (EV (D4 L) (L+24) 8 c86.u.l.u.l.l.w.l.l.u.r) (Ax 1 (Bk (EV (D4 L) (L+24) 8 c86.u.l.u.l.l.w.r) (Ir (Lh (EV (D4 L) (L+24) 8 c86.u.l.u.l.l) [0,2,6,7,8] [1,3,4,5] (L+13)) [0,2,6,7,8] [1,3,4,5] (Aj5 L k))))) .normal st9)))) .normal st9))
theorem B6i(p1_0:Aa)(o62:Cw)(o65:Int):Bcl p1_0.Starts p1_0 o62.2.1 o62.2.2 (Bg7 L k p1_0 o62) o65=ob (Wh L o62 p1_0 o65) (Ad6 p1_0 k):=eE (Wh L o62 p1_0 o65)
def Adv [An A Cw](L:Nat)(p1_0:Aa)(o62:Cw)(nx114:Cw→A):A:=
 (cn (o62.1 != 0)
 (lf (o62.1,o62.2.1,o62.2.2))
 (gq (0≤10)
 (gq (10 < ((12:Nat):Int))
 (nx114 o62))))
def Ac2 [An A Cw](p1_0:Aa)(o62:Cw):A:=Adv L p1_0 o62 (fun o62=>bd (Aew L p1_0.Starts p1_0 o62.2.1 o62.2.2) fun o65=>Wh L o62 p1_0 o65)
def Bg5(p1_0:Aa)(o53:Cw):Bx:=(Cm Tryz.prog (D4 L) (EI (D4 L) (L+24) 7) 1 (List.drop 4 Cju.u.l.ops) ⟨[(5,.clo 107 0 [.loc 3 0]),(4,lv (.t60 p1_0.Routines)),(3,.loc 1 10),(0,.loc 1 0),(1,.loc 3 0),(2,I 0)],[(1,(Ae p1_0)),(3,[.mp 5]),(4,[.clo 84 0 [.loc 3 0]]),(5,[.mapO false false (.t9 o53.2.1) (.t4 o53.2.2)])],6⟩ (some 6) (fun st9=>(Bk (EV (D4 L) (L+24) 7 Cju.u.r) (E8 Tryz.prog (RS Tryz.f105) (Cm Tryz.prog (D4 L) (EI (D4 L) (L+24) 8) 1 (List.drop 2 c86.u.l.u.l.l.w.l.l.u.l.ops) ⟨[(12,.clo 105 0 [.loc 1 0,.loc 3 0]),(2,I 0),(4,.clo 105 0 [.loc 1 0,.loc 3 0]),(6,.sl false 139 1 [[.clo 87 0 [.loc 3 0,.loc 1 0]],[.clo 88 0 [.loc 1 0,.loc 3 0]],[.clo 94 0 [.loc 1 0,.loc 3 0]],[.clo 97 0 [.loc 1 0,.loc 3 0]],[.clo 100 0 [.loc 4 0,.loc 1 0]],[.clo 101 0 [.loc 4 0,.loc 1 0]],[.clo 102 0 [.loc 4 0,.loc 1 0]],[.clo 103 0 [.loc 4 0,.loc 1 0]],[.clo 104 0 [.loc 4 0,.loc 1 0]],[.clo 105 0 [.loc 1 0,.loc 3 0]],[.clo 109 0 [.loc 1 0]],[.clo 113 0 [.loc 1 0]]]),(7,I 12),(8,I 9),(9,B true),(10,.ref [.clo 105 0 [.loc 1 0,.loc 3 0]]),(11,.clo 105 0 [.loc 1 0,.loc 3 0])],[(1,(Ae p1_0)),(3,[.mp 5]),(4,[.clo 84 0 [.loc 3 0]]),(5,[.mapO false false (.t9 o53.2.1) (.t4 o53.2.2)])],6⟩ (some 13) (fun st9=>(Bk (EV (D4 L) (L+24) 8 c86.u.l.u.l.l.w.l.l.u.r) (Ax 1 (Bk (EV (D4 L) (L+24) 8 c86.u.l.u.l.l.w.r) (Ir (Lh (EV (D4 L) (L+24) 8 c86.u.l.u.l.l) [0,2,6,7,8] [1,3,4,5] (L+14)) [0,2,6,7,8] [1,3,4,5] (Aj5 L k))))) .normal st9)))) .normal st9))
theorem B6g(p1_0:Aa)(o53:Cw)(o62:Cw):Bcj p1_0.Routines p1_0 o53.2.1 o53.2.2 (Bg5 L k p1_0 o53) o62=ob (Ac2 L p1_0 o62) (Ad6 p1_0 k):=eE (Adv L p1_0 o62 (fun o62=>ho (B3q L (Bg7 L k p1_0 o62) p1_0.Starts p1_0 o62.2.1 o62.2.2) fun o65=>B6i L k p1_0 o62 o65))
def Adu [An A Cw](L:Nat)(p1_0:Aa)(o53:Cw)(nx111:Cw→A):A:=
 (cn (o53.1 != 0)
 (lf (o53.1,o53.2.1,o53.2.2))
 (gq (0≤9)
 (gq (9 < ((12:Nat):Int))
 (nx111 o53))))
def Ac0 [An A Cw](p1_0:Aa)(o53:Cw):A:=Adu L p1_0 o53 (fun o53=>bd (Aeu L p1_0.Routines p1_0 o53.2.1 o53.2.2) fun o62=>Ac2 L p1_0 o62)
def Bg1(p1_0:Aa)(o52:Cw):Bx:=(Cm Tryz.prog (D4 L) (EI (D4 L) (L+24) 6) 1 (List.drop 4 c84.u.l.ops) ⟨[(6,.clo 64 1 [.mp 5]),(5,.mp 5),(4,lv (.t9 p1_0.Counts)),(0,lv (.t9 p1_0.Counts)),(1,.loc 3 0),(3,I 0)],[(1,(Ae p1_0)),(3,[.mp 5]),(4,[.clo 84 0 [.loc 3 0]]),(5,[.mapO false false (.t9 o52.2.1) (.t4 o52.2.2)])],6⟩ (some 7) (fun st9=>(Bk (EV (D4 L) (L+24) 6 c84.u.r) (E8 Tryz.prog (RS Tryz.f84) (Cm Tryz.prog (D4 L) (EI (D4 L) (L+24) 7) 1 (List.drop 4 Cjt.u.l.ops) ⟨[(5,lv (.t9 p1_0.Counts)),(4,.loc 1 9),(3,.clo 84 0 [.loc 3 0]),(0,.loc 4 0),(1,.loc 1 0),(2,I 0)],[(1,(Ae p1_0)),(3,[.mp 5]),(4,[.clo 84 0 [.loc 3 0]]),(5,[.mapO false false (.t9 o52.2.1) (.t4 o52.2.2)])],6⟩ (some 6) (fun st9=>(Bk (EV (D4 L) (L+24) 7 Cjt.u.r) (E8 Tryz.prog (RS Tryz.f104) (Cm Tryz.prog (D4 L) (EI (D4 L) (L+24) 8) 1 (List.drop 2 c86.u.l.u.l.l.w.l.l.u.l.ops) ⟨[(12,.clo 104 0 [.loc 4 0,.loc 1 0]),(2,I 0),(4,.clo 104 0 [.loc 4 0,.loc 1 0]),(6,.sl false 139 1 [[.clo 87 0 [.loc 3 0,.loc 1 0]],[.clo 88 0 [.loc 1 0,.loc 3 0]],[.clo 94 0 [.loc 1 0,.loc 3 0]],[.clo 97 0 [.loc 1 0,.loc 3 0]],[.clo 100 0 [.loc 4 0,.loc 1 0]],[.clo 101 0 [.loc 4 0,.loc 1 0]],[.clo 102 0 [.loc 4 0,.loc 1 0]],[.clo 103 0 [.loc 4 0,.loc 1 0]],[.clo 104 0 [.loc 4 0,.loc 1 0]],[.clo 105 0 [.loc 1 0,.loc 3 0]],[.clo 109 0 [.loc 1 0]],[.clo 113 0 [.loc 1 0]]]),(7,I 12),(8,I 8),(9,B true),(10,.ref [.clo 104 0 [.loc 4 0,.loc 1 0]]),(11,.clo 104 0 [.loc 4 0,.loc 1 0])],[(1,(Ae p1_0)),(3,[.mp 5]),(4,[.clo 84 0 [.loc 3 0]]),(5,[.mapO false false (.t9 o52.2.1) (.t4 o52.2.2)])],6⟩ (some 13) (fun st9=>(Bk (EV (D4 L) (L+24) 8 c86.u.l.u.l.l.w.l.l.u.r) (Ax 1 (Bk (EV (D4 L) (L+24) 8 c86.u.l.u.l.l.w.r) (Ir (Lh (EV (D4 L) (L+24) 8 c86.u.l.u.l.l) [0,2,6,7,8] [1,3,4,5] (L+15)) [0,2,6,7,8] [1,3,4,5] (Aj5 L k))))) .normal st9)))) .normal st9)))) .normal st9))
theorem B6c(p1_0:Aa)(o52:Cw)(o53:Cw):Aox p1_0.Counts p1_0 o52.2.1 o52.2.2 (Bg1 L k p1_0 o52) o53=ob (Ac0 L p1_0 o53) (Ad6 p1_0 k):=eE (Adu L p1_0 o53 (fun o53=>ho (B3n L (Bg5 L k p1_0 o53) p1_0.Routines p1_0 o53.2.1 o53.2.2) fun o62=>B6g L k p1_0 o53 o62))
def Adt [An A Cw](L:Nat)(p1_0:Aa)(o52:Cw)(nx102:Cw→A):A:=
 (cn (o52.1 != 0)
 (lf (o52.1,o52.2.1,o52.2.2))
 (gq (0≤8)
 (gq (8 < ((12:Nat):Int))
 (nx102 o52))))
def Acz [An A Cw](p1_0:Aa)(o52:Cw):A:=Adt L p1_0 o52 (fun o52=>bd (Ks L p1_0.Counts p1_0 o52.2.1 o52.2.2) fun o53=>Ac0 L p1_0 o53)
def Bg0(p1_0:Aa)(o51:Cw):Bx:=(Cm Tryz.prog (D4 L) (EI (D4 L) (L+24) 6) 1 (List.drop 4 c84.u.l.ops) ⟨[(6,.clo 64 1 [.mp 5]),(5,.mp 5),(4,lv (.t9 p1_0.Levels)),(0,lv (.t9 p1_0.Levels)),(1,.loc 3 0),(3,I 0)],[(1,(Ae p1_0)),(3,[.mp 5]),(4,[.clo 84 0 [.loc 3 0]]),(5,[.mapO false false (.t9 o51.2.1) (.t4 o51.2.2)])],6⟩ (some 7) (fun st9=>(Bk (EV (D4 L) (L+24) 6 c84.u.r) (E8 Tryz.prog (RS Tryz.f84) (Cm Tryz.prog (D4 L) (EI (D4 L) (L+24) 7) 1 (List.drop 4 Cjs.u.l.ops) ⟨[(5,lv (.t9 p1_0.Levels)),(4,.loc 1 8),(3,.clo 84 0 [.loc 3 0]),(0,.loc 4 0),(1,.loc 1 0),(2,I 0)],[(1,(Ae p1_0)),(3,[.mp 5]),(4,[.clo 84 0 [.loc 3 0]]),(5,[.mapO false false (.t9 o51.2.1) (.t4 o51.2.2)])],6⟩ (some 6) (fun st9=>(Bk (EV (D4 L) (L+24) 7 Cjs.u.r) (E8 Tryz.prog (RS Tryz.f103) (Cm Tryz.prog (D4 L) (EI (D4 L) (L+24) 8) 1 (List.drop 2 c86.u.l.u.l.l.w.l.l.u.l.ops) ⟨[(12,.clo 103 0 [.loc 4 0,.loc 1 0]),(2,I 0),(4,.clo 103 0 [.loc 4 0,.loc 1 0]),(6,.sl false 139 1 [[.clo 87 0 [.loc 3 0,.loc 1 0]],[.clo 88 0 [.loc 1 0,.loc 3 0]],[.clo 94 0 [.loc 1 0,.loc 3 0]],[.clo 97 0 [.loc 1 0,.loc 3 0]],[.clo 100 0 [.loc 4 0,.loc 1 0]],[.clo 101 0 [.loc 4 0,.loc 1 0]],[.clo 102 0 [.loc 4 0,.loc 1 0]],[.clo 103 0 [.loc 4 0,.loc 1 0]],[.clo 104 0 [.loc 4 0,.loc 1 0]],[.clo 105 0 [.loc 1 0,.loc 3 0]],[.clo 109 0 [.loc 1 0]],[.clo 113 0 [.loc 1 0]]]),(7,I 12),(8,I 7),(9,B true),(10,.ref [.clo 103 0 [.loc 4 0,.loc 1 0]]),(11,.clo 103 0 [.loc 4 0,.loc 1 0])],[(1,(Ae p1_0)),(3,[.mp 5]),(4,[.clo 84 0 [.loc 3 0]]),(5,[.mapO false false (.t9 o51.2.1) (.t4 o51.2.2)])],6⟩ (some 13) (fun st9=>(Bk (EV (D4 L) (L+24) 8 c86.u.l.u.l.l.w.l.l.u.r) (Ax 1 (Bk (EV (D4 L) (L+24) 8 c86.u.l.u.l.l.w.r) (Ir (Lh (EV (D4 L) (L+24) 8 c86.u.l.u.l.l) [0,2,6,7,8] [1,3,4,5] (L+16)) [0,2,6,7,8] [1,3,4,5] (Aj5 L k))))) .normal st9)))) .normal st9)))) .normal st9))
theorem B6b(p1_0:Aa)(o51:Cw)(o52:Cw):Aox p1_0.Levels p1_0 o51.2.1 o51.2.2 (Bg0 L k p1_0 o51) o52=ob (Acz L p1_0 o52) (Ad6 p1_0 k):=eE (Adt L p1_0 o52 (fun o52=>ho (Axe L (Bg1 L k p1_0 o52) p1_0.Counts p1_0 o52.2.1 o52.2.2) fun o53=>B6c L k p1_0 o52 o53))
def Ads [An A Cw](L:Nat)(p1_0:Aa)(o51:Cw)(nx101:Cw→A):A:=
 (cn (o51.1 != 0)
 (lf (o51.1,o51.2.1,o51.2.2))
 (gq (0≤7)
 (gq (7 < ((12:Nat):Int))
 (nx101 o51))))
def Acy [An A Cw](p1_0:Aa)(o51:Cw):A:=Ads L p1_0 o51 (fun o51=>bd (Ks L p1_0.Levels p1_0 o51.2.1 o51.2.2) fun o52=>Acz L p1_0 o52)
def Bgz(p1_0:Aa)(o50:Cw):Bx:=(Cm Tryz.prog (D4 L) (EI (D4 L) (L+24) 6) 1 (List.drop 4 c84.u.l.ops) ⟨[(6,.clo 64 1 [.mp 5]),(5,.mp 5),(4,lv (.t9 p1_0.Tallies)),(0,lv (.t9 p1_0.Tallies)),(1,.loc 3 0),(3,I 0)],[(1,(Ae p1_0)),(3,[.mp 5]),(4,[.clo 84 0 [.loc 3 0]]),(5,[.mapO false false (.t9 o50.2.1) (.t4 o50.2.2)])],6⟩ (some 7) (fun st9=>(Bk (EV (D4 L) (L+24) 6 c84.u.r) (E8 Tryz.prog (RS Tryz.f84) (Cm Tryz.prog (D4 L) (EI (D4 L) (L+24) 7) 1 (List.drop 4 Cjr.u.l.ops) ⟨[(5,lv (.t9 p1_0.Tallies)),(4,.loc 1 7),(3,.clo 84 0 [.loc 3 0]),(0,.loc 4 0),(1,.loc 1 0),(2,I 0)],[(1,(Ae p1_0)),(3,[.mp 5]),(4,[.clo 84 0 [.loc 3 0]]),(5,[.mapO false false (.t9 o50.2.1) (.t4 o50.2.2)])],6⟩ (some 6) (fun st9=>(Bk (EV (D4 L) (L+24) 7 Cjr.u.r) (E8 Tryz.prog (RS Tryz.f102) (Cm Tryz.prog (D4 L) (EI (D4 L) (L+24) 8) 1 (List.drop 2 c86.u.l.u.l.l.w.l.l.u.l.ops) ⟨[(12,.clo 102 0 [.loc 4 0,.loc 1 0]),(2,I 0),(4,.clo 102 0 [.loc 4 0,.loc 1 0]),(6,.sl false 139 1 [[.clo 87 0 [.loc 3 0,.loc 1 0]],[.clo 88 0 [.loc 1 0,.loc 3 0]],[.clo 94 0 [.loc 1 0,.loc 3 0]],[.clo 97 0 [.loc 1 0,.loc 3 0]],[.clo 100 0 [.loc 4 0,.loc 1 0]],[.clo 101 0 [.loc 4 0,.loc 1 0]],[.clo 102 0 [.loc 4 0,.loc 1 0]],[.clo 103 0 [.loc 4 0,.loc 1 0]],[.clo 104 0 [.loc 4 0,.loc 1 0]],[.clo 105 0 [.loc 1 0,.loc 3 0]],[.clo 109 0 [.loc 1 0]],[.clo 113 0 [.loc 1 0]]]),(7,I 12),(8,I 6),(9,B true),(10,.ref [.clo 102 0 [.loc 4 0,.loc 1 0]]),(11,.clo 102 0 [.loc 4 0,.loc 1 0])],[(1,(Ae p1_0)),(3,[.mp 5]),(4,[.clo 84 0 [.loc 3 0]]),(5,[.mapO false false (.t9 o50.2.1) (.t4 o50.2.2)])],6⟩ (some 13) (fun st9=>(Bk (EV (D4 L) (L+24) 8 c86.u.l.u.l.l.w.l.l.u.r) (Ax 1 (Bk (EV (D4 L) (L+24) 8 c86.u.l.u.l.l.w.r) (Ir (Lh (EV (D4 L) (L+24) 8 c86.u.l.u.l.l) [0,2,6,7,8] [1,3,4,5] (L+17)) [0,2,6,7,8] [1,3,4,5] (Aj5 L k))))) .normal st9)))) .normal st9)))) .normal st9))
theorem B6a(p1_0:Aa)(o50:Cw)(o51:Cw):Aox p1_0.Tallies p1_0 o50.2.1 o50.2.2 (Bgz L k p1_0 o50) o51=ob (Acy L p1_0 o51) (Ad6 p1_0 k):=eE (Ads L p1_0 o51 (fun o51=>ho (Axe L (Bg0 L k p1_0 o51) p1_0.Levels p1_0 o51.2.1 o51.2.2) fun o52=>B6b L k p1_0 o51 o52))
def Adr [An A Cw](L:Nat)(p1_0:Aa)(o50:Cw)(nx100:Cw→A):A:=
 (cn (o50.1 != 0)
 (lf (o50.1,o50.2.1,o50.2.2))
 (gq (0≤6)
 (gq (6 < ((12:Nat):Int))
 (nx100 o50))))
def Aff [An A Cw](p1_0:Aa)(o50:Cw):A:=Adr L p1_0 o50 (fun o50=>bd (Ks L p1_0.Tallies p1_0 o50.2.1 o50.2.2) fun o51=>Acy L p1_0 o51)
def Bpx(p1_0:Aa)(o49:Cw):Bx:=(Cm Tryz.prog (D4 L) (EI (D4 L) (L+24) 6) 1 (List.drop 4 c84.u.l.ops) ⟨[(6,.clo 64 1 [.mp 5]),(5,.mp 5),(4,lv (.t9 p1_0.Streams)),(0,lv (.t9 p1_0.Streams)),(1,.loc 3 0),(3,I 0)],[(1,(Ae p1_0)),(3,[.mp 5]),(4,[.clo 84 0 [.loc 3 0]]),(5,[.mapO false false (.t9 o49.2.1) (.t4 o49.2.2)])],6⟩ (some 7) (fun st9=>(Bk (EV (D4 L) (L+24) 6 c84.u.r) (E8 Tryz.prog (RS Tryz.f84) (Cm Tryz.prog (D4 L) (EI (D4 L) (L+24) 7) 1 (List.drop 4 Cjq.u.l.ops) ⟨[(5,lv (.t9 p1_0.Streams)),(4,.loc 1 6),(3,.clo 84 0 [.loc 3 0]),(0,.loc 4 0),(1,.loc 1 0),(2,I 0)],[(1,(Ae p1_0)),(3,[.mp 5]),(4,[.clo 84 0 [.loc 3 0]]),(5,[.mapO false false (.t9 o49.2.1) (.t4 o49.2.2)])],6⟩ (some 6) (fun st9=>(Bk (EV (D4 L) (L+24) 7 Cjq.u.r) (E8 Tryz.prog (RS Tryz.f101) (Cm Tryz.prog (D4 L) (EI (D4 L) (L+24) 8) 1 (List.drop 2 c86.u.l.u.l.l.w.l.l.u.l.ops) ⟨[(12,.clo 101 0 [.loc 4 0,.loc 1 0]),(2,I 0),(4,.clo 101 0 [.loc 4 0,.loc 1 0]),(6,.sl false 139 1 [[.clo 87 0 [.loc 3 0,.loc 1 0]],[.clo 88 0 [.loc 1 0,.loc 3 0]],[.clo 94 0 [.loc 1 0,.loc 3 0]],[.clo 97 0 [.loc 1 0,.loc 3 0]],[.clo 100 0 [.loc 4 0,.loc 1 0]],[.clo 101 0 [.loc 4 0,.loc 1 0]],[.clo 102 0 [.loc 4 0,.loc 1 0]],[.clo 103 0 [.loc 4 0,.loc 1 0]],[.clo 104 0 [.loc 4 0,.loc 1 0]],[.clo 105 0 [.loc 1 0,.loc 3 0]],[.clo 109 0 [.loc 1 0]],[.clo 113 0 [.loc 1 0]]]),(7,I 12),(8,I 5),(9,B true),(10,.ref [.clo 101 0 [.loc 4 0,.loc 1 0]]),(11,.clo 101 0 [.loc 4 0,.loc 1 0])],[(1,(Ae p1_0)),(3,[.mp 5]),(4,[.clo 84 0 [.loc 3 0]]),(5,[.mapO false false (.t9 o49.2.1) (.t4 o49.2.2)])],6⟩ (some 13) (fun st9=>(Bk (EV (D4 L) (L+24) 8 c86.u.l.u.l.l.w.l.l.u.r) (Ax 1 (Bk (EV (D4 L) (L+24) 8 c86.u.l.u.l.l.w.r) (Ir (Lh (EV (D4 L) (L+24) 8 c86.u.l.u.l.l) [0,2,6,7,8] [1,3,4,5] (L+18)) [0,2,6,7,8] [1,3,4,5] (Aj5 L k))))) .normal st9)))) .normal st9)))) .normal st9))
theorem Cf7(p1_0:Aa)(o49:Cw)(o50:Cw):Aox p1_0.Streams p1_0 o49.2.1 o49.2.2 (Bpx L k p1_0 o49) o50=ob (Aff L p1_0 o50) (Ad6 p1_0 k):=eE (Adr L p1_0 o50 (fun o50=>ho (Axe L (Bgz L k p1_0 o50) p1_0.Tallies p1_0 o50.2.1 o50.2.2) fun o51=>B6a L k p1_0 o50 o51))
def Afp [An A Cw](L:Nat)(p1_0:Aa)(o49:Cw)(nx99:Cw→A):A:=
 (cn (o49.1 != 0)
 (lf (o49.1,o49.2.1,o49.2.2))
 (gq (0≤5)
 (gq (5 < ((12:Nat):Int))
 (nx99 o49))))
def Afe [An A Cw](p1_0:Aa)(o49:Cw):A:=Afp L p1_0 o49 (fun o49=>bd (Ks L p1_0.Streams p1_0 o49.2.1 o49.2.2) fun o50=>Aff L p1_0 o50)
def Bpw(p1_0:Aa)(o42:Cw):Bx:=(Cm Tryz.prog (D4 L) (EI (D4 L) (L+24) 6) 1 (List.drop 4 c84.u.l.ops) ⟨[(6,.clo 64 1 [.mp 5]),(5,.mp 5),(4,lv (.t9 p1_0.Queues)),(0,lv (.t9 p1_0.Queues)),(1,.loc 3 0),(3,I 0)],[(1,(Ae p1_0)),(3,[.mp 5]),(4,[.clo 84 0 [.loc 3 0]]),(5,[.mapO false false (.t9 o42.2.1) (.t4 o42.2.2)])],6⟩ (some 7) (fun st9=>(Bk (EV (D4 L) (L+24) 6 c84.u.r) (E8 Tryz.prog (RS Tryz.f84) (Cm Tryz.prog (D4 L) (EI (D4 L) (L+24) 7) 1 (List.drop 4 Cjp.u.l.ops) ⟨[(5,lv (.t9 p1_0.Queues)),(4,.loc 1 5),(3,.clo 84 0 [.loc 3 0]),(0,.loc 4 0),(1,.loc 1 0),(2,I 0)],[(1,(Ae p1_0)),(3,[.mp 5]),(4,[.clo 84 0 [.loc 3 0]]),(5,[.mapO false false (.t9 o42.2.1) (.t4 o42.2.2)])],6⟩ (some 6) (fun st9=>(Bk (EV (D4 L) (L+24) 7 Cjp.u.r) (E8 Tryz.prog (RS Tryz.f100) (Cm Tryz.prog (D4 L) (EI (D4 L) (L+24) 8) 1 (List.drop 2 c86.u.l.u.l.l.w.l.l.u.l.ops) ⟨[(12,.clo 100 0 [.loc 4 0,.loc 1 0]),(2,I 0),(4,.clo 100 0 [.loc 4 0,.loc 1 0]),(6,.sl false 139 1 [[.clo 87 0 [.loc 3 0,.loc 1 0]],[.clo 88 0 [.loc 1 0,.loc 3 0]],[.clo 94 0 [.loc 1 0,.loc 3 0]],[.clo 97 0 [.loc 1 0,.loc 3 0]],[.clo 100 0 [.loc 4 0,.loc 1 0]],[.clo 101 0 [.loc 4 0,.loc 1 0]],[.clo 102 0 [.loc 4 0,.loc 1 0]],[.clo 103 0 [.loc 4 0,.loc 1 0]],[.clo 104 0 [.loc 4 0,.loc 1 0]],[.clo 105 0 [.loc 1 0,.loc 3 0]],[.clo 109 0 [.loc 1 0]],[.clo 113 0 [.loc 1 0]]]),(7,I 12),(8,I 4),(9,B true),(10,.ref [.clo 100 0 [.loc 4 0,.loc 1 0]]),(11,.clo 100 0 [.loc 4 0,.loc 1 0])],[(1,(Ae p1_0)),(3,[.mp 5]),(4,[.clo 84 0 [.loc 3 0]]),(5,[.mapO false false (.t9 o42.2.1) (.t4 o42.2.2)])],6⟩ (some 13) (fun st9=>(Bk (EV (D4 L) (L+24) 8 c86.u.l.u.l.l.w.l.l.u.r) (Ax 1 (Bk (EV (D4 L) (L+24) 8 c86.u.l.u.l.l.w.r) (Ir (Lh (EV (D4 L) (L+24) 8 c86.u.l.u.l.l) [0,2,6,7,8] [1,3,4,5] (L+19)) [0,2,6,7,8] [1,3,4,5] (Aj5 L k))))) .normal st9)))) .normal st9)))) .normal st9))
theorem Cf6(p1_0:Aa)(o42:Cw)(o49:Cw):Aox p1_0.Queues p1_0 o42.2.1 o42.2.2 (Bpw L k p1_0 o42) o49=ob (Afe L p1_0 o49) (Ad6 p1_0 k):=eE (Afp L p1_0 o49 (fun o49=>ho (Axe L (Bpx L k p1_0 o49) p1_0.Streams p1_0 o49.2.1 o49.2.2) fun o50=>Cf7 L k p1_0 o49 o50))
def Afo [An A Cw](L:Nat)(p1_0:Aa)(o42:Cw)(nx98:Cw→A):A:=
 (cn (o42.1 != 0)
 (lf (o42.1,o42.2.1,o42.2.2))
 (gq (0≤4)
 (gq (4 < ((12:Nat):Int))
 (nx98 o42))))
def Afc [An A Cw](p1_0:Aa)(o42:Cw):A:=Afo L p1_0 o42 (fun o42=>bd (Ks L p1_0.Queues p1_0 o42.2.1 o42.2.2) fun o49=>Afe L p1_0 o49)
def Bpt(p1_0:Aa)(o31:Cw):Bx:=(Cm Tryz.prog (D4 L) (EI (D4 L) (L+24) 7) 1 (List.drop 4 c97.u.l.ops) ⟨[(5,.clo 99 0 [.loc 3 0]),(4,lv (.t155 p1_0.Belts)),(3,.loc 1 4),(0,.loc 1 0),(1,.loc 3 0),(2,I 0)],[(1,(Ae p1_0)),(3,[.mp 5]),(4,[.clo 84 0 [.loc 3 0]]),(5,[.mapO false false (.t9 o31.2.1) (.t4 o31.2.2)])],6⟩ (some 6) (fun st9=>(Bk (EV (D4 L) (L+24) 7 c97.u.r) (E8 Tryz.prog (RS Tryz.f97) (Cm Tryz.prog (D4 L) (EI (D4 L) (L+24) 8) 1 (List.drop 2 c86.u.l.u.l.l.w.l.l.u.l.ops) ⟨[(12,.clo 97 0 [.loc 1 0,.loc 3 0]),(2,I 0),(4,.clo 97 0 [.loc 1 0,.loc 3 0]),(6,.sl false 139 1 [[.clo 87 0 [.loc 3 0,.loc 1 0]],[.clo 88 0 [.loc 1 0,.loc 3 0]],[.clo 94 0 [.loc 1 0,.loc 3 0]],[.clo 97 0 [.loc 1 0,.loc 3 0]],[.clo 100 0 [.loc 4 0,.loc 1 0]],[.clo 101 0 [.loc 4 0,.loc 1 0]],[.clo 102 0 [.loc 4 0,.loc 1 0]],[.clo 103 0 [.loc 4 0,.loc 1 0]],[.clo 104 0 [.loc 4 0,.loc 1 0]],[.clo 105 0 [.loc 1 0,.loc 3 0]],[.clo 109 0 [.loc 1 0]],[.clo 113 0 [.loc 1 0]]]),(7,I 12),(8,I 3),(9,B true),(10,.ref [.clo 97 0 [.loc 1 0,.loc 3 0]]),(11,.clo 97 0 [.loc 1 0,.loc 3 0])],[(1,(Ae p1_0)),(3,[.mp 5]),(4,[.clo 84 0 [.loc 3 0]]),(5,[.mapO false false (.t9 o31.2.1) (.t4 o31.2.2)])],6⟩ (some 13) (fun st9=>(Bk (EV (D4 L) (L+24) 8 c86.u.l.u.l.l.w.l.l.u.r) (Ax 1 (Bk (EV (D4 L) (L+24) 8 c86.u.l.u.l.l.w.r) (Ir (Lh (EV (D4 L) (L+24) 8 c86.u.l.u.l.l) [0,2,6,7,8] [1,3,4,5] (L+20)) [0,2,6,7,8] [1,3,4,5] (Aj5 L k))))) .normal st9)))) .normal st9))
theorem Cf3(p1_0:Aa)(o31:Cw)(o42:Cw):Bch p1_0.Belts p1_0 o31.2.1 o31.2.2 (Bpt L k p1_0 o31) o42=ob (Afc L p1_0 o42) (Ad6 p1_0 k):=eE (Afo L p1_0 o42 (fun o42=>ho (Axe L (Bpw L k p1_0 o42) p1_0.Queues p1_0 o42.2.1 o42.2.2) fun o49=>Cf6 L k p1_0 o42 o49))
def Afn [An A Cw](L:Nat)(p1_0:Aa)(o31:Cw)(nx93:Cw→A):A:=
 (cn (o31.1 != 0)
 (lf (o31.1,o31.2.1,o31.2.2))
 (gq (0≤3)
 (gq (3 < ((12:Nat):Int))
 (nx93 o31))))
def Afa [An A Cw](p1_0:Aa)(o31:Cw):A:=Afn L p1_0 o31 (fun o31=>bd (Aes L p1_0.Belts p1_0 o31.2.1 o31.2.2) fun o42=>Afc L p1_0 o42)
def Bpp(p1_0:Aa)(o21:Cw):Bx:=(Cm Tryz.prog (D4 L) (EI (D4 L) (L+24) 7) 1 (List.drop 4 c94.u.l.ops) ⟨[(5,.clo 96 0 [.loc 3 0]),(4,lv (.t151 p1_0.Stores)),(3,.loc 1 3),(0,.loc 1 0),(1,.loc 3 0),(2,I 0)],[(1,(Ae p1_0)),(3,[.mp 5]),(4,[.clo 84 0 [.loc 3 0]]),(5,[.mapO false false (.t9 o21.2.1) (.t4 o21.2.2)])],6⟩ (some 6) (fun st9=>(Bk (EV (D4 L) (L+24) 7 c94.u.r) (E8 Tryz.prog (RS Tryz.f94) (Cm Tryz.prog (D4 L) (EI (D4 L) (L+24) 8) 1 (List.drop 2 c86.u.l.u.l.l.w.l.l.u.l.ops) ⟨[(12,.clo 94 0 [.loc 1 0,.loc 3 0]),(2,I 0),(4,.clo 94 0 [.loc 1 0,.loc 3 0]),(6,.sl false 139 1 [[.clo 87 0 [.loc 3 0,.loc 1 0]],[.clo 88 0 [.loc 1 0,.loc 3 0]],[.clo 94 0 [.loc 1 0,.loc 3 0]],[.clo 97 0 [.loc 1 0,.loc 3 0]],[.clo 100 0 [.loc 4 0,.loc 1 0]],[.clo 101 0 [.loc 4 0,.loc 1 0]],[.clo 102 0 [.loc 4 0,.loc 1 0]],[.clo 103 0 [.loc 4 0,.loc 1 0]],[.clo 104 0 [.loc 4 0,.loc 1 0]],[.clo 105 0 [.loc 1 0,.loc 3 0]],[.clo 109 0 [.loc 1 0]],[.clo 113 0 [.loc 1 0]]]),(7,I 12),(8,I 2),(9,B true),(10,.ref [.clo 94 0 [.loc 1 0,.loc 3 0]]),(11,.clo 94 0 [.loc 1 0,.loc 3 0])],[(1,(Ae p1_0)),(3,[.mp 5]),(4,[.clo 84 0 [.loc 3 0]]),(5,[.mapO false false (.t9 o21.2.1) (.t4 o21.2.2)])],6⟩ (some 13) (fun st9=>(Bk (EV (D4 L) (L+24) 8 c86.u.l.u.l.l.w.l.l.u.r) (Ax 1 (Bk (EV (D4 L) (L+24) 8 c86.u.l.u.l.l.w.r) (Ir (Lh (EV (D4 L) (L+24) 8 c86.u.l.u.l.l) [0,2,6,7,8] [1,3,4,5] (L+21)) [0,2,6,7,8] [1,3,4,5] (Aj5 L k))))) .normal st9)))) .normal st9))
theorem Cfz(p1_0:Aa)(o21:Cw)(o31:Cw):Bcf p1_0.Stores p1_0 o21.2.1 o21.2.2 (Bpp L k p1_0 o21) o31=ob (Afa L p1_0 o31) (Ad6 p1_0 k):=eE (Afn L p1_0 o31 (fun o31=>ho (B3j L (Bpt L k p1_0 o31) p1_0.Belts p1_0 o31.2.1 o31.2.2) fun o42=>Cf3 L k p1_0 o31 o42))
def Afm [An A Cw](L:Nat)(p1_0:Aa)(o21:Cw)(nx84:Cw→A):A:=
 (cn (o21.1 != 0)
 (lf (o21.1,o21.2.1,o21.2.2))
 (gq (0≤2)
 (gq (2 < ((12:Nat):Int))
 (nx84 o21))))
def Ae8 [An A Cw](p1_0:Aa)(o21:Cw):A:=Afm L p1_0 o21 (fun o21=>bd (Aeq L p1_0.Stores p1_0 o21.2.1 o21.2.2) fun o31=>Afa L p1_0 o31)
def Bpl(p1_0:Aa)(o10:Cw):Bx:=(Cm Tryz.prog (D4 L) (EI (D4 L) (L+24) 7) 1 (List.drop 4 c88.u.l.ops) ⟨[(5,.clo 90 0 [.loc 3 0,.loc 1 0]),(4,lv (.t145 p1_0.Resources)),(3,.loc 1 2),(0,.loc 1 0),(1,.loc 3 0),(2,I 0)],[(1,(Ae p1_0)),(3,[.mp 5]),(4,[.clo 84 0 [.loc 3 0]]),(5,[.mapO false false (.t9 o10.2.1) (.t4 o10.2.2)])],6⟩ (some 6) (fun st9=>(Bk (EV (D4 L) (L+24) 7 c88.u.r) (E8 Tryz.prog (RS Tryz.f88) (Cm Tryz.prog (D4 L) (EI (D4 L) (L+24) 8) 1 (List.drop 2 c86.u.l.u.l.l.w.l.l.u.l.ops) ⟨[(12,.clo 88 0 [.loc 1 0,.loc 3 0]),(2,I 0),(4,.clo 88 0 [.loc 1 0,.loc 3 0]),(6,.sl false 139 1 [[.clo 87 0 [.loc 3 0,.loc 1 0]],[.clo 88 0 [.loc 1 0,.loc 3 0]],[.clo 94 0 [.loc 1 0,.loc 3 0]],[.clo 97 0 [.loc 1 0,.loc 3 0]],[.clo 100 0 [.loc 4 0,.loc 1 0]],[.clo 101 0 [.loc 4 0,.loc 1 0]],[.clo 102 0 [.loc 4 0,.loc 1 0]],[.clo 103 0 [.loc 4 0,.loc 1 0]],[.clo 104 0 [.loc 4 0,.loc 1 0]],[.clo 105 0 [.loc 1 0,.loc 3 0]],[.clo 109 0 [.loc 1 0]],[.clo 113 0 [.loc 1 0]]]),(7,I 12),(8,I 1),(9,B true),(10,.ref [.clo 88 0 [.loc 1 0,.loc 3 0]]),(11,.clo 88 0 [.loc 1 0,.loc 3 0])],[(1,(Ae p1_0)),(3,[.mp 5]),(4,[.clo 84 0 [.loc 3 0]]),(5,[.mapO false false (.t9 o10.2.1) (.t4 o10.2.2)])],6⟩ (some 13) (fun st9=>(Bk (EV (D4 L) (L+24) 8 c86.u.l.u.l.l.w.l.l.u.r) (Ax 1 (Bk (EV (D4 L) (L+24) 8 c86.u.l.u.l.l.w.r) (Ir (Lh (EV (D4 L) (L+24) 8 c86.u.l.u.l.l) [0,2,6,7,8] [1,3,4,5] (L+22)) [0,2,6,7,8] [1,3,4,5] (Aj5 L k))))) .normal st9)))) .normal st9))
theorem Cfv(p1_0:Aa)(o10:Cw)(o21:Cw):Bcd p1_0.Resources p1_0 o10.2.1 o10.2.2 (Bpl L k p1_0 o10) o21=ob (Ae8 L p1_0 o21) (Ad6 p1_0 k):=eE (Afm L p1_0 o21 (fun o21=>ho (B3g L (Bpp L k p1_0 o21) p1_0.Stores p1_0 o21.2.1 o21.2.2) fun o31=>Cfz L k p1_0 o21 o31))
def Afl [An A Cw](L:Nat)(p1_0:Aa)(o10:Cw)(nx75:Cw→A):A:=
 (cn (o10.1 != 0)
 (lf (o10.1,o10.2.1,o10.2.2))
 (gq (0≤1)
 (gq (1 < ((12:Nat):Int))
 (nx75 o10))))
def Ae6 [An A Cw](p1_0:Aa)(o10:Cw):A:=Afl L p1_0 o10 (fun o10=>bd (Aeo L p1_0.Resources p1_0 o10.2.1 o10.2.2) fun o21=>Ae8 L p1_0 o21)
def Bph(p1_0:Aa):Bx:=(Cm Tryz.prog (D4 L) (EI (D4 L) (L+24) 6) 1 (List.drop 4 c61.u.l.ops) ⟨[(7,.clo 83 1 [.mp 5]),(6,.mp 5),(5,lv (.t77 p1_0.Vars)),(0,.mp 5),(1,lv (.t77 p1_0.Vars)),(4,I 0)],[(1,(Ae p1_0)),(3,[.mp 5]),(4,[.clo 84 0 [.loc 3 0]]),(5,[.mapO false false (.t9 []) (.t4 [])])],6⟩ (some 8) (fun st9=>(Bk (EV (D4 L) (L+24) 6 c61.u.r) (E8 Tryz.prog (RS Tryz.f61) (Cm Tryz.prog (D4 L) (EI (D4 L) (L+24) 7) 1 (List.drop 4 c87.u.l.ops) ⟨[(5,lv (.t77 p1_0.Vars)),(4,.loc 1 1),(3,.mp 5),(0,.loc 3 0),(1,.loc 1 0),(2,I 0)],[(1,(Ae p1_0)),(3,[.mp 5]),(4,[.clo 84 0 [.loc 3 0]]),(5,[.mapO false false (.t9 []) (.t4 [])])],6⟩ (some 6) (fun st9=>(Bk (EV (D4 L) (L+24) 7 c87.u.r) (E8 Tryz.prog (RS Tryz.f87) (Cm Tryz.prog (D4 L) (EI (D4 L) (L+24) 8) 1 (List.drop 2 c86.u.l.u.l.l.w.l.l.u.l.ops) ⟨[(12,.clo 87 0 [.loc 3 0,.loc 1 0]),(2,I 0),(4,.clo 87 0 [.loc 3 0,.loc 1 0]),(6,.sl false 139 1 [[.clo 87 0 [.loc 3 0,.loc 1 0]],[.clo 88 0 [.loc 1 0,.loc 3 0]],[.clo 94 0 [.loc 1 0,.loc 3 0]],[.clo 97 0 [.loc 1 0,.loc 3 0]],[.clo 100 0 [.loc 4 0,.loc 1 0]],[.clo 101 0 [.loc 4 0,.loc 1 0]],[.clo 102 0 [.loc 4 0,.loc 1 0]],[.clo 103 0 [.loc 4 0,.loc 1 0]],[.clo 104 0 [.loc 4 0,.loc 1 0]],[.clo 105 0 [.loc 1 0,.loc 3 0]],[.clo 109 0 [.loc 1 0]],[.clo 113 0 [.loc 1 0]]]),(7,I 12),(8,I 0),(9,B true),(10,.ref [.clo 87 0 [.loc 3 0,.loc 1 0]]),(11,.clo 87 0 [.loc 3 0,.loc 1 0])],[(1,(Ae p1_0)),(3,[.mp 5]),(4,[.clo 84 0 [.loc 3 0]]),(5,[.mapO false false (.t9 []) (.t4 [])])],6⟩ (some 13) (fun st9=>(Bk (EV (D4 L) (L+24) 8 c86.u.l.u.l.l.w.l.l.u.r) (Ax 1 (Bk (EV (D4 L) (L+24) 8 c86.u.l.u.l.l.w.r) (Ir (Lh (EV (D4 L) (L+24) 8 c86.u.l.u.l.l) [0,2,6,7,8] [1,3,4,5] (L+23)) [0,2,6,7,8] [1,3,4,5] (Aj5 L k))))) .normal st9)))) .normal st9)))) .normal st9))
theorem Cfr(p1_0:Aa)(o10:Cw):Bcb p1_0.Vars p1_0 (Bph L k p1_0) o10=ob (Ae6 L p1_0 o10) (Ad6 p1_0 k):=eE (Afl L p1_0 o10 (fun o10=>ho (B3d L (Bpl L k p1_0 o10) p1_0.Resources p1_0 o10.2.1 o10.2.2) fun o21=>Cfv L k p1_0 o10 o21))
def Afk [An A Cw](L:Nat)(p1_0:Aa)(nx66:A):A:=
 (gq (0≤0)
 (gq (0 < ((12:Nat):Int))
 nx66))
def Aqi [An A Cw](p1_0:Aa):A:=Afk L p1_0 (bd (Aem L p1_0.Vars p1_0) fun o10=>Ae6 L p1_0 o10)
def u4(p1_0:Aa):Option Cw:=Aqi L p1_0
theorem Cbn(p1_0:Aa):YO (D4 L) (L+24) 9 86 [.sl false 139 1 [[.clo 87 0 [.loc 3 0,.loc 1 0]],[.clo 88 0 [.loc 1 0,.loc 3 0]],[.clo 94 0 [.loc 1 0,.loc 3 0]],[.clo 97 0 [.loc 1 0,.loc 3 0]],[.clo 100 0 [.loc 4 0,.loc 1 0]],[.clo 101 0 [.loc 4 0,.loc 1 0]],[.clo 102 0 [.loc 4 0,.loc 1 0]],[.clo 103 0 [.loc 4 0,.loc 1 0]],[.clo 104 0 [.loc 4 0,.loc 1 0]],[.clo 105 0 [.loc 1 0,.loc 3 0]],[.clo 109 0 [.loc 1 0]],[.clo 113 0 [.loc 1 0]]]] [(1,(Ae p1_0)),(3,[.mp 5]),(4,[.clo 84 0 [.loc 3 0]]),(5,[.mapO false false (.t9 []) (.t4 [])])] k=ob (u4 L p1_0) (Ad6 p1_0 k):=(Dg _ _ _ jn4 _ _ _ _ _ _ _).trans (eE (Afk L p1_0 (ho (B3a L (Bph L k p1_0) p1_0.Vars p1_0) fun o10=>Cfr L k p1_0 o10)))
def R7 [An A Int](L:Nat)(o67:Cw):A:=
 (lf o67.1)
def Bg8(a0:Aa):Bx:=(Cm Tryz.prog (D4 L) (EI (D4 L) (L+24) 9) 1 (List.drop 14 c65.w.u.l.ops) ⟨[(19,.sl true 139 1 [[.clo 87 0 [.loc 3 0,.loc 1 0]],[.clo 88 0 [.loc 1 0,.loc 3 0]],[.clo 94 0 [.loc 1 0,.loc 3 0]],[.clo 97 0 [.loc 1 0,.loc 3 0]],[.clo 100 0 [.loc 4 0,.loc 1 0]],[.clo 101 0 [.loc 4 0,.loc 1 0]],[.clo 102 0 [.loc 4 0,.loc 1 0]],[.clo 103 0 [.loc 4 0,.loc 1 0]],[.clo 104 0 [.loc 4 0,.loc 1 0]],[.clo 105 0 [.loc 1 0,.loc 3 0]],[.clo 109 0 [.loc 1 0]],[.clo 113 0 [.loc 1 0]]]),(18,.clo 113 0 [.loc 1 0]),(17,.clo 109 0 [.loc 1 0]),(16,.clo 105 0 [.loc 1 0,.loc 3 0]),(15,.clo 104 0 [.loc 4 0,.loc 1 0]),(14,.clo 103 0 [.loc 4 0,.loc 1 0]),(13,.clo 102 0 [.loc 4 0,.loc 1 0]),(12,.clo 101 0 [.loc 4 0,.loc 1 0]),(11,.clo 100 0 [.loc 4 0,.loc 1 0]),(10,.clo 97 0 [.loc 1 0,.loc 3 0]),(9,.clo 94 0 [.loc 1 0,.loc 3 0]),(8,.clo 88 0 [.loc 1 0,.loc 3 0]),(7,.clo 87 0 [.loc 3 0,.loc 1 0]),(1,.loc 1 0),(2,I 0),(3,.loc 3 0),(4,.loc 4 0)],[(1,(Ae a0)),(3,[.mp 5]),(4,[.clo 84 0 [.loc 3 0]]),(5,[.mapO false false (.t9 []) (.t4 [])])],0⟩ (some 20) (fun st9=>(Bk (EV (D4 L) (L+24) 9 c65.w.u.r) (C0 Tryz.prog (RS Tryz.f65) kk)) .normal st9))
theorem B6j(a0:Aa)(o67:Cw):Ad6 a0 (Bg8 L kk a0) o67=ob (R7 L o67) (kQ I kk):=eE (R7 L o67)
def Awp [An A Int](a0:Aa):A:=(bd (u4 L a0) fun o67=>R7 L o67)
def Aio(a0:Aa):Option Int:=Awp L a0
def X65:Gh:=E1 I 65 C3 (Aio L) fun a0 r h=>hF Tryz.func65 (C:=D4 L) (oS _) (L+24) (fun kk=>eE ((ho (Cbn L (Bg8 L kk a0) a0) fun o67=>B6j L kk a0 o67))) h
end
end Go.Proofs.YtfencmicmnhglaaGreat.Ev
