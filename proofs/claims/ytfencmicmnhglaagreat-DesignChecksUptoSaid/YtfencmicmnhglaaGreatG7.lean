import Derived.Test.YtfencmicmnhglaaGreatG3
import Derived.Test.YtfencmicmnhglaaGreatG6
namespace Go.Proofs.YtfencmicmnhglaaGreat.Ev
open Go An
set_option maxRecDepth 100000
set_option maxHeartbeats 4000000
set_option linter.unusedVariables false
set_option linter.unusedSimpArgs false
set_option linter.unnecessarySimpa false
noncomputable section
variable {A:Type} (L n:Nat) (kk:Dm) (K:Be) (k:Bx)
def Ckc:=CC Tryz.f147
def Cjz:=CC Tryz.f117
def Bjb(L:Nat):Bi:=oL []
def Bqq(p1_0:List Aa)(p1_1:Ad)(p1_2:ByteArray)(v:Cp):St:=⟨[(0,lv (.t55 p1_0)),(1,.clo 148 0 [.loc 3 0]),(4,I v.1),(7,I (p1_0.length:Int)),(8,I v.2)],[(2,(Aw p1_1)),(3,[S p1_2])],4⟩
def v5 [An A B8](L:Nat)(p1_0:List Aa)(p1_1:Ad)(p1_2:ByteArray)(rec:Int→Int→A)(Ag:Int)(Ai:Int):A:=
 (lw Ai p1_0
 (cn (((p1_0.getD (Int.toNat Ai) default).Name).toList == p1_2.toList)
 (lf (0,Ai,Ai))
 (rec Ag (Cq (Ai+1))))
 (lf (1,Ag,Ai)))
def Ms(L:Nat)(p1_0:List Aa)(p1_1:Ad)(p1_2:ByteArray):Nat→Int→Int→Option B8
 |0,_,_=>none
 |n+1,Ag,Ai=>v5 L p1_0 p1_1 p1_2 (Ms L p1_0 p1_1 p1_2 n) Ag Ai
theorem B36(p1_0:List Aa)(p1_1:Ad)(p1_2:ByteArray):LP (EV (Bjb L) L 8 Ckc.u.l.u.l.l) [0,1,4,7,8] [2,3] (Bqq p1_0 p1_1 p1_2) [.ret,.exit 0] (fun n v=>Ms L p1_0 p1_1 p1_2 n v.1 v.2) K:=lE (fun _=>rfl) fun n v ih=>eE (v5 L p1_0 p1_1 p1_2 (fun Ag Ai=>re (ih (Ag,Ai))) v.1 v.2)
def Bb2(p1_0:List Aa)(p1_1:Ad)(p1_2:ByteArray)(k:Bx):Int→Prop:=fun o=>k (I o) [(2,(Aw p1_1)),(3,[S p1_2])]
def w8 [An A Int](L:Nat)(o1:Nat×Cp):A:=
 (sl o1.1 [(lf o1.2.1),
 (lf (-1))])
def Bm4:Be:=(Ax 0 (Bk (EV (Bjb L) L 8 Ckc.u.r) (E8 Tryz.prog (RS Tryz.f147) k)))
theorem Cdf(p1_0:List Aa)(p1_1:Ad)(p1_2:ByteArray)(o1:Nat×Cp):kX [.ret,.exit 0] (Bqq p1_0 p1_1 p1_2) (Bm4 L k) o1=ob (w8 L o1) (Bb2 p1_0 p1_1 p1_2 k):=eE (w8 L o1)
def Aqg [An A Int](p1_0:List Aa)(p1_1:Ad)(p1_2:ByteArray):A:=(bd (Ms L p1_0 p1_1 p1_2 L 0 0) fun o1=>w8 L o1)
def t8(p1_0:List Aa)(p1_1:Ad)(p1_2:ByteArray):Option Int:=Aqg L p1_0 p1_1 p1_2
theorem B20(p1_0:List Aa)(p1_1:Ad)(p1_2:ByteArray):YO (Bjb L) L 9 147 [lv (.t55 p1_0),.clo 148 0 [.loc 3 0]] [(2,(Aw p1_1)),(3,[S p1_2])] k=ob (t8 L p1_0 p1_1 p1_2) (Bb2 p1_0 p1_1 p1_2 k):=(Dg _ _ _ jn4 _ _ _ _ _ _ _).trans (eE ((ho (B36 L (Bm4 L k) p1_0 p1_1 p1_2 L (0,0)) fun o1=>Cdf L k p1_0 p1_1 p1_2 o1)))
def Vf [An A Int](L:Nat)(o2:Int):A:=
 (lf o2)
def Bm5(a0:Ad)(a1:ByteArray):Bx:=(Cm Tryz.prog (Bjb L) (EI (Bjb L) L 9) 1 (List.drop 4 Cjz.u.l.ops) ⟨[(7,.clo 148 0 [.loc 3 0]),(6,lv (.t55 a0.Sites)),(5,.loc 2 2),(2,.loc 2 0),(3,.loc 3 0),(4,I 0)],[(2,(Aw a0)),(3,[S a1])],0⟩ (some 8) (fun st9=>(Bk (EV (Bjb L) L 9 Cjz.u.r) (C0 Tryz.prog (RS Tryz.f117) kk)) .normal st9))
theorem Cdg(a0:Ad)(a1:ByteArray)(o2:Int):Bb2 a0.Sites a0 a1 (Bm5 L kk a0 a1) o2=ob (Vf L o2) (kQ I kk):=eE (Vf L o2)
def Awn [An A Int](a0:Ad)(a1:ByteArray):A:=(bd (t8 L a0.Sites a0 a1) fun o2=>Vf L o2)
def Yf(a0:Ad)(a1:ByteArray):Option Int:=Awn L a0 a1
def B9j:Gh:=E2 I 117 C6 cS (Yf L) fun a0 a1 r h=>hF Tryz.func117 (C:=Bjb L) (oS _) L (fun kk=>eE ((ho (B20 L (Bm5 L kk a0 a1) a0.Sites a0 a1) fun o2=>Cdg L kk a0 a1 o2))) h
def Bsy:=CC Tryz.f115
def c66:=CC Tryz.f66
def O66:Bi:=oL [X91 L,B9j L]
def But(p3_0:Bl)(p3_1:Ad)(p3_2:List Bt)(p3_3:List Bool)(p3_4:Bl)(k:Bx):Tu8→Prop:=fun o=>k (I o.1) [(1,(Aw p3_1)),(3,[.mp 4]),(4,[.mapO true false (.t168 o.2.1) (.t4 o.2.2)]),(13,(Jj p3_4)),(17,(Jj p3_0)),(19,[S p3_0.From,S p3_0.To])]
def Aee [An A Tu8](p3_0:Bl)(p3_1:Ad)(p3_2:List Bt)(p3_3:List Bool)(p3_4:Bl):A:=
 (bd (Yf L p3_1 p3_0.From) fun r1=>
 (jb (.cn (decide (r1 < 0))
 (.lf true)
 (.bd (Yf L p3_1 p3_0.To) fun r3=>
 (.lf (decide (r3 < 0))))) (fun b2=>
 (cn b2
 (lf (5,p3_2,p3_3))
 (cn (p3_0.From.toList == p3_0.To.toList)
 (lf (1,p3_2,p3_3))
 (bd (Bn L p3_0.Delay 1 1000000000) fun r4=>
 (cn (!r4)
 (lf (2,p3_2,p3_3))
 (fq (p3_2.findIdx? fun b=>(p3_0.From == b.a0 && (p3_0.To == b.a1))) (fun i5=>
 (cn (p3_3.getD i5 default)
 (lf (4,p3_2,p3_3))
 (fq (p3_2.findIdx? fun b=>(p3_0.From == b.a0 && (p3_0.To == b.a1))) (fun i6=>
 (lf (0,p3_2,(p3_3.set i6 true))))
 (lf (0,(p3_2++ [(⟨p3_0.From,p3_0.To⟩:Bt)]),(p3_3++ [true]))))))
 (fq (p3_2.findIdx? fun b=>(p3_0.From == b.a0 && (p3_0.To == b.a1))) (fun i7=>
 (lf (0,p3_2,(p3_3.set i7 true))))
 (lf (0,(p3_2++ [(⟨p3_0.From,p3_0.To⟩:Bt)]),(p3_3++ [true]))))))))))))
def Tj(p3_0:Bl)(p3_1:Ad)(p3_2:List Bt)(p3_3:List Bool)(p3_4:Bl):Option Tu8:=Aee L p3_0 p3_1 p3_2 p3_3 p3_4
theorem Cbp(p3_0:Bl)(p3_1:Ad)(p3_2:List Bt)(p3_3:List Bool)(p3_4:Bl):YO (O66 L) L 8 116 [.agg (Jj p3_0),.loc 1 0,.loc 3 0] [(1,(Aw p3_1)),(3,[.mp 4]),(4,[.mapO true false (.t168 p3_2) (.t4 p3_3)]),(13,(Jj p3_4))] k=ob (Tj L p3_0 p3_1 p3_2 p3_3 p3_4) (But p3_0 p3_1 p3_2 p3_3 p3_4 k):=(Dg _ _ _ jn4 _ _ _ _ _ _ _).trans (eE (Aee L p3_0 p3_1 p3_2 p3_3 p3_4))
def Bk4(p1_0:List Bl)(p1_1:Ad)(v:Bjg):St:=⟨[(0,.any),(1,.any),(2,.clo 116 0 [.loc 1 0,.loc 3 0]),(6,I v.1),(14,lv (.t167 p1_0)),(15,I (p1_0.length:Int)),(16,I v.2.1)],[(1,(Aw p1_1)),(3,[.mp 4]),(4,[.mapO true false (.t168 v.2.2.1) (.t4 v.2.2.2)])],5⟩
def T0 [An A (Nat×Bjg)](L:Nat)(Ai:Int)(Ao:Int)(rec:Int→Int→List Bt→List Bool→A)(o8:Tu8):A:=
 (cn (o8.1 != 0)
 (lf (0,o8.1,Ai,o8.2.1,o8.2.2))
 (rec Ao (Cq (Ai+1)) o8.2.1 o8.2.2))
def Zq [An A (Nat×Bjg)](L:Nat)(p1_0:List Bl)(p1_1:Ad)(rec:Int→Int→List Bt→List Bool→A)(Ao:Int)(Ai:Int)(Dz:List Bt)(D0:List Bool)(nx3:Int→(List Bt)→(List Bool)→Int→A):A:=
 (lw Ai p1_0
 (nx3 Ai Dz D0 Ao)
 (lf (1,Ao,Ai,Dz,D0)))
def Aez [An A (Nat×Bjg)](p1_0:List Bl)(p1_1:Ad)(rec:Int→Int→List Bt→List Bool→A)(Ao:Int)(Ai:Int)(Dz:List Bt)(D0:List Bool):A:=Zq L p1_0 p1_1 rec Ao Ai Dz D0 (fun Ai Dz D0 Ao=>bd (Tj L (p1_0.getD (Int.toNat Ai) default) p1_1 Dz D0 (p1_0.getD (Int.toNat Ai) default)) fun o8=>T0 L Ai Ao rec o8)
def I5(L:Nat)(p1_0:List Bl)(p1_1:Ad):Nat→Int→Int→List Bt→List Bool→Option (Nat×Bjg)
 |0,_,_,_,_=>none
 |n+1,Ao,Ai,Dz,D0=>Aez L p1_0 p1_1 (I5 L p1_0 p1_1 n) Ao Ai Dz D0
def Buo(p1_0:List Bl)(p1_1:Ad):Prop:=LI (EV (O66 L) L 8 Bsy.w.l.u.l.l) [0,1,2,6,14,15,16] [1,3,4] (Bk4 p1_0 p1_1) [.ret,.exit 0] (fun n v=>I5 L p1_0 p1_1 n v.1 v.2.1 v.2.2.1 v.2.2.2) K n
def Bw9(p1_0:List Bl)(Ai:Int)(Ao:Int)(p1_1:Ad)(Dz:List Bt)(D0:List Bool):Bx:=(Cm Tryz.prog (O66 L) (EI (O66 L) L 8) 1 (List.drop 3 Bsy.w.l.u.l.l.w.l.l.u.l.ops) ⟨[(21,.agg (Jj (p1_0.getD (Int.toNat Ai) default))),(20,.clo 116 0 [.loc 1 0,.loc 3 0]),(2,.clo 116 0 [.loc 1 0,.loc 3 0]),(6,I Ao),(8,.loc 13 0),(14,lv (.t167 p1_0)),(15,I (p1_0.length:Int)),(16,I Ai),(17,B (decide (Ai < (p1_0.length:Int)))),(18,.ref (Jj (p1_0.getD (Int.toNat Ai) default))),(19,.agg (Jj (p1_0.getD (Int.toNat Ai) default)))],[(1,(Aw p1_1)),(3,[.mp 4]),(4,[.mapO true false (.t168 Dz) (.t4 D0)]),(13,(Jj (p1_0.getD (Int.toNat Ai) default)))],5⟩ (some 22) (fun st9=>(Bk (EV (O66 L) L 8 Bsy.w.l.u.l.l.w.l.l.u.r) (Ax 1 (Bk (EV (O66 L) L 8 Bsy.w.l.u.l.l.w.r) (Ir (Lh (EV (O66 L) L 8 Bsy.w.l.u.l.l) [0,1,2,6,14,15,16] [1,3,4] n) [0,1,2,6,14,15,16] [1,3,4] K)))) .normal st9))
theorem Cn6(p1_0:List Bl)(Ai:Int)(p1_1:Ad)(Dz:List Bt)(D0:List Bool)(Ao:Int)(ih:Buo L n K p1_0 p1_1)(o8:Tu8):But (p1_0.getD (Int.toNat Ai) default) p1_1 Dz D0 (p1_0.getD (Int.toNat Ai) default) (Bw9 L n K p1_0 Ai Ao p1_1 Dz D0) o8=ob (T0 L Ai Ao (I5 L p1_0 p1_1 n) o8) (kX [.ret,.exit 0] (Bk4 p1_0 p1_1) K):=eE (T0 L Ai Ao (fun Ao Ai Dz D0=>re (ih (Ao,Ai,Dz,D0))) o8)
theorem Ccr(p1_0:List Bl)(p1_1:Ad):∀n,Buo L n K p1_0 p1_1:=lE (fun _=>rfl) fun n v ih=>eE (Zq L p1_0 p1_1 (fun Ao Ai Dz D0=>re (ih (Ao,Ai,Dz,D0))) v.1 v.2.1 v.2.2.1 v.2.2.2 (fun Ai Dz D0 Ao=>ho (Cbp L (Bw9 L n K p1_0 Ai Ao p1_1 Dz D0) (p1_0.getD (Int.toNat Ai) default) p1_1 Dz D0 (p1_0.getD (Int.toNat Ai) default)) fun o8=>Cn6 L n K p1_0 Ai p1_1 Dz D0 Ao ih o8))
def Bja(p1_0:List Bl)(p1_1:Ad)(k:Bx):Tu8→Prop:=fun o=>k (I o.1) [(1,(Aw p1_1)),(3,[.mp 4]),(4,[.mapO true false (.t168 o.2.1) (.t4 o.2.2)])]
def Y9 [An A Tu8](L:Nat)(o9:Nat×Bjg):A:=
 (sl o9.1 [(lf (o9.2.1,o9.2.2.2.1,o9.2.2.2.2)),
 (lf (0,o9.2.2.2.1,o9.2.2.2.2))])
def Bxa:Be:=(Ax 0 (Bk (EV (O66 L) L 8 Bsy.w.r) (E8 Tryz.prog (RS Tryz.f115) k)))
theorem Cn7(p1_0:List Bl)(p1_1:Ad)(o9:Nat×Bjg):kX [.ret,.exit 0] (Bk4 p1_0 p1_1) (Bxa L k) o9=ob (Y9 L o9) (Bja p1_0 p1_1 k):=eE (Y9 L o9)
def Afj [An A Tu8](L:Nat)(p1_0:List Bl)(p1_1:Ad)(nx4:A):A:=
 (cn (decide ((p1_0.length:Int) > 32))
 (lf (6,[],[]))
 nx4)
def Anl [An A Tu8](p1_0:List Bl)(p1_1:Ad):A:=Afj L p1_0 p1_1 (bd (I5 L p1_0 p1_1 L 0 0 [] []) fun o9=>Y9 L o9)
def Ael(p1_0:List Bl)(p1_1:Ad):Option Tu8:=Anl L p1_0 p1_1
theorem Cbo(p1_0:List Bl)(p1_1:Ad):YO (O66 L) L 9 115 [lv (.t167 p1_0),I 32,.clo 116 0 [.loc 1 0,.loc 3 0]] [(1,(Aw p1_1)),(3,[.mp 4]),(4,[.mapO true false (.t168 []) (.t4 [])])] k=ob (Ael L p1_0 p1_1) (Bja p1_0 p1_1 k):=(Dg _ _ _ jn4 _ _ _ _ _ _ _).trans (eE (Afj L p1_0 p1_1 (ho (Ccr L (Bxa L k) p1_0 p1_1 L (0,0,[],[])) fun o9=>Cn7 L k p1_0 p1_1 o9)))
def T1 [An A Int](L:Nat)(o10:Tu8):A:=
 (lf o10.1)
def Bxb(a0:Ad):Bx:=(Cm Tryz.prog (O66 L) (EI (O66 L) L 9) 1 (List.drop 4 c66.w.l.ops) ⟨[(7,.clo 116 0 [.loc 1 0,.loc 3 0]),(6,lv (.t167 a0.Links)),(5,.loc 1 3),(1,.loc 1 0),(2,I 0),(3,.loc 3 0)],[(1,(Aw a0)),(3,[.mp 4]),(4,[.mapO true false (.t168 []) (.t4 [])])],0⟩ (some 8) (fun st9=>(Bk (EV (O66 L) L 9 c66.w.r) (C0 Tryz.prog (RS Tryz.f66) kk)) .normal st9))
theorem Cn8(a0:Ad)(o10:Tu8):Bja a0.Links a0 (Bxb L kk a0) o10=ob (T1 L o10) (kQ I kk):=eE (T1 L o10)
def At8 [An A Int](a0:Ad):A:=(bd (Ael L a0.Links a0) fun o10=>T1 L o10)
def Afu(a0:Ad):Option Int:=At8 L a0
def X66:Gh:=E1 I 66 C6 (Afu L) fun a0 r h=>hF Tryz.func66 (C:=O66 L) (oS _) L (fun kk=>eE ((ho (Cbo L (Bxb L kk a0) a0.Links a0) fun o10=>Cn8 L kk a0 o10))) h
def c62:=CC Tryz.f62
def c63:=CC Tryz.f63
def c43:=CC Tryz.f43
def O43:Bi:=oL [X60 L,X65 L,X66 L,Bz9 L,B0a L]
def Bus(p7_0:ByteArray)(p7_1:Ad)(p7_2:List ByteArray)(p7_3:List Bool)(p7_4:Al)(p7_5:Al)(k:Bx):Cw→Prop:=fun o=>k (I o.1) [(1,(Aw p7_1)),(13,[.mapO false false (.t9 o.2.1) (.t4 o.2.2)]),(22,(B3 p7_4)),(26,(B3 p7_5))]
def Anj [An A Cw](p7_0:ByteArray)(p7_1:Ad)(p7_2:List ByteArray)(p7_3:List Bool)(p7_4:Al)(p7_5:Al):A:=
 (bd (Dp L p7_0) fun r2=>
 (cn (r2 != 0)
 (lf (r2,p7_2,p7_3))
 (fq (p7_2.findIdx? fun b=>p7_0 == b) (fun i3=>
 (cn (p7_3.getD i3 default)
 (lf (4,p7_2,p7_3))
 (fq (p7_2.findIdx? fun b=>p7_0 == b) (fun i4=>
 (lf (0,p7_2,(p7_3.set i4 true))))
 (lf (0,(p7_2++ [p7_0]),(p7_3++ [true]))))))
 (fq (p7_2.findIdx? fun b=>p7_0 == b) (fun i5=>
 (lf (0,p7_2,(p7_3.set i5 true))))
 (lf (0,(p7_2++ [p7_0]),(p7_3++ [true])))))))
def Aeh(p7_0:ByteArray)(p7_1:Ad)(p7_2:List ByteArray)(p7_3:List Bool)(p7_4:Al)(p7_5:Al):Option Cw:=Anj L p7_0 p7_1 p7_2 p7_3 p7_4 p7_5
theorem Cbl(p7_0:ByteArray)(p7_1:Ad)(p7_2:List ByteArray)(p7_3:List Bool)(p7_4:Al)(p7_5:Al):YO (O43 L) L 6 64 [.mp 13,S p7_0] [(1,(Aw p7_1)),(13,[.mapO false false (.t9 p7_2) (.t4 p7_3)]),(22,(B3 p7_4)),(26,(B3 p7_5))] k=ob (Aeh L p7_0 p7_1 p7_2 p7_3 p7_4 p7_5) (Bus p7_0 p7_1 p7_2 p7_3 p7_4 p7_5 k):=(Dg _ _ _ jn4 _ _ _ _ _ _ _).trans (eE (Anj L p7_0 p7_1 p7_2 p7_3 p7_4 p7_5))
def Bi8(p5_0:Al)(p5_1:Ad)(p5_2:List ByteArray)(p5_3:List Bool)(p5_4:Al)(k:Bx):Cw→Prop:=fun o=>k (I o.1) [(1,(Aw p5_1)),(13,[.mapO false false (.t9 o.2.1) (.t4 o.2.2)]),(22,(B3 p5_4)),(26,(B3 p5_0))]
def Y6 [An A Cw](p5_0:Al)(o6:Cw):A:=
 (cn (o6.1 != 0)
 (lf (o6.1,o6.2.1,o6.2.2))
 (bd (Li L p5_0.Type_) fun r7=>
 (cn (!r7)
 (lf (1,o6.2.1,o6.2.2))
 (bd (Un L p5_0.Type_ p5_0.N) fun r8=>
 (cn (!r8)
 (lf (2,o6.2.1,o6.2.2))
 (lf (0,o6.2.1,o6.2.2)))))))
def Bw1(p5_0:Al)(p5_1:Ad)(p5_2:List ByteArray)(p5_3:List Bool)(p5_4:Al):Bx:=(Cm Tryz.prog (O43 L) (EI (O43 L) L 6) 1 (List.drop 4 c83.u.l.l.ops) ⟨[(8,S p5_0.Name),(7,.loc 26 0),(6,.mp 13),(0,.mp 13),(3,.loc 26 0),(4,I 0)],[(1,(Aw p5_1)),(13,[.mapO false false (.t9 p5_2) (.t4 p5_3)]),(22,(B3 p5_4)),(26,(B3 p5_0))],23⟩ (some 9) (fun st9=>(Bk (EV (O43 L) L 6 c83.u.l.r) (Bk (EV (O43 L) L 6 c83.u.r) (E8 Tryz.prog (RS Tryz.f83) k))) .normal st9))
theorem Cny(p5_0:Al)(p5_1:Ad)(p5_2:List ByteArray)(p5_3:List Bool)(p5_4:Al)(o6:Cw):Bus p5_0.Name p5_1 p5_2 p5_3 p5_4 p5_0 (Bw1 L k p5_0 p5_1 p5_2 p5_3 p5_4) o6=ob (Y6 L p5_0 o6) (Bi8 p5_0 p5_1 p5_2 p5_3 p5_4 k):=eE (Y6 L p5_0 o6)
def Ani [An A Cw](p5_0:Al)(p5_1:Ad)(p5_2:List ByteArray)(p5_3:List Bool)(p5_4:Al):A:=(bd (Aeh L p5_0.Name p5_1 p5_2 p5_3 p5_4 p5_0) fun o6=>Y6 L p5_0 o6)
def Oh(p5_0:Al)(p5_1:Ad)(p5_2:List ByteArray)(p5_3:List Bool)(p5_4:Al):Option Cw:=Ani L p5_0 p5_1 p5_2 p5_3 p5_4
theorem Cbk(p5_0:Al)(p5_1:Ad)(p5_2:List ByteArray)(p5_3:List Bool)(p5_4:Al):YO (O43 L) L 7 83 [.mp 13,.agg (B3 p5_0)] [(1,(Aw p5_1)),(13,[.mapO false false (.t9 p5_2) (.t4 p5_3)]),(22,(B3 p5_4))] k=ob (Oh L p5_0 p5_1 p5_2 p5_3 p5_4) (Bi8 p5_0 p5_1 p5_2 p5_3 p5_4 k):=(Dg _ _ _ jn4 _ _ _ _ _ _ _).trans (eE ((ho (Cbl L (Bw1 L k p5_0 p5_1 p5_2 p5_3 p5_4) p5_0.Name p5_1 p5_2 p5_3 p5_4 p5_0) fun o6=>Cny L k p5_0 p5_1 p5_2 p5_3 p5_4 o6)))
def Bkw(p1_0:List Al)(p1_1:Ad)(v:Tu5):St:=⟨[(0,.any),(1,.any),(2,.clo 83 1 [.mp 13]),(6,I v.1),(14,lv (.t77 p1_0)),(15,I (p1_0.length:Int)),(16,I v.2.1)],[(1,(Aw p1_1)),(13,[.mapO false false (.t9 v.2.2.1) (.t4 v.2.2.2)])],14⟩
def Tx [An A Ue](L:Nat)(Ai:Int)(Ao:Int)(rec:Int→Int→List ByteArray→List Bool→A)(o9:Cw):A:=
 (cn (o9.1 != 0)
 (lf (0,o9.1,Ai,o9.2.1,o9.2.2))
 (rec Ao (Cq (Ai+1)) o9.2.1 o9.2.2))
def Zn [An A Ue](L:Nat)(p1_0:List Al)(p1_1:Ad)(rec:Int→Int→List ByteArray→List Bool→A)(Ao:Int)(Ai:Int)(Dz:List ByteArray)(D0:List Bool)(nx7:Int→(List ByteArray)→(List Bool)→Int→A):A:=
 (lw Ai p1_0
 (nx7 Ai Dz D0 Ao)
 (lf (1,Ao,Ai,Dz,D0)))
def Aex [An A Ue](p1_0:List Al)(p1_1:Ad)(rec:Int→Int→List ByteArray→List Bool→A)(Ao:Int)(Ai:Int)(Dz:List ByteArray)(D0:List Bool):A:=Zn L p1_0 p1_1 rec Ao Ai Dz D0 (fun Ai Dz D0 Ao=>bd (Oh L (p1_0.getD (Int.toNat Ai) default) p1_1 Dz D0 (p1_0.getD (Int.toNat Ai) default)) fun o9=>Tx L Ai Ao rec o9)
def I3(L:Nat)(p1_0:List Al)(p1_1:Ad):Nat→Int→Int→List ByteArray→List Bool→Option Ue
 |0,_,_,_,_=>none
 |n+1,Ao,Ai,Dz,D0=>Aex L p1_0 p1_1 (I3 L p1_0 p1_1 n) Ao Ai Dz D0
def Bug(p1_0:List Al)(p1_1:Ad):Prop:=LI (EV (O43 L) L 7 c82.w.l.u.l.l) [0,1,2,6,14,15,16] [1,13] (Bkw p1_0 p1_1) [.ret,.exit 0] (fun n v=>I3 L p1_0 p1_1 n v.1 v.2.1 v.2.2.1 v.2.2.2) K n
def Bw2(p1_0:List Al)(Ai:Int)(Ao:Int)(p1_1:Ad)(Dz:List ByteArray)(D0:List Bool):Bx:=(Cm Tryz.prog (O43 L) (EI (O43 L) L 7) 1 (List.drop 3 c82.w.l.u.l.l.w.l.l.u.l.ops) ⟨[(21,.agg (B3 (p1_0.getD (Int.toNat Ai) default))),(20,.clo 83 1 [.mp 13]),(2,.clo 83 1 [.mp 13]),(6,I Ao),(8,.loc 22 0),(14,lv (.t77 p1_0)),(15,I (p1_0.length:Int)),(16,I Ai),(17,B (decide (Ai < (p1_0.length:Int)))),(18,.ref (B3 (p1_0.getD (Int.toNat Ai) default))),(19,.agg (B3 (p1_0.getD (Int.toNat Ai) default)))],[(1,(Aw p1_1)),(13,[.mapO false false (.t9 Dz) (.t4 D0)]),(22,(B3 (p1_0.getD (Int.toNat Ai) default)))],14⟩ (some 22) (fun st9=>(Bk (EV (O43 L) L 7 c82.w.l.u.l.l.w.l.l.u.r) (Ax 1 (Bk (EV (O43 L) L 7 c82.w.l.u.l.l.w.r) (Ir (Lh (EV (O43 L) L 7 c82.w.l.u.l.l) [0,1,2,6,14,15,16] [1,13] n) [0,1,2,6,14,15,16] [1,13] K)))) .normal st9))
theorem Cnz(p1_0:List Al)(Ai:Int)(p1_1:Ad)(Dz:List ByteArray)(D0:List Bool)(Ao:Int)(ih:Bug L n K p1_0 p1_1)(o9:Cw):Bi8 (p1_0.getD (Int.toNat Ai) default) p1_1 Dz D0 (p1_0.getD (Int.toNat Ai) default) (Bw2 L n K p1_0 Ai Ao p1_1 Dz D0) o9=ob (Tx L Ai Ao (I3 L p1_0 p1_1 n) o9) (kX [.ret,.exit 0] (Bkw p1_0 p1_1) K):=eE (Tx L Ai Ao (fun Ao Ai Dz D0=>re (ih (Ao,Ai,Dz,D0))) o9)
theorem Cce(p1_0:List Al)(p1_1:Ad):∀n,Bug L n K p1_0 p1_1:=lE (fun _=>rfl) fun n v ih=>eE (Zn L p1_0 p1_1 (fun Ao Ai Dz D0=>re (ih (Ao,Ai,Dz,D0))) v.1 v.2.1 v.2.2.1 v.2.2.2 (fun Ai Dz D0 Ao=>ho (Cbk L (Bw2 L n K p1_0 Ai Ao p1_1 Dz D0) (p1_0.getD (Int.toNat Ai) default) p1_1 Dz D0 (p1_0.getD (Int.toNat Ai) default)) fun o9=>Cnz L n K p1_0 Ai p1_1 Dz D0 Ao ih o9))
def Bi7(p1_0:List Al)(p1_1:Ad)(k:Bx):Cw→Prop:=fun o=>k (I o.1) [(1,(Aw p1_1)),(13,[.mapO false false (.t9 o.2.1) (.t4 o.2.2)])]
def Ae1 [An A Cw](L:Nat)(o10:Nat×Tu5):A:=
 (sl o10.1 [(lf (o10.2.1,o10.2.2.2.1,o10.2.2.2.2)),
 (lf (0,o10.2.2.2.1,o10.2.2.2.2))])
def Bw3:Be:=(Ax 0 (Bk (EV (O43 L) L 7 c82.w.r) (E8 Tryz.prog (RS Tryz.f82) k)))
theorem Cn0(p1_0:List Al)(p1_1:Ad)(o10:Nat×Tu5):kX [.ret,.exit 0] (Bkw p1_0 p1_1) (Bw3 L k) o10=ob (Ae1 L o10) (Bi7 p1_0 p1_1 k):=eE (Ae1 L o10)
def Aoc [An A Cw](L:Nat)(p1_0:List Al)(p1_1:Ad)(nx8:A):A:=
 (cn (decide ((p1_0.length:Int) > 32))
 (lf (6,[],[]))
 nx8)
def Ay3 [An A Cw](p1_0:List Al)(p1_1:Ad):A:=Aoc L p1_0 p1_1 (bd (I3 L p1_0 p1_1 L 0 0 [] []) fun o10=>Ae1 L o10)
def Aeg(p1_0:List Al)(p1_1:Ad):Option Cw:=Ay3 L p1_0 p1_1
theorem Cbj(p1_0:List Al)(p1_1:Ad):YO (O43 L) L 8 82 [lv (.t77 p1_0),I 32,.clo 83 1 [.mp 13]] [(1,(Aw p1_1)),(13,[.mapO false false (.t9 []) (.t4 [])])] k=ob (Aeg L p1_0 p1_1) (Bi7 p1_0 p1_1 k):=(Dg _ _ _ jn4 _ _ _ _ _ _ _).trans (eE (Aoc L p1_0 p1_1 (ho (Cce L (Bw3 L k) p1_0 p1_1 L (0,0,[],[])) fun o10=>Cn0 L k p1_0 p1_1 o10)))
def Blm(p14_0:ByteArray)(p14_1:Ad)(p14_2:List ByteArray)(p14_3:List Bool)(p14_4:List ByteArray)(p14_5:List Bool)(p14_6:Aa)(p14_7:Aa)(k:Bx):Cw→Prop:=fun o=>k (I o.1) [(1,(Aw p14_1)),(5,[.mp 24]),(13,[.mapO false false (.t9 p14_2) (.t4 p14_3)]),(24,[.mapO false false (.t9 o.2.1) (.t4 o.2.2)]),(33,(Ae p14_6)),(36,(Ae p14_7))]
def Ale [An A Cw](p14_0:ByteArray)(p14_1:Ad)(p14_2:List ByteArray)(p14_3:List Bool)(p14_4:List ByteArray)(p14_5:List Bool)(p14_6:Aa)(p14_7:Aa):A:=
 (bd (Dp L p14_0) fun r12=>
 (cn (r12 != 0)
 (lf (r12,p14_4,p14_5))
 (fq (p14_4.findIdx? fun b=>p14_0 == b) (fun i13=>
 (cn (p14_5.getD i13 default)
 (lf (4,p14_4,p14_5))
 (fq (p14_4.findIdx? fun b=>p14_0 == b) (fun i14=>
 (lf (0,p14_4,(p14_5.set i14 true))))
 (lf (0,(p14_4++ [p14_0]),(p14_5++ [true]))))))
 (fq (p14_4.findIdx? fun b=>p14_0 == b) (fun i15=>
 (lf (0,p14_4,(p14_5.set i15 true))))
 (lf (0,(p14_4++ [p14_0]),(p14_5++ [true])))))))
def Abq(p14_0:ByteArray)(p14_1:Ad)(p14_2:List ByteArray)(p14_3:List Bool)(p14_4:List ByteArray)(p14_5:List Bool)(p14_6:Aa)(p14_7:Aa):Option Cw:=Ale L p14_0 p14_1 p14_2 p14_3 p14_4 p14_5 p14_6 p14_7
theorem B29(p14_0:ByteArray)(p14_1:Ad)(p14_2:List ByteArray)(p14_3:List Bool)(p14_4:List ByteArray)(p14_5:List Bool)(p14_6:Aa)(p14_7:Aa):YO (O43 L) L 7 64 [.mp 24,S p14_0] [(1,(Aw p14_1)),(5,[.mp 24]),(13,[.mapO false false (.t9 p14_2) (.t4 p14_3)]),(24,[.mapO false false (.t9 p14_4) (.t4 p14_5)]),(33,(Ae p14_6)),(36,(Ae p14_7))] k=ob (Abq L p14_0 p14_1 p14_2 p14_3 p14_4 p14_5 p14_6 p14_7) (Blm p14_0 p14_1 p14_2 p14_3 p14_4 p14_5 p14_6 p14_7 k):=(Dg _ _ _ jn4 _ _ _ _ _ _ _).trans (eE (Ale L p14_0 p14_1 p14_2 p14_3 p14_4 p14_5 p14_6 p14_7))
def Bca(p12_0:Aa)(p12_1:Ad)(p12_2:List ByteArray)(p12_3:List Bool)(p12_4:List ByteArray)(p12_5:List Bool)(p12_6:Aa)(k:Bx):Cw→Prop:=fun o=>k (I o.1) [(1,(Aw p12_1)),(5,[.mp 24]),(13,[.mapO false false (.t9 p12_2) (.t4 p12_3)]),(24,[.mapO false false (.t9 o.2.1) (.t4 o.2.2)]),(33,(Ae p12_6)),(36,(Ae p12_0))]
def We [An A Cw](p12_0:Aa)(o16:Cw):A:=
 (cn (o16.1 != 0)
 (lf (o16.1,o16.2.1,o16.2.2))
 (bd (Aio L p12_0) fun r17=>
 (lf (r17,o16.2.1,o16.2.2))))
def Bpa(p12_0:Aa)(p12_1:Ad)(p12_2:List ByteArray)(p12_3:List Bool)(p12_4:List ByteArray)(p12_5:List Bool)(p12_6:Aa):Bx:=(Cm Tryz.prog (O43 L) (EI (O43 L) L 7) 1 (List.drop 4 c63.u.l.l.ops) ⟨[(7,S p12_0.Name),(6,.loc 36 0),(5,.mp 24),(1,.loc 5 0),(2,.loc 36 0),(3,I 0)],[(1,(Aw p12_1)),(5,[.mp 24]),(13,[.mapO false false (.t9 p12_2) (.t4 p12_3)]),(24,[.mapO false false (.t9 p12_4) (.t4 p12_5)]),(33,(Ae p12_6)),(36,(Ae p12_0))],34⟩ (some 8) (fun st9=>(Bk (EV (O43 L) L 7 c63.u.l.r) (Bk (EV (O43 L) L 7 c63.u.r) (E8 Tryz.prog (RS Tryz.f63) k))) .normal st9))
theorem Cfk(p12_0:Aa)(p12_1:Ad)(p12_2:List ByteArray)(p12_3:List Bool)(p12_4:List ByteArray)(p12_5:List Bool)(p12_6:Aa)(o16:Cw):Blm p12_0.Name p12_1 p12_2 p12_3 p12_4 p12_5 p12_6 p12_0 (Bpa L k p12_0 p12_1 p12_2 p12_3 p12_4 p12_5 p12_6) o16=ob (We L p12_0 o16) (Bca p12_0 p12_1 p12_2 p12_3 p12_4 p12_5 p12_6 k):=eE (We L p12_0 o16)
def Ald [An A Cw](p12_0:Aa)(p12_1:Ad)(p12_2:List ByteArray)(p12_3:List Bool)(p12_4:List ByteArray)(p12_5:List Bool)(p12_6:Aa):A:=(bd (Abq L p12_0.Name p12_1 p12_2 p12_3 p12_4 p12_5 p12_6 p12_0) fun o16=>We L p12_0 o16)
def Mi(p12_0:Aa)(p12_1:Ad)(p12_2:List ByteArray)(p12_3:List Bool)(p12_4:List ByteArray)(p12_5:List Bool)(p12_6:Aa):Option Cw:=Ald L p12_0 p12_1 p12_2 p12_3 p12_4 p12_5 p12_6
theorem B28(p12_0:Aa)(p12_1:Ad)(p12_2:List ByteArray)(p12_3:List Bool)(p12_4:List ByteArray)(p12_5:List Bool)(p12_6:Aa):YO (O43 L) L 8 63 [.agg (Ae p12_0),.loc 5 0] [(1,(Aw p12_1)),(5,[.mp 24]),(13,[.mapO false false (.t9 p12_2) (.t4 p12_3)]),(24,[.mapO false false (.t9 p12_4) (.t4 p12_5)]),(33,(Ae p12_6))] k=ob (Mi L p12_0 p12_1 p12_2 p12_3 p12_4 p12_5 p12_6) (Bca p12_0 p12_1 p12_2 p12_3 p12_4 p12_5 p12_6 k):=(Dg _ _ _ jn4 _ _ _ _ _ _ _).trans (eE ((ho (B29 L (Bpa L k p12_0 p12_1 p12_2 p12_3 p12_4 p12_5 p12_6) p12_0.Name p12_1 p12_2 p12_3 p12_4 p12_5 p12_6 p12_0) fun o16=>Cfk L k p12_0 p12_1 p12_2 p12_3 p12_4 p12_5 p12_6 o16)))
def Bkx(p8_0:List Aa)(p8_1:Ad)(p8_2:List ByteArray)(p8_3:List Bool)(v:Tu5):St:=⟨[(0,.any),(1,.any),(2,.clo 63 0 [.loc 5 0]),(6,I v.1),(14,lv (.t55 p8_0)),(15,I (p8_0.length:Int)),(16,I v.2.1)],[(1,(Aw p8_1)),(5,[.mp 24]),(13,[.mapO false false (.t9 p8_2) (.t4 p8_3)]),(24,[.mapO false false (.t9 v.2.2.1) (.t4 v.2.2.2)])],25⟩
def R3 [An A Ue](L:Nat)(Bw:Int)(Bz:Int)(rec:Int→Int→List ByteArray→List Bool→A)(o18:Cw):A:=
 (cn (o18.1 != 0)
 (lf (0,o18.1,Bw,o18.2.1,o18.2.2))
 (rec Bz (Cq (Bw+1)) o18.2.1 o18.2.2))
def Wn [An A Ue](L:Nat)(p8_0:List Aa)(p8_1:Ad)(p8_2:List ByteArray)(p8_3:List Bool)(rec:Int→Int→List ByteArray→List Bool→A)(Bz:Int)(Bw:Int)(Nh:List ByteArray)(Ni:List Bool)(nx16:Int→(List ByteArray)→(List Bool)→Int→A):A:=
 (lw Bw p8_0
 (nx16 Bw Nh Ni Bz)
 (lf (1,Bz,Bw,Nh,Ni)))
def Aey [An A Ue](p8_0:List Aa)(p8_1:Ad)(p8_2:List ByteArray)(p8_3:List Bool)(rec:Int→Int→List ByteArray→List Bool→A)(Bz:Int)(Bw:Int)(Nh:List ByteArray)(Ni:List Bool):A:=Wn L p8_0 p8_1 p8_2 p8_3 rec Bz Bw Nh Ni (fun Bw Nh Ni Bz=>bd (Mi L (p8_0.getD (Int.toNat Bw) default) p8_1 p8_2 p8_3 Nh Ni (p8_0.getD (Int.toNat Bw) default)) fun o18=>R3 L Bw Bz rec o18)
def I4(L:Nat)(p8_0:List Aa)(p8_1:Ad)(p8_2:List ByteArray)(p8_3:List Bool):Nat→Int→Int→List ByteArray→List Bool→Option Ue
 |0,_,_,_,_=>none
 |n+1,Bz,Bw,Nh,Ni=>Aey L p8_0 p8_1 p8_2 p8_3 (I4 L p8_0 p8_1 p8_2 p8_3 n) Bz Bw Nh Ni
def Buh(p8_0:List Aa)(p8_1:Ad)(p8_2:List ByteArray)(p8_3:List Bool):Prop:=LI (EV (O43 L) L 8 c62.w.l.u.l.l) [0,1,2,6,14,15,16] [1,5,13,24] (Bkx p8_0 p8_1 p8_2 p8_3) [.ret,.exit 0] (fun n v=>I4 L p8_0 p8_1 p8_2 p8_3 n v.1 v.2.1 v.2.2.1 v.2.2.2) K n
def Bpb(p8_0:List Aa)(Bw:Int)(Bz:Int)(p8_1:Ad)(p8_2:List ByteArray)(p8_3:List Bool)(Nh:List ByteArray)(Ni:List Bool):Bx:=(Cm Tryz.prog (O43 L) (EI (O43 L) L 8) 1 (List.drop 3 c62.w.l.u.l.l.w.l.l.u.l.ops) ⟨[(21,.agg (Ae (p8_0.getD (Int.toNat Bw) default))),(20,.clo 63 0 [.loc 5 0]),(2,.clo 63 0 [.loc 5 0]),(6,I Bz),(8,.loc 33 0),(14,lv (.t55 p8_0)),(15,I (p8_0.length:Int)),(16,I Bw),(17,B (decide (Bw < (p8_0.length:Int)))),(18,.ref (Ae (p8_0.getD (Int.toNat Bw) default))),(19,.agg (Ae (p8_0.getD (Int.toNat Bw) default)))],[(1,(Aw p8_1)),(5,[.mp 24]),(13,[.mapO false false (.t9 p8_2) (.t4 p8_3)]),(24,[.mapO false false (.t9 Nh) (.t4 Ni)]),(33,(Ae (p8_0.getD (Int.toNat Bw) default)))],25⟩ (some 22) (fun st9=>(Bk (EV (O43 L) L 8 c62.w.l.u.l.l.w.l.l.u.r) (Ax 1 (Bk (EV (O43 L) L 8 c62.w.l.u.l.l.w.r) (Ir (Lh (EV (O43 L) L 8 c62.w.l.u.l.l) [0,1,2,6,14,15,16] [1,5,13,24] n) [0,1,2,6,14,15,16] [1,5,13,24] K)))) .normal st9))
theorem Cfl(p8_0:List Aa)(Bw:Int)(p8_1:Ad)(p8_2:List ByteArray)(p8_3:List Bool)(Nh:List ByteArray)(Ni:List Bool)(Bz:Int)(ih:Buh L n K p8_0 p8_1 p8_2 p8_3)(o18:Cw):Bca (p8_0.getD (Int.toNat Bw) default) p8_1 p8_2 p8_3 Nh Ni (p8_0.getD (Int.toNat Bw) default) (Bpb L n K p8_0 Bw Bz p8_1 p8_2 p8_3 Nh Ni) o18=ob (R3 L Bw Bz (I4 L p8_0 p8_1 p8_2 p8_3 n) o18) (kX [.ret,.exit 0] (Bkx p8_0 p8_1 p8_2 p8_3) K):=eE (R3 L Bw Bz (fun Bz Bw Nh Ni=>re (ih (Bz,Bw,Nh,Ni))) o18)
theorem Ccf(p8_0:List Aa)(p8_1:Ad)(p8_2:List ByteArray)(p8_3:List Bool):∀n,Buh L n K p8_0 p8_1 p8_2 p8_3:=lE (fun _=>rfl) fun n v ih=>eE (Wn L p8_0 p8_1 p8_2 p8_3 (fun Bz Bw Nh Ni=>re (ih (Bz,Bw,Nh,Ni))) v.1 v.2.1 v.2.2.1 v.2.2.2 (fun Bw Nh Ni Bz=>ho (B28 L (Bpb L n K p8_0 Bw Bz p8_1 p8_2 p8_3 Nh Ni) (p8_0.getD (Int.toNat Bw) default) p8_1 p8_2 p8_3 Nh Ni (p8_0.getD (Int.toNat Bw) default)) fun o18=>Cfl L n K p8_0 Bw p8_1 p8_2 p8_3 Nh Ni Bz ih o18))
def Bi9(p8_0:List Aa)(p8_1:Ad)(p8_2:List ByteArray)(p8_3:List Bool)(k:Bx):Cw→Prop:=fun o=>k (I o.1) [(1,(Aw p8_1)),(5,[.mp 24]),(13,[.mapO false false (.t9 p8_2) (.t4 p8_3)]),(24,[.mapO false false (.t9 o.2.1) (.t4 o.2.2)])]
def Acx [An A Cw](L:Nat)(o19:Nat×Tu5):A:=
 (sl o19.1 [(lf (o19.2.1,o19.2.2.2.1,o19.2.2.2.2)),
 (lf (0,o19.2.2.2.1,o19.2.2.2.2))])
def Bpc:Be:=(Ax 0 (Bk (EV (O43 L) L 8 c62.w.r) (E8 Tryz.prog (RS Tryz.f62) k)))
theorem Cfm(p8_0:List Aa)(p8_1:Ad)(p8_2:List ByteArray)(p8_3:List Bool)(o19:Nat×Tu5):kX [.ret,.exit 0] (Bkx p8_0 p8_1 p8_2 p8_3) (Bpc L k) o19=ob (Acx L o19) (Bi9 p8_0 p8_1 p8_2 p8_3 k):=eE (Acx L o19)
def Alq [An A Cw](L:Nat)(p8_0:List Aa)(p8_1:Ad)(p8_2:List ByteArray)(p8_3:List Bool)(nx17:A):A:=
 (cn (decide ((p8_0.length:Int) > 16))
 (lf (6,[],[]))
 nx17)
def Ay4 [An A Cw](p8_0:List Aa)(p8_1:Ad)(p8_2:List ByteArray)(p8_3:List Bool):A:=Alq L p8_0 p8_1 p8_2 p8_3 (bd (I4 L p8_0 p8_1 p8_2 p8_3 L 0 0 [] []) fun o19=>Acx L o19)
def Aei(p8_0:List Aa)(p8_1:Ad)(p8_2:List ByteArray)(p8_3:List Bool):Option Cw:=Ay4 L p8_0 p8_1 p8_2 p8_3
theorem Cbm(p8_0:List Aa)(p8_1:Ad)(p8_2:List ByteArray)(p8_3:List Bool):YO (O43 L) L 9 62 [lv (.t55 p8_0),I 16,.clo 63 0 [.loc 5 0]] [(1,(Aw p8_1)),(5,[.mp 24]),(13,[.mapO false false (.t9 p8_2) (.t4 p8_3)]),(24,[.mapO false false (.t9 []) (.t4 [])])] k=ob (Aei L p8_0 p8_1 p8_2 p8_3) (Bi9 p8_0 p8_1 p8_2 p8_3 k):=(Dg _ _ _ jn4 _ _ _ _ _ _ _).trans (eE (Alq L p8_0 p8_1 p8_2 p8_3 (ho (Ccf L (Bpc L k) p8_0 p8_1 p8_2 p8_3 L (0,0,[],[])) fun o19=>Cfm L k p8_0 p8_1 p8_2 p8_3 o19)))
def R4 [An A Int](a0:Ad)(o20:Cw):A:=
 (cn (o20.1 != 0)
 (lf o20.1)
 (bd (Afu L a0) fun r21=>
 (lf r21)))
def Bpd(a0:Ad)(o11:Cw):Bx:=(Cm Tryz.prog (O43 L) (EI (O43 L) L 9) 1 (List.drop 4 c43.x.u.l.ops) ⟨[(27,.clo 63 0 [.loc 5 0]),(26,lv (.t55 a0.Sites)),(25,.loc 1 2),(1,.loc 1 0),(2,I 0),(5,.loc 5 0)],[(1,(Aw a0)),(5,[.mp 24]),(13,[.mapO false false (.t9 o11.2.1) (.t4 o11.2.2)]),(24,[.mapO false false (.t9 []) (.t4 [])])],0⟩ (some 28) (fun st9=>(Bk (EV (O43 L) L 9 c43.x.u.r) (C0 Tryz.prog (RS Tryz.f43) kk)) .normal st9))
theorem Cfn(a0:Ad)(o11:Cw)(o20:Cw):Bi9 a0.Sites a0 o11.2.1 o11.2.2 (Bpd L kk a0 o11) o20=ob (R4 L a0 o20) (kQ I kk):=eE (R4 L a0 o20)
def Wo [An A Int](L:Nat)(a0:Ad)(o11:Cw)(nx18:Cw→A):A:=
 (cn (o11.1 != 0)
 (lf o11.1)
 (cn ((a0.Sites.length:Int) == 0)
 (lf 7)
 (nx18 o11)))
def Y7 [An A Int](a0:Ad)(o11:Cw):A:=Wo L a0 o11 (fun o11=>bd (Aei L a0.Sites a0 o11.2.1 o11.2.2) fun o20=>R4 L a0 o20)
def Bw4(a0:Ad):Bx:=(Cm Tryz.prog (O43 L) (EI (O43 L) L 8) 1 (List.drop 4 c61.u.l.ops) ⟨[(7,.clo 83 1 [.mp 13]),(6,.mp 13),(5,lv (.t77 a0.Params)),(0,.mp 13),(1,lv (.t77 a0.Params)),(4,I 0)],[(1,(Aw a0)),(13,[.mapO false false (.t9 []) (.t4 [])])],14⟩ (some 8) (fun st9=>(Bk (EV (O43 L) L 8 c61.u.r) (E8 Tryz.prog (RS Tryz.f61) (Cm Tryz.prog (O43 L) (EI (O43 L) L 9) 1 (List.drop 4 c43.w.l.l.ops) ⟨[(15,lv (.t77 a0.Params)),(14,.loc 1 1),(13,.mp 13),(1,.loc 1 0),(2,I 0)],[(13,[.mapO false false (.t9 []) (.t4 [])]),(1,(Aw a0))],0⟩ (some 16) (fun st9=>(Bk (EV (O43 L) L 9 c43.w.l.r) (Bk (EV (O43 L) L 9 c43.w.r) (C0 Tryz.prog (RS Tryz.f43) kk))) .normal st9)))) .normal st9))
theorem Cn1(a0:Ad)(o11:Cw):Bi7 a0.Params a0 (Bw4 L kk a0) o11=ob (Y7 L a0 o11) (kQ I kk):=eE (Wo L a0 o11 (fun o11=>ho (Cbm L (Bpd L kk a0 o11) a0.Sites a0 o11.2.1 o11.2.2) fun o20=>Cfn L kk a0 o11 o20))
def Zo [An A Int](a0:Ad)(nx9:A):A:=
 (bd (Dp L a0.Name) fun r1=>
 (cn (r1 != 0)
 (lf r1)
 nx9))
def At7 [An A Int](a0:Ad):A:=Zo L a0 (bd (Aeg L a0.Params a0) fun o11=>Y7 L a0 o11)
def Aft(a0:Ad):Option Int:=At7 L a0
def X43:Gh:=E1 I 43 C6 (Aft L) fun a0 r h=>hF Tryz.func43 (C:=O43 L) (oS _) L (fun kk=>eE (Zo L a0 (ho (Cbj L (Bw4 L kk a0) a0.Params a0) fun o11=>Cn1 L kk a0 o11))) h
def Cko:=CC Tryz.f183
def B84(L:Nat):Bi:=oL []
def Clw:V4→Prop:=fun x=>kk ((fun(x:V4)=> .tup [I x.1,B x.2]) x)
def Bro(a0:List Ap)(a1:ByteArray)(v:Tu6):St:=⟨[(0,lv (.t190 a0)),(1,S a1),(4,I v.1),(5,B v.2.1),(6,I v.2.2)],[],0⟩
def Rt [An A (Nat×Tu6)](L:Nat)(a0:List Ap)(a1:ByteArray)(rec:Int→Bool→Int→A)(Aj:Int)(Ai:Bool)(Bg:Int):A:=
 (cn (decide (Bg≥0))
 (gi Bg a0
 (cn (((a0.getD (Int.toNat Bg) default).Name).toList == a1.toList)
 (gi Bg a0
 (lf (0,(((a0.getD (Int.toNat Bg) default).Type_),true,Bg))))
 (rec Aj Ai (Cq (Bg - 1)))))
 (lf (1,Aj,Ai,Bg)))
def Jr(L:Nat)(a0:List Ap)(a1:ByteArray):Nat→Int→Bool→Int→Option (Nat×Tu6)
 |0,_,_,_=>none
 |n+1,Aj,Ai,Bg=>Rt L a0 a1 (Jr L a0 a1 n) Aj Ai Bg
theorem B44(a0:List Ap)(a1:ByteArray):LP (EV (B84 L) L 9 Cko.u.l.u.l.l) [0,1,4,5,6] [] (Bro a0 a1) [.ret,.exit 0] (fun n v=>Jr L a0 a1 n v.1 v.2.1 v.2.2) K:=lE (fun _=>rfl) fun n v ih=>eE (Rt L a0 a1 (fun Aj Ai Bg=>re (ih (Aj,Ai,Bg))) v.1 v.2.1 v.2.2)
def Sa [An A V4](L:Nat)(o1:Nat×Tu6):A:=
 (sl o1.1 [(lf (o1.2.1,o1.2.2.1)),
 (lf (0,false))])
def Boc:Be:=(Ax 0 (Bk (EV (B84 L) L 9 Cko.u.r) (C0 Tryz.prog (RS Tryz.f183) kk)))
theorem Cen(a0:List Ap)(a1:ByteArray)(o1:Nat×Tu6):kX [.ret,.exit 0] (Bro a0 a1) (Boc L kk) o1=ob (Sa L o1) (Clw kk):=eE (Sa L o1)
def Art [An A V4](a0:List Ap)(a1:ByteArray):A:=(bd (Jr L a0 a1 L 0 false (Cq ((a0.length:Int) - 1))) fun o1=>Sa L o1)
def Ou(a0:List Ap)(a1:ByteArray):Option V4:=Art L a0 a1
def Bu1:Gh:=E2 (fun(x:V4)=> .tup [I x.1,B x.2]) 183 Bfn cS (Ou L) fun a0 a1 r h=>hF Tryz.func183 (C:=B84 L) (oS _) L (fun kk=>eE ((ho (B44 L (Boc L kk) a0 a1 L (0,false,(Cq ((a0.length:Int) - 1)))) fun o1=>Cen L kk a0 a1 o1))) h
def B0l:=CC Tryz.f224
def Bux:Bi:=oL [Bu1 L]
def B7u:V4→Prop:=fun x=>kk ((fun(x:V4)=> .tup [I x.1,B x.2]) x)
def Br6(a1:ByteArray)(a0:Ar)(v:Tu6):St:=⟨[(0,.any),(1,S a1),(2,.loc 2 0),(4,I v.1),(5,B v.2.1),(6,.any),(7,.any),(11,.any),(23,lv (.t77 a0.Site.Vars)),(24,I (a0.Site.Vars.length:Int)),(25,I v.2.2),(39,.any)],[(2,(Kq a0))],0⟩
def Y0 [An A (Nat×Tu6)](L:Nat)(a1:ByteArray)(a0:Ar)(rec:Int→Bool→Int→A)(Ag:Int)(Aj:Bool)(Qk:Int):A:=
 (lw Qk a0.Site.Vars
 (cn (((a0.Site.Vars.getD (Int.toNat Qk) default).Name).toList == a1.toList)
 (lf (0,(((a0.Site.Vars.getD (Int.toNat Qk) default).Type_),true,Qk)))
 (rec Ag Aj (Cq (Qk+1))))
 (lf (1,Ag,Aj,Qk)))
def K2(L:Nat)(a1:ByteArray)(a0:Ar):Nat→Int→Bool→Int→Option (Nat×Tu6)
 |0,_,_,_=>none
 |n+1,Ag,Aj,Qk=>Y0 L a1 a0 (K2 L a1 a0 n) Ag Aj Qk
theorem B5m(a1:ByteArray)(a0:Ar):LP (EV (Bux L) L 9 B0l.w.l.u.l.l) [0,1,2,4,5,6,7,11,23,24,25,39] [2] (Br6 a1 a0) [.ret,.exit 0] (fun n v=>K2 L a1 a0 n v.1 v.2.1 v.2.2) K:=lE (fun _=>rfl) fun n v ih=>eE (Y0 L a1 a0 (fun Ag Aj Qk=>re (ih (Ag,Aj,Qk))) v.1 v.2.1 v.2.2)
def Br7(a1:ByteArray)(a0:Ar)(v:Tu6):St:=⟨[(0,.any),(1,S a1),(2,.any),(4,I v.1),(5,B v.2.1),(6,.any),(7,.any),(9,.any),(25,.any),(37,lv (.t77 a0.Params)),(38,I (a0.Params.length:Int)),(39,I v.2.2)],[(2,(Kq a0))],0⟩
def Y1 [An A (Nat×Tu6)](L:Nat)(a1:ByteArray)(a0:Ar)(rec:Int→Bool→Int→A)(Ct:Int)(Gk:Bool)(A95:Int):A:=
 (lw A95 a0.Params
 (cn (((a0.Params.getD (Int.toNat A95) default).Name).toList == a1.toList)
 (lf (0,(((a0.Params.getD (Int.toNat A95) default).Type_),true,A95)))
 (rec Ct Gk (Cq (A95+1))))
 (lf (1,Ct,Gk,A95)))
def K3(L:Nat)(a1:ByteArray)(a0:Ar):Nat→Int→Bool→Int→Option (Nat×Tu6)
 |0,_,_,_=>none
 |n+1,Ct,Gk,A95=>Y1 L a1 a0 (K3 L a1 a0 n) Ct Gk A95
theorem B5n(a1:ByteArray)(a0:Ar):LP (EV (Bux L) L 9 B0l.w.u.l.u.l.l) [0,1,2,4,5,6,7,9,25,37,38,39] [2] (Br7 a1 a0) [.ret,.exit 2] (fun n v=>K3 L a1 a0 n v.1 v.2.1 v.2.2) K:=lE (fun _=>rfl) fun n v ih=>eE (Y1 L a1 a0 (fun Ct Gk A95=>re (ih (Ct,Gk,A95))) v.1 v.2.1 v.2.2)
def Ub [An A V4](L:Nat)(o3:Nat×Tu6):A:=
 (sl o3.1 [(lf (o3.2.1,o3.2.2.1)),
 (lf (0,false))])
def Bo7:Be:=(Ax 2 (Bk (EV (Bux L) L 9 B0l.w.u.r) (C0 Tryz.prog (RS Tryz.f224) kk)))
theorem Cfh(a1:ByteArray)(a0:Ar)(o3:Nat×Tu6):kX [.ret,.exit 2] (Br7 a1 a0) (Bo7 L kk) o3=ob (Ub L o3) (B7u kk):=eE (Ub L o3)
def Z1 [An A V4](L:Nat)(a1:ByteArray)(a0:Ar)(o2:Nat×Tu6)(nx2:(Nat×Tu6)→A):A:=
 (sl o2.1 [(lf (o2.2.1,o2.2.2.1)),
 (nx2 o2)])
def Zk [An A V4](a1:ByteArray)(a0:Ar)(o2:Nat×Tu6):A:=Z1 L a1 a0 o2 (fun o2=>bd (K3 L a1 a0 L o2.2.1 o2.2.2.1 0) fun o3=>Ub L o3)
def Bo6:Be:=(Ax 0 (Bk (EV (Bux L) L 9 B0l.w.r) (C0 Tryz.prog (RS Tryz.f224) kk)))
theorem Cfg(a1:ByteArray)(a0:Ar)(o2:Nat×Tu6):kX [.ret,.exit 0] (Br6 a1 a0) (Bo6 L kk) o2=ob (Zk L a1 a0 o2) (B7u kk):=eE (Z1 L a1 a0 o2 (fun o2=>ho (B5n L (Bo7 L kk) a1 a0 L (o2.2.1,o2.2.2.1,0)) fun o3=>Cfh L kk a1 a0 o3))
def Z0 [An A V4](a0:Ar)(a1:ByteArray)(nx1:A):A:=
 (bd (Ou L a0.Locals a1) fun r1=>
 (cn r1.2
 (lf (r1.1,true))
 nx1))
def Auc [An A V4](a0:Ar)(a1:ByteArray):A:=Z0 L a0 a1 (bd (K2 L a1 a0 L 0 false 0) fun o2=>Zk L a1 a0 o2)
def Afx(a0:Ar)(a1:ByteArray):Option V4:=Auc L a0 a1
def B95:Gh:=E2 (fun(x:V4)=> .tup [I x.1,B x.2]) 224 Gj cS (Afx L) fun a0 a1 r h=>hF Tryz.func224 (C:=Bux L) (oS _) L (fun kk=>eE (Z0 L a0 a1 (ho (B5m L (Bo6 L kk) a1 a0 L (0,false,0)) fun o2=>Cfg L kk a1 a0 o2))) h
end
end Go.Proofs.YtfencmicmnhglaaGreat.Ev
