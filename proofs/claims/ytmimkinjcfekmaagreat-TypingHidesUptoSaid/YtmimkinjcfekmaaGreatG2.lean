import Derived.Test.YtmimkinjcfekmaaGreatG1
namespace Go.Proofs.YtmimkinjcfekmaaGreat.Ev
open Go An
set_option maxRecDepth 100000
set_option maxHeartbeats 4000000
set_option linter.unusedVariables false
set_option linter.unusedSimpArgs false
set_option linter.unnecessarySimpa false
noncomputable section
variable {A:Type} (L n:Nat) (kk:Mw) (K:D2) (k:Mh)
def Ah6:=CC Tryz.f112
def Ah7:=CC Tryz.f114
def Ah8:=CC Tryz.f116
def Ah9:=CC Tryz.f118
def c54:=CC Tryz.f54
def Pw:Av:=oL [X65 L,Ah0 L]
def Aek:(ByteArray×Int)→Prop:=fun x=>kk ((fun(x:ByteArray×Int)=> .tup [S x.1,I x.2]) x)
def Adh(p1_0:List Aw)(p1_1:Ab)(p1_2:ByteArray)(v:Ep):St:=⟨[(0,lv (.t52 p1_0)),(1,.clo 113 0 [.loc 3 0]),(4,I v.1),(7,I (p1_0.length:Int)),(8,I v.2)],[(2,(Ak p1_1)),(3,[S p1_2])],4⟩
def F6 [An A (Nat×Ep)](L:Nat)(p1_0:List Aw)(p1_1:Ab)(p1_2:ByteArray)(rec:Int→Int→A)(Aq:Int)(Bn:Int):A:=
 (lw Bn p1_0
 (cn (((p1_0.getD (Int.toNat Bn) default).Name).toList == p1_2.toList)
 (lf (0,Bn,Bn))
 (rec Aq (Mu (Bn+1))))
 (lf (1,Aq,Bn)))
def B9(L:Nat)(p1_0:List Aw)(p1_1:Ab)(p1_2:ByteArray):Nat→Int→Int→Option (Nat×Ep)
 |0,_,_=>none
 |n+1,Aq,Bn=>F6 L p1_0 p1_1 p1_2 (B9 L p1_0 p1_1 p1_2 n) Aq Bn
theorem Ahc(p1_0:List Aw)(p1_1:Ab)(p1_2:ByteArray):LP (EV (Pw L) L 8 Ah6.u.l.u.l.l) [0,1,4,7,8] [2,3] (Adh p1_0 p1_1 p1_2) [.ret,.exit 0] (fun n v=>B9 L p1_0 p1_1 p1_2 n v.1 v.2) K:=lE (fun _=>rfl) fun n v ih=>eE (F6 L p1_0 p1_1 p1_2 (fun Aq Bn=>re (ih (Aq,Bn))) v.1 v.2)
def Zv(p1_0:List Aw)(p1_1:Ab)(p1_2:ByteArray)(k:Mh):Int→Prop:=fun o=>k (I o) [(2,(Ak p1_1)),(3,[S p1_2])]
def Gf [An A Int](L:Nat)(o1:Nat×Ep):A:=
 (sl o1.1 [(lf o1.2.1),
 (lf (-1))])
def Ab6:D2:=(B7 0 (Hk (EV (Pw L) L 8 Ah6.u.r) (V1 Tryz.prog (RS Tryz.f112) k)))
theorem Aiy(p1_0:List Aw)(p1_1:Ab)(p1_2:ByteArray)(o1:Nat×Ep):kX [.ret,.exit 0] (Adh p1_0 p1_1 p1_2) (Ab6 L k) o1=ob (Gf L o1) (Zv p1_0 p1_1 p1_2 k):=eE (Gf L o1)
def Li [An A Int](p1_0:List Aw)(p1_1:Ab)(p1_2:ByteArray):A:=(bd (B9 L p1_0 p1_1 p1_2 L 0 0) fun o1=>Gf L o1)
def F2(p1_0:List Aw)(p1_1:Ab)(p1_2:ByteArray):Option Int:=Li L p1_0 p1_1 p1_2
theorem Agy(p1_0:List Aw)(p1_1:Ab)(p1_2:ByteArray):YO (Pw L) L 9 112 [lv (.t52 p1_0),.clo 113 0 [.loc 3 0]] [(2,(Ak p1_1)),(3,[S p1_2])] k=ob (F2 L p1_0 p1_1 p1_2) (Zv p1_0 p1_1 p1_2 k):=(P0 _ _ _ jn4 _ _ _ _ _ _ _).trans (eE ((ho (Ahc L (Ab6 L k) p1_0 p1_1 p1_2 L (0,0)) fun o1=>Aiy L k p1_0 p1_1 p1_2 o1)))
def Adi(p2_0:List Aj)(p2_1:Ab)(p2_2:ByteArray)(v:Ep):St:=⟨[(0,lv (.t139 p2_0)),(1,.clo 115 0 [.loc 3 0]),(4,I v.1),(7,I (p2_0.length:Int)),(8,I v.2)],[(2,(Ak p2_1)),(3,[S p2_2])],4⟩
def F7 [An A (Nat×Ep)](L:Nat)(p2_0:List Aj)(p2_1:Ab)(p2_2:ByteArray)(rec:Int→Int→A)(El:Int)(Vi:Int):A:=
 (lw Vi p2_0
 (cn (((p2_0.getD (Int.toNat Vi) default).Name).toList == p2_2.toList)
 (lf (0,Vi,Vi))
 (rec El (Mu (Vi+1))))
 (lf (1,El,Vi)))
def Ca(L:Nat)(p2_0:List Aj)(p2_1:Ab)(p2_2:ByteArray):Nat→Int→Int→Option (Nat×Ep)
 |0,_,_=>none
 |n+1,El,Vi=>F7 L p2_0 p2_1 p2_2 (Ca L p2_0 p2_1 p2_2 n) El Vi
theorem Ahd(p2_0:List Aj)(p2_1:Ab)(p2_2:ByteArray):LP (EV (Pw L) L 8 Ah7.u.l.u.l.l) [0,1,4,7,8] [2,3] (Adi p2_0 p2_1 p2_2) [.ret,.exit 0] (fun n v=>Ca L p2_0 p2_1 p2_2 n v.1 v.2) K:=lE (fun _=>rfl) fun n v ih=>eE (F7 L p2_0 p2_1 p2_2 (fun El Vi=>re (ih (El,Vi))) v.1 v.2)
def Zw(p2_0:List Aj)(p2_1:Ab)(p2_2:ByteArray)(k:Mh):Int→Prop:=fun o=>k (I o) [(2,(Ak p2_1)),(3,[S p2_2])]
def Gh [An A Int](L:Nat)(o3:Nat×Ep):A:=
 (sl o3.1 [(lf o3.2.1),
 (lf (-1))])
def Ab8:D2:=(B7 0 (Hk (EV (Pw L) L 8 Ah7.u.r) (V1 Tryz.prog (RS Tryz.f114) k)))
theorem Ai0(p2_0:List Aj)(p2_1:Ab)(p2_2:ByteArray)(o3:Nat×Ep):kX [.ret,.exit 0] (Adi p2_0 p2_1 p2_2) (Ab8 L k) o3=ob (Gh L o3) (Zw p2_0 p2_1 p2_2 k):=eE (Gh L o3)
def Lj [An A Int](p2_0:List Aj)(p2_1:Ab)(p2_2:ByteArray):A:=(bd (Ca L p2_0 p2_1 p2_2 L 0 0) fun o3=>Gh L o3)
def F3(p2_0:List Aj)(p2_1:Ab)(p2_2:ByteArray):Option Int:=Lj L p2_0 p2_1 p2_2
theorem Agz(p2_0:List Aj)(p2_1:Ab)(p2_2:ByteArray):YO (Pw L) L 9 114 [lv (.t139 p2_0),.clo 115 0 [.loc 3 0]] [(2,(Ak p2_1)),(3,[S p2_2])] k=ob (F3 L p2_0 p2_1 p2_2) (Zw p2_0 p2_1 p2_2 k):=(P0 _ _ _ jn4 _ _ _ _ _ _ _).trans (eE ((ho (Ahd L (Ab8 L k) p2_0 p2_1 p2_2 L (0,0)) fun o3=>Ai0 L k p2_0 p2_1 p2_2 o3)))
def Adj(p3_0:List Ao)(p3_1:Ab)(p3_2:ByteArray)(v:Ep):St:=⟨[(0,lv (.t146 p3_0)),(1,.clo 117 0 [.loc 3 0]),(4,I v.1),(7,I (p3_0.length:Int)),(8,I v.2)],[(2,(Ak p3_1)),(3,[S p3_2])],4⟩
def F8 [An A (Nat×Ep)](L:Nat)(p3_0:List Ao)(p3_1:Ab)(p3_2:ByteArray)(rec:Int→Int→A)(Ms:Int)(Vk:Int):A:=
 (lw Vk p3_0
 (cn (((p3_0.getD (Int.toNat Vk) default).Name).toList == p3_2.toList)
 (lf (0,Vk,Vk))
 (rec Ms (Mu (Vk+1))))
 (lf (1,Ms,Vk)))
def Cb(L:Nat)(p3_0:List Ao)(p3_1:Ab)(p3_2:ByteArray):Nat→Int→Int→Option (Nat×Ep)
 |0,_,_=>none
 |n+1,Ms,Vk=>F8 L p3_0 p3_1 p3_2 (Cb L p3_0 p3_1 p3_2 n) Ms Vk
theorem Ahe(p3_0:List Ao)(p3_1:Ab)(p3_2:ByteArray):LP (EV (Pw L) L 8 Ah8.u.l.u.l.l) [0,1,4,7,8] [2,3] (Adj p3_0 p3_1 p3_2) [.ret,.exit 0] (fun n v=>Cb L p3_0 p3_1 p3_2 n v.1 v.2) K:=lE (fun _=>rfl) fun n v ih=>eE (F8 L p3_0 p3_1 p3_2 (fun Ms Vk=>re (ih (Ms,Vk))) v.1 v.2)
def Zx(p3_0:List Ao)(p3_1:Ab)(p3_2:ByteArray)(k:Mh):Int→Prop:=fun o=>k (I o) [(2,(Ak p3_1)),(3,[S p3_2])]
def Gj [An A Int](L:Nat)(o5:Nat×Ep):A:=
 (sl o5.1 [(lf o5.2.1),
 (lf (-1))])
def Aca:D2:=(B7 0 (Hk (EV (Pw L) L 8 Ah8.u.r) (V1 Tryz.prog (RS Tryz.f116) k)))
theorem Ai2(p3_0:List Ao)(p3_1:Ab)(p3_2:ByteArray)(o5:Nat×Ep):kX [.ret,.exit 0] (Adj p3_0 p3_1 p3_2) (Aca L k) o5=ob (Gj L o5) (Zx p3_0 p3_1 p3_2 k):=eE (Gj L o5)
def Lk [An A Int](p3_0:List Ao)(p3_1:Ab)(p3_2:ByteArray):A:=(bd (Cb L p3_0 p3_1 p3_2 L 0 0) fun o5=>Gj L o5)
def F4(p3_0:List Ao)(p3_1:Ab)(p3_2:ByteArray):Option Int:=Lk L p3_0 p3_1 p3_2
theorem Ag0(p3_0:List Ao)(p3_1:Ab)(p3_2:ByteArray):YO (Pw L) L 9 116 [lv (.t146 p3_0),.clo 117 0 [.loc 3 0]] [(2,(Ak p3_1)),(3,[S p3_2])] k=ob (F4 L p3_0 p3_1 p3_2) (Zx p3_0 p3_1 p3_2 k):=(P0 _ _ _ jn4 _ _ _ _ _ _ _).trans (eE ((ho (Ahe L (Aca L k) p3_0 p3_1 p3_2 L (0,0)) fun o5=>Ai2 L k p3_0 p3_1 p3_2 o5)))
def Adk(p4_0:List Au)(p4_1:Ab)(p4_2:ByteArray)(v:Ep):St:=⟨[(0,lv (.t150 p4_0)),(1,.clo 119 0 [.loc 3 0]),(4,I v.1),(7,I (p4_0.length:Int)),(8,I v.2)],[(2,(Ak p4_1)),(3,[S p4_2])],4⟩
def F9 [An A (Nat×Ep)](L:Nat)(p4_0:List Au)(p4_1:Ab)(p4_2:ByteArray)(rec:Int→Int→A)(Mt:Int)(Vl:Int):A:=
 (lw Vl p4_0
 (cn (((p4_0.getD (Int.toNat Vl) default).Name).toList == p4_2.toList)
 (lf (0,Vl,Vl))
 (rec Mt (Mu (Vl+1))))
 (lf (1,Mt,Vl)))
def Cc(L:Nat)(p4_0:List Au)(p4_1:Ab)(p4_2:ByteArray):Nat→Int→Int→Option (Nat×Ep)
 |0,_,_=>none
 |n+1,Mt,Vl=>F9 L p4_0 p4_1 p4_2 (Cc L p4_0 p4_1 p4_2 n) Mt Vl
theorem Ahf(p4_0:List Au)(p4_1:Ab)(p4_2:ByteArray):LP (EV (Pw L) L 8 Ah9.u.l.u.l.l) [0,1,4,7,8] [2,3] (Adk p4_0 p4_1 p4_2) [.ret,.exit 0] (fun n v=>Cc L p4_0 p4_1 p4_2 n v.1 v.2) K:=lE (fun _=>rfl) fun n v ih=>eE (F9 L p4_0 p4_1 p4_2 (fun Mt Vl=>re (ih (Mt,Vl))) v.1 v.2)
def Zy(p4_0:List Au)(p4_1:Ab)(p4_2:ByteArray)(k:Mh):Int→Prop:=fun o=>k (I o) [(2,(Ak p4_1)),(3,[S p4_2])]
def Et [An A Int](L:Nat)(o7:Nat×Ep):A:=
 (sl o7.1 [(lf o7.2.1),
 (lf (-1))])
def p9:D2:=(B7 0 (Hk (EV (Pw L) L 8 Ah9.u.r) (V1 Tryz.prog (RS Tryz.f118) k)))
theorem Ahl(p4_0:List Au)(p4_1:Ab)(p4_2:ByteArray)(o7:Nat×Ep):kX [.ret,.exit 0] (Adk p4_0 p4_1 p4_2) (p9 L k) o7=ob (Et L o7) (Zy p4_0 p4_1 p4_2 k):=eE (Et L o7)
def Ll [An A Int](p4_0:List Au)(p4_1:Ab)(p4_2:ByteArray):A:=(bd (Cc L p4_0 p4_1 p4_2 L 0 0) fun o7=>Et L o7)
def F5(p4_0:List Au)(p4_1:Ab)(p4_2:ByteArray):Option Int:=Ll L p4_0 p4_1 p4_2
theorem Ag1(p4_0:List Au)(p4_1:Ab)(p4_2:ByteArray):YO (Pw L) L 9 118 [lv (.t150 p4_0),.clo 119 0 [.loc 3 0]] [(2,(Ak p4_1)),(3,[S p4_2])] k=ob (F5 L p4_0 p4_1 p4_2) (Zy p4_0 p4_1 p4_2 k):=(P0 _ _ _ jn4 _ _ _ _ _ _ _).trans (eE ((ho (Ahf L (p9 L k) p4_0 p4_1 p4_2 L (0,0)) fun o7=>Ahl L k p4_0 p4_1 p4_2 o7)))
def Dn [An A (ByteArray×Int)](a0:Ab)(a1:ByteArray)(o8:Int):A:=
 (cn (decide (o8≥0))
 (lf ((⟨#[98,101,108,116]⟩:ByteArray),o8))
 (bd (Bb L a0.Queues a1) fun r9=>
 (cn (decide (r9≥0))
 (lf ((⟨#[113,117,101,117,101]⟩:ByteArray),r9))
 (bd (Bb L a0.Streams a1) fun r10=>
 (cn (decide (r10≥0))
 (lf ((⟨#[115,116,114,101,97,109]⟩:ByteArray),r10))
 (bd (Bb L a0.Tallies a1) fun r11=>
 (cn (decide (r11≥0))
 (lf ((⟨#[116,97,108,108,121]⟩:ByteArray),r11))
 (bd (Bb L a0.Levels a1) fun r12=>
 (cn (decide (r12≥0))
 (lf ((⟨#[108,101,118,101,108]⟩:ByteArray),r12))
 (bd (Bb L a0.Counts a1) fun r13=>
 (cn (decide (r13≥0))
 (lf ((⟨#[99,111,117,110,116]⟩:ByteArray),r13))
 (bd (G6 L a0 a1) fun r14=>
 (cn (decide (r14≥0))
 (lf ((⟨#[114,111,117,116,105,110,101]⟩:ByteArray),r14))
 (lf ((⟨#[]⟩:ByteArray),(-1))))))))))))))))
def q6(a0:Ab)(a1:ByteArray):Mh:=(T8 Tryz.prog (Pw L) (EI (Pw L) L 9) 1 (List.drop 4 c54.x.l.l.ops) ⟨[(39,.clo 119 0 [.loc 3 0]),(38,lv (.t150 a0.Belts)),(37,.loc 2 4),(2,.loc 2 0),(3,.loc 3 0),(4,S (⟨#[]⟩:ByteArray)),(5,I 0)],[(2,(Ak a0)),(3,[S a1])],0⟩ (some 40) (fun st9=>(Hk (EV (Pw L) L 9 c54.x.l.r) (Hk (EV (Pw L) L 9 c54.x.r) (Kj Tryz.prog (RS Tryz.f54) kk))) .normal st9))
theorem Ahm(a0:Ab)(a1:ByteArray)(o8:Int):Zy a0.Belts a0 a1 (q6 L kk a0 a1) o8=ob (Dn L a0 a1 o8) (Aek kk):=eE (Dn L a0 a1 o8)
def Eu [An A (ByteArray×Int)](L:Nat)(a0:Ab)(a1:ByteArray)(o6:Int)(nx12:A):A:=
 (cn (decide (o6≥0))
 (lf ((⟨#[115,116,111,114,101]⟩:ByteArray),o6))
 nx12)
def Gk [An A (ByteArray×Int)](a0:Ab)(a1:ByteArray)(o6:Int):A:=Eu L a0 a1 o6 (bd (F5 L a0.Belts a0 a1) fun o8=>Dn L a0 a1 o8)
def Acb(a0:Ab)(a1:ByteArray):Mh:=(T8 Tryz.prog (Pw L) (EI (Pw L) L 9) 1 (List.drop 4 c54.w.u.l.l.ops) ⟨[(32,.clo 117 0 [.loc 3 0]),(31,lv (.t146 a0.Stores)),(30,.loc 2 3),(2,.loc 2 0),(3,.loc 3 0),(4,S (⟨#[]⟩:ByteArray)),(5,I 0)],[(2,(Ak a0)),(3,[S a1])],0⟩ (some 33) (fun st9=>(Hk (EV (Pw L) L 9 c54.w.u.l.r) (Hk (EV (Pw L) L 9 c54.w.u.r) (Kj Tryz.prog (RS Tryz.f54) kk))) .normal st9))
theorem Ai3(a0:Ab)(a1:ByteArray)(o6:Int):Zx a0.Stores a0 a1 (Acb L kk a0 a1) o6=ob (Gk L a0 a1 o6) (Aek kk):=eE (Eu L a0 a1 o6 (ho (Ag1 L (q6 L kk a0 a1) a0.Belts a0 a1) fun o8=>Ahm L kk a0 a1 o8))
def Gn [An A (ByteArray×Int)](L:Nat)(a0:Ab)(a1:ByteArray)(o4:Int)(nx9:A):A:=
 (cn (decide (o4≥0))
 (lf ((⟨#[114,101,115,111,117,114,99,101]⟩:ByteArray),o4))
 nx9)
def Gi [An A (ByteArray×Int)](a0:Ab)(a1:ByteArray)(o4:Int):A:=Gn L a0 a1 o4 (bd (F4 L a0.Stores a0 a1) fun o6=>Gk L a0 a1 o6)
def Ab9(a0:Ab)(a1:ByteArray):Mh:=(T8 Tryz.prog (Pw L) (EI (Pw L) L 9) 1 (List.drop 4 c54.w.l.l.ops) ⟨[(25,.clo 115 0 [.loc 3 0]),(24,lv (.t139 a0.Resources)),(23,.loc 2 2),(2,.loc 2 0),(3,.loc 3 0),(4,S (⟨#[]⟩:ByteArray)),(5,I 0)],[(2,(Ak a0)),(3,[S a1])],0⟩ (some 26) (fun st9=>(Hk (EV (Pw L) L 9 c54.w.l.r) (Hk (EV (Pw L) L 9 c54.w.r) (Kj Tryz.prog (RS Tryz.f54) kk))) .normal st9))
theorem Ai1(a0:Ab)(a1:ByteArray)(o4:Int):Zw a0.Resources a0 a1 (Ab9 L kk a0 a1) o4=ob (Gi L a0 a1 o4) (Aek kk):=eE (Gn L a0 a1 o4 (ho (Ag0 L (Acb L kk a0 a1) a0.Stores a0 a1) fun o6=>Ai3 L kk a0 a1 o6))
def Gm [An A (ByteArray×Int)](L:Nat)(a0:Ab)(a1:ByteArray)(o2:Int)(nx6:A):A:=
 (cn (decide (o2≥0))
 (lf ((⟨#[118,97,114]⟩:ByteArray),o2))
 nx6)
def Gg [An A (ByteArray×Int)](a0:Ab)(a1:ByteArray)(o2:Int):A:=Gm L a0 a1 o2 (bd (F3 L a0.Resources a0 a1) fun o4=>Gi L a0 a1 o4)
def Ab7(a0:Ab)(a1:ByteArray):Mh:=(T8 Tryz.prog (Pw L) (EI (Pw L) L 9) 1 (List.drop 4 c54.u.l.l.ops) ⟨[(18,.clo 113 0 [.loc 3 0]),(17,lv (.t52 a0.Vars)),(16,.loc 2 1),(2,.loc 2 0),(3,.loc 3 0),(4,S (⟨#[]⟩:ByteArray)),(5,I 0)],[(2,(Ak a0)),(3,[S a1])],0⟩ (some 19) (fun st9=>(Hk (EV (Pw L) L 9 c54.u.l.r) (Hk (EV (Pw L) L 9 c54.u.r) (Kj Tryz.prog (RS Tryz.f54) kk))) .normal st9))
theorem Aiz(a0:Ab)(a1:ByteArray)(o2:Int):Zv a0.Vars a0 a1 (Ab7 L kk a0 a1) o2=ob (Gg L a0 a1 o2) (Aek kk):=eE (Gm L a0 a1 o2 (ho (Agz L (Ab9 L kk a0 a1) a0.Resources a0 a1) fun o4=>Ai1 L kk a0 a1 o4))
def Og [An A (ByteArray×Int)](a0:Ab)(a1:ByteArray):A:=(bd (F2 L a0.Vars a0 a1) fun o2=>Gg L a0 a1 o2)
def I3(a0:Ab)(a1:ByteArray):Option (ByteArray×Int):=Og L a0 a1
def X54:Oe:=E2 (fun(x:ByteArray×Int)=> .tup [S x.1,I x.2]) 54 Jp cS (I3 L) fun a0 a1 r h=>hF Tryz.func54 (C:=Pw L) (oS _) L (fun kk=>eE ((ho (Agy L (Ab7 L kk a0 a1) a0.Vars a0 a1) fun o2=>Aiz L kk a0 a1 o2))) h
def Lw [An A ByteArray](a0:Ab)(a1:ByteArray):A:=
 (bd (I3 L a0 a1) fun r1=>
 (lf r1.1))
def Jx(a0:Ab)(a1:ByteArray):Option ByteArray:=Lw L a0 a1
def X26:Oe:=E2 S 26 Jp cS (Jx L) fun a0 a1 r h=>hF Tryz.func26 (oS [X54 L]) L (fun kk=>eE (Lw L a0 a1)) h
def Jn [An A Bool](L:Nat)(a0:Int)(a1:ByteArray):A:=
 (cn (a0 == 22)
 (lf (a1.toList == (⟨#[114,101,115,111,117,114,99,101]⟩:ByteArray).toList))
 (cn (a0 == 23)
 (lf (a1.toList == (⟨#[115,116,111,114,101]⟩:ByteArray).toList))
 (jp (.cn (a1.toList == (⟨#[114,101,115,111,117,114,99,101]⟩:ByteArray).toList)
 (.lf true)
 (.lf (a1.toList == (⟨#[113,117,101,117,101]⟩:ByteArray).toList))) (fun b1=>
 (lf b1)))))
def G9(a0:Int)(a1:ByteArray):Option Bool:=Jn L a0 a1
def X25:Oe:=E2 B 25 (cI .i64) cS (G9 L) fun a0 a1 r h=>hF Tryz.func25 (oS []) L (fun kk=>eE (Jn L a0 a1)) h
def Ib [An A Bool](L:Nat)(a0:Int):A:=
 (jp (.cn (a0 == 1)
 (.lf true)
 (.lf (a0 == 3))) (fun b1=>
 (lf b1)))
def Bo(a0:Int):Option Bool:=Ib L a0
def X55:Oe:=E1 B 55 (cI .i64) (Bo L) fun a0 r h=>hF Tryz.func55 (oS []) L (fun kk=>eE (Ib L a0)) h
def Kd [An A Int](a0:Int)(a1:Int):A:=
 (jb (.cn (a0 == 5)
 (.bd (Bo L a1) fun r2=>
 (.lf r2))
 (.lf false)) (fun b1=>
 (cn b1
 (cn b1
 (lf a1)
 (jp (.cn (a0 == 7)
 (.lf (a1 == 1))
 (.lf false)) (fun b3=>
 (cn b3
 (lf 3)
 (jp (.cn (a0 == 8)
 (.lf (a1 == 3))
 (.lf false)) (fun b4=>
 (cn b4
 (lf 1)
 (lf 0))))))))
 (jp (.cn (a0 == 6)
 (.lf (a1 == 2))
 (.lf false)) (fun b5=>
 (cn b5
 (lf a1)
 (jp (.cn (a0 == 7)
 (.lf (a1 == 1))
 (.lf false)) (fun b6=>
 (cn b6
 (lf 3)
 (jp (.cn (a0 == 8)
 (.lf (a1 == 3))
 (.lf false)) (fun b7=>
 (cn b7
 (lf 1)
 (lf 0)))))))))))))
def H7(a0:Int)(a1:Int):Option Int:=Kd L a0 a1
def X27:Oe:=E2 I 27 (cI .i64) (cI .i64) (H7 L) fun a0 a1 r h=>hF Tryz.func27 (oS [X55 L]) L (fun kk=>eE (Kd L a0 a1)) h
def L3:=CC Tryz.f28
def Td:Av:=oL [X55 L]
def Ac8(a1:Int)(a2:Int)(p802_3:Bool):St:=⟨[(1,I a1),(2,I a2),(6,I 0),(47,B p802_3)],[],0⟩
def Ach(e0:EC):D2:=(B7 2 (B7 0 (Hk (EV (Td L) L 9 e0) (Kj Tryz.prog (RS Tryz.f28) kk))))
def Ea [An A Int](L:Nat)(a1:Int)(a2:Int)(p802_3:Bool):A:=
 (cn p802_3
 (lf 1)
 (jp (.cn (a1 == 3)
 (.lf (a2 == 1))
 (.lf false)) (fun b9=>
 (cn b9
 (lf 3)
 (lf 0)))))
theorem Agh(a1:Int)(a2:Int)(p802_3:Bool):EV (Td L) L 9 L3.w.l.u.l.x.l.l.u (Ac8 a1 a2 p802_3) (Ach L kk L3.w.r)=ob (Ea L a1 a2 p802_3) (kQ I kk):=eE (Ea L a1 a2 p802_3)
def Ac9(a1:Int)(a2:Int)(p805_3:Bool):St:=⟨[(1,I a1),(2,I a2),(6,I 0),(78,B p805_3)],[],0⟩
def Aci(e0:EC):D2:=(B7 0 (Hk (EV (Td L) L 9 e0) (Kj Tryz.prog (RS Tryz.f28) kk)))
def Eb [An A Int](L:Nat)(a1:Int)(a2:Int)(p805_3:Bool):A:=
 (cn p805_3
 (jp (.cn (a1 == 2)
 (.lf (a2 == 2))
 (.lf false)) (fun b12=>
 (cn b12
 (lf 2)
 (lf 0))))
 (lf 0))
theorem Agk(a1:Int)(a2:Int)(p805_3:Bool):EV (Td L) L 9 L3.w.l.u.l.x.x.r (Ac9 a1 a2 p805_3) (Aci L kk L3.w.r)=ob (Eb L a1 a2 p805_3) (kQ I kk):=eE (Eb L a1 a2 p805_3)
def Xq(a1:Int)(a2:Int)(a0:Int)(p804_4:Bool):St:=⟨[(1,I a1),(2,I a2),(6,I 0),(14,I a0),(68,B p804_4)],[],0⟩
def W6(e0:EC):D2:=(B7 0 (Hk (EV (Td L) L 9 e0) (Kj Tryz.prog (RS Tryz.f28) kk)))
def sx_typing_binary_4 [An A Int](a1:Int)(a2:Int)(a0:Int)(p804_4:Bool)(nx5:Int→Int→Bool→A):A:=
 (cn p804_4
 (jb (.cn (a1 == a2)
 (.bd (Bo L a1) fun r11=>
 (.lf r11))
 (.lf false)) (fun b10=>
 (cn b10
 (lf 2)
 (lf 0))))
 (cn (a0 == 18)
 (nx5 a1 a2 (a0 == 18))
 (nx5 a1 a2 (a0 == 19))))
def Hp [An A Int](a1:Int)(a2:Int)(a0:Int)(p804_4:Bool):A:=sx_typing_binary_4 L a1 a2 a0 p804_4 (fun a1 a2 p805_3=>Eb L a1 a2 p805_3)
theorem Ago(a1:Int)(a2:Int)(a0:Int)(p804_4:Bool)(z5:EC):EV (Td L) L 9 (EC.put (rl [3]) z5 L3.w.l.u.l.x.w.u) (Xq a1 a2 a0 p804_4) (W6 L kk L3.w.r)= @sx_typing_binary_4 Prop L (anP (kQ I kk)) a1 a2 a0 p804_4 (fun a1 a2 p805_3=>EV (Td L) L 9 z5 (Ac9 a1 a2 p805_3) (Aci L kk L3.w.r)):=by kernel_rfl
theorem Agj(a1:Int)(a2:Int)(a0:Int)(p804_4:Bool):EV (Td L) L 9 L3.w.l.u.l.x.w.u (Xq a1 a2 a0 p804_4) (W6 L kk L3.w.r)=ob (Hp L a1 a2 a0 p804_4) (kQ I kk):=Eq.trans (b:=EV (Td L) L 9 (EC.put (rl [3]) L3.w.l.u.l.x.x.r L3.w.l.u.l.x.w.u) (Xq a1 a2 a0 p804_4) (W6 L kk L3.w.r)) (by kernel_rfl) ((Ago L kk a1 a2 a0 p804_4 L3.w.l.u.l.x.x.r).trans (eE (sx_typing_binary_4 L a1 a2 a0 p804_4 (fun a1 a2 p805_3=>re (Agk L kk a1 a2 p805_3)))))
def Xp(a1:Int)(a2:Int)(a0:Int)(p803_4:Bool):St:=⟨[(1,I a1),(2,I a2),(6,I 0),(14,I a0),(62,B p803_4)],[],0⟩
def W5(e0:EC):D2:=(B7 0 (Hk (EV (Td L) L 9 e0) (Kj Tryz.prog (RS Tryz.f28) kk)))
def sx_typing_binary_3 [An A Int](L:Nat)(a1:Int)(a2:Int)(a0:Int)(p803_4:Bool)(nx4:Int→Int→Int→Bool→A):A:=
 (cn p803_4
 (cn (a1 == a2)
 (lf 2)
 (lf 0))
 (cn (a0 == 16)
 (nx4 a1 a2 a0 (a0 == 16))
 (nx4 a1 a2 a0 (a0 == 17))))
def Hn [An A Int](a1:Int)(a2:Int)(a0:Int)(p803_4:Bool):A:=sx_typing_binary_3 L a1 a2 a0 p803_4 (fun a1 a2 a0 p804_4=>Hp L a1 a2 a0 p804_4)
theorem Agn(a1:Int)(a2:Int)(a0:Int)(p803_4:Bool)(z4:EC):EV (Td L) L 9 (EC.put (rl [3]) z4 L3.w.l.u.l.x.u.r) (Xp a1 a2 a0 p803_4) (W5 L kk L3.w.r)= @sx_typing_binary_3 Prop (anP (kQ I kk)) L a1 a2 a0 p803_4 (fun a1 a2 a0 p804_4=>EV (Td L) L 9 z4 (Xq a1 a2 a0 p804_4) (W6 L kk L3.w.r)):=by kernel_rfl
theorem Agi(a1:Int)(a2:Int)(a0:Int)(p803_4:Bool):EV (Td L) L 9 L3.w.l.u.l.x.u.r (Xp a1 a2 a0 p803_4) (W5 L kk L3.w.r)=ob (Hn L a1 a2 a0 p803_4) (kQ I kk):=Eq.trans (b:=EV (Td L) L 9 (EC.put (rl [3]) L3.w.l.u.l.x.w.u L3.w.l.u.l.x.u.r) (Xp a1 a2 a0 p803_4) (W5 L kk L3.w.r)) (by kernel_rfl) ((Agn L kk a1 a2 a0 p803_4 L3.w.l.u.l.x.w.u).trans (eE (sx_typing_binary_3 L a1 a2 a0 p803_4 (fun a1 a2 a0 p804_4=>re (Agj L kk a1 a2 a0 p804_4)))))
def Xo(a1:Int)(a2:Int)(b1:Bool)(a0:Int)(p801_5:Bool):St:=⟨[(1,I a1),(2,I a2),(6,I 0),(7,B b1),(14,I a0),(15,B p801_5)],[],0⟩
def W4(e0:EC):D2:=(B7 0 (Hk (EV (Td L) L 9 e0) (Kj Tryz.prog (RS Tryz.f28) kk)))
def sx_typing_binary_1 [An A Int](a1:Int)(a2:Int)(b1:Bool)(a0:Int)(p801_5:Bool)(nx2:Int→Int→Bool→A)(nx3:Int→Int→Int→Bool→A):A:=
 (cn p801_5
 (jb (.cn (a1 == a2)
 (.bd (Bo L a1) fun r3=>
 (.lf r3))
 (.lf false)) (fun b2=>
 (cn b2
 (lf a1)
 (lf 0))))
 (cn (a0 == 11)
 (cn b1
 (lf 1)
 (bd (Bo L a1) fun r4=>
 (jb (.cn r4
 (.bd (Bo L a2) fun r6=>
 (.lf r6))
 (.lf false)) (fun b5=>
 (jp (.cn b5
 (.lf (a1 != a2))
 (.lf false)) (fun b7=>
 (cn b7
 (lf 3)
 (lf 0))))))))
 (cn (a0 == 12)
 (cn b1
 (nx2 a1 a2 b1)
 (jp (.cn (a1 == 3)
 (.lf (a2 == 3))
 (.lf false)) (fun b8=>
 (nx2 a1 a2 b8))))
 (cn (a0 == 14)
 (nx3 a1 a2 a0 (a0 == 14))
 (nx3 a1 a2 a0 (a0 == 15))))))
def Hm [An A Int](a1:Int)(a2:Int)(b1:Bool)(a0:Int)(p801_5:Bool):A:=sx_typing_binary_1 L a1 a2 b1 a0 p801_5 (fun a1 a2 p802_3=>Ea L a1 a2 p802_3) (fun a1 a2 a0 p803_4=>Hn L a1 a2 a0 p803_4)
theorem Agm(a1:Int)(a2:Int)(b1:Bool)(a0:Int)(p801_5:Bool)(z2 z3:EC):EV (Td L) L 9 (EC.put (rl [9]) z3 (EC.put (rl [6,2,2]) z2 L3.w.l.u.l.u)) (Xo a1 a2 b1 a0 p801_5) (W4 L kk L3.w.r)= @sx_typing_binary_1 Prop L (anP (kQ I kk)) a1 a2 b1 a0 p801_5 (fun a1 a2 p802_3=>EV (Td L) L 9 z2 (Ac8 a1 a2 p802_3) (Ach L kk L3.w.r)) (fun a1 a2 a0 p803_4=>EV (Td L) L 9 z3 (Xp a1 a2 a0 p803_4) (W5 L kk L3.w.r)):=by kernel_rfl
theorem Agg(a1:Int)(a2:Int)(b1:Bool)(a0:Int)(p801_5:Bool):EV (Td L) L 9 L3.w.l.u.l.u (Xo a1 a2 b1 a0 p801_5) (W4 L kk L3.w.r)=ob (Hm L a1 a2 b1 a0 p801_5) (kQ I kk):=Eq.trans (b:=EV (Td L) L 9 (EC.put (rl [9]) L3.w.l.u.l.x.u.r (EC.put (rl [6,2,2]) L3.w.l.u.l.x.l.l.u L3.w.l.u.l.u)) (Xo a1 a2 b1 a0 p801_5) (W4 L kk L3.w.r)) (by kernel_rfl) ((Agm L kk a1 a2 b1 a0 p801_5 L3.w.l.u.l.x.l.l.u L3.w.l.u.l.x.u.r).trans (eE (sx_typing_binary_1 L a1 a2 b1 a0 p801_5 (fun a1 a2 p802_3=>re (Agh L kk a1 a2 p802_3)) (fun a1 a2 a0 p803_4=>re (Agi L kk a1 a2 a0 p803_4)))))
def sx_typing_binary_0 [An A Int](L:Nat)(a0:Int)(a1:Int)(a2:Int)(nx1:Int→Int→Bool→Int→Bool→A):A:=
 (jp (.cn (a1 == 1)
 (.lf (a2 == 1))
 (.lf false)) (fun b1=>
 (cn (a0 == 9)
 (nx1 a1 a2 b1 a0 (a0 == 9))
 (cn (a0 == 10)
 (nx1 a1 a2 b1 a0 (a0 == 10))
 (cn (a0 == 13)
 (nx1 a1 a2 b1 a0 (a0 == 13))
 (cn (a0 == 20)
 (nx1 a1 a2 b1 a0 (a0 == 20))
 (nx1 a1 a2 b1 a0 (a0 == 21))))))))
def Mj [An A Int](a0:Int)(a1:Int)(a2:Int):A:=sx_typing_binary_0 L a0 a1 a2 (fun a1 a2 b1 a0 p801_5=>Hm L a1 a2 b1 a0 p801_5)
theorem Agl(a0:Int)(a1:Int)(a2:Int)(z1:EC):EW (Td L) L 9 (RS Tryz.f28) (EC.put (rl [4,1,2,1,2]) z1 L3) [I a0,I a1,I a2] kk= @sx_typing_binary_0 Prop (anP (kQ I kk)) L a0 a1 a2 (fun a1 a2 b1 a0 p801_5=>EV (Td L) L 9 z1 (Xo a1 a2 b1 a0 p801_5) (W4 L kk L3.w.r)):=by kernel_rfl
def G8(a0:Int)(a1:Int)(a2:Int):Option Int:=Mj L a0 a1 a2
def X28:Oe:=E3 I 28 (cI .i64) (cI .i64) (cI .i64) (G8 L) fun a0 a1 a2 r h=>hF Tryz.func28 (C:=Td L) (oS _) L (fun kk=>Eq.trans (b:=EW (Td L) L 9 (RS Tryz.f28) (EC.put (rl [4,1,2,1,2]) L3.w.l.u.l.u L3) [I a0,I a1,I a2] kk) (by kernel_rfl) ((Agl L kk a0 a1 a2 L3.w.l.u.l.u).trans (eE (sx_typing_binary_0 L a0 a1 a2 (fun a1 a2 b1 a0 p801_5=>re (Agg L kk a1 a2 b1 a0 p801_5)))))) h
def Ad5(F:Ae→Aa→Option Ep):Prop:=∀y0 y1 r,F y0 y1=some r→Ho Tryz.prog 17 [Iy.en y0,Bd.en y1] (fun(x:Ep)=> .tup [I x.1,I x.2]) r
def c17:=CC Tryz.f17
def O17(Bv:Ae→Aa→Option Ep)(L:Nat):Av:=(orc 17 (A2 (fun(x:Ep)=> .tup [I x.1,I x.2]) Iy Bd Bv) (oL [X6 L,X25 L,X26 L,X27 L,X28 L]))
theorem s17(Bv:Ae→Aa→Option Ep)(Agu:Ad5 Bv)(L:Nat):Bu Tryz.prog (O17 Bv L):=(Hu (a2 _ Agu) (oS [X6 L,X25 L,X26 L,X27 L,X28 L]))
def Aki(kk:Mw):Ep→Prop:=fun x=>kk ((fun(x:Ep)=> .tup [I x.1,I x.2]) x)
def Adb(a1:Aa)(a0:Ae)(v:Int×Int×List Int×Int):St:=⟨[(0,.any),(1,.any),(2,.loc 2 0),(3,.loc 3 0),(4,I v.1),(5,I v.2.1),(6,.lst true (.t39 v.2.2.1)),(11,.any),(12,.any),(13,.any),(15,lv (.t38 a1.Kids)),(16,I (a1.Kids.length:Int)),(17,I v.2.2.2),(35,.any),(49,.any),(62,.any),(72,.any),(85,.any),(89,.any),(93,.any)],[(2,(Ht a0)),(3,(Bf a1))],0⟩
def Gc [An A (Nat×Int×Int×List Int×Int)](Bv:Ae→Aa→Option Ep)(L:Nat)(a1:Aa)(a0:Ae)(rec:Int→Int→List Int→Int→A)(B8:Int)(Aq:Int)(Bm:List Int)(Lp:Int):A:=
 (lw Lp a1.Kids
 (bd (Bv a0 (Aa.cp (a1.Kids.getD (Int.toNat Lp) default))) fun r1=>
 (cn (r1.2 != 0)
 (lf (0,0,r1.2,Bm,Lp))
 (gq ((Bm.length+ [r1.1].length)*8≤140737488355328)
 (gq (Bm.length+ [r1.1].length≤maxLen)
 (rec B8 Aq (Bm++ [r1.1]) (Mu (Lp+1)))))))
 (lf (1,B8,Aq,Bm,Lp)))
def Ch(Bv:Ae→Aa→Option Ep)(L:Nat)(a1:Aa)(a0:Ae):Nat→Int→Int→List Int→Int→Option (Nat×Int×Int×List Int×Int)
 |0,_,_,_,_=>none
 |n+1,B8,Aq,Bm,Lp=>Gc Bv L a1 a0 (Ch Bv L a1 a0 n) B8 Aq Bm Lp
theorem Ag7(Bv:Ae→Aa→Option Ep)(L:Nat)(K:D2)(a1:Aa)(a0:Ae):LP (EV (O17 Bv L) L 9 c17.w.l.u.l.l) [0,1,2,3,4,5,6,11,12,13,15,16,17,35,49,62,72,85,89,93] [2,3] (Adb a1 a0) [.ret,.exit 0] (fun n v=>Ch Bv L a1 a0 n v.1 v.2.1 v.2.2.1 v.2.2.2) K:=lE (fun _=>rfl) fun n v ih=>eE (Gc Bv L a1 a0 (fun B8 Aq Bm Lp=>re (ih (B8,Aq,Bm,Lp))) v.1 v.2.1 v.2.2.1 v.2.2.2)
def D0 [An A Ep](Bv:Ae→Aa→Option Ep)(L:Nat)(a1:Aa)(a0:Ae)(o2:Nat×Int×Int×List Int×Int):A:=
 (sl o2.1 [(lf (o2.2.1,o2.2.2.1)),
 (cn (a1.Op == 3)
 (bd (Gz L a0 a1.Name) fun r3=>
 (cn (!r3.2)
 (lf (0,5))
 (lf (r3.1,0))))
 (cn (decide (a1.Op≥22))
 (bd (Jx L a0.Site a1.Name) fun r4=>
 (bd (G9 L a1.Op r4) fun r5=>
 (cn (!r5)
 (lf (0,5))
 (lf (1,0)))))
 (cn ((o2.2.2.2.1.length:Int) == 1)
 (gi 0 o2.2.2.2.1
 (bd (H7 L a1.Op (o2.2.2.2.1.getD 0 default)) fun r6=>
 (cn (r6 == 0)
 (lf (0,10))
 (lf (r6,0)))))
 (cn ((o2.2.2.2.1.length:Int) == 2)
 (gi 0 o2.2.2.2.1
 (gi 1 o2.2.2.2.1
 (bd (G8 L a1.Op (o2.2.2.2.1.getD 0 default) (o2.2.2.2.1.getD 1 default)) fun r7=>
 (cn (r7 == 0)
 (lf (0,10))
 (lf (r7,0))))))
 (cn (a1.Op == 1)
 (lf (1,0))
 (cn (a1.Op == 2)
 (lf (2,0))
 (cn (a1.Op == 4)
 (lf (3,0))
 (lf (0,10)))))))))])
def Ab1(Bv:Ae→Aa→Option Ep)(L:Nat)(kk:Mw):D2:=(B7 0 (Hk (EV (O17 Bv L) L 9 c17.w.r) (Kj Tryz.prog (RS Tryz.f17) kk)))
theorem Ait(Bv:Ae→Aa→Option Ep)(L:Nat)(kk:Mw)(a1:Aa)(a0:Ae)(o2:Nat×Int×Int×List Int×Int):kX [.ret,.exit 0] (Adb a1 a0) (Ab1 Bv L kk) o2=ob (D0 Bv L a1 a0 o2) (Aki kk):=eE (D0 Bv L a1 a0 o2)
def Oj [An A Ep](Bv:Ae→Aa→Option Ep)(L:Nat)(a0:Ae)(a1:Aa):A:=(bd (Ch Bv L a1 a0 L 0 0 [] 0) fun o2=>D0 Bv L a1 a0 o2)
def K3(Bv:Ae→Aa→Option Ep)(L:Nat)(a0:Ae)(a1:Aa):Option Ep:=Oj Bv L a0 a1
theorem b17(Bv:Ae→Aa→Option Ep)(Agu:Ad5 Bv)(L:Nat):Ad5 (K3 Bv L):=fun a0 a1 r h=>hF Tryz.func17 (s17 Bv Agu L) L (fun kk=>eE ((ho (Ag7 Bv L (Ab1 Bv L kk) a1 a0 L (0,0,[],0)) fun o2=>Ait Bv L kk a1 a0 o2))) h
def Co:Nat→Ae→Aa→Option Ep
 |0,_,_=>none
 |L+1,a0,a1=>K3 (Co L) L a0 a1
theorem Agq(L:Nat):Ad5 (Co L):=by
 induction L with
 |zero=>exact fun _ _ _ h=>(by cases h)
 |succ L ih=>
  have i17:=ih
  exact b17 (Co L) i17 L
def X17(L:Nat):Oe:=E2 (fun(x:Ep)=> .tup [I x.1,I x.2]) 17 Iy Bd (Co L) (Agq L)
def K6 [An A Ep](a0:Ae)(a1:Aa):A:=
 (bd (D4 L (Aa.cp a1)) fun r1=>
 (cn (r1 != 0)
 (lf (0,r1))
 (bd (Co L a0 (Aa.cp a1)) fun r2=>
 (lf (r2.1,r2.2)))))
def Gy(a0:Ae)(a1:Aa):Option Ep:=K6 L a0 a1
def X8:Oe:=E2 (fun(x:Ep)=> .tup [I x.1,I x.2]) 8 Iy Bd (Gy L) fun a0 a1 r h=>hF Tryz.func8 (oS [X13 L,X17 L]) L (fun kk=>eE (K6 L a0 a1)) h
def Hq(L:Nat):Option Bool:=some true
def oA5:Av:=orN [(4,X4 100),(12,X12 100),(6,X6 100),(40,X40 100),(41,X41 100),(142,Age 100),(141,Ah2 100),(22,X22 100),(143,Ah3 100),(138,Ah1 100),(144,Ah4 100),(67,X67 100),(68,X68 100),(33,X33 100),(105,Agd 100),(42,X42 100),(21,X21 100),(13,X13 100),(120,Ah0 100),(65,X65 100),(54,X54 100),(26,X26 100),(25,X25 100),(55,X55 100),(27,X27 100),(28,X28 100),(17,X17 100),(8,X8 100)]
def iA5:Nat→Bool:=fun f=>inL f [34,35,36,37,69,70,71,72,73,74,75,76,77,81,82,83,84,85,86,87,88,89,90,91,92,93,94,96,97,98,100,102,103,112,113,114,115,116,117,118,119,121,127,128,133,134,135,136,139,140,149,150,151,152,153,154,155,156]
def nA5:Nat→Bool:=fun f=>inL f [4,12,6,40,41,142,141,22,143,138,144,67,68,33,105,42,21,13,120,65,54,26,25,55,27,28,17,8]
def mdl:Vn:=⟨⟨#[109]⟩,[],[⟨⟨#[97]⟩,[⟨⟨#[107]⟩,1,0⟩],[],[],[],[],[],[],[],[],[⟨⟨#[112]⟩,[],[],[]⟩],[],[]⟩],[]⟩
def sta(x:Af):List PV:= [.agg (Jc mdl),I 0,.val (.slice none 0 0),.lst false (.t68 [x])]
def sA:Af:= .mk 5 ⟨#[]⟩ ⟨#[]⟩ (.mk 1 ⟨#[]⟩ 5 []) (.mk 0 ⟨#[]⟩ 0 []) [] ⟨0,0,0,0,[],[]⟩ false [] []
def sB:Af:= .mk 13 ⟨#[112]⟩ ⟨#[97]⟩ (.mk 7 ⟨#[]⟩ 0 [.mk 1 ⟨#[]⟩ 1 []]) (.mk 0 ⟨#[]⟩ 0 []) [] ⟨0,0,0,0,[],[]⟩ false [] []
theorem ru1:Holds Tryz.prog 10 (sta sA) (I 10):=Rk (inl:=iA5) (nb:=nA5) (base:=oA5) Yt mixed (N2 _ (by kernel_rfl)) 100 9 40 (fun kk=>by kernel_rfl)
theorem ru2:Holds Tryz.prog 10 (sta sB) (I 16):=Rk (inl:=iA5) (nb:=nA5) (base:=oA5) Yt mixed (N2 _ (by kernel_rfl)) 100 9 40 (fun kk=>by kernel_rfl)
theorem ru3:Holds Tryz.prog 11 [.agg (Jc mdl)] (I 0):=Rk (inl:=iA5) (nb:=nA5) (base:=oA5) Yt mixed (N2 _ (by kernel_rfl)) 100 9 40 (fun kk=>by kernel_rfl)
def AS:List PV→(PV→Prop)→Prop:=fun args k=>match args with
 | [_,_,_,.lst false (.t68 [x])]=>bif x.Op == 5 then (args=sta sA∧k (I 10)) else (args=sta sB∧k (I 16))
 |_=>False
def AM:List PV→(PV→Prop)→Prop:=fun args k=>args= [.agg (Jc mdl)]∧k (I 0)
theorem aS:∀args k,AS args k→∃r,Holds Tryz.prog 10 args r∧k r:=by
 intro args k h
 unfold AS at h
 split at h
 ·rename_i x
  cases hv:(x.Op == 5) with
  |true=>rw [hv] at h;exact ⟨_,h.1 ▸ ru1,h.2⟩
  |false=>rw [hv] at h;exact ⟨_,h.1 ▸ ru2,h.2⟩
 ·exact h.elim
theorem aM:∀args k,AM args k→∃r,Holds Tryz.prog 11 args r∧k r:=fun args k h=>⟨_,h.1 ▸ ru3,h.2⟩
def oB5:Av:=orc 10 AS (orc 11 AM oA5)
def nB5:Nat→Bool:=fun f=>inL f [10,11] || nA5 f
theorem Aji{f:Nat}{args:List PV}{r:PV}(W:Prop→Prop)(hW:∀p,p→W p)(h:∀kk,Aau Tryz.prog iA5 grw nB5 oB5 100 9 40 f args kk=W (kk r)):Holds Tryz.prog f args r:=by
 obtain ⟨r',h1,h2⟩:=Ur (inl:=iA5) (nb:=nB5) (base:=oB5) Yt mixed (Hu aS (Hu aM (N2 _ (by kernel_rfl)))) 100 9 40 f args (fun p=>p=r) (by rw [h];exact hW _ rfl)
 subst h2;exact h1
def X5(L:Nat):Oe:=E0 B 5 (Hq L) fun r h=>by
 injection h with h
 subst h
 exact Aji (fun p=>sta sA=sta sA∧sta sB=sta sB∧([.agg (Jc mdl)]:List PV)= [.agg (Jc mdl)]∧p) (fun p hp=>⟨rfl,rfl,rfl,hp⟩) (fun kk=>by kernel_rfl)
def c3:=CC Tryz.f3
def O3:Av:=oL [X4 L,X5 L,X6 L,X7 L,X8 L]
def Af5(r5:List ByteArray)(a0:Ae)(a1:Aa)(a2:Ai)(v:Bool×Int):St:=⟨[(0,.any),(1,.any),(2,.any),(3,.loc 3 0),(4,.loc 4 0),(5,.loc 5 0),(6,B v.1),(7,.loc 7 0),(8,.any),(9,.any),(12,.any),(13,.any),(14,.any),(15,.any),(45,lv (.t9 r5)),(46,I (r5.length:Int)),(47,I v.2)],[(3,(Ht a0)),(4,(Bf a1)),(5,(Jb a2)),(7,[lv (.t52 a0.Params),.lst true (.t41 (a0.Locals++ [(⟨a2.Name,a2.Type_⟩:Ai)])),S a0.Site.Name,lv (.t52 a0.Site.Vars),lv (.t139 a0.Site.Resources),lv (.t146 a0.Site.Stores),lv (.t150 a0.Site.Belts),lv (.t9 a0.Site.Queues),lv (.t9 a0.Site.Streams),lv (.t9 a0.Site.Tallies),lv (.t9 a0.Site.Levels),lv (.t9 a0.Site.Counts),lv (.t55 a0.Site.Routines),lv (.t156 a0.Site.Starts),lv (.t202 a0.Site.Laws)])],0⟩
def Dk [An A (Nat×Bool×Int)](r5:List ByteArray)(a0:Ae)(a1:Aa)(a2:Ai)(rec:Bool→Int→A)(B8:Bool)(Bn:Int):A:=
 (lw Bn r5
 (cn ((r5.getD (Int.toNat Bn) default).toList == a2.Name.toList)
 (bd (Hq L) fun r6=>
 (lf (0,r6,Bn)))
 (rec B8 (Mu (Bn+1))))
 (lf (1,B8,Bn)))
def Bj(L:Nat)(r5:List ByteArray)(a0:Ae)(a1:Aa)(a2:Ai):Nat→Bool→Int→Option (Nat×Bool×Int)
 |0,_,_=>none
 |n+1,B8,Bn=>Dk L r5 a0 a1 a2 (Bj L r5 a0 a1 a2 n) B8 Bn
theorem Aig(r5:List ByteArray)(a0:Ae)(a1:Aa)(a2:Ai):LP (EV (O3 L) L 9 c3.x.w.l.u.l.l) [0,1,2,3,4,5,6,7,8,9,12,13,14,15,45,46,47] [3,4,5,7] (Af5 r5 a0 a1 a2) [.ret,.exit 0] (fun n v=>Bj L r5 a0 a1 a2 n v.1 v.2) K:=lE (fun _=>rfl) fun n v ih=>eE (Dk L r5 a0 a1 a2 (fun B8 Bn=>re (ih (B8,Bn))) v.1 v.2)
def Ct [An A Bool](a0:Ae)(a1:Aa)(a2:Ai)(o7:Nat×Bool×Int):A:=
 (sl o7.1 [(lf o7.2.1),
 (bd (Gy L a0 (Aa.cp a1)) fun r8=>
 (bd (Gy L (⟨a0.Params,(a0.Locals++ [(⟨a2.Name,a2.Type_⟩:Ai)]),a0.Site⟩:Ae) (Aa.cp a1)) fun r9=>
 (jp (.cn (r8.1 == r9.1)
 (.lf (r8.2 == r9.2))
 (.lf false)) (fun b10=>
 (jb (.cn b10
 (.bd (Hq L) fun r12=>
 (.lf r12))
 (.lf false)) (fun b11=>
 (lf b11)))))))])
def Afj:D2:=(B7 0 (Hk (EV (O3 L) L 9 c3.x.w.r) (Kj Tryz.prog (RS Tryz.f3) kk)))
theorem Akm(r5:List ByteArray)(a0:Ae)(a1:Aa)(a2:Ai)(o7:Nat×Bool×Int):kX [.ret,.exit 0] (Af5 r5 a0 a1 a2) (Afj L kk) o7=ob (Ct L a0 a1 a2 o7) (kQ B kk):=eE (Ct L a0 a1 a2 o7)
def Dq [An A Bool](a0:Ae)(a1:Aa)(a2:Ai)(nx1:(List ByteArray)→A):A:=
 (bd (Kq L a0) fun r1=>
 (cn (!r1)
 (bd (Hq L) fun r2=>
 (lf r2))
 (gq ((0+a0.Locals.length)*24≤140737488355328)
 (gq (0+a0.Locals.length≤maxLen)
 (gq ((a0.Locals.length+ [(⟨a2.Name,a2.Type_⟩:Ai)].length)*24≤140737488355328)
 (gq (a0.Locals.length+ [(⟨a2.Name,a2.Type_⟩:Ai)].length≤maxLen)
 (bd (Gz L (⟨a0.Params,(a0.Locals++ [(⟨a2.Name,a2.Type_⟩:Ai)]),a0.Site⟩:Ae) a2.Name) fun r3=>
 (jp (.cn (r3.1 != a2.Type_)
 (.lf true)
 (.lf (!r3.2))) (fun b4=>
 (cn b4
 (lf false)
 (bd (H3 L (Aa.cp a1)) fun r5=>
 (nx1 r5))))))))))))
def Kt [An A Bool](a0:Ae)(a1:Aa)(a2:Ai):A:=Dq L a0 a1 a2 (fun r5=>bd (Bj L r5 a0 a1 a2 L false 0) fun o7=>Ct L a0 a1 a2 o7)
def H2(a0:Ae)(a1:Aa)(a2:Ai):Option Bool:=Kt L a0 a1 a2
theorem h3(a0:Ae)(a1:Aa)(a2:Ai)(r:Bool)(h:H2 L a0 a1 a2=some r):Holds Tryz.prog 3 [.agg (Ht a0),.agg (Bf a1),.agg (Jb a2)] (B r):=(show Ho Tryz.prog 3 [.agg (Ht a0),.agg (Bf a1),.agg (Jb a2)] B r from hF Tryz.func3 (C:=O3 L) (oS _) L (fun kk=>eE (Dq L a0 a1 a2 (fun r5=>ho (Aig L (Afj L kk) r5 a0 a1 a2 L (false,0)) fun o7=>Akm L kk r5 a0 a1 a2 o7))) h)
end
end Go.Proofs.YtmimkinjcfekmaaGreat.Ev
