import Derived.Test.YtofcpkmnhmnfcaaGreatRG3
import Derived.Test.YtofcpkmnhmnfcaaGreatRG4
namespace Go.Proofs.YtofcpkmnhmnfcaaGreatR.Ev
open Go An
set_option maxRecDepth 100000
set_option maxHeartbeats 4000000
set_option linter.unusedVariables false
set_option linter.unusedSimpArgs false
set_option linter.unnecessarySimpa false
noncomputable section
variable {A:Type} (L n:Nat) (kk:Cz) (K:Ba) (k:Bq)
def B06:=CC Tryz.f165
def Bsl:=CC Tryz.f219
def B07:=CC Tryz.f181
def Apb:Bd:=oL [Bjl L,Br1 L,B98 L]
def Bdr:Ba:=(Av 0 (Be (EV (Apb L) L 9 B07.w.r) (Cp Tryz.prog (RS Tryz.f181) kk)))
def Bdo(a0:Aa)(a1:Ay)(kk:Cz):Bq:=(B4 Tryz.prog (Apb L) (EI (Apb L) L 8) 2 (List.drop 3 Bsl.u.l.ops) ⟨[(6,.clo 220 0 [.loc 3 0]),(5,lv (.t113 a0.Stores)),(0,lv (.t113 a0.Stores)),(1,.clo 220 0 [.loc 3 0]),(4,B false)],[(2,(Af a0)),(3,(H0 a1))],4⟩ (some 7) (fun st9=>(Be (EV (Apb L) L 8 Bsl.u.r) (Eb Tryz.prog (RS Tryz.f219) (B4 Tryz.prog (Apb L) (EI (Apb L) L 9) 1 (List.drop 4 B07.w.l.u.l.w.r.l.ops) ⟨[(23,.clo 220 0 [.loc 3 0]),(22,lv (.t113 a0.Stores)),(21,.loc 2 3),(2,.loc 2 0),(3,.loc 3 0),(4,I 0),(5,B false),(7,S a1.What),(17,B (a1.What.toList == (⟨#[101,110,116,101,114,101,100]⟩:ByteArray).toList))],[(2,(Af a0)),(3,(H0 a1))],0⟩ (some 24) (fun st9=>(Bdr L kk) .normal st9)))) .normal st9))
def Bdp(a0:Aa)(a1:Ay)(kk:Cz):Bq:=(B4 Tryz.prog (Apb L) (EI (Apb L) L 8) 2 (List.drop 3 Bsl.u.l.ops) ⟨[(6,.clo 220 0 [.loc 3 0]),(5,lv (.t113 a0.Stores)),(0,lv (.t113 a0.Stores)),(1,.clo 220 0 [.loc 3 0]),(4,B false)],[(2,(Af a0)),(3,(H0 a1))],4⟩ (some 7) (fun st9=>(Be (EV (Apb L) L 8 Bsl.u.r) (Eb Tryz.prog (RS Tryz.f219) (B4 Tryz.prog (Apb L) (EI (Apb L) L 9) 1 (List.drop 4 B07.w.l.u.l.w.r.l.ops) ⟨[(23,.clo 220 0 [.loc 3 0]),(22,lv (.t113 a0.Stores)),(21,.loc 2 3),(2,.loc 2 0),(3,.loc 3 0),(4,I 0),(5,B false),(7,S a1.What),(17,B (a1.What.toList == (⟨#[115,116,111,114,101,100]⟩:ByteArray).toList))],[(2,(Af a0)),(3,(H0 a1))],0⟩ (some 24) (fun st9=>(Bdr L kk) .normal st9)))) .normal st9))
def Bdq(a0:Aa)(a1:Ay)(kk:Cz):Bq:=(B4 Tryz.prog (Apb L) (EI (Apb L) L 8) 2 (List.drop 3 Bsl.u.l.ops) ⟨[(6,.clo 220 0 [.loc 3 0]),(5,lv (.t113 a0.Stores)),(0,lv (.t113 a0.Stores)),(1,.clo 220 0 [.loc 3 0]),(4,B false)],[(2,(Af a0)),(3,(H0 a1))],4⟩ (some 7) (fun st9=>(Be (EV (Apb L) L 8 Bsl.u.r) (Eb Tryz.prog (RS Tryz.f219) (B4 Tryz.prog (Apb L) (EI (Apb L) L 9) 1 (List.drop 4 B07.w.l.u.l.w.r.l.ops) ⟨[(23,.clo 220 0 [.loc 3 0]),(22,lv (.t113 a0.Stores)),(21,.loc 2 3),(2,.loc 2 0),(3,.loc 3 0),(4,I 0),(5,B false),(7,S a1.What),(17,B (a1.What.toList == (⟨#[108,101,102,116]⟩:ByteArray).toList))],[(2,(Af a0)),(3,(H0 a1))],0⟩ (some 24) (fun st9=>(Bdr L kk) .normal st9)))) .normal st9))
def Bqs(p1_0:List Ar)(p1_1:Aa)(p1_2:Ay)(v:Cs):St:=⟨[(0,lv (.t113 p1_0)),(1,.clo 220 0 [.loc 3 0]),(4,I v.1),(7,I (p1_0.length:Int)),(8,I v.2)],[(2,(Af p1_1)),(3,(H0 p1_2))],4⟩
def Abp [An A Cm](L:Nat)(p1_0:List Ar)(p1_1:Aa)(p1_2:Ay)(rec:Int→Int→A)(Ai:Int)(Aj:Int):A:=
 (lw Aj p1_0
 (cn (((p1_0.getD (Int.toNat Aj) default).Name).toList == p1_2.Name.toList)
 (lf (0,Aj,Aj))
 (rec Ai (B7 (Aj+1))))
 (lf (1,Ai,Aj)))
def No(L:Nat)(p1_0:List Ar)(p1_1:Aa)(p1_2:Ay):Nat→Int→Int→Option Cm
 |0,_,_=>none
 |n+1,Ai,Aj=>Abp L p1_0 p1_1 p1_2 (No L p1_0 p1_1 p1_2 n) Ai Aj
theorem B49(p1_0:List Ar)(p1_1:Aa)(p1_2:Ay):LP (EV (Apb L) L 7 B06.u.l.u.l.l) [0,1,4,7,8] [2,3] (Bqs p1_0 p1_1 p1_2) [.ret,.exit 0] (fun n v=>No L p1_0 p1_1 p1_2 n v.1 v.2) K:=lE (fun _=>rfl) fun n v ih=>eE (Abp L p1_0 p1_1 p1_2 (fun Ai Aj=>re (ih (Ai,Aj))) v.1 v.2)
def Adc(p1_0:List Ar)(p1_1:Aa)(p1_2:Ay)(k:Bq):Int→Prop:=fun o=>k (I o) [(2,(Af p1_1)),(3,(H0 p1_2))]
def Ab0 [An A Int](L:Nat)(o4:Nat×Cs):A:=
 (sl o4.1 [(lf o4.2.1),
 (lf (-1))])
def Bnf:Ba:=(Av 0 (Be (EV (Apb L) L 7 B06.u.r) (Eb Tryz.prog (RS Tryz.f165) k)))
theorem Cez(p1_0:List Ar)(p1_1:Aa)(p1_2:Ay)(o4:Nat×Cs):kX [.ret,.exit 0] (Bqs p1_0 p1_1 p1_2) (Bnf L k) o4=ob (Ab0 L o4) (Adc p1_0 p1_1 p1_2 k):=eE (Ab0 L o4)
def Asm [An A Int](p1_0:List Ar)(p1_1:Aa)(p1_2:Ay):A:=(bd (No L p1_0 p1_1 p1_2 L 0 0) fun o4=>Ab0 L o4)
def F0(p1_0:List Ar)(p1_1:Aa)(p1_2:Ay):Option Int:=Asm L p1_0 p1_1 p1_2
theorem Alc(p1_0:List Ar)(p1_1:Aa)(p1_2:Ay):YO (Apb L) L 8 165 [lv (.t113 p1_0),.clo 220 0 [.loc 3 0]] [(2,(Af p1_1)),(3,(H0 p1_2))] k=ob (F0 L p1_0 p1_1 p1_2) (Adc p1_0 p1_1 p1_2 k):=(C3 _ _ _ jn4 _ _ _ _ _ _ _).trans (eE ((ho (B49 L (Bnf L k) p1_0 p1_1 p1_2 L (0,0)) fun o4=>Cez L k p1_0 p1_1 p1_2 o4)))
def Wt [An A Int](a1:Ay)(o38:Int):A:=
 (cn (!(decide (o38≥0)))
 (lf 5)
 (bd (Bh L a1.Coef (-1000) 1000) fun r39=>
 (jp (.cn (!r39)
 (.lf true)
 (.lf (a1.Coef == 0))) (fun b40=>
 (cn b40
 (lf 2)
 (lf 0))))))
def Bng(a0:Aa)(a1:Ay):Bq:=(Bdp L a0 a1 kk)
theorem Ce0(a0:Aa)(a1:Ay)(o38:Int):Adc a0.Stores a0 a1 (Bng L kk a0 a1) o38=ob (Wt L a1 o38) (kQ I kk):=eE (Wt L a1 o38)
def Wu [An A Int](a1:Ay)(o41:Int):A:=
 (cn (!(decide (o41≥0)))
 (lf 5)
 (bd (Bh L a1.Coef (-1000) 1000) fun r42=>
 (jp (.cn (!r42)
 (.lf true)
 (.lf (a1.Coef == 0))) (fun b43=>
 (cn b43
 (lf 2)
 (lf 0))))))
def Bnh(a0:Aa)(a1:Ay):Bq:=(Bdo L a0 a1 kk)
theorem Ce1(a0:Aa)(a1:Ay)(o41:Int):Adc a0.Stores a0 a1 (Bnh L kk a0 a1) o41=ob (Wu L a1 o41) (kQ I kk):=eE (Wu L a1 o41)
def Wv [An A Int](a1:Ay)(o44:Int):A:=
 (cn (!(decide (o44≥0)))
 (lf 5)
 (bd (Bh L a1.Coef (-1000) 1000) fun r45=>
 (jp (.cn (!r45)
 (.lf true)
 (.lf (a1.Coef == 0))) (fun b46=>
 (cn b46
 (lf 2)
 (lf 0))))))
def Bni(a0:Aa)(a1:Ay):Bq:=(Bdq L a0 a1 kk)
theorem Ce2(a0:Aa)(a1:Ay)(o44:Int):Adc a0.Stores a0 a1 (Bni L kk a0 a1) o44=ob (Wv L a1 o44) (kQ I kk):=eE (Wv L a1 o44)
def Ww [An A Int](a1:Ay)(o47:Int):A:=
 (cn (!(decide (o47≥0)))
 (lf 5)
 (bd (Bh L a1.Coef (-1000) 1000) fun r48=>
 (jp (.cn (!r48)
 (.lf true)
 (.lf (a1.Coef == 0))) (fun b49=>
 (cn b49
 (lf 2)
 (lf 0))))))
def Bnj(a0:Aa)(a1:Ay):Bq:=(Bdp L a0 a1 kk)
theorem Ce3(a0:Aa)(a1:Ay)(o47:Int):Adc a0.Stores a0 a1 (Bnj L kk a0 a1) o47=ob (Ww L a1 o47) (kQ I kk):=eE (Ww L a1 o47)
def Wx [An A Int](a1:Ay)(o50:Int):A:=
 (cn (!(decide (o50≥0)))
 (lf 5)
 (bd (Bh L a1.Coef (-1000) 1000) fun r51=>
 (jp (.cn (!r51)
 (.lf true)
 (.lf (a1.Coef == 0))) (fun b52=>
 (cn b52
 (lf 2)
 (lf 0))))))
def Bnk(a0:Aa)(a1:Ay):Bq:=(Bdo L a0 a1 kk)
theorem Ce4(a0:Aa)(a1:Ay)(o50:Int):Adc a0.Stores a0 a1 (Bnk L kk a0 a1) o50=ob (Wx L a1 o50) (kQ I kk):=eE (Wx L a1 o50)
def Wy [An A Int](a1:Ay)(o53:Int):A:=
 (cn (!(decide (o53≥0)))
 (lf 5)
 (bd (Bh L a1.Coef (-1000) 1000) fun r54=>
 (jp (.cn (!r54)
 (.lf true)
 (.lf (a1.Coef == 0))) (fun b55=>
 (cn b55
 (lf 2)
 (lf 0))))))
def Bnl(a0:Aa)(a1:Ay):Bq:=(Bdq L a0 a1 kk)
theorem Ce5(a0:Aa)(a1:Ay)(o53:Int):Adc a0.Stores a0 a1 (Bnl L kk a0 a1) o53=ob (Wy L a1 o53) (kQ I kk):=eE (Wy L a1 o53)
def Wz [An A Int](a1:Ay)(o56:Int):A:=
 (cn (!(decide (o56≥0)))
 (lf 5)
 (bd (Bh L a1.Coef (-1000) 1000) fun r57=>
 (jp (.cn (!r57)
 (.lf true)
 (.lf (a1.Coef == 0))) (fun b58=>
 (cn b58
 (lf 2)
 (lf 0))))))
def Bnm(a0:Aa)(a1:Ay):Bq:=(Bdp L a0 a1 kk)
theorem Ce6(a0:Aa)(a1:Ay)(o56:Int):Adc a0.Stores a0 a1 (Bnm L kk a0 a1) o56=ob (Wz L a1 o56) (kQ I kk):=eE (Wz L a1 o56)
def Vi [An A Int](a1:Ay)(o59:Int):A:=
 (cn (!(decide (o59≥0)))
 (lf 5)
 (bd (Bh L a1.Coef (-1000) 1000) fun r60=>
 (jp (.cn (!r60)
 (.lf true)
 (.lf (a1.Coef == 0))) (fun b61=>
 (cn b61
 (lf 2)
 (lf 0))))))
def Bgr(a0:Aa)(a1:Ay):Bq:=(Bdo L a0 a1 kk)
theorem B6g(a0:Aa)(a1:Ay)(o59:Int):Adc a0.Stores a0 a1 (Bgr L kk a0 a1) o59=ob (Vi L a1 o59) (kQ I kk):=eE (Vi L a1 o59)
def Vj [An A Int](a1:Ay)(o62:Int):A:=
 (cn (!(decide (o62≥0)))
 (lf 5)
 (bd (Bh L a1.Coef (-1000) 1000) fun r63=>
 (jp (.cn (!r63)
 (.lf true)
 (.lf (a1.Coef == 0))) (fun b64=>
 (cn b64
 (lf 2)
 (lf 0))))))
def Bgs(a0:Aa)(a1:Ay):Bq:=(Bdq L a0 a1 kk)
theorem B6h(a0:Aa)(a1:Ay)(o62:Int):Adc a0.Stores a0 a1 (Bgs L kk a0 a1) o62=ob (Vj L a1 o62) (kQ I kk):=eE (Vj L a1 o62)
def Ab6 [An A Int](a0:Aa)(a1:Ay)(nx3:A)(nx4:A)(nx5:A)(nx6:A)(nx7:A)(nx8:A)(nx9:A)(nx10:A)(nx11:A):A:=
 (cn (a1.What.toList == (⟨#[99,114,101,97,116,101,100]⟩:ByteArray).toList)
 (cn (a1.What.toList == (⟨#[99,114,101,97,116,101,100]⟩:ByteArray).toList)
 (bd (Gi L a0 a1.Name) fun r1=>
 (cn (!(decide (r1≥0)))
 (lf 5)
 (bd (Bh L a1.Coef (-1000) 1000) fun r2=>
 (jp (.cn (!r2)
 (.lf true)
 (.lf (a1.Coef == 0))) (fun b3=>
 (cn b3
 (lf 2)
 (lf 0)))))))
 (cn (a1.What.toList == (⟨#[115,116,111,114,101,100]⟩:ByteArray).toList)
 (cn (a1.What.toList == (⟨#[115,116,111,114,101,100]⟩:ByteArray).toList)
 nx3
 (cn (a1.What.toList == (⟨#[99,111,117,110,116,101,100]⟩:ByteArray).toList)
 (bd (Bz L a0.Counts a1.Name) fun r5=>
 (cn (!r5)
 (lf 5)
 (bd (Bh L a1.Coef (-1000) 1000) fun r6=>
 (jp (.cn (!r6)
 (.lf true)
 (.lf (a1.Coef == 0))) (fun b7=>
 (cn b7
 (lf 2)
 (lf 0)))))))
 (lf 1)))
 (cn (a1.What.toList == (⟨#[101,110,116,101,114,101,100]⟩:ByteArray).toList)
 (cn (a1.What.toList == (⟨#[101,110,116,101,114,101,100]⟩:ByteArray).toList)
 nx4
 (cn (a1.What.toList == (⟨#[99,111,117,110,116,101,100]⟩:ByteArray).toList)
 (bd (Bz L a0.Counts a1.Name) fun r8=>
 (cn (!r8)
 (lf 5)
 (bd (Bh L a1.Coef (-1000) 1000) fun r9=>
 (jp (.cn (!r9)
 (.lf true)
 (.lf (a1.Coef == 0))) (fun b10=>
 (cn b10
 (lf 2)
 (lf 0)))))))
 (lf 1)))
 (cn (a1.What.toList == (⟨#[108,101,102,116]⟩:ByteArray).toList)
 nx5
 (cn (a1.What.toList == (⟨#[99,111,117,110,116,101,100]⟩:ByteArray).toList)
 (bd (Bz L a0.Counts a1.Name) fun r11=>
 (cn (!r11)
 (lf 5)
 (bd (Bh L a1.Coef (-1000) 1000) fun r12=>
 (jp (.cn (!r12)
 (.lf true)
 (.lf (a1.Coef == 0))) (fun b13=>
 (cn b13
 (lf 2)
 (lf 0)))))))
 (lf 1))))))
 (cn (a1.What.toList == (⟨#[101,110,100,101,100]⟩:ByteArray).toList)
 (cn (a1.What.toList == (⟨#[101,110,100,101,100]⟩:ByteArray).toList)
 (bd (Gi L a0 a1.Name) fun r14=>
 (cn (!(decide (r14≥0)))
 (lf 5)
 (bd (Bh L a1.Coef (-1000) 1000) fun r15=>
 (jp (.cn (!r15)
 (.lf true)
 (.lf (a1.Coef == 0))) (fun b16=>
 (cn b16
 (lf 2)
 (lf 0)))))))
 (cn (a1.What.toList == (⟨#[115,116,111,114,101,100]⟩:ByteArray).toList)
 (cn (a1.What.toList == (⟨#[115,116,111,114,101,100]⟩:ByteArray).toList)
 nx6
 (cn (a1.What.toList == (⟨#[99,111,117,110,116,101,100]⟩:ByteArray).toList)
 (bd (Bz L a0.Counts a1.Name) fun r17=>
 (cn (!r17)
 (lf 5)
 (bd (Bh L a1.Coef (-1000) 1000) fun r18=>
 (jp (.cn (!r18)
 (.lf true)
 (.lf (a1.Coef == 0))) (fun b19=>
 (cn b19
 (lf 2)
 (lf 0)))))))
 (lf 1)))
 (cn (a1.What.toList == (⟨#[101,110,116,101,114,101,100]⟩:ByteArray).toList)
 (cn (a1.What.toList == (⟨#[101,110,116,101,114,101,100]⟩:ByteArray).toList)
 nx7
 (cn (a1.What.toList == (⟨#[99,111,117,110,116,101,100]⟩:ByteArray).toList)
 (bd (Bz L a0.Counts a1.Name) fun r20=>
 (cn (!r20)
 (lf 5)
 (bd (Bh L a1.Coef (-1000) 1000) fun r21=>
 (jp (.cn (!r21)
 (.lf true)
 (.lf (a1.Coef == 0))) (fun b22=>
 (cn b22
 (lf 2)
 (lf 0)))))))
 (lf 1)))
 (cn (a1.What.toList == (⟨#[108,101,102,116]⟩:ByteArray).toList)
 nx8
 (cn (a1.What.toList == (⟨#[99,111,117,110,116,101,100]⟩:ByteArray).toList)
 (bd (Bz L a0.Counts a1.Name) fun r23=>
 (cn (!r23)
 (lf 5)
 (bd (Bh L a1.Coef (-1000) 1000) fun r24=>
 (jp (.cn (!r24)
 (.lf true)
 (.lf (a1.Coef == 0))) (fun b25=>
 (cn b25
 (lf 2)
 (lf 0)))))))
 (lf 1))))))
 (cn (a1.What.toList == (⟨#[105,110,115,105,100,101]⟩:ByteArray).toList)
 (bd (Gi L a0 a1.Name) fun r26=>
 (cn (!(decide (r26≥0)))
 (lf 5)
 (bd (Bh L a1.Coef (-1000) 1000) fun r27=>
 (jp (.cn (!r27)
 (.lf true)
 (.lf (a1.Coef == 0))) (fun b28=>
 (cn b28
 (lf 2)
 (lf 0)))))))
 (cn (a1.What.toList == (⟨#[115,116,111,114,101,100]⟩:ByteArray).toList)
 (cn (a1.What.toList == (⟨#[115,116,111,114,101,100]⟩:ByteArray).toList)
 nx9
 (cn (a1.What.toList == (⟨#[99,111,117,110,116,101,100]⟩:ByteArray).toList)
 (bd (Bz L a0.Counts a1.Name) fun r29=>
 (cn (!r29)
 (lf 5)
 (bd (Bh L a1.Coef (-1000) 1000) fun r30=>
 (jp (.cn (!r30)
 (.lf true)
 (.lf (a1.Coef == 0))) (fun b31=>
 (cn b31
 (lf 2)
 (lf 0)))))))
 (lf 1)))
 (cn (a1.What.toList == (⟨#[101,110,116,101,114,101,100]⟩:ByteArray).toList)
 (cn (a1.What.toList == (⟨#[101,110,116,101,114,101,100]⟩:ByteArray).toList)
 nx10
 (cn (a1.What.toList == (⟨#[99,111,117,110,116,101,100]⟩:ByteArray).toList)
 (bd (Bz L a0.Counts a1.Name) fun r32=>
 (cn (!r32)
 (lf 5)
 (bd (Bh L a1.Coef (-1000) 1000) fun r33=>
 (jp (.cn (!r33)
 (.lf true)
 (.lf (a1.Coef == 0))) (fun b34=>
 (cn b34
 (lf 2)
 (lf 0)))))))
 (lf 1)))
 (cn (a1.What.toList == (⟨#[108,101,102,116]⟩:ByteArray).toList)
 nx11
 (cn (a1.What.toList == (⟨#[99,111,117,110,116,101,100]⟩:ByteArray).toList)
 (bd (Bz L a0.Counts a1.Name) fun r35=>
 (cn (!r35)
 (lf 5)
 (bd (Bh L a1.Coef (-1000) 1000) fun r36=>
 (jp (.cn (!r36)
 (.lf true)
 (.lf (a1.Coef == 0))) (fun b37=>
 (cn b37
 (lf 2)
 (lf 0)))))))
 (lf 1))))))))
def Ayn [An A Int](a0:Aa)(a1:Ay):A:=Ab6 L a0 a1 (bd (F0 L a0.Stores a0 a1) fun o38=>Wt L a1 o38) (bd (F0 L a0.Stores a0 a1) fun o41=>Wu L a1 o41) (bd (F0 L a0.Stores a0 a1) fun o44=>Wv L a1 o44) (bd (F0 L a0.Stores a0 a1) fun o47=>Ww L a1 o47) (bd (F0 L a0.Stores a0 a1) fun o50=>Wx L a1 o50) (bd (F0 L a0.Stores a0 a1) fun o53=>Wy L a1 o53) (bd (F0 L a0.Stores a0 a1) fun o56=>Wz L a1 o56) (bd (F0 L a0.Stores a0 a1) fun o59=>Vi L a1 o59) (bd (F0 L a0.Stores a0 a1) fun o62=>Vj L a1 o62)
def d9(a0:Aa)(a1:Ay):Option Int:=Ayn L a0 a1
def Cid:F7:=E2 I 181 Cn A26 (d9 L) fun a0 a1 r h=>hF Tryz.func181 (C:=Apb L) (oS _) L (fun kk=>eE (Ab6 L a0 a1 (ho (Alc L (Bng L kk a0 a1) a0.Stores a0 a1) fun o38=>Ce0 L kk a0 a1 o38) (ho (Alc L (Bnh L kk a0 a1) a0.Stores a0 a1) fun o41=>Ce1 L kk a0 a1 o41) (ho (Alc L (Bni L kk a0 a1) a0.Stores a0 a1) fun o44=>Ce2 L kk a0 a1 o44) (ho (Alc L (Bnj L kk a0 a1) a0.Stores a0 a1) fun o47=>Ce3 L kk a0 a1 o47) (ho (Alc L (Bnk L kk a0 a1) a0.Stores a0 a1) fun o50=>Ce4 L kk a0 a1 o50) (ho (Alc L (Bnl L kk a0 a1) a0.Stores a0 a1) fun o53=>Ce5 L kk a0 a1 o53) (ho (Alc L (Bnm L kk a0 a1) a0.Stores a0 a1) fun o56=>Ce6 L kk a0 a1 o56) (ho (Alc L (Bgr L kk a0 a1) a0.Stores a0 a1) fun o59=>B6g L kk a0 a1 o59) (ho (Alc L (Bgs L kk a0 a1) a0.Stores a0 a1) fun o62=>B6h L kk a0 a1 o62))) h
def Bsi:=CC Tryz.f177
def Bsj:=CC Tryz.f178
def Cki:=CC Tryz.f179
def Cjv:=CC Tryz.f129
def Aju:Bd:=oL [X46 L,X65 L,Cid L]
def Bfk(p10_0:ByteArray)(p10_1:Aa)(p10_2:List ByteArray)(p10_3:List Bool)(p10_4:A9)(p10_5:A9)(k:Bq):Cw→Prop:=fun o=>k (I o.1) [(1,(Af p10_1)),(3,[.mp 4]),(4,[.mapO false false (.t9 o.2.1) (.t4 o.2.2)]),(13,(Dr p10_4)),(17,(Dr p10_5))]
def Aps [An A Cw](p10_0:ByteArray)(p10_1:Aa)(p10_2:List ByteArray)(p10_3:List Bool)(p10_4:A9)(p10_5:A9):A:=
 (bd (Dc L p10_0) fun r1=>
 (cn (r1 != 0)
 (lf (r1,p10_2,p10_3))
 (fq (p10_2.findIdx? fun b=>p10_0 == b) (fun i2=>
 (cn (p10_3.getD i2 default)
 (lf (4,p10_2,p10_3))
 (fq (p10_2.findIdx? fun b=>p10_0 == b) (fun i3=>
 (lf (0,p10_2,(p10_3.set i3 true))))
 (lf (0,(p10_2++ [p10_0]),(p10_3++ [true]))))))
 (fq (p10_2.findIdx? fun b=>p10_0 == b) (fun i4=>
 (lf (0,p10_2,(p10_3.set i4 true))))
 (lf (0,(p10_2++ [p10_0]),(p10_3++ [true])))))))
def Agh(p10_0:ByteArray)(p10_1:Aa)(p10_2:List ByteArray)(p10_3:List Bool)(p10_4:A9)(p10_5:A9):Option Cw:=Aps L p10_0 p10_1 p10_2 p10_3 p10_4 p10_5
theorem Bvw(p10_0:ByteArray)(p10_1:Aa)(p10_2:List ByteArray)(p10_3:List Bool)(p10_4:A9)(p10_5:A9):YO (Aju L) L 7 69 [.mp 4,S p10_0] [(1,(Af p10_1)),(3,[.mp 4]),(4,[.mapO false false (.t9 p10_2) (.t4 p10_3)]),(13,(Dr p10_4)),(17,(Dr p10_5))] k=ob (Agh L p10_0 p10_1 p10_2 p10_3 p10_4 p10_5) (Bfk p10_0 p10_1 p10_2 p10_3 p10_4 p10_5 k):=(C3 _ _ _ jn4 _ _ _ _ _ _ _).trans (eE (Aps L p10_0 p10_1 p10_2 p10_3 p10_4 p10_5))
def Bp4(p11_0:List Ay)(p11_1:Aa)(p11_2:List ByteArray)(p11_3:List Bool)(p11_4:A9)(p11_5:A9)(v:Cs):St:=⟨[(0,.any),(1,.any),(2,.clo 180 0 [.loc 1 0]),(6,I v.1),(14,lv (.t163 p11_0)),(15,I (p11_0.length:Int)),(16,I v.2)],[(1,(Af p11_1)),(3,[.mp 4]),(4,[.mapO false false (.t9 p11_2) (.t4 p11_3)]),(13,(Dr p11_4)),(17,(Dr p11_5))],18⟩
def Abn [An A Cm](p11_0:List Ay)(p11_1:Aa)(p11_2:List ByteArray)(p11_3:List Bool)(p11_4:A9)(p11_5:A9)(rec:Int→Int→A)(Bo:Int)(B1:Int):A:=
 (lw B1 p11_0
 (bd (d9 L p11_1 (p11_0.getD (Int.toNat B1) default)) fun r6=>
 (cn (r6 != 0)
 (lf (0,r6,B1))
 (rec Bo (B7 (B1+1)))))
 (lf (1,Bo,B1)))
def Nm(L:Nat)(p11_0:List Ay)(p11_1:Aa)(p11_2:List ByteArray)(p11_3:List Bool)(p11_4:A9)(p11_5:A9):Nat→Int→Int→Option Cm
 |0,_,_=>none
 |n+1,Bo,B1=>Abn L p11_0 p11_1 p11_2 p11_3 p11_4 p11_5 (Nm L p11_0 p11_1 p11_2 p11_3 p11_4 p11_5 n) Bo B1
theorem B4l(p11_0:List Ay)(p11_1:Aa)(p11_2:List ByteArray)(p11_3:List Bool)(p11_4:A9)(p11_5:A9):LP (EV (Aju L) L 6 Cki.w.l.u.l.l) [0,1,2,6,14,15,16] [1,3,4,13,17] (Bp4 p11_0 p11_1 p11_2 p11_3 p11_4 p11_5) [.ret,.exit 0] (fun n v=>Nm L p11_0 p11_1 p11_2 p11_3 p11_4 p11_5 n v.1 v.2) K:=lE (fun _=>rfl) fun n v ih=>eE (Abn L p11_0 p11_1 p11_2 p11_3 p11_4 p11_5 (fun Bo B1=>re (ih (Bo,B1))) v.1 v.2)
def A6l(p11_0:List Ay)(p11_1:Aa)(p11_2:List ByteArray)(p11_3:List Bool)(p11_4:A9)(p11_5:A9)(k:Bq):Int→Prop:=fun o=>k (I o) [(1,(Af p11_1)),(3,[.mp 4]),(4,[.mapO false false (.t9 p11_2) (.t4 p11_3)]),(13,(Dr p11_4)),(17,(Dr p11_5))]
def Ag2 [An A Int](L:Nat)(o7:Nat×Cs):A:=
 (sl o7.1 [(lf o7.2.1),
 (lf 0)])
def Bgm:Ba:=(Av 0 (Be (EV (Aju L) L 6 Cki.w.r) (Eb Tryz.prog (RS Tryz.f179) k)))
theorem B6b(p11_0:List Ay)(p11_1:Aa)(p11_2:List ByteArray)(p11_3:List Bool)(p11_4:A9)(p11_5:A9)(o7:Nat×Cs):kX [.ret,.exit 0] (Bp4 p11_0 p11_1 p11_2 p11_3 p11_4 p11_5) (Bgm L k) o7=ob (Ag2 L o7) (A6l p11_0 p11_1 p11_2 p11_3 p11_4 p11_5 k):=eE (Ag2 L o7)
def Aqi [An A Int](L:Nat)(p11_0:List Ay)(p11_1:Aa)(p11_2:List ByteArray)(p11_3:List Bool)(p11_4:A9)(p11_5:A9)(nx17:A):A:=
 (cn (decide ((p11_0.length:Int) > 8))
 (lf 6)
 nx17)
def A0u [An A Int](p11_0:List Ay)(p11_1:Aa)(p11_2:List ByteArray)(p11_3:List Bool)(p11_4:A9)(p11_5:A9):A:=Aqi L p11_0 p11_1 p11_2 p11_3 p11_4 p11_5 (bd (Nm L p11_0 p11_1 p11_2 p11_3 p11_4 p11_5 L 0 0) fun o7=>Ag2 L o7)
def Agi(p11_0:List Ay)(p11_1:Aa)(p11_2:List ByteArray)(p11_3:List Bool)(p11_4:A9)(p11_5:A9):Option Int:=A0u L p11_0 p11_1 p11_2 p11_3 p11_4 p11_5
theorem Bvx(p11_0:List Ay)(p11_1:Aa)(p11_2:List ByteArray)(p11_3:List Bool)(p11_4:A9)(p11_5:A9):YO (Aju L) L 7 179 [lv (.t163 p11_0),I 8,.clo 180 0 [.loc 1 0]] [(1,(Af p11_1)),(3,[.mp 4]),(4,[.mapO false false (.t9 p11_2) (.t4 p11_3)]),(13,(Dr p11_4)),(17,(Dr p11_5))] k=ob (Agi L p11_0 p11_1 p11_2 p11_3 p11_4 p11_5) (A6l p11_0 p11_1 p11_2 p11_3 p11_4 p11_5 k):=(C3 _ _ _ jn4 _ _ _ _ _ _ _).trans (eE (Aqi L p11_0 p11_1 p11_2 p11_3 p11_4 p11_5 (ho (B4l L (Bgm L k) p11_0 p11_1 p11_2 p11_3 p11_4 p11_5 L (0,0)) fun o7=>B6b L k p11_0 p11_1 p11_2 p11_3 p11_4 p11_5 o7)))
def A5b(p7_0:A9)(p7_1:Aa)(p7_2:List ByteArray)(p7_3:List Bool)(p7_4:A9)(k:Bq):Cw→Prop:=fun o=>k (I o.1) [(1,(Af p7_1)),(3,[.mp 4]),(4,[.mapO false false (.t9 o.2.1) (.t4 o.2.2)]),(13,(Dr p7_4)),(17,(Dr p7_0))]
def t6 [An A Cw](o5:Cw)(p7_0:A9)(o8:Int):A:=
 (cn (o8 != 0)
 (lf (o8,o5.2.1,o5.2.2))
 (bd (Ai4 L p7_0.Total) fun r9=>
 (cn (!r9)
 (lf (2,o5.2.1,o5.2.2))
 (lf (0,o5.2.1,o5.2.2)))))
def Bgn(p7_0:A9)(p7_1:Aa)(o5:Cw)(p7_4:A9):Bq:=(B4 Tryz.prog (Aju L) (EI (Aju L) L 7) 1 (List.drop 4 Bsj.w.u.l.l.ops) ⟨[(20,.clo 180 0 [.loc 1 0]),(19,lv (.t163 p7_0.Terms)),(18,.loc 17 1),(2,.loc 1 0),(3,.loc 17 0),(4,I 0)],[(1,(Af p7_1)),(3,[.mp 4]),(4,[.mapO false false (.t9 o5.2.1) (.t4 o5.2.2)]),(13,(Dr p7_4)),(17,(Dr p7_0))],14⟩ (some 21) (fun st9=>(Be (EV (Aju L) L 7 Bsj.w.u.l.r) (Be (EV (Aju L) L 7 Bsj.w.u.r) (Eb Tryz.prog (RS Tryz.f178) k))) .normal st9))
theorem B6c(p7_0:A9)(p7_1:Aa)(o5:Cw)(p7_4:A9)(p7_2:List ByteArray)(p7_3:List Bool)(o8:Int):A6l p7_0.Terms p7_1 o5.2.1 o5.2.2 p7_4 p7_0 (Bgn L k p7_0 p7_1 o5 p7_4) o8=ob (t6 L o5 p7_0 o8) (A5b p7_0 p7_1 p7_2 p7_3 p7_4 k):=eE (t6 L o5 p7_0 o8)
def Ahi [An A Cw](L:Nat)(p7_0:A9)(p7_1:Aa)(p7_4:A9)(o5:Cw)(nx18:Cw→A):A:=
 (cn (o5.1 != 0)
 (lf (o5.1,o5.2.1,o5.2.2))
 (cn ((p7_0.Terms.length:Int) == 0)
 (lf (7,o5.2.1,o5.2.2))
 (nx18 o5)))
def Ag1 [An A Cw](p7_0:A9)(p7_1:Aa)(p7_4:A9)(o5:Cw):A:=Ahi L p7_0 p7_1 p7_4 o5 (fun o5=>bd (Agi L p7_0.Terms p7_1 o5.2.1 o5.2.2 p7_4 p7_0) fun o8=>t6 L o5 p7_0 o8)
def Bgl(p7_0:A9)(p7_1:Aa)(p7_2:List ByteArray)(p7_3:List Bool)(p7_4:A9):Bq:=(B4 Tryz.prog (Aju L) (EI (Aju L) L 7) 1 (List.drop 4 Bsj.u.l.l.ops) ⟨[(9,S p7_0.Name),(8,.loc 17 0),(7,.mp 4),(1,.loc 3 0),(2,.loc 1 0),(3,.loc 17 0),(4,I 0)],[(1,(Af p7_1)),(3,[.mp 4]),(4,[.mapO false false (.t9 p7_2) (.t4 p7_3)]),(13,(Dr p7_4)),(17,(Dr p7_0))],14⟩ (some 10) (fun st9=>(Be (EV (Aju L) L 7 Bsj.u.l.r) (Be (EV (Aju L) L 7 Bsj.u.r) (Eb Tryz.prog (RS Tryz.f178) k))) .normal st9))
theorem B6a(p7_0:A9)(p7_1:Aa)(p7_2:List ByteArray)(p7_3:List Bool)(p7_4:A9)(o5:Cw):Bfk p7_0.Name p7_1 p7_2 p7_3 p7_4 p7_0 (Bgl L k p7_0 p7_1 p7_2 p7_3 p7_4) o5=ob (Ag1 L p7_0 p7_1 p7_4 o5) (A5b p7_0 p7_1 p7_2 p7_3 p7_4 k):=eE (Ahi L p7_0 p7_1 p7_4 o5 (fun o5=>ho (Bvx L (Bgn L k p7_0 p7_1 o5 p7_4) p7_0.Terms p7_1 o5.2.1 o5.2.2 p7_4 p7_0) fun o8=>B6c L k p7_0 p7_1 o5 p7_4 p7_2 p7_3 o8))
def Ask [An A Cw](p7_0:A9)(p7_1:Aa)(p7_2:List ByteArray)(p7_3:List Bool)(p7_4:A9):A:=(bd (Agh L p7_0.Name p7_1 p7_2 p7_3 p7_4 p7_0) fun o5=>Ag1 L p7_0 p7_1 p7_4 o5)
def Rx(p7_0:A9)(p7_1:Aa)(p7_2:List ByteArray)(p7_3:List Bool)(p7_4:A9):Option Cw:=Ask L p7_0 p7_1 p7_2 p7_3 p7_4
theorem B3h(p7_0:A9)(p7_1:Aa)(p7_2:List ByteArray)(p7_3:List Bool)(p7_4:A9):YO (Aju L) L 8 178 [.agg (Dr p7_0),.loc 3 0,.loc 1 0] [(1,(Af p7_1)),(3,[.mp 4]),(4,[.mapO false false (.t9 p7_2) (.t4 p7_3)]),(13,(Dr p7_4))] k=ob (Rx L p7_0 p7_1 p7_2 p7_3 p7_4) (A5b p7_0 p7_1 p7_2 p7_3 p7_4 k):=(C3 _ _ _ jn4 _ _ _ _ _ _ _).trans (eE ((ho (Bvw L (Bgl L k p7_0 p7_1 p7_2 p7_3 p7_4) p7_0.Name p7_1 p7_2 p7_3 p7_4 p7_0) fun o5=>B6a L k p7_0 p7_1 p7_2 p7_3 p7_4 o5)))
def Be9(p1_0:List A9)(p1_1:Aa)(v:Tu5):St:=⟨[(0,.any),(1,.any),(2,.clo 178 0 [.loc 3 0,.loc 1 0]),(6,I v.1),(14,lv (.t124 p1_0)),(15,I (p1_0.length:Int)),(16,I v.2.1)],[(1,(Af p1_1)),(3,[.mp 4]),(4,[.mapO false false (.t9 v.2.2.1) (.t4 v.2.2.2)])],5⟩
def U8 [An A Vo](L:Nat)(Aj:Int)(Al:Int)(rec:Int→Int→List ByteArray→List Bool→A)(o10:Cw):A:=
 (cn (o10.1 != 0)
 (lf (0,o10.1,Aj,o10.2.1,o10.2.2))
 (rec Al (B7 (Aj+1)) o10.2.1 o10.2.2))
def x0 [An A Vo](L:Nat)(p1_0:List A9)(p1_1:Aa)(rec:Int→Int→List ByteArray→List Bool→A)(Al:Int)(Aj:Int)(Dl:List ByteArray)(Dm:List Bool)(nx19:Int→(List ByteArray)→(List Bool)→Int→A):A:=
 (lw Aj p1_0
 (nx19 Aj Dl Dm Al)
 (lf (1,Al,Aj,Dl,Dm)))
def Aj5 [An A Vo](p1_0:List A9)(p1_1:Aa)(rec:Int→Int→List ByteArray→List Bool→A)(Al:Int)(Aj:Int)(Dl:List ByteArray)(Dm:List Bool):A:=x0 L p1_0 p1_1 rec Al Aj Dl Dm (fun Aj Dl Dm Al=>bd (Rx L (p1_0.getD (Int.toNat Aj) default) p1_1 Dl Dm (p1_0.getD (Int.toNat Aj) default)) fun o10=>U8 L Aj Al rec o10)
def Km(L:Nat)(p1_0:List A9)(p1_1:Aa):Nat→Int→Int→List ByteArray→List Bool→Option Vo
 |0,_,_,_,_=>none
 |n+1,Al,Aj,Dl,Dm=>Aj5 L p1_0 p1_1 (Km L p1_0 p1_1 n) Al Aj Dl Dm
def Blm(p1_0:List A9)(p1_1:Aa):Prop:=LI (EV (Aju L) L 8 Bsi.w.l.u.l.l) [0,1,2,6,14,15,16] [1,3,4] (Be9 p1_0 p1_1) [.ret,.exit 0] (fun n v=>Km L p1_0 p1_1 n v.1 v.2.1 v.2.2.1 v.2.2.2) K n
def Bgo(p1_0:List A9)(Aj:Int)(Al:Int)(p1_1:Aa)(Dl:List ByteArray)(Dm:List Bool):Bq:=(B4 Tryz.prog (Aju L) (EI (Aju L) L 8) 1 (List.drop 3 Bsi.w.l.u.l.l.w.l.l.u.l.ops) ⟨[(21,.agg (Dr (p1_0.getD (Int.toNat Aj) default))),(20,.clo 178 0 [.loc 3 0,.loc 1 0]),(2,.clo 178 0 [.loc 3 0,.loc 1 0]),(6,I Al),(8,.loc 13 0),(14,lv (.t124 p1_0)),(15,I (p1_0.length:Int)),(16,I Aj),(17,B (decide (Aj < (p1_0.length:Int)))),(18,.ref (Dr (p1_0.getD (Int.toNat Aj) default))),(19,.agg (Dr (p1_0.getD (Int.toNat Aj) default)))],[(1,(Af p1_1)),(3,[.mp 4]),(4,[.mapO false false (.t9 Dl) (.t4 Dm)]),(13,(Dr (p1_0.getD (Int.toNat Aj) default)))],5⟩ (some 22) (fun st9=>(Be (EV (Aju L) L 8 Bsi.w.l.u.l.l.w.l.l.u.r) (Av 1 (Be (EV (Aju L) L 8 Bsi.w.l.u.l.l.w.r) (Hh (Jj (EV (Aju L) L 8 Bsi.w.l.u.l.l) [0,1,2,6,14,15,16] [1,3,4] n) [0,1,2,6,14,15,16] [1,3,4] K)))) .normal st9))
theorem B6d(p1_0:List A9)(Aj:Int)(p1_1:Aa)(Dl:List ByteArray)(Dm:List Bool)(Al:Int)(ih:Blm L n K p1_0 p1_1)(o10:Cw):A5b (p1_0.getD (Int.toNat Aj) default) p1_1 Dl Dm (p1_0.getD (Int.toNat Aj) default) (Bgo L n K p1_0 Aj Al p1_1 Dl Dm) o10=ob (U8 L Aj Al (Km L p1_0 p1_1 n) o10) (kX [.ret,.exit 0] (Be9 p1_0 p1_1) K):=eE (U8 L Aj Al (fun Al Aj Dl Dm=>re (ih (Al,Aj,Dl,Dm))) o10)
theorem B4k(p1_0:List A9)(p1_1:Aa):∀n,Blm L n K p1_0 p1_1:=lE (fun _=>rfl) fun n v ih=>eE (x0 L p1_0 p1_1 (fun Al Aj Dl Dm=>re (ih (Al,Aj,Dl,Dm))) v.1 v.2.1 v.2.2.1 v.2.2.2 (fun Aj Dl Dm Al=>ho (B3h L (Bgo L n K p1_0 Aj Al p1_1 Dl Dm) (p1_0.getD (Int.toNat Aj) default) p1_1 Dl Dm (p1_0.getD (Int.toNat Aj) default)) fun o10=>B6d L n K p1_0 Aj p1_1 Dl Dm Al ih o10))
def Bcp(p1_0:List A9)(p1_1:Aa)(k:Bq):Cw→Prop:=fun o=>k (I o.1) [(1,(Af p1_1)),(3,[.mp 4]),(4,[.mapO false false (.t9 o.2.1) (.t4 o.2.2)])]
def Ag3 [An A Cw](L:Nat)(o11:Nat×Tu5):A:=
 (sl o11.1 [(lf (o11.2.1,o11.2.2.2.1,o11.2.2.2.2)),
 (lf (0,o11.2.2.2.1,o11.2.2.2.2))])
def Bgp:Ba:=(Av 0 (Be (EV (Aju L) L 8 Bsi.w.r) (Eb Tryz.prog (RS Tryz.f177) k)))
theorem B6e(p1_0:List A9)(p1_1:Aa)(o11:Nat×Tu5):kX [.ret,.exit 0] (Be9 p1_0 p1_1) (Bgp L k) o11=ob (Ag3 L o11) (Bcp p1_0 p1_1 k):=eE (Ag3 L o11)
def Aqj [An A Cw](L:Nat)(p1_0:List A9)(p1_1:Aa)(nx20:A):A:=
 (cn (decide ((p1_0.length:Int) > 32))
 (lf (6,[],[]))
 nx20)
def A31 [An A Cw](p1_0:List A9)(p1_1:Aa):A:=Aqj L p1_0 p1_1 (bd (Km L p1_0 p1_1 L 0 0 [] []) fun o11=>Ag3 L o11)
def Aj0(p1_0:List A9)(p1_1:Aa):Option Cw:=A31 L p1_0 p1_1
theorem B3g(p1_0:List A9)(p1_1:Aa):YO (Aju L) L 9 177 [lv (.t124 p1_0),I 32,.clo 178 0 [.loc 3 0,.loc 1 0]] [(1,(Af p1_1)),(3,[.mp 4]),(4,[.mapO false false (.t9 []) (.t4 [])])] k=ob (Aj0 L p1_0 p1_1) (Bcp p1_0 p1_1 k):=(C3 _ _ _ jn4 _ _ _ _ _ _ _).trans (eE (Aqj L p1_0 p1_1 (ho (B4k L (Bgp L k) p1_0 p1_1 L (0,0,[],[])) fun o11=>B6e L k p1_0 p1_1 o11)))
def U9 [An A Int](L:Nat)(o12:Cw):A:=
 (lf o12.1)
def Bgq(a0:Aa):Bq:=(B4 Tryz.prog (Aju L) (EI (Aju L) L 9) 1 (List.drop 4 Cjv.w.l.ops) ⟨[(7,.clo 178 0 [.loc 3 0,.loc 1 0]),(6,lv (.t124 a0.Laws)),(5,.loc 1 12),(1,.loc 1 0),(2,I 0),(3,.loc 3 0)],[(1,(Af a0)),(3,[.mp 4]),(4,[.mapO false false (.t9 []) (.t4 [])])],0⟩ (some 8) (fun st9=>(Be (EV (Aju L) L 9 Cjv.w.r) (Cp Tryz.prog (RS Tryz.f129) kk)) .normal st9))
theorem B6f(a0:Aa)(o12:Cw):Bcp a0.Laws a0 (Bgq L kk a0) o12=ob (U9 L o12) (kQ I kk):=eE (U9 L o12)
def Ayl [An A Int](a0:Aa):A:=(bd (Aj0 L a0.Laws a0) fun o12=>U9 L o12)
def Ak0(a0:Aa):Option Int:=Ayl L a0
def Chw:F7:=E1 I 129 Cn (Ak0 L) fun a0 r h=>hF Tryz.func129 (C:=Aju L) (oS _) L (fun kk=>eE ((ho (B3g L (Bgq L kk a0) a0.Laws a0) fun o12=>B6f L kk a0 o12))) h
end
end Go.Proofs.YtofcpkmnhmnfcaaGreatR.Ev
