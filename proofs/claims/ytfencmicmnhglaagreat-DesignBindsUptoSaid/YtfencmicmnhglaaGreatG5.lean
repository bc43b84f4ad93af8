import Derived.Test.YtfencmicmnhglaaGreatG2
import Derived.Test.YtfencmicmnhglaaGreatG3
import Derived.Test.YtfencmicmnhglaaGreatG4
namespace Go.Proofs.YtfencmicmnhglaaGreat.Ev
open Go An
set_option maxRecDepth 100000
set_option maxHeartbeats 4000000
set_option linter.unusedVariables false
set_option linter.unusedSimpArgs false
set_option linter.unnecessarySimpa false
noncomputable section
variable {A:Type} (L n:Nat) (kk:Il) (K:Br) (k:Bn)
def Bb3:=CC Tryz.f178
def Bi7:=CC Tryz.f201
def Bi6:=CC Tryz.f146
def Ad8:Bq:=oL [X91 L,Bp5 L,Bbn L]
def Azv:Br:=(Ba 0 (Bg (EV (Ad8 L) L 9 Bi6.w.r) (Gu Tryz.prog (RS Tryz.f146) kk)))
def Azs(a0:Aa)(a1:Aw)(kk:Il):Bn:=(Bu Tryz.prog (Ad8 L) (EI (Ad8 L) L 8) 2 (List.drop 3 Bb3.u.l.ops) ⟨[(6,.clo 179 0 [.loc 3 0]),(5,lv (.t151 a0.Stores)),(0,lv (.t151 a0.Stores)),(1,.clo 179 0 [.loc 3 0]),(4,B false)],[(2,Ae a0),(3,Gk a1)],4⟩ (some 7) (fun st9=>(Bg (EV (Ad8 L) L 8 Bb3.u.r) (Dq Tryz.prog (RS Tryz.f178) (Bu Tryz.prog (Ad8 L) (EI (Ad8 L) L 9) 1 (List.drop 4 Bi6.w.l.u.l.w.r.l.ops) ⟨[(23,.clo 179 0 [.loc 3 0]),(22,lv (.t151 a0.Stores)),(21,.loc 2 3),(2,.loc 2 0),(3,.loc 3 0),(4,I 0),(5,B false),(7,S a1.What),(17,B (a1.What.toList == (⟨#[101,110,116,101,114,101,100]⟩:ByteArray).toList))],[(2,Ae a0),(3,Gk a1)],0⟩ (some 24) (fun st9=>(Azv L kk) .normal st9)))) .normal st9))
def Azt(a0:Aa)(a1:Aw)(kk:Il):Bn:=(Bu Tryz.prog (Ad8 L) (EI (Ad8 L) L 8) 2 (List.drop 3 Bb3.u.l.ops) ⟨[(6,.clo 179 0 [.loc 3 0]),(5,lv (.t151 a0.Stores)),(0,lv (.t151 a0.Stores)),(1,.clo 179 0 [.loc 3 0]),(4,B false)],[(2,Ae a0),(3,Gk a1)],4⟩ (some 7) (fun st9=>(Bg (EV (Ad8 L) L 8 Bb3.u.r) (Dq Tryz.prog (RS Tryz.f178) (Bu Tryz.prog (Ad8 L) (EI (Ad8 L) L 9) 1 (List.drop 4 Bi6.w.l.u.l.w.r.l.ops) ⟨[(23,.clo 179 0 [.loc 3 0]),(22,lv (.t151 a0.Stores)),(21,.loc 2 3),(2,.loc 2 0),(3,.loc 3 0),(4,I 0),(5,B false),(7,S a1.What),(17,B (a1.What.toList == (⟨#[115,116,111,114,101,100]⟩:ByteArray).toList))],[(2,Ae a0),(3,Gk a1)],0⟩ (some 24) (fun st9=>(Azv L kk) .normal st9)))) .normal st9))
def Azu(a0:Aa)(a1:Aw)(kk:Il):Bn:=(Bu Tryz.prog (Ad8 L) (EI (Ad8 L) L 8) 2 (List.drop 3 Bb3.u.l.ops) ⟨[(6,.clo 179 0 [.loc 3 0]),(5,lv (.t151 a0.Stores)),(0,lv (.t151 a0.Stores)),(1,.clo 179 0 [.loc 3 0]),(4,B false)],[(2,Ae a0),(3,Gk a1)],4⟩ (some 7) (fun st9=>(Bg (EV (Ad8 L) L 8 Bb3.u.r) (Dq Tryz.prog (RS Tryz.f178) (Bu Tryz.prog (Ad8 L) (EI (Ad8 L) L 9) 1 (List.drop 4 Bi6.w.l.u.l.w.r.l.ops) ⟨[(23,.clo 179 0 [.loc 3 0]),(22,lv (.t151 a0.Stores)),(21,.loc 2 3),(2,.loc 2 0),(3,.loc 3 0),(4,I 0),(5,B false),(7,S a1.What),(17,B (a1.What.toList == (⟨#[108,101,102,116]⟩:ByteArray).toList))],[(2,Ae a0),(3,Gk a1)],0⟩ (some 24) (fun st9=>(Azv L kk) .normal st9)))) .normal st9))
def Bam(p1_0:List Am)(p1_1:Aa)(p1_2:Aw)(v:D2):St:=⟨[(0,lv (.t151 p1_0)),(1,.clo 179 0 [.loc 3 0]),(4,I v.1),(7,I (p1_0.length:Int)),(8,I v.2)],[(2,Ae p1_1),(3,Gk p1_2)],4⟩
def Wx [An A Ki](L:Nat)(p1_0:List Am)(p1_1:Aa)(p1_2:Aw)(rec:Int→Int→A)(Ao:Int)(Al:Int):A:=
 (lw Al p1_0
 (cn (((p1_0.getD (Int.toNat Al) default).Name).toList == p1_2.Name.toList)
 (lf (0,Al,Al))
 (rec Ao (Dp (Al+1))))
 (lf (1,Ao,Al)))
def Lh(L:Nat)(p1_0:List Am)(p1_1:Aa)(p1_2:Aw):Nat→Int→Int→Option Ki
 |0,_,_=>none
 |n+1,Ao,Al=>Wx L p1_0 p1_1 p1_2 (Lh L p1_0 p1_1 p1_2 n) Ao Al
theorem Blo(p1_0:List Am)(p1_1:Aa)(p1_2:Aw):LP (EV (Ad8 L) L 7 Bi7.u.l.u.l.l) [0,1,4,7,8] [2,3] (Bam p1_0 p1_1 p1_2) [.ret,.exit 0] (fun n v=>Lh L p1_0 p1_1 p1_2 n v.1 v.2) K:=lE (fun _=>rfl) fun n v ih=>eE (Wx L p1_0 p1_1 p1_2 (fun Ao Al=>re (ih (Ao,Al))) v.1 v.2)
def X9(p1_0:List Am)(p1_1:Aa)(p1_2:Aw)(k:Bn):Int→Prop:=fun o=>k (I o) [(2,Ae p1_1),(3,Gk p1_2)]
def W5 [An A Int](L:Nat)(o4:Nat×D2):A:=
 (sl o4.1 [(lf o4.2.1),
 (lf (-1))])
def A72:Br:=(Ba 0 (Bg (EV (Ad8 L) L 7 Bi7.u.r) (Dq Tryz.prog (RS Tryz.f201) k)))
theorem Bti(p1_0:List Am)(p1_1:Aa)(p1_2:Aw)(o4:Nat×D2):kX [.ret,.exit 0] (Bam p1_0 p1_1 p1_2) (A72 L k) o4=ob (W5 L o4) (X9 p1_0 p1_1 p1_2 k):=eE (W5 L o4)
def Ag7 [An A Int](p1_0:List Am)(p1_1:Aa)(p1_2:Aw):A:=(bd (Lh L p1_0 p1_1 p1_2 L 0 0) fun o4=>W5 L o4)
def Em(p1_0:List Am)(p1_1:Aa)(p1_2:Aw):Option Int:=Ag7 L p1_0 p1_1 p1_2
theorem Abr(p1_0:List Am)(p1_1:Aa)(p1_2:Aw):YO (Ad8 L) L 8 201 [lv (.t151 p1_0),.clo 179 0 [.loc 3 0]] [(2,Ae p1_1),(3,Gk p1_2)] k=ob (Em L p1_0 p1_1 p1_2) (X9 p1_0 p1_1 p1_2 k):=(Cr _ _ _ jn4 _ _ _ _ _ _ _).trans (eE ((ho (Blo L (A72 L k) p1_0 p1_1 p1_2 L (0,0)) fun o4=>Bti L k p1_0 p1_1 p1_2 o4)))
def Si [An A Int](a1:Aw)(o38:Int):A:=
 (cn (!(decide (o38≥0)))
 (lf 5)
 (bd (Bb L a1.Coef (-1000) 1000) fun r39=>
 (jp (.cn (!r39)
 (.lf true)
 (.lf (a1.Coef == 0))) (fun b40=>
 (cn b40
 (lf 2)
 (lf 0))))))
def A73(a0:Aa)(a1:Aw):Bn:=(Azt L a0 a1 kk)
theorem Btj(a0:Aa)(a1:Aw)(o38:Int):X9 a0.Stores a0 a1 (A73 L kk a0 a1) o38=ob (Si L a1 o38) (kQ I kk):=eE (Si L a1 o38)
def Sj [An A Int](a1:Aw)(o41:Int):A:=
 (cn (!(decide (o41≥0)))
 (lf 5)
 (bd (Bb L a1.Coef (-1000) 1000) fun r42=>
 (jp (.cn (!r42)
 (.lf true)
 (.lf (a1.Coef == 0))) (fun b43=>
 (cn b43
 (lf 2)
 (lf 0))))))
def A74(a0:Aa)(a1:Aw):Bn:=(Azs L a0 a1 kk)
theorem Btk(a0:Aa)(a1:Aw)(o41:Int):X9 a0.Stores a0 a1 (A74 L kk a0 a1) o41=ob (Sj L a1 o41) (kQ I kk):=eE (Sj L a1 o41)
def Sk [An A Int](a1:Aw)(o44:Int):A:=
 (cn (!(decide (o44≥0)))
 (lf 5)
 (bd (Bb L a1.Coef (-1000) 1000) fun r45=>
 (jp (.cn (!r45)
 (.lf true)
 (.lf (a1.Coef == 0))) (fun b46=>
 (cn b46
 (lf 2)
 (lf 0))))))
def A75(a0:Aa)(a1:Aw):Bn:=(Azu L a0 a1 kk)
theorem Btl(a0:Aa)(a1:Aw)(o44:Int):X9 a0.Stores a0 a1 (A75 L kk a0 a1) o44=ob (Sk L a1 o44) (kQ I kk):=eE (Sk L a1 o44)
def Sl [An A Int](a1:Aw)(o47:Int):A:=
 (cn (!(decide (o47≥0)))
 (lf 5)
 (bd (Bb L a1.Coef (-1000) 1000) fun r48=>
 (jp (.cn (!r48)
 (.lf true)
 (.lf (a1.Coef == 0))) (fun b49=>
 (cn b49
 (lf 2)
 (lf 0))))))
def A76(a0:Aa)(a1:Aw):Bn:=(Azt L a0 a1 kk)
theorem Btm(a0:Aa)(a1:Aw)(o47:Int):X9 a0.Stores a0 a1 (A76 L kk a0 a1) o47=ob (Sl L a1 o47) (kQ I kk):=eE (Sl L a1 o47)
def Sm [An A Int](a1:Aw)(o50:Int):A:=
 (cn (!(decide (o50≥0)))
 (lf 5)
 (bd (Bb L a1.Coef (-1000) 1000) fun r51=>
 (jp (.cn (!r51)
 (.lf true)
 (.lf (a1.Coef == 0))) (fun b52=>
 (cn b52
 (lf 2)
 (lf 0))))))
def A77(a0:Aa)(a1:Aw):Bn:=(Azs L a0 a1 kk)
theorem Btn(a0:Aa)(a1:Aw)(o50:Int):X9 a0.Stores a0 a1 (A77 L kk a0 a1) o50=ob (Sm L a1 o50) (kQ I kk):=eE (Sm L a1 o50)
def Sn [An A Int](a1:Aw)(o53:Int):A:=
 (cn (!(decide (o53≥0)))
 (lf 5)
 (bd (Bb L a1.Coef (-1000) 1000) fun r54=>
 (jp (.cn (!r54)
 (.lf true)
 (.lf (a1.Coef == 0))) (fun b55=>
 (cn b55
 (lf 2)
 (lf 0))))))
def A78(a0:Aa)(a1:Aw):Bn:=(Azu L a0 a1 kk)
theorem Bto(a0:Aa)(a1:Aw)(o53:Int):X9 a0.Stores a0 a1 (A78 L kk a0 a1) o53=ob (Sn L a1 o53) (kQ I kk):=eE (Sn L a1 o53)
def So [An A Int](a1:Aw)(o56:Int):A:=
 (cn (!(decide (o56≥0)))
 (lf 5)
 (bd (Bb L a1.Coef (-1000) 1000) fun r57=>
 (jp (.cn (!r57)
 (.lf true)
 (.lf (a1.Coef == 0))) (fun b58=>
 (cn b58
 (lf 2)
 (lf 0))))))
def A79(a0:Aa)(a1:Aw):Bn:=(Azt L a0 a1 kk)
theorem Btp(a0:Aa)(a1:Aw)(o56:Int):X9 a0.Stores a0 a1 (A79 L kk a0 a1) o56=ob (So L a1 o56) (kQ I kk):=eE (So L a1 o56)
def Rc [An A Int](a1:Aw)(o59:Int):A:=
 (cn (!(decide (o59≥0)))
 (lf 5)
 (bd (Bb L a1.Coef (-1000) 1000) fun r60=>
 (jp (.cn (!r60)
 (.lf true)
 (.lf (a1.Coef == 0))) (fun b61=>
 (cn b61
 (lf 2)
 (lf 0))))))
def A2b(a0:Aa)(a1:Aw):Bn:=(Azs L a0 a1 kk)
theorem Bmy(a0:Aa)(a1:Aw)(o59:Int):X9 a0.Stores a0 a1 (A2b L kk a0 a1) o59=ob (Rc L a1 o59) (kQ I kk):=eE (Rc L a1 o59)
def Re [An A Int](a1:Aw)(o62:Int):A:=
 (cn (!(decide (o62≥0)))
 (lf 5)
 (bd (Bb L a1.Coef (-1000) 1000) fun r63=>
 (jp (.cn (!r63)
 (.lf true)
 (.lf (a1.Coef == 0))) (fun b64=>
 (cn b64
 (lf 2)
 (lf 0))))))
def A2c(a0:Aa)(a1:Aw):Bn:=(Azu L a0 a1 kk)
theorem Bmz(a0:Aa)(a1:Aw)(o62:Int):X9 a0.Stores a0 a1 (A2c L kk a0 a1) o62=ob (Re L a1 o62) (kQ I kk):=eE (Re L a1 o62)
def W9 [An A Int](a0:Aa)(a1:Aw)(nx3:A)(nx4:A)(nx5:A)(nx6:A)(nx7:A)(nx8:A)(nx9:A)(nx10:A)(nx11:A):A:=
 (cn (a1.What.toList == (⟨#[99,114,101,97,116,101,100]⟩:ByteArray).toList)
 (cn (a1.What.toList == (⟨#[99,114,101,97,116,101,100]⟩:ByteArray).toList)
 (bd (E8 L a0 a1.Name) fun r1=>
 (cn (!(decide (r1≥0)))
 (lf 5)
 (bd (Bb L a1.Coef (-1000) 1000) fun r2=>
 (jp (.cn (!r2)
 (.lf true)
 (.lf (a1.Coef == 0))) (fun b3=>
 (cn b3
 (lf 2)
 (lf 0)))))))
 (cn (a1.What.toList == (⟨#[115,116,111,114,101,100]⟩:ByteArray).toList)
 (cn (a1.What.toList == (⟨#[115,116,111,114,101,100]⟩:ByteArray).toList)
 nx3
 (cn (a1.What.toList == (⟨#[99,111,117,110,116,101,100]⟩:ByteArray).toList)
 (bd (Bt L a0.Counts a1.Name) fun r5=>
 (cn (!r5)
 (lf 5)
 (bd (Bb L a1.Coef (-1000) 1000) fun r6=>
 (jp (.cn (!r6)
 (.lf true)
 (.lf (a1.Coef == 0))) (fun b7=>
 (cn b7
 (lf 2)
 (lf 0)))))))
 (lf 1)))
 (cn (a1.What.toList == (⟨#[101,110,116,101,114,101,100]⟩:ByteArray).toList)
 (cn (a1.What.toList == (⟨#[101,110,116,101,114,101,100]⟩:ByteArray).toList)
 nx4
 (cn (a1.What.toList == (⟨#[99,111,117,110,116,101,100]⟩:ByteArray).toList)
 (bd (Bt L a0.Counts a1.Name) fun r8=>
 (cn (!r8)
 (lf 5)
 (bd (Bb L a1.Coef (-1000) 1000) fun r9=>
 (jp (.cn (!r9)
 (.lf true)
 (.lf (a1.Coef == 0))) (fun b10=>
 (cn b10
 (lf 2)
 (lf 0)))))))
 (lf 1)))
 (cn (a1.What.toList == (⟨#[108,101,102,116]⟩:ByteArray).toList)
 nx5
 (cn (a1.What.toList == (⟨#[99,111,117,110,116,101,100]⟩:ByteArray).toList)
 (bd (Bt L a0.Counts a1.Name) fun r11=>
 (cn (!r11)
 (lf 5)
 (bd (Bb L a1.Coef (-1000) 1000) fun r12=>
 (jp (.cn (!r12)
 (.lf true)
 (.lf (a1.Coef == 0))) (fun b13=>
 (cn b13
 (lf 2)
 (lf 0)))))))
 (lf 1))))))
 (cn (a1.What.toList == (⟨#[101,110,100,101,100]⟩:ByteArray).toList)
 (cn (a1.What.toList == (⟨#[101,110,100,101,100]⟩:ByteArray).toList)
 (bd (E8 L a0 a1.Name) fun r14=>
 (cn (!(decide (r14≥0)))
 (lf 5)
 (bd (Bb L a1.Coef (-1000) 1000) fun r15=>
 (jp (.cn (!r15)
 (.lf true)
 (.lf (a1.Coef == 0))) (fun b16=>
 (cn b16
 (lf 2)
 (lf 0)))))))
 (cn (a1.What.toList == (⟨#[115,116,111,114,101,100]⟩:ByteArray).toList)
 (cn (a1.What.toList == (⟨#[115,116,111,114,101,100]⟩:ByteArray).toList)
 nx6
 (cn (a1.What.toList == (⟨#[99,111,117,110,116,101,100]⟩:ByteArray).toList)
 (bd (Bt L a0.Counts a1.Name) fun r17=>
 (cn (!r17)
 (lf 5)
 (bd (Bb L a1.Coef (-1000) 1000) fun r18=>
 (jp (.cn (!r18)
 (.lf true)
 (.lf (a1.Coef == 0))) (fun b19=>
 (cn b19
 (lf 2)
 (lf 0)))))))
 (lf 1)))
 (cn (a1.What.toList == (⟨#[101,110,116,101,114,101,100]⟩:ByteArray).toList)
 (cn (a1.What.toList == (⟨#[101,110,116,101,114,101,100]⟩:ByteArray).toList)
 nx7
 (cn (a1.What.toList == (⟨#[99,111,117,110,116,101,100]⟩:ByteArray).toList)
 (bd (Bt L a0.Counts a1.Name) fun r20=>
 (cn (!r20)
 (lf 5)
 (bd (Bb L a1.Coef (-1000) 1000) fun r21=>
 (jp (.cn (!r21)
 (.lf true)
 (.lf (a1.Coef == 0))) (fun b22=>
 (cn b22
 (lf 2)
 (lf 0)))))))
 (lf 1)))
 (cn (a1.What.toList == (⟨#[108,101,102,116]⟩:ByteArray).toList)
 nx8
 (cn (a1.What.toList == (⟨#[99,111,117,110,116,101,100]⟩:ByteArray).toList)
 (bd (Bt L a0.Counts a1.Name) fun r23=>
 (cn (!r23)
 (lf 5)
 (bd (Bb L a1.Coef (-1000) 1000) fun r24=>
 (jp (.cn (!r24)
 (.lf true)
 (.lf (a1.Coef == 0))) (fun b25=>
 (cn b25
 (lf 2)
 (lf 0)))))))
 (lf 1))))))
 (cn (a1.What.toList == (⟨#[105,110,115,105,100,101]⟩:ByteArray).toList)
 (bd (E8 L a0 a1.Name) fun r26=>
 (cn (!(decide (r26≥0)))
 (lf 5)
 (bd (Bb L a1.Coef (-1000) 1000) fun r27=>
 (jp (.cn (!r27)
 (.lf true)
 (.lf (a1.Coef == 0))) (fun b28=>
 (cn b28
 (lf 2)
 (lf 0)))))))
 (cn (a1.What.toList == (⟨#[115,116,111,114,101,100]⟩:ByteArray).toList)
 (cn (a1.What.toList == (⟨#[115,116,111,114,101,100]⟩:ByteArray).toList)
 nx9
 (cn (a1.What.toList == (⟨#[99,111,117,110,116,101,100]⟩:ByteArray).toList)
 (bd (Bt L a0.Counts a1.Name) fun r29=>
 (cn (!r29)
 (lf 5)
 (bd (Bb L a1.Coef (-1000) 1000) fun r30=>
 (jp (.cn (!r30)
 (.lf true)
 (.lf (a1.Coef == 0))) (fun b31=>
 (cn b31
 (lf 2)
 (lf 0)))))))
 (lf 1)))
 (cn (a1.What.toList == (⟨#[101,110,116,101,114,101,100]⟩:ByteArray).toList)
 (cn (a1.What.toList == (⟨#[101,110,116,101,114,101,100]⟩:ByteArray).toList)
 nx10
 (cn (a1.What.toList == (⟨#[99,111,117,110,116,101,100]⟩:ByteArray).toList)
 (bd (Bt L a0.Counts a1.Name) fun r32=>
 (cn (!r32)
 (lf 5)
 (bd (Bb L a1.Coef (-1000) 1000) fun r33=>
 (jp (.cn (!r33)
 (.lf true)
 (.lf (a1.Coef == 0))) (fun b34=>
 (cn b34
 (lf 2)
 (lf 0)))))))
 (lf 1)))
 (cn (a1.What.toList == (⟨#[108,101,102,116]⟩:ByteArray).toList)
 nx11
 (cn (a1.What.toList == (⟨#[99,111,117,110,116,101,100]⟩:ByteArray).toList)
 (bd (Bt L a0.Counts a1.Name) fun r35=>
 (cn (!r35)
 (lf 5)
 (bd (Bb L a1.Coef (-1000) 1000) fun r36=>
 (jp (.cn (!r36)
 (.lf true)
 (.lf (a1.Coef == 0))) (fun b37=>
 (cn b37
 (lf 2)
 (lf 0)))))))
 (lf 1))))))))
def Amk [An A Int](a0:Aa)(a1:Aw):A:=W9 L a0 a1 (bd (Em L a0.Stores a0 a1) fun o38=>Si L a1 o38) (bd (Em L a0.Stores a0 a1) fun o41=>Sj L a1 o41) (bd (Em L a0.Stores a0 a1) fun o44=>Sk L a1 o44) (bd (Em L a0.Stores a0 a1) fun o47=>Sl L a1 o47) (bd (Em L a0.Stores a0 a1) fun o50=>Sm L a1 o50) (bd (Em L a0.Stores a0 a1) fun o53=>Sn L a1 o53) (bd (Em L a0.Stores a0 a1) fun o56=>So L a1 o56) (bd (Em L a0.Stores a0 a1) fun o59=>Rc L a1 o59) (bd (Em L a0.Stores a0 a1) fun o62=>Re L a1 o62)
def Ug(a0:Aa)(a1:Aw):Option Int:=Amk L a0 a1
def Bwl:N2:=E2 I 146 I7 A03 (Ug L) fun a0 a1 r h=>hF Tryz.func146 (C:=Ad8 L) (oS _) L (fun kk=>eE (W9 L a0 a1 (ho (Abr L (A73 L kk a0 a1) a0.Stores a0 a1) fun o38=>Btj L kk a0 a1 o38) (ho (Abr L (A74 L kk a0 a1) a0.Stores a0 a1) fun o41=>Btk L kk a0 a1 o41) (ho (Abr L (A75 L kk a0 a1) a0.Stores a0 a1) fun o44=>Btl L kk a0 a1 o44) (ho (Abr L (A76 L kk a0 a1) a0.Stores a0 a1) fun o47=>Btm L kk a0 a1 o47) (ho (Abr L (A77 L kk a0 a1) a0.Stores a0 a1) fun o50=>Btn L kk a0 a1 o50) (ho (Abr L (A78 L kk a0 a1) a0.Stores a0 a1) fun o53=>Bto L kk a0 a1 o53) (ho (Abr L (A79 L kk a0 a1) a0.Stores a0 a1) fun o56=>Btp L kk a0 a1 o56) (ho (Abr L (A2b L kk a0 a1) a0.Stores a0 a1) fun o59=>Bmy L kk a0 a1 o59) (ho (Abr L (A2c L kk a0 a1) a0.Stores a0 a1) fun o62=>Bmz L kk a0 a1 o62))) h
def Bb0:=CC Tryz.f142
def Bb1:=CC Tryz.f143
def Bx9:=CC Tryz.f144
def Bx3:=CC Tryz.f114
def Aam:Bq:=oL [X59 L,X60 L,Bwl L]
def A0w(p10_0:ByteArray)(p10_1:Aa)(p10_2:List ByteArray)(p10_3:List Bool)(p10_4:A9)(p10_5:A9)(k:Bn):Cp→Prop:=fun o=>k (I o.1) [(1,Ae p10_1),(3,[.mp 4]),(4,[.mapO false false (.t9 o.2.1) (.t4 o.2.2)]),(13,Dr p10_4),(17,Dr p10_5)]
def Aei [An A Cp](p10_0:ByteArray)(p10_1:Aa)(p10_2:List ByteArray)(p10_3:List Bool)(p10_4:A9)(p10_5:A9):A:=
 (bd (C6 L p10_0) fun r1=>
 (cn (r1 != 0)
 (lf (r1,p10_2,p10_3))
 (fq (p10_2.findIdx? fun b=>p10_0 == b) (fun i2=>
 (cn (p10_3.getD i2 default)
 (lf (4,p10_2,p10_3))
 (fq (p10_2.findIdx? fun b=>p10_0 == b) (fun i3=>
 (lf (0,p10_2,(p10_3.set i3 true))))
 (lf (0,(p10_2++ [p10_0]),(p10_3++ [true]))))))
 (fq (p10_2.findIdx? fun b=>p10_0 == b) (fun i4=>
 (lf (0,p10_2,(p10_3.set i4 true))))
 (lf (0,(p10_2++ [p10_0]),(p10_3++ [true])))))))
def Z7(p10_0:ByteArray)(p10_1:Aa)(p10_2:List ByteArray)(p10_3:List Bool)(p10_4:A9)(p10_5:A9):Option Cp:=Aei L p10_0 p10_1 p10_2 p10_3 p10_4 p10_5
theorem Be3(p10_0:ByteArray)(p10_1:Aa)(p10_2:List ByteArray)(p10_3:List Bool)(p10_4:A9)(p10_5:A9):YO (Aam L) L 7 64 [.mp 4,S p10_0] [(1,Ae p10_1),(3,[.mp 4]),(4,[.mapO false false (.t9 p10_2) (.t4 p10_3)]),(13,Dr p10_4),(17,Dr p10_5)] k=ob (Z7 L p10_0 p10_1 p10_2 p10_3 p10_4 p10_5) (A0w p10_0 p10_1 p10_2 p10_3 p10_4 p10_5 k):=(Cr _ _ _ jn4 _ _ _ _ _ _ _).trans (eE (Aei L p10_0 p10_1 p10_2 p10_3 p10_4 p10_5))
def Bae(p11_0:List Aw)(p11_1:Aa)(p11_2:List ByteArray)(p11_3:List Bool)(p11_4:A9)(p11_5:A9)(v:D2):St:=⟨[(0,.any),(1,.any),(2,.clo 145 0 [.loc 1 0]),(6,I v.1),(14,lv (.t195 p11_0)),(15,I (p11_0.length:Int)),(16,I v.2)],[(1,Ae p11_1),(3,[.mp 4]),(4,[.mapO false false (.t9 p11_2) (.t4 p11_3)]),(13,Dr p11_4),(17,Dr p11_5)],18⟩
def Wv [An A Ki](p11_0:List Aw)(p11_1:Aa)(p11_2:List ByteArray)(p11_3:List Bool)(p11_4:A9)(p11_5:A9)(rec:Int→Int→A)(Cv:Int)(B7:Int):A:=
 (lw B7 p11_0
 (bd (Ug L p11_1 (p11_0.getD (Int.toNat B7) default)) fun r6=>
 (cn (r6 != 0)
 (lf (0,r6,B7))
 (rec Cv (Dp (B7+1)))))
 (lf (1,Cv,B7)))
def Lf(L:Nat)(p11_0:List Aw)(p11_1:Aa)(p11_2:List ByteArray)(p11_3:List Bool)(p11_4:A9)(p11_5:A9):Nat→Int→Int→Option Ki
 |0,_,_=>none
 |n+1,Cv,B7=>Wv L p11_0 p11_1 p11_2 p11_3 p11_4 p11_5 (Lf L p11_0 p11_1 p11_2 p11_3 p11_4 p11_5 n) Cv B7
theorem Blg(p11_0:List Aw)(p11_1:Aa)(p11_2:List ByteArray)(p11_3:List Bool)(p11_4:A9)(p11_5:A9):LP (EV (Aam L) L 6 Bx9.w.l.u.l.l) [0,1,2,6,14,15,16] [1,3,4,13,17] (Bae p11_0 p11_1 p11_2 p11_3 p11_4 p11_5) [.ret,.exit 0] (fun n v=>Lf L p11_0 p11_1 p11_2 p11_3 p11_4 p11_5 n v.1 v.2) K:=lE (fun _=>rfl) fun n v ih=>eE (Wv L p11_0 p11_1 p11_2 p11_3 p11_4 p11_5 (fun Cv B7=>re (ih (Cv,B7))) v.1 v.2)
def As1(p11_0:List Aw)(p11_1:Aa)(p11_2:List ByteArray)(p11_3:List Bool)(p11_4:A9)(p11_5:A9)(k:Bn):Int→Prop:=fun o=>k (I o) [(1,Ae p11_1),(3,[.mp 4]),(4,[.mapO false false (.t9 p11_2) (.t4 p11_3)]),(13,Dr p11_4),(17,Dr p11_5)]
def l7 [An A Int](L:Nat)(o7:Nat×D2):A:=
 (sl o7.1 [(lf o7.2.1),
 (lf 0)])
def A16:Br:=(Ba 0 (Bg (EV (Aam L) L 6 Bx9.w.r) (Dq Tryz.prog (RS Tryz.f144) k)))
theorem Bmt(p11_0:List Aw)(p11_1:Aa)(p11_2:List ByteArray)(p11_3:List Bool)(p11_4:A9)(p11_5:A9)(o7:Nat×D2):kX [.ret,.exit 0] (Bae p11_0 p11_1 p11_2 p11_3 p11_4 p11_5) (A16 L k) o7=ob (l7 L o7) (As1 p11_0 p11_1 p11_2 p11_3 p11_4 p11_5 k):=eE (l7 L o7)
def Afd [An A Int](L:Nat)(p11_0:List Aw)(p11_1:Aa)(p11_2:List ByteArray)(p11_3:List Bool)(p11_4:A9)(p11_5:A9)(nx17:A):A:=
 (cn (decide ((p11_0.length:Int) > 8))
 (lf 6)
 nx17)
def Aot [An A Int](p11_0:List Aw)(p11_1:Aa)(p11_2:List ByteArray)(p11_3:List Bool)(p11_4:A9)(p11_5:A9):A:=Afd L p11_0 p11_1 p11_2 p11_3 p11_4 p11_5 (bd (Lf L p11_0 p11_1 p11_2 p11_3 p11_4 p11_5 L 0 0) fun o7=>l7 L o7)
def Z8(p11_0:List Aw)(p11_1:Aa)(p11_2:List ByteArray)(p11_3:List Bool)(p11_4:A9)(p11_5:A9):Option Int:=Aot L p11_0 p11_1 p11_2 p11_3 p11_4 p11_5
theorem Be4(p11_0:List Aw)(p11_1:Aa)(p11_2:List ByteArray)(p11_3:List Bool)(p11_4:A9)(p11_5:A9):YO (Aam L) L 7 144 [lv (.t195 p11_0),I 8,.clo 145 0 [.loc 1 0]] [(1,Ae p11_1),(3,[.mp 4]),(4,[.mapO false false (.t9 p11_2) (.t4 p11_3)]),(13,Dr p11_4),(17,Dr p11_5)] k=ob (Z8 L p11_0 p11_1 p11_2 p11_3 p11_4 p11_5) (As1 p11_0 p11_1 p11_2 p11_3 p11_4 p11_5 k):=(Cr _ _ _ jn4 _ _ _ _ _ _ _).trans (eE (Afd L p11_0 p11_1 p11_2 p11_3 p11_4 p11_5 (ho (Blg L (A16 L k) p11_0 p11_1 p11_2 p11_3 p11_4 p11_5 L (0,0)) fun o7=>Bmt L k p11_0 p11_1 p11_2 p11_3 p11_4 p11_5 o7)))
def Asd(p7_0:A9)(p7_1:Aa)(p7_2:List ByteArray)(p7_3:List Bool)(p7_4:A9)(k:Bn):Cp→Prop:=fun o=>k (I o.1) [(1,Ae p7_1),(3,[.mp 4]),(4,[.mapO false false (.t9 o.2.1) (.t4 o.2.2)]),(13,Dr p7_4),(17,Dr p7_0)]
def U3 [An A Cp](o5:Cp)(p7_0:A9)(o8:Int):A:=
 (cn (o8 != 0)
 (lf (o8,o5.2.1,o5.2.2))
 (bd (X0 L p7_0.Total) fun r9=>
 (cn (!r9)
 (lf (2,o5.2.1,o5.2.2))
 (lf (0,o5.2.1,o5.2.2)))))
def A17(p7_0:A9)(p7_1:Aa)(o5:Cp)(p7_4:A9):Bn:=(Bu Tryz.prog (Aam L) (EI (Aam L) L 7) 1 (List.drop 4 Bb1.w.u.l.l.ops) ⟨[(20,.clo 145 0 [.loc 1 0]),(19,lv (.t195 p7_0.Terms)),(18,.loc 17 1),(2,.loc 1 0),(3,.loc 17 0),(4,I 0)],[(1,Ae p7_1),(3,[.mp 4]),(4,[.mapO false false (.t9 o5.2.1) (.t4 o5.2.2)]),(13,Dr p7_4),(17,Dr p7_0)],14⟩ (some 21) (fun st9=>(Bg (EV (Aam L) L 7 Bb1.w.u.l.r) (Bg (EV (Aam L) L 7 Bb1.w.u.r) (Dq Tryz.prog (RS Tryz.f143) k))) .normal st9))
theorem Bmu(p7_0:A9)(p7_1:Aa)(o5:Cp)(p7_4:A9)(p7_2:List ByteArray)(p7_3:List Bool)(o8:Int):As1 p7_0.Terms p7_1 o5.2.1 o5.2.2 p7_4 p7_0 (A17 L k p7_0 p7_1 o5 p7_4) o8=ob (U3 L o5 p7_0 o8) (Asd p7_0 p7_1 p7_2 p7_3 p7_4 k):=eE (U3 L o5 p7_0 o8)
def p9 [An A Cp](L:Nat)(p7_0:A9)(p7_1:Aa)(p7_4:A9)(o5:Cp)(nx18:Cp→A):A:=
 (cn (o5.1 != 0)
 (lf (o5.1,o5.2.1,o5.2.2))
 (cn ((p7_0.Terms.length:Int) == 0)
 (lf (7,o5.2.1,o5.2.2))
 (nx18 o5)))
def l6 [An A Cp](p7_0:A9)(p7_1:Aa)(p7_4:A9)(o5:Cp):A:=p9 L p7_0 p7_1 p7_4 o5 (fun o5=>bd (Z8 L p7_0.Terms p7_1 o5.2.1 o5.2.2 p7_4 p7_0) fun o8=>U3 L o5 p7_0 o8)
def A15(p7_0:A9)(p7_1:Aa)(p7_2:List ByteArray)(p7_3:List Bool)(p7_4:A9):Bn:=(Bu Tryz.prog (Aam L) (EI (Aam L) L 7) 1 (List.drop 4 Bb1.u.l.l.ops) ⟨[(9,S p7_0.Name),(8,.loc 17 0),(7,.mp 4),(1,.loc 3 0),(2,.loc 1 0),(3,.loc 17 0),(4,I 0)],[(1,Ae p7_1),(3,[.mp 4]),(4,[.mapO false false (.t9 p7_2) (.t4 p7_3)]),(13,Dr p7_4),(17,Dr p7_0)],14⟩ (some 10) (fun st9=>(Bg (EV (Aam L) L 7 Bb1.u.l.r) (Bg (EV (Aam L) L 7 Bb1.u.r) (Dq Tryz.prog (RS Tryz.f143) k))) .normal st9))
theorem Bms(p7_0:A9)(p7_1:Aa)(p7_2:List ByteArray)(p7_3:List Bool)(p7_4:A9)(o5:Cp):A0w p7_0.Name p7_1 p7_2 p7_3 p7_4 p7_0 (A15 L k p7_0 p7_1 p7_2 p7_3 p7_4) o5=ob (l6 L p7_0 p7_1 p7_4 o5) (Asd p7_0 p7_1 p7_2 p7_3 p7_4 k):=eE (p9 L p7_0 p7_1 p7_4 o5 (fun o5=>ho (Be4 L (A17 L k p7_0 p7_1 o5 p7_4) p7_0.Terms p7_1 o5.2.1 o5.2.2 p7_4 p7_0) fun o8=>Bmu L k p7_0 p7_1 o5 p7_4 p7_2 p7_3 o8))
def Ag5 [An A Cp](p7_0:A9)(p7_1:Aa)(p7_2:List ByteArray)(p7_3:List Bool)(p7_4:A9):A:=(bd (Z7 L p7_0.Name p7_1 p7_2 p7_3 p7_4 p7_0) fun o5=>l6 L p7_0 p7_1 p7_4 o5)
def N5(p7_0:A9)(p7_1:Aa)(p7_2:List ByteArray)(p7_3:List Bool)(p7_4:A9):Option Cp:=Ag5 L p7_0 p7_1 p7_2 p7_3 p7_4
theorem Bki(p7_0:A9)(p7_1:Aa)(p7_2:List ByteArray)(p7_3:List Bool)(p7_4:A9):YO (Aam L) L 8 143 [.agg (Dr p7_0),.loc 3 0,.loc 1 0] [(1,Ae p7_1),(3,[.mp 4]),(4,[.mapO false false (.t9 p7_2) (.t4 p7_3)]),(13,Dr p7_4)] k=ob (N5 L p7_0 p7_1 p7_2 p7_3 p7_4) (Asd p7_0 p7_1 p7_2 p7_3 p7_4 k):=(Cr _ _ _ jn4 _ _ _ _ _ _ _).trans (eE ((ho (Be3 L (A15 L k p7_0 p7_1 p7_2 p7_3 p7_4) p7_0.Name p7_1 p7_2 p7_3 p7_4 p7_0) fun o5=>Bms L k p7_0 p7_1 p7_2 p7_3 p7_4 o5)))
def A0j(p1_0:List A9)(p1_1:Aa)(v:Tu3):St:=⟨[(0,.any),(1,.any),(2,.clo 143 0 [.loc 3 0,.loc 1 0]),(6,I v.1),(14,lv (.t180 p1_0)),(15,I (p1_0.length:Int)),(16,I v.2.1)],[(1,Ae p1_1),(3,[.mp 4]),(4,[.mapO false false (.t9 v.2.2.1) (.t4 v.2.2.2)])],5⟩
def Qt [An A Tu9](L:Nat)(Al:Int)(Au:Int)(rec:Int→Int→List ByteArray→List Bool→A)(o10:Cp):A:=
 (cn (o10.1 != 0)
 (lf (0,o10.1,Al,o10.2.1,o10.2.2))
 (rec Au (Dp (Al+1)) o10.2.1 o10.2.2))
def Vl [An A Tu9](L:Nat)(p1_0:List A9)(p1_1:Aa)(rec:Int→Int→List ByteArray→List Bool→A)(Au:Int)(Al:Int)(Dg:List ByteArray)(Dj:List Bool)(nx19:Int→(List ByteArray)→(List Bool)→Int→A):A:=
 (lw Al p1_0
 (nx19 Al Dg Dj Au)
 (lf (1,Au,Al,Dg,Dj)))
def Aau [An A Tu9](p1_0:List A9)(p1_1:Aa)(rec:Int→Int→List ByteArray→List Bool→A)(Au:Int)(Al:Int)(Dg:List ByteArray)(Dj:List Bool):A:=Vl L p1_0 p1_1 rec Au Al Dg Dj (fun Al Dg Dj Au=>bd (N5 L (p1_0.getD (Int.toNat Al) default) p1_1 Dg Dj (p1_0.getD (Int.toNat Al) default)) fun o10=>Qt L Al Au rec o10)
def I8(L:Nat)(p1_0:List A9)(p1_1:Aa):Nat→Int→Int→List ByteArray→List Bool→Option Tu9
 |0,_,_,_,_=>none
 |n+1,Au,Al,Dg,Dj=>Aau L p1_0 p1_1 (I8 L p1_0 p1_1 n) Au Al Dg Dj
def A6d(p1_0:List A9)(p1_1:Aa):Prop:=LI (EV (Aam L) L 8 Bb0.w.l.u.l.l) [0,1,2,6,14,15,16] [1,3,4] (A0j p1_0 p1_1) [.ret,.exit 0] (fun n v=>I8 L p1_0 p1_1 n v.1 v.2.1 v.2.2.1 v.2.2.2) K n
def A18(p1_0:List A9)(Al:Int)(Au:Int)(p1_1:Aa)(Dg:List ByteArray)(Dj:List Bool):Bn:=(Bu Tryz.prog (Aam L) (EI (Aam L) L 8) 1 (List.drop 3 Bb0.w.l.u.l.l.w.l.l.u.l.ops) ⟨[(21,.agg (Dr (p1_0.getD (Int.toNat Al) default))),(20,.clo 143 0 [.loc 3 0,.loc 1 0]),(2,.clo 143 0 [.loc 3 0,.loc 1 0]),(6,I Au),(8,.loc 13 0),(14,lv (.t180 p1_0)),(15,I (p1_0.length:Int)),(16,I Al),(17,B (decide (Al < (p1_0.length:Int)))),(18,.ref (Dr (p1_0.getD (Int.toNat Al) default))),(19,.agg (Dr (p1_0.getD (Int.toNat Al) default)))],[(1,Ae p1_1),(3,[.mp 4]),(4,[.mapO false false (.t9 Dg) (.t4 Dj)]),(13,(Dr (p1_0.getD (Int.toNat Al) default)))],5⟩ (some 22) (fun st9=>(Bg (EV (Aam L) L 8 Bb0.w.l.u.l.l.w.l.l.u.r) (Ba 1 (Bg (EV (Aam L) L 8 Bb0.w.l.u.l.l.w.r) (Ii (Kw (EV (Aam L) L 8 Bb0.w.l.u.l.l) [0,1,2,6,14,15,16] [1,3,4] n) [0,1,2,6,14,15,16] [1,3,4] K)))) .normal st9))
theorem Bmv(p1_0:List A9)(Al:Int)(p1_1:Aa)(Dg:List ByteArray)(Dj:List Bool)(Au:Int)(ih:A6d L n K p1_0 p1_1)(o10:Cp):Asd (p1_0.getD (Int.toNat Al) default) p1_1 Dg Dj (p1_0.getD (Int.toNat Al) default) (A18 L n K p1_0 Al Au p1_1 Dg Dj) o10=ob (Qt L Al Au (I8 L p1_0 p1_1 n) o10) (kX [.ret,.exit 0] (A0j p1_0 p1_1) K):=eE (Qt L Al Au (fun Au Al Dg Dj=>re (ih (Au,Al,Dg,Dj))) o10)
theorem Blf(p1_0:List A9)(p1_1:Aa):∀n,A6d L n K p1_0 p1_1:=lE (fun _=>rfl) fun n v ih=>eE (Vl L p1_0 p1_1 (fun Au Al Dg Dj=>re (ih (Au,Al,Dg,Dj))) v.1 v.2.1 v.2.2.1 v.2.2.2 (fun Al Dg Dj Au=>ho (Bki L (A18 L n K p1_0 Al Au p1_1 Dg Dj) (p1_0.getD (Int.toNat Al) default) p1_1 Dg Dj (p1_0.getD (Int.toNat Al) default)) fun o10=>Bmv L n K p1_0 Al p1_1 Dg Dj Au ih o10))
def Ayb(p1_0:List A9)(p1_1:Aa)(k:Bn):Cp→Prop:=fun o=>k (I o.1) [(1,Ae p1_1),(3,[.mp 4]),(4,[.mapO false false (.t9 o.2.1) (.t4 o.2.2)])]
def l8 [An A Cp](L:Nat)(o11:Nat×Tu3):A:=
 (sl o11.1 [(lf (o11.2.1,o11.2.2.2.1,o11.2.2.2.2)),
 (lf (0,o11.2.2.2.1,o11.2.2.2.2))])
def A19:Br:=(Ba 0 (Bg (EV (Aam L) L 8 Bb0.w.r) (Dq Tryz.prog (RS Tryz.f142) k)))
theorem Bmw(p1_0:List A9)(p1_1:Aa)(o11:Nat×Tu3):kX [.ret,.exit 0] (A0j p1_0 p1_1) (A19 L k) o11=ob (l8 L o11) (Ayb p1_0 p1_1 k):=eE (l8 L o11)
def Afe [An A Cp](L:Nat)(p1_0:List A9)(p1_1:Aa)(nx20:A):A:=
 (cn (decide ((p1_0.length:Int) > 32))
 (lf (6,[],[]))
 nx20)
def Arm [An A Cp](p1_0:List A9)(p1_1:Aa):A:=Afe L p1_0 p1_1 (bd (I8 L p1_0 p1_1 L 0 0 [] []) fun o11=>l8 L o11)
def Aar(p1_0:List A9)(p1_1:Aa):Option Cp:=Arm L p1_0 p1_1
theorem Bkh(p1_0:List A9)(p1_1:Aa):YO (Aam L) L 9 142 [lv (.t180 p1_0),I 32,.clo 143 0 [.loc 3 0,.loc 1 0]] [(1,Ae p1_1),(3,[.mp 4]),(4,[.mapO false false (.t9 []) (.t4 [])])] k=ob (Aar L p1_0 p1_1) (Ayb p1_0 p1_1 k):=(Cr _ _ _ jn4 _ _ _ _ _ _ _).trans (eE (Afe L p1_0 p1_1 (ho (Blf L (A19 L k) p1_0 p1_1 L (0,0,[],[])) fun o11=>Bmw L k p1_0 p1_1 o11)))
def Qu [An A Int](L:Nat)(o12:Cp):A:=
 (lf o12.1)
def A2a(a0:Aa):Bn:=(Bu Tryz.prog (Aam L) (EI (Aam L) L 9) 1 (List.drop 4 Bx3.w.l.ops) ⟨[(7,.clo 143 0 [.loc 3 0,.loc 1 0]),(6,lv (.t180 a0.Laws)),(5,.loc 1 12),(1,.loc 1 0),(2,I 0),(3,.loc 3 0)],[(1,Ae a0),(3,[.mp 4]),(4,[.mapO false false (.t9 []) (.t4 [])])],0⟩ (some 8) (fun st9=>(Bg (EV (Aam L) L 9 Bx3.w.r) (Gu Tryz.prog (RS Tryz.f114) kk)) .normal st9))
theorem Bmx(a0:Aa)(o12:Cp):Ayb a0.Laws a0 (A2a L kk a0) o12=ob (Qu L o12) (kQ I kk):=eE (Qu L o12)
def Ami [An A Int](a0:Aa):A:=(bd (Aar L a0.Laws a0) fun o12=>Qu L o12)
def Abl(a0:Aa):Option Int:=Ami L a0
def Bwg:N2:=E1 I 114 I7 (Abl L) fun a0 r h=>hF Tryz.func114 (C:=Aam L) (oS _) L (fun kk=>eE ((ho (Bkh L (A2a L kk a0) a0.Laws a0) fun o12=>Bmx L kk a0 o12))) h
end
end Go.Proofs.YtfencmicmnhglaaGreat.Ev
