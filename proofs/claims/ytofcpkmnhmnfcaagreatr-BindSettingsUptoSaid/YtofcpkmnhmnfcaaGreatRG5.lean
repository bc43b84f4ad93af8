import Derived.Test.YtofcpkmnhmnfcaaGreatRG3
import Derived.Test.YtofcpkmnhmnfcaaGreatRG4
namespace Go.Proofs.YtofcpkmnhmnfcaaGreatR.Ev
open Go An
set_option maxRecDepth 100000
set_option maxHeartbeats 4000000
set_option linter.unusedVariables false
set_option linter.unusedSimpArgs false
set_option linter.unnecessarySimpa false
noncomputable section
variable {A:Type} (L n:Nat) (kk:Cz) (K:Ax) (k:Bk)
def Buu:=CC Tryz.f165
def Bl7:=CC Tryz.f219
def Buv:=CC Tryz.f181
def Aip:Ba:=oL [Bc2 L,Bll L,B34 L]
def A70:Ax:=(Av 0 (Bb (EV (Aip L) L 9 Buv.w.r) (Cm Tryz.prog (RS Tryz.f181) kk)))
def A7x(a0:Aa)(a1:Ay)(kk:Cz):Bk:=(Bz Tryz.prog (Aip L) (EI (Aip L) L 8) 2 (List.drop 3 Bl7.u.l.ops) ⟨[(6,.clo 220 0 [.loc 3 0]),(5,lv (.t113 a0.Stores)),(0,lv (.t113 a0.Stores)),(1,.clo 220 0 [.loc 3 0]),(4,B false)],[(2,(Af a0)),(3,(Gz a1))],4⟩ (some 7) (fun st9=>(Bb (EV (Aip L) L 8 Bl7.u.r) (Dz Tryz.prog (RS Tryz.f219) (Bz Tryz.prog (Aip L) (EI (Aip L) L 9) 1 (List.drop 4 Buv.w.l.u.l.w.r.l.ops) ⟨[(23,.clo 220 0 [.loc 3 0]),(22,lv (.t113 a0.Stores)),(21,.loc 2 3),(2,.loc 2 0),(3,.loc 3 0),(4,I 0),(5,B false),(7,S a1.What),(17,B (a1.What.toList == (⟨#[101,110,116,101,114,101,100]⟩:ByteArray).toList))],[(2,(Af a0)),(3,(Gz a1))],0⟩ (some 24) (fun st9=>(A70 L kk) .normal st9)))) .normal st9))
def A7y(a0:Aa)(a1:Ay)(kk:Cz):Bk:=(Bz Tryz.prog (Aip L) (EI (Aip L) L 8) 2 (List.drop 3 Bl7.u.l.ops) ⟨[(6,.clo 220 0 [.loc 3 0]),(5,lv (.t113 a0.Stores)),(0,lv (.t113 a0.Stores)),(1,.clo 220 0 [.loc 3 0]),(4,B false)],[(2,(Af a0)),(3,(Gz a1))],4⟩ (some 7) (fun st9=>(Bb (EV (Aip L) L 8 Bl7.u.r) (Dz Tryz.prog (RS Tryz.f219) (Bz Tryz.prog (Aip L) (EI (Aip L) L 9) 1 (List.drop 4 Buv.w.l.u.l.w.r.l.ops) ⟨[(23,.clo 220 0 [.loc 3 0]),(22,lv (.t113 a0.Stores)),(21,.loc 2 3),(2,.loc 2 0),(3,.loc 3 0),(4,I 0),(5,B false),(7,S a1.What),(17,B (a1.What.toList == (⟨#[115,116,111,114,101,100]⟩:ByteArray).toList))],[(2,(Af a0)),(3,(Gz a1))],0⟩ (some 24) (fun st9=>(A70 L kk) .normal st9)))) .normal st9))
def A7z(a0:Aa)(a1:Ay)(kk:Cz):Bk:=(Bz Tryz.prog (Aip L) (EI (Aip L) L 8) 2 (List.drop 3 Bl7.u.l.ops) ⟨[(6,.clo 220 0 [.loc 3 0]),(5,lv (.t113 a0.Stores)),(0,lv (.t113 a0.Stores)),(1,.clo 220 0 [.loc 3 0]),(4,B false)],[(2,(Af a0)),(3,(Gz a1))],4⟩ (some 7) (fun st9=>(Bb (EV (Aip L) L 8 Bl7.u.r) (Dz Tryz.prog (RS Tryz.f219) (Bz Tryz.prog (Aip L) (EI (Aip L) L 9) 1 (List.drop 4 Buv.w.l.u.l.w.r.l.ops) ⟨[(23,.clo 220 0 [.loc 3 0]),(22,lv (.t113 a0.Stores)),(21,.loc 2 3),(2,.loc 2 0),(3,.loc 3 0),(4,I 0),(5,B false),(7,S a1.What),(17,B (a1.What.toList == (⟨#[108,101,102,116]⟩:ByteArray).toList))],[(2,(Af a0)),(3,(Gz a1))],0⟩ (some 24) (fun st9=>(A70 L kk) .normal st9)))) .normal st9))
def Bkb(p1_0:List Ar)(p1_1:Aa)(p1_2:Ay)(v:Co):St:=⟨[(0,lv (.t113 p1_0)),(1,.clo 220 0 [.loc 3 0]),(4,I v.1),(7,I (p1_0.length:Int)),(8,I v.2)],[(2,(Af p1_1)),(3,(Gz p1_2))],4⟩
def Ym [An A B7](L:Nat)(p1_0:List Ar)(p1_1:Aa)(p1_2:Ay)(rec:Int→Int→A)(Aj:Int)(Ai:Int):A:=
 (lw Ai p1_0
 (cn (((p1_0.getD (Int.toNat Ai) default).Name).toList == p1_2.Name.toList)
 (lf (0,Ai,Ai))
 (rec Aj (B6 (Ai+1))))
 (lf (1,Aj,Ai)))
def L7(L:Nat)(p1_0:List Ar)(p1_1:Aa)(p1_2:Ay):Nat→Int→Int→Option B7
 |0,_,_=>none
 |n+1,Aj,Ai=>Ym L p1_0 p1_1 p1_2 (L7 L p1_0 p1_1 p1_2 n) Aj Ai
theorem Byt(p1_0:List Ar)(p1_1:Aa)(p1_2:Ay):LP (EV (Aip L) L 7 Buu.u.l.u.l.l) [0,1,4,7,8] [2,3] (Bkb p1_0 p1_1 p1_2) [.ret,.exit 0] (fun n v=>L7 L p1_0 p1_1 p1_2 n v.1 v.2) K:=lE (fun _=>rfl) fun n v ih=>eE (Ym L p1_0 p1_1 p1_2 (fun Aj Ai=>re (ih (Aj,Ai))) v.1 v.2)
def Zz(p1_0:List Ar)(p1_1:Aa)(p1_2:Ay)(k:Bk):Int→Prop:=fun o=>k (I o) [(2,(Af p1_1)),(3,(Gz p1_2))]
def Yy [An A Int](L:Nat)(o4:Nat×Co):A:=
 (sl o4.1 [(lf o4.2.1),
 (lf (-1))])
def Bgv:Ax:=(Av 0 (Bb (EV (Aip L) L 7 Buu.u.r) (Dz Tryz.prog (RS Tryz.f165) k)))
theorem B8n(p1_0:List Ar)(p1_1:Aa)(p1_2:Ay)(o4:Nat×Co):kX [.ret,.exit 0] (Bkb p1_0 p1_1 p1_2) (Bgv L k) o4=ob (Yy L o4) (Zz p1_0 p1_1 p1_2 k):=eE (Yy L o4)
def Alt [An A Int](p1_0:List Ar)(p1_1:Aa)(p1_2:Ay):A:=(bd (L7 L p1_0 p1_1 p1_2 L 0 0) fun o4=>Yy L o4)
def Eo(p1_0:List Ar)(p1_1:Aa)(p1_2:Ay):Option Int:=Alt L p1_0 p1_1 p1_2
theorem Ad0(p1_0:List Ar)(p1_1:Aa)(p1_2:Ay):YO (Aip L) L 8 165 [lv (.t113 p1_0),.clo 220 0 [.loc 3 0]] [(2,(Af p1_1)),(3,(Gz p1_2))] k=ob (Eo L p1_0 p1_1 p1_2) (Zz p1_0 p1_1 p1_2 k):=(C3 _ _ _ jn4 _ _ _ _ _ _ _).trans (eE ((ho (Byt L (Bgv L k) p1_0 p1_1 p1_2 L (0,0)) fun o4=>B8n L k p1_0 p1_1 p1_2 o4)))
def Td [An A Int](a1:Ay)(o38:Int):A:=
 (cn (!(decide (o38≥0)))
 (lf 5)
 (bd (Be L a1.Coef (-1000) 1000) fun r39=>
 (jp (.cn (!r39)
 (.lf true)
 (.lf (a1.Coef == 0))) (fun b40=>
 (cn b40
 (lf 2)
 (lf 0))))))
def Bgw(a0:Aa)(a1:Ay):Bk:=(A7y L a0 a1 kk)
theorem B8o(a0:Aa)(a1:Ay)(o38:Int):Zz a0.Stores a0 a1 (Bgw L kk a0 a1) o38=ob (Td L a1 o38) (kQ I kk):=eE (Td L a1 o38)
def Te [An A Int](a1:Ay)(o41:Int):A:=
 (cn (!(decide (o41≥0)))
 (lf 5)
 (bd (Be L a1.Coef (-1000) 1000) fun r42=>
 (jp (.cn (!r42)
 (.lf true)
 (.lf (a1.Coef == 0))) (fun b43=>
 (cn b43
 (lf 2)
 (lf 0))))))
def Bgx(a0:Aa)(a1:Ay):Bk:=(A7x L a0 a1 kk)
theorem B8p(a0:Aa)(a1:Ay)(o41:Int):Zz a0.Stores a0 a1 (Bgx L kk a0 a1) o41=ob (Te L a1 o41) (kQ I kk):=eE (Te L a1 o41)
def Tf [An A Int](a1:Ay)(o44:Int):A:=
 (cn (!(decide (o44≥0)))
 (lf 5)
 (bd (Be L a1.Coef (-1000) 1000) fun r45=>
 (jp (.cn (!r45)
 (.lf true)
 (.lf (a1.Coef == 0))) (fun b46=>
 (cn b46
 (lf 2)
 (lf 0))))))
def Bgy(a0:Aa)(a1:Ay):Bk:=(A7z L a0 a1 kk)
theorem B8q(a0:Aa)(a1:Ay)(o44:Int):Zz a0.Stores a0 a1 (Bgy L kk a0 a1) o44=ob (Tf L a1 o44) (kQ I kk):=eE (Tf L a1 o44)
def Tg [An A Int](a1:Ay)(o47:Int):A:=
 (cn (!(decide (o47≥0)))
 (lf 5)
 (bd (Be L a1.Coef (-1000) 1000) fun r48=>
 (jp (.cn (!r48)
 (.lf true)
 (.lf (a1.Coef == 0))) (fun b49=>
 (cn b49
 (lf 2)
 (lf 0))))))
def Bgz(a0:Aa)(a1:Ay):Bk:=(A7y L a0 a1 kk)
theorem B8r(a0:Aa)(a1:Ay)(o47:Int):Zz a0.Stores a0 a1 (Bgz L kk a0 a1) o47=ob (Tg L a1 o47) (kQ I kk):=eE (Tg L a1 o47)
def Th [An A Int](a1:Ay)(o50:Int):A:=
 (cn (!(decide (o50≥0)))
 (lf 5)
 (bd (Be L a1.Coef (-1000) 1000) fun r51=>
 (jp (.cn (!r51)
 (.lf true)
 (.lf (a1.Coef == 0))) (fun b52=>
 (cn b52
 (lf 2)
 (lf 0))))))
def Bg0(a0:Aa)(a1:Ay):Bk:=(A7x L a0 a1 kk)
theorem B8s(a0:Aa)(a1:Ay)(o50:Int):Zz a0.Stores a0 a1 (Bg0 L kk a0 a1) o50=ob (Th L a1 o50) (kQ I kk):=eE (Th L a1 o50)
def Ti [An A Int](a1:Ay)(o53:Int):A:=
 (cn (!(decide (o53≥0)))
 (lf 5)
 (bd (Be L a1.Coef (-1000) 1000) fun r54=>
 (jp (.cn (!r54)
 (.lf true)
 (.lf (a1.Coef == 0))) (fun b55=>
 (cn b55
 (lf 2)
 (lf 0))))))
def Bg1(a0:Aa)(a1:Ay):Bk:=(A7z L a0 a1 kk)
theorem B8t(a0:Aa)(a1:Ay)(o53:Int):Zz a0.Stores a0 a1 (Bg1 L kk a0 a1) o53=ob (Ti L a1 o53) (kQ I kk):=eE (Ti L a1 o53)
def Tj [An A Int](a1:Ay)(o56:Int):A:=
 (cn (!(decide (o56≥0)))
 (lf 5)
 (bd (Be L a1.Coef (-1000) 1000) fun r57=>
 (jp (.cn (!r57)
 (.lf true)
 (.lf (a1.Coef == 0))) (fun b58=>
 (cn b58
 (lf 2)
 (lf 0))))))
def Bg2(a0:Aa)(a1:Ay):Bk:=(A7y L a0 a1 kk)
theorem B8u(a0:Aa)(a1:Ay)(o56:Int):Zz a0.Stores a0 a1 (Bg2 L kk a0 a1) o56=ob (Tj L a1 o56) (kQ I kk):=eE (Tj L a1 o56)
def R6 [An A Int](a1:Ay)(o59:Int):A:=
 (cn (!(decide (o59≥0)))
 (lf 5)
 (bd (Be L a1.Coef (-1000) 1000) fun r60=>
 (jp (.cn (!r60)
 (.lf true)
 (.lf (a1.Coef == 0))) (fun b61=>
 (cn b61
 (lf 2)
 (lf 0))))))
def Bap(a0:Aa)(a1:Ay):Bk:=(A7x L a0 a1 kk)
theorem Bz6(a0:Aa)(a1:Ay)(o59:Int):Zz a0.Stores a0 a1 (Bap L kk a0 a1) o59=ob (R6 L a1 o59) (kQ I kk):=eE (R6 L a1 o59)
def R7 [An A Int](a1:Ay)(o62:Int):A:=
 (cn (!(decide (o62≥0)))
 (lf 5)
 (bd (Be L a1.Coef (-1000) 1000) fun r63=>
 (jp (.cn (!r63)
 (.lf true)
 (.lf (a1.Coef == 0))) (fun b64=>
 (cn b64
 (lf 2)
 (lf 0))))))
def Baq(a0:Aa)(a1:Ay):Bk:=(A7z L a0 a1 kk)
theorem Bz7(a0:Aa)(a1:Ay)(o62:Int):Zz a0.Stores a0 a1 (Baq L kk a0 a1) o62=ob (R7 L a1 o62) (kQ I kk):=eE (R7 L a1 o62)
def Y3 [An A Int](a0:Aa)(a1:Ay)(nx3:A)(nx4:A)(nx5:A)(nx6:A)(nx7:A)(nx8:A)(nx9:A)(nx10:A)(nx11:A):A:=
 (cn (a1.What.toList == (⟨#[99,114,101,97,116,101,100]⟩:ByteArray).toList)
 (cn (a1.What.toList == (⟨#[99,114,101,97,116,101,100]⟩:ByteArray).toList)
 (bd (Fv L a0 a1.Name) fun r1=>
 (cn (!(decide (r1≥0)))
 (lf 5)
 (bd (Be L a1.Coef (-1000) 1000) fun r2=>
 (jp (.cn (!r2)
 (.lf true)
 (.lf (a1.Coef == 0))) (fun b3=>
 (cn b3
 (lf 2)
 (lf 0)))))))
 (cn (a1.What.toList == (⟨#[115,116,111,114,101,100]⟩:ByteArray).toList)
 (cn (a1.What.toList == (⟨#[115,116,111,114,101,100]⟩:ByteArray).toList)
 nx3
 (cn (a1.What.toList == (⟨#[99,111,117,110,116,101,100]⟩:ByteArray).toList)
 (bd (Bs L a0.Counts a1.Name) fun r5=>
 (cn (!r5)
 (lf 5)
 (bd (Be L a1.Coef (-1000) 1000) fun r6=>
 (jp (.cn (!r6)
 (.lf true)
 (.lf (a1.Coef == 0))) (fun b7=>
 (cn b7
 (lf 2)
 (lf 0)))))))
 (lf 1)))
 (cn (a1.What.toList == (⟨#[101,110,116,101,114,101,100]⟩:ByteArray).toList)
 (cn (a1.What.toList == (⟨#[101,110,116,101,114,101,100]⟩:ByteArray).toList)
 nx4
 (cn (a1.What.toList == (⟨#[99,111,117,110,116,101,100]⟩:ByteArray).toList)
 (bd (Bs L a0.Counts a1.Name) fun r8=>
 (cn (!r8)
 (lf 5)
 (bd (Be L a1.Coef (-1000) 1000) fun r9=>
 (jp (.cn (!r9)
 (.lf true)
 (.lf (a1.Coef == 0))) (fun b10=>
 (cn b10
 (lf 2)
 (lf 0)))))))
 (lf 1)))
 (cn (a1.What.toList == (⟨#[108,101,102,116]⟩:ByteArray).toList)
 nx5
 (cn (a1.What.toList == (⟨#[99,111,117,110,116,101,100]⟩:ByteArray).toList)
 (bd (Bs L a0.Counts a1.Name) fun r11=>
 (cn (!r11)
 (lf 5)
 (bd (Be L a1.Coef (-1000) 1000) fun r12=>
 (jp (.cn (!r12)
 (.lf true)
 (.lf (a1.Coef == 0))) (fun b13=>
 (cn b13
 (lf 2)
 (lf 0)))))))
 (lf 1))))))
 (cn (a1.What.toList == (⟨#[101,110,100,101,100]⟩:ByteArray).toList)
 (cn (a1.What.toList == (⟨#[101,110,100,101,100]⟩:ByteArray).toList)
 (bd (Fv L a0 a1.Name) fun r14=>
 (cn (!(decide (r14≥0)))
 (lf 5)
 (bd (Be L a1.Coef (-1000) 1000) fun r15=>
 (jp (.cn (!r15)
 (.lf true)
 (.lf (a1.Coef == 0))) (fun b16=>
 (cn b16
 (lf 2)
 (lf 0)))))))
 (cn (a1.What.toList == (⟨#[115,116,111,114,101,100]⟩:ByteArray).toList)
 (cn (a1.What.toList == (⟨#[115,116,111,114,101,100]⟩:ByteArray).toList)
 nx6
 (cn (a1.What.toList == (⟨#[99,111,117,110,116,101,100]⟩:ByteArray).toList)
 (bd (Bs L a0.Counts a1.Name) fun r17=>
 (cn (!r17)
 (lf 5)
 (bd (Be L a1.Coef (-1000) 1000) fun r18=>
 (jp (.cn (!r18)
 (.lf true)
 (.lf (a1.Coef == 0))) (fun b19=>
 (cn b19
 (lf 2)
 (lf 0)))))))
 (lf 1)))
 (cn (a1.What.toList == (⟨#[101,110,116,101,114,101,100]⟩:ByteArray).toList)
 (cn (a1.What.toList == (⟨#[101,110,116,101,114,101,100]⟩:ByteArray).toList)
 nx7
 (cn (a1.What.toList == (⟨#[99,111,117,110,116,101,100]⟩:ByteArray).toList)
 (bd (Bs L a0.Counts a1.Name) fun r20=>
 (cn (!r20)
 (lf 5)
 (bd (Be L a1.Coef (-1000) 1000) fun r21=>
 (jp (.cn (!r21)
 (.lf true)
 (.lf (a1.Coef == 0))) (fun b22=>
 (cn b22
 (lf 2)
 (lf 0)))))))
 (lf 1)))
 (cn (a1.What.toList == (⟨#[108,101,102,116]⟩:ByteArray).toList)
 nx8
 (cn (a1.What.toList == (⟨#[99,111,117,110,116,101,100]⟩:ByteArray).toList)
 (bd (Bs L a0.Counts a1.Name) fun r23=>
 (cn (!r23)
 (lf 5)
 (bd (Be L a1.Coef (-1000) 1000) fun r24=>
 (jp (.cn (!r24)
 (.lf true)
 (.lf (a1.Coef == 0))) (fun b25=>
 (cn b25
 (lf 2)
 (lf 0)))))))
 (lf 1))))))
 (cn (a1.What.toList == (⟨#[105,110,115,105,100,101]⟩:ByteArray).toList)
 (bd (Fv L a0 a1.Name) fun r26=>
 (cn (!(decide (r26≥0)))
 (lf 5)
 (bd (Be L a1.Coef (-1000) 1000) fun r27=>
 (jp (.cn (!r27)
 (.lf true)
 (.lf (a1.Coef == 0))) (fun b28=>
 (cn b28
 (lf 2)
 (lf 0)))))))
 (cn (a1.What.toList == (⟨#[115,116,111,114,101,100]⟩:ByteArray).toList)
 (cn (a1.What.toList == (⟨#[115,116,111,114,101,100]⟩:ByteArray).toList)
 nx9
 (cn (a1.What.toList == (⟨#[99,111,117,110,116,101,100]⟩:ByteArray).toList)
 (bd (Bs L a0.Counts a1.Name) fun r29=>
 (cn (!r29)
 (lf 5)
 (bd (Be L a1.Coef (-1000) 1000) fun r30=>
 (jp (.cn (!r30)
 (.lf true)
 (.lf (a1.Coef == 0))) (fun b31=>
 (cn b31
 (lf 2)
 (lf 0)))))))
 (lf 1)))
 (cn (a1.What.toList == (⟨#[101,110,116,101,114,101,100]⟩:ByteArray).toList)
 (cn (a1.What.toList == (⟨#[101,110,116,101,114,101,100]⟩:ByteArray).toList)
 nx10
 (cn (a1.What.toList == (⟨#[99,111,117,110,116,101,100]⟩:ByteArray).toList)
 (bd (Bs L a0.Counts a1.Name) fun r32=>
 (cn (!r32)
 (lf 5)
 (bd (Be L a1.Coef (-1000) 1000) fun r33=>
 (jp (.cn (!r33)
 (.lf true)
 (.lf (a1.Coef == 0))) (fun b34=>
 (cn b34
 (lf 2)
 (lf 0)))))))
 (lf 1)))
 (cn (a1.What.toList == (⟨#[108,101,102,116]⟩:ByteArray).toList)
 nx11
 (cn (a1.What.toList == (⟨#[99,111,117,110,116,101,100]⟩:ByteArray).toList)
 (bd (Bs L a0.Counts a1.Name) fun r35=>
 (cn (!r35)
 (lf 5)
 (bd (Be L a1.Coef (-1000) 1000) fun r36=>
 (jp (.cn (!r36)
 (.lf true)
 (.lf (a1.Coef == 0))) (fun b37=>
 (cn b37
 (lf 2)
 (lf 0)))))))
 (lf 1))))))))
def Atm [An A Int](a0:Aa)(a1:Ay):A:=Y3 L a0 a1 (bd (Eo L a0.Stores a0 a1) fun o38=>Td L a1 o38) (bd (Eo L a0.Stores a0 a1) fun o41=>Te L a1 o41) (bd (Eo L a0.Stores a0 a1) fun o44=>Tf L a1 o44) (bd (Eo L a0.Stores a0 a1) fun o47=>Tg L a1 o47) (bd (Eo L a0.Stores a0 a1) fun o50=>Th L a1 o50) (bd (Eo L a0.Stores a0 a1) fun o53=>Ti L a1 o53) (bd (Eo L a0.Stores a0 a1) fun o56=>Tj L a1 o56) (bd (Eo L a0.Stores a0 a1) fun o59=>R6 L a1 o59) (bd (Eo L a0.Stores a0 a1) fun o62=>R7 L a1 o62)
def Vt(a0:Aa)(a1:Ay):Option Int:=Atm L a0 a1
def Cb1:Ew:=E2 I 181 B8 Ayk (Vt L) fun a0 a1 r h=>hF Tryz.func181 (C:=Aip L) (oS _) L (fun kk=>eE (Y3 L a0 a1 (ho (Ad0 L (Bgw L kk a0 a1) a0.Stores a0 a1) fun o38=>B8o L kk a0 a1 o38) (ho (Ad0 L (Bgx L kk a0 a1) a0.Stores a0 a1) fun o41=>B8p L kk a0 a1 o41) (ho (Ad0 L (Bgy L kk a0 a1) a0.Stores a0 a1) fun o44=>B8q L kk a0 a1 o44) (ho (Ad0 L (Bgz L kk a0 a1) a0.Stores a0 a1) fun o47=>B8r L kk a0 a1 o47) (ho (Ad0 L (Bg0 L kk a0 a1) a0.Stores a0 a1) fun o50=>B8s L kk a0 a1 o50) (ho (Ad0 L (Bg1 L kk a0 a1) a0.Stores a0 a1) fun o53=>B8t L kk a0 a1 o53) (ho (Ad0 L (Bg2 L kk a0 a1) a0.Stores a0 a1) fun o56=>B8u L kk a0 a1 o56) (ho (Ad0 L (Bap L kk a0 a1) a0.Stores a0 a1) fun o59=>Bz6 L kk a0 a1 o59) (ho (Ad0 L (Baq L kk a0 a1) a0.Stores a0 a1) fun o62=>Bz7 L kk a0 a1 o62))) h
def Bl4:=CC Tryz.f177
def Bl5:=CC Tryz.f178
def Cd7:=CC Tryz.f179
def Cdk:=CC Tryz.f129
def Acs:Ba:=oL [X46 L,X65 L,Cb1 L]
def A85(p10_0:ByteArray)(p10_1:Aa)(p10_2:List ByteArray)(p10_3:List Bool)(p10_4:Az)(p10_5:Az)(k:Bk):Cv→Prop:=fun o=>k (I o.1) [(1,(Af p10_1)),(3,[.mp 4]),(4,[.mapO false false (.t9 o.2.1) (.t4 o.2.2)]),(13,(Dh p10_4)),(17,(Dh p10_5))]
def Ai4 [An A Cv](p10_0:ByteArray)(p10_1:Aa)(p10_2:List ByteArray)(p10_3:List Bool)(p10_4:Az)(p10_5:Az):A:=
 (bd (C9 L p10_0) fun r1=>
 (cn (r1 != 0)
 (lf (r1,p10_2,p10_3))
 (fq (p10_2.findIdx? fun b=>p10_0 == b) (fun i2=>
 (cn (p10_3.getD i2 default)
 (lf (4,p10_2,p10_3))
 (fq (p10_2.findIdx? fun b=>p10_0 == b) (fun i3=>
 (lf (0,p10_2,(p10_3.set i3 true))))
 (lf (0,(p10_2++ [p10_0]),(p10_3++ [true]))))))
 (fq (p10_2.findIdx? fun b=>p10_0 == b) (fun i4=>
 (lf (0,p10_2,(p10_3.set i4 true))))
 (lf (0,(p10_2++ [p10_0]),(p10_3++ [true])))))))
def w8(p10_0:ByteArray)(p10_1:Aa)(p10_2:List ByteArray)(p10_3:List Bool)(p10_4:Az)(p10_5:Az):Option Cv:=Ai4 L p10_0 p10_1 p10_2 p10_3 p10_4 p10_5
theorem Bpk(p10_0:ByteArray)(p10_1:Aa)(p10_2:List ByteArray)(p10_3:List Bool)(p10_4:Az)(p10_5:Az):YO (Acs L) L 7 69 [.mp 4,S p10_0] [(1,(Af p10_1)),(3,[.mp 4]),(4,[.mapO false false (.t9 p10_2) (.t4 p10_3)]),(13,(Dh p10_4)),(17,(Dh p10_5))] k=ob (w8 L p10_0 p10_1 p10_2 p10_3 p10_4 p10_5) (A85 p10_0 p10_1 p10_2 p10_3 p10_4 p10_5 k):=(C3 _ _ _ jn4 _ _ _ _ _ _ _).trans (eE (Ai4 L p10_0 p10_1 p10_2 p10_3 p10_4 p10_5))
def Bjn(p11_0:List Ay)(p11_1:Aa)(p11_2:List ByteArray)(p11_3:List Bool)(p11_4:Az)(p11_5:Az)(v:Co):St:=⟨[(0,.any),(1,.any),(2,.clo 180 0 [.loc 1 0]),(6,I v.1),(14,lv (.t163 p11_0)),(15,I (p11_0.length:Int)),(16,I v.2)],[(1,(Af p11_1)),(3,[.mp 4]),(4,[.mapO false false (.t9 p11_2) (.t4 p11_3)]),(13,(Dh p11_4)),(17,(Dh p11_5))],18⟩
def Yk [An A B7](p11_0:List Ay)(p11_1:Aa)(p11_2:List ByteArray)(p11_3:List Bool)(p11_4:Az)(p11_5:Az)(rec:Int→Int→A)(Bl:Int)(Bu:Int):A:=
 (lw Bu p11_0
 (bd (Vt L p11_1 (p11_0.getD (Int.toNat Bu) default)) fun r6=>
 (cn (r6 != 0)
 (lf (0,r6,Bu))
 (rec Bl (B6 (Bu+1)))))
 (lf (1,Bl,Bu)))
def L5(L:Nat)(p11_0:List Ay)(p11_1:Aa)(p11_2:List ByteArray)(p11_3:List Bool)(p11_4:Az)(p11_5:Az):Nat→Int→Int→Option B7
 |0,_,_=>none
 |n+1,Bl,Bu=>Yk L p11_0 p11_1 p11_2 p11_3 p11_4 p11_5 (L5 L p11_0 p11_1 p11_2 p11_3 p11_4 p11_5 n) Bl Bu
theorem Bx5(p11_0:List Ay)(p11_1:Aa)(p11_2:List ByteArray)(p11_3:List Bool)(p11_4:Az)(p11_5:Az):LP (EV (Acs L) L 6 Cd7.w.l.u.l.l) [0,1,2,6,14,15,16] [1,3,4,13,17] (Bjn p11_0 p11_1 p11_2 p11_3 p11_4 p11_5) [.ret,.exit 0] (fun n v=>L5 L p11_0 p11_1 p11_2 p11_3 p11_4 p11_5 n v.1 v.2) K:=lE (fun _=>rfl) fun n v ih=>eE (Yk L p11_0 p11_1 p11_2 p11_3 p11_4 p11_5 (fun Bl Bu=>re (ih (Bl,Bu))) v.1 v.2)
def A1q(p11_0:List Ay)(p11_1:Aa)(p11_2:List ByteArray)(p11_3:List Bool)(p11_4:Az)(p11_5:Az)(k:Bk):Int→Prop:=fun o=>k (I o) [(1,(Af p11_1)),(3,[.mp 4]),(4,[.mapO false false (.t9 p11_2) (.t4 p11_3)]),(13,(Dh p11_4)),(17,(Dh p11_5))]
def Aam [An A Int](L:Nat)(o7:Nat×Co):A:=
 (sl o7.1 [(lf o7.2.1),
 (lf 0)])
def Bak:Ax:=(Av 0 (Bb (EV (Acs L) L 6 Cd7.w.r) (Dz Tryz.prog (RS Tryz.f179) k)))
theorem Bz1(p11_0:List Ay)(p11_1:Aa)(p11_2:List ByteArray)(p11_3:List Bool)(p11_4:Az)(p11_5:Az)(o7:Nat×Co):kX [.ret,.exit 0] (Bjn p11_0 p11_1 p11_2 p11_3 p11_4 p11_5) (Bak L k) o7=ob (Aam L o7) (A1q p11_0 p11_1 p11_2 p11_3 p11_4 p11_5 k):=eE (Aam L o7)
def Ajy [An A Int](L:Nat)(p11_0:List Ay)(p11_1:Aa)(p11_2:List ByteArray)(p11_3:List Bool)(p11_4:Az)(p11_5:Az)(nx17:A):A:=
 (cn (decide ((p11_0.length:Int) > 8))
 (lf 6)
 nx17)
def Avs [An A Int](p11_0:List Ay)(p11_1:Aa)(p11_2:List ByteArray)(p11_3:List Bool)(p11_4:Az)(p11_5:Az):A:=Ajy L p11_0 p11_1 p11_2 p11_3 p11_4 p11_5 (bd (L5 L p11_0 p11_1 p11_2 p11_3 p11_4 p11_5 L 0 0) fun o7=>Aam L o7)
def w9(p11_0:List Ay)(p11_1:Aa)(p11_2:List ByteArray)(p11_3:List Bool)(p11_4:Az)(p11_5:Az):Option Int:=Avs L p11_0 p11_1 p11_2 p11_3 p11_4 p11_5
theorem Bpl(p11_0:List Ay)(p11_1:Aa)(p11_2:List ByteArray)(p11_3:List Bool)(p11_4:Az)(p11_5:Az):YO (Acs L) L 7 179 [lv (.t163 p11_0),I 8,.clo 180 0 [.loc 1 0]] [(1,(Af p11_1)),(3,[.mp 4]),(4,[.mapO false false (.t9 p11_2) (.t4 p11_3)]),(13,(Dh p11_4)),(17,(Dh p11_5))] k=ob (w9 L p11_0 p11_1 p11_2 p11_3 p11_4 p11_5) (A1q p11_0 p11_1 p11_2 p11_3 p11_4 p11_5 k):=(C3 _ _ _ jn4 _ _ _ _ _ _ _).trans (eE (Ajy L p11_0 p11_1 p11_2 p11_3 p11_4 p11_5 (ho (Bx5 L (Bak L k) p11_0 p11_1 p11_2 p11_3 p11_4 p11_5 L (0,0)) fun o7=>Bz1 L k p11_0 p11_1 p11_2 p11_3 p11_4 p11_5 o7)))
def Az4(p7_0:Az)(p7_1:Aa)(p7_2:List ByteArray)(p7_3:List Bool)(p7_4:Az)(k:Bk):Cv→Prop:=fun o=>k (I o.1) [(1,(Af p7_1)),(3,[.mp 4]),(4,[.mapO false false (.t9 o.2.1) (.t4 o.2.2)]),(13,(Dh p7_4)),(17,(Dh p7_0))]
def Wl [An A Cv](o5:Cv)(p7_0:Az)(o8:Int):A:=
 (cn (o8 != 0)
 (lf (o8,o5.2.1,o5.2.2))
 (bd (Ab5 L p7_0.Total) fun r9=>
 (cn (!r9)
 (lf (2,o5.2.1,o5.2.2))
 (lf (0,o5.2.1,o5.2.2)))))
def Bal(p7_0:Az)(p7_1:Aa)(o5:Cv)(p7_4:Az):Bk:=(Bz Tryz.prog (Acs L) (EI (Acs L) L 7) 1 (List.drop 4 Bl5.w.u.l.l.ops) ⟨[(20,.clo 180 0 [.loc 1 0]),(19,lv (.t163 p7_0.Terms)),(18,.loc 17 1),(2,.loc 1 0),(3,.loc 17 0),(4,I 0)],[(1,(Af p7_1)),(3,[.mp 4]),(4,[.mapO false false (.t9 o5.2.1) (.t4 o5.2.2)]),(13,(Dh p7_4)),(17,(Dh p7_0))],14⟩ (some 21) (fun st9=>(Bb (EV (Acs L) L 7 Bl5.w.u.l.r) (Bb (EV (Acs L) L 7 Bl5.w.u.r) (Dz Tryz.prog (RS Tryz.f178) k))) .normal st9))
theorem Bz2(p7_0:Az)(p7_1:Aa)(o5:Cv)(p7_4:Az)(p7_2:List ByteArray)(p7_3:List Bool)(o8:Int):A1q p7_0.Terms p7_1 o5.2.1 o5.2.2 p7_4 p7_0 (Bal L k p7_0 p7_1 o5 p7_4) o8=ob (Wl L o5 p7_0 o8) (Az4 p7_0 p7_1 p7_2 p7_3 p7_4 k):=eE (Wl L o5 p7_0 o8)
def Aa2 [An A Cv](L:Nat)(p7_0:Az)(p7_1:Aa)(p7_4:Az)(o5:Cv)(nx18:Cv→A):A:=
 (cn (o5.1 != 0)
 (lf (o5.1,o5.2.1,o5.2.2))
 (cn ((p7_0.Terms.length:Int) == 0)
 (lf (7,o5.2.1,o5.2.2))
 (nx18 o5)))
def Aal [An A Cv](p7_0:Az)(p7_1:Aa)(p7_4:Az)(o5:Cv):A:=Aa2 L p7_0 p7_1 p7_4 o5 (fun o5=>bd (w9 L p7_0.Terms p7_1 o5.2.1 o5.2.2 p7_4 p7_0) fun o8=>Wl L o5 p7_0 o8)
def Baj(p7_0:Az)(p7_1:Aa)(p7_2:List ByteArray)(p7_3:List Bool)(p7_4:Az):Bk:=(Bz Tryz.prog (Acs L) (EI (Acs L) L 7) 1 (List.drop 4 Bl5.u.l.l.ops) ⟨[(9,S p7_0.Name),(8,.loc 17 0),(7,.mp 4),(1,.loc 3 0),(2,.loc 1 0),(3,.loc 17 0),(4,I 0)],[(1,(Af p7_1)),(3,[.mp 4]),(4,[.mapO false false (.t9 p7_2) (.t4 p7_3)]),(13,(Dh p7_4)),(17,(Dh p7_0))],14⟩ (some 10) (fun st9=>(Bb (EV (Acs L) L 7 Bl5.u.l.r) (Bb (EV (Acs L) L 7 Bl5.u.r) (Dz Tryz.prog (RS Tryz.f178) k))) .normal st9))
theorem Bz0(p7_0:Az)(p7_1:Aa)(p7_2:List ByteArray)(p7_3:List Bool)(p7_4:Az)(o5:Cv):A85 p7_0.Name p7_1 p7_2 p7_3 p7_4 p7_0 (Baj L k p7_0 p7_1 p7_2 p7_3 p7_4) o5=ob (Aal L p7_0 p7_1 p7_4 o5) (Az4 p7_0 p7_1 p7_2 p7_3 p7_4 k):=eE (Aa2 L p7_0 p7_1 p7_4 o5 (fun o5=>ho (Bpl L (Bal L k p7_0 p7_1 o5 p7_4) p7_0.Terms p7_1 o5.2.1 o5.2.2 p7_4 p7_0) fun o8=>Bz2 L k p7_0 p7_1 o5 p7_4 p7_2 p7_3 o8))
def Alr [An A Cv](p7_0:Az)(p7_1:Aa)(p7_2:List ByteArray)(p7_3:List Bool)(p7_4:Az):A:=(bd (w8 L p7_0.Name p7_1 p7_2 p7_3 p7_4 p7_0) fun o5=>Aal L p7_0 p7_1 p7_4 o5)
def Ox(p7_0:Az)(p7_1:Aa)(p7_2:List ByteArray)(p7_3:List Bool)(p7_4:Az):Option Cv:=Alr L p7_0 p7_1 p7_2 p7_3 p7_4
theorem Bw8(p7_0:Az)(p7_1:Aa)(p7_2:List ByteArray)(p7_3:List Bool)(p7_4:Az):YO (Acs L) L 8 178 [.agg (Dh p7_0),.loc 3 0,.loc 1 0] [(1,(Af p7_1)),(3,[.mp 4]),(4,[.mapO false false (.t9 p7_2) (.t4 p7_3)]),(13,(Dh p7_4))] k=ob (Ox L p7_0 p7_1 p7_2 p7_3 p7_4) (Az4 p7_0 p7_1 p7_2 p7_3 p7_4 k):=(C3 _ _ _ jn4 _ _ _ _ _ _ _).trans (eE ((ho (Bpk L (Baj L k p7_0 p7_1 p7_2 p7_3 p7_4) p7_0.Name p7_1 p7_2 p7_3 p7_4 p7_0) fun o5=>Bz0 L k p7_0 p7_1 p7_2 p7_3 p7_4 o5)))
def A8v(p1_0:List Az)(p1_1:Aa)(v:Tu5):St:=⟨[(0,.any),(1,.any),(2,.clo 178 0 [.loc 3 0,.loc 1 0]),(6,I v.1),(14,lv (.t124 p1_0)),(15,I (p1_0.length:Int)),(16,I v.2.1)],[(1,(Af p1_1)),(3,[.mp 4]),(4,[.mapO false false (.t9 v.2.2.1) (.t4 v.2.2.2)])],5⟩
def Rv [An A Se](L:Nat)(Ai:Int)(Al:Int)(rec:Int→Int→List ByteArray→List Bool→A)(o10:Cv):A:=
 (cn (o10.1 != 0)
 (lf (0,o10.1,Ai,o10.2.1,o10.2.2))
 (rec Al (B6 (Ai+1)) o10.2.1 o10.2.2))
def W3 [An A Se](L:Nat)(p1_0:List Az)(p1_1:Aa)(rec:Int→Int→List ByteArray→List Bool→A)(Al:Int)(Ai:Int)(De:List ByteArray)(Df:List Bool)(nx19:Int→(List ByteArray)→(List Bool)→Int→A):A:=
 (lw Ai p1_0
 (nx19 Ai De Df Al)
 (lf (1,Al,Ai,De,Df)))
def Ac3 [An A Se](p1_0:List Az)(p1_1:Aa)(rec:Int→Int→List ByteArray→List Bool→A)(Al:Int)(Ai:Int)(De:List ByteArray)(Df:List Bool):A:=W3 L p1_0 p1_1 rec Al Ai De Df (fun Ai De Df Al=>bd (Ox L (p1_0.getD (Int.toNat Ai) default) p1_1 De Df (p1_0.getD (Int.toNat Ai) default)) fun o10=>Rv L Ai Al rec o10)
def Ju(L:Nat)(p1_0:List Az)(p1_1:Aa):Nat→Int→Int→List ByteArray→List Bool→Option Se
 |0,_,_,_,_=>none
 |n+1,Al,Ai,De,Df=>Ac3 L p1_0 p1_1 (Ju L p1_0 p1_1 n) Al Ai De Df
def Be2(p1_0:List Az)(p1_1:Aa):Prop:=LI (EV (Acs L) L 8 Bl4.w.l.u.l.l) [0,1,2,6,14,15,16] [1,3,4] (A8v p1_0 p1_1) [.ret,.exit 0] (fun n v=>Ju L p1_0 p1_1 n v.1 v.2.1 v.2.2.1 v.2.2.2) K n
def Bam(p1_0:List Az)(Ai:Int)(Al:Int)(p1_1:Aa)(De:List ByteArray)(Df:List Bool):Bk:=(Bz Tryz.prog (Acs L) (EI (Acs L) L 8) 1 (List.drop 3 Bl4.w.l.u.l.l.w.l.l.u.l.ops) ⟨[(21,.agg (Dh (p1_0.getD (Int.toNat Ai) default))),(20,.clo 178 0 [.loc 3 0,.loc 1 0]),(2,.clo 178 0 [.loc 3 0,.loc 1 0]),(6,I Al),(8,.loc 13 0),(14,lv (.t124 p1_0)),(15,I (p1_0.length:Int)),(16,I Ai),(17,B (decide (Ai < (p1_0.length:Int)))),(18,.ref (Dh (p1_0.getD (Int.toNat Ai) default))),(19,.agg (Dh (p1_0.getD (Int.toNat Ai) default)))],[(1,(Af p1_1)),(3,[.mp 4]),(4,[.mapO false false (.t9 De) (.t4 Df)]),(13,(Dh (p1_0.getD (Int.toNat Ai) default)))],5⟩ (some 22) (fun st9=>(Bb (EV (Acs L) L 8 Bl4.w.l.u.l.l.w.l.l.u.r) (Av 1 (Bb (EV (Acs L) L 8 Bl4.w.l.u.l.l.w.r) (Gj (Ix (EV (Acs L) L 8 Bl4.w.l.u.l.l) [0,1,2,6,14,15,16] [1,3,4] n) [0,1,2,6,14,15,16] [1,3,4] K)))) .normal st9))
theorem Bz3(p1_0:List Az)(Ai:Int)(p1_1:Aa)(De:List ByteArray)(Df:List Bool)(Al:Int)(ih:Be2 L n K p1_0 p1_1)(o10:Cv):Az4 (p1_0.getD (Int.toNat Ai) default) p1_1 De Df (p1_0.getD (Int.toNat Ai) default) (Bam L n K p1_0 Ai Al p1_1 De Df) o10=ob (Rv L Ai Al (Ju L p1_0 p1_1 n) o10) (kX [.ret,.exit 0] (A8v p1_0 p1_1) K):=eE (Rv L Ai Al (fun Al Ai De Df=>re (ih (Al,Ai,De,Df))) o10)
theorem Bx4(p1_0:List Az)(p1_1:Aa):∀n,Be2 L n K p1_0 p1_1:=lE (fun _=>rfl) fun n v ih=>eE (W3 L p1_0 p1_1 (fun Al Ai De Df=>re (ih (Al,Ai,De,Df))) v.1 v.2.1 v.2.2.1 v.2.2.2 (fun Ai De Df Al=>ho (Bw8 L (Bam L n K p1_0 Ai Al p1_1 De Df) (p1_0.getD (Int.toNat Ai) default) p1_1 De Df (p1_0.getD (Int.toNat Ai) default)) fun o10=>Bz3 L n K p1_0 Ai p1_1 De Df Al ih o10))
def A6u(p1_0:List Az)(p1_1:Aa)(k:Bk):Cv→Prop:=fun o=>k (I o.1) [(1,(Af p1_1)),(3,[.mp 4]),(4,[.mapO false false (.t9 o.2.1) (.t4 o.2.2)])]
def Aan [An A Cv](L:Nat)(o11:Nat×Tu5):A:=
 (sl o11.1 [(lf (o11.2.1,o11.2.2.2.1,o11.2.2.2.2)),
 (lf (0,o11.2.2.2.1,o11.2.2.2.2))])
def Ban:Ax:=(Av 0 (Bb (EV (Acs L) L 8 Bl4.w.r) (Dz Tryz.prog (RS Tryz.f177) k)))
theorem Bz4(p1_0:List Az)(p1_1:Aa)(o11:Nat×Tu5):kX [.ret,.exit 0] (A8v p1_0 p1_1) (Ban L k) o11=ob (Aan L o11) (A6u p1_0 p1_1 k):=eE (Aan L o11)
def Ajz [An A Cv](L:Nat)(p1_0:List Az)(p1_1:Aa)(nx20:A):A:=
 (cn (decide ((p1_0.length:Int) > 32))
 (lf (6,[],[]))
 nx20)
def Azg [An A Cv](p1_0:List Az)(p1_1:Aa):A:=Ajz L p1_0 p1_1 (bd (Ju L p1_0 p1_1 L 0 0 [] []) fun o11=>Aan L o11)
def Acz(p1_0:List Az)(p1_1:Aa):Option Cv:=Azg L p1_0 p1_1
theorem Bw7(p1_0:List Az)(p1_1:Aa):YO (Acs L) L 9 177 [lv (.t124 p1_0),I 32,.clo 178 0 [.loc 3 0,.loc 1 0]] [(1,(Af p1_1)),(3,[.mp 4]),(4,[.mapO false false (.t9 []) (.t4 [])])] k=ob (Acz L p1_0 p1_1) (A6u p1_0 p1_1 k):=(C3 _ _ _ jn4 _ _ _ _ _ _ _).trans (eE (Ajz L p1_0 p1_1 (ho (Bx4 L (Ban L k) p1_0 p1_1 L (0,0,[],[])) fun o11=>Bz4 L k p1_0 p1_1 o11)))
def Rw [An A Int](L:Nat)(o12:Cv):A:=
 (lf o12.1)
def Bao(a0:Aa):Bk:=(Bz Tryz.prog (Acs L) (EI (Acs L) L 9) 1 (List.drop 4 Cdk.w.l.ops) ⟨[(7,.clo 178 0 [.loc 3 0,.loc 1 0]),(6,lv (.t124 a0.Laws)),(5,.loc 1 12),(1,.loc 1 0),(2,I 0),(3,.loc 3 0)],[(1,(Af a0)),(3,[.mp 4]),(4,[.mapO false false (.t9 []) (.t4 [])])],0⟩ (some 8) (fun st9=>(Bb (EV (Acs L) L 9 Cdk.w.r) (Cm Tryz.prog (RS Tryz.f129) kk)) .normal st9))
theorem Bz5(a0:Aa)(o12:Cv):A6u a0.Laws a0 (Bao L kk a0) o12=ob (Rw L o12) (kQ I kk):=eE (Rw L o12)
def Atk [An A Int](a0:Aa):A:=(bd (Acz L a0.Laws a0) fun o12=>Rw L o12)
def Ads(a0:Aa):Option Int:=Atk L a0
def Cbk:Ew:=E1 I 129 B8 (Ads L) fun a0 r h=>hF Tryz.func129 (C:=Acs L) (oS _) L (fun kk=>eE ((ho (Bw7 L (Bao L kk a0) a0.Laws a0) fun o12=>Bz5 L kk a0 o12))) h
end
end Go.Proofs.YtofcpkmnhmnfcaaGreatR.Ev
