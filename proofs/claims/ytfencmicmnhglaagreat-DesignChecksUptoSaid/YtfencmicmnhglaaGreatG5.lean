import Derived.Test.YtfencmicmnhglaaGreatG2
import Derived.Test.YtfencmicmnhglaaGreatG3
import Derived.Test.YtfencmicmnhglaaGreatG4
namespace Go.Proofs.YtfencmicmnhglaaGreat.Ev
open Go An
set_option maxRecDepth 100000
set_option maxHeartbeats 4000000
set_option linter.unusedVariables false
set_option linter.unusedSimpArgs false
set_option linter.unnecessarySimpa false
noncomputable section
variable {A:Type} (L n:Nat) (kk:Dm) (K:Be) (k:Bx)
def Bs2:=CC Tryz.f178
def B0k:=CC Tryz.f201
def B0j:=CC Tryz.f146
def Am5:Bi:=oL [X91 L,B9o L,Bsn L]
def Bdk:Be:=(Ax 0 (Bk (EV (Am5 L) L 9 B0j.w.r) (C0 Tryz.prog (RS Tryz.f146) kk)))
def Bdh(a0:Aa)(a1:Av)(kk:Dm):Bx:=(Cm Tryz.prog (Am5 L) (EI (Am5 L) L 8) 2 (List.drop 3 Bs2.u.l.ops) ⟨[(6,.clo 179 0 [.loc 3 0]),(5,lv (.t151 a0.Stores)),(0,lv (.t151 a0.Stores)),(1,.clo 179 0 [.loc 3 0]),(4,B false)],[(2,(Ae a0)),(3,(Ef a1))],4⟩ (some 7) (fun st9=>(Bk (EV (Am5 L) L 8 Bs2.u.r) (E8 Tryz.prog (RS Tryz.f178) (Cm Tryz.prog (Am5 L) (EI (Am5 L) L 9) 1 (List.drop 4 B0j.w.l.u.l.w.r.l.ops) ⟨[(23,.clo 179 0 [.loc 3 0]),(22,lv (.t151 a0.Stores)),(21,.loc 2 3),(2,.loc 2 0),(3,.loc 3 0),(4,I 0),(5,B false),(7,S a1.What),(17,B (a1.What.toList == (⟨#[101,110,116,101,114,101,100]⟩:ByteArray).toList))],[(2,(Ae a0)),(3,(Ef a1))],0⟩ (some 24) (fun st9=>(Bdk L kk) .normal st9)))) .normal st9))
def Bdi(a0:Aa)(a1:Av)(kk:Dm):Bx:=(Cm Tryz.prog (Am5 L) (EI (Am5 L) L 8) 2 (List.drop 3 Bs2.u.l.ops) ⟨[(6,.clo 179 0 [.loc 3 0]),(5,lv (.t151 a0.Stores)),(0,lv (.t151 a0.Stores)),(1,.clo 179 0 [.loc 3 0]),(4,B false)],[(2,(Ae a0)),(3,(Ef a1))],4⟩ (some 7) (fun st9=>(Bk (EV (Am5 L) L 8 Bs2.u.r) (E8 Tryz.prog (RS Tryz.f178) (Cm Tryz.prog (Am5 L) (EI (Am5 L) L 9) 1 (List.drop 4 B0j.w.l.u.l.w.r.l.ops) ⟨[(23,.clo 179 0 [.loc 3 0]),(22,lv (.t151 a0.Stores)),(21,.loc 2 3),(2,.loc 2 0),(3,.loc 3 0),(4,I 0),(5,B false),(7,S a1.What),(17,B (a1.What.toList == (⟨#[115,116,111,114,101,100]⟩:ByteArray).toList))],[(2,(Ae a0)),(3,(Ef a1))],0⟩ (some 24) (fun st9=>(Bdk L kk) .normal st9)))) .normal st9))
def Bdj(a0:Aa)(a1:Av)(kk:Dm):Bx:=(Cm Tryz.prog (Am5 L) (EI (Am5 L) L 8) 2 (List.drop 3 Bs2.u.l.ops) ⟨[(6,.clo 179 0 [.loc 3 0]),(5,lv (.t151 a0.Stores)),(0,lv (.t151 a0.Stores)),(1,.clo 179 0 [.loc 3 0]),(4,B false)],[(2,(Ae a0)),(3,(Ef a1))],4⟩ (some 7) (fun st9=>(Bk (EV (Am5 L) L 8 Bs2.u.r) (E8 Tryz.prog (RS Tryz.f178) (Cm Tryz.prog (Am5 L) (EI (Am5 L) L 9) 1 (List.drop 4 B0j.w.l.u.l.w.r.l.ops) ⟨[(23,.clo 179 0 [.loc 3 0]),(22,lv (.t151 a0.Stores)),(21,.loc 2 3),(2,.loc 2 0),(3,.loc 3 0),(4,I 0),(5,B false),(7,S a1.What),(17,B (a1.What.toList == (⟨#[108,101,102,116]⟩:ByteArray).toList))],[(2,(Ae a0)),(3,(Ef a1))],0⟩ (some 24) (fun st9=>(Bdk L kk) .normal st9)))) .normal st9))
def Bq9(p1_0:List Aq)(p1_1:Aa)(p1_2:Av)(v:Cp):St:=⟨[(0,lv (.t151 p1_0)),(1,.clo 179 0 [.loc 3 0]),(4,I v.1),(7,I (p1_0.length:Int)),(8,I v.2)],[(2,(Ae p1_1)),(3,(Ef p1_2))],4⟩
def v8 [An A B8](L:Nat)(p1_0:List Aq)(p1_1:Aa)(p1_2:Av)(rec:Int→Int→A)(Ag:Int)(Ai:Int):A:=
 (lw Ai p1_0
 (cn (((p1_0.getD (Int.toNat Ai) default).Name).toList == p1_2.Name.toList)
 (lf (0,Ai,Ai))
 (rec Ag (Cq (Ai+1))))
 (lf (1,Ag,Ai)))
def Mv(L:Nat)(p1_0:List Aq)(p1_1:Aa)(p1_2:Av):Nat→Int→Int→Option B8
 |0,_,_=>none
 |n+1,Ag,Ai=>v8 L p1_0 p1_1 p1_2 (Mv L p1_0 p1_1 p1_2 n) Ag Ai
theorem B4p(p1_0:List Aq)(p1_1:Aa)(p1_2:Av):LP (EV (Am5 L) L 7 B0k.u.l.u.l.l) [0,1,4,7,8] [2,3] (Bq9 p1_0 p1_1 p1_2) [.ret,.exit 0] (fun n v=>Mv L p1_0 p1_1 p1_2 n v.1 v.2) K:=lE (fun _=>rfl) fun n v ih=>eE (v8 L p1_0 p1_1 p1_2 (fun Ag Ai=>re (ih (Ag,Ai))) v.1 v.2)
def Aa9(p1_0:List Aq)(p1_1:Aa)(p1_2:Av)(k:Bx):Int→Prop:=fun o=>k (I o) [(2,(Ae p1_1)),(3,(Ef p1_2))]
def w9 [An A Int](L:Nat)(o4:Nat×Cp):A:=
 (sl o4.1 [(lf o4.2.1),
 (lf (-1))])
def Bnp:Be:=(Ax 0 (Bk (EV (Am5 L) L 7 B0k.u.r) (E8 Tryz.prog (RS Tryz.f201) k)))
theorem Cd0(p1_0:List Aq)(p1_1:Aa)(p1_2:Av)(o4:Nat×Cp):kX [.ret,.exit 0] (Bq9 p1_0 p1_1 p1_2) (Bnp L k) o4=ob (w9 L o4) (Aa9 p1_0 p1_1 p1_2 k):=eE (w9 L o4)
def Aqj [An A Int](p1_0:List Aq)(p1_1:Aa)(p1_2:Av):A:=(bd (Mv L p1_0 p1_1 p1_2 L 0 0) fun o4=>w9 L o4)
def F5(p1_0:List Aq)(p1_1:Aa)(p1_2:Av):Option Int:=Aqj L p1_0 p1_1 p1_2
theorem Aiw(p1_0:List Aq)(p1_1:Aa)(p1_2:Av):YO (Am5 L) L 8 201 [lv (.t151 p1_0),.clo 179 0 [.loc 3 0]] [(2,(Ae p1_1)),(3,(Ef p1_2))] k=ob (F5 L p1_0 p1_1 p1_2) (Aa9 p1_0 p1_1 p1_2 k):=(Dg _ _ _ jn4 _ _ _ _ _ _ _).trans (eE ((ho (B4p L (Bnp L k) p1_0 p1_1 p1_2 L (0,0)) fun o4=>Cd0 L k p1_0 p1_1 p1_2 o4)))
def Vg [An A Int](a1:Av)(o38:Int):A:=
 (cn (!(decide (o38≥0)))
 (lf 5)
 (bd (Bn L a1.Coef (-1000) 1000) fun r39=>
 (jp (.cn (!r39)
 (.lf true)
 (.lf (a1.Coef == 0))) (fun b40=>
 (cn b40
 (lf 2)
 (lf 0))))))
def Bnq(a0:Aa)(a1:Av):Bx:=(Bdi L a0 a1 kk)
theorem Cd1(a0:Aa)(a1:Av)(o38:Int):Aa9 a0.Stores a0 a1 (Bnq L kk a0 a1) o38=ob (Vg L a1 o38) (kQ I kk):=eE (Vg L a1 o38)
def Vh [An A Int](a1:Av)(o41:Int):A:=
 (cn (!(decide (o41≥0)))
 (lf 5)
 (bd (Bn L a1.Coef (-1000) 1000) fun r42=>
 (jp (.cn (!r42)
 (.lf true)
 (.lf (a1.Coef == 0))) (fun b43=>
 (cn b43
 (lf 2)
 (lf 0))))))
def Bnr(a0:Aa)(a1:Av):Bx:=(Bdh L a0 a1 kk)
theorem Cd2(a0:Aa)(a1:Av)(o41:Int):Aa9 a0.Stores a0 a1 (Bnr L kk a0 a1) o41=ob (Vh L a1 o41) (kQ I kk):=eE (Vh L a1 o41)
def Vi [An A Int](a1:Av)(o44:Int):A:=
 (cn (!(decide (o44≥0)))
 (lf 5)
 (bd (Bn L a1.Coef (-1000) 1000) fun r45=>
 (jp (.cn (!r45)
 (.lf true)
 (.lf (a1.Coef == 0))) (fun b46=>
 (cn b46
 (lf 2)
 (lf 0))))))
def Bns(a0:Aa)(a1:Av):Bx:=(Bdj L a0 a1 kk)
theorem Cd3(a0:Aa)(a1:Av)(o44:Int):Aa9 a0.Stores a0 a1 (Bns L kk a0 a1) o44=ob (Vi L a1 o44) (kQ I kk):=eE (Vi L a1 o44)
def Vj [An A Int](a1:Av)(o47:Int):A:=
 (cn (!(decide (o47≥0)))
 (lf 5)
 (bd (Bn L a1.Coef (-1000) 1000) fun r48=>
 (jp (.cn (!r48)
 (.lf true)
 (.lf (a1.Coef == 0))) (fun b49=>
 (cn b49
 (lf 2)
 (lf 0))))))
def Bnt(a0:Aa)(a1:Av):Bx:=(Bdi L a0 a1 kk)
theorem Cd4(a0:Aa)(a1:Av)(o47:Int):Aa9 a0.Stores a0 a1 (Bnt L kk a0 a1) o47=ob (Vj L a1 o47) (kQ I kk):=eE (Vj L a1 o47)
def Vk [An A Int](a1:Av)(o50:Int):A:=
 (cn (!(decide (o50≥0)))
 (lf 5)
 (bd (Bn L a1.Coef (-1000) 1000) fun r51=>
 (jp (.cn (!r51)
 (.lf true)
 (.lf (a1.Coef == 0))) (fun b52=>
 (cn b52
 (lf 2)
 (lf 0))))))
def Bnu(a0:Aa)(a1:Av):Bx:=(Bdh L a0 a1 kk)
theorem Cd5(a0:Aa)(a1:Av)(o50:Int):Aa9 a0.Stores a0 a1 (Bnu L kk a0 a1) o50=ob (Vk L a1 o50) (kQ I kk):=eE (Vk L a1 o50)
def Vl [An A Int](a1:Av)(o53:Int):A:=
 (cn (!(decide (o53≥0)))
 (lf 5)
 (bd (Bn L a1.Coef (-1000) 1000) fun r54=>
 (jp (.cn (!r54)
 (.lf true)
 (.lf (a1.Coef == 0))) (fun b55=>
 (cn b55
 (lf 2)
 (lf 0))))))
def Bnv(a0:Aa)(a1:Av):Bx:=(Bdj L a0 a1 kk)
theorem Cd6(a0:Aa)(a1:Av)(o53:Int):Aa9 a0.Stores a0 a1 (Bnv L kk a0 a1) o53=ob (Vl L a1 o53) (kQ I kk):=eE (Vl L a1 o53)
def Vm [An A Int](a1:Av)(o56:Int):A:=
 (cn (!(decide (o56≥0)))
 (lf 5)
 (bd (Bn L a1.Coef (-1000) 1000) fun r57=>
 (jp (.cn (!r57)
 (.lf true)
 (.lf (a1.Coef == 0))) (fun b58=>
 (cn b58
 (lf 2)
 (lf 0))))))
def Bnw(a0:Aa)(a1:Av):Bx:=(Bdi L a0 a1 kk)
theorem Cd7(a0:Aa)(a1:Av)(o56:Int):Aa9 a0.Stores a0 a1 (Bnw L kk a0 a1) o56=ob (Vm L a1 o56) (kQ I kk):=eE (Vm L a1 o56)
def T8 [An A Int](a1:Av)(o59:Int):A:=
 (cn (!(decide (o59≥0)))
 (lf 5)
 (bd (Bn L a1.Coef (-1000) 1000) fun r60=>
 (jp (.cn (!r60)
 (.lf true)
 (.lf (a1.Coef == 0))) (fun b61=>
 (cn b61
 (lf 2)
 (lf 0))))))
def Bgv(a0:Aa)(a1:Av):Bx:=(Bdh L a0 a1 kk)
theorem B56(a0:Aa)(a1:Av)(o59:Int):Aa9 a0.Stores a0 a1 (Bgv L kk a0 a1) o59=ob (T8 L a1 o59) (kQ I kk):=eE (T8 L a1 o59)
def T9 [An A Int](a1:Av)(o62:Int):A:=
 (cn (!(decide (o62≥0)))
 (lf 5)
 (bd (Bn L a1.Coef (-1000) 1000) fun r63=>
 (jp (.cn (!r63)
 (.lf true)
 (.lf (a1.Coef == 0))) (fun b64=>
 (cn b64
 (lf 2)
 (lf 0))))))
def Bgw(a0:Aa)(a1:Av):Bx:=(Bdj L a0 a1 kk)
theorem B57(a0:Aa)(a1:Av)(o62:Int):Aa9 a0.Stores a0 a1 (Bgw L kk a0 a1) o62=ob (T9 L a1 o62) (kQ I kk):=eE (T9 L a1 o62)
def y7 [An A Int](a0:Aa)(a1:Av)(nx3:A)(nx4:A)(nx5:A)(nx6:A)(nx7:A)(nx8:A)(nx9:A)(nx10:A)(nx11:A):A:=
 (cn (a1.What.toList == (⟨#[99,114,101,97,116,101,100]⟩:ByteArray).toList)
 (cn (a1.What.toList == (⟨#[99,114,101,97,116,101,100]⟩:ByteArray).toList)
 (bd (Gm L a0 a1.Name) fun r1=>
 (cn (!(decide (r1≥0)))
 (lf 5)
 (bd (Bn L a1.Coef (-1000) 1000) fun r2=>
 (jp (.cn (!r2)
 (.lf true)
 (.lf (a1.Coef == 0))) (fun b3=>
 (cn b3
 (lf 2)
 (lf 0)))))))
 (cn (a1.What.toList == (⟨#[115,116,111,114,101,100]⟩:ByteArray).toList)
 (cn (a1.What.toList == (⟨#[115,116,111,114,101,100]⟩:ByteArray).toList)
 nx3
 (cn (a1.What.toList == (⟨#[99,111,117,110,116,101,100]⟩:ByteArray).toList)
 (bd (B4 L a0.Counts a1.Name) fun r5=>
 (cn (!r5)
 (lf 5)
 (bd (Bn L a1.Coef (-1000) 1000) fun r6=>
 (jp (.cn (!r6)
 (.lf true)
 (.lf (a1.Coef == 0))) (fun b7=>
 (cn b7
 (lf 2)
 (lf 0)))))))
 (lf 1)))
 (cn (a1.What.toList == (⟨#[101,110,116,101,114,101,100]⟩:ByteArray).toList)
 (cn (a1.What.toList == (⟨#[101,110,116,101,114,101,100]⟩:ByteArray).toList)
 nx4
 (cn (a1.What.toList == (⟨#[99,111,117,110,116,101,100]⟩:ByteArray).toList)
 (bd (B4 L a0.Counts a1.Name) fun r8=>
 (cn (!r8)
 (lf 5)
 (bd (Bn L a1.Coef (-1000) 1000) fun r9=>
 (jp (.cn (!r9)
 (.lf true)
 (.lf (a1.Coef == 0))) (fun b10=>
 (cn b10
 (lf 2)
 (lf 0)))))))
 (lf 1)))
 (cn (a1.What.toList == (⟨#[108,101,102,116]⟩:ByteArray).toList)
 nx5
 (cn (a1.What.toList == (⟨#[99,111,117,110,116,101,100]⟩:ByteArray).toList)
 (bd (B4 L a0.Counts a1.Name) fun r11=>
 (cn (!r11)
 (lf 5)
 (bd (Bn L a1.Coef (-1000) 1000) fun r12=>
 (jp (.cn (!r12)
 (.lf true)
 (.lf (a1.Coef == 0))) (fun b13=>
 (cn b13
 (lf 2)
 (lf 0)))))))
 (lf 1))))))
 (cn (a1.What.toList == (⟨#[101,110,100,101,100]⟩:ByteArray).toList)
 (cn (a1.What.toList == (⟨#[101,110,100,101,100]⟩:ByteArray).toList)
 (bd (Gm L a0 a1.Name) fun r14=>
 (cn (!(decide (r14≥0)))
 (lf 5)
 (bd (Bn L a1.Coef (-1000) 1000) fun r15=>
 (jp (.cn (!r15)
 (.lf true)
 (.lf (a1.Coef == 0))) (fun b16=>
 (cn b16
 (lf 2)
 (lf 0)))))))
 (cn (a1.What.toList == (⟨#[115,116,111,114,101,100]⟩:ByteArray).toList)
 (cn (a1.What.toList == (⟨#[115,116,111,114,101,100]⟩:ByteArray).toList)
 nx6
 (cn (a1.What.toList == (⟨#[99,111,117,110,116,101,100]⟩:ByteArray).toList)
 (bd (B4 L a0.Counts a1.Name) fun r17=>
 (cn (!r17)
 (lf 5)
 (bd (Bn L a1.Coef (-1000) 1000) fun r18=>
 (jp (.cn (!r18)
 (.lf true)
 (.lf (a1.Coef == 0))) (fun b19=>
 (cn b19
 (lf 2)
 (lf 0)))))))
 (lf 1)))
 (cn (a1.What.toList == (⟨#[101,110,116,101,114,101,100]⟩:ByteArray).toList)
 (cn (a1.What.toList == (⟨#[101,110,116,101,114,101,100]⟩:ByteArray).toList)
 nx7
 (cn (a1.What.toList == (⟨#[99,111,117,110,116,101,100]⟩:ByteArray).toList)
 (bd (B4 L a0.Counts a1.Name) fun r20=>
 (cn (!r20)
 (lf 5)
 (bd (Bn L a1.Coef (-1000) 1000) fun r21=>
 (jp (.cn (!r21)
 (.lf true)
 (.lf (a1.Coef == 0))) (fun b22=>
 (cn b22
 (lf 2)
 (lf 0)))))))
 (lf 1)))
 (cn (a1.What.toList == (⟨#[108,101,102,116]⟩:ByteArray).toList)
 nx8
 (cn (a1.What.toList == (⟨#[99,111,117,110,116,101,100]⟩:ByteArray).toList)
 (bd (B4 L a0.Counts a1.Name) fun r23=>
 (cn (!r23)
 (lf 5)
 (bd (Bn L a1.Coef (-1000) 1000) fun r24=>
 (jp (.cn (!r24)
 (.lf true)
 (.lf (a1.Coef == 0))) (fun b25=>
 (cn b25
 (lf 2)
 (lf 0)))))))
 (lf 1))))))
 (cn (a1.What.toList == (⟨#[105,110,115,105,100,101]⟩:ByteArray).toList)
 (bd (Gm L a0 a1.Name) fun r26=>
 (cn (!(decide (r26≥0)))
 (lf 5)
 (bd (Bn L a1.Coef (-1000) 1000) fun r27=>
 (jp (.cn (!r27)
 (.lf true)
 (.lf (a1.Coef == 0))) (fun b28=>
 (cn b28
 (lf 2)
 (lf 0)))))))
 (cn (a1.What.toList == (⟨#[115,116,111,114,101,100]⟩:ByteArray).toList)
 (cn (a1.What.toList == (⟨#[115,116,111,114,101,100]⟩:ByteArray).toList)
 nx9
 (cn (a1.What.toList == (⟨#[99,111,117,110,116,101,100]⟩:ByteArray).toList)
 (bd (B4 L a0.Counts a1.Name) fun r29=>
 (cn (!r29)
 (lf 5)
 (bd (Bn L a1.Coef (-1000) 1000) fun r30=>
 (jp (.cn (!r30)
 (.lf true)
 (.lf (a1.Coef == 0))) (fun b31=>
 (cn b31
 (lf 2)
 (lf 0)))))))
 (lf 1)))
 (cn (a1.What.toList == (⟨#[101,110,116,101,114,101,100]⟩:ByteArray).toList)
 (cn (a1.What.toList == (⟨#[101,110,116,101,114,101,100]⟩:ByteArray).toList)
 nx10
 (cn (a1.What.toList == (⟨#[99,111,117,110,116,101,100]⟩:ByteArray).toList)
 (bd (B4 L a0.Counts a1.Name) fun r32=>
 (cn (!r32)
 (lf 5)
 (bd (Bn L a1.Coef (-1000) 1000) fun r33=>
 (jp (.cn (!r33)
 (.lf true)
 (.lf (a1.Coef == 0))) (fun b34=>
 (cn b34
 (lf 2)
 (lf 0)))))))
 (lf 1)))
 (cn (a1.What.toList == (⟨#[108,101,102,116]⟩:ByteArray).toList)
 nx11
 (cn (a1.What.toList == (⟨#[99,111,117,110,116,101,100]⟩:ByteArray).toList)
 (bd (B4 L a0.Counts a1.Name) fun r35=>
 (cn (!r35)
 (lf 5)
 (bd (Bn L a1.Coef (-1000) 1000) fun r36=>
 (jp (.cn (!r36)
 (.lf true)
 (.lf (a1.Coef == 0))) (fun b37=>
 (cn b37
 (lf 2)
 (lf 0)))))))
 (lf 1))))))))
def Awq [An A Int](a0:Aa)(a1:Av):A:=y7 L a0 a1 (bd (F5 L a0.Stores a0 a1) fun o38=>Vg L a1 o38) (bd (F5 L a0.Stores a0 a1) fun o41=>Vh L a1 o41) (bd (F5 L a0.Stores a0 a1) fun o44=>Vi L a1 o44) (bd (F5 L a0.Stores a0 a1) fun o47=>Vj L a1 o47) (bd (F5 L a0.Stores a0 a1) fun o50=>Vk L a1 o50) (bd (F5 L a0.Stores a0 a1) fun o53=>Vl L a1 o53) (bd (F5 L a0.Stores a0 a1) fun o56=>Vm L a1 o56) (bd (F5 L a0.Stores a0 a1) fun o59=>T8 L a1 o59) (bd (F5 L a0.Stores a0 a1) fun o62=>T9 L a1 o62)
def Yi(a0:Aa)(a1:Av):Option Int:=Awq L a0 a1
def Chs:Gh:=E2 I 146 C3 A1j (Yi L) fun a0 a1 r h=>hF Tryz.func146 (C:=Am5 L) (oS _) L (fun kk=>eE (y7 L a0 a1 (ho (Aiw L (Bnq L kk a0 a1) a0.Stores a0 a1) fun o38=>Cd1 L kk a0 a1 o38) (ho (Aiw L (Bnr L kk a0 a1) a0.Stores a0 a1) fun o41=>Cd2 L kk a0 a1 o41) (ho (Aiw L (Bns L kk a0 a1) a0.Stores a0 a1) fun o44=>Cd3 L kk a0 a1 o44) (ho (Aiw L (Bnt L kk a0 a1) a0.Stores a0 a1) fun o47=>Cd4 L kk a0 a1 o47) (ho (Aiw L (Bnu L kk a0 a1) a0.Stores a0 a1) fun o50=>Cd5 L kk a0 a1 o50) (ho (Aiw L (Bnv L kk a0 a1) a0.Stores a0 a1) fun o53=>Cd6 L kk a0 a1 o53) (ho (Aiw L (Bnw L kk a0 a1) a0.Stores a0 a1) fun o56=>Cd7 L kk a0 a1 o56) (ho (Aiw L (Bgv L kk a0 a1) a0.Stores a0 a1) fun o59=>B56 L kk a0 a1 o59) (ho (Aiw L (Bgw L kk a0 a1) a0.Stores a0 a1) fun o62=>B57 L kk a0 a1 o62))) h
def Bsz:=CC Tryz.f142
def Bs0:=CC Tryz.f143
def Ckb:=CC Tryz.f144
def Cjy:=CC Tryz.f114
def Ahn:Bi:=oL [X59 L,X60 L,Chs L]
def Bfb(p10_0:ByteArray)(p10_1:Aa)(p10_2:List ByteArray)(p10_3:List Bool)(p10_4:Ba)(p10_5:Ba)(k:Bx):Cw→Prop:=fun o=>k (I o.1) [(1,(Ae p10_1)),(3,[.mp 4]),(4,[.mapO false false (.t9 o.2.1) (.t4 o.2.2)]),(13,(De p10_4)),(17,(De p10_5))]
def Ank [An A Cw](p10_0:ByteArray)(p10_1:Aa)(p10_2:List ByteArray)(p10_3:List Bool)(p10_4:Ba)(p10_5:Ba):A:=
 (bd (Dp L p10_0) fun r1=>
 (cn (r1 != 0)
 (lf (r1,p10_2,p10_3))
 (fq (p10_2.findIdx? fun b=>p10_0 == b) (fun i2=>
 (cn (p10_3.getD i2 default)
 (lf (4,p10_2,p10_3))
 (fq (p10_2.findIdx? fun b=>p10_0 == b) (fun i3=>
 (lf (0,p10_2,(p10_3.set i3 true))))
 (lf (0,(p10_2++ [p10_0]),(p10_3++ [true]))))))
 (fq (p10_2.findIdx? fun b=>p10_0 == b) (fun i4=>
 (lf (0,p10_2,(p10_3.set i4 true))))
 (lf (0,(p10_2++ [p10_0]),(p10_3++ [true])))))))
def Aej(p10_0:ByteArray)(p10_1:Aa)(p10_2:List ByteArray)(p10_3:List Bool)(p10_4:Ba)(p10_5:Ba):Option Cw:=Ank L p10_0 p10_1 p10_2 p10_3 p10_4 p10_5
theorem Bwa(p10_0:ByteArray)(p10_1:Aa)(p10_2:List ByteArray)(p10_3:List Bool)(p10_4:Ba)(p10_5:Ba):YO (Ahn L) L 7 64 [.mp 4,S p10_0] [(1,(Ae p10_1)),(3,[.mp 4]),(4,[.mapO false false (.t9 p10_2) (.t4 p10_3)]),(13,(De p10_4)),(17,(De p10_5))] k=ob (Aej L p10_0 p10_1 p10_2 p10_3 p10_4 p10_5) (Bfb p10_0 p10_1 p10_2 p10_3 p10_4 p10_5 k):=(Dg _ _ _ jn4 _ _ _ _ _ _ _).trans (eE (Ank L p10_0 p10_1 p10_2 p10_3 p10_4 p10_5))
def Bqp(p11_0:List Av)(p11_1:Aa)(p11_2:List ByteArray)(p11_3:List Bool)(p11_4:Ba)(p11_5:Ba)(v:Cp):St:=⟨[(0,.any),(1,.any),(2,.clo 145 0 [.loc 1 0]),(6,I v.1),(14,lv (.t195 p11_0)),(15,I (p11_0.length:Int)),(16,I v.2)],[(1,(Ae p11_1)),(3,[.mp 4]),(4,[.mapO false false (.t9 p11_2) (.t4 p11_3)]),(13,(De p11_4)),(17,(De p11_5))],18⟩
def v6 [An A B8](p11_0:List Av)(p11_1:Aa)(p11_2:List ByteArray)(p11_3:List Bool)(p11_4:Ba)(p11_5:Ba)(rec:Int→Int→A)(Bz:Int)(Bw:Int):A:=
 (lw Bw p11_0
 (bd (Yi L p11_1 (p11_0.getD (Int.toNat Bw) default)) fun r6=>
 (cn (r6 != 0)
 (lf (0,r6,Bw))
 (rec Bz (Cq (Bw+1)))))
 (lf (1,Bz,Bw)))
def Mt(L:Nat)(p11_0:List Av)(p11_1:Aa)(p11_2:List ByteArray)(p11_3:List Bool)(p11_4:Ba)(p11_5:Ba):Nat→Int→Int→Option B8
 |0,_,_=>none
 |n+1,Bz,Bw=>v6 L p11_0 p11_1 p11_2 p11_3 p11_4 p11_5 (Mt L p11_0 p11_1 p11_2 p11_3 p11_4 p11_5 n) Bz Bw
theorem B35(p11_0:List Av)(p11_1:Aa)(p11_2:List ByteArray)(p11_3:List Bool)(p11_4:Ba)(p11_5:Ba):LP (EV (Ahn L) L 6 Ckb.w.l.u.l.l) [0,1,2,6,14,15,16] [1,3,4,13,17] (Bqp p11_0 p11_1 p11_2 p11_3 p11_4 p11_5) [.ret,.exit 0] (fun n v=>Mt L p11_0 p11_1 p11_2 p11_3 p11_4 p11_5 n v.1 v.2) K:=lE (fun _=>rfl) fun n v ih=>eE (v6 L p11_0 p11_1 p11_2 p11_3 p11_4 p11_5 (fun Bz Bw=>re (ih (Bz,Bw))) v.1 v.2)
def A45(p11_0:List Av)(p11_1:Aa)(p11_2:List ByteArray)(p11_3:List Bool)(p11_4:Ba)(p11_5:Ba)(k:Bx):Int→Prop:=fun o=>k (I o) [(1,(Ae p11_1)),(3,[.mp 4]),(4,[.mapO false false (.t9 p11_2) (.t4 p11_3)]),(13,(De p11_4)),(17,(De p11_5))]
def Ae3 [An A Int](L:Nat)(o7:Nat×Cp):A:=
 (sl o7.1 [(lf o7.2.1),
 (lf 0)])
def Bgq:Be:=(Ax 0 (Bk (EV (Ahn L) L 6 Ckb.w.r) (E8 Tryz.prog (RS Tryz.f144) k)))
theorem B51(p11_0:List Av)(p11_1:Aa)(p11_2:List ByteArray)(p11_3:List Bool)(p11_4:Ba)(p11_5:Ba)(o7:Nat×Cp):kX [.ret,.exit 0] (Bqp p11_0 p11_1 p11_2 p11_3 p11_4 p11_5) (Bgq L k) o7=ob (Ae3 L o7) (A45 p11_0 p11_1 p11_2 p11_3 p11_4 p11_5 k):=eE (Ae3 L o7)
def Aod [An A Int](L:Nat)(p11_0:List Av)(p11_1:Aa)(p11_2:List ByteArray)(p11_3:List Bool)(p11_4:Ba)(p11_5:Ba)(nx17:A):A:=
 (cn (decide ((p11_0.length:Int) > 8))
 (lf 6)
 nx17)
def Ay5 [An A Int](p11_0:List Av)(p11_1:Aa)(p11_2:List ByteArray)(p11_3:List Bool)(p11_4:Ba)(p11_5:Ba):A:=Aod L p11_0 p11_1 p11_2 p11_3 p11_4 p11_5 (bd (Mt L p11_0 p11_1 p11_2 p11_3 p11_4 p11_5 L 0 0) fun o7=>Ae3 L o7)
def Aek(p11_0:List Av)(p11_1:Aa)(p11_2:List ByteArray)(p11_3:List Bool)(p11_4:Ba)(p11_5:Ba):Option Int:=Ay5 L p11_0 p11_1 p11_2 p11_3 p11_4 p11_5
theorem Bwb(p11_0:List Av)(p11_1:Aa)(p11_2:List ByteArray)(p11_3:List Bool)(p11_4:Ba)(p11_5:Ba):YO (Ahn L) L 7 144 [lv (.t195 p11_0),I 8,.clo 145 0 [.loc 1 0]] [(1,(Ae p11_1)),(3,[.mp 4]),(4,[.mapO false false (.t9 p11_2) (.t4 p11_3)]),(13,(De p11_4)),(17,(De p11_5))] k=ob (Aek L p11_0 p11_1 p11_2 p11_3 p11_4 p11_5) (A45 p11_0 p11_1 p11_2 p11_3 p11_4 p11_5 k):=(Dg _ _ _ jn4 _ _ _ _ _ _ _).trans (eE (Aod L p11_0 p11_1 p11_2 p11_3 p11_4 p11_5 (ho (B35 L (Bgq L k) p11_0 p11_1 p11_2 p11_3 p11_4 p11_5 L (0,0)) fun o7=>B51 L k p11_0 p11_1 p11_2 p11_3 p11_4 p11_5 o7)))
def A3t(p7_0:Ba)(p7_1:Aa)(p7_2:List ByteArray)(p7_3:List Bool)(p7_4:Ba)(k:Bx):Cw→Prop:=fun o=>k (I o.1) [(1,(Ae p7_1)),(3,[.mp 4]),(4,[.mapO false false (.t9 o.2.1) (.t4 o.2.2)]),(13,(De p7_4)),(17,(De p7_0))]
def Y8 [An A Cw](o5:Cw)(p7_0:Ba)(o8:Int):A:=
 (cn (o8 != 0)
 (lf (o8,o5.2.1,o5.2.2))
 (bd (Agx L p7_0.Total) fun r9=>
 (cn (!r9)
 (lf (2,o5.2.1,o5.2.2))
 (lf (0,o5.2.1,o5.2.2)))))
def Bgr(p7_0:Ba)(p7_1:Aa)(o5:Cw)(p7_4:Ba):Bx:=(Cm Tryz.prog (Ahn L) (EI (Ahn L) L 7) 1 (List.drop 4 Bs0.w.u.l.l.ops) ⟨[(20,.clo 145 0 [.loc 1 0]),(19,lv (.t195 p7_0.Terms)),(18,.loc 17 1),(2,.loc 1 0),(3,.loc 17 0),(4,I 0)],[(1,(Ae p7_1)),(3,[.mp 4]),(4,[.mapO false false (.t9 o5.2.1) (.t4 o5.2.2)]),(13,(De p7_4)),(17,(De p7_0))],14⟩ (some 21) (fun st9=>(Bk (EV (Ahn L) L 7 Bs0.w.u.l.r) (Bk (EV (Ahn L) L 7 Bs0.w.u.r) (E8 Tryz.prog (RS Tryz.f143) k))) .normal st9))
theorem B52(p7_0:Ba)(p7_1:Aa)(o5:Cw)(p7_4:Ba)(p7_2:List ByteArray)(p7_3:List Bool)(o8:Int):A45 p7_0.Terms p7_1 o5.2.1 o5.2.2 p7_4 p7_0 (Bgr L k p7_0 p7_1 o5 p7_4) o8=ob (Y8 L o5 p7_0 o8) (A3t p7_0 p7_1 p7_2 p7_3 p7_4 k):=eE (Y8 L o5 p7_0 o8)
def Afi [An A Cw](L:Nat)(p7_0:Ba)(p7_1:Aa)(p7_4:Ba)(o5:Cw)(nx18:Cw→A):A:=
 (cn (o5.1 != 0)
 (lf (o5.1,o5.2.1,o5.2.2))
 (cn ((p7_0.Terms.length:Int) == 0)
 (lf (7,o5.2.1,o5.2.2))
 (nx18 o5)))
def Ae2 [An A Cw](p7_0:Ba)(p7_1:Aa)(p7_4:Ba)(o5:Cw):A:=Afi L p7_0 p7_1 p7_4 o5 (fun o5=>bd (Aek L p7_0.Terms p7_1 o5.2.1 o5.2.2 p7_4 p7_0) fun o8=>Y8 L o5 p7_0 o8)
def Bgp(p7_0:Ba)(p7_1:Aa)(p7_2:List ByteArray)(p7_3:List Bool)(p7_4:Ba):Bx:=(Cm Tryz.prog (Ahn L) (EI (Ahn L) L 7) 1 (List.drop 4 Bs0.u.l.l.ops) ⟨[(9,S p7_0.Name),(8,.loc 17 0),(7,.mp 4),(1,.loc 3 0),(2,.loc 1 0),(3,.loc 17 0),(4,I 0)],[(1,(Ae p7_1)),(3,[.mp 4]),(4,[.mapO false false (.t9 p7_2) (.t4 p7_3)]),(13,(De p7_4)),(17,(De p7_0))],14⟩ (some 10) (fun st9=>(Bk (EV (Ahn L) L 7 Bs0.u.l.r) (Bk (EV (Ahn L) L 7 Bs0.u.r) (E8 Tryz.prog (RS Tryz.f143) k))) .normal st9))
theorem B50(p7_0:Ba)(p7_1:Aa)(p7_2:List ByteArray)(p7_3:List Bool)(p7_4:Ba)(o5:Cw):Bfb p7_0.Name p7_1 p7_2 p7_3 p7_4 p7_0 (Bgp L k p7_0 p7_1 p7_2 p7_3 p7_4) o5=ob (Ae2 L p7_0 p7_1 p7_4 o5) (A3t p7_0 p7_1 p7_2 p7_3 p7_4 k):=eE (Afi L p7_0 p7_1 p7_4 o5 (fun o5=>ho (Bwb L (Bgr L k p7_0 p7_1 o5 p7_4) p7_0.Terms p7_1 o5.2.1 o5.2.2 p7_4 p7_0) fun o8=>B52 L k p7_0 p7_1 o5 p7_4 p7_2 p7_3 o8))
def Aqh [An A Cw](p7_0:Ba)(p7_1:Aa)(p7_2:List ByteArray)(p7_3:List Bool)(p7_4:Ba):A:=(bd (Aej L p7_0.Name p7_1 p7_2 p7_3 p7_4 p7_0) fun o5=>Ae2 L p7_0 p7_1 p7_4 o5)
def Qq(p7_0:Ba)(p7_1:Aa)(p7_2:List ByteArray)(p7_3:List Bool)(p7_4:Ba):Option Cw:=Aqh L p7_0 p7_1 p7_2 p7_3 p7_4
theorem B2z(p7_0:Ba)(p7_1:Aa)(p7_2:List ByteArray)(p7_3:List Bool)(p7_4:Ba):YO (Ahn L) L 8 143 [.agg (De p7_0),.loc 3 0,.loc 1 0] [(1,(Ae p7_1)),(3,[.mp 4]),(4,[.mapO false false (.t9 p7_2) (.t4 p7_3)]),(13,(De p7_4))] k=ob (Qq L p7_0 p7_1 p7_2 p7_3 p7_4) (A3t p7_0 p7_1 p7_2 p7_3 p7_4 k):=(Dg _ _ _ jn4 _ _ _ _ _ _ _).trans (eE ((ho (Bwa L (Bgp L k p7_0 p7_1 p7_2 p7_3 p7_4) p7_0.Name p7_1 p7_2 p7_3 p7_4 p7_0) fun o5=>B50 L k p7_0 p7_1 p7_2 p7_3 p7_4 o5)))
def Be0(p1_0:List Ba)(p1_1:Aa)(v:Tu5):St:=⟨[(0,.any),(1,.any),(2,.clo 143 0 [.loc 3 0,.loc 1 0]),(6,I v.1),(14,lv (.t180 p1_0)),(15,I (p1_0.length:Int)),(16,I v.2.1)],[(1,(Ae p1_1)),(3,[.mp 4]),(4,[.mapO false false (.t9 v.2.2.1) (.t4 v.2.2.2)])],5⟩
def Ty [An A Ue](L:Nat)(Ai:Int)(Ao:Int)(rec:Int→Int→List ByteArray→List Bool→A)(o10:Cw):A:=
 (cn (o10.1 != 0)
 (lf (0,o10.1,Ai,o10.2.1,o10.2.2))
 (rec Ao (Cq (Ai+1)) o10.2.1 o10.2.2))
def Zp [An A Ue](L:Nat)(p1_0:List Ba)(p1_1:Aa)(rec:Int→Int→List ByteArray→List Bool→A)(Ao:Int)(Ai:Int)(Dx:List ByteArray)(Dy:List Bool)(nx19:Int→(List ByteArray)→(List Bool)→Int→A):A:=
 (lw Ai p1_0
 (nx19 Ai Dx Dy Ao)
 (lf (1,Ao,Ai,Dx,Dy)))
def Ahu [An A Ue](p1_0:List Ba)(p1_1:Aa)(rec:Int→Int→List ByteArray→List Bool→A)(Ao:Int)(Ai:Int)(Dx:List ByteArray)(Dy:List Bool):A:=Zp L p1_0 p1_1 rec Ao Ai Dx Dy (fun Ai Dx Dy Ao=>bd (Qq L (p1_0.getD (Int.toNat Ai) default) p1_1 Dx Dy (p1_0.getD (Int.toNat Ai) default)) fun o10=>Ty L Ai Ao rec o10)
def J4(L:Nat)(p1_0:List Ba)(p1_1:Aa):Nat→Int→Int→List ByteArray→List Bool→Option Ue
 |0,_,_,_,_=>none
 |n+1,Ao,Ai,Dx,Dy=>Ahu L p1_0 p1_1 (J4 L p1_0 p1_1 n) Ao Ai Dx Dy
def Blk(p1_0:List Ba)(p1_1:Aa):Prop:=LI (EV (Ahn L) L 8 Bsz.w.l.u.l.l) [0,1,2,6,14,15,16] [1,3,4] (Be0 p1_0 p1_1) [.ret,.exit 0] (fun n v=>J4 L p1_0 p1_1 n v.1 v.2.1 v.2.2.1 v.2.2.2) K n
def Bgs(p1_0:List Ba)(Ai:Int)(Ao:Int)(p1_1:Aa)(Dx:List ByteArray)(Dy:List Bool):Bx:=(Cm Tryz.prog (Ahn L) (EI (Ahn L) L 8) 1 (List.drop 3 Bsz.w.l.u.l.l.w.l.l.u.l.ops) ⟨[(21,.agg (De (p1_0.getD (Int.toNat Ai) default))),(20,.clo 143 0 [.loc 3 0,.loc 1 0]),(2,.clo 143 0 [.loc 3 0,.loc 1 0]),(6,I Ao),(8,.loc 13 0),(14,lv (.t180 p1_0)),(15,I (p1_0.length:Int)),(16,I Ai),(17,B (decide (Ai < (p1_0.length:Int)))),(18,.ref (De (p1_0.getD (Int.toNat Ai) default))),(19,.agg (De (p1_0.getD (Int.toNat Ai) default)))],[(1,(Ae p1_1)),(3,[.mp 4]),(4,[.mapO false false (.t9 Dx) (.t4 Dy)]),(13,(De (p1_0.getD (Int.toNat Ai) default)))],5⟩ (some 22) (fun st9=>(Bk (EV (Ahn L) L 8 Bsz.w.l.u.l.l.w.l.l.u.r) (Ax 1 (Bk (EV (Ahn L) L 8 Bsz.w.l.u.l.l.w.r) (Ir (Lh (EV (Ahn L) L 8 Bsz.w.l.u.l.l) [0,1,2,6,14,15,16] [1,3,4] n) [0,1,2,6,14,15,16] [1,3,4] K)))) .normal st9))
theorem B53(p1_0:List Ba)(Ai:Int)(p1_1:Aa)(Dx:List ByteArray)(Dy:List Bool)(Ao:Int)(ih:Blk L n K p1_0 p1_1)(o10:Cw):A3t (p1_0.getD (Int.toNat Ai) default) p1_1 Dx Dy (p1_0.getD (Int.toNat Ai) default) (Bgs L n K p1_0 Ai Ao p1_1 Dx Dy) o10=ob (Ty L Ai Ao (J4 L p1_0 p1_1 n) o10) (kX [.ret,.exit 0] (Be0 p1_0 p1_1) K):=eE (Ty L Ai Ao (fun Ao Ai Dx Dy=>re (ih (Ao,Ai,Dx,Dy))) o10)
theorem B34(p1_0:List Ba)(p1_1:Aa):∀n,Blk L n K p1_0 p1_1:=lE (fun _=>rfl) fun n v ih=>eE (Zp L p1_0 p1_1 (fun Ao Ai Dx Dy=>re (ih (Ao,Ai,Dx,Dy))) v.1 v.2.1 v.2.2.1 v.2.2.2 (fun Ai Dx Dy Ao=>ho (B2z L (Bgs L n K p1_0 Ai Ao p1_1 Dx Dy) (p1_0.getD (Int.toNat Ai) default) p1_1 Dx Dy (p1_0.getD (Int.toNat Ai) default)) fun o10=>B53 L n K p1_0 Ai p1_1 Dx Dy Ao ih o10))
def Bb1(p1_0:List Ba)(p1_1:Aa)(k:Bx):Cw→Prop:=fun o=>k (I o.1) [(1,(Ae p1_1)),(3,[.mp 4]),(4,[.mapO false false (.t9 o.2.1) (.t4 o.2.2)])]
def Ae4 [An A Cw](L:Nat)(o11:Nat×Tu5):A:=
 (sl o11.1 [(lf (o11.2.1,o11.2.2.2.1,o11.2.2.2.2)),
 (lf (0,o11.2.2.2.1,o11.2.2.2.2))])
def Bgt:Be:=(Ax 0 (Bk (EV (Ahn L) L 8 Bsz.w.r) (E8 Tryz.prog (RS Tryz.f142) k)))
theorem B54(p1_0:List Ba)(p1_1:Aa)(o11:Nat×Tu5):kX [.ret,.exit 0] (Be0 p1_0 p1_1) (Bgt L k) o11=ob (Ae4 L o11) (Bb1 p1_0 p1_1 k):=eE (Ae4 L o11)
def Aoe [An A Cw](L:Nat)(p1_0:List Ba)(p1_1:Aa)(nx20:A):A:=
 (cn (decide ((p1_0.length:Int) > 32))
 (lf (6,[],[]))
 nx20)
def A2l [An A Cw](p1_0:List Ba)(p1_1:Aa):A:=Aoe L p1_0 p1_1 (bd (J4 L p1_0 p1_1 L 0 0 [] []) fun o11=>Ae4 L o11)
def Aht(p1_0:List Ba)(p1_1:Aa):Option Cw:=A2l L p1_0 p1_1
theorem B2y(p1_0:List Ba)(p1_1:Aa):YO (Ahn L) L 9 142 [lv (.t180 p1_0),I 32,.clo 143 0 [.loc 3 0,.loc 1 0]] [(1,(Ae p1_1)),(3,[.mp 4]),(4,[.mapO false false (.t9 []) (.t4 [])])] k=ob (Aht L p1_0 p1_1) (Bb1 p1_0 p1_1 k):=(Dg _ _ _ jn4 _ _ _ _ _ _ _).trans (eE (Aoe L p1_0 p1_1 (ho (B34 L (Bgt L k) p1_0 p1_1 L (0,0,[],[])) fun o11=>B54 L k p1_0 p1_1 o11)))
def Tz [An A Int](L:Nat)(o12:Cw):A:=
 (lf o12.1)
def Bgu(a0:Aa):Bx:=(Cm Tryz.prog (Ahn L) (EI (Ahn L) L 9) 1 (List.drop 4 Cjy.w.l.ops) ⟨[(7,.clo 143 0 [.loc 3 0,.loc 1 0]),(6,lv (.t180 a0.Laws)),(5,.loc 1 12),(1,.loc 1 0),(2,I 0),(3,.loc 3 0)],[(1,(Ae a0)),(3,[.mp 4]),(4,[.mapO false false (.t9 []) (.t4 [])])],0⟩ (some 8) (fun st9=>(Bk (EV (Ahn L) L 9 Cjy.w.r) (C0 Tryz.prog (RS Tryz.f114) kk)) .normal st9))
theorem B55(a0:Aa)(o12:Cw):Bb1 a0.Laws a0 (Bgu L kk a0) o12=ob (Tz L o12) (kQ I kk):=eE (Tz L o12)
def Awo [An A Int](a0:Aa):A:=(bd (Aht L a0.Laws a0) fun o12=>Tz L o12)
def Ain(a0:Aa):Option Int:=Awo L a0
def Chf:Gh:=E1 I 114 C3 (Ain L) fun a0 r h=>hF Tryz.func114 (C:=Ahn L) (oS _) L (fun kk=>eE ((ho (B2y L (Bgu L kk a0) a0.Laws a0) fun o12=>B55 L kk a0 o12))) h
end
end Go.Proofs.YtfencmicmnhglaaGreat.Ev
