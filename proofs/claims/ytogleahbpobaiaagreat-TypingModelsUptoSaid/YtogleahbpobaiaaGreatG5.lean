import Derived.Test.YtogleahbpobaiaaGreatG3
import Derived.Test.YtogleahbpobaiaaGreatG4
namespace Go.Proofs.YtogleahbpobaiaaGreat.Ev
open Go An
set_option maxRecDepth 100000
set_option maxHeartbeats 4000000
set_option linter.unusedVariables false
set_option linter.unusedSimpArgs false
set_option linter.unnecessarySimpa false
variable {A:Type} (L n:Nat) (kk:Ct) (K:Be) (k:Bx)
noncomputable def Bv1:EC:=CC Tryz.f137
noncomputable def Bnl:EC:=CC Tryz.f184
noncomputable def Bv3:EC:=CC Tryz.f156
def Alf:Bk:=oL [X80 L,Bm7 L,B2u L]
def Avj:Int→Prop:=fun x=>kk (I x)
def A97:Be:=(Ay 0 (Bl (EV (Alf L) L 9 Bv3.w.r) (C8 Tryz.prog (RS Tryz.f156) kk)))
def A94(a0:Aa)(a1:Au)(kk:Ct):Bx:=(Cm Tryz.prog (Alf L) (EI (Alf L) L 8) 2 (List.drop 3 Bnl.u.l.ops) ⟨[(6,.clo 185 0 [.loc 3 0]),(5,.lst false (.t123 a0.Stores)),(0,.lst false (.t123 a0.Stores)),(1,.clo 185 0 [.loc 3 0]),(4,B false)],[(2,Ae a0),(3,D3 a1)],4⟩ (some 7) (fun st9=>(Bl (EV (Alf L) L 8 Bnl.u.r) (E5 Tryz.prog (RS Tryz.f184) (Cm Tryz.prog (Alf L) (EI (Alf L) L 9) 1 (List.drop 4 Bv3.w.l.u.l.w.r.l.ops) ⟨[(23,.clo 185 0 [.loc 3 0]),(22,.lst false (.t123 a0.Stores)),(21,.loc 2 3),(2,.loc 2 0),(3,.loc 3 0),(4,I 0),(5,B false),(7,S a1.What),(17,B (a1.What.toList == (⟨#[101,110,116,101,114,101,100]⟩:ByteArray).toList))],[(2,Ae a0),(3,D3 a1)],0⟩ (some 24) (fun st9=>(A97 L kk) .normal st9)))) .normal st9))
def A95(a0:Aa)(a1:Au)(kk:Ct):Bx:=(Cm Tryz.prog (Alf L) (EI (Alf L) L 8) 2 (List.drop 3 Bnl.u.l.ops) ⟨[(6,.clo 185 0 [.loc 3 0]),(5,.lst false (.t123 a0.Stores)),(0,.lst false (.t123 a0.Stores)),(1,.clo 185 0 [.loc 3 0]),(4,B false)],[(2,Ae a0),(3,D3 a1)],4⟩ (some 7) (fun st9=>(Bl (EV (Alf L) L 8 Bnl.u.r) (E5 Tryz.prog (RS Tryz.f184) (Cm Tryz.prog (Alf L) (EI (Alf L) L 9) 1 (List.drop 4 Bv3.w.l.u.l.w.r.l.ops) ⟨[(23,.clo 185 0 [.loc 3 0]),(22,.lst false (.t123 a0.Stores)),(21,.loc 2 3),(2,.loc 2 0),(3,.loc 3 0),(4,I 0),(5,B false),(7,S a1.What),(17,B (a1.What.toList == (⟨#[115,116,111,114,101,100]⟩:ByteArray).toList))],[(2,Ae a0),(3,D3 a1)],0⟩ (some 24) (fun st9=>(A97 L kk) .normal st9)))) .normal st9))
def A96(a0:Aa)(a1:Au)(kk:Ct):Bx:=(Cm Tryz.prog (Alf L) (EI (Alf L) L 8) 2 (List.drop 3 Bnl.u.l.ops) ⟨[(6,.clo 185 0 [.loc 3 0]),(5,.lst false (.t123 a0.Stores)),(0,.lst false (.t123 a0.Stores)),(1,.clo 185 0 [.loc 3 0]),(4,B false)],[(2,Ae a0),(3,D3 a1)],4⟩ (some 7) (fun st9=>(Bl (EV (Alf L) L 8 Bnl.u.r) (E5 Tryz.prog (RS Tryz.f184) (Cm Tryz.prog (Alf L) (EI (Alf L) L 9) 1 (List.drop 4 Bv3.w.l.u.l.w.r.l.ops) ⟨[(23,.clo 185 0 [.loc 3 0]),(22,.lst false (.t123 a0.Stores)),(21,.loc 2 3),(2,.loc 2 0),(3,.loc 3 0),(4,I 0),(5,B false),(7,S a1.What),(17,B (a1.What.toList == (⟨#[108,101,102,116]⟩:ByteArray).toList))],[(2,Ae a0),(3,D3 a1)],0⟩ (some 24) (fun st9=>(A97 L kk) .normal st9)))) .normal st9))
def Bmk(p1_0:List Ap)(p1_1:Aa)(p1_2:Au)(v:Cw):St:=⟨[(0,.lst false (.t123 p1_0)),(1,.clo 185 0 [.loc 3 0]),(4,I v.1),(7,I (p1_0.length:Int)),(8,I v.2)],[(2,Ae p1_1),(3,D3 p1_2)],4⟩
def Zi [An A Cx](L:Nat)(p1_0:List Ap)(p1_1:Aa)(p1_2:Au)(rec:Int→Int→A)(Ag:Int)(Ah:Int):A:=
 (cn (decide (Ah < (p1_0.length:Int)))
 (gq (0≤Ah)
 (gq (Ah < (p1_0.length:Int))
 (cn (((p1_0.getD (Int.toNat Ah) default).Name).toList == p1_2.Name.toList)
 (lf (0,Ah,Ah))
 (rec Ag (Da (Ah+1))))))
 (lf (1,Ag,Ah)))
def Mc(L:Nat)(p1_0:List Ap)(p1_1:Aa)(p1_2:Au):Nat→Int→Int→Option Cx
 |0,_,_=>none
 |n+1,Ag,Ah=>Zi L p1_0 p1_1 p1_2 (Mc L p1_0 p1_1 p1_2 n) Ag Ah
theorem By4(p1_0:List Ap)(p1_1:Aa)(p1_2:Au):LP (EV (Alf L) L 7 Bv1.u.l.u.l.l) [0,1,4,7,8] [2,3] (Bmk p1_0 p1_1 p1_2) [.ret,.exit 0] (fun n v=>Mc L p1_0 p1_1 p1_2 n v.1 v.2) K:=lE (fun _=>rfl) fun n v ih=>eE (Zi L p1_0 p1_1 p1_2 (fun Ag Ah=>re (ih (Ag,Ah))) v.1 v.2)
def t7(p1_0:List Ap)(p1_1:Aa)(p1_2:Au)(k:Bx):Int→Prop:=fun o=>k (I o) [(2,Ae p1_1),(3,D3 p1_2)]
def Zp [An A Int](L:Nat)(o4:Nat×Cw):A:=
 (sl o4.1 [(lf o4.2.1),
 (lf (-1))])
def Bjz:Be:=(Ay 0 (Bl (EV (Alf L) L 7 Bv1.u.r) (E5 Tryz.prog (RS Tryz.f137) k)))
theorem B8g(p1_0:List Ap)(p1_1:Aa)(p1_2:Au)(o4:Nat×Cw):kX [.ret,.exit 0] (Bmk p1_0 p1_1 p1_2) (Bjz L k) o4=ob (Zp L o4) (t7 p1_0 p1_1 p1_2 k):=eE (Zp L o4)
def Ag0 [An A Int](L:Nat)(p1_0:List Ap)(p1_1:Aa)(p1_2:Au)(nx2:A):A:=
 nx2
def Aor [An A Int](p1_0:List Ap)(p1_1:Aa)(p1_2:Au):A:=Ag0 L p1_0 p1_1 p1_2 (bd (Mc L p1_0 p1_1 p1_2 L 0 0) fun o4=>Zp L o4)
def Eu(p1_0:List Ap)(p1_1:Aa)(p1_2:Au):Option Int:=Aor L p1_0 p1_1 p1_2
theorem Ahh(p1_0:List Ap)(p1_1:Aa)(p1_2:Au):YO (Alf L) L 8 137 [.lst false (.t123 p1_0),.clo 185 0 [.loc 3 0]] [(2,Ae p1_1),(3,D3 p1_2)] k=ob (Eu L p1_0 p1_1 p1_2) (t7 p1_0 p1_1 p1_2 k):=(Dc _ _ _ jn4 _ _ _ _ _ _ _).trans (eE (Ag0 L p1_0 p1_1 p1_2 (ho (By4 L (Bjz L k) p1_0 p1_1 p1_2 L (0,0)) fun o4=>B8g L k p1_0 p1_1 p1_2 o4)))
def T0 [An A Int](a1:Au)(o38:Int):A:=
 (cn (!(decide (o38≥0)))
 (lf 5)
 (bd (Bi L a1.Coef (-1000) 1000) fun r39=>
 (jp (.cn (!r39)
 (.lf true)
 (.lf (a1.Coef == 0))) (fun b40=>
 (cn b40
 (lf 2)
 (lf 0))))))
def Bj0(a0:Aa)(a1:Au):Bx:=(A95 L a0 a1 kk)
theorem B8h(a0:Aa)(a1:Au)(o38:Int):t7 a0.Stores a0 a1 (Bj0 L kk a0 a1) o38=ob (T0 L a1 o38) (Avj kk):=eE (T0 L a1 o38)
def T1 [An A Int](a1:Au)(o41:Int):A:=
 (cn (!(decide (o41≥0)))
 (lf 5)
 (bd (Bi L a1.Coef (-1000) 1000) fun r42=>
 (jp (.cn (!r42)
 (.lf true)
 (.lf (a1.Coef == 0))) (fun b43=>
 (cn b43
 (lf 2)
 (lf 0))))))
def Bj1(a0:Aa)(a1:Au):Bx:=(A94 L a0 a1 kk)
theorem B8i(a0:Aa)(a1:Au)(o41:Int):t7 a0.Stores a0 a1 (Bj1 L kk a0 a1) o41=ob (T1 L a1 o41) (Avj kk):=eE (T1 L a1 o41)
def T2 [An A Int](a1:Au)(o44:Int):A:=
 (cn (!(decide (o44≥0)))
 (lf 5)
 (bd (Bi L a1.Coef (-1000) 1000) fun r45=>
 (jp (.cn (!r45)
 (.lf true)
 (.lf (a1.Coef == 0))) (fun b46=>
 (cn b46
 (lf 2)
 (lf 0))))))
def Bj2(a0:Aa)(a1:Au):Bx:=(A96 L a0 a1 kk)
theorem B8j(a0:Aa)(a1:Au)(o44:Int):t7 a0.Stores a0 a1 (Bj2 L kk a0 a1) o44=ob (T2 L a1 o44) (Avj kk):=eE (T2 L a1 o44)
def T3 [An A Int](a1:Au)(o47:Int):A:=
 (cn (!(decide (o47≥0)))
 (lf 5)
 (bd (Bi L a1.Coef (-1000) 1000) fun r48=>
 (jp (.cn (!r48)
 (.lf true)
 (.lf (a1.Coef == 0))) (fun b49=>
 (cn b49
 (lf 2)
 (lf 0))))))
def Bj3(a0:Aa)(a1:Au):Bx:=(A95 L a0 a1 kk)
theorem B8k(a0:Aa)(a1:Au)(o47:Int):t7 a0.Stores a0 a1 (Bj3 L kk a0 a1) o47=ob (T3 L a1 o47) (Avj kk):=eE (T3 L a1 o47)
def T4 [An A Int](a1:Au)(o50:Int):A:=
 (cn (!(decide (o50≥0)))
 (lf 5)
 (bd (Bi L a1.Coef (-1000) 1000) fun r51=>
 (jp (.cn (!r51)
 (.lf true)
 (.lf (a1.Coef == 0))) (fun b52=>
 (cn b52
 (lf 2)
 (lf 0))))))
def Bj4(a0:Aa)(a1:Au):Bx:=(A94 L a0 a1 kk)
theorem B8l(a0:Aa)(a1:Au)(o50:Int):t7 a0.Stores a0 a1 (Bj4 L kk a0 a1) o50=ob (T4 L a1 o50) (Avj kk):=eE (T4 L a1 o50)
def T5 [An A Int](a1:Au)(o53:Int):A:=
 (cn (!(decide (o53≥0)))
 (lf 5)
 (bd (Bi L a1.Coef (-1000) 1000) fun r54=>
 (jp (.cn (!r54)
 (.lf true)
 (.lf (a1.Coef == 0))) (fun b55=>
 (cn b55
 (lf 2)
 (lf 0))))))
def Bj5(a0:Aa)(a1:Au):Bx:=(A96 L a0 a1 kk)
theorem B8m(a0:Aa)(a1:Au)(o53:Int):t7 a0.Stores a0 a1 (Bj5 L kk a0 a1) o53=ob (T5 L a1 o53) (Avj kk):=eE (T5 L a1 o53)
def T6 [An A Int](a1:Au)(o56:Int):A:=
 (cn (!(decide (o56≥0)))
 (lf 5)
 (bd (Bi L a1.Coef (-1000) 1000) fun r57=>
 (jp (.cn (!r57)
 (.lf true)
 (.lf (a1.Coef == 0))) (fun b58=>
 (cn b58
 (lf 2)
 (lf 0))))))
def Bj6(a0:Aa)(a1:Au):Bx:=(A95 L a0 a1 kk)
theorem B8n(a0:Aa)(a1:Au)(o56:Int):t7 a0.Stores a0 a1 (Bj6 L kk a0 a1) o56=ob (T6 L a1 o56) (Avj kk):=eE (T6 L a1 o56)
def Sr [An A Int](a1:Au)(o59:Int):A:=
 (cn (!(decide (o59≥0)))
 (lf 5)
 (bd (Bi L a1.Coef (-1000) 1000) fun r60=>
 (jp (.cn (!r60)
 (.lf true)
 (.lf (a1.Coef == 0))) (fun b61=>
 (cn b61
 (lf 2)
 (lf 0))))))
def Bdq(a0:Aa)(a1:Au):Bx:=(A94 L a0 a1 kk)
theorem Bzx(a0:Aa)(a1:Au)(o59:Int):t7 a0.Stores a0 a1 (Bdq L kk a0 a1) o59=ob (Sr L a1 o59) (Avj kk):=eE (Sr L a1 o59)
def Ss [An A Int](a1:Au)(o62:Int):A:=
 (cn (!(decide (o62≥0)))
 (lf 5)
 (bd (Bi L a1.Coef (-1000) 1000) fun r63=>
 (jp (.cn (!r63)
 (.lf true)
 (.lf (a1.Coef == 0))) (fun b64=>
 (cn b64
 (lf 2)
 (lf 0))))))
def Bdr(a0:Aa)(a1:Au):Bx:=(A96 L a0 a1 kk)
theorem Bzy(a0:Aa)(a1:Au)(o62:Int):t7 a0.Stores a0 a1 (Bdr L kk a0 a1) o62=ob (Ss L a1 o62) (Avj kk):=eE (Ss L a1 o62)
def Zy [An A Int](a0:Aa)(a1:Au)(nx3:A)(nx4:A)(nx5:A)(nx6:A)(nx7:A)(nx8:A)(nx9:A)(nx10:A)(nx11:A):A:=
 (cn (a1.What.toList == (⟨#[99,114,101,97,116,101,100]⟩:ByteArray).toList)
 (cn (a1.What.toList == (⟨#[99,114,101,97,116,101,100]⟩:ByteArray).toList)
 (bd (Fv L a0 a1.Name) fun r1=>
 (cn (!(decide (r1≥0)))
 (lf 5)
 (bd (Bi L a1.Coef (-1000) 1000) fun r2=>
 (jp (.cn (!r2)
 (.lf true)
 (.lf (a1.Coef == 0))) (fun b3=>
 (cn b3
 (lf 2)
 (lf 0)))))))
 (cn (a1.What.toList == (⟨#[115,116,111,114,101,100]⟩:ByteArray).toList)
 (cn (a1.What.toList == (⟨#[115,116,111,114,101,100]⟩:ByteArray).toList)
 nx3
 (cn (a1.What.toList == (⟨#[99,111,117,110,116,101,100]⟩:ByteArray).toList)
 (bd (B1 L a0.Counts a1.Name) fun r5=>
 (cn (!r5)
 (lf 5)
 (bd (Bi L a1.Coef (-1000) 1000) fun r6=>
 (jp (.cn (!r6)
 (.lf true)
 (.lf (a1.Coef == 0))) (fun b7=>
 (cn b7
 (lf 2)
 (lf 0)))))))
 (lf 1)))
 (cn (a1.What.toList == (⟨#[101,110,116,101,114,101,100]⟩:ByteArray).toList)
 (cn (a1.What.toList == (⟨#[101,110,116,101,114,101,100]⟩:ByteArray).toList)
 nx4
 (cn (a1.What.toList == (⟨#[99,111,117,110,116,101,100]⟩:ByteArray).toList)
 (bd (B1 L a0.Counts a1.Name) fun r8=>
 (cn (!r8)
 (lf 5)
 (bd (Bi L a1.Coef (-1000) 1000) fun r9=>
 (jp (.cn (!r9)
 (.lf true)
 (.lf (a1.Coef == 0))) (fun b10=>
 (cn b10
 (lf 2)
 (lf 0)))))))
 (lf 1)))
 (cn (a1.What.toList == (⟨#[108,101,102,116]⟩:ByteArray).toList)
 nx5
 (cn (a1.What.toList == (⟨#[99,111,117,110,116,101,100]⟩:ByteArray).toList)
 (bd (B1 L a0.Counts a1.Name) fun r11=>
 (cn (!r11)
 (lf 5)
 (bd (Bi L a1.Coef (-1000) 1000) fun r12=>
 (jp (.cn (!r12)
 (.lf true)
 (.lf (a1.Coef == 0))) (fun b13=>
 (cn b13
 (lf 2)
 (lf 0)))))))
 (lf 1))))))
 (cn (a1.What.toList == (⟨#[101,110,100,101,100]⟩:ByteArray).toList)
 (cn (a1.What.toList == (⟨#[101,110,100,101,100]⟩:ByteArray).toList)
 (bd (Fv L a0 a1.Name) fun r14=>
 (cn (!(decide (r14≥0)))
 (lf 5)
 (bd (Bi L a1.Coef (-1000) 1000) fun r15=>
 (jp (.cn (!r15)
 (.lf true)
 (.lf (a1.Coef == 0))) (fun b16=>
 (cn b16
 (lf 2)
 (lf 0)))))))
 (cn (a1.What.toList == (⟨#[115,116,111,114,101,100]⟩:ByteArray).toList)
 (cn (a1.What.toList == (⟨#[115,116,111,114,101,100]⟩:ByteArray).toList)
 nx6
 (cn (a1.What.toList == (⟨#[99,111,117,110,116,101,100]⟩:ByteArray).toList)
 (bd (B1 L a0.Counts a1.Name) fun r17=>
 (cn (!r17)
 (lf 5)
 (bd (Bi L a1.Coef (-1000) 1000) fun r18=>
 (jp (.cn (!r18)
 (.lf true)
 (.lf (a1.Coef == 0))) (fun b19=>
 (cn b19
 (lf 2)
 (lf 0)))))))
 (lf 1)))
 (cn (a1.What.toList == (⟨#[101,110,116,101,114,101,100]⟩:ByteArray).toList)
 (cn (a1.What.toList == (⟨#[101,110,116,101,114,101,100]⟩:ByteArray).toList)
 nx7
 (cn (a1.What.toList == (⟨#[99,111,117,110,116,101,100]⟩:ByteArray).toList)
 (bd (B1 L a0.Counts a1.Name) fun r20=>
 (cn (!r20)
 (lf 5)
 (bd (Bi L a1.Coef (-1000) 1000) fun r21=>
 (jp (.cn (!r21)
 (.lf true)
 (.lf (a1.Coef == 0))) (fun b22=>
 (cn b22
 (lf 2)
 (lf 0)))))))
 (lf 1)))
 (cn (a1.What.toList == (⟨#[108,101,102,116]⟩:ByteArray).toList)
 nx8
 (cn (a1.What.toList == (⟨#[99,111,117,110,116,101,100]⟩:ByteArray).toList)
 (bd (B1 L a0.Counts a1.Name) fun r23=>
 (cn (!r23)
 (lf 5)
 (bd (Bi L a1.Coef (-1000) 1000) fun r24=>
 (jp (.cn (!r24)
 (.lf true)
 (.lf (a1.Coef == 0))) (fun b25=>
 (cn b25
 (lf 2)
 (lf 0)))))))
 (lf 1))))))
 (cn (a1.What.toList == (⟨#[105,110,115,105,100,101]⟩:ByteArray).toList)
 (bd (Fv L a0 a1.Name) fun r26=>
 (cn (!(decide (r26≥0)))
 (lf 5)
 (bd (Bi L a1.Coef (-1000) 1000) fun r27=>
 (jp (.cn (!r27)
 (.lf true)
 (.lf (a1.Coef == 0))) (fun b28=>
 (cn b28
 (lf 2)
 (lf 0)))))))
 (cn (a1.What.toList == (⟨#[115,116,111,114,101,100]⟩:ByteArray).toList)
 (cn (a1.What.toList == (⟨#[115,116,111,114,101,100]⟩:ByteArray).toList)
 nx9
 (cn (a1.What.toList == (⟨#[99,111,117,110,116,101,100]⟩:ByteArray).toList)
 (bd (B1 L a0.Counts a1.Name) fun r29=>
 (cn (!r29)
 (lf 5)
 (bd (Bi L a1.Coef (-1000) 1000) fun r30=>
 (jp (.cn (!r30)
 (.lf true)
 (.lf (a1.Coef == 0))) (fun b31=>
 (cn b31
 (lf 2)
 (lf 0)))))))
 (lf 1)))
 (cn (a1.What.toList == (⟨#[101,110,116,101,114,101,100]⟩:ByteArray).toList)
 (cn (a1.What.toList == (⟨#[101,110,116,101,114,101,100]⟩:ByteArray).toList)
 nx10
 (cn (a1.What.toList == (⟨#[99,111,117,110,116,101,100]⟩:ByteArray).toList)
 (bd (B1 L a0.Counts a1.Name) fun r32=>
 (cn (!r32)
 (lf 5)
 (bd (Bi L a1.Coef (-1000) 1000) fun r33=>
 (jp (.cn (!r33)
 (.lf true)
 (.lf (a1.Coef == 0))) (fun b34=>
 (cn b34
 (lf 2)
 (lf 0)))))))
 (lf 1)))
 (cn (a1.What.toList == (⟨#[108,101,102,116]⟩:ByteArray).toList)
 nx11
 (cn (a1.What.toList == (⟨#[99,111,117,110,116,101,100]⟩:ByteArray).toList)
 (bd (B1 L a0.Counts a1.Name) fun r35=>
 (cn (!r35)
 (lf 5)
 (bd (Bi L a1.Coef (-1000) 1000) fun r36=>
 (jp (.cn (!r36)
 (.lf true)
 (.lf (a1.Coef == 0))) (fun b37=>
 (cn b37
 (lf 2)
 (lf 0)))))))
 (lf 1))))))))
def Aur [An A Int](a0:Aa)(a1:Au):A:=Zy L a0 a1 (bd (Eu L a0.Stores a0 a1) fun o38=>T0 L a1 o38) (bd (Eu L a0.Stores a0 a1) fun o41=>T1 L a1 o41) (bd (Eu L a0.Stores a0 a1) fun o44=>T2 L a1 o44) (bd (Eu L a0.Stores a0 a1) fun o47=>T3 L a1 o47) (bd (Eu L a0.Stores a0 a1) fun o50=>T4 L a1 o50) (bd (Eu L a0.Stores a0 a1) fun o53=>T5 L a1 o53) (bd (Eu L a0.Stores a0 a1) fun o56=>T6 L a1 o56) (bd (Eu L a0.Stores a0 a1) fun o59=>Sr L a1 o59) (bd (Eu L a0.Stores a0 a1) fun o62=>Ss L a1 o62)
def Wo(a0:Aa)(a1:Au):Option Int:=Aur L a0 a1
def Cbh:Gk:=E2 I 156 C0 Ay8 (Wo L) fun a0 a1 r h=>hF Tryz.func156 (C:=Alf L) (oS _) L (fun kk=>eE (Zy L a0 a1 (ho (Ahh L (Bj0 L kk a0 a1) a0.Stores a0 a1) fun o38=>B8h L kk a0 a1 o38) (ho (Ahh L (Bj1 L kk a0 a1) a0.Stores a0 a1) fun o41=>B8i L kk a0 a1 o41) (ho (Ahh L (Bj2 L kk a0 a1) a0.Stores a0 a1) fun o44=>B8j L kk a0 a1 o44) (ho (Ahh L (Bj3 L kk a0 a1) a0.Stores a0 a1) fun o47=>B8k L kk a0 a1 o47) (ho (Ahh L (Bj4 L kk a0 a1) a0.Stores a0 a1) fun o50=>B8l L kk a0 a1 o50) (ho (Ahh L (Bj5 L kk a0 a1) a0.Stores a0 a1) fun o53=>B8m L kk a0 a1 o53) (ho (Ahh L (Bj6 L kk a0 a1) a0.Stores a0 a1) fun o56=>B8n L kk a0 a1 o56) (ho (Ahh L (Bdq L kk a0 a1) a0.Stores a0 a1) fun o59=>Bzx L kk a0 a1 o59) (ho (Ahh L (Bdr L kk a0 a1) a0.Stores a0 a1) fun o62=>Bzy L kk a0 a1 o62))) h
noncomputable def Bnj:EC:=CC Tryz.f152
noncomputable def Bnk:EC:=CC Tryz.f153
noncomputable def Cda:EC:=CC Tryz.f154
noncomputable def Ccu:EC:=CC Tryz.f103
def Af5:Bk:=oL [X39 L,Cbh L,Bvv L]
def Cea:Int→Prop:=fun x=>kk (I x)
def Bb9(p10_0:ByteArray)(p10_1:Aa)(p10_2:List ByteArray)(p10_3:List Bool)(p10_4:Ax)(p10_5:Ax)(k:Bx):Cs→Prop:=fun o=>k (I o.1) [(1,Ae p10_1),(3,[.mp 4]),(4,[.mapO false false (.t9 o.2.1) (.t4 o.2.2)]),(13,C6 p10_4),(17,C6 p10_5)]
def Alu [An A Cs](p10_0:ByteArray)(p10_1:Aa)(p10_2:List ByteArray)(p10_3:List Bool)(p10_4:Ax)(p10_5:Ax):A:=
 (bd (De L p10_0) fun r1=>
 (cn (r1 != 0)
 (lf (r1,p10_2,p10_3))
 (fq (p10_2.findIdx? fun b=>p10_0 == b) (fun i2=>
 (cn (p10_3.getD i2 default)
 (lf (4,p10_2,p10_3))
 (fq (p10_2.findIdx? fun b=>p10_0 == b) (fun i3=>
 (lf (0,p10_2,(p10_3.set i3 true))))
 (lf (0,(p10_2++ [p10_0]),(p10_3++ [true]))))))
 (fq (p10_2.findIdx? fun b=>p10_0 == b) (fun i4=>
 (lf (0,p10_2,(p10_3.set i4 true))))
 (lf (0,(p10_2++ [p10_0]),(p10_3++ [true])))))))
def Ac0(p10_0:ByteArray)(p10_1:Aa)(p10_2:List ByteArray)(p10_3:List Bool)(p10_4:Ax)(p10_5:Ax):Option Cs:=Alu L p10_0 p10_1 p10_2 p10_3 p10_4 p10_5
theorem Bqk(p10_0:ByteArray)(p10_1:Aa)(p10_2:List ByteArray)(p10_3:List Bool)(p10_4:Ax)(p10_5:Ax):YO (Af5 L) L 7 43 [.mp 4,S p10_0] [(1,Ae p10_1),(3,[.mp 4]),(4,[.mapO false false (.t9 p10_2) (.t4 p10_3)]),(13,C6 p10_4),(17,C6 p10_5)] k=ob (Ac0 L p10_0 p10_1 p10_2 p10_3 p10_4 p10_5) (Bb9 p10_0 p10_1 p10_2 p10_3 p10_4 p10_5 k):=(Dc _ _ _ jn4 _ _ _ _ _ _ _).trans (eE (Alu L p10_0 p10_1 p10_2 p10_3 p10_4 p10_5))
def Blw(p11_0:List Au)(p11_1:Aa)(p11_2:List ByteArray)(p11_3:List Bool)(p11_4:Ax)(p11_5:Ax)(v:Cw):St:=⟨[(0,.any),(1,.any),(2,.clo 155 0 [.loc 1 0]),(6,I v.1),(14,.lst false (.t186 p11_0)),(15,I (p11_0.length:Int)),(16,I v.2)],[(1,Ae p11_1),(3,[.mp 4]),(4,[.mapO false false (.t9 p11_2) (.t4 p11_3)]),(13,C6 p11_4),(17,C6 p11_5)],18⟩
def Zg [An A Cx](p11_0:List Au)(p11_1:Aa)(p11_2:List ByteArray)(p11_3:List Bool)(p11_4:Ax)(p11_5:Ax)(rec:Int→Int→A)(B5:Int)(B2:Int):A:=
 (cn (decide (B2 < (p11_0.length:Int)))
 (gq (0≤B2)
 (gq (B2 < (p11_0.length:Int))
 (bd (Wo L p11_1 (p11_0.getD (Int.toNat B2) default)) fun r6=>
 (cn (r6 != 0)
 (lf (0,r6,B2))
 (rec B5 (Da (B2+1)))))))
 (lf (1,B5,B2)))
def Ma(L:Nat)(p11_0:List Au)(p11_1:Aa)(p11_2:List ByteArray)(p11_3:List Bool)(p11_4:Ax)(p11_5:Ax):Nat→Int→Int→Option Cx
 |0,_,_=>none
 |n+1,B5,B2=>Zg L p11_0 p11_1 p11_2 p11_3 p11_4 p11_5 (Ma L p11_0 p11_1 p11_2 p11_3 p11_4 p11_5 n) B5 B2
theorem Byg(p11_0:List Au)(p11_1:Aa)(p11_2:List ByteArray)(p11_3:List Bool)(p11_4:Ax)(p11_5:Ax):LP (EV (Af5 L) L 6 Cda.w.l.u.l.l) [0,1,2,6,14,15,16] [1,3,4,13,17] (Blw p11_0 p11_1 p11_2 p11_3 p11_4 p11_5) [.ret,.exit 0] (fun n v=>Ma L p11_0 p11_1 p11_2 p11_3 p11_4 p11_5 n v.1 v.2) K:=lE (fun _=>rfl) fun n v ih=>eE (Zg L p11_0 p11_1 p11_2 p11_3 p11_4 p11_5 (fun B5 B2=>re (ih (B5,B2))) v.1 v.2)
def A2c(p11_0:List Au)(p11_1:Aa)(p11_2:List ByteArray)(p11_3:List Bool)(p11_4:Ax)(p11_5:Ax)(k:Bx):Int→Prop:=fun o=>k (I o) [(1,Ae p11_1),(3,[.mp 4]),(4,[.mapO false false (.t9 p11_2) (.t4 p11_3)]),(13,C6 p11_4),(17,C6 p11_5)]
def Adl [An A Int](L:Nat)(o7:Nat×Cw):A:=
 (sl o7.1 [(lf o7.2.1),
 (lf 0)])
def Bdl:Be:=(Ay 0 (Bl (EV (Af5 L) L 6 Cda.w.r) (E5 Tryz.prog (RS Tryz.f154) k)))
theorem Bzs(p11_0:List Au)(p11_1:Aa)(p11_2:List ByteArray)(p11_3:List Bool)(p11_4:Ax)(p11_5:Ax)(o7:Nat×Cw):kX [.ret,.exit 0] (Blw p11_0 p11_1 p11_2 p11_3 p11_4 p11_5) (Bdl L k) o7=ob (Adl L o7) (A2c p11_0 p11_1 p11_2 p11_3 p11_4 p11_5 k):=eE (Adl L o7)
def Amm [An A Int](L:Nat)(p11_0:List Au)(p11_1:Aa)(p11_2:List ByteArray)(p11_3:List Bool)(p11_4:Ax)(p11_5:Ax)(nx17:A):A:=
 (cn (decide ((p11_0.length:Int) > 8))
 (lf 6)
 nx17)
def Aw2 [An A Int](p11_0:List Au)(p11_1:Aa)(p11_2:List ByteArray)(p11_3:List Bool)(p11_4:Ax)(p11_5:Ax):A:=Amm L p11_0 p11_1 p11_2 p11_3 p11_4 p11_5 (bd (Ma L p11_0 p11_1 p11_2 p11_3 p11_4 p11_5 L 0 0) fun o7=>Adl L o7)
def Ac1(p11_0:List Au)(p11_1:Aa)(p11_2:List ByteArray)(p11_3:List Bool)(p11_4:Ax)(p11_5:Ax):Option Int:=Aw2 L p11_0 p11_1 p11_2 p11_3 p11_4 p11_5
theorem Bql(p11_0:List Au)(p11_1:Aa)(p11_2:List ByteArray)(p11_3:List Bool)(p11_4:Ax)(p11_5:Ax):YO (Af5 L) L 7 154 [.lst false (.t186 p11_0),I 8,.clo 155 0 [.loc 1 0]] [(1,Ae p11_1),(3,[.mp 4]),(4,[.mapO false false (.t9 p11_2) (.t4 p11_3)]),(13,C6 p11_4),(17,C6 p11_5)] k=ob (Ac1 L p11_0 p11_1 p11_2 p11_3 p11_4 p11_5) (A2c p11_0 p11_1 p11_2 p11_3 p11_4 p11_5 k):=(Dc _ _ _ jn4 _ _ _ _ _ _ _).trans (eE (Amm L p11_0 p11_1 p11_2 p11_3 p11_4 p11_5 (ho (Byg L (Bdl L k) p11_0 p11_1 p11_2 p11_3 p11_4 p11_5 L (0,0)) fun o7=>Bzs L k p11_0 p11_1 p11_2 p11_3 p11_4 p11_5 o7)))
def A1g(p7_0:Ax)(p7_1:Aa)(p7_2:List ByteArray)(p7_3:List Bool)(p7_4:Ax)(k:Bx):Cs→Prop:=fun o=>k (I o.1) [(1,Ae p7_1),(3,[.mp 4]),(4,[.mapO false false (.t9 o.2.1) (.t4 o.2.2)]),(13,C6 p7_4),(17,C6 p7_0)]
def Xb [An A Cs](o5:Cs)(p7_0:Ax)(o8:Int):A:=
 (cn (o8 != 0)
 (lf (o8,o5.2.1,o5.2.2))
 (bd (Ah3 L p7_0.Total) fun r9=>
 (cn (!r9)
 (lf (2,o5.2.1,o5.2.2))
 (lf (0,o5.2.1,o5.2.2)))))
def Bdm(p7_0:Ax)(p7_1:Aa)(o5:Cs)(p7_4:Ax):Bx:=(Cm Tryz.prog (Af5 L) (EI (Af5 L) L 7) 1 (List.drop 4 Bnk.w.u.l.l.ops) ⟨[(20,.clo 155 0 [.loc 1 0]),(19,.lst false (.t186 p7_0.Terms)),(18,.loc 17 1),(2,.loc 1 0),(3,.loc 17 0),(4,I 0)],[(1,Ae p7_1),(3,[.mp 4]),(4,[.mapO false false (.t9 o5.2.1) (.t4 o5.2.2)]),(13,C6 p7_4),(17,C6 p7_0)],14⟩ (some 21) (fun st9=>(Bl (EV (Af5 L) L 7 Bnk.w.u.l.r) (Bl (EV (Af5 L) L 7 Bnk.w.u.r) (E5 Tryz.prog (RS Tryz.f153) k))) .normal st9))
theorem Bzt(p7_0:Ax)(p7_1:Aa)(o5:Cs)(p7_4:Ax)(p7_2:List ByteArray)(p7_3:List Bool)(o8:Int):A2c p7_0.Terms p7_1 o5.2.1 o5.2.2 p7_4 p7_0 (Bdm L k p7_0 p7_1 o5 p7_4) o8=ob (Xb L o5 p7_0 o8) (A1g p7_0 p7_1 p7_2 p7_3 p7_4 k):=eE (Xb L o5 p7_0 o8)
def Ad3 [An A Cs](L:Nat)(p7_0:Ax)(p7_1:Aa)(p7_4:Ax)(o5:Cs)(nx18:Cs→A):A:=
 (cn (o5.1 != 0)
 (lf (o5.1,o5.2.1,o5.2.2))
 (cn ((p7_0.Terms.length:Int) == 0)
 (lf (7,o5.2.1,o5.2.2))
 (nx18 o5)))
def Adk [An A Cs](p7_0:Ax)(p7_1:Aa)(p7_4:Ax)(o5:Cs):A:=Ad3 L p7_0 p7_1 p7_4 o5 (fun o5=>bd (Ac1 L p7_0.Terms p7_1 o5.2.1 o5.2.2 p7_4 p7_0) fun o8=>Xb L o5 p7_0 o8)
def Bdk(p7_0:Ax)(p7_1:Aa)(p7_2:List ByteArray)(p7_3:List Bool)(p7_4:Ax):Bx:=(Cm Tryz.prog (Af5 L) (EI (Af5 L) L 7) 1 (List.drop 4 Bnk.u.l.l.ops) ⟨[(9,S p7_0.Name),(8,.loc 17 0),(7,.mp 4),(1,.loc 3 0),(2,.loc 1 0),(3,.loc 17 0),(4,I 0)],[(1,Ae p7_1),(3,[.mp 4]),(4,[.mapO false false (.t9 p7_2) (.t4 p7_3)]),(13,C6 p7_4),(17,C6 p7_0)],14⟩ (some 10) (fun st9=>(Bl (EV (Af5 L) L 7 Bnk.u.l.r) (Bl (EV (Af5 L) L 7 Bnk.u.r) (E5 Tryz.prog (RS Tryz.f153) k))) .normal st9))
theorem Bzr(p7_0:Ax)(p7_1:Aa)(p7_2:List ByteArray)(p7_3:List Bool)(p7_4:Ax)(o5:Cs):Bb9 p7_0.Name p7_1 p7_2 p7_3 p7_4 p7_0 (Bdk L k p7_0 p7_1 p7_2 p7_3 p7_4) o5=ob (Adk L p7_0 p7_1 p7_4 o5) (A1g p7_0 p7_1 p7_2 p7_3 p7_4 k):=eE (Ad3 L p7_0 p7_1 p7_4 o5 (fun o5=>ho (Bql L (Bdm L k p7_0 p7_1 o5 p7_4) p7_0.Terms p7_1 o5.2.1 o5.2.2 p7_4 p7_0) fun o8=>Bzt L k p7_0 p7_1 o5 p7_4 p7_2 p7_3 o8))
def Ad2 [An A Cs](L:Nat)(p7_0:Ax)(p7_1:Aa)(p7_2:List ByteArray)(p7_3:List Bool)(p7_4:Ax)(nx15:A):A:=
 nx15
def Aop [An A Cs](p7_0:Ax)(p7_1:Aa)(p7_2:List ByteArray)(p7_3:List Bool)(p7_4:Ax):A:=Ad2 L p7_0 p7_1 p7_2 p7_3 p7_4 (bd (Ac0 L p7_0.Name p7_1 p7_2 p7_3 p7_4 p7_0) fun o5=>Adk L p7_0 p7_1 p7_4 o5)
def O8(p7_0:Ax)(p7_1:Aa)(p7_2:List ByteArray)(p7_3:List Bool)(p7_4:Ax):Option Cs:=Aop L p7_0 p7_1 p7_2 p7_3 p7_4
theorem Bxd(p7_0:Ax)(p7_1:Aa)(p7_2:List ByteArray)(p7_3:List Bool)(p7_4:Ax):YO (Af5 L) L 8 153 [.agg (C6 p7_0),.loc 3 0,.loc 1 0] [(1,Ae p7_1),(3,[.mp 4]),(4,[.mapO false false (.t9 p7_2) (.t4 p7_3)]),(13,C6 p7_4)] k=ob (O8 L p7_0 p7_1 p7_2 p7_3 p7_4) (A1g p7_0 p7_1 p7_2 p7_3 p7_4 k):=(Dc _ _ _ jn4 _ _ _ _ _ _ _).trans (eE (Ad2 L p7_0 p7_1 p7_2 p7_3 p7_4 (ho (Bqk L (Bdk L k p7_0 p7_1 p7_2 p7_3 p7_4) p7_0.Name p7_1 p7_2 p7_3 p7_4 p7_0) fun o5=>Bzr L k p7_0 p7_1 p7_2 p7_3 p7_4 o5)))
def Bbz(p1_0:List Ax)(p1_1:Aa)(v:Tu4):St:=⟨[(0,.any),(1,.any),(2,.clo 153 0 [.loc 3 0,.loc 1 0]),(6,I v.1),(14,.lst false (.t151 p1_0)),(15,I (p1_0.length:Int)),(16,I v.2.1)],[(1,Ae p1_1),(3,[.mp 4]),(4,[.mapO false false (.t9 v.2.2.1) (.t4 v.2.2.2)])],5⟩
def Sh [An A Sz](L:Nat)(Ah:Int)(Ak:Int)(rec:Int→Int→List ByteArray→List Bool→A)(o10:Cs):A:=
 (cn (o10.1 != 0)
 (lf (0,o10.1,Ah,o10.2.1,o10.2.2))
 (rec Ak (Da (Ah+1)) o10.2.1 o10.2.2))
def Xs [An A Sz](L:Nat)(p1_0:List Ax)(p1_1:Aa)(rec:Int→Int→List ByteArray→List Bool→A)(Ak:Int)(Ah:Int)(Dm:List ByteArray)(Dn:List Bool)(nx19:Int→(List ByteArray)→(List Bool)→Int→A):A:=
 (cn (decide (Ah < (p1_0.length:Int)))
 (gq (0≤Ah)
 (gq (Ah < (p1_0.length:Int))
 (nx19 Ah Dm Dn Ak)))
 (lf (1,Ak,Ah,Dm,Dn)))
def Agc [An A Sz](p1_0:List Ax)(p1_1:Aa)(rec:Int→Int→List ByteArray→List Bool→A)(Ak:Int)(Ah:Int)(Dm:List ByteArray)(Dn:List Bool):A:=Xs L p1_0 p1_1 rec Ak Ah Dm Dn (fun Ah Dm Dn Ak=>bd (O8 L (p1_0.getD (Int.toNat Ah) default) p1_1 Dm Dn (p1_0.getD (Int.toNat Ah) default)) fun o10=>Sh L Ah Ak rec o10)
def Jn(L:Nat)(p1_0:List Ax)(p1_1:Aa):Nat→Int→Int→List ByteArray→List Bool→Option Sz
 |0,_,_,_,_=>none
 |n+1,Ak,Ah,Dm,Dn=>Agc L p1_0 p1_1 (Jn L p1_0 p1_1 n) Ak Ah Dm Dn
def Bh6(p1_0:List Ax)(p1_1:Aa):Prop:=LI (EV (Af5 L) L 8 Bnj.w.l.u.l.l) [0,1,2,6,14,15,16] [1,3,4] (Bbz p1_0 p1_1) [.ret,.exit 0] (fun n v=>Jn L p1_0 p1_1 n v.1 v.2.1 v.2.2.1 v.2.2.2) K n
def Bdn(p1_0:List Ax)(Ah:Int)(Ak:Int)(p1_1:Aa)(Dm:List ByteArray)(Dn:List Bool):Bx:=(Cm Tryz.prog (Af5 L) (EI (Af5 L) L 8) 1 (List.drop 3 Bnj.w.l.u.l.l.w.l.l.u.l.ops) ⟨[(21,.agg (C6 (p1_0.getD (Int.toNat Ah) default))),(20,.clo 153 0 [.loc 3 0,.loc 1 0]),(2,.clo 153 0 [.loc 3 0,.loc 1 0]),(6,I Ak),(8,.loc 13 0),(14,.lst false (.t151 p1_0)),(15,I (p1_0.length:Int)),(16,I Ah),(17,B (decide (Ah < (p1_0.length:Int)))),(18,.ref (C6 (p1_0.getD (Int.toNat Ah) default))),(19,.agg (C6 (p1_0.getD (Int.toNat Ah) default)))],[(1,Ae p1_1),(3,[.mp 4]),(4,[.mapO false false (.t9 Dm) (.t4 Dn)]),(13,(C6 (p1_0.getD (Int.toNat Ah) default)))],5⟩ (some 22) (fun st9=>(Bl (EV (Af5 L) L 8 Bnj.w.l.u.l.l.w.l.l.u.r) (Ay 1 (Bl (EV (Af5 L) L 8 Bnj.w.l.u.l.l.w.r) (I7 (Ly (EV (Af5 L) L 8 Bnj.w.l.u.l.l) [0,1,2,6,14,15,16] [1,3,4] n) [0,1,2,6,14,15,16] [1,3,4] K)))) .normal st9))
theorem Bzu(p1_0:List Ax)(Ah:Int)(p1_1:Aa)(Dm:List ByteArray)(Dn:List Bool)(Ak:Int)(ih:Bh6 L n K p1_0 p1_1)(o10:Cs):A1g (p1_0.getD (Int.toNat Ah) default) p1_1 Dm Dn (p1_0.getD (Int.toNat Ah) default) (Bdn L n K p1_0 Ah Ak p1_1 Dm Dn) o10=ob (Sh L Ah Ak (Jn L p1_0 p1_1 n) o10) (kX [.ret,.exit 0] (Bbz p1_0 p1_1) K):=eE (Sh L Ah Ak (fun Ak Ah Dm Dn=>re (ih (Ak,Ah,Dm,Dn))) o10)
theorem Byf(p1_0:List Ax)(p1_1:Aa):∀n,Bh6 L n K p1_0 p1_1:=lE (fun _=>rfl) fun n v ih=>eE (Xs L p1_0 p1_1 (fun Ak Ah Dm Dn=>re (ih (Ak,Ah,Dm,Dn))) v.1 v.2.1 v.2.2.1 v.2.2.2 (fun Ah Dm Dn Ak=>ho (Bxd L (Bdn L n K p1_0 Ah Ak p1_1 Dm Dn) (p1_0.getD (Int.toNat Ah) default) p1_1 Dm Dn (p1_0.getD (Int.toNat Ah) default)) fun o10=>Bzu L n K p1_0 Ah p1_1 Dm Dn Ak ih o10))
def A8s(p1_0:List Ax)(p1_1:Aa)(k:Bx):Cs→Prop:=fun o=>k (I o.1) [(1,Ae p1_1),(3,[.mp 4]),(4,[.mapO false false (.t9 o.2.1) (.t4 o.2.2)])]
def Adm [An A Cs](L:Nat)(o11:Nat×Tu4):A:=
 (sl o11.1 [(lf (o11.2.1,o11.2.2.2.1,o11.2.2.2.2)),
 (lf (0,o11.2.2.2.1,o11.2.2.2.2))])
def Bdo:Be:=(Ay 0 (Bl (EV (Af5 L) L 8 Bnj.w.r) (E5 Tryz.prog (RS Tryz.f152) k)))
theorem Bzv(p1_0:List Ax)(p1_1:Aa)(o11:Nat×Tu4):kX [.ret,.exit 0] (Bbz p1_0 p1_1) (Bdo L k) o11=ob (Adm L o11) (A8s p1_0 p1_1 k):=eE (Adm L o11)
def Amn [An A Cs](L:Nat)(p1_0:List Ax)(p1_1:Aa)(nx20:A):A:=
 (cn (decide ((p1_0.length:Int) > 32))
 (lf (6,[],[]))
 nx20)
def A0b [An A Cs](p1_0:List Ax)(p1_1:Aa):A:=Amn L p1_0 p1_1 (bd (Jn L p1_0 p1_1 L 0 0 [] []) fun o11=>Adm L o11)
def Agb(p1_0:List Ax)(p1_1:Aa):Option Cs:=A0b L p1_0 p1_1
theorem Bxc(p1_0:List Ax)(p1_1:Aa):YO (Af5 L) L 9 152 [.lst false (.t151 p1_0),I 32,.clo 153 0 [.loc 3 0,.loc 1 0]] [(1,Ae p1_1),(3,[.mp 4]),(4,[.mapO false false (.t9 []) (.t4 [])])] k=ob (Agb L p1_0 p1_1) (A8s p1_0 p1_1 k):=(Dc _ _ _ jn4 _ _ _ _ _ _ _).trans (eE (Amn L p1_0 p1_1 (ho (Byf L (Bdo L k) p1_0 p1_1 L (0,0,[],[])) fun o11=>Bzv L k p1_0 p1_1 o11)))
def Si [An A Int](L:Nat)(o12:Cs):A:=
 (lf o12.1)
def Bdp(a0:Aa):Bx:=(Cm Tryz.prog (Af5 L) (EI (Af5 L) L 9) 1 (List.drop 4 Ccu.w.l.ops) ⟨[(7,.clo 153 0 [.loc 3 0,.loc 1 0]),(6,.lst false (.t151 a0.Laws)),(5,.loc 1 12),(1,.loc 1 0),(2,I 0),(3,.loc 3 0)],[(1,Ae a0),(3,[.mp 4]),(4,[.mapO false false (.t9 []) (.t4 [])])],0⟩ (some 8) (fun st9=>(Bl (EV (Af5 L) L 9 Ccu.w.r) (C8 Tryz.prog (RS Tryz.f103) kk)) .normal st9))
theorem Bzw(a0:Aa)(o12:Cs):A8s a0.Laws a0 (Bdp L kk a0) o12=ob (Si L o12) (Cea kk):=eE (Si L o12)
def Xt [An A Int](L:Nat)(a0:Aa)(nx21:A):A:=
 nx21
def Aup [An A Int](a0:Aa):A:=Xt L a0 (bd (Agb L a0.Laws a0) fun o12=>Si L o12)
def Ag9(a0:Aa):Option Int:=Aup L a0
def Ca4:Gk:=E1 I 103 C0 (Ag9 L) fun a0 r h=>hF Tryz.func103 (C:=Af5 L) (oS _) L (fun kk=>eE (Xt L a0 (ho (Bxc L (Bdp L kk a0) a0.Laws a0) fun o12=>Bzw L kk a0 o12))) h
end Go.Proofs.YtogleahbpobaiaaGreat.Ev
