import Derived.Test.YtfencmicmnhglaaGreatG2
namespace Go.Proofs.YtfencmicmnhglaaGreat.Ev
open Go An
set_option maxRecDepth 100000
set_option maxHeartbeats 4000000
set_option linter.unusedVariables false
set_option linter.unusedSimpArgs false
set_option linter.unnecessarySimpa false
noncomputable section
variable {A:Type} (L n:Nat) (kk:Dm) (K:Be) (k:Bx)
def Ao1 [An A Bool](L:Nat)(a0:Int):A:=
 (jp (.cn (decide (a0≥97))
 (.lf (decide (a0≤122)))
 (.lf false)) (fun b1=>
 (lf b1)))
def Aa1(a0:Int):Option Bool:=Ao1 L a0
def Chj:Gh:=E1 B 122 (cI .u8) (Aa1 L) fun a0 r h=>hF Tryz.func122 (oS []) L (fun kk=>eE (Ao1 L a0)) h
def Ara [An A (List ByteArray)](L:Nat):A:=
 (lf [(⟨#[97,100,100]⟩:ByteArray),(⟨#[97,102,116,101,114]⟩:ByteArray),(⟨#[97,110,100]⟩:ByteArray),(⟨#[97,116]⟩:ByteArray),(⟨#[98,101,108,116]⟩:ByteArray),(⟨#[98,111,111,108]⟩:ByteArray),(⟨#[99,111,110,115,101,114,118,101]⟩:ByteArray),(⟨#[99,111,110,115,116]⟩:ByteArray),(⟨#[99,111,117,110,116]⟩:ByteArray),(⟨#[99,121,99,108,101]⟩:ByteArray),(⟨#[100,111,119,110]⟩:ByteArray),(⟨#[100,114,97,119]⟩:ByteArray),(⟨#[100,117,114]⟩:ByteArray),(⟨#[101,108,115,101]⟩:ByteArray),(⟨#[101,110,100]⟩:ByteArray),(⟨#[101,118,101,114,121]⟩:ByteArray),(⟨#[102,97,108,115,101]⟩:ByteArray),(⟨#[102,97,117,108,116]⟩:ByteArray),(⟨#[102,105,102,111]⟩:ByteArray),(⟨#[102,114,101,101]⟩:ByteArray),(⟨#[102,114,111,109]⟩:ByteArray),(⟨#[103,101,111,109]⟩:ByteArray),(⟨#[103,101,116]⟩:ByteArray),(⟨#[104,111,108,100]⟩:ByteArray),(⟨#[105,102]⟩:ByteArray),(⟨#[105,110,116]⟩:ByteArray),(⟨#[105,110,116,111]⟩:ByteArray),(⟨#[108,101,97,115,116]⟩:ByteArray),(⟨#[108,101,118,101,108]⟩:ByteArray),(⟨#[108,105,102,111]⟩:ByteArray),(⟨#[108,105,110,107]⟩:ByteArray),(⟨#[108,111,99,97,108]⟩:ByteArray),(⟨#[109,97,120]⟩:ByteArray),(⟨#[109,105,110]⟩:ByteArray),(⟨#[109,111,100,101,108]⟩:ByteArray),(⟨#[110,111,116]⟩:ByteArray),(⟨#[110,111,119]⟩:ByteArray),(⟨#[111,98,115,101,114,118,101]⟩:ByteArray),(⟨#[111,114]⟩:ByteArray),(⟨#[112,97,114,97,109]⟩:ByteArray),(⟨#[112,114,101,101,109,112,116]⟩:ByteArray),(⟨#[112,114,105,111]⟩:ByteArray),(⟨#[112,117,116]⟩:ByteArray),(⟨#[113,117,101,117,101]⟩:ByteArray),(⟨#[114,101,108,101,97,115,101]⟩:ByteArray),(⟨#[114,101,115,111,117,114,99,101]⟩:ByteArray),(⟨#[114,105,100,101]⟩:ByteArray),(⟨#[114,111,117,116,105,110,101]⟩:ByteArray),(⟨#[115,101,105,122,101]⟩:ByteArray),(⟨#[115,101,110,100]⟩:ByteArray),(⟨#[115,101,116]⟩:ByteArray),(⟨#[115,104,105,102,116]⟩:ByteArray),(⟨#[115,105,103,110,97,108]⟩:ByteArray),(⟨#[115,105,116,101]⟩:ByteArray),(⟨#[115,105,122,101]⟩:ByteArray),(⟨#[115,112,97,119,110]⟩:ByteArray),(⟨#[115,116,97,114,116]⟩:ByteArray),(⟨#[115,116,111,112]⟩:ByteArray),(⟨#[115,116,111,114,101]⟩:ByteArray),(⟨#[115,116,114,101,97,109]⟩:ByteArray),(⟨#[115,117,109]⟩:ByteArray),(⟨#[116,97,98,108,101]⟩:ByteArray),(⟨#[116,97,108,108,121]⟩:ByteArray),(⟨#[116,105,99,107,115]⟩:ByteArray),(⟨#[116,105,109,101]⟩:ByteArray),(⟨#[116,114,117,101]⟩:ByteArray),(⟨#[117,110,105,102,111,114,109]⟩:ByteArray),(⟨#[117,110,116,105,108]⟩:ByteArray),(⟨#[117,112]⟩:ByteArray),(⟨#[118,97,114]⟩:ByteArray),(⟨#[119,97,105,116]⟩:ByteArray),(⟨#[119,97,105,116,105,110,103]⟩:ByteArray),(⟨#[119,104,105,108,101]⟩:ByteArray)])
def Ajg:Option (List ByteArray):=Ara L
def Chx:Gh:=E0 (fun(x:List ByteArray)=>lv (.t9 x)) 159 (Ajg L) fun r h=>hF Tryz.func159 (oS []) L (fun kk=>eE (Ara L)) h
def Cj3:=CC Tryz.f125
def B8o(L:Nat):Bi:=oL []
def Bqu(a0:List ByteArray)(a1:ByteArray)(v:Cp):St:=⟨[(0,lv (.t9 a0)),(1,S a1),(4,I v.1),(5,I v.2)],[],0⟩
def Af3 [An A B8](L:Nat)(a0:List ByteArray)(a1:ByteArray)(rec:Int→Int→A)(Aj:Int)(Ai:Int):A:=
 (lw Ai a0
 (cn ((a0.getD (Int.toNat Ai) default).toList == a1.toList)
 (lf (0,Ai,Ai))
 (rec Aj (Cq (Ai+1))))
 (lf (1,Aj,Ai)))
def Sg(L:Nat)(a0:List ByteArray)(a1:ByteArray):Nat→Int→Int→Option B8
 |0,_,_=>none
 |n+1,Aj,Ai=>Af3 L a0 a1 (Sg L a0 a1 n) Aj Ai
theorem B4a(a0:List ByteArray)(a1:ByteArray):LP (EV (B8o L) L 9 Cj3.u.l.u.l.l) [0,1,4,5] [] (Bqu a0 a1) [.ret,.exit 0] (fun n v=>Sg L a0 a1 n v.1 v.2) K:=lE (fun _=>rfl) fun n v ih=>eE (Af3 L a0 a1 (fun Aj Ai=>re (ih (Aj,Ai))) v.1 v.2)
def m7 [An A Int](L:Nat)(o1:Nat×Cp):A:=
 (sl o1.1 [(lf o1.2.1),
 (lf (-1))])
def Bm9:Be:=(Ax 0 (Bk (EV (B8o L) L 9 Cj3.u.r) (C0 Tryz.prog (RS Tryz.f125) kk)))
theorem Cdk(a0:List ByteArray)(a1:ByteArray)(o1:Nat×Cp):kX [.ret,.exit 0] (Bqu a0 a1) (Bm9 L kk) o1=ob (m7 L o1) (kQ I kk):=eE (m7 L o1)
def A5a [An A Int](a0:List ByteArray)(a1:ByteArray):A:=(bd (Sg L a0 a1 L 0 0) fun o1=>m7 L o1)
def Mn(a0:List ByteArray)(a1:ByteArray):Option Int:=A5a L a0 a1
def Bsm:Gh:=E2 I 125 cl9 cS (Mn L) fun a0 a1 r h=>hF Tryz.func125 (C:=B8o L) (oS _) L (fun kk=>eE ((ho (B4a L (Bm9 L kk) a0 a1 L (0,0)) fun o1=>Cdk L kk a0 a1 o1))) h
def Alz [An A Bool](a0:ByteArray):A:=
 (bd (Ajg L) fun r1=>
 (bd (Mn L r1 a0) fun r2=>
 (lf (decide (r2≥0)))))
def Afq(a0:ByteArray):Option Bool:=Alz L a0
def Chk:Gh:=E1 B 123 cS (Afq L) fun a0 r h=>hF Tryz.func123 (oS [Bsm L,Chx L]) L (fun kk=>eE (Alz L a0)) h
def c70:=CC Tryz.f70
def O70:Bi:=oL [Chj L,Chk L]
def Byq(a0:ByteArray)(v:Cp):St:=⟨[(0,S a0),(2,I v.1),(3,I v.2)],[],0⟩
def W9 [An A B8](a0:ByteArray)(rec:Int→Int→A)(Ag:Int)(Aj:Int):A:=
 (cn (decide (Aj < (a0.size:Int)))
 (cn ((if 0≤Aj then a0[Int.toNat Aj]? else none).isSome)
 (bd (Aa1 L (Eo (if 0≤Aj then a0[Int.toNat Aj]? else none))) fun r6=>
 (jb (.cn (!r6)
 (.cn ((if 0≤Aj then a0[Int.toNat Aj]? else none).isSome)
 (.lf ((Eo (if 0≤Aj then a0[Int.toNat Aj]? else none)) != 95))
 .fl)
 (.lf false)) (fun b7=>
 (jb (.cn b7
 (.cn ((if 0≤Aj then a0[Int.toNat Aj]? else none).isSome)
 (.cn (decide ((Eo (if 0≤Aj then a0[Int.toNat Aj]? else none)) < 48))
 (.lf true)
 (.cn ((if 0≤Aj then a0[Int.toNat Aj]? else none).isSome)
 (.lf (decide ((Eo (if 0≤Aj then a0[Int.toNat Aj]? else none)) > 57)))
 .fl))
 .fl)
 (.lf false)) (fun b8=>
 (cn b8
 (lf (0,3,Aj))
 (rec Ag (Cq (Aj+1)))))))))
 fl)
 (lf (1,Ag,Aj)))
def Oz(L:Nat)(a0:ByteArray):Nat→Int→Int→Option B8
 |0,_,_=>none
 |n+1,Ag,Aj=>W9 L a0 (Oz L a0 n) Ag Aj
theorem Cct(a0:ByteArray):LP (EV (O70 L) L 9 c70.w.l.u.l.l) [0,2,3] [] (Byq a0) [.ret,.exit 0] (fun n v=>Oz L a0 n v.1 v.2) K:=lE (fun _=>rfl) fun n v ih=>eE (W9 L a0 (fun Ag Aj=>re (ih (Ag,Aj))) v.1 v.2)
def Xg [An A Int](L:Nat)(o9:Nat×Cp):A:=
 (sl o9.1 [(lf o9.2.1),
 (lf 0)])
def Bxd:Be:=(Ax 0 (Bk (EV (O70 L) L 9 c70.w.r) (C0 Tryz.prog (RS Tryz.f70) kk)))
theorem Coa(a0:ByteArray)(o9:Nat×Cp):kX [.ret,.exit 0] (Byq a0) (Bxd L kk) o9=ob (Xg L o9) (kQ I kk):=eE (Xg L o9)
def Adb [An A Int](a0:ByteArray)(nx1:A):A:=
 (jp (.cn (decide ((a0.size:Int) < 1))
 (.lf true)
 (.lf (decide ((a0.size:Int) > 24)))) (fun b1=>
 (jb (.cn b1
 (.lf true)
 (.cn ((if 0≤0 then a0[Int.toNat 0]? else none).isSome)
 (.bd (Aa1 L (Eo (if 0≤0 then a0[Int.toNat 0]? else none))) fun r3=>
 (.lf (!r3)))
 .fl)) (fun b2=>
 (jb (.cn b2
 (.lf true)
 (.bd (Afq L a0) fun r5=>
 (.lf r5))) (fun b4=>
 (cn b4
 (lf 3)
 nx1)))))))
def A0z [An A Int](a0:ByteArray):A:=Adb L a0 (bd (Oz L a0 L 0 0) fun o9=>Xg L o9)
def Q0(a0:ByteArray):Option Int:=A0z L a0
def X70:Gh:=E1 I 70 cS (Q0 L) fun a0 r h=>hF Tryz.func70 (C:=O70 L) (oS _) L (fun kk=>eE (Adb L a0 (ho (Cct L (Bxd L kk) a0 L (0,0)) fun o9=>Coa L kk a0 o9))) h
def Ao4 [An A Int](L:Nat)(a0:Bool)(a1:Int):A:=
 (cn a0
 (lf 0)
 (lf a1))
def Co(a0:Bool)(a1:Int):Option Int:=Ao4 L a0 a1
def X71:Gh:=E2 I 71 cB (cI .i64) (Co L) fun a0 a1 r h=>hF Tryz.func71 (oS []) L (fun kk=>eE (Ao4 L a0 a1)) h
def Arh [An A Int](L:Nat)(a0:Int)(a1:Int):A:=
 (cn (a0 != 0)
 (lf a0)
 (lf a1))
def C9(a0:Int)(a1:Int):Option Int:=Arh L a0 a1
def X69:Gh:=E2 I 69 (cI .i64) (cI .i64) (C9 L) fun a0 a1 r h=>hF Tryz.func69 (oS []) L (fun kk=>eE (Arh L a0 a1)) h
def Ari [An A Int](a0:ByteArray)(a1:List ByteArray):A:=
 (bd (Q0 L a0) fun r1=>
 (bd (Mn L a1 a0) fun r2=>
 (bd (Co L (decide (r2 < 0)) 4) fun r3=>
 (bd (C9 L r1 r3) fun r4=>
 (lf r4)))))
def N1(a0:ByteArray)(a1:List ByteArray):Option Int:=Ari L a0 a1
def X73:Gh:=E2 I 73 cS cl9 (N1 L) fun a0 a1 r h=>hF Tryz.func73 (oS [X69 L,X70 L,X71 L,Bsm L]) L (fun kk=>eE (Ari L a0 a1)) h
def Arg [An A Bool](L:Nat)(a0:Int):A:=
 (jp (.cn (a0 == 1)
 (.lf true)
 (.lf (a0 == 2))) (fun b1=>
 (jp (.cn b1
 (.lf true)
 (.lf (a0 == 3))) (fun b2=>
 (lf b2)))))
def Wz(a0:Int):Option Bool:=Arg L a0
def Bz7:Gh:=E1 B 124 (cI .i64) (Wz L) fun a0 r h=>hF Tryz.func124 (oS []) L (fun kk=>eE (Arg L a0)) h
def A49 [An A Bool](L:Nat)(a0:Int):A:=
 (jp (.cn (decide (a0≥(-1000000000000)))
 (.lf (decide (a0≤1000000000000)))
 (.lf false)) (fun b1=>
 (lf b1)))
def Amz(a0:Int):Option Bool:=A49 L a0
def X78:Gh:=E1 B 78 (cI .i64) (Amz L) fun a0 r h=>hF Tryz.func78 (oS []) L (fun kk=>eE (A49 L a0)) h
def Ao5 [An A Bool](L:Nat)(a0:Int)(a1:Int)(a2:Int):A:=
 (jp (.cn (decide (a0≥a1))
 (.lf (decide (a0≤a2)))
 (.lf false)) (fun b1=>
 (lf b1)))
def D2(a0:Int)(a1:Int)(a2:Int):Option Bool:=Ao5 L a0 a1 a2
def X79:Gh:=E3 B 79 (cI .i64) (cI .i64) (cI .i64) (D2 L) fun a0 a1 a2 r h=>hF Tryz.func79 (oS []) L (fun kk=>eE (Ao5 L a0 a1 a2)) h
def Au4 [An A Bool](a0:Int)(a1:Int):A:=
 (cn (a0 == 1)
 (bd (Amz L a1) fun r1=>
 (lf r1))
 (cn (a0 == 2)
 (jp (.cn (a1 == 0)
 (.lf true)
 (.lf (a1 == 1))) (fun b2=>
 (lf b2)))
 (cn (a0 == 3)
 (bd (D2 L a1 0 1000000000) fun r3=>
 (lf r3))
 (lf false))))
def Ul(a0:Int)(a1:Int):Option Bool:=Au4 L a0 a1
def X51:Gh:=E2 B 51 (cI .i64) (cI .i64) (Ul L) fun a0 a1 r h=>hF Tryz.func51 (oS [X78 L,X79 L]) L (fun kk=>eE (Au4 L a0 a1)) h
def Arj [An A Int](a0:Al)(a1:List ByteArray):A:=
 (bd (N1 L a0.Name a1) fun r1=>
 (bd (Wz L a0.Type_) fun r2=>
 (bd (Co L r2 1) fun r3=>
 (bd (C9 L r1 r3) fun r4=>
 (bd (Ul L a0.Type_ a0.N) fun r5=>
 (bd (Co L r5 2) fun r6=>
 (bd (C9 L r4 r6) fun r7=>
 (lf r7))))))))
def Agu(a0:Al)(a1:List ByteArray):Option Int:=Arj L a0 a1
def X72:Gh:=E2 I 72 Bcv cl9 (Agu L) fun a0 a1 r h=>hF Tryz.func72 (oS [X51 L,X69 L,X71 L,X73 L,Bz7 L]) L (fun kk=>eE (Arj L a0 a1)) h
def A8q:=CC Tryz.f126
def A47(L:Nat):Bi:=oL []
def Bhc:(List (List ByteArray))→Prop:=fun x=>kk ((fun(x:List (List ByteArray))=>lv (.t50 x)) x)
def Bqv(a0:Aa)(v:Me):St:=⟨[(0,.any),(1,.loc 1 0),(2,.lst true (.t50 [])),(3,.vw true 9 50 1 10),(4,I v.1),(5,.any),(6,.any),(7,.any),(8,.any)],[(1,(Ae a0)),(9,[.lst true (.t9 v.2),.lst true (.t9 []),.lst true (.t9 []),.lst true (.t9 []),.lst true (.t9 []),.lst true (.t9 []),.lst true (.t9 []),.lst true (.t9 []),.lst true (.t9 []),.lst true (.t9 [])])],0⟩
def Ab1 [An A (Nat×Me)](L:Nat)(a0:Aa)(rec:Int→List ByteArray→A)(Ag:Int)(Z5:List ByteArray):A:=
 (cn (decide (Ag < (a0.Vars.length:Int)))
 (gq (0≤0)
 (gq (0 < ((10:Nat):Int))
 (gi Ag a0.Vars
 (gq ((Z5.length+ [(a0.Vars.getD (Int.toNat Ag) default).Name].length)*16≤140737488355328)
 (gq (Z5.length+ [(a0.Vars.getD (Int.toNat Ag) default).Name].length≤maxLen)
 (gq (0≤0)
 (gq (0 < ((10:Nat):Int))
 (rec (Cq (Ag+1)) (Z5++ [(a0.Vars.getD (Int.toNat Ag) default).Name])))))))))
 (lf (0,Ag,Z5)))
def Ph(L:Nat)(a0:Aa):Nat→Int→List ByteArray→Option (Nat×Me)
 |0,_,_=>none
 |n+1,Ag,Z5=>Ab1 L a0 (Ph L a0 n) Ag Z5
theorem B4b(a0:Aa):LP (EV (A47 L) L 9 A8q.w.l.u.l.l) [0,1,2,3,4,5,6,7,8] [1,9] (Bqv a0) [.exit 0] (fun n v=>Ph L a0 n v.1 v.2) K:=lE (fun _=>rfl) fun n v ih=>eE (Ab1 L a0 (fun Ag Z5=>re (ih (Ag,Z5))) v.1 v.2)
def Bqw(a0:Aa)(o1:Nat×Me)(v:Me):St:=⟨[(0,.any),(1,.loc 1 0),(2,.lst true (.t50 [])),(3,.vw true 9 50 1 10),(4,.any),(5,I v.1),(6,.any),(7,.any),(8,.any)],[(1,(Ae a0)),(9,[.lst true (.t9 o1.2.2),.lst true (.t9 v.2),.lst true (.t9 []),.lst true (.t9 []),.lst true (.t9 []),.lst true (.t9 []),.lst true (.t9 []),.lst true (.t9 []),.lst true (.t9 []),.lst true (.t9 [])])],0⟩
def Ab2 [An A (Nat×Me)](L:Nat)(a0:Aa)(o1:Nat×Me)(rec:Int→List ByteArray→A)(Ct:Int)(Z6:List ByteArray):A:=
 (cn (decide (Ct < (a0.Resources.length:Int)))
 (gq (0≤1)
 (gq (1 < ((10:Nat):Int))
 (gi Ct a0.Resources
 (gq ((Z6.length+ [(a0.Resources.getD (Int.toNat Ct) default).Name].length)*16≤140737488355328)
 (gq (Z6.length+ [(a0.Resources.getD (Int.toNat Ct) default).Name].length≤maxLen)
 (gq (0≤1)
 (gq (1 < ((10:Nat):Int))
 (rec (Cq (Ct+1)) (Z6++ [(a0.Resources.getD (Int.toNat Ct) default).Name])))))))))
 (lf (0,Ct,Z6)))
def Pq(L:Nat)(a0:Aa)(o1:Nat×Me):Nat→Int→List ByteArray→Option (Nat×Me)
 |0,_,_=>none
 |n+1,Ct,Z6=>Ab2 L a0 o1 (Pq L a0 o1 n) Ct Z6
theorem B4c(a0:Aa)(o1:Nat×Me):LP (EV (A47 L) L 9 A8q.w.u.l.u.l.l) [0,1,2,3,4,5,6,7,8] [1,9] (Bqw a0 o1) [.exit 2] (fun n v=>Pq L a0 o1 n v.1 v.2) K:=lE (fun _=>rfl) fun n v ih=>eE (Ab2 L a0 o1 (fun Ct Z6=>re (ih (Ct,Z6))) v.1 v.2)
def Bqx(a0:Aa)(o1:Nat×Me)(o2:Nat×Me)(v:Me):St:=⟨[(0,.any),(1,.loc 1 0),(2,.lst true (.t50 [])),(3,.vw true 9 50 1 10),(4,.any),(5,.any),(6,I v.1),(7,.any),(8,.any)],[(1,(Ae a0)),(9,[.lst true (.t9 o1.2.2),.lst true (.t9 o2.2.2),.lst true (.t9 v.2),.lst true (.t9 []),.lst true (.t9 []),.lst true (.t9 []),.lst true (.t9 []),.lst true (.t9 []),.lst true (.t9 []),.lst true (.t9 [])])],0⟩
def Ab3 [An A (Nat×Me)](L:Nat)(a0:Aa)(o1:Nat×Me)(o2:Nat×Me)(rec:Int→List ByteArray→A)(Jz:Int)(F3:List ByteArray):A:=
 (cn (decide (Jz < (a0.Stores.length:Int)))
 (gq (0≤2)
 (gq (2 < ((10:Nat):Int))
 (gi Jz a0.Stores
 (gq ((F3.length+ [(a0.Stores.getD (Int.toNat Jz) default).Name].length)*16≤140737488355328)
 (gq (F3.length+ [(a0.Stores.getD (Int.toNat Jz) default).Name].length≤maxLen)
 (gq (0≤2)
 (gq (2 < ((10:Nat):Int))
 (rec (Cq (Jz+1)) (F3++ [(a0.Stores.getD (Int.toNat Jz) default).Name])))))))))
 (lf (0,Jz,F3)))
def Pr(L:Nat)(a0:Aa)(o1:Nat×Me)(o2:Nat×Me):Nat→Int→List ByteArray→Option (Nat×Me)
 |0,_,_=>none
 |n+1,Jz,F3=>Ab3 L a0 o1 o2 (Pr L a0 o1 o2 n) Jz F3
theorem B4d(a0:Aa)(o1:Nat×Me)(o2:Nat×Me):LP (EV (A47 L) L 9 A8q.x.l.u.l.l) [0,1,2,3,4,5,6,7,8] [1,9] (Bqx a0 o1 o2) [.exit 4] (fun n v=>Pr L a0 o1 o2 n v.1 v.2) K:=lE (fun _=>rfl) fun n v ih=>eE (Ab3 L a0 o1 o2 (fun Jz F3=>re (ih (Jz,F3))) v.1 v.2)
def Bqy(a0:Aa)(o1:Nat×Me)(o2:Nat×Me)(o3:Nat×Me)(v:Me):St:=⟨[(0,.any),(1,.loc 1 0),(2,.lst true (.t50 [])),(3,.vw true 9 50 1 10),(4,.any),(5,.any),(6,.any),(7,I v.1),(8,.any)],[(1,(Ae a0)),(9,[.lst true (.t9 o1.2.2),.lst true (.t9 o2.2.2),.lst true (.t9 o3.2.2),.lst true (.t9 v.2),.lst true (.t9 []),.lst true (.t9 []),.lst true (.t9 []),.lst true (.t9 []),.lst true (.t9 []),.lst true (.t9 [])])],0⟩
def Ab4 [An A (Nat×Me)](L:Nat)(a0:Aa)(o1:Nat×Me)(o2:Nat×Me)(o3:Nat×Me)(rec:Int→List ByteArray→A)(Kf:Int)(F4:List ByteArray):A:=
 (cn (decide (Kf < (a0.Belts.length:Int)))
 (gq (0≤3)
 (gq (3 < ((10:Nat):Int))
 (gi Kf a0.Belts
 (gq ((F4.length+ [(a0.Belts.getD (Int.toNat Kf) default).Name].length)*16≤140737488355328)
 (gq (F4.length+ [(a0.Belts.getD (Int.toNat Kf) default).Name].length≤maxLen)
 (gq (0≤3)
 (gq (3 < ((10:Nat):Int))
 (rec (Cq (Kf+1)) (F4++ [(a0.Belts.getD (Int.toNat Kf) default).Name])))))))))
 (lf (0,Kf,F4)))
def Ps(L:Nat)(a0:Aa)(o1:Nat×Me)(o2:Nat×Me)(o3:Nat×Me):Nat→Int→List ByteArray→Option (Nat×Me)
 |0,_,_=>none
 |n+1,Kf,F4=>Ab4 L a0 o1 o2 o3 (Ps L a0 o1 o2 o3 n) Kf F4
theorem B4e(a0:Aa)(o1:Nat×Me)(o2:Nat×Me)(o3:Nat×Me):LP (EV (A47 L) L 9 A8q.x.u.l.u.l.l) [0,1,2,3,4,5,6,7,8] [1,9] (Bqy a0 o1 o2 o3) [.exit 6] (fun n v=>Ps L a0 o1 o2 o3 n v.1 v.2) K:=lE (fun _=>rfl) fun n v ih=>eE (Ab4 L a0 o1 o2 o3 (fun Kf F4=>re (ih (Kf,F4))) v.1 v.2)
def Bqz(a0:Aa)(o1:Nat×Me)(o2:Nat×Me)(o3:Nat×Me)(o4:Nat×Me)(v:Me):St:=⟨[(0,.any),(1,.loc 1 0),(2,.lst true (.t50 [])),(3,.vw true 9 50 1 10),(4,.any),(5,.any),(6,.any),(7,.any),(8,I v.1)],[(1,(Ae a0)),(9,[.lst true (.t9 o1.2.2),.lst true (.t9 o2.2.2),.lst true (.t9 o3.2.2),.lst true (.t9 o4.2.2),lv (.t9 a0.Queues),lv (.t9 a0.Streams),lv (.t9 a0.Tallies),lv (.t9 a0.Levels),lv (.t9 a0.Counts),.lst true (.t9 v.2)])],0⟩
def Ab5 [An A (Nat×Me)](L:Nat)(a0:Aa)(o1:Nat×Me)(o2:Nat×Me)(o3:Nat×Me)(o4:Nat×Me)(rec:Int→List ByteArray→A)(A8i:Int)(Z7:List ByteArray):A:=
 (cn (decide (A8i < (a0.Routines.length:Int)))
 (gq (0≤9)
 (gq (9 < ((10:Nat):Int))
 (gi A8i a0.Routines
 (gq ((Z7.length+ [(a0.Routines.getD (Int.toNat A8i) default).Name].length)*16≤140737488355328)
 (gq (Z7.length+ [(a0.Routines.getD (Int.toNat A8i) default).Name].length≤maxLen)
 (gq (0≤9)
 (gq (9 < ((10:Nat):Int))
 (rec (Cq (A8i+1)) (Z7++ [(a0.Routines.getD (Int.toNat A8i) default).Name])))))))))
 (lf (0,A8i,Z7)))
def Pt(L:Nat)(a0:Aa)(o1:Nat×Me)(o2:Nat×Me)(o3:Nat×Me)(o4:Nat×Me):Nat→Int→List ByteArray→Option (Nat×Me)
 |0,_,_=>none
 |n+1,A8i,Z7=>Ab5 L a0 o1 o2 o3 o4 (Pt L a0 o1 o2 o3 o4 n) A8i Z7
theorem B4f(a0:Aa)(o1:Nat×Me)(o2:Nat×Me)(o3:Nat×Me)(o4:Nat×Me):LP (EV (A47 L) L 9 A8q.x.x.w.u.l.u.l.l) [0,1,2,3,4,5,6,7,8] [1,9] (Bqz a0 o1 o2 o3 o4) [.exit 8] (fun n v=>Pt L a0 o1 o2 o3 o4 n v.1 v.2) K:=lE (fun _=>rfl) fun n v ih=>eE (Ab5 L a0 o1 o2 o3 o4 (fun A8i Z7=>re (ih (A8i,Z7))) v.1 v.2)
def Xu [An A (List (List ByteArray))](L:Nat)(o1:Nat×Me)(o2:Nat×Me)(o3:Nat×Me)(o4:Nat×Me)(a0:Aa)(o5:Nat×Me):A:=
 (sl o5.1 [(lf [o1.2.2,o2.2.2,o3.2.2,o4.2.2,a0.Queues,a0.Streams,a0.Tallies,a0.Levels,a0.Counts,o5.2.2])])
def Bne:Be:=(Ax 8 (Bk (EV (A47 L) L 9 A8q.x.x.w.u.r) (C0 Tryz.prog (RS Tryz.f126) kk)))
theorem Cdp(a0:Aa)(o1:Nat×Me)(o2:Nat×Me)(o3:Nat×Me)(o4:Nat×Me)(o5:Nat×Me):kX [.exit 8] (Bqz a0 o1 o2 o3 o4) (Bne L kk) o5=ob (Xu L o1 o2 o3 o4 a0 o5) (Bhc kk):=eE (Xu L o1 o2 o3 o4 a0 o5)
def Adj [An A (List (List ByteArray))](L:Nat)(o1:Nat×Me)(o2:Nat×Me)(o3:Nat×Me)(a0:Aa)(o4:Nat×Me)(nx5:(Nat×Me)→(Nat×Me)→(Nat×Me)→(Nat×Me)→A):A:=
 (sl o4.1 [(gq (0≤4)
 (gq (4 < ((10:Nat):Int))
 (gq (0≤5)
 (gq (5 < ((10:Nat):Int))
 (gq (0≤6)
 (gq (6 < ((10:Nat):Int))
 (gq (0≤7)
 (gq (7 < ((10:Nat):Int))
 (gq (0≤8)
 (gq (8 < ((10:Nat):Int))
 (nx5 o1 o2 o3 o4)))))))))))])
def Acu [An A (List (List ByteArray))](o1:Nat×Me)(o2:Nat×Me)(o3:Nat×Me)(a0:Aa)(o4:Nat×Me):A:=Adj L o1 o2 o3 a0 o4 (fun o1 o2 o3 o4=>bd (Pt L a0 o1 o2 o3 o4 L 0 []) fun o5=>Xu L o1 o2 o3 o4 a0 o5)
def Bnd:Be:=(Ax 6 (Bk (EV (A47 L) L 9 A8q.x.u.r) (C0 Tryz.prog (RS Tryz.f126) kk)))
theorem Cdo(a0:Aa)(o1:Nat×Me)(o2:Nat×Me)(o3:Nat×Me)(o4:Nat×Me):kX [.exit 6] (Bqy a0 o1 o2 o3) (Bnd L kk) o4=ob (Acu L o1 o2 o3 a0 o4) (Bhc kk):=eE (Adj L o1 o2 o3 a0 o4 (fun o1 o2 o3 o4=>ho (B4f L (Bne L kk) a0 o1 o2 o3 o4 L (0,[])) fun o5=>Cdp L kk a0 o1 o2 o3 o4 o5))
def Adi [An A (List (List ByteArray))](L:Nat)(o1:Nat×Me)(o2:Nat×Me)(a0:Aa)(o3:Nat×Me)(nx4:(Nat×Me)→(Nat×Me)→(Nat×Me)→A):A:=
 (sl o3.1 [(nx4 o1 o2 o3)])
def Acs [An A (List (List ByteArray))](o1:Nat×Me)(o2:Nat×Me)(a0:Aa)(o3:Nat×Me):A:=Adi L o1 o2 a0 o3 (fun o1 o2 o3=>bd (Ps L a0 o1 o2 o3 L 0 []) fun o4=>Acu L o1 o2 o3 a0 o4)
def Bnc:Be:=(Ax 4 (Bk (EV (A47 L) L 9 A8q.x.r) (C0 Tryz.prog (RS Tryz.f126) kk)))
theorem Cdn(a0:Aa)(o1:Nat×Me)(o2:Nat×Me)(o3:Nat×Me):kX [.exit 4] (Bqx a0 o1 o2) (Bnc L kk) o3=ob (Acs L o1 o2 a0 o3) (Bhc kk):=eE (Adi L o1 o2 a0 o3 (fun o1 o2 o3=>ho (B4e L (Bnd L kk) a0 o1 o2 o3 L (0,[])) fun o4=>Cdo L kk a0 o1 o2 o3 o4))
def Adh [An A (List (List ByteArray))](L:Nat)(o1:Nat×Me)(a0:Aa)(o2:Nat×Me)(nx3:(Nat×Me)→(Nat×Me)→A):A:=
 (sl o2.1 [(nx3 o1 o2)])
def Acr [An A (List (List ByteArray))](o1:Nat×Me)(a0:Aa)(o2:Nat×Me):A:=Adh L o1 a0 o2 (fun o1 o2=>bd (Pr L a0 o1 o2 L 0 []) fun o3=>Acs L o1 o2 a0 o3)
def Bnb:Be:=(Ax 2 (Bk (EV (A47 L) L 9 A8q.w.u.r) (C0 Tryz.prog (RS Tryz.f126) kk)))
theorem Cdm(a0:Aa)(o1:Nat×Me)(o2:Nat×Me):kX [.exit 2] (Bqw a0 o1) (Bnb L kk) o2=ob (Acr L o1 a0 o2) (Bhc kk):=eE (Adh L o1 a0 o2 (fun o1 o2=>ho (B4d L (Bnc L kk) a0 o1 o2 L (0,[])) fun o3=>Cdn L kk a0 o1 o2 o3))
def Adg [An A (List (List ByteArray))](L:Nat)(a0:Aa)(o1:Nat×Me)(nx2:(Nat×Me)→A):A:=
 (sl o1.1 [(nx2 o1)])
def Acq [An A (List (List ByteArray))](a0:Aa)(o1:Nat×Me):A:=Adg L a0 o1 (fun o1=>bd (Pq L a0 o1 L 0 []) fun o2=>Acr L o1 a0 o2)
def Bna:Be:=(Ax 0 (Bk (EV (A47 L) L 9 A8q.w.r) (C0 Tryz.prog (RS Tryz.f126) kk)))
theorem Cdl(a0:Aa)(o1:Nat×Me):kX [.exit 0] (Bqv a0) (Bna L kk) o1=ob (Acq L a0 o1) (Bhc kk):=eE (Adg L a0 o1 (fun o1=>ho (B4c L (Bnb L kk) a0 o1 L (0,[])) fun o2=>Cdm L kk a0 o1 o2))
def A06 [An A (List (List ByteArray))](a0:Aa):A:=(bd (Ph L a0 L 0 []) fun o1=>Acq L a0 o1)
def Aam(a0:Aa):Option (List (List ByteArray)):=A06 L a0
def Bz8:Gh:=E1 (fun(x:List (List ByteArray))=>lv (.t50 x)) 126 C3 (Aam L) fun a0 r h=>hF Tryz.func126 (C:=A47 L) (oS _) L (fun kk=>eE ((ho (B4b L (Bna L kk) a0 L (0,[])) fun o1=>Cdl L kk a0 o1))) h
def Ckr:=CC Tryz.f188
def B86:Bi:=oL [X71 L,X79 L]
def Brr(a0:Af)(v:Cp):St:=⟨[(0,.any),(1,.loc 1 0),(2,I v.1),(3,I v.2)],[(1,(Bq a0))],0⟩
def V7 [An A B8](a0:Af)(rec:Int→Int→A)(Ao:Int)(Ag:Int):A:=
 (lw Ag a0.Shift
 (bd (D2 L ((a0.Shift.getD (Int.toNat Ag) default).At) 0 (Cq (a0.Cycle - 1))) fun r3=>
 (jb (.cn (!r3)
 (.lf true)
 (.bd (D2 L ((a0.Shift.getD (Int.toNat Ag) default).Units) 0 1000) fun r5=>
 (.lf (!r5)))) (fun b4=>
 (cn b4
 (lf (0,2,Ag))
 (cn (decide (Ag > 0))
 (gi (Cq (Ag - 1)) a0.Shift
 (cn (decide ((a0.Shift.getD (Int.toNat Ag) default).At≤(a0.Shift.getD (Int.toNat (Cq (Ag - 1))) default).At))
 (lf (0,12,Ag))
 (rec Ao (Cq (Ag+1)))))
 (rec Ao (Cq (Ag+1))))))))
 (lf (1,Ao,Ag)))
def Jo(L:Nat)(a0:Af):Nat→Int→Int→Option B8
 |0,_,_=>none
 |n+1,Ao,Ag=>V7 L a0 (Jo L a0 n) Ao Ag
theorem B47(a0:Af):LP (EV (B86 L) L 9 Ckr.x.l.u.l.l) [0,1,2,3] [1] (Brr a0) [.ret,.exit 0] (fun n v=>Jo L a0 n v.1 v.2) K:=lE (fun _=>rfl) fun n v ih=>eE (V7 L a0 (fun Ao Ag=>re (ih (Ao,Ag))) v.1 v.2)
def Ry [An A Int](L:Nat)(o6:Nat×Cp):A:=
 (sl o6.1 [(lf o6.2.1),
 (lf 0)])
def Bog:Be:=(Ax 0 (Bk (EV (B86 L) L 9 Ckr.x.r) (C0 Tryz.prog (RS Tryz.f188) kk)))
theorem Cer(a0:Af)(o6:Nat×Cp):kX [.ret,.exit 0] (Brr a0) (Bog L kk) o6=ob (Ry L o6) (kQ I kk):=eE (Ry L o6)
def Wj [An A Int](a0:Af)(nx1:A):A:=
 (cn ((a0.Shift.length:Int) == 0)
 (bd (Co L (a0.Cycle == 0) 1) fun r1=>
 (lf r1))
 (cn (decide ((a0.Shift.length:Int) > 20))
 (lf 6)
 (bd (D2 L a0.Cycle 1 1000000000) fun r2=>
 (cn (!r2)
 (lf 2)
 nx1))))
def Arf [An A Int](a0:Af):A:=Wj L a0 (bd (Jo L a0 L 0 0) fun o6=>Ry L o6)
def Aa3(a0:Af):Option Int:=Arf L a0
def Cib:Gh:=E1 I 188 f7 (Aa3 L) fun a0 r h=>hF Tryz.func188 (C:=B86 L) (oS _) L (fun kk=>eE (Wj L a0 (ho (B47 L (Bog L kk) a0 L (0,0)) fun o6=>Cer L kk a0 o6))) h
def Ckz:=CC Tryz.f207
def B9c(L:Nat):Bi:=oL []
def Br0(a0:List Int)(a1:List Int)(v:Bool×Int):St:=⟨[(0,lv (.t3 a0)),(1,lv (.t3 a1)),(4,B v.1),(5,I v.2)],[],0⟩
def V6 [An A (Nat×Bool×Int)](L:Nat)(a0:List Int)(a1:List Int)(rec:Bool→Int→A)(Aj:Bool)(Ai:Int):A:=
 (lw Ai a0
 (gi Ai a1
 (cn ((a0.getD (Int.toNat Ai) default) != (a1.getD (Int.toNat Ai) default))
 (lf (0,false,Ai))
 (rec Aj (Cq (Ai+1)))))
 (lf (1,Aj,Ai)))
def Jn(L:Nat)(a0:List Int)(a1:List Int):Nat→Bool→Int→Option (Nat×Bool×Int)
 |0,_,_=>none
 |n+1,Aj,Ai=>V6 L a0 a1 (Jn L a0 a1 n) Aj Ai
theorem B5g(a0:List Int)(a1:List Int):LP (EV (B9c L) L 9 Ckz.w.l.u.l.l) [0,1,4,5] [] (Br0 a0 a1) [.ret,.exit 0] (fun n v=>Jn L a0 a1 n v.1 v.2) K:=lE (fun _=>rfl) fun n v ih=>eE (V6 L a0 a1 (fun Aj Ai=>re (ih (Aj,Ai))) v.1 v.2)
def Rx [An A Bool](L:Nat)(o1:Nat×Bool×Int):A:=
 (sl o1.1 [(lf o1.2.1),
 (lf true)])
def Bo0:Be:=(Ax 0 (Bk (EV (B9c L) L 9 Ckz.w.r) (C0 Tryz.prog (RS Tryz.f207) kk)))
theorem Cfa(a0:List Int)(a1:List Int)(o1:Nat×Bool×Int):kX [.ret,.exit 0] (Br0 a0 a1) (Bo0 L kk) o1=ob (Rx L o1) (kQ B kk):=eE (Rx L o1)
def Wi [An A Bool](L:Nat)(a0:List Int)(a1:List Int)(nx1:A):A:=
 (cn ((a0.length:Int) != (a1.length:Int))
 (lf false)
 nx1)
def Aq9 [An A Bool](a0:List Int)(a1:List Int):A:=Wi L a0 a1 (bd (Jn L a0 a1 L false 0) fun o1=>Rx L o1)
def Wx(a0:List Int)(a1:List Int):Option Bool:=Aq9 L a0 a1
def Cik:Gh:=E2 B 207 cl3 cl3 (Wx L) fun a0 a1 r h=>hF Tryz.func207 (C:=B9c L) (oS _) L (fun kk=>eE (Wi L a0 a1 (ho (B5g L (Bo0 L kk) a0 a1 L (false,0)) fun o1=>Cfa L kk a0 a1 o1))) h
def Au1 [An A Bool](a0:Bj)(a1:Bj):A:=
 (jp (.cn (a0.Op == a1.Op)
 (.lf (a0.A == a1.A))
 (.lf false)) (fun b1=>
 (jp (.cn b1
 (.lf (a0.B == a1.B))
 (.lf false)) (fun b2=>
 (jp (.cn b2
 (.lf (a0.N == a1.N))
 (.lf false)) (fun b3=>
 (jb (.cn b3
 (.bd (Wx L a0.Values a1.Values) fun r5=>
 (.lf r5))
 (.lf false)) (fun b4=>
 (jb (.cn b4
 (.bd (Wx L a0.Weights a1.Weights) fun r7=>
 (.lf r7))
 (.lf false)) (fun b6=>
 (lf b6)))))))))))
def Ad4(a0:Bj)(a1:Bj):Option Bool:=Au1 L a0 a1
def B9z:Gh:=E2 B 189 Rn Rn (Ad4 L) fun a0 a1 r h=>hF Tryz.func189 (oS [Cik L]) L (fun kk=>eE (Au1 L a0 a1)) h
def Ao0 [An A Bool](L:Nat)(a0:Bj):A:=
 (jp (.cn ((a0.Values.length:Int) == 0)
 (.lf ((a0.Weights.length:Int) == 0))
 (.lf false)) (fun b1=>
 (cn (a0.Op == 1)
 (jp (.cn (a0.B == 0)
 (.lf (a0.N == 0))
 (.lf false)) (fun b2=>
 (jp (.cn b2
 (.lf b1)
 (.lf false)) (fun b3=>
 (lf b3)))))
 (cn (a0.Op == 2)
 (cn (a0.Op == 2)
 (jp (.cn (a0.N == 0)
 (.lf b1)
 (.lf false)) (fun b4=>
 (lf b4)))
 (cn (a0.Op == 3)
 (jp (.cn (a0.A == 0)
 (.lf (a0.B == 0))
 (.lf false)) (fun b5=>
 (jp (.cn b5
 (.lf (a0.N == 0))
 (.lf false)) (fun b6=>
 (lf b6)))))
 (cn (a0.Op == 4)
 (lf b1)
 (lf false))))
 (cn (a0.Op == 5)
 (jp (.cn (a0.N == 0)
 (.lf b1)
 (.lf false)) (fun b7=>
 (lf b7)))
 (cn (a0.Op == 3)
 (jp (.cn (a0.A == 0)
 (.lf (a0.B == 0))
 (.lf false)) (fun b8=>
 (jp (.cn b8
 (.lf (a0.N == 0))
 (.lf false)) (fun b9=>
 (lf b9)))))
 (cn (a0.Op == 4)
 (lf b1)
 (lf false))))))))
def Aih(a0:Bj):Option Bool:=Ao0 L a0
def Cil:Gh:=E1 B 208 Rn (Aih L) fun a0 r h=>hF Tryz.func208 (oS []) L (fun kk=>eE (Ao0 L a0)) h
def Aly [An A Bool](L:Nat)(a0:Int)(a1:Int)(a2:Int):A:=
 (jp (.cn (decide (a0≥a1))
 (.lf (decide (a0≤a2)))
 (.lf false)) (fun b1=>
 (lf b1)))
def Gt(a0:Int)(a1:Int)(a2:Int):Option Bool:=Aly L a0 a1 a2
def B93:Gh:=E3 B 209 (cI .i64) (cI .i64) (cI .i64) (Gt L) fun a0 a1 a2 r h=>hF Tryz.func209 (oS []) L (fun kk=>eE (Aly L a0 a1 a2)) h
def Ck0:=CC Tryz.f210
def B9d:Bi:=oL [B93 L]
def Br1(a0:Bj)(v:Cp):St:=⟨[(0,.any),(1,.loc 1 0),(2,I v.1),(3,I v.2)],[(1,(Ur a0))],0⟩
def Abu [An A B8](a0:Bj)(rec:Int→Int→A)(Ao:Int)(Ag:Int):A:=
 (lw Ag a0.Values
 (bd (Gt L (a0.Values.getD (Int.toNat Ag) default) 0 1000000000) fun r1=>
 (jb (.cn (!r1)
 (.lf true)
 (.gq (0≤Ag)
 (.gq (Ag < (a0.Weights.length:Int))
 (.bd (Gt L (a0.Weights.getD (Int.toNat Ag) default) 1 1000) fun r3=>
 (.lf (!r3)))))) (fun b2=>
 (cn b2
 (lf (0,2,Ag))
 (rec Ao (Cq (Ag+1)))))))
 (lf (1,Ao,Ag)))
def Oy(L:Nat)(a0:Bj):Nat→Int→Int→Option B8
 |0,_,_=>none
 |n+1,Ao,Ag=>Abu L a0 (Oy L a0 n) Ao Ag
theorem B5h(a0:Bj):LP (EV (B9d L) L 9 Ck0.x.l.u.l.l) [0,1,2,3] [1] (Br1 a0) [.ret,.exit 0] (fun n v=>Oy L a0 n v.1 v.2) K:=lE (fun _=>rfl) fun n v ih=>eE (Abu L a0 (fun Ao Ag=>re (ih (Ao,Ag))) v.1 v.2)
def Xf [An A Int](L:Nat)(o4:Nat×Cp):A:=
 (sl o4.1 [(lf o4.2.1),
 (lf 0)])
def Bo1:Be:=(Ax 0 (Bk (EV (B9d L) L 9 Ck0.x.r) (C0 Tryz.prog (RS Tryz.f210) kk)))
theorem Cfb(a0:Bj)(o4:Nat×Cp):kX [.ret,.exit 0] (Br1 a0) (Bo1 L kk) o4=ob (Xf L o4) (kQ I kk):=eE (Xf L o4)
def Ada [An A Int](L:Nat)(a0:Bj)(nx1:A):A:=
 (cn ((a0.Values.length:Int) != (a0.Weights.length:Int))
 (lf 8)
 (cn ((a0.Values.length:Int) == 0)
 (lf 7)
 (cn (decide ((a0.Values.length:Int) > 20))
 (lf 6)
 nx1)))
def A0y [An A Int](a0:Bj):A:=Ada L a0 (bd (Oy L a0 L 0 0) fun o4=>Xf L o4)
def Akv(a0:Bj):Option Int:=A0y L a0
def Cim:Gh:=E1 I 210 Rn (Akv L) fun a0 r h=>hF Tryz.func210 (C:=B9d L) (oS _) L (fun kk=>eE (Ada L a0 (ho (B5h L (Bo1 L kk) a0 L (0,0)) fun o4=>Cfb L kk a0 o4))) h
def Aq8 [An A Int](a0:Bj):A:=
 (bd (Aih L a0) fun r1=>
 (cn (!r1)
 (lf 1)
 (cn (a0.Op == 1)
 (bd (Gt L a0.A 0 1000000000) fun r2=>
 (cn (!r2)
 (lf 2)
 (lf 0)))
 (cn (a0.Op == 2)
 (bd (Gt L a0.A 0 a0.B) fun r3=>
 (jp (.cn r3
 (.lf (decide (a0.B≤1000000000)))
 (.lf false)) (fun b4=>
 (cn (!b4)
 (lf 2)
 (lf 0)))))
 (cn (a0.Op == 3)
 (bd (Akv L a0) fun r5=>
 (lf r5))
 (cn (a0.Op == 4)
 (bd (Gt L a0.N 1 20) fun r6=>
 (jb (.cn r6
 (.bd (Gt L a0.A 0 a0.B) fun r8=>
 (.lf r8))
 (.lf false)) (fun b7=>
 (jp (.cn b7
 (.lf (decide (a0.B≤1000000)))
 (.lf false)) (fun b9=>
 (cn (!b9)
 (lf 2)
 (lf 0)))))))
 (cn (a0.Op == 5)
 (bd (Gt L a0.A 1 1000) fun r10=>
 (jb (.cn r10
 (.bd (Gt L a0.B 1 1000) fun r12=>
 (.lf r12))
 (.lf false)) (fun b11=>
 (cn (!b11)
 (lf 2)
 (lf 0)))))
 (lf 0))))))))
def Aal(a0:Bj):Option Int:=Aq8 L a0
def B90:Gh:=E1 I 190 Rn (Aal L) fun a0 r h=>hF Tryz.func190 (oS [Cil L,B93 L,Cim L]) L (fun kk=>eE (Aq8 L a0)) h
def Ajo [An A Int](a0:Aa)(a1:Af):A:=
 (bd (D2 L a1.Units 0 1000) fun r1=>
 (bd (Co L r1 2) fun r2=>
 (bd (Aa3 L a1) fun r3=>
 (bd (C9 L r2 r3) fun r4=>
 (cn (r4 != 0)
 (lf r4)
 (cn (a1.Fault.Stream.toList == (⟨#[]⟩:ByteArray).toList)
 (bd (Ad4 L a1.Fault.Up (⟨0,0,0,0,[],[]⟩:Bj)) fun r5=>
 (cn r5
 (jb (.bd (Ad4 L a1.Fault.Down (⟨0,0,0,0,[],[]⟩:Bj)) fun r7=>
 (.lf r7)) (fun b6=>
 (bd (Co L b6 1) fun r8=>
 (lf r8))))
 (nq (bd (Co L false 1) fun r9=>
 (lf r9)))))
 (bd (Mn L a0.Streams a1.Fault.Stream) fun r10=>
 (cn (decide (r10 < 0))
 (lf 5)
 (bd (Aal L a1.Fault.Up) fun r11=>
 (bd (Aal L a1.Fault.Down) fun r12=>
 (bd (C9 L r11 r12) fun r13=>
 (lf r13))))))))))))
def W0(a0:Aa)(a1:Af):Option Int:=Ajo L a0 a1
def Chy:Gh:=E2 I 160 C3 f7 (W0 L) fun a0 a1 r h=>hF Tryz.func160 (oS [X69 L,X71 L,X79 L,Bsm L,Cib L,B9z L,B90 L]) L (fun kk=>eE (Ajo L a0 a1)) h
def Blw(F:(List Ac)→Option Int):Prop:=∀y0 r,F y0=some r→Ho Tryz.prog 131 [Aae.en y0] I r
def Cj7:=CC Tryz.f131
def B8s(F1:(List Ac)→Option Int)(L:Nat):Bi:=(orc 131 (A1 I Aae F1) (oL []))
theorem Cq6(F1:(List Ac)→Option Int)(Bvz:Blw F1)(L:Nat):Er Tryz.prog (B8s F1 L):=(Hk (a1 _ Bvz) (oS []))
def Bq3(a0:List Ac)(v:Cp):St:=⟨[(0,lv (.t99 a0)),(2,I 0),(3,I v.1),(4,I v.2)],[],0⟩
def Abx [An A B8](F1:(List Ac)→Option Int)(L:Nat)(a0:List Ac)(rec:Int→Int→A)(Aj:Int)(Ai:Int):A:=
 (lw Ai a0
 (bd (F1 ((a0.getD (Int.toNat Ai) default).Body)) fun r1=>
 (gi Ai a0
 (bd (F1 ((a0.getD (Int.toNat Ai) default).Else)) fun r2=>
 (rec (Cq ((Cq ((Cq (Aj+1))+r1))+r2)) (Cq (Ai+1))))))
 (lf (0,Aj,Ai)))
def O2(F1:(List Ac)→Option Int)(L:Nat)(a0:List Ac):Nat→Int→Int→Option B8
 |0,_,_=>none
 |n+1,Aj,Ai=>Abx F1 L a0 (O2 F1 L a0 n) Aj Ai
theorem B4j(F1:(List Ac)→Option Int)(L:Nat)(K:Be)(a0:List Ac):LP (EV (B8s F1 L) L 9 Cj7.w.l.u.l.l) [0,2,3,4] [] (Bq3 a0) [.exit 0] (fun n v=>O2 F1 L a0 n v.1 v.2) K:=lE (fun _=>rfl) fun n v ih=>eE (Abx F1 L a0 (fun Aj Ai=>re (ih (Aj,Ai))) v.1 v.2)
def Xj [An A Int](F1:(List Ac)→Option Int)(L:Nat)(o3:Nat×Cp):A:=
 (sl o3.1 [(lf o3.2.1)])
def Bni(F1:(List Ac)→Option Int)(L:Nat)(kk:Dm):Be:=(Ax 0 (Bk (EV (B8s F1 L) L 9 Cj7.w.r) (C0 Tryz.prog (RS Tryz.f131) kk)))
theorem Cdt(F1:(List Ac)→Option Int)(L:Nat)(kk:Dm)(a0:List Ac)(o3:Nat×Cp):kX [.exit 0] (Bq3 a0) (Bni F1 L kk) o3=ob (Xj F1 L o3) (kQ I kk):=eE (Xj F1 L o3)
def A02 [An A Int](F1:(List Ac)→Option Int)(L:Nat)(a0:List Ac):A:=(bd (O2 F1 L a0 L 0 0) fun o3=>Xj F1 L o3)
def Aq0(F1:(List Ac)→Option Int)(L:Nat)(a0:List Ac):Option Int:=A02 F1 L a0
theorem Cpq(F1:(List Ac)→Option Int)(Bvz:Blw F1)(L:Nat):Blw (Aq0 F1 L):=fun a0 r h=>hF Tryz.func131 (Cq6 F1 Bvz L) L (fun kk=>eE ((ho (B4j F1 L (Bni F1 L kk) a0 L (0,0)) fun o3=>Cdt F1 L kk a0 o3))) h
def Rc:Nat→(List Ac)→Option Int
 |0,_=>none
 |L+1,a0=>Aq0 (Rc L) L a0
theorem B2l(L:Nat):Blw (Rc L):=by
 induction L with
 |zero=>exact fun _ _ h=>(by cases h)
 |succ L ih=>
  have i131:=ih
  exact Cpq (Rc L) i131 L
def Cho(L:Nat):Gh:=E1 I 131 Aae (Rc L) (B2l L)
def Blx(F:(List Ac)→Option Int):Prop:=∀y0 r,F y0=some r→Ho Tryz.prog 132 [Aae.en y0] I r
def Cj8:=CC Tryz.f132
def B8t(F2:(List Ac)→Option Int)(L:Nat):Bi:=(orc 132 (A1 I Aae F2) (oL []))
theorem Cq7(F2:(List Ac)→Option Int)(Bv0:Blx F2)(L:Nat):Er Tryz.prog (B8t F2 L):=(Hk (a1 _ Bv0) (oS []))
def Bq4(a0:List Ac)(v:Cp):St:=⟨[(0,lv (.t99 a0)),(2,I 0),(3,I v.1),(4,I v.2)],[],0⟩
def Aby [An A B8](F2:(List Ac)→Option Int)(L:Nat)(a0:List Ac)(rec:Int→Int→A)(Aj:Int)(Ai:Int):A:=
 (lw Ai a0
 (bd (F2 ((a0.getD (Int.toNat Ai) default).Body)) fun r1=>
 (gi Ai a0
 (bd (F2 ((a0.getD (Int.toNat Ai) default).Else)) fun r2=>
 (rec (if (Cq (1+r2)) > (if (Cq (1+r1)) > Aj then (Cq (1+r1)) else Aj) then (Cq (1+r2)) else (if (Cq (1+r1)) > Aj then (Cq (1+r1)) else Aj)) (Cq (Ai+1))))))
 (lf (0,Aj,Ai)))
def O3(F2:(List Ac)→Option Int)(L:Nat)(a0:List Ac):Nat→Int→Int→Option B8
 |0,_,_=>none
 |n+1,Aj,Ai=>Aby F2 L a0 (O3 F2 L a0 n) Aj Ai
theorem B4k(F2:(List Ac)→Option Int)(L:Nat)(K:Be)(a0:List Ac):LP (EV (B8t F2 L) L 9 Cj8.w.l.u.l.l) [0,2,3,4] [] (Bq4 a0) [.exit 0] (fun n v=>O3 F2 L a0 n v.1 v.2) K:=lE (fun _=>rfl) fun n v ih=>eE (Aby F2 L a0 (fun Aj Ai=>re (ih (Aj,Ai))) v.1 v.2)
def Xk [An A Int](F2:(List Ac)→Option Int)(L:Nat)(o3:Nat×Cp):A:=
 (sl o3.1 [(lf o3.2.1)])
def Bnj(F2:(List Ac)→Option Int)(L:Nat)(kk:Dm):Be:=(Ax 0 (Bk (EV (B8t F2 L) L 9 Cj8.w.r) (C0 Tryz.prog (RS Tryz.f132) kk)))
theorem Cdu(F2:(List Ac)→Option Int)(L:Nat)(kk:Dm)(a0:List Ac)(o3:Nat×Cp):kX [.exit 0] (Bq4 a0) (Bnj F2 L kk) o3=ob (Xk F2 L o3) (kQ I kk):=eE (Xk F2 L o3)
def A03 [An A Int](F2:(List Ac)→Option Int)(L:Nat)(a0:List Ac):A:=(bd (O3 F2 L a0 L 0 0) fun o3=>Xk F2 L o3)
def Aq1(F2:(List Ac)→Option Int)(L:Nat)(a0:List Ac):Option Int:=A03 F2 L a0
theorem Cpr(F2:(List Ac)→Option Int)(Bv0:Blx F2)(L:Nat):Blx (Aq1 F2 L):=fun a0 r h=>hF Tryz.func132 (Cq7 F2 Bv0 L) L (fun kk=>eE ((ho (B4k F2 L (Bnj F2 L kk) a0 L (0,0)) fun o3=>Cdu F2 L kk a0 o3))) h
def Re:Nat→(List Ac)→Option Int
 |0,_=>none
 |L+1,a0=>Aq1 (Re L) L a0
theorem B2m(L:Nat):Blx (Re L):=by
 induction L with
 |zero=>exact fun _ _ h=>(by cases h)
 |succ L ih=>
  have i132:=ih
  exact Cpr (Re L) i132 L
def Chp(L:Nat):Gh:=E1 I 132 Aae (Re L) (B2m L)
def Ajx:=CC Tryz.f191
def Auz(L:Nat):Bi:=oL []
def Ba6:(Cn×Bool)→Prop:=fun x=>kk ((fun(x:Cn×Bool)=> .tup [.agg (Aed x.1),B x.2]) x)
def Bqj:St:=⟨[(2,.loc 2 0),(3,B false)],[(2,[B false,B false,B false,B false,B false,B false,B false,B false,B false])],0⟩
def Bp4(L:Nat)(kk:Dm):Be:=(C0 Tryz.prog (RS Tryz.f191) kk)
def Alp [An A (Cn×Bool)](L:Nat):A:=
 (lf ((⟨false,false,false,false,false,false,false,false,false⟩:Cn),false))
theorem B05:EV (Auz L) L 9 Ajx.w (Bqj) (Bp4 L kk)=ob (Alp L) (Ba6 kk):=eE (Alp L)
def A4r(a0:Int)(p803_2:Bool):St:=⟨[(2,.loc 2 0),(3,B false),(4,I a0),(32,B p803_2)],[(2,[B false,B false,B false,B false,B false,B false,B false,B false,B false])],0⟩
def A38(e0:EC):Be:=(Ax 0 (Bk (EV (Auz L) L 9 e0) (C0 Tryz.prog (RS Tryz.f191) kk)))
def sx_R10_Of_3 [An A (Cn×Bool)](L:Nat)(a0:Int)(p803_2:Bool)(nx1:A):A:=
 (cn p803_2
 (lf ((⟨true,false,false,false,false,false,false,false,false⟩:Cn),true))
 (cn (a0 == 13)
 (lf ((⟨true,true,true,false,true,false,false,false,false⟩:Cn),true))
 (cn (a0 == 14)
 (lf ((⟨true,false,true,false,true,false,false,false,false⟩:Cn),true))
 (cn (a0 == 18)
 (lf ((⟨false,false,false,false,false,false,false,false,false⟩:Cn),true))
 nx1))))
def Ate [An A (Cn×Bool)](a0:Int)(p803_2:Bool):A:=sx_R10_Of_3 L a0 p803_2 (Alp L)
theorem B1y(a0:Int)(p803_2:Bool)(z1:EC):EV (Auz L) L 9 Ajx.u.l.u.l.x.x.w.u.r (A4r a0 p803_2) (A38 L kk (EC.put (rl [1]) z1 Ajx.u.r))= @sx_R10_Of_3 Prop (anP (Ba6 kk)) L a0 p803_2 (EV (Auz L) L 9 z1 (Bqj) (Bp4 L kk)):=by kernel_rfl
theorem B07(a0:Int)(p803_2:Bool):EV (Auz L) L 9 Ajx.u.l.u.l.x.x.w.u.r (A4r a0 p803_2) (A38 L kk Ajx.u.r)=ob (Ate L a0 p803_2) (Ba6 kk):=Eq.trans (b:=EV (Auz L) L 9 Ajx.u.l.u.l.x.x.w.u.r (A4r a0 p803_2) (A38 L kk (EC.put (rl [1]) Ajx.w Ajx.u.r))) (by kernel_rfl) ((B1y L kk a0 p803_2 Ajx.w).trans (eE (sx_R10_Of_3 L a0 p803_2 (re (B05 L kk)))))
def A4q(a0:Int)(p802_2:Bool):St:=⟨[(2,.loc 2 0),(3,B false),(4,I a0),(5,B p802_2)],[(2,[B false,B false,B false,B false,B false,B false,B false,B false,B false])],0⟩
def A37(e0:EC):Be:=(Ax 0 (Bk (EV (Auz L) L 9 e0) (C0 Tryz.prog (RS Tryz.f191) kk)))
def sx_R10_Of_2 [An A (Cn×Bool)](L:Nat)(a0:Int)(p802_2:Bool)(nx3:Int→Bool→A):A:=
 (cn p802_2
 (lf ((⟨true,false,true,false,false,false,false,false,false⟩:Cn),true))
 (cn (a0 == 2)
 (lf ((⟨true,true,false,false,false,true,false,false,false⟩:Cn),true))
 (cn (a0 == 3)
 (lf ((⟨false,false,true,false,false,false,false,true,true⟩:Cn),true))
 (cn (a0 == 4)
 (lf ((⟨false,false,true,false,false,false,false,true,false⟩:Cn),true))
 (cn (a0 == 5)
 (lf ((⟨false,false,true,false,false,false,false,false,false⟩:Cn),true))
 (cn (a0 == 6)
 (lf ((⟨true,false,true,true,false,false,true,false,false⟩:Cn),true))
 (cn (a0 == 9)
 (lf ((⟨true,true,false,false,false,false,false,false,false⟩:Cn),true))
 (cn (a0 == 10)
 (nx3 a0 (a0 == 10))
 (nx3 a0 (a0 == 11))))))))))
def Atd [An A (Cn×Bool)](a0:Int)(p802_2:Bool):A:=sx_R10_Of_2 L a0 p802_2 (fun a0 p803_2=>Ate L a0 p803_2)
theorem B1x(a0:Int)(p802_2:Bool)(z3:EC):EV (Auz L) L 9 (EC.put (rl [21]) z3 Ajx.u.l.u.l.u) (A4q a0 p802_2) (A37 L kk Ajx.u.r)= @sx_R10_Of_2 Prop (anP (Ba6 kk)) L a0 p802_2 (fun a0 p803_2=>EV (Auz L) L 9 z3 (A4r a0 p803_2) (A38 L kk Ajx.u.r)):=by kernel_rfl
theorem B06(a0:Int)(p802_2:Bool):EV (Auz L) L 9 Ajx.u.l.u.l.u (A4q a0 p802_2) (A37 L kk Ajx.u.r)=ob (Atd L a0 p802_2) (Ba6 kk):=Eq.trans (b:=EV (Auz L) L 9 (EC.put (rl [21]) Ajx.u.l.u.l.x.x.w.u.r Ajx.u.l.u.l.u) (A4q a0 p802_2) (A37 L kk Ajx.u.r)) (by kernel_rfl) ((B1x L kk a0 p802_2 Ajx.u.l.u.l.x.x.w.u.r).trans (eE (sx_R10_Of_2 L a0 p802_2 (fun a0 p803_2=>re (B07 L kk a0 p803_2)))))
def sx_R10_Of_0 [An A (Cn×Bool)](L:Nat)(a0:Int)(nx2:Int→Bool→A):A:=
 (cn (a0 == 1)
 (nx2 a0 (a0 == 1))
 (cn (a0 == 7)
 (nx2 a0 (a0 == 7))
 (cn (a0 == 8)
 (nx2 a0 (a0 == 8))
 (cn (a0 == 12)
 (nx2 a0 (a0 == 12))
 (cn (a0 == 15)
 (nx2 a0 (a0 == 15))
 (cn (a0 == 16)
 (nx2 a0 (a0 == 16))
 (nx2 a0 (a0 == 17))))))))
def Bfc [An A (Cn×Bool)](a0:Int):A:=sx_R10_Of_0 L a0 (fun a0 p802_2=>Atd L a0 p802_2)
theorem B1w(a0:Int)(z2:EC):EW (Auz L) L 9 (RS Tryz.f191) (EC.put (rl [2,1,2,1,2]) z2 Ajx) [I a0] kk= @sx_R10_Of_0 Prop (anP (Ba6 kk)) L a0 (fun a0 p802_2=>EV (Auz L) L 9 z2 (A4q a0 p802_2) (A37 L kk Ajx.u.r)):=by kernel_rfl
def Aq5(a0:Int):Option (Cn×Bool):=Bfc L a0
def B91:Gh:=E1 (fun(x:Cn×Bool)=> .tup [.agg (Aed x.1),B x.2]) 191 (cI .i64) (Aq5 L) fun a0 r h=>hF Tryz.func191 (C:=Auz L) (oS _) L (fun kk=>Eq.trans (b:=EW (Auz L) L 9 (RS Tryz.f191) (EC.put (rl [2,1,2,1,2]) Ajx.u.l.u.l.u Ajx) [I a0] kk) (by kernel_rfl) ((B1w L kk a0 Ajx.u.l.u.l.u).trans (eE (sx_R10_Of_0 L a0 (fun a0 p802_2=>re (B06 L kk a0 p802_2)))))) h
def Au3 [An A Bool](L:Nat)(a0:Ab):A:=
 (jp (.cn (a0.Op == 0)
 (.lf (a0.Name.toList == (⟨#[]⟩:ByteArray).toList))
 (.lf false)) (fun b1=>
 (jp (.cn b1
 (.lf (a0.N == 0))
 (.lf false)) (fun b2=>
 (jp (.cn b2
 (.lf ((a0.Kids.length:Int) == 0))
 (.lf false)) (fun b3=>
 (lf b3)))))))
def Ajh(a0:Ab):Option Bool:=Au3 L a0
def Cin:Gh:=E1 B 211 Bu (Ajh L) fun a0 r h=>hF Tryz.func211 (oS []) L (fun kk=>eE (Au3 L a0)) h
def Ao3 [An A Bool](a0:Ac):A:=
 (bd (Aq5 L a0.Op) fun r1=>
 (jp (.cn r1.1.Name
 (.lf true)
 (.lf (a0.Name.toList == (⟨#[]⟩:ByteArray).toList))) (fun b2=>
 (jp (.cn b2
 (.cn r1.1.Of
 (.lf true)
 (.lf (a0.Of.toList == (⟨#[]⟩:ByteArray).toList)))
 (.lf false)) (fun b3=>
 (jb (.cn r1.1.E
 (.lf true)
 (.bd (Ajh L (Ab.cp a0.E)) fun r5=>
 (.lf r5))) (fun b4=>
 (jb (.cn b4
 (.cn r1.1.F
 (.lf true)
 (.bd (Ajh L (Ab.cp a0.F)) fun r7=>
 (.lf r7)))
 (.lf false)) (fun b6=>
 (jp (.cn b6
 (.cn r1.1.Args
 (.lf true)
 (.lf ((a0.Args.length:Int) == 0)))
 (.lf false)) (fun b8=>
 (jp (.cn r1.1.Body
 (.lf true)
 (.lf ((a0.Body.length:Int) == 0))) (fun b9=>
 (jp (.cn b9
 (.cn r1.1.Else
 (.lf true)
 (.lf ((a0.Else.length:Int) == 0)))
 (.lf false)) (fun b10=>
 (jp (.cn r1.2
 (.lf b3)
 (.lf false)) (fun b11=>
 (jp (.cn b11
 (.lf b8)
 (.lf false)) (fun b12=>
 (jp (.cn b12
 (.lf b10)
 (.lf false)) (fun b13=>
 (cn b13
 (cn r1.1.Dist
 (nq (jp (.cn r1.1.Flag
 (.lf true)
 (.lf (!a0.Flag))) (fun b14=>
 (lf b14))))
 (bd (Ad4 L a0.Dist (⟨0,0,0,0,[],[]⟩:Bj)) fun r15=>
 (nq (jp (.cn r15
 (.cn r1.1.Flag
 (.lf true)
 (.lf (!a0.Flag)))
 (.lf false)) (fun b16=>
 (lf b16))))))
 (nq (nq (lf false)))))))))))))))))))))))))
def Aii(a0:Ac):Option Bool:=Ao3 L a0
def Cic:Gh:=E1 B 192 H3 (Aii L) fun a0 r h=>hF Tryz.func192 (oS [B9z L,B91 L,Cin L]) L (fun kk=>eE (Ao3 L a0)) h
def Bl5(F:Ab→Option Int):Prop:=∀y0 r,F y0=some r→Ho Tryz.prog 234 [Bu.en y0] I r
def Ck8:=CC Tryz.f234
def B9i(Ge:Ab→Option Int)(L:Nat):Bi:=(orc 234 (A1 I Bu Ge) (oL []))
theorem Crf(Ge:Ab→Option Int)(Bv8:Bl5 Ge)(L:Nat):Er Tryz.prog (B9i Ge L):=(Hk (a1 _ Bv8) (oS []))
def Br8(a0:Ab)(v:Cp):St:=⟨[(0,.any),(1,.loc 1 0),(2,I 0),(3,I v.1),(4,I v.2)],[(1,(Dd a0))],0⟩
def Abv [An A B8](Ge:Ab→Option Int)(L:Nat)(a0:Ab)(rec:Int→Int→A)(Ag:Int)(Aj:Int):A:=
 (lw Aj a0.Kids
 (bd (Ge (Ab.cp (a0.Kids.getD (Int.toNat Aj) default))) fun r1=>
 (rec (if r1 > Ag then r1 else Ag) (Cq (Aj+1))))
 (lf (0,Ag,Aj)))
def O0(Ge:Ab→Option Int)(L:Nat)(a0:Ab):Nat→Int→Int→Option B8
 |0,_,_=>none
 |n+1,Ag,Aj=>Abv Ge L a0 (O0 Ge L a0 n) Ag Aj
theorem B5o(Ge:Ab→Option Int)(L:Nat)(K:Be)(a0:Ab):LP (EV (B9i Ge L) L 9 Ck8.w.l.u.l.l) [0,1,2,3,4] [1] (Br8 a0) [.exit 0] (fun n v=>O0 Ge L a0 n v.1 v.2) K:=lE (fun _=>rfl) fun n v ih=>eE (Abv Ge L a0 (fun Ag Aj=>re (ih (Ag,Aj))) v.1 v.2)
def Xh [An A Int](Ge:Ab→Option Int)(L:Nat)(o2:Nat×Cp):A:=
 (sl o2.1 [(lf (Cq (o2.2.1+1)))])
def Bo8(Ge:Ab→Option Int)(L:Nat)(kk:Dm):Be:=(Ax 0 (Bk (EV (B9i Ge L) L 9 Ck8.w.r) (C0 Tryz.prog (RS Tryz.f234) kk)))
theorem Cfi(Ge:Ab→Option Int)(L:Nat)(kk:Dm)(a0:Ab)(o2:Nat×Cp):kX [.exit 0] (Br8 a0) (Bo8 Ge L kk) o2=ob (Xh Ge L o2) (kQ I kk):=eE (Xh Ge L o2)
def A00 [An A Int](Ge:Ab→Option Int)(L:Nat)(a0:Ab):A:=(bd (O0 Ge L a0 L 0 0) fun o2=>Xh Ge L o2)
def Aqy(Ge:Ab→Option Int)(L:Nat)(a0:Ab):Option Int:=A00 Ge L a0
theorem Cpz(Ge:Ab→Option Int)(Bv8:Bl5 Ge)(L:Nat):Bl5 (Aqy Ge L):=fun a0 r h=>hF Tryz.func234 (Crf Ge Bv8 L) L (fun kk=>eE ((ho (B5o Ge L (Bo8 Ge L kk) a0 L (0,0)) fun o2=>Cfi Ge L kk a0 o2))) h
def Rb:Nat→Ab→Option Int
 |0,_=>none
 |L+1,a0=>Aqy (Rb L) L a0
theorem B2u(L:Nat):Bl5 (Rb L):=by
 induction L with
 |zero=>exact fun _ _ h=>(by cases h)
 |succ L ih=>
  have i234:=ih
  exact Cpz (Rb L) i234 L
def Cit(L:Nat):Gh:=E1 I 234 Bu (Rb L) (B2u L)
def Arb [An A Int](L:Nat)(a0:Int):A:=
 (jp (.cn (decide (a0 < 1))
 (.lf true)
 (.lf (decide (a0 > 26)))) (fun b1=>
 (cn b1
 (lf (-1))
 (jp (.cn (decide (a0≥5))
 (.lf (decide (a0≤8)))
 (.lf false)) (fun b2=>
 (cn b2
 (lf 1)
 (jp (.cn (decide (a0≥9))
 (.lf (decide (a0≤21)))
 (.lf false)) (fun b3=>
 (cn b3
 (lf 2)
 (lf 0))))))))))
def Akw(a0:Int):Option Int:=Arb L a0
def Caf:Gh:=E1 I 241 (cI .i64) (Akw L) fun a0 r h=>hF Tryz.func241 (oS []) L (fun kk=>eE (Arb L a0)) h
def Ao2 [An A Bool](L:Nat)(a0:Int):A:=
 (jp (.cn (decide (a0≥22))
 (.lf (decide (a0≤24)))
 (.lf false)) (fun b1=>
 (lf b1)))
def Aa2(a0:Int):Option Bool:=Ao2 L a0
def Cag:Gh:=E1 B 242 (cI .i64) (Aa2 L) fun a0 r h=>hF Tryz.func242 (oS []) L (fun kk=>eE (Ao2 L a0)) h
def Au2 [An A Int](L:Nat)(a0:Int):A:=
 (cn (a0 == 25)
 (lf 15)
 (cn (a0 == 26)
 (lf 31)
 (lf 63)))
def Uj(a0:Int):Option Int:=Au2 L a0
def Cah:Gh:=E1 I 243 (cI .i64) (Uj L) fun a0 r h=>hF Tryz.func243 (oS []) L (fun kk=>eE (Au2 L a0)) h
end
end Go.Proofs.YtfencmicmnhglaaGreat.Ev
