import Derived.Test.YtogleahbpobaiaaGreatG0
namespace Go.Proofs.YtogleahbpobaiaaGreat.Ev
open Go An
set_option maxRecDepth 100000
set_option maxHeartbeats 4000000
set_option linter.unusedVariables false
set_option linter.unusedSimpArgs false
set_option linter.unnecessarySimpa false
variable {A:Type} (L n:Nat) (kk:Ct) (K:Be) (k:Bx)
def Am5 [An A Bool](L:Nat)(a0:Int):A:=
 (jp (.cn (decide (a0≥97))
 (.lf (decide (a0≤122)))
 (.lf false)) (fun b1=>
 (lf b1)))
def n9(a0:Int):Option Bool:=Am5 L a0
def Ca5:Gk:=E1 B 107 (cI .u8) (n9 L) fun a0 r h=>hF Tryz.func107 (oS []) L (fun kk=>eE (Am5 L a0)) h
def Apj [An A (List ByteArray)](L:Nat):A:=
 (lf [(⟨#[97,100,100]⟩:ByteArray),(⟨#[97,102,116,101,114]⟩:ByteArray),(⟨#[97,110,100]⟩:ByteArray),(⟨#[97,116]⟩:ByteArray),(⟨#[98,101,108,116]⟩:ByteArray),(⟨#[98,111,111,108]⟩:ByteArray),(⟨#[99,111,110,115,101,114,118,101]⟩:ByteArray),(⟨#[99,111,110,115,116]⟩:ByteArray),(⟨#[99,111,117,110,116]⟩:ByteArray),(⟨#[99,121,99,108,101]⟩:ByteArray),(⟨#[100,111,119,110]⟩:ByteArray),(⟨#[100,114,97,119]⟩:ByteArray),(⟨#[100,117,114]⟩:ByteArray),(⟨#[101,108,115,101]⟩:ByteArray),(⟨#[101,110,100]⟩:ByteArray),(⟨#[101,118,101,114,121]⟩:ByteArray),(⟨#[102,97,108,115,101]⟩:ByteArray),(⟨#[102,97,117,108,116]⟩:ByteArray),(⟨#[102,105,102,111]⟩:ByteArray),(⟨#[102,114,101,101]⟩:ByteArray),(⟨#[102,114,111,109]⟩:ByteArray),(⟨#[103,101,111,109]⟩:ByteArray),(⟨#[103,101,116]⟩:ByteArray),(⟨#[104,111,108,100]⟩:ByteArray),(⟨#[105,102]⟩:ByteArray),(⟨#[105,110,116]⟩:ByteArray),(⟨#[105,110,116,111]⟩:ByteArray),(⟨#[108,101,97,115,116]⟩:ByteArray),(⟨#[108,101,118,101,108]⟩:ByteArray),(⟨#[108,105,102,111]⟩:ByteArray),(⟨#[108,105,110,107]⟩:ByteArray),(⟨#[108,111,99,97,108]⟩:ByteArray),(⟨#[109,97,120]⟩:ByteArray),(⟨#[109,105,110]⟩:ByteArray),(⟨#[109,111,100,101,108]⟩:ByteArray),(⟨#[110,111,116]⟩:ByteArray),(⟨#[110,111,119]⟩:ByteArray),(⟨#[111,98,115,101,114,118,101]⟩:ByteArray),(⟨#[111,114]⟩:ByteArray),(⟨#[112,97,114,97,109]⟩:ByteArray),(⟨#[112,114,101,101,109,112,116]⟩:ByteArray),(⟨#[112,114,105,111]⟩:ByteArray),(⟨#[112,117,116]⟩:ByteArray),(⟨#[113,117,101,117,101]⟩:ByteArray),(⟨#[114,101,108,101,97,115,101]⟩:ByteArray),(⟨#[114,101,115,111,117,114,99,101]⟩:ByteArray),(⟨#[114,105,100,101]⟩:ByteArray),(⟨#[114,111,117,116,105,110,101]⟩:ByteArray),(⟨#[115,101,105,122,101]⟩:ByteArray),(⟨#[115,101,110,100]⟩:ByteArray),(⟨#[115,101,116]⟩:ByteArray),(⟨#[115,104,105,102,116]⟩:ByteArray),(⟨#[115,105,103,110,97,108]⟩:ByteArray),(⟨#[115,105,116,101]⟩:ByteArray),(⟨#[115,105,122,101]⟩:ByteArray),(⟨#[115,112,97,119,110]⟩:ByteArray),(⟨#[115,116,97,114,116]⟩:ByteArray),(⟨#[115,116,111,112]⟩:ByteArray),(⟨#[115,116,111,114,101]⟩:ByteArray),(⟨#[115,116,114,101,97,109]⟩:ByteArray),(⟨#[115,117,109]⟩:ByteArray),(⟨#[116,97,98,108,101]⟩:ByteArray),(⟨#[116,97,108,108,121]⟩:ByteArray),(⟨#[116,105,99,107,115]⟩:ByteArray),(⟨#[116,105,109,101]⟩:ByteArray),(⟨#[116,114,117,101]⟩:ByteArray),(⟨#[117,110,105,102,111,114,109]⟩:ByteArray),(⟨#[117,110,116,105,108]⟩:ByteArray),(⟨#[117,112]⟩:ByteArray),(⟨#[118,97,114]⟩:ByteArray),(⟨#[119,97,105,116]⟩:ByteArray),(⟨#[119,97,105,116,105,110,103]⟩:ByteArray),(⟨#[119,104,105,108,101]⟩:ByteArray)])
def Ahx:Option (List ByteArray):=Apj L
def Cbi:Gk:=E0 (fun(x:List ByteArray)=> .lst false (.t9 x)) 160 (Ahx L) fun r h=>hF Tryz.func160 (oS []) L (fun kk=>eE (Apj L)) h
noncomputable def Ccw:EC:=CC Tryz.f111
def B1w(L:Nat):Bk:=oL []
def Cec:Int→Prop:=fun x=>kk (I x)
def Bly(a0:List ByteArray)(a1:ByteArray)(v:Cw):St:=⟨[(0,.lst false (.t9 a0)),(1,S a1),(4,I v.1),(5,I v.2)],[],0⟩
def Aet [An A Cx](L:Nat)(a0:List ByteArray)(a1:ByteArray)(rec:Int→Int→A)(Am:Int)(Ah:Int):A:=
 (cn (decide (Ah < (a0.length:Int)))
 (gq (0≤Ah)
 (gq (Ah < (a0.length:Int))
 (cn ((a0.getD (Int.toNat Ah) default).toList == a1.toList)
 (lf (0,Ah,Ah))
 (rec Am (Da (Ah+1))))))
 (lf (1,Am,Ah)))
def Qx(L:Nat)(a0:List ByteArray)(a1:ByteArray):Nat→Int→Int→Option Cx
 |0,_,_=>none
 |n+1,Am,Ah=>Aet L a0 a1 (Qx L a0 a1 n) Am Ah
theorem Byi(a0:List ByteArray)(a1:ByteArray):LP (EV (B1w L) L 9 Ccw.u.l.u.l.l) [0,1,4,5] [] (Bly a0 a1) [.ret,.exit 0] (fun n v=>Qx L a0 a1 n v.1 v.2) K:=lE (fun _=>rfl) fun n v ih=>eE (Aet L a0 a1 (fun Am Ah=>re (ih (Am,Ah))) v.1 v.2)
def Yu [An A Int](L:Nat)(o1:Nat×Cw):A:=
 (sl o1.1 [(lf o1.2.1),
 (lf (-1))])
def Bjc:Be:=(Ay 0 (Bl (EV (B1w L) L 9 Ccw.u.r) (C8 Tryz.prog (RS Tryz.f111) kk)))
theorem B7t(a0:List ByteArray)(a1:ByteArray)(o1:Nat×Cw):kX [.ret,.exit 0] (Bly a0 a1) (Bjc L kk) o1=ob (Yu L o1) (Cec kk):=eE (Yu L o1)
def Ae7 [An A Int](L:Nat)(a0:List ByteArray)(a1:ByteArray)(nx1:A):A:=
 nx1
def A2g [An A Int](a0:List ByteArray)(a1:ByteArray):A:=Ae7 L a0 a1 (bd (Qx L a0 a1 L 0 0) fun o1=>Yu L o1)
def L2(a0:List ByteArray)(a1:ByteArray):Option Int:=A2g L a0 a1
def Bm6:Gk:=E2 I 111 cl9 cS (L2 L) fun a0 a1 r h=>hF Tryz.func111 (C:=B1w L) (oS _) L (fun kk=>eE (Ae7 L a0 a1 (ho (Byi L (Bjc L kk) a0 a1 L (0,0)) fun o1=>B7t L kk a0 a1 o1))) h
def Akf [An A Bool](a0:ByteArray):A:=
 (bd (Ahx L) fun r1=>
 (bd (L2 L r1 a0) fun r2=>
 (lf (decide (r2≥0)))))
def Aei(a0:ByteArray):Option Bool:=Akf L a0
def Ca6:Gk:=E1 B 108 cS (Aei L) fun a0 r h=>hF Tryz.func108 (oS [Bm6 L,Cbi L]) L (fun kk=>eE (Akf L a0)) h
noncomputable def c47:EC:=CC Tryz.f47
def O47:Bk:=oL [Ca5 L,Ca6 L]
def Cj4:Int→Prop:=fun x=>kk (I x)
def Bto(a0:ByteArray)(v:Cw):St:=⟨[(0,S a0),(2,I v.1),(3,I v.2)],[],0⟩
def Vm [An A Cx](a0:ByteArray)(rec:Int→Int→A)(Ag:Int)(Am:Int):A:=
 (cn (decide (Am < (a0.size:Int)))
 (cn ((if 0≤Am then a0[Int.toNat Am]? else none).isSome)
 (bd (n9 L (Eb (if 0≤Am then a0[Int.toNat Am]? else none))) fun r6=>
 (jb (.cn (!r6)
 (.cn ((if 0≤Am then a0[Int.toNat Am]? else none).isSome)
 (.lf ((Eb (if 0≤Am then a0[Int.toNat Am]? else none)) != 95))
 .fl)
 (.lf false)) (fun b7=>
 (jb (.cn b7
 (.cn ((if 0≤Am then a0[Int.toNat Am]? else none).isSome)
 (.cn (decide ((Eb (if 0≤Am then a0[Int.toNat Am]? else none)) < 48))
 (.lf true)
 (.cn ((if 0≤Am then a0[Int.toNat Am]? else none).isSome)
 (.lf (decide ((Eb (if 0≤Am then a0[Int.toNat Am]? else none)) > 57)))
 .fl))
 .fl)
 (.lf false)) (fun b8=>
 (cn b8
 (lf (0,3,Am))
 (rec Ag (Da (Am+1)))))))))
 fl)
 (lf (1,Ag,Am)))
def N5(L:Nat)(a0:ByteArray):Nat→Int→Int→Option Cx
 |0,_,_=>none
 |n+1,Ag,Am=>Vm L a0 (N5 L a0 n) Ag Am
theorem B6t(a0:ByteArray):LP (EV (O47 L) L 9 c47.w.l.u.l.l) [0,2,3] [] (Bto a0) [.ret,.exit 0] (fun n v=>N5 L a0 n v.1 v.2) K:=lE (fun _=>rfl) fun n v ih=>eE (Vm L a0 (fun Ag Am=>re (ih (Ag,Am))) v.1 v.2)
def Vs [An A Int](L:Nat)(o9:Nat×Cw):A:=
 (sl o9.1 [(lf o9.2.1),
 (lf 0)])
def Brl:Be:=(Ay 0 (Bl (EV (O47 L) L 9 c47.w.r) (C8 Tryz.prog (RS Tryz.f47) kk)))
theorem Cgz(a0:ByteArray)(o9:Nat×Cw):kX [.ret,.exit 0] (Bto a0) (Brl L kk) o9=ob (Vs L o9) (Cj4 kk):=eE (Vs L o9)
def Abh [An A Int](a0:ByteArray)(nx1:A):A:=
 (jp (.cn (decide ((a0.size:Int) < 1))
 (.lf true)
 (.lf (decide ((a0.size:Int) > 24)))) (fun b1=>
 (jb (.cn b1
 (.lf true)
 (.cn ((if 0≤0 then a0[Int.toNat 0]? else none).isSome)
 (.bd (n9 L (Eb (if 0≤0 then a0[Int.toNat 0]? else none))) fun r3=>
 (.lf (!r3)))
 .fl)) (fun b2=>
 (jb (.cn b2
 (.lf true)
 (.bd (Aei L a0) fun r5=>
 (.lf r5))) (fun b4=>
 (cn b4
 (lf 3)
 nx1)))))))
def Ayq [An A Int](a0:ByteArray):A:=Abh L a0 (bd (N5 L a0 L 0 0) fun o9=>Vs L o9)
def Py(a0:ByteArray):Option Int:=Ayq L a0
def X47:Gk:=E1 I 47 cS (Py L) fun a0 r h=>hF Tryz.func47 (C:=O47 L) (oS _) L (fun kk=>eE (Abh L a0 (ho (B6t L (Brl L kk) a0 L (0,0)) fun o9=>Cgz L kk a0 o9))) h
def Am8 [An A Int](L:Nat)(a0:Bool)(a1:Int):A:=
 (cn a0
 (lf 0)
 (lf a1))
def Ck(a0:Bool)(a1:Int):Option Int:=Am8 L a0 a1
def X48:Gk:=E2 I 48 cB (cI .i64) (Ck L) fun a0 a1 r h=>hF Tryz.func48 (oS []) L (fun kk=>eE (Am8 L a0 a1)) h
def Apr [An A Int](L:Nat)(a0:Int)(a1:Int):A:=
 (cn (a0 != 0)
 (lf a0)
 (lf a1))
def C3(a0:Int)(a1:Int):Option Int:=Apr L a0 a1
def X46:Gk:=E2 I 46 (cI .i64) (cI .i64) (C3 L) fun a0 a1 r h=>hF Tryz.func46 (oS []) L (fun kk=>eE (Apr L a0 a1)) h
def Aps [An A Int](a0:ByteArray)(a1:List ByteArray):A:=
 (bd (Py L a0) fun r1=>
 (bd (L2 L a1 a0) fun r2=>
 (bd (Ck L (decide (r2 < 0)) 4) fun r3=>
 (bd (C3 L r1 r3) fun r4=>
 (lf r4)))))
def Nk(a0:ByteArray)(a1:List ByteArray):Option Int:=Aps L a0 a1
def X50:Gk:=E2 I 50 cS cl9 (Nk L) fun a0 a1 r h=>hF Tryz.func50 (oS [X46 L,X47 L,X48 L,Bm6 L]) L (fun kk=>eE (Aps L a0 a1)) h
def Apq [An A Bool](L:Nat)(a0:Int):A:=
 (jp (.cn (a0 == 1)
 (.lf true)
 (.lf (a0 == 2))) (fun b1=>
 (jp (.cn b1
 (.lf true)
 (.lf (a0 == 3))) (fun b2=>
 (lf b2)))))
def Ve(a0:Int):Option Bool:=Apq L a0
def Bvp:Gk:=E1 B 109 (cI .i64) (Ve L) fun a0 r h=>hF Tryz.func109 (oS []) L (fun kk=>eE (Apq L a0)) h
def A2f [An A Bool](L:Nat)(a0:Int):A:=
 (jp (.cn (decide (a0≥(-1000000000000)))
 (.lf (decide (a0≤1000000000000)))
 (.lf false)) (fun b1=>
 (lf b1)))
def Alc(a0:Int):Option Bool:=A2f L a0
def Bph:Gk:=E1 B 144 (cI .i64) (Alc L) fun a0 r h=>hF Tryz.func144 (oS []) L (fun kk=>eE (A2f L a0)) h
def Am9 [An A Bool](L:Nat)(a0:Int)(a1:Int)(a2:Int):A:=
 (jp (.cn (decide (a0≥a1))
 (.lf (decide (a0≤a2)))
 (.lf false)) (fun b1=>
 (lf b1)))
def Dr(a0:Int)(a1:Int)(a2:Int):Option Bool:=Am9 L a0 a1 a2
def Bcb:Gk:=E3 B 117 (cI .i64) (cI .i64) (cI .i64) (Dr L) fun a0 a1 a2 r h=>hF Tryz.func117 (oS []) L (fun kk=>eE (Am9 L a0 a1 a2)) h
def As6 [An A Bool](a0:Int)(a1:Int):A:=
 (cn (a0 == 1)
 (bd (Alc L a1) fun r1=>
 (lf r1))
 (cn (a0 == 2)
 (jp (.cn (a1 == 0)
 (.lf true)
 (.lf (a1 == 1))) (fun b2=>
 (lf b2)))
 (cn (a0 == 3)
 (bd (Dr L a1 0 1000000000) fun r3=>
 (lf r3))
 (lf false))))
def Z6(a0:Int)(a1:Int):Option Bool:=As6 L a0 a1
def Bvq:Gk:=E2 B 110 (cI .i64) (cI .i64) (Z6 L) fun a0 a1 r h=>hF Tryz.func110 (oS [Bcb L,Bph L]) L (fun kk=>eE (As6 L a0 a1)) h
def Apt [An A Int](a0:Al)(a1:List ByteArray):A:=
 (bd (Nk L a0.Name a1) fun r1=>
 (bd (Ve L a0.Type_) fun r2=>
 (bd (Ck L r2 1) fun r3=>
 (bd (C3 L r1 r3) fun r4=>
 (bd (Z6 L a0.Type_ a0.N) fun r5=>
 (bd (Ck L r5 2) fun r6=>
 (bd (C3 L r4 r6) fun r7=>
 (lf r7))))))))
def Afk(a0:Al)(a1:List ByteArray):Option Int:=Apt L a0 a1
def X49:Gk:=E2 I 49 A9j cl9 (Afk L) fun a0 a1 r h=>hF Tryz.func49 (oS [X46 L,X48 L,X50 L,Bvp L,Bvq L]) L (fun kk=>eE (Apt L a0 a1)) h
noncomputable def A5l:EC:=CC Tryz.f112
def A2e(L:Nat):Bk:=oL []
def Bd5:(List (List ByteArray))→Prop:=fun x=>kk ((fun(x:List (List ByteArray))=> .lst false (.t27 x)) x)
def Blz(a0:Aa)(v:Ls):St:=⟨[(0,.any),(1,.loc 1 0),(2,.lst true (.t27 [])),(3,.vw true 9 27 1 10),(4,I v.1),(5,.any),(6,.any),(7,.any),(8,.any)],[(1,Ae a0),(9,[.lst true (.t9 v.2),.lst true (.t9 []),.lst true (.t9 []),.lst true (.t9 []),.lst true (.t9 []),.lst true (.t9 []),.lst true (.t9 []),.lst true (.t9 []),.lst true (.t9 []),.lst true (.t9 [])])],0⟩
def Aae [An A (Nat×Ls)](L:Nat)(a0:Aa)(rec:Int→List ByteArray→A)(Ag:Int)(Yh:List ByteArray):A:=
 (cn (decide (Ag < (a0.Vars.length:Int)))
 (gq (0≤0)
 (gq (0 < ((10:Nat):Int))
 (gq (0≤Ag)
 (gq (Ag < (a0.Vars.length:Int))
 (gq ((Yh.length+ [(a0.Vars.getD (Int.toNat Ag) default).Name].length)*16≤140737488355328)
 (gq (Yh.length+ [(a0.Vars.getD (Int.toNat Ag) default).Name].length≤maxLen)
 (gq (0≤0)
 (gq (0 < ((10:Nat):Int))
 (rec (Da (Ag+1)) (Yh++ [(a0.Vars.getD (Int.toNat Ag) default).Name]))))))))))
 (lf (0,Ag,Yh)))
def Oc(L:Nat)(a0:Aa):Nat→Int→List ByteArray→Option (Nat×Ls)
 |0,_,_=>none
 |n+1,Ag,Yh=>Aae L a0 (Oc L a0 n) Ag Yh
theorem Byj(a0:Aa):LP (EV (A2e L) L 9 A5l.w.l.u.l.l) [0,1,2,3,4,5,6,7,8] [1,9] (Blz a0) [.exit 0] (fun n v=>Oc L a0 n v.1 v.2) K:=lE (fun _=>rfl) fun n v ih=>eE (Aae L a0 (fun Ag Yh=>re (ih (Ag,Yh))) v.1 v.2)
def Bl0(a0:Aa)(o1:Nat×Ls)(v:Ls):St:=⟨[(0,.any),(1,.loc 1 0),(2,.lst true (.t27 [])),(3,.vw true 9 27 1 10),(4,.any),(5,I v.1),(6,.any),(7,.any),(8,.any)],[(1,Ae a0),(9,[.lst true (.t9 o1.2.2),.lst true (.t9 v.2),.lst true (.t9 []),.lst true (.t9 []),.lst true (.t9 []),.lst true (.t9 []),.lst true (.t9 []),.lst true (.t9 []),.lst true (.t9 []),.lst true (.t9 [])])],0⟩
def Aaf [An A (Nat×Ls)](L:Nat)(a0:Aa)(o1:Nat×Ls)(rec:Int→List ByteArray→A)(C1:Int)(Yi:List ByteArray):A:=
 (cn (decide (C1 < (a0.Resources.length:Int)))
 (gq (0≤1)
 (gq (1 < ((10:Nat):Int))
 (gq (0≤C1)
 (gq (C1 < (a0.Resources.length:Int))
 (gq ((Yi.length+ [(a0.Resources.getD (Int.toNat C1) default).Name].length)*16≤140737488355328)
 (gq (Yi.length+ [(a0.Resources.getD (Int.toNat C1) default).Name].length≤maxLen)
 (gq (0≤1)
 (gq (1 < ((10:Nat):Int))
 (rec (Da (C1+1)) (Yi++ [(a0.Resources.getD (Int.toNat C1) default).Name]))))))))))
 (lf (0,C1,Yi)))
def Od(L:Nat)(a0:Aa)(o1:Nat×Ls):Nat→Int→List ByteArray→Option (Nat×Ls)
 |0,_,_=>none
 |n+1,C1,Yi=>Aaf L a0 o1 (Od L a0 o1 n) C1 Yi
theorem Byk(a0:Aa)(o1:Nat×Ls):LP (EV (A2e L) L 9 A5l.w.u.l.u.l.l) [0,1,2,3,4,5,6,7,8] [1,9] (Bl0 a0 o1) [.exit 2] (fun n v=>Od L a0 o1 n v.1 v.2) K:=lE (fun _=>rfl) fun n v ih=>eE (Aaf L a0 o1 (fun C1 Yi=>re (ih (C1,Yi))) v.1 v.2)
def Bl1(a0:Aa)(o1:Nat×Ls)(o2:Nat×Ls)(v:Ls):St:=⟨[(0,.any),(1,.loc 1 0),(2,.lst true (.t27 [])),(3,.vw true 9 27 1 10),(4,.any),(5,.any),(6,I v.1),(7,.any),(8,.any)],[(1,Ae a0),(9,[.lst true (.t9 o1.2.2),.lst true (.t9 o2.2.2),.lst true (.t9 v.2),.lst true (.t9 []),.lst true (.t9 []),.lst true (.t9 []),.lst true (.t9 []),.lst true (.t9 []),.lst true (.t9 []),.lst true (.t9 [])])],0⟩
def Aag [An A (Nat×Ls)](L:Nat)(a0:Aa)(o1:Nat×Ls)(o2:Nat×Ls)(rec:Int→List ByteArray→A)(Rn:Int)(Er:List ByteArray):A:=
 (cn (decide (Rn < (a0.Stores.length:Int)))
 (gq (0≤2)
 (gq (2 < ((10:Nat):Int))
 (gq (0≤Rn)
 (gq (Rn < (a0.Stores.length:Int))
 (gq ((Er.length+ [(a0.Stores.getD (Int.toNat Rn) default).Name].length)*16≤140737488355328)
 (gq (Er.length+ [(a0.Stores.getD (Int.toNat Rn) default).Name].length≤maxLen)
 (gq (0≤2)
 (gq (2 < ((10:Nat):Int))
 (rec (Da (Rn+1)) (Er++ [(a0.Stores.getD (Int.toNat Rn) default).Name]))))))))))
 (lf (0,Rn,Er)))
def Oe(L:Nat)(a0:Aa)(o1:Nat×Ls)(o2:Nat×Ls):Nat→Int→List ByteArray→Option (Nat×Ls)
 |0,_,_=>none
 |n+1,Rn,Er=>Aag L a0 o1 o2 (Oe L a0 o1 o2 n) Rn Er
theorem Byl(a0:Aa)(o1:Nat×Ls)(o2:Nat×Ls):LP (EV (A2e L) L 9 A5l.x.l.u.l.l) [0,1,2,3,4,5,6,7,8] [1,9] (Bl1 a0 o1 o2) [.exit 4] (fun n v=>Oe L a0 o1 o2 n v.1 v.2) K:=lE (fun _=>rfl) fun n v ih=>eE (Aag L a0 o1 o2 (fun Rn Er=>re (ih (Rn,Er))) v.1 v.2)
def Bl2(a0:Aa)(o1:Nat×Ls)(o2:Nat×Ls)(o3:Nat×Ls)(v:Ls):St:=⟨[(0,.any),(1,.loc 1 0),(2,.lst true (.t27 [])),(3,.vw true 9 27 1 10),(4,.any),(5,.any),(6,.any),(7,I v.1),(8,.any)],[(1,Ae a0),(9,[.lst true (.t9 o1.2.2),.lst true (.t9 o2.2.2),.lst true (.t9 o3.2.2),.lst true (.t9 v.2),.lst true (.t9 []),.lst true (.t9 []),.lst true (.t9 []),.lst true (.t9 []),.lst true (.t9 []),.lst true (.t9 [])])],0⟩
def Aah [An A (Nat×Ls)](L:Nat)(a0:Aa)(o1:Nat×Ls)(o2:Nat×Ls)(o3:Nat×Ls)(rec:Int→List ByteArray→A)(Jj:Int)(Es:List ByteArray):A:=
 (cn (decide (Jj < (a0.Belts.length:Int)))
 (gq (0≤3)
 (gq (3 < ((10:Nat):Int))
 (gq (0≤Jj)
 (gq (Jj < (a0.Belts.length:Int))
 (gq ((Es.length+ [(a0.Belts.getD (Int.toNat Jj) default).Name].length)*16≤140737488355328)
 (gq (Es.length+ [(a0.Belts.getD (Int.toNat Jj) default).Name].length≤maxLen)
 (gq (0≤3)
 (gq (3 < ((10:Nat):Int))
 (rec (Da (Jj+1)) (Es++ [(a0.Belts.getD (Int.toNat Jj) default).Name]))))))))))
 (lf (0,Jj,Es)))
def Og(L:Nat)(a0:Aa)(o1:Nat×Ls)(o2:Nat×Ls)(o3:Nat×Ls):Nat→Int→List ByteArray→Option (Nat×Ls)
 |0,_,_=>none
 |n+1,Jj,Es=>Aah L a0 o1 o2 o3 (Og L a0 o1 o2 o3 n) Jj Es
theorem Bym(a0:Aa)(o1:Nat×Ls)(o2:Nat×Ls)(o3:Nat×Ls):LP (EV (A2e L) L 9 A5l.x.u.l.u.l.l) [0,1,2,3,4,5,6,7,8] [1,9] (Bl2 a0 o1 o2 o3) [.exit 6] (fun n v=>Og L a0 o1 o2 o3 n v.1 v.2) K:=lE (fun _=>rfl) fun n v ih=>eE (Aah L a0 o1 o2 o3 (fun Jj Es=>re (ih (Jj,Es))) v.1 v.2)
def Bl3(a0:Aa)(o1:Nat×Ls)(o2:Nat×Ls)(o3:Nat×Ls)(o4:Nat×Ls)(v:Ls):St:=⟨[(0,.any),(1,.loc 1 0),(2,.lst true (.t27 [])),(3,.vw true 9 27 1 10),(4,.any),(5,.any),(6,.any),(7,.any),(8,I v.1)],[(1,Ae a0),(9,[.lst true (.t9 o1.2.2),.lst true (.t9 o2.2.2),.lst true (.t9 o3.2.2),.lst true (.t9 o4.2.2),.lst false (.t9 a0.Queues),.lst false (.t9 a0.Streams),.lst false (.t9 a0.Tallies),.lst false (.t9 a0.Levels),.lst false (.t9 a0.Counts),.lst true (.t9 v.2)])],0⟩
def Aai [An A (Nat×Ls)](L:Nat)(a0:Aa)(o1:Nat×Ls)(o2:Nat×Ls)(o3:Nat×Ls)(o4:Nat×Ls)(rec:Int→List ByteArray→A)(A1f:Int)(Yj:List ByteArray):A:=
 (cn (decide (A1f < (a0.Routines.length:Int)))
 (gq (0≤9)
 (gq (9 < ((10:Nat):Int))
 (gq (0≤A1f)
 (gq (A1f < (a0.Routines.length:Int))
 (gq ((Yj.length+ [(a0.Routines.getD (Int.toNat A1f) default).Name].length)*16≤140737488355328)
 (gq (Yj.length+ [(a0.Routines.getD (Int.toNat A1f) default).Name].length≤maxLen)
 (gq (0≤9)
 (gq (9 < ((10:Nat):Int))
 (rec (Da (A1f+1)) (Yj++ [(a0.Routines.getD (Int.toNat A1f) default).Name]))))))))))
 (lf (0,A1f,Yj)))
def Oh(L:Nat)(a0:Aa)(o1:Nat×Ls)(o2:Nat×Ls)(o3:Nat×Ls)(o4:Nat×Ls):Nat→Int→List ByteArray→Option (Nat×Ls)
 |0,_,_=>none
 |n+1,A1f,Yj=>Aai L a0 o1 o2 o3 o4 (Oh L a0 o1 o2 o3 o4 n) A1f Yj
theorem Byn(a0:Aa)(o1:Nat×Ls)(o2:Nat×Ls)(o3:Nat×Ls)(o4:Nat×Ls):LP (EV (A2e L) L 9 A5l.x.x.w.u.l.u.l.l) [0,1,2,3,4,5,6,7,8] [1,9] (Bl3 a0 o1 o2 o3 o4) [.exit 8] (fun n v=>Oh L a0 o1 o2 o3 o4 n v.1 v.2) K:=lE (fun _=>rfl) fun n v ih=>eE (Aai L a0 o1 o2 o3 o4 (fun A1f Yj=>re (ih (A1f,Yj))) v.1 v.2)
def V6 [An A (List (List ByteArray))](L:Nat)(o1:Nat×Ls)(o2:Nat×Ls)(o3:Nat×Ls)(o4:Nat×Ls)(a0:Aa)(o5:Nat×Ls):A:=
 (sl o5.1 [(lf [o1.2.2,o2.2.2,o3.2.2,o4.2.2,a0.Queues,a0.Streams,a0.Tallies,a0.Levels,a0.Counts,o5.2.2])])
def Bjh:Be:=(Ay 8 (Bl (EV (A2e L) L 9 A5l.x.x.w.u.r) (C8 Tryz.prog (RS Tryz.f112) kk)))
theorem B7y(a0:Aa)(o1:Nat×Ls)(o2:Nat×Ls)(o3:Nat×Ls)(o4:Nat×Ls)(o5:Nat×Ls):kX [.exit 8] (Bl3 a0 o1 o2 o3 o4) (Bjh L kk) o5=ob (V6 L o1 o2 o3 o4 a0 o5) (Bd5 kk):=eE (V6 L o1 o2 o3 o4 a0 o5)
def Abt [An A (List (List ByteArray))](L:Nat)(o1:Nat×Ls)(o2:Nat×Ls)(o3:Nat×Ls)(a0:Aa)(o4:Nat×Ls)(nx5:(Nat×Ls)→(Nat×Ls)→(Nat×Ls)→(Nat×Ls)→A):A:=
 (sl o4.1 [(gq (0≤4)
 (gq (4 < ((10:Nat):Int))
 (gq (0≤5)
 (gq (5 < ((10:Nat):Int))
 (gq (0≤6)
 (gq (6 < ((10:Nat):Int))
 (gq (0≤7)
 (gq (7 < ((10:Nat):Int))
 (gq (0≤8)
 (gq (8 < ((10:Nat):Int))
 (nx5 o1 o2 o3 o4)))))))))))])
def Aa3 [An A (List (List ByteArray))](o1:Nat×Ls)(o2:Nat×Ls)(o3:Nat×Ls)(a0:Aa)(o4:Nat×Ls):A:=Abt L o1 o2 o3 a0 o4 (fun o1 o2 o3 o4=>bd (Oh L a0 o1 o2 o3 o4 L 0 []) fun o5=>V6 L o1 o2 o3 o4 a0 o5)
def Bjg:Be:=(Ay 6 (Bl (EV (A2e L) L 9 A5l.x.u.r) (C8 Tryz.prog (RS Tryz.f112) kk)))
theorem B7x(a0:Aa)(o1:Nat×Ls)(o2:Nat×Ls)(o3:Nat×Ls)(o4:Nat×Ls):kX [.exit 6] (Bl2 a0 o1 o2 o3) (Bjg L kk) o4=ob (Aa3 L o1 o2 o3 a0 o4) (Bd5 kk):=eE (Abt L o1 o2 o3 a0 o4 (fun o1 o2 o3 o4=>ho (Byn L (Bjh L kk) a0 o1 o2 o3 o4 L (0,[])) fun o5=>B7y L kk a0 o1 o2 o3 o4 o5))
def Abs [An A (List (List ByteArray))](L:Nat)(o1:Nat×Ls)(o2:Nat×Ls)(a0:Aa)(o3:Nat×Ls)(nx4:(Nat×Ls)→(Nat×Ls)→(Nat×Ls)→A):A:=
 (sl o3.1 [(nx4 o1 o2 o3)])
def Aa2 [An A (List (List ByteArray))](o1:Nat×Ls)(o2:Nat×Ls)(a0:Aa)(o3:Nat×Ls):A:=Abs L o1 o2 a0 o3 (fun o1 o2 o3=>bd (Og L a0 o1 o2 o3 L 0 []) fun o4=>Aa3 L o1 o2 o3 a0 o4)
def Bjf:Be:=(Ay 4 (Bl (EV (A2e L) L 9 A5l.x.r) (C8 Tryz.prog (RS Tryz.f112) kk)))
theorem B7w(a0:Aa)(o1:Nat×Ls)(o2:Nat×Ls)(o3:Nat×Ls):kX [.exit 4] (Bl1 a0 o1 o2) (Bjf L kk) o3=ob (Aa2 L o1 o2 a0 o3) (Bd5 kk):=eE (Abs L o1 o2 a0 o3 (fun o1 o2 o3=>ho (Bym L (Bjg L kk) a0 o1 o2 o3 L (0,[])) fun o4=>B7x L kk a0 o1 o2 o3 o4))
def Abr [An A (List (List ByteArray))](L:Nat)(o1:Nat×Ls)(a0:Aa)(o2:Nat×Ls)(nx3:(Nat×Ls)→(Nat×Ls)→A):A:=
 (sl o2.1 [(nx3 o1 o2)])
def Aa1 [An A (List (List ByteArray))](o1:Nat×Ls)(a0:Aa)(o2:Nat×Ls):A:=Abr L o1 a0 o2 (fun o1 o2=>bd (Oe L a0 o1 o2 L 0 []) fun o3=>Aa2 L o1 o2 a0 o3)
def Bje:Be:=(Ay 2 (Bl (EV (A2e L) L 9 A5l.w.u.r) (C8 Tryz.prog (RS Tryz.f112) kk)))
theorem B7v(a0:Aa)(o1:Nat×Ls)(o2:Nat×Ls):kX [.exit 2] (Bl0 a0 o1) (Bje L kk) o2=ob (Aa1 L o1 a0 o2) (Bd5 kk):=eE (Abr L o1 a0 o2 (fun o1 o2=>ho (Byl L (Bjf L kk) a0 o1 o2 L (0,[])) fun o3=>B7w L kk a0 o1 o2 o3))
def Abq [An A (List (List ByteArray))](L:Nat)(a0:Aa)(o1:Nat×Ls)(nx2:(Nat×Ls)→A):A:=
 (sl o1.1 [(nx2 o1)])
def Aa0 [An A (List (List ByteArray))](a0:Aa)(o1:Nat×Ls):A:=Abq L a0 o1 (fun o1=>bd (Od L a0 o1 L 0 []) fun o2=>Aa1 L o1 a0 o2)
def Bjd:Be:=(Ay 0 (Bl (EV (A2e L) L 9 A5l.w.r) (C8 Tryz.prog (RS Tryz.f112) kk)))
theorem B7u(a0:Aa)(o1:Nat×Ls):kX [.exit 0] (Blz a0) (Bjd L kk) o1=ob (Aa0 L a0 o1) (Bd5 kk):=eE (Abq L a0 o1 (fun o1=>ho (Byk L (Bje L kk) a0 o1 L (0,[])) fun o2=>B7v L kk a0 o1 o2))
def Abp [An A (List (List ByteArray))](L:Nat)(a0:Aa)(nx1:A):A:=
 nx1
def Ayx [An A (List (List ByteArray))](a0:Aa):A:=Abp L a0 (bd (Oc L a0 L 0 []) fun o1=>Aa0 L a0 o1)
def j8(a0:Aa):Option (List (List ByteArray)):=Ayx L a0
def Bvs:Gk:=E1 (fun(x:List (List ByteArray))=> .lst false (.t27 x)) 112 C0 (j8 L) fun a0 r h=>hF Tryz.func112 (C:=A2e L) (oS _) L (fun kk=>eE (Abp L a0 (ho (Byj L (Bjd L kk) a0 L (0,[])) fun o1=>B7u L kk a0 o1))) h
noncomputable def Cdj:EC:=CC Tryz.f186
def B2a:Bk:=oL [X48 L,Bcb L]
def Ceu:Int→Prop:=fun x=>kk (I x)
def Bmr(a0:Af)(v:Cw):St:=⟨[(0,.any),(1,.loc 1 0),(2,I v.1),(3,I v.2)],[(1,Bo a0)],0⟩
def Us [An A Cx](a0:Af)(rec:Int→Int→A)(Ak:Int)(Ag:Int):A:=
 (cn (decide (Ag < (a0.Shift.length:Int)))
 (gq (0≤Ag)
 (gq (Ag < (a0.Shift.length:Int))
 (bd (Dr L ((a0.Shift.getD (Int.toNat Ag) default).At) 0 (Da (a0.Cycle - 1))) fun r3=>
 (jb (.cn (!r3)
 (.lf true)
 (.bd (Dr L ((a0.Shift.getD (Int.toNat Ag) default).Units) 0 1000) fun r5=>
 (.lf (!r5)))) (fun b4=>
 (cn b4
 (lf (0,2,Ag))
 (cn (decide (Ag > 0))
 (gq (0≤(Da (Ag - 1)))
 (gq ((Da (Ag - 1)) < (a0.Shift.length:Int))
 (cn (decide ((a0.Shift.getD (Int.toNat Ag) default).At≤(a0.Shift.getD (Int.toNat (Da (Ag - 1))) default).At))
 (lf (0,12,Ag))
 (rec Ak (Da (Ag+1))))))
 (rec Ak (Da (Ag+1))))))))))
 (lf (1,Ak,Ag)))
def Jb(L:Nat)(a0:Af):Nat→Int→Int→Option Cx
 |0,_,_=>none
 |n+1,Ak,Ag=>Us L a0 (Jb L a0 n) Ak Ag
theorem Bzb(a0:Af):LP (EV (B2a L) L 9 Cdj.x.l.u.l.l) [0,1,2,3] [1] (Bmr a0) [.ret,.exit 0] (fun n v=>Jb L a0 n v.1 v.2) K:=lE (fun _=>rfl) fun n v ih=>eE (Us L a0 (fun Ak Ag=>re (ih (Ak,Ag))) v.1 v.2)
def Qi [An A Int](L:Nat)(o6:Nat×Cw):A:=
 (sl o6.1 [(lf o6.2.1),
 (lf 0)])
def Bkf:Be:=(Ay 0 (Bl (EV (B2a L) L 9 Cdj.x.r) (C8 Tryz.prog (RS Tryz.f186) kk)))
theorem B8w(a0:Af)(o6:Nat×Cw):kX [.ret,.exit 0] (Bmr a0) (Bkf L kk) o6=ob (Qi L o6) (Ceu kk):=eE (Qi L o6)
def Uz [An A Int](a0:Af)(nx1:A):A:=
 (cn ((a0.Shift.length:Int) == 0)
 (bd (Ck L (a0.Cycle == 0) 1) fun r1=>
 (lf r1))
 (cn (decide ((a0.Shift.length:Int) > 20))
 (lf 6)
 (bd (Dr L a0.Cycle 1 1000000000) fun r2=>
 (cn (!r2)
 (lf 2)
 nx1))))
def Apo [An A Int](a0:Af):A:=Uz L a0 (bd (Jb L a0 L 0 0) fun o6=>Qi L o6)
def p9(a0:Af):Option Int:=Apo L a0
def Cby:Gk:=E1 I 186 Ym (p9 L) fun a0 r h=>hF Tryz.func186 (C:=B2a L) (oS _) L (fun kk=>eE (Uz L a0 (ho (Bzb L (Bkf L kk) a0 L (0,0)) fun o6=>B8w L kk a0 o6))) h
noncomputable def Cdp:EC:=CC Tryz.f199
def B2e(L:Nat):Bk:=oL []
def Cex:Bool→Prop:=fun x=>kk (B x)
def Bmu(a0:List Int)(a1:List Int)(v:Bool×Int):St:=⟨[(0,.lst false (.t3 a0)),(1,.lst false (.t3 a1)),(4,B v.1),(5,I v.2)],[],0⟩
def Ur [An A (Nat×Bool×Int)](L:Nat)(a0:List Int)(a1:List Int)(rec:Bool→Int→A)(Am:Bool)(Ah:Int):A:=
 (cn (decide (Ah < (a0.length:Int)))
 (gq (0≤Ah)
 (gq (Ah < (a0.length:Int))
 (gq (0≤Ah)
 (gq (Ah < (a1.length:Int))
 (cn ((a0.getD (Int.toNat Ah) default) != (a1.getD (Int.toNat Ah) default))
 (lf (0,false,Ah))
 (rec Am (Da (Ah+1))))))))
 (lf (1,Am,Ah)))
def Ja(L:Nat)(a0:List Int)(a1:List Int):Nat→Bool→Int→Option (Nat×Bool×Int)
 |0,_,_=>none
 |n+1,Am,Ah=>Ur L a0 a1 (Ja L a0 a1 n) Am Ah
theorem Bze(a0:List Int)(a1:List Int):LP (EV (B2e L) L 9 Cdp.w.l.u.l.l) [0,1,4,5] [] (Bmu a0 a1) [.ret,.exit 0] (fun n v=>Ja L a0 a1 n v.1 v.2) K:=lE (fun _=>rfl) fun n v ih=>eE (Ur L a0 a1 (fun Am Ah=>re (ih (Am,Ah))) v.1 v.2)
def Qh [An A Bool](L:Nat)(o1:Nat×Bool×Int):A:=
 (sl o1.1 [(lf o1.2.1),
 (lf true)])
def Bkq:Be:=(Ay 0 (Bl (EV (B2e L) L 9 Cdp.w.r) (C8 Tryz.prog (RS Tryz.f199) kk)))
theorem B87(a0:List Int)(a1:List Int)(o1:Nat×Bool×Int):kX [.ret,.exit 0] (Bmu a0 a1) (Bkq L kk) o1=ob (Qh L o1) (Cex kk):=eE (Qh L o1)
def Uy [An A Bool](L:Nat)(a0:List Int)(a1:List Int)(nx1:A):A:=
 (cn ((a0.length:Int) != (a1.length:Int))
 (lf false)
 nx1)
def Api [An A Bool](a0:List Int)(a1:List Int):A:=Uy L a0 a1 (bd (Ja L a0 a1 L false 0) fun o1=>Qh L o1)
def Vc(a0:List Int)(a1:List Int):Option Bool:=Api L a0 a1
def Cb3:Gk:=E2 B 199 cl3 cl3 (Vc L) fun a0 a1 r h=>hF Tryz.func199 (C:=B2e L) (oS _) L (fun kk=>eE (Uy L a0 a1 (ho (Bze L (Bkq L kk) a0 a1 L (false,0)) fun o1=>B87 L kk a0 a1 o1))) h
def As3 [An A Bool](a0:Bf)(a1:Bf):A:=
 (jp (.cn (a0.Op == a1.Op)
 (.lf (a0.A == a1.A))
 (.lf false)) (fun b1=>
 (jp (.cn b1
 (.lf (a0.B == a1.B))
 (.lf false)) (fun b2=>
 (jp (.cn b2
 (.lf (a0.N == a1.N))
 (.lf false)) (fun b3=>
 (jb (.cn b3
 (.bd (Vc L a0.Values a1.Values) fun r5=>
 (.lf r5))
 (.lf false)) (fun b4=>
 (jb (.cn b4
 (.bd (Vc L a0.Weights a1.Weights) fun r7=>
 (.lf r7))
 (.lf false)) (fun b6=>
 (lf b6)))))))))))
def Acj(a0:Bf)(a1:Bf):Option Bool:=As3 L a0 a1
def B2z:Gk:=E2 B 187 Qa Qa (Acj L) fun a0 a1 r h=>hF Tryz.func187 (oS [Cb3 L]) L (fun kk=>eE (As3 L a0 a1)) h
def Am4 [An A Bool](L:Nat)(a0:Bf):A:=
 (jp (.cn ((a0.Values.length:Int) == 0)
 (.lf ((a0.Weights.length:Int) == 0))
 (.lf false)) (fun b1=>
 (cn (a0.Op == 1)
 (jp (.cn (a0.B == 0)
 (.lf (a0.N == 0))
 (.lf false)) (fun b2=>
 (jp (.cn b2
 (.lf b1)
 (.lf false)) (fun b3=>
 (lf b3)))))
 (cn (a0.Op == 2)
 (cn (a0.Op == 2)
 (jp (.cn (a0.N == 0)
 (.lf b1)
 (.lf false)) (fun b4=>
 (lf b4)))
 (cn (a0.Op == 3)
 (jp (.cn (a0.A == 0)
 (.lf (a0.B == 0))
 (.lf false)) (fun b5=>
 (jp (.cn b5
 (.lf (a0.N == 0))
 (.lf false)) (fun b6=>
 (lf b6)))))
 (cn (a0.Op == 4)
 (lf b1)
 (lf false))))
 (cn (a0.Op == 5)
 (jp (.cn (a0.N == 0)
 (.lf b1)
 (.lf false)) (fun b7=>
 (lf b7)))
 (cn (a0.Op == 3)
 (jp (.cn (a0.A == 0)
 (.lf (a0.B == 0))
 (.lf false)) (fun b8=>
 (jp (.cn b8
 (.lf (a0.N == 0))
 (.lf false)) (fun b9=>
 (lf b9)))))
 (cn (a0.Op == 4)
 (lf b1)
 (lf false))))))))
def Ag4(a0:Bf):Option Bool:=Am4 L a0
def Cb5:Gk:=E1 B 200 Qa (Ag4 L) fun a0 r h=>hF Tryz.func200 (oS []) L (fun kk=>eE (Am4 L a0)) h
def Ake [An A Bool](L:Nat)(a0:Int)(a1:Int)(a2:Int):A:=
 (jp (.cn (decide (a0≥a1))
 (.lf (decide (a0≤a2)))
 (.lf false)) (fun b1=>
 (lf b1)))
def F3(a0:Int)(a1:Int)(a2:Int):Option Bool:=Ake L a0 a1 a2
def B23:Gk:=E3 B 201 (cI .i64) (cI .i64) (cI .i64) (F3 L) fun a0 a1 a2 r h=>hF Tryz.func201 (oS []) L (fun kk=>eE (Ake L a0 a1 a2)) h
noncomputable def Cdq:EC:=CC Tryz.f202
def B2f:Bk:=oL [B23 L]
def Cey:Int→Prop:=fun x=>kk (I x)
def Bmv(a0:Bf)(v:Cw):St:=⟨[(0,.any),(1,.loc 1 0),(2,I v.1),(3,I v.2)],[(1,Tc a0)],0⟩
def y7 [An A Cx](a0:Bf)(rec:Int→Int→A)(Ak:Int)(Ag:Int):A:=
 (cn (decide (Ag < (a0.Values.length:Int)))
 (gq (0≤Ag)
 (gq (Ag < (a0.Values.length:Int))
 (bd (F3 L (a0.Values.getD (Int.toNat Ag) default) 0 1000000000) fun r1=>
 (jb (.cn (!r1)
 (.lf true)
 (.gq (0≤Ag)
 (.gq (Ag < (a0.Weights.length:Int))
 (.bd (F3 L (a0.Weights.getD (Int.toNat Ag) default) 1 1000) fun r3=>
 (.lf (!r3)))))) (fun b2=>
 (cn b2
 (lf (0,2,Ag))
 (rec Ak (Da (Ag+1)))))))))
 (lf (1,Ak,Ag)))
def N4(L:Nat)(a0:Bf):Nat→Int→Int→Option Cx
 |0,_,_=>none
 |n+1,Ak,Ag=>y7 L a0 (N4 L a0 n) Ak Ag
theorem Bzf(a0:Bf):LP (EV (B2f L) L 9 Cdq.x.l.u.l.l) [0,1,2,3] [1] (Bmv a0) [.ret,.exit 0] (fun n v=>N4 L a0 n v.1 v.2) K:=lE (fun _=>rfl) fun n v ih=>eE (y7 L a0 (fun Ak Ag=>re (ih (Ak,Ag))) v.1 v.2)
def Vr [An A Int](L:Nat)(o4:Nat×Cw):A:=
 (sl o4.1 [(lf o4.2.1),
 (lf 0)])
def Bkr:Be:=(Ay 0 (Bl (EV (B2f L) L 9 Cdq.x.r) (C8 Tryz.prog (RS Tryz.f202) kk)))
theorem B88(a0:Bf)(o4:Nat×Cw):kX [.ret,.exit 0] (Bmv a0) (Bkr L kk) o4=ob (Vr L o4) (Cey kk):=eE (Vr L o4)
def Abg [An A Int](L:Nat)(a0:Bf)(nx1:A):A:=
 (cn ((a0.Values.length:Int) != (a0.Weights.length:Int))
 (lf 8)
 (cn ((a0.Values.length:Int) == 0)
 (lf 7)
 (cn (decide ((a0.Values.length:Int) > 20))
 (lf 6)
 nx1)))
def Ayp [An A Int](a0:Bf):A:=Abg L a0 (bd (N4 L a0 L 0 0) fun o4=>Vr L o4)
def Aje(a0:Bf):Option Int:=Ayp L a0
def Cb6:Gk:=E1 I 202 Qa (Aje L) fun a0 r h=>hF Tryz.func202 (C:=B2f L) (oS _) L (fun kk=>eE (Abg L a0 (ho (Bzf L (Bkr L kk) a0 L (0,0)) fun o4=>B88 L kk a0 o4))) h
def Aph [An A Int](a0:Bf):A:=
 (bd (Ag4 L a0) fun r1=>
 (cn (!r1)
 (lf 1)
 (cn (a0.Op == 1)
 (bd (F3 L a0.A 0 1000000000) fun r2=>
 (cn (!r2)
 (lf 2)
 (lf 0)))
 (cn (a0.Op == 2)
 (bd (F3 L a0.A 0 a0.B) fun r3=>
 (jp (.cn r3
 (.lf (decide (a0.B≤1000000000)))
 (.lf false)) (fun b4=>
 (cn (!b4)
 (lf 2)
 (lf 0)))))
 (cn (a0.Op == 3)
 (bd (Aje L a0) fun r5=>
 (lf r5))
 (cn (a0.Op == 4)
 (bd (F3 L a0.N 1 20) fun r6=>
 (jb (.cn r6
 (.bd (F3 L a0.A 0 a0.B) fun r8=>
 (.lf r8))
 (.lf false)) (fun b7=>
 (jp (.cn b7
 (.lf (decide (a0.B≤1000000)))
 (.lf false)) (fun b9=>
 (cn (!b9)
 (lf 2)
 (lf 0)))))))
 (cn (a0.Op == 5)
 (bd (F3 L a0.A 1 1000) fun r10=>
 (jb (.cn r10
 (.bd (F3 L a0.B 1 1000) fun r12=>
 (.lf r12))
 (.lf false)) (fun b11=>
 (cn (!b11)
 (lf 2)
 (lf 0)))))
 (lf 0))))))))
def j7(a0:Bf):Option Int:=Aph L a0
def B20:Gk:=E1 I 188 Qa (j7 L) fun a0 r h=>hF Tryz.func188 (oS [Cb5 L,B23 L,Cb6 L]) L (fun kk=>eE (Aph L a0)) h
def Ah5 [An A Int](a0:Aa)(a1:Af):A:=
 (bd (Dr L a1.Units 0 1000) fun r1=>
 (bd (Ck L r1 2) fun r2=>
 (bd (p9 L a1) fun r3=>
 (bd (C3 L r2 r3) fun r4=>
 (cn (r4 != 0)
 (lf r4)
 (cn (a1.Fault.Stream.toList == (⟨#[]⟩:ByteArray).toList)
 (bd (Acj L a1.Fault.Up (⟨0,0,0,0,[],[]⟩:Bf)) fun r5=>
 (cn r5
 (jb (.bd (Acj L a1.Fault.Down (⟨0,0,0,0,[],[]⟩:Bf)) fun r7=>
 (.lf r7)) (fun b6=>
 (bd (Ck L b6 1) fun r8=>
 (lf r8))))
 (nq (bd (Ck L false 1) fun r9=>
 (lf r9)))))
 (bd (L2 L a0.Streams a1.Fault.Stream) fun r10=>
 (cn (decide (r10 < 0))
 (lf 5)
 (bd (j7 L a1.Fault.Up) fun r11=>
 (bd (j7 L a1.Fault.Down) fun r12=>
 (bd (C3 L r11 r12) fun r13=>
 (lf r13))))))))))))
def Vf(a0:Aa)(a1:Af):Option Int:=Ah5 L a0 a1
def Cbj:Gk:=E2 I 161 C0 Ym (Vf L) fun a0 a1 r h=>hF Tryz.func161 (oS [X46 L,X48 L,Bm6 L,Bcb L,Cby L,B2z L,B20 L]) L (fun kk=>eE (Ah5 L a0 a1)) h
def Bie(F:(List Ac)→Option Int):Prop:=∀y0 r,F y0=some r→Ho Tryz.prog 118 [Acb.en y0] I r
noncomputable def Cc0:EC:=CC Tryz.f118
def B10(D8:(List Ac)→Option Int)(L:Nat):Bk:=(orc 118 (A1 I Acb D8) (oL []))
theorem Ck5(D8:(List Ac)→Option Int)(Bqh:Bie D8)(L:Nat):Ep Tryz.prog (B10 D8 L):=(Gx (a1 _ Bqh) (oS []))
def Ceg(kk:Ct):Int→Prop:=fun x=>kk (I x)
def Bl7(a0:List Ac)(v:Cw):St:=⟨[(0,.lst false (.t69 a0)),(2,I 0),(3,I v.1),(4,I v.2)],[],0⟩
def Aab [An A Cx](D8:(List Ac)→Option Int)(L:Nat)(a0:List Ac)(rec:Int→Int→A)(Am:Int)(Ah:Int):A:=
 (cn (decide (Ah < (a0.length:Int)))
 (gq (0≤Ah)
 (gq (Ah < (a0.length:Int))
 (bd (D8 ((a0.getD (Int.toNat Ah) default).Body)) fun r1=>
 (gq (0≤Ah)
 (gq (Ah < (a0.length:Int))
 (bd (D8 ((a0.getD (Int.toNat Ah) default).Else)) fun r2=>
 (rec (if (Da (1+r2)) > (if (Da (1+r1)) > Am then (Da (1+r1)) else Am) then (Da (1+r2)) else (if (Da (1+r1)) > Am then (Da (1+r1)) else Am)) (Da (Ah+1)))))))))
 (lf (0,Am,Ah)))
def N9(D8:(List Ac)→Option Int)(L:Nat)(a0:List Ac):Nat→Int→Int→Option Cx
 |0,_,_=>none
 |n+1,Am,Ah=>Aab D8 L a0 (N9 D8 L a0 n) Am Ah
theorem Byr(D8:(List Ac)→Option Int)(L:Nat)(K:Be)(a0:List Ac):LP (EV (B10 D8 L) L 9 Cc0.w.l.u.l.l) [0,2,3,4] [] (Bl7 a0) [.exit 0] (fun n v=>N9 D8 L a0 n v.1 v.2) K:=lE (fun _=>rfl) fun n v ih=>eE (Aab D8 L a0 (fun Am Ah=>re (ih (Am,Ah))) v.1 v.2)
def Vw [An A Int](D8:(List Ac)→Option Int)(L:Nat)(o3:Nat×Cw):A:=
 (sl o3.1 [(lf o3.2.1)])
def Bjl(D8:(List Ac)→Option Int)(L:Nat)(kk:Ct):Be:=(Ay 0 (Bl (EV (B10 D8 L) L 9 Cc0.w.r) (C8 Tryz.prog (RS Tryz.f118) kk)))
theorem B72(D8:(List Ac)→Option Int)(L:Nat)(kk:Ct)(a0:List Ac)(o3:Nat×Cw):kX [.exit 0] (Bl7 a0) (Bjl D8 L kk) o3=ob (Vw D8 L o3) (Ceg kk):=eE (Vw D8 L o3)
def Abl [An A Int](D8:(List Ac)→Option Int)(L:Nat)(a0:List Ac)(nx1:A):A:=
 nx1
def Ayu [An A Int](D8:(List Ac)→Option Int)(L:Nat)(a0:List Ac):A:=Abl D8 L a0 (bd (N9 D8 L a0 L 0 0) fun o3=>Vw D8 L o3)
def Ao9(D8:(List Ac)→Option Int)(L:Nat)(a0:List Ac):Option Int:=Ayu D8 L a0
theorem Cjd(D8:(List Ac)→Option Int)(Bqh:Bie D8)(L:Nat):Bie (Ao9 D8 L):=fun a0 r h=>hF Tryz.func118 (Ck5 D8 Bqh L) L (fun kk=>eE (Abl D8 L a0 (ho (Byr D8 L (Bjl D8 L kk) a0 L (0,0)) fun o3=>B72 D8 L kk a0 o3))) h
def P2:Nat→(List Ac)→Option Int
 |0,_=>none
 |L+1,a0=>Ao9 (P2 L) L a0
theorem Bw8(L:Nat):Bie (P2 L):=by
 induction L with
 |zero=>exact fun _ _ h=>(by cases h)
 |succ L ih=>
  have i118:=ih
  exact Cjd (P2 L) i118 L
def Cba(L:Nat):Gk:=E1 I 118 Acb (P2 L) (Bw8 L)
noncomputable def Aie:EC:=CC Tryz.f189
def As2(L:Nat):Bk:=oL []
def A7y:(B9×Bool)→Prop:=fun x=>kk ((fun(x:B9×Bool)=> .tup [.agg (Acu x.1),B x.2]) x)
def Blu:St:=⟨[(2,.loc 2 0),(3,B false)],[(2,[B false,B false,B false,B false,B false,B false,B false,B false,B false])],0⟩
def Blm(L:Nat)(kk:Ct):Be:=(C8 Tryz.prog (RS Tryz.f189) kk)
def Aj7 [An A (B9×Bool)](L:Nat):A:=
 (lf ((⟨false,false,false,false,false,false,false,false,false⟩:B9),false))
theorem Bwl:EV (As2 L) L 9 Aie.w (Blu) (Blm L kk)=ob (Aj7 L) (A7y kk):=eE (Aj7 L)
def A17(a0:Int)(p803_2:Bool):St:=⟨[(2,.loc 2 0),(3,B false),(4,I a0),(32,B p803_2)],[(2,[B false,B false,B false,B false,B false,B false,B false,B false,B false])],0⟩
def A1x(e0:EC):Be:=(Ay 0 (Bl (EV (As2 L) L 9 e0) (C8 Tryz.prog (RS Tryz.f189) kk)))
def sx_R10_Of_3 [An A (B9×Bool)](L:Nat)(a0:Int)(p803_2:Bool)(nx1:A):A:=
 (cn p803_2
 (lf ((⟨true,false,false,false,false,false,false,false,false⟩:B9),true))
 (cn (a0 == 13)
 (lf ((⟨true,true,true,false,true,false,false,false,false⟩:B9),true))
 (cn (a0 == 14)
 (lf ((⟨true,false,true,false,true,false,false,false,false⟩:B9),true))
 (cn (a0 == 18)
 (lf ((⟨false,false,false,false,false,false,false,false,false⟩:B9),true))
 nx1))))
def Arm [An A (B9×Bool)](a0:Int)(p803_2:Bool):A:=sx_R10_Of_3 L a0 p803_2 (Aj7 L)
theorem Bw0(a0:Int)(p803_2:Bool)(z1:EC):EV (As2 L) L 9 Aie.u.l.u.l.x.x.w.u.r (A17 a0 p803_2) (A1x L kk (EC.put (rl [1]) z1 Aie.u.r))= @sx_R10_Of_3 Prop (anP (A7y kk)) L a0 p803_2 (EV (As2 L) L 9 z1 (Blu) (Blm L kk)):=by kernel_rfl
theorem Bwn(a0:Int)(p803_2:Bool):EV (As2 L) L 9 Aie.u.l.u.l.x.x.w.u.r (A17 a0 p803_2) (A1x L kk Aie.u.r)=ob (Arm L a0 p803_2) (A7y kk):=Eq.trans (b:=EV (As2 L) L 9 Aie.u.l.u.l.x.x.w.u.r (A17 a0 p803_2) (A1x L kk (EC.put (rl [1]) Aie.w Aie.u.r))) (by kernel_rfl) ((Bw0 L kk a0 p803_2 Aie.w).trans (eE (sx_R10_Of_3 L a0 p803_2 (re (Bwl L kk)))))
def A16(a0:Int)(p802_2:Bool):St:=⟨[(2,.loc 2 0),(3,B false),(4,I a0),(5,B p802_2)],[(2,[B false,B false,B false,B false,B false,B false,B false,B false,B false])],0⟩
def A1w(e0:EC):Be:=(Ay 0 (Bl (EV (As2 L) L 9 e0) (C8 Tryz.prog (RS Tryz.f189) kk)))
def sx_R10_Of_2 [An A (B9×Bool)](L:Nat)(a0:Int)(p802_2:Bool)(nx3:Int→Bool→A):A:=
 (cn p802_2
 (lf ((⟨true,false,true,false,false,false,false,false,false⟩:B9),true))
 (cn (a0 == 2)
 (lf ((⟨true,true,false,false,false,true,false,false,false⟩:B9),true))
 (cn (a0 == 3)
 (lf ((⟨false,false,true,false,false,false,false,true,true⟩:B9),true))
 (cn (a0 == 4)
 (lf ((⟨false,false,true,false,false,false,false,true,false⟩:B9),true))
 (cn (a0 == 5)
 (lf ((⟨false,false,true,false,false,false,false,false,false⟩:B9),true))
 (cn (a0 == 6)
 (lf ((⟨true,false,true,true,false,false,true,false,false⟩:B9),true))
 (cn (a0 == 9)
 (lf ((⟨true,true,false,false,false,false,false,false,false⟩:B9),true))
 (cn (a0 == 10)
 (nx3 a0 (a0 == 10))
 (nx3 a0 (a0 == 11))))))))))
def Arl [An A (B9×Bool)](a0:Int)(p802_2:Bool):A:=sx_R10_Of_2 L a0 p802_2 (fun a0 p803_2=>Arm L a0 p803_2)
theorem Bwz(a0:Int)(p802_2:Bool)(z3:EC):EV (As2 L) L 9 (EC.put (rl [21]) z3 Aie.u.l.u.l.u) (A16 a0 p802_2) (A1w L kk Aie.u.r)= @sx_R10_Of_2 Prop (anP (A7y kk)) L a0 p802_2 (fun a0 p803_2=>EV (As2 L) L 9 z3 (A17 a0 p803_2) (A1x L kk Aie.u.r)):=by kernel_rfl
theorem Bwm(a0:Int)(p802_2:Bool):EV (As2 L) L 9 Aie.u.l.u.l.u (A16 a0 p802_2) (A1w L kk Aie.u.r)=ob (Arl L a0 p802_2) (A7y kk):=Eq.trans (b:=EV (As2 L) L 9 (EC.put (rl [21]) Aie.u.l.u.l.x.x.w.u.r Aie.u.l.u.l.u) (A16 a0 p802_2) (A1w L kk Aie.u.r)) (by kernel_rfl) ((Bwz L kk a0 p802_2 Aie.u.l.u.l.x.x.w.u.r).trans (eE (sx_R10_Of_2 L a0 p802_2 (fun a0 p803_2=>re (Bwn L kk a0 p803_2)))))
def sx_R10_Of_0 [An A (B9×Bool)](L:Nat)(a0:Int)(nx2:Int→Bool→A):A:=
 (cn (a0 == 1)
 (nx2 a0 (a0 == 1))
 (cn (a0 == 7)
 (nx2 a0 (a0 == 7))
 (cn (a0 == 8)
 (nx2 a0 (a0 == 8))
 (cn (a0 == 12)
 (nx2 a0 (a0 == 12))
 (cn (a0 == 15)
 (nx2 a0 (a0 == 15))
 (cn (a0 == 16)
 (nx2 a0 (a0 == 16))
 (nx2 a0 (a0 == 17))))))))
def Bca [An A (B9×Bool)](a0:Int):A:=sx_R10_Of_0 L a0 (fun a0 p802_2=>Arl L a0 p802_2)
theorem Bwy(a0:Int)(z2:EC):EW (As2 L) L 9 (RS Tryz.f189) (EC.put (rl [2,1,2,1,2]) z2 Aie) [I a0] kk= @sx_R10_Of_0 Prop (anP (A7y kk)) L a0 (fun a0 p802_2=>EV (As2 L) L 9 z2 (A16 a0 p802_2) (A1w L kk Aie.u.r)):=by kernel_rfl
def Apd(a0:Int):Option (B9×Bool):=Bca L a0
def B21:Gk:=E1 (fun(x:B9×Bool)=> .tup [.agg (Acu x.1),B x.2]) 189 (cI .i64) (Apd L) fun a0 r h=>hF Tryz.func189 (C:=As2 L) (oS _) L (fun kk=>Eq.trans (b:=EW (As2 L) L 9 (RS Tryz.f189) (EC.put (rl [2,1,2,1,2]) Aie.u.l.u.l.u Aie) [I a0] kk) (by kernel_rfl) ((Bwy L kk a0 Aie.u.l.u.l.u).trans (eE (sx_R10_Of_0 L a0 (fun a0 p802_2=>re (Bwm L kk a0 p802_2)))))) h
def As5 [An A Bool](L:Nat)(a0:Ab):A:=
 (jp (.cn (a0.Op == 0)
 (.lf (a0.Name.toList == (⟨#[]⟩:ByteArray).toList))
 (.lf false)) (fun b1=>
 (jp (.cn b1
 (.lf (a0.N == 0))
 (.lf false)) (fun b2=>
 (jp (.cn b2
 (.lf ((a0.Kids.length:Int) == 0))
 (.lf false)) (fun b3=>
 (lf b3)))))))
def Ahy(a0:Ab):Option Bool:=As5 L a0
def Cb7:Gk:=E1 B 203 Bs (Ahy L) fun a0 r h=>hF Tryz.func203 (oS []) L (fun kk=>eE (As5 L a0)) h
def Am7 [An A Bool](a0:Ac):A:=
 (bd (Apd L a0.Op) fun r1=>
 (jp (.cn r1.1.Name
 (.lf true)
 (.lf (a0.Name.toList == (⟨#[]⟩:ByteArray).toList))) (fun b2=>
 (jp (.cn b2
 (.cn r1.1.Of
 (.lf true)
 (.lf (a0.Of.toList == (⟨#[]⟩:ByteArray).toList)))
 (.lf false)) (fun b3=>
 (jb (.cn r1.1.E
 (.lf true)
 (.bd (Ahy L (Ab.cp a0.E)) fun r5=>
 (.lf r5))) (fun b4=>
 (jb (.cn b4
 (.cn r1.1.F
 (.lf true)
 (.bd (Ahy L (Ab.cp a0.F)) fun r7=>
 (.lf r7)))
 (.lf false)) (fun b6=>
 (jp (.cn b6
 (.cn r1.1.Args
 (.lf true)
 (.lf ((a0.Args.length:Int) == 0)))
 (.lf false)) (fun b8=>
 (jp (.cn r1.1.Body
 (.lf true)
 (.lf ((a0.Body.length:Int) == 0))) (fun b9=>
 (jp (.cn b9
 (.cn r1.1.Else
 (.lf true)
 (.lf ((a0.Else.length:Int) == 0)))
 (.lf false)) (fun b10=>
 (jp (.cn r1.2
 (.lf b3)
 (.lf false)) (fun b11=>
 (jp (.cn b11
 (.lf b8)
 (.lf false)) (fun b12=>
 (jp (.cn b12
 (.lf b10)
 (.lf false)) (fun b13=>
 (cn b13
 (cn r1.1.Dist
 (nq (jp (.cn r1.1.Flag
 (.lf true)
 (.lf (!a0.Flag))) (fun b14=>
 (lf b14))))
 (bd (Acj L a0.Dist (⟨0,0,0,0,[],[]⟩:Bf)) fun r15=>
 (nq (jp (.cn r15
 (.cn r1.1.Flag
 (.lf true)
 (.lf (!a0.Flag)))
 (.lf false)) (fun b16=>
 (lf b16))))))
 (nq (nq (lf false)))))))))))))))))))))))))
def Ag5(a0:Ac):Option Bool:=Am7 L a0
def Cbz:Gk:=E1 B 190 Hj (Ag5 L) fun a0 r h=>hF Tryz.func190 (oS [B2z L,B21 L,Cb7 L]) L (fun kk=>eE (Am7 L a0)) h
def Bvm(F:Ab→Option Int):Prop:=∀y0 r,F y0=some r→Ho Tryz.prog 64 [Bs.en y0] I r
noncomputable def c64:EC:=CC Tryz.f64
def O64(Hy:Ab→Option Int)(L:Nat):Bk:=(orc 64 (A1 I Bs Hy) (oL []))
theorem s64(Hy:Ab→Option Int)(B5b:Bvm Hy)(L:Nat):Ep Tryz.prog (O64 Hy L):=(Gx (a1 _ B5b) (oS []))
def Ckd(kk:Ct):Int→Prop:=fun x=>kk (I x)
def Bt4(a0:Ab)(v:Cw):St:=⟨[(0,.any),(1,.loc 1 0),(2,I 0),(3,I v.1),(4,I v.2)],[(1,C5 a0)],0⟩
def y9 [An A Cx](Hy:Ab→Option Int)(L:Nat)(a0:Ab)(rec:Int→Int→A)(Ag:Int)(Am:Int):A:=
 (cn (decide (Am < (a0.Kids.length:Int)))
 (gq (0≤Am)
 (gq (Am < (a0.Kids.length:Int))
 (bd (Hy (Ab.cp (a0.Kids.getD (Int.toNat Am) default))) fun r1=>
 (rec (Da (Ag+r1)) (Da (Am+1))))))
 (lf (0,Ag,Am)))
def N7(Hy:Ab→Option Int)(L:Nat)(a0:Ab):Nat→Int→Int→Option Cx
 |0,_,_=>none
 |n+1,Ag,Am=>y9 Hy L a0 (N7 Hy L a0 n) Ag Am
theorem B7b(Hy:Ab→Option Int)(L:Nat)(K:Be)(a0:Ab):LP (EV (O64 Hy L) L 9 c64.w.l.u.l.l) [0,1,2,3,4] [1] (Bt4 a0) [.exit 0] (fun n v=>N7 Hy L a0 n v.1 v.2) K:=lE (fun _=>rfl) fun n v ih=>eE (y9 Hy L a0 (fun Ag Am=>re (ih (Ag,Am))) v.1 v.2)
def Vu [An A Int](Hy:Ab→Option Int)(L:Nat)(o2:Nat×Cw):A:=
 (sl o2.1 [(lf o2.2.1)])
def Br5(Hy:Ab→Option Int)(L:Nat)(kk:Ct):Be:=(Ay 0 (Bl (EV (O64 Hy L) L 9 c64.w.r) (C8 Tryz.prog (RS Tryz.f64) kk)))
theorem Chj(Hy:Ab→Option Int)(L:Nat)(kk:Ct)(a0:Ab)(o2:Nat×Cw):kX [.exit 0] (Bt4 a0) (Br5 Hy L kk) o2=ob (Vu Hy L o2) (Ckd kk):=eE (Vu Hy L o2)
def Abj [An A Int](Hy:Ab→Option Int)(L:Nat)(a0:Ab)(nx1:A):A:=
 nx1
def Ays [An A Int](Hy:Ab→Option Int)(L:Nat)(a0:Ab):A:=Abj Hy L a0 (bd (N7 Hy L a0 L 1 0) fun o2=>Vu Hy L o2)
def Ao7(Hy:Ab→Option Int)(L:Nat)(a0:Ab):Option Int:=Ays Hy L a0
theorem b64(Hy:Ab→Option Int)(B5b:Bvm Hy)(L:Nat):Bvm (Ao7 Hy L):=fun a0 r h=>hF Tryz.func64 (s64 Hy B5b L) L (fun kk=>eE (Abj Hy L a0 (ho (B7b Hy L (Br5 Hy L kk) a0 L (1,0)) fun o2=>Chj Hy L kk a0 o2))) h
def P1:Nat→Ab→Option Int
 |0,_=>none
 |L+1,a0=>Ao7 (P1 L) L a0
theorem B4x(L:Nat):Bvm (P1 L):=by
 induction L with
 |zero=>exact fun _ _ h=>(by cases h)
 |succ L ih=>
  have i64:=ih
  exact b64 (P1 L) i64 L
def X64(L:Nat):Gk:=E1 I 64 Bs (P1 L) (B4x L)
def Bvn(F:Ab→Option Int):Prop:=∀y0 r,F y0=some r→Ho Tryz.prog 65 [Bs.en y0] I r
noncomputable def c65:EC:=CC Tryz.f65
def O65(Hz:Ab→Option Int)(L:Nat):Bk:=(orc 65 (A1 I Bs Hz) (oL []))
theorem s65(Hz:Ab→Option Int)(B5c:Bvn Hz)(L:Nat):Ep Tryz.prog (O65 Hz L):=(Gx (a1 _ B5c) (oS []))
def Cke(kk:Ct):Int→Prop:=fun x=>kk (I x)
def Bt5(a0:Ab)(v:Cw):St:=⟨[(0,.any),(1,.loc 1 0),(2,I 0),(3,I v.1),(4,I v.2)],[(1,C5 a0)],0⟩
def y8 [An A Cx](Hz:Ab→Option Int)(L:Nat)(a0:Ab)(rec:Int→Int→A)(Ag:Int)(Am:Int):A:=
 (cn (decide (Am < (a0.Kids.length:Int)))
 (gq (0≤Am)
 (gq (Am < (a0.Kids.length:Int))
 (bd (Hz (Ab.cp (a0.Kids.getD (Int.toNat Am) default))) fun r1=>
 (rec (if r1 > Ag then r1 else Ag) (Da (Am+1))))))
 (lf (0,Ag,Am)))
def N6(Hz:Ab→Option Int)(L:Nat)(a0:Ab):Nat→Int→Int→Option Cx
 |0,_,_=>none
 |n+1,Ag,Am=>y8 Hz L a0 (N6 Hz L a0 n) Ag Am
theorem B7c(Hz:Ab→Option Int)(L:Nat)(K:Be)(a0:Ab):LP (EV (O65 Hz L) L 9 c65.w.l.u.l.l) [0,1,2,3,4] [1] (Bt5 a0) [.exit 0] (fun n v=>N6 Hz L a0 n v.1 v.2) K:=lE (fun _=>rfl) fun n v ih=>eE (y8 Hz L a0 (fun Ag Am=>re (ih (Ag,Am))) v.1 v.2)
def Vt [An A Int](Hz:Ab→Option Int)(L:Nat)(o2:Nat×Cw):A:=
 (sl o2.1 [(lf (Da (o2.2.1+1)))])
def Br6(Hz:Ab→Option Int)(L:Nat)(kk:Ct):Be:=(Ay 0 (Bl (EV (O65 Hz L) L 9 c65.w.r) (C8 Tryz.prog (RS Tryz.f65) kk)))
theorem Chk(Hz:Ab→Option Int)(L:Nat)(kk:Ct)(a0:Ab)(o2:Nat×Cw):kX [.exit 0] (Bt5 a0) (Br6 Hz L kk) o2=ob (Vt Hz L o2) (Cke kk):=eE (Vt Hz L o2)
def Abi [An A Int](Hz:Ab→Option Int)(L:Nat)(a0:Ab)(nx1:A):A:=
 nx1
def Ayr [An A Int](Hz:Ab→Option Int)(L:Nat)(a0:Ab):A:=Abi Hz L a0 (bd (N6 Hz L a0 L 0 0) fun o2=>Vt Hz L o2)
def Ao6(Hz:Ab→Option Int)(L:Nat)(a0:Ab):Option Int:=Ayr Hz L a0
theorem b65(Hz:Ab→Option Int)(B5c:Bvn Hz)(L:Nat):Bvn (Ao6 Hz L):=fun a0 r h=>hF Tryz.func65 (s65 Hz B5c L) L (fun kk=>eE (Abi Hz L a0 (ho (B7c Hz L (Br6 Hz L kk) a0 L (0,0)) fun o2=>Chk Hz L kk a0 o2))) h
def P0:Nat→Ab→Option Int
 |0,_=>none
 |L+1,a0=>Ao6 (P0 L) L a0
theorem B4y(L:Nat):Bvn (P0 L):=by
 induction L with
 |zero=>exact fun _ _ h=>(by cases h)
 |succ L ih=>
  have i65:=ih
  exact b65 (P0 L) i65 L
def X65(L:Nat):Gk:=E1 I 65 Bs (P0 L) (B4y L)
def Apk [An A Int](L:Nat)(a0:Int):A:=
 (jp (.cn (decide (a0 < 1))
 (.lf true)
 (.lf (decide (a0 > 26)))) (fun b1=>
 (cn b1
 (lf (-1))
 (jp (.cn (decide (a0≥5))
 (.lf (decide (a0≤8)))
 (.lf false)) (fun b2=>
 (cn b2
 (lf 1)
 (jp (.cn (decide (a0≥9))
 (.lf (decide (a0≤21)))
 (.lf false)) (fun b3=>
 (cn b3
 (lf 2)
 (lf 0))))))))))
def Ajf(a0:Int):Option Int:=Apk L a0
def B2q:Gk:=E1 I 142 (cI .i64) (Ajf L) fun a0 r h=>hF Tryz.func142 (oS []) L (fun kk=>eE (Apk L a0)) h
def Am6 [An A Bool](L:Nat)(a0:Int):A:=
 (jp (.cn (decide (a0≥22))
 (.lf (decide (a0≤24)))
 (.lf false)) (fun b1=>
 (lf b1)))
def o0(a0:Int):Option Bool:=Am6 L a0
def B2r:Gk:=E1 B 143 (cI .i64) (o0 L) fun a0 r h=>hF Tryz.func143 (oS []) L (fun kk=>eE (Am6 L a0)) h
end Go.Proofs.YtogleahbpobaiaaGreat.Ev
