import Derived.Test.YthjhkpgonleelaaGreatDoorAG0
namespace Go.Proofs.YthjhkpgonleelaaGreatDoor.Ev
open Go An
set_option maxRecDepth 100000
set_option maxHeartbeats 4000000
set_option linter.unusedVariables false
set_option linter.unusedSimpArgs false
set_option linter.unnecessarySimpa false
noncomputable section
variable {A:Type} (L n:Nat) (kk:Cc) (K:Bg) (k:Bu)
def Aip [An A Bool](L:Nat)(a0:Int):A:=
 (jp (.cn (decide (a0≥97))
 (.lf (decide (a0≤122)))
 (.lf false)) (fun b1=>
 (lf b1)))
def u6(a0:Int):Option Bool:=Aip L a0
def X45:Di:=E1 B 45 (cI .u8) (u6 L) fun a0 r h=>hF Tryz.func45 (oS []) L (fun kk=>eE (Aip L a0)) h
def Acr [An A (List ByteArray)](L:Nat):A:=
 (lf [(⟨#[97,100,100]⟩:ByteArray),(⟨#[97,102,116,101,114]⟩:ByteArray),(⟨#[97,110,100]⟩:ByteArray),(⟨#[97,116]⟩:ByteArray),(⟨#[98,101,108,116]⟩:ByteArray),(⟨#[98,111,111,108]⟩:ByteArray),(⟨#[99,111,110,115,101,114,118,101]⟩:ByteArray),(⟨#[99,111,110,115,116]⟩:ByteArray),(⟨#[99,111,117,110,116]⟩:ByteArray),(⟨#[99,121,99,108,101]⟩:ByteArray),(⟨#[100,111,119,110]⟩:ByteArray),(⟨#[100,114,97,119]⟩:ByteArray),(⟨#[100,117,114]⟩:ByteArray),(⟨#[101,108,115,101]⟩:ByteArray),(⟨#[101,110,100]⟩:ByteArray),(⟨#[101,118,101,114,121]⟩:ByteArray),(⟨#[102,97,108,115,101]⟩:ByteArray),(⟨#[102,97,117,108,116]⟩:ByteArray),(⟨#[102,105,102,111]⟩:ByteArray),(⟨#[102,114,101,101]⟩:ByteArray),(⟨#[102,114,111,109]⟩:ByteArray),(⟨#[103,101,111,109]⟩:ByteArray),(⟨#[103,101,116]⟩:ByteArray),(⟨#[104,111,108,100]⟩:ByteArray),(⟨#[105,102]⟩:ByteArray),(⟨#[105,110,116]⟩:ByteArray),(⟨#[105,110,116,111]⟩:ByteArray),(⟨#[108,101,97,115,116]⟩:ByteArray),(⟨#[108,101,118,101,108]⟩:ByteArray),(⟨#[108,105,102,111]⟩:ByteArray),(⟨#[108,105,110,107]⟩:ByteArray),(⟨#[108,111,99,97,108]⟩:ByteArray),(⟨#[109,97,120]⟩:ByteArray),(⟨#[109,105,110]⟩:ByteArray),(⟨#[109,111,100,101,108]⟩:ByteArray),(⟨#[110,111,116]⟩:ByteArray),(⟨#[110,111,119]⟩:ByteArray),(⟨#[111,98,115,101,114,118,101]⟩:ByteArray),(⟨#[111,114]⟩:ByteArray),(⟨#[112,97,114,97,109]⟩:ByteArray),(⟨#[112,114,101,101,109,112,116]⟩:ByteArray),(⟨#[112,114,105,111]⟩:ByteArray),(⟨#[112,117,116]⟩:ByteArray),(⟨#[113,117,101,117,101]⟩:ByteArray),(⟨#[114,101,108,101,97,115,101]⟩:ByteArray),(⟨#[114,101,115,111,117,114,99,101]⟩:ByteArray),(⟨#[114,105,100,101]⟩:ByteArray),(⟨#[114,111,117,116,105,110,101]⟩:ByteArray),(⟨#[115,101,105,122,101]⟩:ByteArray),(⟨#[115,101,110,100]⟩:ByteArray),(⟨#[115,101,116]⟩:ByteArray),(⟨#[115,104,105,102,116]⟩:ByteArray),(⟨#[115,105,103,110,97,108]⟩:ByteArray),(⟨#[115,105,116,101]⟩:ByteArray),(⟨#[115,105,122,101]⟩:ByteArray),(⟨#[115,112,97,119,110]⟩:ByteArray),(⟨#[115,116,97,114,116]⟩:ByteArray),(⟨#[115,116,111,112]⟩:ByteArray),(⟨#[115,116,111,114,101]⟩:ByteArray),(⟨#[115,116,114,101,97,109]⟩:ByteArray),(⟨#[115,117,109]⟩:ByteArray),(⟨#[116,97,98,108,101]⟩:ByteArray),(⟨#[116,97,108,108,121]⟩:ByteArray),(⟨#[116,105,99,107,115]⟩:ByteArray),(⟨#[116,105,109,101]⟩:ByteArray),(⟨#[116,114,117,101]⟩:ByteArray),(⟨#[117,110,105,102,111,114,109]⟩:ByteArray),(⟨#[117,110,116,105,108]⟩:ByteArray),(⟨#[117,112]⟩:ByteArray),(⟨#[118,97,114]⟩:ByteArray),(⟨#[119,97,105,116]⟩:ByteArray),(⟨#[119,97,105,116,105,110,103]⟩:ByteArray),(⟨#[119,104,105,108,101]⟩:ByteArray)])
def Acb:Option (List ByteArray):=Acr L
def X70:Di:=E0 (fun(x:List ByteArray)=>lv (.t9 x)) 70 (Acb L) fun r h=>hF Tryz.func70 (oS []) L (fun kk=>eE (Acr L)) h
def c69:=CC Tryz.f69
def O69(L:Nat):Bi:=oL []
def Beb(a0:List ByteArray)(a1:ByteArray)(v:C8):St:=⟨[(0,lv (.t9 a0)),(1,S a1),(4,I v.1),(5,I v.2)],[],0⟩
def Af7 [An A Cq](L:Nat)(a0:List ByteArray)(a1:ByteArray)(rec:Int→Int→A)(Ao:Int)(Ag:Int):A:=
 (lw Ag a0
 (cn ((a0.getD (Int.toNat Ag) default).toList == a1.toList)
 (lf (0,Ag,Ag))
 (rec Ao (Bo (Ag+1))))
 (lf (1,Ao,Ag)))
def Xw(L:Nat)(a0:List ByteArray)(a1:ByteArray):Nat→Int→Int→Option Cq
 |0,_,_=>none
 |n+1,Ao,Ag=>Af7 L a0 a1 (Xw L a0 a1 n) Ao Ag
theorem Bov(a0:List ByteArray)(a1:ByteArray):LP (EV (O69 L) L 9 c69.u.l.u.l.l) [0,1,4,5] [] (Beb a0 a1) [.ret,.exit 0] (fun n v=>Xw L a0 a1 n v.1 v.2) K:=lE (fun _=>rfl) fun n v ih=>eE (Af7 L a0 a1 (fun Ao Ag=>re (ih (Ao,Ag))) v.1 v.2)
def Ya [An A Int](L:Nat)(o1:Nat×C8):A:=
 (sl o1.1 [(lf o1.2.1),
 (lf (-1))])
def Bch:Bg:=(Bb 0 (Bp (EV (O69 L) L 9 c69.u.r) (Ct Tryz.prog (RS Tryz.f69) kk)))
theorem Bwx(a0:List ByteArray)(a1:ByteArray)(o1:Nat×C8):kX [.ret,.exit 0] (Beb a0 a1) (Bch L kk) o1=ob (Ya L o1) (kQ I kk):=eE (Ya L o1)
def Azl [An A Int](a0:List ByteArray)(a1:ByteArray):A:=(bd (Xw L a0 a1 L 0 0) fun o1=>Ya L o1)
def N6(a0:List ByteArray)(a1:ByteArray):Option Int:=Azl L a0 a1
def X69:Di:=E2 I 69 cl9 cS (N6 L) fun a0 a1 r h=>hF Tryz.func69 (C:=O69 L) (oS _) L (fun kk=>eE ((ho (Bov L (Bch L kk) a0 a1 L (0,0)) fun o1=>Bwx L kk a0 a1 o1))) h
def Afw [An A Bool](a0:ByteArray):A:=
 (bd (Acb L) fun r1=>
 (bd (N6 L r1 a0) fun r2=>
 (lf (decide (r2≥0)))))
def Afm(a0:ByteArray):Option Bool:=Afw L a0
def X46:Di:=E1 B 46 cS (Afm L) fun a0 r h=>hF Tryz.func46 (oS [X69 L,X70 L]) L (fun kk=>eE (Afw L a0)) h
def c30:=CC Tryz.f30
def O30:Bi:=oL [X45 L,X46 L]
def Bdv(a0:ByteArray)(v:C8):St:=⟨[(0,S a0),(2,I v.1),(3,I v.2)],[],0⟩
def Adc [An A Cq](a0:ByteArray)(rec:Int→Int→A)(Aw:Int)(Ao:Int):A:=
 (cn (decide (Ao < (a0.size:Int)))
 (cn ((if 0≤Ao then a0[Int.toNat Ao]? else none).isSome)
 (bd (u6 L (Lq (if 0≤Ao then a0[Int.toNat Ao]? else none))) fun r6=>
 (jb (.cn (!r6)
 (.cn ((if 0≤Ao then a0[Int.toNat Ao]? else none).isSome)
 (.lf ((Lq (if 0≤Ao then a0[Int.toNat Ao]? else none)) != 95))
 .fl)
 (.lf false)) (fun b7=>
 (jb (.cn b7
 (.cn ((if 0≤Ao then a0[Int.toNat Ao]? else none).isSome)
 (.cn (decide ((Lq (if 0≤Ao then a0[Int.toNat Ao]? else none)) < 48))
 (.lf true)
 (.cn ((if 0≤Ao then a0[Int.toNat Ao]? else none).isSome)
 (.lf (decide ((Lq (if 0≤Ao then a0[Int.toNat Ao]? else none)) > 57)))
 .fl))
 .fl)
 (.lf false)) (fun b8=>
 (cn b8
 (lf (0,3,Ao))
 (rec Aw (Bo (Ao+1)))))))))
 fl)
 (lf (1,Aw,Ao)))
def Ug(L:Nat)(a0:ByteArray):Nat→Int→Int→Option Cq
 |0,_,_=>none
 |n+1,Aw,Ao=>Adc L a0 (Ug L a0 n) Aw Ao
theorem Bn2(a0:ByteArray):LP (EV (O30 L) L 9 c30.w.l.u.l.l) [0,2,3] [] (Bdv a0) [.ret,.exit 0] (fun n v=>Ug L a0 n v.1 v.2) K:=lE (fun _=>rfl) fun n v ih=>eE (Adc L a0 (fun Aw Ao=>re (ih (Aw,Ao))) v.1 v.2)
def U2 [An A Int](L:Nat)(o9:Nat×C8):A:=
 (sl o9.1 [(lf o9.2.1),
 (lf 0)])
def Bbo:Bg:=(Bb 0 (Bp (EV (O30 L) L 9 c30.w.r) (Ct Tryz.prog (RS Tryz.f30) kk)))
theorem Bv4(a0:ByteArray)(o9:Nat×C8):kX [.ret,.exit 0] (Bdv a0) (Bbo L kk) o9=ob (U2 L o9) (kQ I kk):=eE (U2 L o9)
def Aem [An A Int](a0:ByteArray)(nx1:A):A:=
 (jp (.cn (decide ((a0.size:Int) < 1))
 (.lf true)
 (.lf (decide ((a0.size:Int) > 24)))) (fun b1=>
 (jb (.cn b1
 (.lf true)
 (.cn ((if 0≤0 then a0[Int.toNat 0]? else none).isSome)
 (.bd (u6 L (Lq (if 0≤0 then a0[Int.toNat 0]? else none))) fun r3=>
 (.lf (!r3)))
 .fl)) (fun b2=>
 (jb (.cn b2
 (.lf true)
 (.bd (Afm L a0) fun r5=>
 (.lf r5))) (fun b4=>
 (cn b4
 (lf 3)
 nx1)))))))
def Awa [An A Int](a0:ByteArray):A:=Aem L a0 (bd (Ug L a0 L 0 0) fun o9=>U2 L o9)
def Gz(a0:ByteArray):Option Int:=Awa L a0
def X30:Di:=E1 I 30 cS (Gz L) fun a0 r h=>hF Tryz.func30 (C:=O30 L) (oS _) L (fun kk=>eE (Aem L a0 (ho (Bn2 L (Bbo L kk) a0 L (0,0)) fun o9=>Bv4 L kk a0 o9))) h
def Ais [An A Int](L:Nat)(a0:Bool)(a1:Int):A:=
 (cn a0
 (lf 0)
 (lf a1))
def Ci(a0:Bool)(a1:Int):Option Int:=Ais L a0 a1
def X48:Di:=E2 I 48 cB (cI .i64) (Ci L) fun a0 a1 r h=>hF Tryz.func48 (oS []) L (fun kk=>eE (Ais L a0 a1)) h
def Amo [An A Int](L:Nat)(a0:Int)(a1:Int):A:=
 (cn (a0 != 0)
 (lf a0)
 (lf a1))
def C5(a0:Int)(a1:Int):Option Int:=Amo L a0 a1
def X47:Di:=E2 I 47 (cI .i64) (cI .i64) (C5 L) fun a0 a1 r h=>hF Tryz.func47 (oS []) L (fun kk=>eE (Amo L a0 a1)) h
def Amp [An A Int](a0:ByteArray)(a1:List ByteArray):A:=
 (bd (Gz L a0) fun r1=>
 (bd (N6 L a1 a0) fun r2=>
 (bd (Ci L (decide (r2 < 0)) 4) fun r3=>
 (bd (C5 L r1 r3) fun r4=>
 (lf r4)))))
def Ma(a0:ByteArray)(a1:List ByteArray):Option Int:=Amp L a0 a1
def X50:Di:=E2 I 50 cS cl9 (Ma L) fun a0 a1 r h=>hF Tryz.func50 (oS [X30 L,X47 L,X48 L,X69 L]) L (fun kk=>eE (Amp L a0 a1)) h
def Amn [An A Bool](L:Nat)(a0:Int):A:=
 (jp (.cn (a0 == 1)
 (.lf true)
 (.lf (a0 == 2))) (fun b1=>
 (jp (.cn b1
 (.lf true)
 (.lf (a0 == 3))) (fun b2=>
 (lf b2)))))
def V4(a0:Int):Option Bool:=Amn L a0
def X71:Di:=E1 B 71 (cI .i64) (V4 L) fun a0 r h=>hF Tryz.func71 (oS []) L (fun kk=>eE (Amn L a0)) h
def Av8 [An A Bool](L:Nat)(a0:Int):A:=
 (jp (.cn (decide (a0≥(-1000000000000)))
 (.lf (decide (a0≤1000000000000)))
 (.lf false)) (fun b1=>
 (lf b1)))
def Aid(a0:Int):Option Bool:=Av8 L a0
def A9p:Di:=E1 B 131 (cI .i64) (Aid L) fun a0 r h=>hF Tryz.func131 (oS []) L (fun kk=>eE (Av8 L a0)) h
def Ait [An A Bool](L:Nat)(a0:Int)(a1:Int)(a2:Int):A:=
 (jp (.cn (decide (a0≥a1))
 (.lf (decide (a0≤a2)))
 (.lf false)) (fun b1=>
 (lf b1)))
def Dj(a0:Int)(a1:Int)(a2:Int):Option Bool:=Ait L a0 a1 a2
def X78:Di:=E3 B 78 (cI .i64) (cI .i64) (cI .i64) (Dj L) fun a0 a1 a2 r h=>hF Tryz.func78 (oS []) L (fun kk=>eE (Ait L a0 a1 a2)) h
def Apv [An A Bool](a0:Int)(a1:Int):A:=
 (cn (a0 == 1)
 (bd (Aid L a1) fun r1=>
 (lf r1))
 (cn (a0 == 2)
 (jp (.cn (a1 == 0)
 (.lf true)
 (.lf (a1 == 1))) (fun b2=>
 (lf b2)))
 (cn (a0 == 3)
 (bd (Dj L a1 0 1000000000) fun r3=>
 (lf r3))
 (lf false))))
def u9(a0:Int)(a1:Int):Option Bool:=Apv L a0 a1
def X72:Di:=E2 B 72 (cI .i64) (cI .i64) (u9 L) fun a0 a1 r h=>hF Tryz.func72 (oS [X78 L,A9p L]) L (fun kk=>eE (Apv L a0 a1)) h
def Amq [An A Int](a0:Av)(a1:List ByteArray):A:=
 (bd (Ma L a0.Name a1) fun r1=>
 (bd (V4 L a0.Type_) fun r2=>
 (bd (Ci L r2 1) fun r3=>
 (bd (C5 L r1 r3) fun r4=>
 (bd (u9 L a0.Type_ a0.N) fun r5=>
 (bd (Ci L r5 2) fun r6=>
 (bd (C5 L r4 r6) fun r7=>
 (lf r7))))))))
def Ama(a0:Av)(a1:List ByteArray):Option Int:=Amq L a0 a1
def X49:Di:=E2 I 49 Aum cl9 (Ama L) fun a0 a1 r h=>hF Tryz.func49 (oS [X47 L,X48 L,X50 L,X71 L,X72 L]) L (fun kk=>eE (Amq L a0 a1)) h
def c73:=CC Tryz.f73
def O73(L:Nat):Bi:=oL []
def Bcx:(List (List ByteArray))→Prop:=fun x=>kk ((fun(x:List (List ByteArray))=>lv (.t61 x)) x)
def Bec(a0:Aa)(v:E9):St:=⟨[(0,.any),(1,.loc 1 0),(2,.lst true (.t61 [])),(3,.vw true 9 61 1 10),(4,I v.1),(5,.any),(6,.any),(7,.any),(8,.any)],[(1,(Ad a0)),(9,[.lst true (.t9 v.2),.lst true (.t9 []),.lst true (.t9 []),.lst true (.t9 []),.lst true (.t9 []),.lst true (.t9 []),.lst true (.t9 []),.lst true (.t9 []),.lst true (.t9 []),.lst true (.t9 [])])],0⟩
def Adl [An A (Nat×E9)](L:Nat)(a0:Aa)(rec:Int→List ByteArray→A)(Aw:Int)(Ax:List ByteArray):A:=
 (cn (decide (Aw < (a0.Vars.length:Int)))
 (gq ((0:Int)≤0)
 (gq (0 < ((10:Nat):Int))
 (gi Aw a0.Vars
 (gq ((Ax.length+ [(a0.Vars.getD (Int.toNat Aw) default).Name].length)*16≤140737488355328)
 (gq (Ax.length+ [(a0.Vars.getD (Int.toNat Aw) default).Name].length≤maxLen)
 (gq ((0:Int)≤0)
 (gq (0 < ((10:Nat):Int))
 (rec (Bo (Aw+1)) (Ax++ [(a0.Vars.getD (Int.toNat Aw) default).Name])))))))))
 (lf (0,Aw,Ax)))
def Un(L:Nat)(a0:Aa):Nat→Int→List ByteArray→Option (Nat×E9)
 |0,_,_=>none
 |n+1,Aw,Ax=>Adl L a0 (Un L a0 n) Aw Ax
theorem Bow(a0:Aa):LP (EV (O73 L) L 9 c73.w.l.u.l.l) [0,1,2,3,4,5,6,7,8] [1,9] (Bec a0) [.exit 0] (fun n v=>Un L a0 n v.1 v.2) K:=lE (fun _=>rfl) fun n v ih=>eE (Adl L a0 (fun Aw Ax=>re (ih (Aw,Ax))) v.1 v.2)
def Bed(a0:Aa)(o1:Nat×E9)(v:E9):St:=⟨[(0,.any),(1,.loc 1 0),(2,.lst true (.t61 [])),(3,.vw true 9 61 1 10),(4,.any),(5,I v.1),(6,.any),(7,.any),(8,.any)],[(1,(Ad a0)),(9,[.lst true (.t9 o1.2.2),.lst true (.t9 v.2),.lst true (.t9 []),.lst true (.t9 []),.lst true (.t9 []),.lst true (.t9 []),.lst true (.t9 []),.lst true (.t9 []),.lst true (.t9 []),.lst true (.t9 [])])],0⟩
def Adm [An A (Nat×E9)](L:Nat)(a0:Aa)(o1:Nat×E9)(rec:Int→List ByteArray→A)(Gm:Int)(Anp:List ByteArray):A:=
 (cn (decide (Gm < (a0.Resources.length:Int)))
 (gq ((0:Int)≤1)
 (gq (1 < ((10:Nat):Int))
 (gi Gm a0.Resources
 (gq ((Anp.length+ [(a0.Resources.getD (Int.toNat Gm) default).Name].length)*16≤140737488355328)
 (gq (Anp.length+ [(a0.Resources.getD (Int.toNat Gm) default).Name].length≤maxLen)
 (gq ((0:Int)≤1)
 (gq (1 < ((10:Nat):Int))
 (rec (Bo (Gm+1)) (Anp++ [(a0.Resources.getD (Int.toNat Gm) default).Name])))))))))
 (lf (0,Gm,Anp)))
def Uo(L:Nat)(a0:Aa)(o1:Nat×E9):Nat→Int→List ByteArray→Option (Nat×E9)
 |0,_,_=>none
 |n+1,Gm,Anp=>Adm L a0 o1 (Uo L a0 o1 n) Gm Anp
theorem Box(a0:Aa)(o1:Nat×E9):LP (EV (O73 L) L 9 c73.w.u.l.u.l.l) [0,1,2,3,4,5,6,7,8] [1,9] (Bed a0 o1) [.exit 2] (fun n v=>Uo L a0 o1 n v.1 v.2) K:=lE (fun _=>rfl) fun n v ih=>eE (Adm L a0 o1 (fun Gm Anp=>re (ih (Gm,Anp))) v.1 v.2)
def Bee(a0:Aa)(o1:Nat×E9)(o2:Nat×E9)(v:E9):St:=⟨[(0,.any),(1,.loc 1 0),(2,.lst true (.t61 [])),(3,.vw true 9 61 1 10),(4,.any),(5,.any),(6,I v.1),(7,.any),(8,.any)],[(1,(Ad a0)),(9,[.lst true (.t9 o1.2.2),.lst true (.t9 o2.2.2),.lst true (.t9 v.2),.lst true (.t9 []),.lst true (.t9 []),.lst true (.t9 []),.lst true (.t9 []),.lst true (.t9 []),.lst true (.t9 []),.lst true (.t9 [])])],0⟩
def Adn [An A (Nat×E9)](L:Nat)(a0:Aa)(o1:Nat×E9)(o2:Nat×E9)(rec:Int→List ByteArray→A)(Gu:Int)(Ef:List ByteArray):A:=
 (cn (decide (Gu < (a0.Stores.length:Int)))
 (gq ((0:Int)≤2)
 (gq (2 < ((10:Nat):Int))
 (gi Gu a0.Stores
 (gq ((Ef.length+ [(a0.Stores.getD (Int.toNat Gu) default).Name].length)*16≤140737488355328)
 (gq (Ef.length+ [(a0.Stores.getD (Int.toNat Gu) default).Name].length≤maxLen)
 (gq ((0:Int)≤2)
 (gq (2 < ((10:Nat):Int))
 (rec (Bo (Gu+1)) (Ef++ [(a0.Stores.getD (Int.toNat Gu) default).Name])))))))))
 (lf (0,Gu,Ef)))
def Uq(L:Nat)(a0:Aa)(o1:Nat×E9)(o2:Nat×E9):Nat→Int→List ByteArray→Option (Nat×E9)
 |0,_,_=>none
 |n+1,Gu,Ef=>Adn L a0 o1 o2 (Uq L a0 o1 o2 n) Gu Ef
theorem Boy(a0:Aa)(o1:Nat×E9)(o2:Nat×E9):LP (EV (O73 L) L 9 c73.x.l.u.l.l) [0,1,2,3,4,5,6,7,8] [1,9] (Bee a0 o1 o2) [.exit 4] (fun n v=>Uq L a0 o1 o2 n v.1 v.2) K:=lE (fun _=>rfl) fun n v ih=>eE (Adn L a0 o1 o2 (fun Gu Ef=>re (ih (Gu,Ef))) v.1 v.2)
def Bef(a0:Aa)(o1:Nat×E9)(o2:Nat×E9)(o3:Nat×E9)(v:E9):St:=⟨[(0,.any),(1,.loc 1 0),(2,.lst true (.t61 [])),(3,.vw true 9 61 1 10),(4,.any),(5,.any),(6,.any),(7,I v.1),(8,.any)],[(1,(Ad a0)),(9,[.lst true (.t9 o1.2.2),.lst true (.t9 o2.2.2),.lst true (.t9 o3.2.2),.lst true (.t9 v.2),.lst true (.t9 []),.lst true (.t9 []),.lst true (.t9 []),.lst true (.t9 []),.lst true (.t9 []),.lst true (.t9 [])])],0⟩
def Ado [An A (Nat×E9)](L:Nat)(a0:Aa)(o1:Nat×E9)(o2:Nat×E9)(o3:Nat×E9)(rec:Int→List ByteArray→A)(Gy:Int)(Gx:List ByteArray):A:=
 (cn (decide (Gy < (a0.Belts.length:Int)))
 (gq ((0:Int)≤3)
 (gq (3 < ((10:Nat):Int))
 (gi Gy a0.Belts
 (gq ((Gx.length+ [(a0.Belts.getD (Int.toNat Gy) default).Name].length)*16≤140737488355328)
 (gq (Gx.length+ [(a0.Belts.getD (Int.toNat Gy) default).Name].length≤maxLen)
 (gq ((0:Int)≤3)
 (gq (3 < ((10:Nat):Int))
 (rec (Bo (Gy+1)) (Gx++ [(a0.Belts.getD (Int.toNat Gy) default).Name])))))))))
 (lf (0,Gy,Gx)))
def Ur(L:Nat)(a0:Aa)(o1:Nat×E9)(o2:Nat×E9)(o3:Nat×E9):Nat→Int→List ByteArray→Option (Nat×E9)
 |0,_,_=>none
 |n+1,Gy,Gx=>Ado L a0 o1 o2 o3 (Ur L a0 o1 o2 o3 n) Gy Gx
theorem Boz(a0:Aa)(o1:Nat×E9)(o2:Nat×E9)(o3:Nat×E9):LP (EV (O73 L) L 9 c73.x.u.l.u.l.l) [0,1,2,3,4,5,6,7,8] [1,9] (Bef a0 o1 o2 o3) [.exit 6] (fun n v=>Ur L a0 o1 o2 o3 n v.1 v.2) K:=lE (fun _=>rfl) fun n v ih=>eE (Ado L a0 o1 o2 o3 (fun Gy Gx=>re (ih (Gy,Gx))) v.1 v.2)
def Beg(a0:Aa)(o1:Nat×E9)(o2:Nat×E9)(o3:Nat×E9)(o4:Nat×E9)(v:E9):St:=⟨[(0,.any),(1,.loc 1 0),(2,.lst true (.t61 [])),(3,.vw true 9 61 1 10),(4,.any),(5,.any),(6,.any),(7,.any),(8,I v.1)],[(1,(Ad a0)),(9,[.lst true (.t9 o1.2.2),.lst true (.t9 o2.2.2),.lst true (.t9 o3.2.2),.lst true (.t9 o4.2.2),lv (.t9 a0.Queues),lv (.t9 a0.Streams),lv (.t9 a0.Tallies),lv (.t9 a0.Levels),lv (.t9 a0.Counts),.lst true (.t9 v.2)])],0⟩
def Adp [An A (Nat×E9)](L:Nat)(a0:Aa)(o1:Nat×E9)(o2:Nat×E9)(o3:Nat×E9)(o4:Nat×E9)(rec:Int→List ByteArray→A)(Arf:Int)(Anq:List ByteArray):A:=
 (cn (decide (Arf < (a0.Routines.length:Int)))
 (gq ((0:Int)≤9)
 (gq (9 < ((10:Nat):Int))
 (gi Arf a0.Routines
 (gq ((Anq.length+ [(a0.Routines.getD (Int.toNat Arf) default).Name].length)*16≤140737488355328)
 (gq (Anq.length+ [(a0.Routines.getD (Int.toNat Arf) default).Name].length≤maxLen)
 (gq ((0:Int)≤9)
 (gq (9 < ((10:Nat):Int))
 (rec (Bo (Arf+1)) (Anq++ [(a0.Routines.getD (Int.toNat Arf) default).Name])))))))))
 (lf (0,Arf,Anq)))
def Us(L:Nat)(a0:Aa)(o1:Nat×E9)(o2:Nat×E9)(o3:Nat×E9)(o4:Nat×E9):Nat→Int→List ByteArray→Option (Nat×E9)
 |0,_,_=>none
 |n+1,Arf,Anq=>Adp L a0 o1 o2 o3 o4 (Us L a0 o1 o2 o3 o4 n) Arf Anq
theorem Bo0(a0:Aa)(o1:Nat×E9)(o2:Nat×E9)(o3:Nat×E9)(o4:Nat×E9):LP (EV (O73 L) L 9 c73.x.x.w.u.l.u.l.l) [0,1,2,3,4,5,6,7,8] [1,9] (Beg a0 o1 o2 o3 o4) [.exit 8] (fun n v=>Us L a0 o1 o2 o3 o4 n v.1 v.2) K:=lE (fun _=>rfl) fun n v ih=>eE (Adp L a0 o1 o2 o3 o4 (fun Arf Anq=>re (ih (Arf,Anq))) v.1 v.2)
def Vg [An A (List (List ByteArray))](L:Nat)(o1:Nat×E9)(o2:Nat×E9)(o3:Nat×E9)(o4:Nat×E9)(a0:Aa)(o5:Nat×E9):A:=
 (sl o5.1 [(lf [o1.2.2,o2.2.2,o3.2.2,o4.2.2,a0.Queues,a0.Streams,a0.Tallies,a0.Levels,a0.Counts,o5.2.2])])
def Bcm:Bg:=(Bb 8 (Bp (EV (O73 L) L 9 c73.x.x.w.u.r) (Ct Tryz.prog (RS Tryz.f73) kk)))
theorem Bw2(a0:Aa)(o1:Nat×E9)(o2:Nat×E9)(o3:Nat×E9)(o4:Nat×E9)(o5:Nat×E9):kX [.exit 8] (Beg a0 o1 o2 o3 o4) (Bcm L kk) o5=ob (Vg L o1 o2 o3 o4 a0 o5) (Bcx kk):=eE (Vg L o1 o2 o3 o4 a0 o5)
def Aet [An A (List (List ByteArray))](L:Nat)(o1:Nat×E9)(o2:Nat×E9)(o3:Nat×E9)(a0:Aa)(o4:Nat×E9)(nx5:(Nat×E9)→(Nat×E9)→(Nat×E9)→(Nat×E9)→A):A:=
 (sl o4.1 [(gq ((0:Int)≤4)
 (gq (4 < ((10:Nat):Int))
 (gq ((0:Int)≤5)
 (gq (5 < ((10:Nat):Int))
 (gq ((0:Int)≤6)
 (gq (6 < ((10:Nat):Int))
 (gq ((0:Int)≤7)
 (gq (7 < ((10:Nat):Int))
 (gq ((0:Int)≤8)
 (gq (8 < ((10:Nat):Int))
 (nx5 o1 o2 o3 o4)))))))))))])
def Ad9 [An A (List (List ByteArray))](o1:Nat×E9)(o2:Nat×E9)(o3:Nat×E9)(a0:Aa)(o4:Nat×E9):A:=Aet L o1 o2 o3 a0 o4 (fun o1 o2 o3 o4=>bd (Us L a0 o1 o2 o3 o4 L 0 []) fun o5=>Vg L o1 o2 o3 o4 a0 o5)
def Bcl:Bg:=(Bb 6 (Bp (EV (O73 L) L 9 c73.x.u.r) (Ct Tryz.prog (RS Tryz.f73) kk)))
theorem Bw1(a0:Aa)(o1:Nat×E9)(o2:Nat×E9)(o3:Nat×E9)(o4:Nat×E9):kX [.exit 6] (Bef a0 o1 o2 o3) (Bcl L kk) o4=ob (Ad9 L o1 o2 o3 a0 o4) (Bcx kk):=eE (Aet L o1 o2 o3 a0 o4 (fun o1 o2 o3 o4=>ho (Bo0 L (Bcm L kk) a0 o1 o2 o3 o4 L (0,[])) fun o5=>Bw2 L kk a0 o1 o2 o3 o4 o5))
def Aes [An A (List (List ByteArray))](L:Nat)(o1:Nat×E9)(o2:Nat×E9)(a0:Aa)(o3:Nat×E9)(nx4:(Nat×E9)→(Nat×E9)→(Nat×E9)→A):A:=
 (sl o3.1 [(nx4 o1 o2 o3)])
def Ad8 [An A (List (List ByteArray))](o1:Nat×E9)(o2:Nat×E9)(a0:Aa)(o3:Nat×E9):A:=Aes L o1 o2 a0 o3 (fun o1 o2 o3=>bd (Ur L a0 o1 o2 o3 L 0 []) fun o4=>Ad9 L o1 o2 o3 a0 o4)
def Bck:Bg:=(Bb 4 (Bp (EV (O73 L) L 9 c73.x.r) (Ct Tryz.prog (RS Tryz.f73) kk)))
theorem Bw0(a0:Aa)(o1:Nat×E9)(o2:Nat×E9)(o3:Nat×E9):kX [.exit 4] (Bee a0 o1 o2) (Bck L kk) o3=ob (Ad8 L o1 o2 a0 o3) (Bcx kk):=eE (Aes L o1 o2 a0 o3 (fun o1 o2 o3=>ho (Boz L (Bcl L kk) a0 o1 o2 o3 L (0,[])) fun o4=>Bw1 L kk a0 o1 o2 o3 o4))
def Aer [An A (List (List ByteArray))](L:Nat)(o1:Nat×E9)(a0:Aa)(o2:Nat×E9)(nx3:(Nat×E9)→(Nat×E9)→A):A:=
 (sl o2.1 [(nx3 o1 o2)])
def Ad7 [An A (List (List ByteArray))](o1:Nat×E9)(a0:Aa)(o2:Nat×E9):A:=Aer L o1 a0 o2 (fun o1 o2=>bd (Uq L a0 o1 o2 L 0 []) fun o3=>Ad8 L o1 o2 a0 o3)
def Bcj:Bg:=(Bb 2 (Bp (EV (O73 L) L 9 c73.w.u.r) (Ct Tryz.prog (RS Tryz.f73) kk)))
theorem Bwz(a0:Aa)(o1:Nat×E9)(o2:Nat×E9):kX [.exit 2] (Bed a0 o1) (Bcj L kk) o2=ob (Ad7 L o1 a0 o2) (Bcx kk):=eE (Aer L o1 a0 o2 (fun o1 o2=>ho (Boy L (Bck L kk) a0 o1 o2 L (0,[])) fun o3=>Bw0 L kk a0 o1 o2 o3))
def Aeq [An A (List (List ByteArray))](L:Nat)(a0:Aa)(o1:Nat×E9)(nx2:(Nat×E9)→A):A:=
 (sl o1.1 [(nx2 o1)])
def Ad6 [An A (List (List ByteArray))](a0:Aa)(o1:Nat×E9):A:=Aeq L a0 o1 (fun o1=>bd (Uo L a0 o1 L 0 []) fun o2=>Ad7 L o1 a0 o2)
def Bci:Bg:=(Bb 0 (Bp (EV (O73 L) L 9 c73.w.r) (Ct Tryz.prog (RS Tryz.f73) kk)))
theorem Bwy(a0:Aa)(o1:Nat×E9):kX [.exit 0] (Bec a0) (Bci L kk) o1=ob (Ad6 L a0 o1) (Bcx kk):=eE (Aeq L a0 o1 (fun o1=>ho (Box L (Bcj L kk) a0 o1 L (0,[])) fun o2=>Bwz L kk a0 o1 o2))
def Awh [An A (List (List ByteArray))](a0:Aa):A:=(bd (Un L a0 L 0 []) fun o1=>Ad6 L a0 o1)
def V3(a0:Aa):Option (List (List ByteArray)):=Awh L a0
def X73:Di:=E1 (fun(x:List (List ByteArray))=>lv (.t61 x)) 73 Cs (V3 L) fun a0 r h=>hF Tryz.func73 (C:=O73 L) (oS _) L (fun kk=>eE ((ho (Bow L (Bci L kk) a0 L (0,[])) fun o1=>Bwy L kk a0 o1))) h
def Bub:=CC Tryz.f174
def Ble:Bi:=oL [X48 L,X78 L]
def A6j(a0:Ah)(v:C8):St:=⟨[(0,.any),(1,.loc 1 0),(2,I v.1),(3,I v.2)],[(1,(B5 a0))],0⟩
def Wr [An A Cq](a0:Ah)(rec:Int→Int→A)(Ar:Int)(Aw:Int):A:=
 (lw Aw a0.Shift
 (bd (Dj L ((a0.Shift.getD (Int.toNat Aw) default).At) 0 (Bo (a0.Cycle - 1))) fun r3=>
 (jb (.cn (!r3)
 (.lf true)
 (.bd (Dj L ((a0.Shift.getD (Int.toNat Aw) default).Units) 0 1000) fun r5=>
 (.lf (!r5)))) (fun b4=>
 (cn b4
 (lf (0,2,Aw))
 (cn (decide (Aw > 0))
 (gi (Bo (Aw - 1)) a0.Shift
 (cn (decide ((a0.Shift.getD (Int.toNat Aw) default).At≤(a0.Shift.getD (Int.toNat (Bo (Aw - 1))) default).At))
 (lf (0,12,Aw))
 (rec Ar (Bo (Aw+1)))))
 (rec Ar (Bo (Aw+1))))))))
 (lf (1,Ar,Aw)))
def M5(L:Nat)(a0:Ah):Nat→Int→Int→Option Cq
 |0,_,_=>none
 |n+1,Ar,Aw=>Wr L a0 (M5 L a0 n) Ar Aw
theorem Bio(a0:Ah):LP (EV (Ble L) L 9 Bub.x.l.u.l.l) [0,1,2,3] [1] (A6j a0) [.ret,.exit 0] (fun n v=>M5 L a0 n v.1 v.2) K:=lE (fun _=>rfl) fun n v ih=>eE (Wr L a0 (fun Ar Aw=>re (ih (Ar,Aw))) v.1 v.2)
def Nj [An A Int](L:Nat)(o6:Nat×C8):A:=
 (sl o6.1 [(lf o6.2.1),
 (lf 0)])
def A36:Bg:=(Bb 0 (Bp (EV (Ble L) L 9 Bub.x.r) (Ct Tryz.prog (RS Tryz.f174) kk)))
theorem Bp2(a0:Ah)(o6:Nat×C8):kX [.ret,.exit 0] (A6j a0) (A36 L kk) o6=ob (Nj L o6) (kQ I kk):=eE (Nj L o6)
def W5 [An A Int](a0:Ah)(nx1:A):A:=
 (cn ((a0.Shift.length:Int) == 0)
 (bd (Ci L (a0.Cycle == 0) 1) fun r1=>
 (lf r1))
 (cn (decide ((a0.Shift.length:Int) > 20))
 (lf 6)
 (bd (Dj L a0.Cycle 1 1000000000) fun r2=>
 (cn (!r2)
 (lf 2)
 nx1))))
def Apw [An A Int](a0:Ah):A:=W5 L a0 (bd (M5 L a0 L 0 0) fun o6=>Nj L o6)
def Ace(a0:Ah):Option Int:=Apw L a0
def Bsy:Di:=E1 I 174 Kq (Ace L) fun a0 r h=>hF Tryz.func174 (C:=Ble L) (oS _) L (fun kk=>eE (W5 L a0 (ho (Bio L (A36 L kk) a0 L (0,0)) fun o6=>Bp2 L kk a0 o6))) h
def Bue:=CC Tryz.f178
def Blh(L:Nat):Bi:=oL []
def A6m(a0:List Int)(a1:List Int)(v:N2):St:=⟨[(0,lv (.t3 a0)),(1,lv (.t3 a1)),(4,B v.1),(5,I v.2)],[],0⟩
def Wq [An A (Nat×N2)](L:Nat)(a0:List Int)(a1:List Int)(rec:Bool→Int→A)(Ao:Bool)(Ag:Int):A:=
 (lw Ag a0
 (gi Ag a1
 (cn ((a0.getD (Int.toNat Ag) default) != (a1.getD (Int.toNat Ag) default))
 (lf (0,false,Ag))
 (rec Ao (Bo (Ag+1)))))
 (lf (1,Ao,Ag)))
def M4(L:Nat)(a0:List Int)(a1:List Int):Nat→Bool→Int→Option (Nat×N2)
 |0,_,_=>none
 |n+1,Ao,Ag=>Wq L a0 a1 (M4 L a0 a1 n) Ao Ag
theorem Bir(a0:List Int)(a1:List Int):LP (EV (Blh L) L 9 Bue.w.l.u.l.l) [0,1,4,5] [] (A6m a0 a1) [.ret,.exit 0] (fun n v=>M4 L a0 a1 n v.1 v.2) K:=lE (fun _=>rfl) fun n v ih=>eE (Wq L a0 a1 (fun Ao Ag=>re (ih (Ao,Ag))) v.1 v.2)
def Ni [An A Bool](L:Nat)(o1:Nat×N2):A:=
 (sl o1.1 [(lf o1.2.1),
 (lf true)])
def A39:Bg:=(Bb 0 (Bp (EV (Blh L) L 9 Bue.w.r) (Ct Tryz.prog (RS Tryz.f178) kk)))
theorem Bp5(a0:List Int)(a1:List Int)(o1:Nat×N2):kX [.ret,.exit 0] (A6m a0 a1) (A39 L kk) o1=ob (Ni L o1) (kQ B kk):=eE (Ni L o1)
def W4 [An A Bool](L:Nat)(a0:List Int)(a1:List Int)(nx1:A):A:=
 (cn ((a0.length:Int) != (a1.length:Int))
 (lf false)
 nx1)
def Apr [An A Bool](a0:List Int)(a1:List Int):A:=W4 L a0 a1 (bd (M4 L a0 a1 L false 0) fun o1=>Ni L o1)
def Tm(a0:List Int)(a1:List Int):Option Bool:=Apr L a0 a1
def Bs1:Di:=E2 B 178 cl3 cl3 (Tm L) fun a0 a1 r h=>hF Tryz.func178 (C:=Blh L) (oS _) L (fun kk=>eE (W4 L a0 a1 (ho (Bir L (A39 L kk) a0 a1 L (false,0)) fun o1=>Bp5 L kk a0 a1 o1))) h
def Apq [An A Bool](a0:B8)(a1:B8):A:=
 (jp (.cn (a0.Op == a1.Op)
 (.lf (a0.A == a1.A))
 (.lf false)) (fun b1=>
 (jp (.cn b1
 (.lf (a0.B == a1.B))
 (.lf false)) (fun b2=>
 (jp (.cn b2
 (.lf (a0.N == a1.N))
 (.lf false)) (fun b3=>
 (jb (.cn b3
 (.bd (Tm L a0.Values a1.Values) fun r5=>
 (.lf r5))
 (.lf false)) (fun b4=>
 (jb (.cn b4
 (.bd (Tm L a0.Weights a1.Weights) fun r7=>
 (.lf r7))
 (.lf false)) (fun b6=>
 (lf b6)))))))))))
def Tl(a0:B8)(a1:B8):Option Bool:=Apq L a0 a1
def Bfk:Di:=E2 B 138 He He (Tl L) fun a0 a1 r h=>hF Tryz.func138 (oS [Bs1 L]) L (fun kk=>eE (Apq L a0 a1)) h
def Aio [An A Bool](L:Nat)(a0:B8):A:=
 (jp (.cn ((a0.Values.length:Int) == 0)
 (.lf ((a0.Weights.length:Int) == 0))
 (.lf false)) (fun b1=>
 (cn (a0.Op == 1)
 (jp (.cn (a0.B == 0)
 (.lf (a0.N == 0))
 (.lf false)) (fun b2=>
 (jp (.cn b2
 (.lf b1)
 (.lf false)) (fun b3=>
 (lf b3)))))
 (cn (a0.Op == 2)
 (cn (a0.Op == 2)
 (jp (.cn (a0.N == 0)
 (.lf b1)
 (.lf false)) (fun b4=>
 (lf b4)))
 (cn (a0.Op == 3)
 (jp (.cn (a0.A == 0)
 (.lf (a0.B == 0))
 (.lf false)) (fun b5=>
 (jp (.cn b5
 (.lf (a0.N == 0))
 (.lf false)) (fun b6=>
 (lf b6)))))
 (cn (a0.Op == 4)
 (lf b1)
 (lf false))))
 (cn (a0.Op == 5)
 (jp (.cn (a0.N == 0)
 (.lf b1)
 (.lf false)) (fun b7=>
 (lf b7)))
 (cn (a0.Op == 3)
 (jp (.cn (a0.A == 0)
 (.lf (a0.B == 0))
 (.lf false)) (fun b8=>
 (jp (.cn b8
 (.lf (a0.N == 0))
 (.lf false)) (fun b9=>
 (lf b9)))))
 (cn (a0.Op == 4)
 (lf b1)
 (lf false))))))))
def Aie(a0:B8):Option Bool:=Aio L a0
def Bsq:Di:=E1 B 143 He (Aie L) fun a0 r h=>hF Tryz.func143 (oS []) L (fun kk=>eE (Aio L a0)) h
def Afv [An A Bool](L:Nat)(a0:Int)(a1:Int)(a2:Int):A:=
 (jp (.cn (decide (a0≥a1))
 (.lf (decide (a0≤a2)))
 (.lf false)) (fun b1=>
 (lf b1)))
def Et(a0:Int)(a1:Int)(a2:Int):Option Bool:=Afv L a0 a1 a2
def Bl0:Di:=E3 B 144 (cI .i64) (cI .i64) (cI .i64) (Et L) fun a0 a1 a2 r h=>hF Tryz.func144 (oS []) L (fun kk=>eE (Afv L a0 a1 a2)) h
def Bt5:=CC Tryz.f145
def Bld:Bi:=oL [Bl0 L]
def A6d(a0:B8)(v:C8):St:=⟨[(0,.any),(1,.loc 1 0),(2,I v.1),(3,I v.2)],[(1,(Aho a0))],0⟩
def Adb [An A Cq](a0:B8)(rec:Int→Int→A)(Ar:Int)(Aw:Int):A:=
 (lw Aw a0.Values
 (bd (Et L (a0.Values.getD (Int.toNat Aw) default) 0 1000000000) fun r1=>
 (jb (.cn (!r1)
 (.lf true)
 (.gq (0≤Aw)
 (.gq (Aw < (a0.Weights.length:Int))
 (.bd (Et L (a0.Weights.getD (Int.toNat Aw) default) 1 1000) fun r3=>
 (.lf (!r3)))))) (fun b2=>
 (cn b2
 (lf (0,2,Aw))
 (rec Ar (Bo (Aw+1)))))))
 (lf (1,Ar,Aw)))
def Uf(L:Nat)(a0:B8):Nat→Int→Int→Option Cq
 |0,_,_=>none
 |n+1,Ar,Aw=>Adb L a0 (Uf L a0 n) Ar Aw
theorem Bii(a0:B8):LP (EV (Bld L) L 9 Bt5.x.l.u.l.l) [0,1,2,3] [1] (A6d a0) [.ret,.exit 0] (fun n v=>Uf L a0 n v.1 v.2) K:=lE (fun _=>rfl) fun n v ih=>eE (Adb L a0 (fun Ar Aw=>re (ih (Ar,Aw))) v.1 v.2)
def U1 [An A Int](L:Nat)(o4:Nat×C8):A:=
 (sl o4.1 [(lf o4.2.1),
 (lf 0)])
def A3r:Bg:=(Bb 0 (Bp (EV (Bld L) L 9 Bt5.x.r) (Ct Tryz.prog (RS Tryz.f145) kk)))
theorem Bpn(a0:B8)(o4:Nat×C8):kX [.ret,.exit 0] (A6d a0) (A3r L kk) o4=ob (U1 L o4) (kQ I kk):=eE (U1 L o4)
def Ael [An A Int](L:Nat)(a0:B8)(nx1:A):A:=
 (cn ((a0.Values.length:Int) != (a0.Weights.length:Int))
 (lf 8)
 (cn ((a0.Values.length:Int) == 0)
 (lf 7)
 (cn (decide ((a0.Values.length:Int) > 20))
 (lf 6)
 nx1)))
def Av9 [An A Int](a0:B8):A:=Ael L a0 (bd (Uf L a0 L 0 0) fun o4=>U1 L o4)
def Al3(a0:B8):Option Int:=Av9 L a0
def Bsr:Di:=E1 I 145 He (Al3 L) fun a0 r h=>hF Tryz.func145 (C:=Bld L) (oS _) L (fun kk=>eE (Ael L a0 (ho (Bii L (A3r L kk) a0 L (0,0)) fun o4=>Bpn L kk a0 o4))) h
def Ami [An A Int](a0:B8):A:=
 (bd (Aie L a0) fun r1=>
 (cn (!r1)
 (lf 1)
 (cn (a0.Op == 1)
 (bd (Et L a0.A 0 1000000000) fun r2=>
 (cn (!r2)
 (lf 2)
 (lf 0)))
 (cn (a0.Op == 2)
 (bd (Et L a0.A 0 a0.B) fun r3=>
 (jp (.cn r3
 (.lf (decide (a0.B≤1000000000)))
 (.lf false)) (fun b4=>
 (cn (!b4)
 (lf 2)
 (lf 0)))))
 (cn (a0.Op == 3)
 (bd (Al3 L a0) fun r5=>
 (lf r5))
 (cn (a0.Op == 4)
 (bd (Et L a0.N 1 20) fun r6=>
 (jb (.cn r6
 (.bd (Et L a0.A 0 a0.B) fun r8=>
 (.lf r8))
 (.lf false)) (fun b7=>
 (jp (.cn b7
 (.lf (decide (a0.B≤1000000)))
 (.lf false)) (fun b9=>
 (cn (!b9)
 (lf 2)
 (lf 0)))))))
 (cn (a0.Op == 5)
 (bd (Et L a0.A 1 1000) fun r10=>
 (jb (.cn r10
 (.bd (Et L a0.B 1 1000) fun r12=>
 (.lf r12))
 (.lf false)) (fun b11=>
 (cn (!b11)
 (lf 2)
 (lf 0)))))
 (lf 0))))))))
def Qc(a0:B8):Option Int:=Ami L a0
def X85:Di:=E1 I 85 He (Qc L) fun a0 r h=>hF Tryz.func85 (oS [Bsq L,Bl0 L,Bsr L]) L (fun kk=>eE (Ami L a0)) h
def Acu [An A Int](a0:Aa)(a1:Ah):A:=
 (bd (Dj L a1.Units 0 1000) fun r1=>
 (bd (Ci L r1 2) fun r2=>
 (bd (Ace L a1) fun r3=>
 (bd (C5 L r2 r3) fun r4=>
 (cn (r4 != 0)
 (lf r4)
 (cn (a1.Fault.Stream.toList == (⟨#[]⟩:ByteArray).toList)
 (bd (Tl L a1.Fault.Up (⟨0,0,0,0,[],[]⟩:B8)) fun r5=>
 (cn r5
 (jb (.bd (Tl L a1.Fault.Down (⟨0,0,0,0,[],[]⟩:B8)) fun r7=>
 (.lf r7)) (fun b6=>
 (bd (Ci L b6 1) fun r8=>
 (lf r8))))
 (nq (bd (Ci L false 1) fun r9=>
 (lf r9)))))
 (bd (N6 L a0.Streams a1.Fault.Stream) fun r10=>
 (cn (decide (r10 < 0))
 (lf 5)
 (bd (Qc L a1.Fault.Up) fun r11=>
 (bd (Qc L a1.Fault.Down) fun r12=>
 (bd (C5 L r11 r12) fun r13=>
 (lf r13))))))))))))
def Acg(a0:Aa)(a1:Ah):Option Int:=Acu L a0 a1
def Bsi:Di:=E2 I 132 Cs Kq (Acg L) fun a0 a1 r h=>hF Tryz.func132 (oS [X47 L,X48 L,X69 L,X78 L,X85 L,Bfk L,Bsy L]) L (fun kk=>eE (Acu L a0 a1)) h
def A2w(F:(List Af)→Option Int):Prop:=∀y0 r,F y0=some r→Ho Tryz.prog 204 [Md.en y0] I r
def Bus:=CC Tryz.f204
def Bls(D1:(List Af)→Option Int)(L:Nat):Bi:=(orc 204 (A1 I Md D1) (oL []))
theorem B0x(D1:(List Af)→Option Int)(Bat:A2w D1)(L:Nat):Cz Tryz.prog (Bls D1 L):=(De (a1 _ Bat) (oS []))
def A6y(a0:List Af)(v:C8):St:=⟨[(0,lv (.t264 a0)),(2,I 0),(3,I v.1),(4,I v.2)],[],0⟩
def Adg [An A Cq](D1:(List Af)→Option Int)(L:Nat)(a0:List Af)(rec:Int→Int→A)(Ao:Int)(Ag:Int):A:=
 (lw Ag a0
 (bd (D1 ((a0.getD (Int.toNat Ag) default).Body)) fun r1=>
 (gi Ag a0
 (bd (D1 ((a0.getD (Int.toNat Ag) default).Else)) fun r2=>
 (rec (Bo ((Bo ((Bo (Ao+1))+r1))+r2)) (Bo (Ag+1))))))
 (lf (0,Ao,Ag)))
def Uj(D1:(List Af)→Option Int)(L:Nat)(a0:List Af):Nat→Int→Int→Option Cq
 |0,_,_=>none
 |n+1,Ao,Ag=>Adg D1 L a0 (Uj D1 L a0 n) Ao Ag
theorem Bi4(D1:(List Af)→Option Int)(L:Nat)(K:Bg)(a0:List Af):LP (EV (Bls D1 L) L 9 Bus.w.l.u.l.l) [0,2,3,4] [] (A6y a0) [.exit 0] (fun n v=>Uj D1 L a0 n v.1 v.2) K:=lE (fun _=>rfl) fun n v ih=>eE (Adg D1 L a0 (fun Ao Ag=>re (ih (Ao,Ag))) v.1 v.2)
def U5 [An A Int](D1:(List Af)→Option Int)(L:Nat)(o3:Nat×C8):A:=
 (sl o3.1 [(lf o3.2.1)])
def A4l(D1:(List Af)→Option Int)(L:Nat)(kk:Cc):Bg:=(Bb 0 (Bp (EV (Bls D1 L) L 9 Bus.w.r) (Ct Tryz.prog (RS Tryz.f204) kk)))
theorem Bqh(D1:(List Af)→Option Int)(L:Nat)(kk:Cc)(a0:List Af)(o3:Nat×C8):kX [.exit 0] (A6y a0) (A4l D1 L kk) o3=ob (U5 D1 L o3) (kQ I kk):=eE (U5 D1 L o3)
def Awd [An A Int](D1:(List Af)→Option Int)(L:Nat)(a0:List Af):A:=(bd (Uj D1 L a0 L 0 0) fun o3=>U5 D1 L o3)
def Al0(D1:(List Af)→Option Int)(L:Nat)(a0:List Af):Option Int:=Awd D1 L a0
theorem Bzg(D1:(List Af)→Option Int)(Bat:A2w D1)(L:Nat):A2w (Al0 D1 L):=fun a0 r h=>hF Tryz.func204 (B0x D1 Bat L) L (fun kk=>eE ((ho (Bi4 D1 L (A4l D1 L kk) a0 L (0,0)) fun o3=>Bqh D1 L kk a0 o3))) h
def Qg:Nat→(List Af)→Option Int
 |0,_=>none
 |L+1,a0=>Al0 (Qg L) L a0
theorem Bg9(L:Nat):A2w (Qg L):=by
 induction L with
 |zero=>exact fun _ _ h=>(by cases h)
 |succ L ih=>
  have i204:=ih
  exact Bzg (Qg L) i204 L
def Btd(L:Nat):Di:=E1 I 204 Md (Qg L) (Bg9 L)
def A2x(F:(List Af)→Option Int):Prop:=∀y0 r,F y0=some r→Ho Tryz.prog 205 [Md.en y0] I r
def But:=CC Tryz.f205
def Blt(D2:(List Af)→Option Int)(L:Nat):Bi:=(orc 205 (A1 I Md D2) (oL []))
theorem B0y(D2:(List Af)→Option Int)(Bau:A2x D2)(L:Nat):Cz Tryz.prog (Blt D2 L):=(De (a1 _ Bau) (oS []))
def A6z(a0:List Af)(v:C8):St:=⟨[(0,lv (.t264 a0)),(2,I 0),(3,I v.1),(4,I v.2)],[],0⟩
def Adh [An A Cq](D2:(List Af)→Option Int)(L:Nat)(a0:List Af)(rec:Int→Int→A)(Ao:Int)(Ag:Int):A:=
 (lw Ag a0
 (bd (D2 ((a0.getD (Int.toNat Ag) default).Body)) fun r1=>
 (gi Ag a0
 (bd (D2 ((a0.getD (Int.toNat Ag) default).Else)) fun r2=>
 (rec (if (Bo (1+r2)) > (if (Bo (1+r1)) > Ao then (Bo (1+r1)) else Ao) then (Bo (1+r2)) else (if (Bo (1+r1)) > Ao then (Bo (1+r1)) else Ao)) (Bo (Ag+1))))))
 (lf (0,Ao,Ag)))
def Uk(D2:(List Af)→Option Int)(L:Nat)(a0:List Af):Nat→Int→Int→Option Cq
 |0,_,_=>none
 |n+1,Ao,Ag=>Adh D2 L a0 (Uk D2 L a0 n) Ao Ag
theorem Bi5(D2:(List Af)→Option Int)(L:Nat)(K:Bg)(a0:List Af):LP (EV (Blt D2 L) L 9 But.w.l.u.l.l) [0,2,3,4] [] (A6z a0) [.exit 0] (fun n v=>Uk D2 L a0 n v.1 v.2) K:=lE (fun _=>rfl) fun n v ih=>eE (Adh D2 L a0 (fun Ao Ag=>re (ih (Ao,Ag))) v.1 v.2)
def U6 [An A Int](D2:(List Af)→Option Int)(L:Nat)(o3:Nat×C8):A:=
 (sl o3.1 [(lf o3.2.1)])
def A4m(D2:(List Af)→Option Int)(L:Nat)(kk:Cc):Bg:=(Bb 0 (Bp (EV (Blt D2 L) L 9 But.w.r) (Ct Tryz.prog (RS Tryz.f205) kk)))
theorem Bqi(D2:(List Af)→Option Int)(L:Nat)(kk:Cc)(a0:List Af)(o3:Nat×C8):kX [.exit 0] (A6z a0) (A4m D2 L kk) o3=ob (U6 D2 L o3) (kQ I kk):=eE (U6 D2 L o3)
def Awe [An A Int](D2:(List Af)→Option Int)(L:Nat)(a0:List Af):A:=(bd (Uk D2 L a0 L 0 0) fun o3=>U6 D2 L o3)
def Al1(D2:(List Af)→Option Int)(L:Nat)(a0:List Af):Option Int:=Awe D2 L a0
theorem Bzh(D2:(List Af)→Option Int)(Bau:A2x D2)(L:Nat):A2x (Al1 D2 L):=fun a0 r h=>hF Tryz.func205 (B0y D2 Bau L) L (fun kk=>eE ((ho (Bi5 D2 L (A4m D2 L kk) a0 L (0,0)) fun o3=>Bqi D2 L kk a0 o3))) h
def Qh:Nat→(List Af)→Option Int
 |0,_=>none
 |L+1,a0=>Al1 (Qh L) L a0
theorem Bha(L:Nat):A2x (Qh L):=by
 induction L with
 |zero=>exact fun _ _ h=>(by cases h)
 |succ L ih=>
  have i205:=ih
  exact Bzh (Qh L) i205 L
def Bte(L:Nat):Di:=E1 I 205 Md (Qh L) (Bha L)
def T5:=CC Tryz.f225
def Ahb(L:Nat):Bi:=oL []
def Asm:(Cg×Bool)→Prop:=fun x=>kk ((fun(x:Cg×Bool)=> .tup [.agg (Aai x.1),B x.2]) x)
def A55:St:=⟨[(2,.loc 2 0),(3,B false)],[(2,[B false,B false,B false,B false,B false,B false,B false,B false,B false])],0⟩
def A5v(L:Nat)(kk:Cc):Bg:=(Ct Tryz.prog (RS Tryz.f225) kk)
def Aeg [An A (Cg×Bool)](L:Nat):A:=
 (lf ((⟨false,false,false,false,false,false,false,false,false⟩:Cg),false))
theorem Bgc:EV (Ahb L) L 9 T5.w (A55) (A5v L kk)=ob (Aeg L) (Asm kk):=eE (Aeg L)
def Ao7(a0:Int)(p803_2:Bool):St:=⟨[(2,.loc 2 0),(3,B false),(4,I a0),(32,B p803_2)],[(2,[B false,B false,B false,B false,B false,B false,B false,B false,B false])],0⟩
def Aox(e0:EC):Bg:=(Bb 0 (Bp (EV (Ahb L) L 9 e0) (Ct Tryz.prog (RS Tryz.f225) kk)))
def sx_R10_Of_3 [An A (Cg×Bool)](L:Nat)(a0:Int)(p803_2:Bool)(nx1:A):A:=
 (cn p803_2
 (lf ((⟨true,false,false,false,false,false,false,false,false⟩:Cg),true))
 (cn (a0 == 13)
 (lf ((⟨true,true,true,false,true,false,false,false,false⟩:Cg),true))
 (cn (a0 == 14)
 (lf ((⟨true,false,true,false,true,false,false,false,false⟩:Cg),true))
 (cn (a0 == 18)
 (lf ((⟨false,false,false,false,false,false,false,false,false⟩:Cg),true))
 nx1))))
def Ano [An A (Cg×Bool)](a0:Int)(p803_2:Bool):A:=sx_R10_Of_3 L a0 p803_2 (Aeg L)
theorem Bgr(a0:Int)(p803_2:Bool)(z1:EC):EV (Ahb L) L 9 T5.u.l.u.l.x.x.w.u.r (Ao7 a0 p803_2) (Aox L kk (EC.put (rl [1]) z1 T5.u.r))= @sx_R10_Of_3 Prop (anP (Asm kk)) L a0 p803_2 (EV (Ahb L) L 9 z1 (A55) (A5v L kk)):=by kernel_rfl
theorem Bge(a0:Int)(p803_2:Bool):EV (Ahb L) L 9 T5.u.l.u.l.x.x.w.u.r (Ao7 a0 p803_2) (Aox L kk T5.u.r)=ob (Ano L a0 p803_2) (Asm kk):=Eq.trans (b:=EV (Ahb L) L 9 T5.u.l.u.l.x.x.w.u.r (Ao7 a0 p803_2) (Aox L kk (EC.put (rl [1]) T5.w T5.u.r))) (by kernel_rfl) ((Bgr L kk a0 p803_2 T5.w).trans (eE (sx_R10_Of_3 L a0 p803_2 (re (Bgc L kk)))))
def Ao6(a0:Int)(p802_2:Bool):St:=⟨[(2,.loc 2 0),(3,B false),(4,I a0),(5,B p802_2)],[(2,[B false,B false,B false,B false,B false,B false,B false,B false,B false])],0⟩
def Aow(e0:EC):Bg:=(Bb 0 (Bp (EV (Ahb L) L 9 e0) (Ct Tryz.prog (RS Tryz.f225) kk)))
def sx_R10_Of_2 [An A (Cg×Bool)](L:Nat)(a0:Int)(p802_2:Bool)(nx3:Int→Bool→A):A:=
 (cn p802_2
 (lf ((⟨true,false,true,false,false,false,false,false,false⟩:Cg),true))
 (cn (a0 == 2)
 (lf ((⟨true,true,false,false,false,true,false,false,false⟩:Cg),true))
 (cn (a0 == 3)
 (lf ((⟨false,false,true,false,false,false,false,true,true⟩:Cg),true))
 (cn (a0 == 4)
 (lf ((⟨false,false,true,false,false,false,false,true,false⟩:Cg),true))
 (cn (a0 == 5)
 (lf ((⟨false,false,true,false,false,false,false,false,false⟩:Cg),true))
 (cn (a0 == 6)
 (lf ((⟨true,false,true,true,false,false,true,false,false⟩:Cg),true))
 (cn (a0 == 9)
 (lf ((⟨true,true,false,false,false,false,false,false,false⟩:Cg),true))
 (cn (a0 == 10)
 (nx3 a0 (a0 == 10))
 (nx3 a0 (a0 == 11))))))))))
def Ann [An A (Cg×Bool)](a0:Int)(p802_2:Bool):A:=sx_R10_Of_2 L a0 p802_2 (fun a0 p803_2=>Ano L a0 p803_2)
theorem Bgq(a0:Int)(p802_2:Bool)(z3:EC):EV (Ahb L) L 9 (EC.put (rl [21]) z3 T5.u.l.u.l.u) (Ao6 a0 p802_2) (Aow L kk T5.u.r)= @sx_R10_Of_2 Prop (anP (Asm kk)) L a0 p802_2 (fun a0 p803_2=>EV (Ahb L) L 9 z3 (Ao7 a0 p803_2) (Aox L kk T5.u.r)):=by kernel_rfl
theorem Bgd(a0:Int)(p802_2:Bool):EV (Ahb L) L 9 T5.u.l.u.l.u (Ao6 a0 p802_2) (Aow L kk T5.u.r)=ob (Ann L a0 p802_2) (Asm kk):=Eq.trans (b:=EV (Ahb L) L 9 (EC.put (rl [21]) T5.u.l.u.l.x.x.w.u.r T5.u.l.u.l.u) (Ao6 a0 p802_2) (Aow L kk T5.u.r)) (by kernel_rfl) ((Bgq L kk a0 p802_2 T5.u.l.u.l.x.x.w.u.r).trans (eE (sx_R10_Of_2 L a0 p802_2 (fun a0 p803_2=>re (Bge L kk a0 p803_2)))))
def sx_R10_Of_0 [An A (Cg×Bool)](L:Nat)(a0:Int)(nx2:Int→Bool→A):A:=
 (cn (a0 == 1)
 (nx2 a0 (a0 == 1))
 (cn (a0 == 7)
 (nx2 a0 (a0 == 7))
 (cn (a0 == 8)
 (nx2 a0 (a0 == 8))
 (cn (a0 == 12)
 (nx2 a0 (a0 == 12))
 (cn (a0 == 15)
 (nx2 a0 (a0 == 15))
 (cn (a0 == 16)
 (nx2 a0 (a0 == 16))
 (nx2 a0 (a0 == 17))))))))
def A9o [An A (Cg×Bool)](a0:Int):A:=sx_R10_Of_0 L a0 (fun a0 p802_2=>Ann L a0 p802_2)
theorem Bgp(a0:Int)(z2:EC):EW (Ahb L) L 9 (RS Tryz.f225) (EC.put (rl [2,1,2,1,2]) z2 T5) [I a0] kk= @sx_R10_Of_0 Prop (anP (Asm kk)) L a0 (fun a0 p802_2=>EV (Ahb L) L 9 z2 (Ao6 a0 p802_2) (Aow L kk T5.u.r)):=by kernel_rfl
def Ape(a0:Int):Option (Cg×Bool):=A9o L a0
def Bme:Di:=E1 (fun(x:Cg×Bool)=> .tup [.agg (Aai x.1),B x.2]) 225 (cI .i64) (Ape L) fun a0 r h=>hF Tryz.func225 (C:=Ahb L) (oS _) L (fun kk=>Eq.trans (b:=EW (Ahb L) L 9 (RS Tryz.f225) (EC.put (rl [2,1,2,1,2]) T5.u.l.u.l.u T5) [I a0] kk) (by kernel_rfl) ((Bgp L kk a0 T5.u.l.u.l.u).trans (eE (sx_R10_Of_0 L a0 (fun a0 p802_2=>re (Bgd L kk a0 p802_2)))))) h
def Apu [An A Bool](L:Nat)(a0:Ab):A:=
 (jp (.cn (a0.Op == 0)
 (.lf (a0.Name.toList == (⟨#[]⟩:ByteArray).toList))
 (.lf false)) (fun b1=>
 (jp (.cn b1
 (.lf (a0.N == 0))
 (.lf false)) (fun b2=>
 (jp (.cn b2
 (.lf ((a0.Kids.length:Int) == 0))
 (.lf false)) (fun b3=>
 (lf b3)))))))
def Ag6(a0:Ab):Option Bool:=Apu L a0
def Btm:Di:=E1 B 229 Bq (Ag6 L) fun a0 r h=>hF Tryz.func229 (oS []) L (fun kk=>eE (Apu L a0)) h
def Air [An A Bool](a0:Af):A:=
 (bd (Ape L a0.Op) fun r1=>
 (jp (.cn r1.1.Name
 (.lf true)
 (.lf (a0.Name.toList == (⟨#[]⟩:ByteArray).toList))) (fun b2=>
 (jp (.cn b2
 (.cn r1.1.Of
 (.lf true)
 (.lf (a0.Of.toList == (⟨#[]⟩:ByteArray).toList)))
 (.lf false)) (fun b3=>
 (jb (.cn r1.1.E
 (.lf true)
 (.bd (Ag6 L (Ab.cp a0.E)) fun r5=>
 (.lf r5))) (fun b4=>
 (jb (.cn b4
 (.cn r1.1.F
 (.lf true)
 (.bd (Ag6 L (Ab.cp a0.F)) fun r7=>
 (.lf r7)))
 (.lf false)) (fun b6=>
 (jp (.cn b6
 (.cn r1.1.Args
 (.lf true)
 (.lf ((a0.Args.length:Int) == 0)))
 (.lf false)) (fun b8=>
 (jp (.cn r1.1.Body
 (.lf true)
 (.lf ((a0.Body.length:Int) == 0))) (fun b9=>
 (jp (.cn b9
 (.cn r1.1.Else
 (.lf true)
 (.lf ((a0.Else.length:Int) == 0)))
 (.lf false)) (fun b10=>
 (jp (.cn r1.2
 (.lf b3)
 (.lf false)) (fun b11=>
 (jp (.cn b11
 (.lf b8)
 (.lf false)) (fun b12=>
 (jp (.cn b12
 (.lf b10)
 (.lf false)) (fun b13=>
 (cn b13
 (cn r1.1.Dist
 (nq (jp (.cn r1.1.Flag
 (.lf true)
 (.lf (!a0.Flag))) (fun b14=>
 (lf b14))))
 (bd (Tl L a0.Dist (⟨0,0,0,0,[],[]⟩:B8)) fun r15=>
 (nq (jp (.cn r15
 (.cn r1.1.Flag
 (.lf true)
 (.lf (!a0.Flag)))
 (.lf false)) (fun b16=>
 (lf b16))))))
 (nq (nq (lf false)))))))))))))))))))))))))
def Aif(a0:Af):Option Bool:=Air L a0
def Btk:Di:=E1 B 226 Qj (Aif L) fun a0 r h=>hF Tryz.func226 (oS [Bfk L,Bme L,Btm L]) L (fun kk=>eE (Air L a0)) h
def A2m(F:Ab→Option Int):Prop:=∀y0 r,F y0=some r→Ho Tryz.prog 180 [Bq.en y0] I r
def Buf:=CC Tryz.f180
def Bli(D6:Ab→Option Int)(L:Nat):Bi:=(orc 180 (A1 I Bq D6) (oL []))
theorem B0n(D6:Ab→Option Int)(Baj:A2m D6)(L:Nat):Cz Tryz.prog (Bli D6 L):=(De (a1 _ Baj) (oS []))
def A6n(a0:Ab)(v:C8):St:=⟨[(0,.any),(1,.loc 1 0),(2,I 0),(3,I v.1),(4,I v.2)],[(1,(Ca a0))],0⟩
def Adf [An A Cq](D6:Ab→Option Int)(L:Nat)(a0:Ab)(rec:Int→Int→A)(Aw:Int)(Ao:Int):A:=
 (lw Ao a0.Kids
 (bd (D6 (Ab.cp (a0.Kids.getD (Int.toNat Ao) default))) fun r1=>
 (rec (Bo (Aw+r1)) (Bo (Ao+1))))
 (lf (0,Aw,Ao)))
def Ui(D6:Ab→Option Int)(L:Nat)(a0:Ab):Nat→Int→Int→Option Cq
 |0,_,_=>none
 |n+1,Aw,Ao=>Adf D6 L a0 (Ui D6 L a0 n) Aw Ao
theorem Bis(D6:Ab→Option Int)(L:Nat)(K:Bg)(a0:Ab):LP (EV (Bli D6 L) L 9 Buf.w.l.u.l.l) [0,1,2,3,4] [1] (A6n a0) [.exit 0] (fun n v=>Ui D6 L a0 n v.1 v.2) K:=lE (fun _=>rfl) fun n v ih=>eE (Adf D6 L a0 (fun Aw Ao=>re (ih (Aw,Ao))) v.1 v.2)
def U4 [An A Int](D6:Ab→Option Int)(L:Nat)(o2:Nat×C8):A:=
 (sl o2.1 [(lf o2.2.1)])
def A4a(D6:Ab→Option Int)(L:Nat)(kk:Cc):Bg:=(Bb 0 (Bp (EV (Bli D6 L) L 9 Buf.w.r) (Ct Tryz.prog (RS Tryz.f180) kk)))
theorem Bp6(D6:Ab→Option Int)(L:Nat)(kk:Cc)(a0:Ab)(o2:Nat×C8):kX [.exit 0] (A6n a0) (A4a D6 L kk) o2=ob (U4 D6 L o2) (kQ I kk):=eE (U4 D6 L o2)
def Awc [An A Int](D6:Ab→Option Int)(L:Nat)(a0:Ab):A:=(bd (Ui D6 L a0 L 1 0) fun o2=>U4 D6 L o2)
def Alz(D6:Ab→Option Int)(L:Nat)(a0:Ab):Option Int:=Awc D6 L a0
theorem By6(D6:Ab→Option Int)(Baj:A2m D6)(L:Nat):A2m (Alz D6 L):=fun a0 r h=>hF Tryz.func180 (B0n D6 Baj L) L (fun kk=>eE ((ho (Bis D6 L (A4a D6 L kk) a0 L (1,0)) fun o2=>Bp6 D6 L kk a0 o2))) h
def Qf:Nat→Ab→Option Int
 |0,_=>none
 |L+1,a0=>Alz (Qf L) L a0
theorem Bgz(L:Nat):A2m (Qf L):=by
 induction L with
 |zero=>exact fun _ _ h=>(by cases h)
 |succ L ih=>
  have i180:=ih
  exact By6 (Qf L) i180 L
def Bs3(L:Nat):Di:=E1 I 180 Bq (Qf L) (Bgz L)
def A2n(F:Ab→Option Int):Prop:=∀y0 r,F y0=some r→Ho Tryz.prog 181 [Bq.en y0] I r
def Bug:=CC Tryz.f181
def Blj(D7:Ab→Option Int)(L:Nat):Bi:=(orc 181 (A1 I Bq D7) (oL []))
theorem B0o(D7:Ab→Option Int)(Bak:A2n D7)(L:Nat):Cz Tryz.prog (Blj D7 L):=(De (a1 _ Bak) (oS []))
def A6o(a0:Ab)(v:C8):St:=⟨[(0,.any),(1,.loc 1 0),(2,I 0),(3,I v.1),(4,I v.2)],[(1,(Ca a0))],0⟩
def Ade [An A Cq](D7:Ab→Option Int)(L:Nat)(a0:Ab)(rec:Int→Int→A)(Aw:Int)(Ao:Int):A:=
 (lw Ao a0.Kids
 (bd (D7 (Ab.cp (a0.Kids.getD (Int.toNat Ao) default))) fun r1=>
 (rec (if r1 > Aw then r1 else Aw) (Bo (Ao+1))))
 (lf (0,Aw,Ao)))
def Uh(D7:Ab→Option Int)(L:Nat)(a0:Ab):Nat→Int→Int→Option Cq
 |0,_,_=>none
 |n+1,Aw,Ao=>Ade D7 L a0 (Uh D7 L a0 n) Aw Ao
theorem Biu(D7:Ab→Option Int)(L:Nat)(K:Bg)(a0:Ab):LP (EV (Blj D7 L) L 9 Bug.w.l.u.l.l) [0,1,2,3,4] [1] (A6o a0) [.exit 0] (fun n v=>Uh D7 L a0 n v.1 v.2) K:=lE (fun _=>rfl) fun n v ih=>eE (Ade D7 L a0 (fun Aw Ao=>re (ih (Aw,Ao))) v.1 v.2)
def U3 [An A Int](D7:Ab→Option Int)(L:Nat)(o2:Nat×C8):A:=
 (sl o2.1 [(lf (Bo (o2.2.1+1)))])
def A4b(D7:Ab→Option Int)(L:Nat)(kk:Cc):Bg:=(Bb 0 (Bp (EV (Blj D7 L) L 9 Bug.w.r) (Ct Tryz.prog (RS Tryz.f181) kk)))
theorem Bp7(D7:Ab→Option Int)(L:Nat)(kk:Cc)(a0:Ab)(o2:Nat×C8):kX [.exit 0] (A6o a0) (A4b D7 L kk) o2=ob (U3 D7 L o2) (kQ I kk):=eE (U3 D7 L o2)
def Awb [An A Int](D7:Ab→Option Int)(L:Nat)(a0:Ab):A:=(bd (Uh D7 L a0 L 0 0) fun o2=>U3 D7 L o2)
def Aly(D7:Ab→Option Int)(L:Nat)(a0:Ab):Option Int:=Awb D7 L a0
theorem By7(D7:Ab→Option Int)(Bak:A2n D7)(L:Nat):A2n (Aly D7 L):=fun a0 r h=>hF Tryz.func181 (B0o D7 Bak L) L (fun kk=>eE ((ho (Biu D7 L (A4b D7 L kk) a0 L (0,0)) fun o2=>Bp7 D7 L kk a0 o2))) h
def Qe:Nat→Ab→Option Int
 |0,_=>none
 |L+1,a0=>Aly (Qe L) L a0
theorem Bg0(L:Nat):A2n (Qe L):=by
 induction L with
 |zero=>exact fun _ _ h=>(by cases h)
 |succ L ih=>
  have i181:=ih
  exact By7 (Qe L) i181 L
def Bs4(L:Nat):Di:=E1 I 181 Bq (Qe L) (Bg0 L)
def Amj [An A Int](L:Nat)(a0:Int):A:=
 (jp (.cn (decide (a0 < 1))
 (.lf true)
 (.lf (decide (a0 > 26)))) (fun b1=>
 (cn b1
 (lf (-1))
 (jp (.cn (decide (a0≥5))
 (.lf (decide (a0≤8)))
 (.lf false)) (fun b2=>
 (cn b2
 (lf 1)
 (jp (.cn (decide (a0≥9))
 (.lf (decide (a0≤21)))
 (.lf false)) (fun b3=>
 (cn b3
 (lf 2)
 (lf 0))))))))))
def Al4(a0:Int):Option Int:=Amj L a0
def Bl5:Di:=E1 I 207 (cI .i64) (Al4 L) fun a0 r h=>hF Tryz.func207 (oS []) L (fun kk=>eE (Amj L a0)) h
end
end Go.Proofs.YthjhkpgonleelaaGreatDoor.Ev
