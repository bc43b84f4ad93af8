import Derived.Test.YtofcpkmnhmnfcaaGreatRG0
namespace Go.Proofs.YtofcpkmnhmnfcaaGreatR.Ev
open Go An
set_option maxRecDepth 100000
set_option maxHeartbeats 4000000
set_option linter.unusedVariables false
set_option linter.unusedSimpArgs false
set_option linter.unnecessarySimpa false
noncomputable section
variable {A:Type} (L n:Nat) (kk:Cz) (K:Ba) (k:Bq)
def Aq3 [An A Bool](L:Nat)(a0:Int):A:=
 (jp (.cn (decide (a0≥97))
 (.lf (decide (a0≤122)))
 (.lf false)) (fun b1=>
 (lf b1)))
def Ac4(a0:Int):Option Bool:=Aq3 L a0
def Ch4:F7:=E1 B 148 (cI .u8) (Ac4 L) fun a0 r h=>hF Tryz.func148 (oS []) L (fun kk=>eE (Aq3 L a0)) h
def Atg [An A (List ByteArray)](L:Nat):A:=
 (lf [(⟨#[97,100,100]⟩:ByteArray),(⟨#[97,102,116,101,114]⟩:ByteArray),(⟨#[97,110,100]⟩:ByteArray),(⟨#[97,116]⟩:ByteArray),(⟨#[98,101,108,116]⟩:ByteArray),(⟨#[98,111,111,108]⟩:ByteArray),(⟨#[99,111,110,115,101,114,118,101]⟩:ByteArray),(⟨#[99,111,110,115,116]⟩:ByteArray),(⟨#[99,111,117,110,116]⟩:ByteArray),(⟨#[99,121,99,108,101]⟩:ByteArray),(⟨#[100,111,119,110]⟩:ByteArray),(⟨#[100,114,97,119]⟩:ByteArray),(⟨#[100,117,114]⟩:ByteArray),(⟨#[101,108,115,101]⟩:ByteArray),(⟨#[101,110,100]⟩:ByteArray),(⟨#[101,118,101,114,121]⟩:ByteArray),(⟨#[102,97,108,115,101]⟩:ByteArray),(⟨#[102,97,117,108,116]⟩:ByteArray),(⟨#[102,105,102,111]⟩:ByteArray),(⟨#[102,114,101,101]⟩:ByteArray),(⟨#[102,114,111,109]⟩:ByteArray),(⟨#[103,101,111,109]⟩:ByteArray),(⟨#[103,101,116]⟩:ByteArray),(⟨#[104,111,108,100]⟩:ByteArray),(⟨#[105,102]⟩:ByteArray),(⟨#[105,110,116]⟩:ByteArray),(⟨#[105,110,116,111]⟩:ByteArray),(⟨#[108,101,97,115,116]⟩:ByteArray),(⟨#[108,101,118,101,108]⟩:ByteArray),(⟨#[108,105,102,111]⟩:ByteArray),(⟨#[108,105,110,107]⟩:ByteArray),(⟨#[108,111,99,97,108]⟩:ByteArray),(⟨#[109,97,120]⟩:ByteArray),(⟨#[109,105,110]⟩:ByteArray),(⟨#[109,111,100,101,108]⟩:ByteArray),(⟨#[110,111,116]⟩:ByteArray),(⟨#[110,111,119]⟩:ByteArray),(⟨#[111,98,115,101,114,118,101]⟩:ByteArray),(⟨#[111,114]⟩:ByteArray),(⟨#[112,97,114,97,109]⟩:ByteArray),(⟨#[112,114,101,101,109,112,116]⟩:ByteArray),(⟨#[112,114,105,111]⟩:ByteArray),(⟨#[112,117,116]⟩:ByteArray),(⟨#[113,117,101,117,101]⟩:ByteArray),(⟨#[114,101,108,101,97,115,101]⟩:ByteArray),(⟨#[114,101,115,111,117,114,99,101]⟩:ByteArray),(⟨#[114,105,100,101]⟩:ByteArray),(⟨#[114,111,117,116,105,110,101]⟩:ByteArray),(⟨#[115,101,105,122,101]⟩:ByteArray),(⟨#[115,101,110,100]⟩:ByteArray),(⟨#[115,101,116]⟩:ByteArray),(⟨#[115,104,105,102,116]⟩:ByteArray),(⟨#[115,105,103,110,97,108]⟩:ByteArray),(⟨#[115,105,116,101]⟩:ByteArray),(⟨#[115,105,122,101]⟩:ByteArray),(⟨#[115,112,97,119,110]⟩:ByteArray),(⟨#[115,116,97,114,116]⟩:ByteArray),(⟨#[115,116,111,112]⟩:ByteArray),(⟨#[115,116,111,114,101]⟩:ByteArray),(⟨#[115,116,114,101,97,109]⟩:ByteArray),(⟨#[115,117,109]⟩:ByteArray),(⟨#[116,97,98,108,101]⟩:ByteArray),(⟨#[116,97,108,108,121]⟩:ByteArray),(⟨#[116,105,99,107,115]⟩:ByteArray),(⟨#[116,105,109,101]⟩:ByteArray),(⟨#[116,114,117,101]⟩:ByteArray),(⟨#[117,110,105,102,111,114,109]⟩:ByteArray),(⟨#[117,110,116,105,108]⟩:ByteArray),(⟨#[117,112]⟩:ByteArray),(⟨#[118,97,114]⟩:ByteArray),(⟨#[119,97,105,116]⟩:ByteArray),(⟨#[119,97,105,116,105,110,103]⟩:ByteArray),(⟨#[119,104,105,108,101]⟩:ByteArray)])
def Alt:Option (List ByteArray):=Atg L
def Cii:F7:=E0 (fun(x:List ByteArray)=>lv (.t9 x)) 202 (Alt L) fun r h=>hF Tryz.func202 (oS []) L (fun kk=>eE (Atg L)) h
def Cj5:=CC Tryz.f151
def B9b(L:Nat):Bd:=oL []
def Bqd(a0:List ByteArray)(a1:ByteArray)(v:Cs):St:=⟨[(0,lv (.t9 a0)),(1,S a1),(4,I v.1),(5,I v.2)],[],0⟩
def Ah3 [An A Cm](L:Nat)(a0:List ByteArray)(a1:ByteArray)(rec:Int→Int→A)(Ak:Int)(Aj:Int):A:=
 (lw Aj a0
 (cn ((a0.getD (Int.toNat Aj) default).toList == a1.toList)
 (lf (0,Aj,Aj))
 (rec Ak (B7 (Aj+1))))
 (lf (1,Ak,Aj)))
def Tj(L:Nat)(a0:List ByteArray)(a1:ByteArray):Nat→Int→Int→Option Cm
 |0,_,_=>none
 |n+1,Ak,Aj=>Ah3 L a0 a1 (Tj L a0 a1 n) Ak Aj
theorem B4u(a0:List ByteArray)(a1:ByteArray):LP (EV (B9b L) L 9 Cj5.u.l.u.l.l) [0,1,4,5] [] (Bqd a0 a1) [.ret,.exit 0] (fun n v=>Tj L a0 a1 n v.1 v.2) K:=lE (fun _=>rfl) fun n v ih=>eE (Ah3 L a0 a1 (fun Ak Aj=>re (ih (Ak,Aj))) v.1 v.2)
def Aau [An A Int](L:Nat)(o1:Nat×Cs):A:=
 (sl o1.1 [(lf o1.2.1),
 (lf (-1))])
def Bmz:Ba:=(Av 0 (Be (EV (B9b L) L 9 Cj5.u.r) (Cp Tryz.prog (RS Tryz.f151) kk)))
theorem Cej(a0:List ByteArray)(a1:ByteArray)(o1:Nat×Cs):kX [.ret,.exit 0] (Bqd a0 a1) (Bmz L kk) o1=ob (Aau L o1) (kQ I kk):=eE (Aau L o1)
def A6q [An A Int](a0:List ByteArray)(a1:ByteArray):A:=(bd (Tj L a0 a1 L 0 0) fun o1=>Aau L o1)
def Nc(a0:List ByteArray)(a1:ByteArray):Option Int:=A6q L a0 a1
def Br0:F7:=E2 I 151 cl9 cS (Nc L) fun a0 a1 r h=>hF Tryz.func151 (C:=B9b L) (oS _) L (fun kk=>eE ((ho (B4u L (Bmz L kk) a0 a1 L (0,0)) fun o1=>Cej L kk a0 a1 o1))) h
def An9 [An A Bool](a0:ByteArray):A:=
 (bd (Alt L) fun r1=>
 (bd (Nc L r1 a0) fun r2=>
 (lf (decide (r2≥0)))))
def Ahr(a0:ByteArray):Option Bool:=An9 L a0
def Ch5:F7:=E1 B 149 cS (Ahr L) fun a0 r h=>hF Tryz.func149 (oS [Br0 L,Cii L]) L (fun kk=>eE (An9 L a0)) h
def c81:=CC Tryz.f81
def O81:Bd:=oL [Ch4 L,Ch5 L]
def By7(a0:ByteArray)(v:Cs):St:=⟨[(0,S a0),(2,I v.1),(3,I v.2)],[],0⟩
def Y9 [An A Cm](a0:ByteArray)(rec:Int→Int→A)(Ai:Int)(Ak:Int):A:=
 (cn (decide (Ak < (a0.size:Int)))
 (cn ((if 0≤Ak then a0[Int.toNat Ak]? else none).isSome)
 (bd (Ac4 L (Eg (if 0≤Ak then a0[Int.toNat Ak]? else none))) fun r6=>
 (jb (.cn (!r6)
 (.cn ((if 0≤Ak then a0[Int.toNat Ak]? else none).isSome)
 (.lf ((Eg (if 0≤Ak then a0[Int.toNat Ak]? else none)) != 95))
 .fl)
 (.lf false)) (fun b7=>
 (jb (.cn b7
 (.cn ((if 0≤Ak then a0[Int.toNat Ak]? else none).isSome)
 (.cn (decide ((Eg (if 0≤Ak then a0[Int.toNat Ak]? else none)) < 48))
 (.lf true)
 (.cn ((if 0≤Ak then a0[Int.toNat Ak]? else none).isSome)
 (.lf (decide ((Eg (if 0≤Ak then a0[Int.toNat Ak]? else none)) > 57)))
 .fl))
 .fl)
 (.lf false)) (fun b8=>
 (cn b8
 (lf (0,3,Ak))
 (rec Ai (B7 (Ak+1)))))))))
 fl)
 (lf (1,Ai,Ak)))
def P9(L:Nat)(a0:ByteArray):Nat→Int→Int→Option Cm
 |0,_,_=>none
 |n+1,Ai,Ak=>Y9 L a0 (P9 L a0 n) Ai Ak
theorem Cdm(a0:ByteArray):LP (EV (O81 L) L 9 c81.w.l.u.l.l) [0,2,3] [] (By7 a0) [.ret,.exit 0] (fun n v=>P9 L a0 n v.1 v.2) K:=lE (fun _=>rfl) fun n v ih=>eE (Y9 L a0 (fun Ai Ak=>re (ih (Ai,Ak))) v.1 v.2)
def Zg [An A Int](L:Nat)(o9:Nat×Cs):A:=
 (sl o9.1 [(lf o9.2.1),
 (lf 0)])
def Bw3:Ba:=(Av 0 (Be (EV (O81 L) L 9 c81.w.r) (Cp Tryz.prog (RS Tryz.f81) kk)))
theorem Cnj(a0:ByteArray)(o9:Nat×Cs):kX [.ret,.exit 0] (By7 a0) (Bw3 L kk) o9=ob (Zg L o9) (kQ I kk):=eE (Zg L o9)
def Ae8 [An A Int](a0:ByteArray)(nx1:A):A:=
 (jp (.cn (decide ((a0.size:Int) < 1))
 (.lf true)
 (.lf (decide ((a0.size:Int) > 24)))) (fun b1=>
 (jb (.cn b1
 (.lf true)
 (.cn ((if 0≤0 then a0[Int.toNat 0]? else none).isSome)
 (.bd (Ac4 L (Eg (if 0≤0 then a0[Int.toNat 0]? else none))) fun r3=>
 (.lf (!r3)))
 .fl)) (fun b2=>
 (jb (.cn b2
 (.lf true)
 (.bd (Ahr L a0) fun r5=>
 (.lf r5))) (fun b4=>
 (cn b4
 (lf 3)
 nx1)))))))
def A2n [An A Int](a0:ByteArray):A:=Ae8 L a0 (bd (P9 L a0 L 0 0) fun o9=>Zg L o9)
def R8(a0:ByteArray):Option Int:=A2n L a0
def X81:F7:=E1 I 81 cS (R8 L) fun a0 r h=>hF Tryz.func81 (C:=O81 L) (oS _) L (fun kk=>eE (Ae8 L a0 (ho (Cdm L (Bw3 L kk) a0 L (0,0)) fun o9=>Cnj L kk a0 o9))) h
def Aq6 [An A Int](L:Nat)(a0:Bool)(a1:Int):A:=
 (cn a0
 (lf 0)
 (lf a1))
def B8(a0:Bool)(a1:Int):Option Int:=Aq6 L a0 a1
def X82:F7:=E2 I 82 cB (cI .i64) (B8 L) fun a0 a1 r h=>hF Tryz.func82 (oS []) L (fun kk=>eE (Aq6 L a0 a1)) h
def Ato [An A Int](L:Nat)(a0:Int)(a1:Int):A:=
 (cn (a0 != 0)
 (lf a0)
 (lf a1))
def C8(a0:Int)(a1:Int):Option Int:=Ato L a0 a1
def X80:F7:=E2 I 80 (cI .i64) (cI .i64) (C8 L) fun a0 a1 r h=>hF Tryz.func80 (oS []) L (fun kk=>eE (Ato L a0 a1)) h
def Atp [An A Int](a0:ByteArray)(a1:List ByteArray):A:=
 (bd (R8 L a0) fun r1=>
 (bd (Nc L a1 a0) fun r2=>
 (bd (B8 L (decide (r2 < 0)) 4) fun r3=>
 (bd (C8 L r1 r3) fun r4=>
 (lf r4)))))
def Oz(a0:ByteArray)(a1:List ByteArray):Option Int:=Atp L a0 a1
def X84:F7:=E2 I 84 cS cl9 (Oz L) fun a0 a1 r h=>hF Tryz.func84 (oS [X80 L,X81 L,X82 L,Br0 L]) L (fun kk=>eE (Atp L a0 a1)) h
def Atn [An A Bool](L:Nat)(a0:Int):A:=
 (jp (.cn (a0 == 1)
 (.lf true)
 (.lf (a0 == 2))) (fun b1=>
 (jp (.cn b1
 (.lf true)
 (.lf (a0 == 3))) (fun b2=>
 (lf b2)))))
def Yy(a0:Int):Option Bool:=Atn L a0
def B0v:F7:=E1 B 150 (cI .i64) (Yy L) fun a0 r h=>hF Tryz.func150 (oS []) L (fun kk=>eE (Atn L a0)) h
def A6p [An A Bool](L:Nat)(a0:Int):A:=
 (jp (.cn (decide (a0≥(-1000000000000)))
 (.lf (decide (a0≤1000000000000)))
 (.lf false)) (fun b1=>
 (lf b1)))
def Ao8(a0:Int):Option Bool:=A6p L a0
def X50:F7:=E1 B 50 (cI .i64) (Ao8 L) fun a0 r h=>hF Tryz.func50 (oS []) L (fun kk=>eE (A6p L a0)) h
def Aq7 [An A Bool](L:Nat)(a0:Int)(a1:Int)(a2:Int):A:=
 (jp (.cn (decide (a0≥a1))
 (.lf (decide (a0≤a2)))
 (.lf false)) (fun b1=>
 (lf b1)))
def Dp(a0:Int)(a1:Int)(a2:Int):Option Bool:=Aq7 L a0 a1 a2
def X51:F7:=E3 B 51 (cI .i64) (cI .i64) (cI .i64) (Dp L) fun a0 a1 a2 r h=>hF Tryz.func51 (oS []) L (fun kk=>eE (Aq7 L a0 a1 a2)) h
def Awy [An A Bool](a0:Int)(a1:Int):A:=
 (cn (a0 == 1)
 (bd (Ao8 L a1) fun r1=>
 (lf r1))
 (cn (a0 == 2)
 (jp (.cn (a1 == 0)
 (.lf true)
 (.lf (a1 == 1))) (fun b2=>
 (lf b2)))
 (cn (a0 == 3)
 (bd (Dp L a1 0 1000000000) fun r3=>
 (lf r3))
 (lf false))))
def Tf(a0:Int)(a1:Int):Option Bool:=Awy L a0 a1
def X32:F7:=E2 B 32 (cI .i64) (cI .i64) (Tf L) fun a0 a1 r h=>hF Tryz.func32 (oS [X50 L,X51 L]) L (fun kk=>eE (Awy L a0 a1)) h
def Atr [An A Int](a0:Ag)(a1:List ByteArray):A:=
 (bd (Oz L a0.Name a1) fun r1=>
 (bd (Yy L a0.Type_) fun r2=>
 (bd (B8 L r2 1) fun r3=>
 (bd (C8 L r1 r3) fun r4=>
 (bd (Tf L a0.Type_ a0.N) fun r5=>
 (bd (B8 L r5 2) fun r6=>
 (bd (C8 L r4 r6) fun r7=>
 (lf r7))))))))
def Ai2(a0:Ag)(a1:List ByteArray):Option Int:=Atr L a0 a1
def X83:F7:=E2 I 83 Bde cl9 (Ai2 L) fun a0 a1 r h=>hF Tryz.func83 (oS [X32 L,X80 L,X82 L,X84 L,B0v L]) L (fun kk=>eE (Atr L a0 a1)) h
def A90:=CC Tryz.f152
def A6n(L:Nat):Bd:=oL []
def Bg6:(List (List ByteArray))→Prop:=fun x=>kk ((fun(x:List (List ByteArray))=>lv (.t48 x)) x)
def Bqe(a0:Aa)(v:M4):St:=⟨[(0,.any),(1,.loc 1 0),(2,.lst true (.t48 [])),(3,.vw true 9 48 1 10),(4,I v.1),(5,.any),(6,.any),(7,.any),(8,.any)],[(1,(Af a0)),(9,[.lst true (.t9 v.2),.lst true (.t9 []),.lst true (.t9 []),.lst true (.t9 []),.lst true (.t9 []),.lst true (.t9 []),.lst true (.t9 []),.lst true (.t9 []),.lst true (.t9 []),.lst true (.t9 [])])],0⟩
def Ad0 [An A (Nat×M4)](L:Nat)(a0:Aa)(rec:Int→List ByteArray→A)(Ai:Int)(Aag:List ByteArray):A:=
 (cn (decide (Ai < (a0.Vars.length:Int)))
 (gq ((0:Int)≤0)
 (gq (0 < ((10:Nat):Int))
 (gi Ai a0.Vars
 (gq ((Aag.length+ [(a0.Vars.getD (Int.toNat Ai) default).Name].length)*16≤140737488355328)
 (gq (Aag.length+ [(a0.Vars.getD (Int.toNat Ai) default).Name].length≤maxLen)
 (gq ((0:Int)≤0)
 (gq (0 < ((10:Nat):Int))
 (rec (B7 (Ai+1)) (Aag++ [(a0.Vars.getD (Int.toNat Ai) default).Name])))))))))
 (lf (0,Ai,Aag)))
def Qg(L:Nat)(a0:Aa):Nat→Int→List ByteArray→Option (Nat×M4)
 |0,_,_=>none
 |n+1,Ai,Aag=>Ad0 L a0 (Qg L a0 n) Ai Aag
theorem B4v(a0:Aa):LP (EV (A6n L) L 9 A90.w.l.u.l.l) [0,1,2,3,4,5,6,7,8] [1,9] (Bqe a0) [.exit 0] (fun n v=>Qg L a0 n v.1 v.2) K:=lE (fun _=>rfl) fun n v ih=>eE (Ad0 L a0 (fun Ai Aag=>re (ih (Ai,Aag))) v.1 v.2)
def Bqf(a0:Aa)(o1:Nat×M4)(v:M4):St:=⟨[(0,.any),(1,.loc 1 0),(2,.lst true (.t48 [])),(3,.vw true 9 48 1 10),(4,.any),(5,I v.1),(6,.any),(7,.any),(8,.any)],[(1,(Af a0)),(9,[.lst true (.t9 o1.2.2),.lst true (.t9 v.2),.lst true (.t9 []),.lst true (.t9 []),.lst true (.t9 []),.lst true (.t9 []),.lst true (.t9 []),.lst true (.t9 []),.lst true (.t9 []),.lst true (.t9 [])])],0⟩
def Ad1 [An A (Nat×M4)](L:Nat)(a0:Aa)(o1:Nat×M4)(rec:Int→List ByteArray→A)(Bt:Int)(Aah:List ByteArray):A:=
 (cn (decide (Bt < (a0.Resources.length:Int)))
 (gq ((0:Int)≤1)
 (gq (1 < ((10:Nat):Int))
 (gi Bt a0.Resources
 (gq ((Aah.length+ [(a0.Resources.getD (Int.toNat Bt) default).Name].length)*16≤140737488355328)
 (gq (Aah.length+ [(a0.Resources.getD (Int.toNat Bt) default).Name].length≤maxLen)
 (gq ((0:Int)≤1)
 (gq (1 < ((10:Nat):Int))
 (rec (B7 (Bt+1)) (Aah++ [(a0.Resources.getD (Int.toNat Bt) default).Name])))))))))
 (lf (0,Bt,Aah)))
def Qh(L:Nat)(a0:Aa)(o1:Nat×M4):Nat→Int→List ByteArray→Option (Nat×M4)
 |0,_,_=>none
 |n+1,Bt,Aah=>Ad1 L a0 o1 (Qh L a0 o1 n) Bt Aah
theorem B4w(a0:Aa)(o1:Nat×M4):LP (EV (A6n L) L 9 A90.w.u.l.u.l.l) [0,1,2,3,4,5,6,7,8] [1,9] (Bqf a0 o1) [.exit 2] (fun n v=>Qh L a0 o1 n v.1 v.2) K:=lE (fun _=>rfl) fun n v ih=>eE (Ad1 L a0 o1 (fun Bt Aah=>re (ih (Bt,Aah))) v.1 v.2)
def Bqg(a0:Aa)(o1:Nat×M4)(o2:Nat×M4)(v:M4):St:=⟨[(0,.any),(1,.loc 1 0),(2,.lst true (.t48 [])),(3,.vw true 9 48 1 10),(4,.any),(5,.any),(6,I v.1),(7,.any),(8,.any)],[(1,(Af a0)),(9,[.lst true (.t9 o1.2.2),.lst true (.t9 o2.2.2),.lst true (.t9 v.2),.lst true (.t9 []),.lst true (.t9 []),.lst true (.t9 []),.lst true (.t9 []),.lst true (.t9 []),.lst true (.t9 []),.lst true (.t9 [])])],0⟩
def Ad2 [An A (Nat×M4)](L:Nat)(a0:Aa)(o1:Nat×M4)(o2:Nat×M4)(rec:Int→List ByteArray→A)(Ef:Int)(Fs:List ByteArray):A:=
 (cn (decide (Ef < (a0.Stores.length:Int)))
 (gq ((0:Int)≤2)
 (gq (2 < ((10:Nat):Int))
 (gi Ef a0.Stores
 (gq ((Fs.length+ [(a0.Stores.getD (Int.toNat Ef) default).Name].length)*16≤140737488355328)
 (gq (Fs.length+ [(a0.Stores.getD (Int.toNat Ef) default).Name].length≤maxLen)
 (gq ((0:Int)≤2)
 (gq (2 < ((10:Nat):Int))
 (rec (B7 (Ef+1)) (Fs++ [(a0.Stores.getD (Int.toNat Ef) default).Name])))))))))
 (lf (0,Ef,Fs)))
def Qi(L:Nat)(a0:Aa)(o1:Nat×M4)(o2:Nat×M4):Nat→Int→List ByteArray→Option (Nat×M4)
 |0,_,_=>none
 |n+1,Ef,Fs=>Ad2 L a0 o1 o2 (Qi L a0 o1 o2 n) Ef Fs
theorem B4x(a0:Aa)(o1:Nat×M4)(o2:Nat×M4):LP (EV (A6n L) L 9 A90.x.l.u.l.l) [0,1,2,3,4,5,6,7,8] [1,9] (Bqg a0 o1 o2) [.exit 4] (fun n v=>Qi L a0 o1 o2 n v.1 v.2) K:=lE (fun _=>rfl) fun n v ih=>eE (Ad2 L a0 o1 o2 (fun Ef Fs=>re (ih (Ef,Fs))) v.1 v.2)
def Bqh(a0:Aa)(o1:Nat×M4)(o2:Nat×M4)(o3:Nat×M4)(v:M4):St:=⟨[(0,.any),(1,.loc 1 0),(2,.lst true (.t48 [])),(3,.vw true 9 48 1 10),(4,.any),(5,.any),(6,.any),(7,I v.1),(8,.any)],[(1,(Af a0)),(9,[.lst true (.t9 o1.2.2),.lst true (.t9 o2.2.2),.lst true (.t9 o3.2.2),.lst true (.t9 v.2),.lst true (.t9 []),.lst true (.t9 []),.lst true (.t9 []),.lst true (.t9 []),.lst true (.t9 []),.lst true (.t9 [])])],0⟩
def Ad3 [An A (Nat×M4)](L:Nat)(a0:Aa)(o1:Nat×M4)(o2:Nat×M4)(o3:Nat×M4)(rec:Int→List ByteArray→A)(Cq:Int)(Fv:List ByteArray):A:=
 (cn (decide (Cq < (a0.Belts.length:Int)))
 (gq ((0:Int)≤3)
 (gq (3 < ((10:Nat):Int))
 (gi Cq a0.Belts
 (gq ((Fv.length+ [(a0.Belts.getD (Int.toNat Cq) default).Name].length)*16≤140737488355328)
 (gq (Fv.length+ [(a0.Belts.getD (Int.toNat Cq) default).Name].length≤maxLen)
 (gq ((0:Int)≤3)
 (gq (3 < ((10:Nat):Int))
 (rec (B7 (Cq+1)) (Fv++ [(a0.Belts.getD (Int.toNat Cq) default).Name])))))))))
 (lf (0,Cq,Fv)))
def Qj(L:Nat)(a0:Aa)(o1:Nat×M4)(o2:Nat×M4)(o3:Nat×M4):Nat→Int→List ByteArray→Option (Nat×M4)
 |0,_,_=>none
 |n+1,Cq,Fv=>Ad3 L a0 o1 o2 o3 (Qj L a0 o1 o2 o3 n) Cq Fv
theorem B4y(a0:Aa)(o1:Nat×M4)(o2:Nat×M4)(o3:Nat×M4):LP (EV (A6n L) L 9 A90.x.u.l.u.l.l) [0,1,2,3,4,5,6,7,8] [1,9] (Bqh a0 o1 o2 o3) [.exit 6] (fun n v=>Qj L a0 o1 o2 o3 n v.1 v.2) K:=lE (fun _=>rfl) fun n v ih=>eE (Ad3 L a0 o1 o2 o3 (fun Cq Fv=>re (ih (Cq,Fv))) v.1 v.2)
def Bqi(a0:Aa)(o1:Nat×M4)(o2:Nat×M4)(o3:Nat×M4)(o4:Nat×M4)(v:M4):St:=⟨[(0,.any),(1,.loc 1 0),(2,.lst true (.t48 [])),(3,.vw true 9 48 1 10),(4,.any),(5,.any),(6,.any),(7,.any),(8,I v.1)],[(1,(Af a0)),(9,[.lst true (.t9 o1.2.2),.lst true (.t9 o2.2.2),.lst true (.t9 o3.2.2),.lst true (.t9 o4.2.2),lv (.t9 a0.Queues),lv (.t9 a0.Streams),lv (.t9 a0.Tallies),lv (.t9 a0.Levels),lv (.t9 a0.Counts),.lst true (.t9 v.2)])],0⟩
def Ad4 [An A (Nat×M4)](L:Nat)(a0:Aa)(o1:Nat×M4)(o2:Nat×M4)(o3:Nat×M4)(o4:Nat×M4)(rec:Int→List ByteArray→A)(W4:Int)(Aai:List ByteArray):A:=
 (cn (decide (W4 < (a0.Routines.length:Int)))
 (gq ((0:Int)≤9)
 (gq (9 < ((10:Nat):Int))
 (gi W4 a0.Routines
 (gq ((Aai.length+ [(a0.Routines.getD (Int.toNat W4) default).Name].length)*16≤140737488355328)
 (gq (Aai.length+ [(a0.Routines.getD (Int.toNat W4) default).Name].length≤maxLen)
 (gq ((0:Int)≤9)
 (gq (9 < ((10:Nat):Int))
 (rec (B7 (W4+1)) (Aai++ [(a0.Routines.getD (Int.toNat W4) default).Name])))))))))
 (lf (0,W4,Aai)))
def Qk(L:Nat)(a0:Aa)(o1:Nat×M4)(o2:Nat×M4)(o3:Nat×M4)(o4:Nat×M4):Nat→Int→List ByteArray→Option (Nat×M4)
 |0,_,_=>none
 |n+1,W4,Aai=>Ad4 L a0 o1 o2 o3 o4 (Qk L a0 o1 o2 o3 o4 n) W4 Aai
theorem B4z(a0:Aa)(o1:Nat×M4)(o2:Nat×M4)(o3:Nat×M4)(o4:Nat×M4):LP (EV (A6n L) L 9 A90.x.x.w.u.l.u.l.l) [0,1,2,3,4,5,6,7,8] [1,9] (Bqi a0 o1 o2 o3 o4) [.exit 8] (fun n v=>Qk L a0 o1 o2 o3 o4 n v.1 v.2) K:=lE (fun _=>rfl) fun n v ih=>eE (Ad4 L a0 o1 o2 o3 o4 (fun W4 Aai=>re (ih (W4,Aai))) v.1 v.2)
def Zu [An A (List (List ByteArray))](L:Nat)(o1:Nat×M4)(o2:Nat×M4)(o3:Nat×M4)(o4:Nat×M4)(a0:Aa)(o5:Nat×M4):A:=
 (sl o5.1 [(lf [o1.2.2,o2.2.2,o3.2.2,o4.2.2,a0.Queues,a0.Streams,a0.Tallies,a0.Levels,a0.Counts,o5.2.2])])
def Bm4:Ba:=(Av 8 (Be (EV (A6n L) L 9 A90.x.x.w.u.r) (Cp Tryz.prog (RS Tryz.f152) kk)))
theorem Ceo(a0:Aa)(o1:Nat×M4)(o2:Nat×M4)(o3:Nat×M4)(o4:Nat×M4)(o5:Nat×M4):kX [.exit 8] (Bqi a0 o1 o2 o3 o4) (Bm4 L kk) o5=ob (Zu L o1 o2 o3 o4 a0 o5) (Bg6 kk):=eE (Zu L o1 o2 o3 o4 a0 o5)
def Aff [An A (List (List ByteArray))](L:Nat)(o1:Nat×M4)(o2:Nat×M4)(o3:Nat×M4)(a0:Aa)(o4:Nat×M4)(nx5:(Nat×M4)→(Nat×M4)→(Nat×M4)→(Nat×M4)→A):A:=
 (sl o4.1 [(gq ((0:Int)≤4)
 (gq (4 < ((10:Nat):Int))
 (gq ((0:Int)≤5)
 (gq (5 < ((10:Nat):Int))
 (gq ((0:Int)≤6)
 (gq (6 < ((10:Nat):Int))
 (gq ((0:Int)≤7)
 (gq (7 < ((10:Nat):Int))
 (gq ((0:Int)≤8)
 (gq (8 < ((10:Nat):Int))
 (nx5 o1 o2 o3 o4)))))))))))])
def Aeu [An A (List (List ByteArray))](o1:Nat×M4)(o2:Nat×M4)(o3:Nat×M4)(a0:Aa)(o4:Nat×M4):A:=Aff L o1 o2 o3 a0 o4 (fun o1 o2 o3 o4=>bd (Qk L a0 o1 o2 o3 o4 L 0 []) fun o5=>Zu L o1 o2 o3 o4 a0 o5)
def Bm3:Ba:=(Av 6 (Be (EV (A6n L) L 9 A90.x.u.r) (Cp Tryz.prog (RS Tryz.f152) kk)))
theorem Cen(a0:Aa)(o1:Nat×M4)(o2:Nat×M4)(o3:Nat×M4)(o4:Nat×M4):kX [.exit 6] (Bqh a0 o1 o2 o3) (Bm3 L kk) o4=ob (Aeu L o1 o2 o3 a0 o4) (Bg6 kk):=eE (Aff L o1 o2 o3 a0 o4 (fun o1 o2 o3 o4=>ho (B4z L (Bm4 L kk) a0 o1 o2 o3 o4 L (0,[])) fun o5=>Ceo L kk a0 o1 o2 o3 o4 o5))
def Afe [An A (List (List ByteArray))](L:Nat)(o1:Nat×M4)(o2:Nat×M4)(a0:Aa)(o3:Nat×M4)(nx4:(Nat×M4)→(Nat×M4)→(Nat×M4)→A):A:=
 (sl o3.1 [(nx4 o1 o2 o3)])
def Aet [An A (List (List ByteArray))](o1:Nat×M4)(o2:Nat×M4)(a0:Aa)(o3:Nat×M4):A:=Afe L o1 o2 a0 o3 (fun o1 o2 o3=>bd (Qj L a0 o1 o2 o3 L 0 []) fun o4=>Aeu L o1 o2 o3 a0 o4)
def Bm2:Ba:=(Av 4 (Be (EV (A6n L) L 9 A90.x.r) (Cp Tryz.prog (RS Tryz.f152) kk)))
theorem Cem(a0:Aa)(o1:Nat×M4)(o2:Nat×M4)(o3:Nat×M4):kX [.exit 4] (Bqg a0 o1 o2) (Bm2 L kk) o3=ob (Aet L o1 o2 a0 o3) (Bg6 kk):=eE (Afe L o1 o2 a0 o3 (fun o1 o2 o3=>ho (B4y L (Bm3 L kk) a0 o1 o2 o3 L (0,[])) fun o4=>Cen L kk a0 o1 o2 o3 o4))
def Afd [An A (List (List ByteArray))](L:Nat)(o1:Nat×M4)(a0:Aa)(o2:Nat×M4)(nx3:(Nat×M4)→(Nat×M4)→A):A:=
 (sl o2.1 [(nx3 o1 o2)])
def Aes [An A (List (List ByteArray))](o1:Nat×M4)(a0:Aa)(o2:Nat×M4):A:=Afd L o1 a0 o2 (fun o1 o2=>bd (Qi L a0 o1 o2 L 0 []) fun o3=>Aet L o1 o2 a0 o3)
def Bm1:Ba:=(Av 2 (Be (EV (A6n L) L 9 A90.w.u.r) (Cp Tryz.prog (RS Tryz.f152) kk)))
theorem Cel(a0:Aa)(o1:Nat×M4)(o2:Nat×M4):kX [.exit 2] (Bqf a0 o1) (Bm1 L kk) o2=ob (Aes L o1 a0 o2) (Bg6 kk):=eE (Afd L o1 a0 o2 (fun o1 o2=>ho (B4x L (Bm2 L kk) a0 o1 o2 L (0,[])) fun o3=>Cem L kk a0 o1 o2 o3))
def Afc [An A (List (List ByteArray))](L:Nat)(a0:Aa)(o1:Nat×M4)(nx2:(Nat×M4)→A):A:=
 (sl o1.1 [(nx2 o1)])
def Aer [An A (List (List ByteArray))](a0:Aa)(o1:Nat×M4):A:=Afc L a0 o1 (fun o1=>bd (Qh L a0 o1 L 0 []) fun o2=>Aes L o1 a0 o2)
def Bm0:Ba:=(Av 0 (Be (EV (A6n L) L 9 A90.w.r) (Cp Tryz.prog (RS Tryz.f152) kk)))
theorem Cek(a0:Aa)(o1:Nat×M4):kX [.exit 0] (Bqe a0) (Bm0 L kk) o1=ob (Aer L a0 o1) (Bg6 kk):=eE (Afc L a0 o1 (fun o1=>ho (B4w L (Bm1 L kk) a0 o1 L (0,[])) fun o2=>Cel L kk a0 o1 o2))
def A2u [An A (List (List ByteArray))](a0:Aa):A:=(bd (Qg L a0 L 0 []) fun o1=>Aer L a0 o1)
def Ack(a0:Aa):Option (List (List ByteArray)):=A2u L a0
def B0w:F7:=E1 (fun(x:List (List ByteArray))=>lv (.t48 x)) 152 Cn (Ack L) fun a0 r h=>hF Tryz.func152 (C:=A6n L) (oS _) L (fun kk=>eE ((ho (B4v L (Bm0 L kk) a0 L (0,[])) fun o1=>Cek L kk a0 o1))) h
def Ckx:=CC Tryz.f231
def B9u:Bd:=oL [X51 L,X82 L]
def Brb(a0:Ah)(v:Cs):St:=⟨[(0,.any),(1,.loc 1 0),(2,I v.1),(3,I v.2)],[(1,(Bx a0))],0⟩
def Xs [An A Cm](a0:Ah)(rec:Int→Int→A)(Al:Int)(Ai:Int):A:=
 (lw Ai a0.Shift
 (bd (Dp L ((a0.Shift.getD (Int.toNat Ai) default).At) 0 (B7 (a0.Cycle - 1))) fun r3=>
 (jb (.cn (!r3)
 (.lf true)
 (.bd (Dp L ((a0.Shift.getD (Int.toNat Ai) default).Units) 0 1000) fun r5=>
 (.lf (!r5)))) (fun b4=>
 (cn b4
 (lf (0,2,Ai))
 (cn (decide (Ai > 0))
 (gi (B7 (Ai - 1)) a0.Shift
 (cn (decide ((a0.Shift.getD (Int.toNat Ai) default).At≤(a0.Shift.getD (Int.toNat (B7 (Ai - 1))) default).At))
 (lf (0,12,Ai))
 (rec Al (B7 (Ai+1)))))
 (rec Al (B7 (Ai+1))))))))
 (lf (1,Al,Ai)))
def J0(L:Nat)(a0:Ah):Nat→Int→Int→Option Cm
 |0,_,_=>none
 |n+1,Al,Ai=>Xs L a0 (J0 L a0 n) Al Ai
theorem B5s(a0:Ah):LP (EV (B9u L) L 9 Ckx.x.l.u.l.l) [0,1,2,3] [1] (Brb a0) [.ret,.exit 0] (fun n v=>J0 L a0 n v.1 v.2) K:=lE (fun _=>rfl) fun n v ih=>eE (Xs L a0 (fun Al Ai=>re (ih (Al,Ai))) v.1 v.2)
def S1 [An A Int](L:Nat)(o6:Nat×Cs):A:=
 (sl o6.1 [(lf o6.2.1),
 (lf 0)])
def Bn7:Ba:=(Av 0 (Be (EV (B9u L) L 9 Ckx.x.r) (Cp Tryz.prog (RS Tryz.f231) kk)))
theorem Cfr(a0:Ah)(o6:Nat×Cs):kX [.ret,.exit 0] (Brb a0) (Bn7 L kk) o6=ob (S1 L o6) (kQ I kk):=eE (S1 L o6)
def Yh [An A Int](a0:Ah)(nx1:A):A:=
 (cn ((a0.Shift.length:Int) == 0)
 (bd (B8 L (a0.Cycle == 0) 1) fun r1=>
 (lf r1))
 (cn (decide ((a0.Shift.length:Int) > 20))
 (lf 6)
 (bd (Dp L a0.Cycle 1 1000000000) fun r2=>
 (cn (!r2)
 (lf 2)
 nx1))))
def Atm [An A Int](a0:Ah):A:=Yh L a0 (bd (J0 L a0 L 0 0) fun o6=>S1 L o6)
def Ac6(a0:Ah):Option Int:=Atm L a0
def Ciy:F7:=E1 I 231 N5 (Ac6 L) fun a0 r h=>hF Tryz.func231 (C:=B9u L) (oS _) L (fun kk=>eE (Yh L a0 (ho (B5s L (Bn7 L kk) a0 L (0,0)) fun o6=>Cfr L kk a0 o6))) h
def Ckc:=CC Tryz.f161
def B9i(L:Nat):Bd:=oL []
def Bqp(a0:List Int)(a1:List Int)(v:Yq):St:=⟨[(0,lv (.t3 a0)),(1,lv (.t3 a1)),(4,B v.1),(5,I v.2)],[],0⟩
def Xl [An A M3](L:Nat)(a0:List Int)(a1:List Int)(rec:Bool→Int→A)(Ak:Bool)(Aj:Int):A:=
 (lw Aj a0
 (gi Aj a1
 (cn ((a0.getD (Int.toNat Aj) default) != (a1.getD (Int.toNat Aj) default))
 (lf (0,false,Aj))
 (rec Ak (B7 (Aj+1)))))
 (lf (1,Ak,Aj)))
def Jt(L:Nat)(a0:List Int)(a1:List Int):Nat→Bool→Int→Option M3
 |0,_,_=>none
 |n+1,Ak,Aj=>Xl L a0 a1 (Jt L a0 a1 n) Ak Aj
theorem B46(a0:List Int)(a1:List Int):LP (EV (B9i L) L 9 Ckc.w.l.u.l.l) [0,1,4,5] [] (Bqp a0 a1) [.ret,.exit 0] (fun n v=>Jt L a0 a1 n v.1 v.2) K:=lE (fun _=>rfl) fun n v ih=>eE (Xl L a0 a1 (fun Ak Aj=>re (ih (Ak,Aj))) v.1 v.2)
def Sz [An A Bool](L:Nat)(o1:Nat×Yq):A:=
 (sl o1.1 [(lf o1.2.1),
 (lf true)])
def Bnb:Ba:=(Av 0 (Be (EV (B9i L) L 9 Ckc.w.r) (Cp Tryz.prog (RS Tryz.f161) kk)))
theorem Cev(a0:List Int)(a1:List Int)(o1:Nat×Yq):kX [.ret,.exit 0] (Bqp a0 a1) (Bnb L kk) o1=ob (Sz L o1) (kQ B kk):=eE (Sz L o1)
def Ya [An A Bool](L:Nat)(a0:List Int)(a1:List Int)(nx1:A):A:=
 (cn ((a0.length:Int) != (a1.length:Int))
 (lf false)
 nx1)
def Atf [An A Bool](a0:List Int)(a1:List Int):A:=Ya L a0 a1 (bd (Jt L a0 a1 L false 0) fun o1=>Sz L o1)
def Yv(a0:List Int)(a1:List Int):Option Bool:=Atf L a0 a1
def Cic:F7:=E2 B 161 cl3 cl3 (Yv L) fun a0 a1 r h=>hF Tryz.func161 (C:=B9i L) (oS _) L (fun kk=>eE (Ya L a0 a1 (ho (B46 L (Bnb L kk) a0 a1 L (false,0)) fun o1=>Cev L kk a0 a1 o1))) h
def Awu [An A Bool](a0:Bn)(a1:Bn):A:=
 (jp (.cn (a0.Op == a1.Op)
 (.lf (a0.A == a1.A))
 (.lf false)) (fun b1=>
 (jp (.cn b1
 (.lf (a0.B == a1.B))
 (.lf false)) (fun b2=>
 (jp (.cn b2
 (.lf (a0.N == a1.N))
 (.lf false)) (fun b3=>
 (jb (.cn b3
 (.bd (Yv L a0.Values a1.Values) fun r5=>
 (.lf r5))
 (.lf false)) (fun b4=>
 (jb (.cn b4
 (.bd (Yv L a0.Weights a1.Weights) fun r7=>
 (.lf r7))
 (.lf false)) (fun b6=>
 (lf b6)))))))))))
def Td(a0:Bn)(a1:Bn):Option Bool:=Awu L a0 a1
def X89:F7:=E2 B 89 Sr Sr (Td L) fun a0 a1 r h=>hF Tryz.func89 (oS [Cic L]) L (fun kk=>eE (Awu L a0 a1)) h
def Aq2 [An A Bool](L:Nat)(a0:Bn):A:=
 (jp (.cn ((a0.Values.length:Int) == 0)
 (.lf ((a0.Weights.length:Int) == 0))
 (.lf false)) (fun b1=>
 (cn (a0.Op == 1)
 (jp (.cn (a0.B == 0)
 (.lf (a0.N == 0))
 (.lf false)) (fun b2=>
 (jp (.cn b2
 (.lf b1)
 (.lf false)) (fun b3=>
 (lf b3)))))
 (cn (a0.Op == 2)
 (cn (a0.Op == 2)
 (jp (.cn (a0.N == 0)
 (.lf b1)
 (.lf false)) (fun b4=>
 (lf b4)))
 (cn (a0.Op == 3)
 (jp (.cn (a0.A == 0)
 (.lf (a0.B == 0))
 (.lf false)) (fun b5=>
 (jp (.cn b5
 (.lf (a0.N == 0))
 (.lf false)) (fun b6=>
 (lf b6)))))
 (cn (a0.Op == 4)
 (lf b1)
 (lf false))))
 (cn (a0.Op == 5)
 (jp (.cn (a0.N == 0)
 (.lf b1)
 (.lf false)) (fun b7=>
 (lf b7)))
 (cn (a0.Op == 3)
 (jp (.cn (a0.A == 0)
 (.lf (a0.B == 0))
 (.lf false)) (fun b8=>
 (jp (.cn b8
 (.lf (a0.N == 0))
 (.lf false)) (fun b9=>
 (lf b9)))))
 (cn (a0.Op == 4)
 (lf b1)
 (lf false))))))))
def Akv(a0:Bn):Option Bool:=Aq2 L a0
def Ci4:F7:=E1 B 246 Sr (Akv L) fun a0 r h=>hF Tryz.func246 (oS []) L (fun kk=>eE (Aq2 L a0)) h
def An8 [An A Bool](L:Nat)(a0:Int)(a1:Int)(a2:Int):A:=
 (jp (.cn (decide (a0≥a1))
 (.lf (decide (a0≤a2)))
 (.lf false)) (fun b1=>
 (lf b1)))
def Gn(a0:Int)(a1:Int)(a2:Int):Option Bool:=An8 L a0 a1 a2
def Cas:F7:=E3 B 247 (cI .i64) (cI .i64) (cI .i64) (Gn L) fun a0 a1 a2 r h=>hF Tryz.func247 (oS []) L (fun kk=>eE (An8 L a0 a1 a2)) h
def Ck4:=CC Tryz.f248
def B9z:Bd:=oL [Cas L]
def Brf(a0:Bn)(v:Cs):St:=⟨[(0,.any),(1,.loc 1 0),(2,I v.1),(3,I v.2)],[(1,(Aw9 a0))],0⟩
def Adt [An A Cm](a0:Bn)(rec:Int→Int→A)(Al:Int)(Ai:Int):A:=
 (lw Ai a0.Values
 (bd (Gn L (a0.Values.getD (Int.toNat Ai) default) 0 1000000000) fun r1=>
 (jb (.cn (!r1)
 (.lf true)
 (.gq (0≤Ai)
 (.gq (Ai < (a0.Weights.length:Int))
 (.bd (Gn L (a0.Weights.getD (Int.toNat Ai) default) 1 1000) fun r3=>
 (.lf (!r3)))))) (fun b2=>
 (cn b2
 (lf (0,2,Ai))
 (rec Al (B7 (Ai+1)))))))
 (lf (1,Al,Ai)))
def P8(L:Nat)(a0:Bn):Nat→Int→Int→Option Cm
 |0,_,_=>none
 |n+1,Al,Ai=>Adt L a0 (P8 L a0 n) Al Ai
theorem B5w(a0:Bn):LP (EV (B9z L) L 9 Ck4.x.l.u.l.l) [0,1,2,3] [1] (Brf a0) [.ret,.exit 0] (fun n v=>P8 L a0 n v.1 v.2) K:=lE (fun _=>rfl) fun n v ih=>eE (Adt L a0 (fun Al Ai=>re (ih (Al,Ai))) v.1 v.2)
def Zf [An A Int](L:Nat)(o4:Nat×Cs):A:=
 (sl o4.1 [(lf o4.2.1),
 (lf 0)])
def Boj:Ba:=(Av 0 (Be (EV (B9z L) L 9 Ck4.x.r) (Cp Tryz.prog (RS Tryz.f248) kk)))
theorem Cf3(a0:Bn)(o4:Nat×Cs):kX [.ret,.exit 0] (Brf a0) (Boj L kk) o4=ob (Zf L o4) (kQ I kk):=eE (Zf L o4)
def Ae7 [An A Int](L:Nat)(a0:Bn)(nx1:A):A:=
 (cn ((a0.Values.length:Int) != (a0.Weights.length:Int))
 (lf 8)
 (cn ((a0.Values.length:Int) == 0)
 (lf 7)
 (cn (decide ((a0.Values.length:Int) > 20))
 (lf 6)
 nx1)))
def A2m [An A Int](a0:Bn):A:=Ae7 L a0 (bd (P8 L a0 L 0 0) fun o4=>Zf L o4)
def Am7(a0:Bn):Option Int:=A2m L a0
def Ci5:F7:=E1 I 248 Sr (Am7 L) fun a0 r h=>hF Tryz.func248 (C:=B9z L) (oS _) L (fun kk=>eE (Ae7 L a0 (ho (B5w L (Boj L kk) a0 L (0,0)) fun o4=>Cf3 L kk a0 o4))) h
def Ate [An A Int](a0:Bn):A:=
 (bd (Akv L a0) fun r1=>
 (cn (!r1)
 (lf 1)
 (cn (a0.Op == 1)
 (bd (Gn L a0.A 0 1000000000) fun r2=>
 (cn (!r2)
 (lf 2)
 (lf 0)))
 (cn (a0.Op == 2)
 (bd (Gn L a0.A 0 a0.B) fun r3=>
 (jp (.cn r3
 (.lf (decide (a0.B≤1000000000)))
 (.lf false)) (fun b4=>
 (cn (!b4)
 (lf 2)
 (lf 0)))))
 (cn (a0.Op == 3)
 (bd (Am7 L a0) fun r5=>
 (lf r5))
 (cn (a0.Op == 4)
 (bd (Gn L a0.N 1 20) fun r6=>
 (jb (.cn r6
 (.bd (Gn L a0.A 0 a0.B) fun r8=>
 (.lf r8))
 (.lf false)) (fun b7=>
 (jp (.cn b7
 (.lf (decide (a0.B≤1000000)))
 (.lf false)) (fun b9=>
 (cn (!b9)
 (lf 2)
 (lf 0)))))))
 (cn (a0.Op == 5)
 (bd (Gn L a0.A 1 1000) fun r10=>
 (jb (.cn r10
 (.bd (Gn L a0.B 1 1000) fun r12=>
 (.lf r12))
 (.lf false)) (fun b11=>
 (cn (!b11)
 (lf 2)
 (lf 0)))))
 (lf 0))))))))
def Acj(a0:Bn):Option Int:=Ate L a0
def Cao:F7:=E1 I 232 Sr (Acj L) fun a0 r h=>hF Tryz.func232 (oS [Ci4 L,Cas L,Ci5 L]) L (fun kk=>eE (Ate L a0)) h
def Al1 [An A Int](a0:Aa)(a1:Ah):A:=
 (bd (Dp L a1.Units 0 1000) fun r1=>
 (bd (B8 L r1 2) fun r2=>
 (bd (Ac6 L a1) fun r3=>
 (bd (C8 L r2 r3) fun r4=>
 (cn (r4 != 0)
 (lf r4)
 (cn (a1.Fault.Stream.toList == (⟨#[]⟩:ByteArray).toList)
 (bd (Td L a1.Fault.Up (⟨0,0,0,0,[],[]⟩:Bn)) fun r5=>
 (cn r5
 (jb (.bd (Td L a1.Fault.Down (⟨0,0,0,0,[],[]⟩:Bn)) fun r7=>
 (.lf r7)) (fun b6=>
 (bd (B8 L b6 1) fun r8=>
 (lf r8))))
 (nq (bd (B8 L false 1) fun r9=>
 (lf r9)))))
 (bd (Nc L a0.Streams a1.Fault.Stream) fun r10=>
 (cn (decide (r10 < 0))
 (lf 5)
 (bd (Acj L a1.Fault.Up) fun r11=>
 (bd (Acj L a1.Fault.Down) fun r12=>
 (bd (C8 L r11 r12) fun r13=>
 (lf r13))))))))))))
def Yz(a0:Aa)(a1:Ah):Option Int:=Al1 L a0 a1
def Cij:F7:=E2 I 203 Cn N5 (Yz L) fun a0 a1 r h=>hF Tryz.func203 (oS [X51 L,X80 L,X82 L,X89 L,Br0 L,Ciy L,Cao L]) L (fun kk=>eE (Al1 L a0 a1)) h
def Bl2(F:(List Ad)→Option Int):Prop:=∀y0 r,F y0=some r→Ho Tryz.prog 157 [Xe.en y0] I r
def Cj9:=CC Tryz.f157
def B9f(E6:(List Ad)→Option Int)(L:Nat):Bd:=(orc 157 (A1 I Xe E6) (oL []))
theorem Cry(E6:(List Ad)→Option Int)(Bvo:Bl2 E6)(L:Nat):Dv Tryz.prog (B9f E6 L):=(D4 (a1 _ Bvo) (oS []))
def Bqm(a0:List Ad)(v:Cs):St:=⟨[(0,lv (.t96 a0)),(2,I 0),(3,I v.1),(4,I v.2)],[],0⟩
def Adw [An A Cm](E6:(List Ad)→Option Int)(L:Nat)(a0:List Ad)(rec:Int→Int→A)(Ak:Int)(Aj:Int):A:=
 (lw Aj a0
 (bd (E6 ((a0.getD (Int.toNat Aj) default).Body)) fun r1=>
 (gi Aj a0
 (bd (E6 ((a0.getD (Int.toNat Aj) default).Else)) fun r2=>
 (rec (B7 ((B7 ((B7 (Ak+1))+r1))+r2)) (B7 (Aj+1))))))
 (lf (0,Ak,Aj)))
def Qc(E6:(List Ad)→Option Int)(L:Nat)(a0:List Ad):Nat→Int→Int→Option Cm
 |0,_,_=>none
 |n+1,Ak,Aj=>Adw E6 L a0 (Qc E6 L a0 n) Ak Aj
theorem B43(E6:(List Ad)→Option Int)(L:Nat)(K:Ba)(a0:List Ad):LP (EV (B9f E6 L) L 9 Cj9.w.l.u.l.l) [0,2,3,4] [] (Bqm a0) [.exit 0] (fun n v=>Qc E6 L a0 n v.1 v.2) K:=lE (fun _=>rfl) fun n v ih=>eE (Adw E6 L a0 (fun Ak Aj=>re (ih (Ak,Aj))) v.1 v.2)
def Zj [An A Int](E6:(List Ad)→Option Int)(L:Nat)(o3:Nat×Cs):A:=
 (sl o3.1 [(lf o3.2.1)])
def Bm8(E6:(List Ad)→Option Int)(L:Nat)(kk:Cz):Ba:=(Av 0 (Be (EV (B9f E6 L) L 9 Cj9.w.r) (Cp Tryz.prog (RS Tryz.f157) kk)))
theorem Ces(E6:(List Ad)→Option Int)(L:Nat)(kk:Cz)(a0:List Ad)(o3:Nat×Cs):kX [.exit 0] (Bqm a0) (Bm8 E6 L kk) o3=ob (Zj E6 L o3) (kQ I kk):=eE (Zj E6 L o3)
def A2q [An A Int](E6:(List Ad)→Option Int)(L:Nat)(a0:List Ad):A:=(bd (Qc E6 L a0 L 0 0) fun o3=>Zj E6 L o3)
def As4(E6:(List Ad)→Option Int)(L:Nat)(a0:List Ad):Option Int:=A2q E6 L a0
theorem Cp6(E6:(List Ad)→Option Int)(Bvo:Bl2 E6)(L:Nat):Bl2 (As4 E6 L):=fun a0 r h=>hF Tryz.func157 (Cry E6 Bvo L) L (fun kk=>eE ((ho (B43 E6 L (Bm8 E6 L kk) a0 L (0,0)) fun o3=>Ces E6 L kk a0 o3))) h
def Sf:Nat→(List Ad)→Option Int
 |0,_=>none
 |L+1,a0=>As4 (Sf L) L a0
theorem B27(L:Nat):Bl2 (Sf L):=by
 induction L with
 |zero=>exact fun _ _ h=>(by cases h)
 |succ L ih=>
  have i157:=ih
  exact Cp6 (Sf L) i157 L
def Ch9(L:Nat):F7:=E1 I 157 Xe (Sf L) (B27 L)
def Bl3(F:(List Ad)→Option Int):Prop:=∀y0 r,F y0=some r→Ho Tryz.prog 158 [Xe.en y0] I r
def Cka:=CC Tryz.f158
def B9g(E7:(List Ad)→Option Int)(L:Nat):Bd:=(orc 158 (A1 I Xe E7) (oL []))
theorem Crz(E7:(List Ad)→Option Int)(Bvp:Bl3 E7)(L:Nat):Dv Tryz.prog (B9g E7 L):=(D4 (a1 _ Bvp) (oS []))
def Bqn(a0:List Ad)(v:Cs):St:=⟨[(0,lv (.t96 a0)),(2,I 0),(3,I v.1),(4,I v.2)],[],0⟩
def Adx [An A Cm](E7:(List Ad)→Option Int)(L:Nat)(a0:List Ad)(rec:Int→Int→A)(Ak:Int)(Aj:Int):A:=
 (lw Aj a0
 (bd (E7 ((a0.getD (Int.toNat Aj) default).Body)) fun r1=>
 (gi Aj a0
 (bd (E7 ((a0.getD (Int.toNat Aj) default).Else)) fun r2=>
 (rec (if (B7 (1+r2)) > (if (B7 (1+r1)) > Ak then (B7 (1+r1)) else Ak) then (B7 (1+r2)) else (if (B7 (1+r1)) > Ak then (B7 (1+r1)) else Ak)) (B7 (Aj+1))))))
 (lf (0,Ak,Aj)))
def Qd(E7:(List Ad)→Option Int)(L:Nat)(a0:List Ad):Nat→Int→Int→Option Cm
 |0,_,_=>none
 |n+1,Ak,Aj=>Adx E7 L a0 (Qd E7 L a0 n) Ak Aj
theorem B44(E7:(List Ad)→Option Int)(L:Nat)(K:Ba)(a0:List Ad):LP (EV (B9g E7 L) L 9 Cka.w.l.u.l.l) [0,2,3,4] [] (Bqn a0) [.exit 0] (fun n v=>Qd E7 L a0 n v.1 v.2) K:=lE (fun _=>rfl) fun n v ih=>eE (Adx E7 L a0 (fun Ak Aj=>re (ih (Ak,Aj))) v.1 v.2)
def Zk [An A Int](E7:(List Ad)→Option Int)(L:Nat)(o3:Nat×Cs):A:=
 (sl o3.1 [(lf o3.2.1)])
def Bm9(E7:(List Ad)→Option Int)(L:Nat)(kk:Cz):Ba:=(Av 0 (Be (EV (B9g E7 L) L 9 Cka.w.r) (Cp Tryz.prog (RS Tryz.f158) kk)))
theorem Cet(E7:(List Ad)→Option Int)(L:Nat)(kk:Cz)(a0:List Ad)(o3:Nat×Cs):kX [.exit 0] (Bqn a0) (Bm9 E7 L kk) o3=ob (Zk E7 L o3) (kQ I kk):=eE (Zk E7 L o3)
def A2r [An A Int](E7:(List Ad)→Option Int)(L:Nat)(a0:List Ad):A:=(bd (Qd E7 L a0 L 0 0) fun o3=>Zk E7 L o3)
def As5(E7:(List Ad)→Option Int)(L:Nat)(a0:List Ad):Option Int:=A2r E7 L a0
theorem Cp7(E7:(List Ad)→Option Int)(Bvp:Bl3 E7)(L:Nat):Bl3 (As5 E7 L):=fun a0 r h=>hF Tryz.func158 (Crz E7 Bvp L) L (fun kk=>eE ((ho (B44 E7 L (Bm9 E7 L kk) a0 L (0,0)) fun o3=>Cet E7 L kk a0 o3))) h
def Sg:Nat→(List Ad)→Option Int
 |0,_=>none
 |L+1,a0=>As5 (Sg L) L a0
theorem B28(L:Nat):Bl3 (Sg L):=by
 induction L with
 |zero=>exact fun _ _ h=>(by cases h)
 |succ L ih=>
  have i158:=ih
  exact Cp7 (Sg L) i158 L
def Cia(L:Nat):F7:=E1 I 158 Xe (Sg L) (B28 L)
def Amc:=CC Tryz.f233
def Aws(L:Nat):Bd:=oL []
def Bbw:(Cr×Bool)→Prop:=fun x=>kk ((fun(x:Cr×Bool)=> .tup [.agg (Ark x.1),B x.2]) x)
def Bpz:St:=⟨[(2,.loc 2 0),(3,B false)],[(2,[B false,B false,B false,B false,B false,B false,B false,B false,B false])],0⟩
def Bpl(L:Nat)(kk:Cz):Ba:=(Cp Tryz.prog (RS Tryz.f233) kk)
def An0 [An A (Cr×Bool)](L:Nat):A:=
 (lf ((⟨false,false,false,false,false,false,false,false,false⟩:Cr),false))
theorem B1t:EV (Aws L) L 9 Amc.w (Bpz) (Bpl L kk)=ob (An0 L) (Bbw kk):=eE (An0 L)
def A6a(a0:Int)(p803_2:Bool):St:=⟨[(2,.loc 2 0),(3,B false),(4,I a0),(32,B p803_2)],[(2,[B false,B false,B false,B false,B false,B false,B false,B false,B false])],0⟩
def A5r(e0:EC):Ba:=(Av 0 (Be (EV (Aws L) L 9 e0) (Cp Tryz.prog (RS Tryz.f233) kk)))
def sx_R10_Of_3 [An A (Cr×Bool)](L:Nat)(a0:Int)(p803_2:Bool)(nx1:A):A:=
 (cn p803_2
 (lf ((⟨true,false,false,false,false,false,false,false,false⟩:Cr),true))
 (cn (a0 == 13)
 (lf ((⟨true,true,true,false,true,false,false,false,false⟩:Cr),true))
 (cn (a0 == 14)
 (lf ((⟨true,false,true,false,true,false,false,false,false⟩:Cr),true))
 (cn (a0 == 18)
 (lf ((⟨false,false,false,false,false,false,false,false,false⟩:Cr),true))
 nx1))))
def Au1 [An A (Cr×Bool)](a0:Int)(p803_2:Bool):A:=sx_R10_Of_3 L a0 p803_2 (An0 L)
theorem B2l(a0:Int)(p803_2:Bool)(z1:EC):EV (Aws L) L 9 Amc.u.l.u.l.x.x.w.u.r (A6a a0 p803_2) (A5r L kk (EC.put (rl [1]) z1 Amc.u.r))= @sx_R10_Of_3 Prop (anP (Bbw kk)) L a0 p803_2 (EV (Aws L) L 9 z1 (Bpz) (Bpl L kk)):=by kernel_rfl
theorem B1v(a0:Int)(p803_2:Bool):EV (Aws L) L 9 Amc.u.l.u.l.x.x.w.u.r (A6a a0 p803_2) (A5r L kk Amc.u.r)=ob (Au1 L a0 p803_2) (Bbw kk):=Eq.trans (b:=EV (Aws L) L 9 Amc.u.l.u.l.x.x.w.u.r (A6a a0 p803_2) (A5r L kk (EC.put (rl [1]) Amc.w Amc.u.r))) (by kernel_rfl) ((B2l L kk a0 p803_2 Amc.w).trans (eE (sx_R10_Of_3 L a0 p803_2 (re (B1t L kk)))))
def A59(a0:Int)(p802_2:Bool):St:=⟨[(2,.loc 2 0),(3,B false),(4,I a0),(5,B p802_2)],[(2,[B false,B false,B false,B false,B false,B false,B false,B false,B false])],0⟩
def A5q(e0:EC):Ba:=(Av 0 (Be (EV (Aws L) L 9 e0) (Cp Tryz.prog (RS Tryz.f233) kk)))
def sx_R10_Of_2 [An A (Cr×Bool)](L:Nat)(a0:Int)(p802_2:Bool)(nx3:Int→Bool→A):A:=
 (cn p802_2
 (lf ((⟨true,false,true,false,false,false,false,false,false⟩:Cr),true))
 (cn (a0 == 2)
 (lf ((⟨true,true,false,false,false,true,false,false,false⟩:Cr),true))
 (cn (a0 == 3)
 (lf ((⟨false,false,true,false,false,false,false,true,true⟩:Cr),true))
 (cn (a0 == 4)
 (lf ((⟨false,false,true,false,false,false,false,true,false⟩:Cr),true))
 (cn (a0 == 5)
 (lf ((⟨false,false,true,false,false,false,false,false,false⟩:Cr),true))
 (cn (a0 == 6)
 (lf ((⟨true,false,true,true,false,false,true,false,false⟩:Cr),true))
 (cn (a0 == 9)
 (lf ((⟨true,true,false,false,false,false,false,false,false⟩:Cr),true))
 (cn (a0 == 10)
 (nx3 a0 (a0 == 10))
 (nx3 a0 (a0 == 11))))))))))
def Au0 [An A (Cr×Bool)](a0:Int)(p802_2:Bool):A:=sx_R10_Of_2 L a0 p802_2 (fun a0 p803_2=>Au1 L a0 p803_2)
theorem B2k(a0:Int)(p802_2:Bool)(z3:EC):EV (Aws L) L 9 (EC.put (rl [21]) z3 Amc.u.l.u.l.u) (A59 a0 p802_2) (A5q L kk Amc.u.r)= @sx_R10_Of_2 Prop (anP (Bbw kk)) L a0 p802_2 (fun a0 p803_2=>EV (Aws L) L 9 z3 (A6a a0 p803_2) (A5r L kk Amc.u.r)):=by kernel_rfl
theorem B1u(a0:Int)(p802_2:Bool):EV (Aws L) L 9 Amc.u.l.u.l.u (A59 a0 p802_2) (A5q L kk Amc.u.r)=ob (Au0 L a0 p802_2) (Bbw kk):=Eq.trans (b:=EV (Aws L) L 9 (EC.put (rl [21]) Amc.u.l.u.l.x.x.w.u.r Amc.u.l.u.l.u) (A59 a0 p802_2) (A5q L kk Amc.u.r)) (by kernel_rfl) ((B2k L kk a0 p802_2 Amc.u.l.u.l.x.x.w.u.r).trans (eE (sx_R10_Of_2 L a0 p802_2 (fun a0 p803_2=>re (B1v L kk a0 p803_2)))))
def sx_R10_Of_0 [An A (Cr×Bool)](L:Nat)(a0:Int)(nx2:Int→Bool→A):A:=
 (cn (a0 == 1)
 (nx2 a0 (a0 == 1))
 (cn (a0 == 7)
 (nx2 a0 (a0 == 7))
 (cn (a0 == 8)
 (nx2 a0 (a0 == 8))
 (cn (a0 == 12)
 (nx2 a0 (a0 == 12))
 (cn (a0 == 15)
 (nx2 a0 (a0 == 15))
 (cn (a0 == 16)
 (nx2 a0 (a0 == 16))
 (nx2 a0 (a0 == 17))))))))
def Bfn [An A (Cr×Bool)](a0:Int):A:=sx_R10_Of_0 L a0 (fun a0 p802_2=>Au0 L a0 p802_2)
theorem B2j(a0:Int)(z2:EC):EW (Aws L) L 9 (RS Tryz.f233) (EC.put (rl [2,1,2,1,2]) z2 Amc) [I a0] kk= @sx_R10_Of_0 Prop (anP (Bbw kk)) L a0 (fun a0 p802_2=>EV (Aws L) L 9 z2 (A59 a0 p802_2) (A5q L kk Amc.u.r)):=by kernel_rfl
def As9(a0:Int):Option (Cr×Bool):=Bfn L a0
def Cap:F7:=E1 (fun(x:Cr×Bool)=> .tup [.agg (Ark x.1),B x.2]) 233 (cI .i64) (As9 L) fun a0 r h=>hF Tryz.func233 (C:=Aws L) (oS _) L (fun kk=>Eq.trans (b:=EW (Aws L) L 9 (RS Tryz.f233) (EC.put (rl [2,1,2,1,2]) Amc.u.l.u.l.u Amc) [I a0] kk) (by kernel_rfl) ((B2j L kk a0 Amc.u.l.u.l.u).trans (eE (sx_R10_Of_0 L a0 (fun a0 p802_2=>re (B1u L kk a0 p802_2)))))) h
def Awx [An A Bool](L:Nat)(a0:Ab):A:=
 (jp (.cn (a0.Op == 0)
 (.lf (a0.Name.toList == (⟨#[]⟩:ByteArray).toList))
 (.lf false)) (fun b1=>
 (jp (.cn b1
 (.lf (a0.N == 0))
 (.lf false)) (fun b2=>
 (jp (.cn b2
 (.lf ((a0.Kids.length:Int) == 0))
 (.lf false)) (fun b3=>
 (lf b3)))))))
def Alu(a0:Ab):Option Bool:=Awx L a0
def Ci6:F7:=E1 B 249 Bj (Alu L) fun a0 r h=>hF Tryz.func249 (oS []) L (fun kk=>eE (Awx L a0)) h
def Aq5 [An A Bool](a0:Ad):A:=
 (bd (As9 L a0.Op) fun r1=>
 (jp (.cn r1.1.Name
 (.lf true)
 (.lf (a0.Name.toList == (⟨#[]⟩:ByteArray).toList))) (fun b2=>
 (jp (.cn b2
 (.cn r1.1.Of
 (.lf true)
 (.lf (a0.Of.toList == (⟨#[]⟩:ByteArray).toList)))
 (.lf false)) (fun b3=>
 (jb (.cn r1.1.E
 (.lf true)
 (.bd (Alu L (Ab.cp a0.E)) fun r5=>
 (.lf r5))) (fun b4=>
 (jb (.cn b4
 (.cn r1.1.F
 (.lf true)
 (.bd (Alu L (Ab.cp a0.F)) fun r7=>
 (.lf r7)))
 (.lf false)) (fun b6=>
 (jp (.cn b6
 (.cn r1.1.Args
 (.lf true)
 (.lf ((a0.Args.length:Int) == 0)))
 (.lf false)) (fun b8=>
 (jp (.cn r1.1.Body
 (.lf true)
 (.lf ((a0.Body.length:Int) == 0))) (fun b9=>
 (jp (.cn b9
 (.cn r1.1.Else
 (.lf true)
 (.lf ((a0.Else.length:Int) == 0)))
 (.lf false)) (fun b10=>
 (jp (.cn r1.2
 (.lf b3)
 (.lf false)) (fun b11=>
 (jp (.cn b11
 (.lf b8)
 (.lf false)) (fun b12=>
 (jp (.cn b12
 (.lf b10)
 (.lf false)) (fun b13=>
 (cn b13
 (cn r1.1.Dist
 (nq (jp (.cn r1.1.Flag
 (.lf true)
 (.lf (!a0.Flag))) (fun b14=>
 (lf b14))))
 (bd (Td L a0.Dist (⟨0,0,0,0,[],[]⟩:Bn)) fun r15=>
 (nq (jp (.cn r15
 (.cn r1.1.Flag
 (.lf true)
 (.lf (!a0.Flag)))
 (.lf false)) (fun b16=>
 (lf b16))))))
 (nq (nq (lf false)))))))))))))))))))))))))
def Akw(a0:Ad):Option Bool:=Aq5 L a0
def Ciz:F7:=E1 B 234 H7 (Akw L) fun a0 r h=>hF Tryz.func234 (oS [X89 L,Cap L,Ci6 L]) L (fun kk=>eE (Aq5 L a0)) h
def Bl7(F:Ab→Option Int):Prop:=∀y0 r,F y0=some r→Ho Tryz.prog 257 [Bj.en y0] I r
def Ck7:=CC Tryz.f257
def B91(Gd:Ab→Option Int)(L:Nat):Bd:=(orc 257 (A1 I Bj Gd) (oL []))
theorem Cr3(Gd:Ab→Option Int)(Bvu:Bl7 Gd)(L:Nat):Dv Tryz.prog (B91 Gd L):=(D4 (a1 _ Bvu) (oS []))
def Brh(a0:Ab)(v:Cs):St:=⟨[(0,.any),(1,.loc 1 0),(2,I 0),(3,I v.1),(4,I v.2)],[(1,(F3 a0))],0⟩
def Adu [An A Cm](Gd:Ab→Option Int)(L:Nat)(a0:Ab)(rec:Int→Int→A)(Ai:Int)(Ak:Int):A:=
 (lw Ak a0.Kids
 (bd (Gd (Ab.cp (a0.Kids.getD (Int.toNat Ak) default))) fun r1=>
 (rec (if r1 > Ai then r1 else Ai) (B7 (Ak+1))))
 (lf (0,Ai,Ak)))
def Qa(Gd:Ab→Option Int)(L:Nat)(a0:Ab):Nat→Int→Int→Option Cm
 |0,_,_=>none
 |n+1,Ai,Ak=>Adu Gd L a0 (Qa Gd L a0 n) Ai Ak
theorem B5y(Gd:Ab→Option Int)(L:Nat)(K:Ba)(a0:Ab):LP (EV (B91 Gd L) L 9 Ck7.w.l.u.l.l) [0,1,2,3,4] [1] (Brh a0) [.exit 0] (fun n v=>Qa Gd L a0 n v.1 v.2) K:=lE (fun _=>rfl) fun n v ih=>eE (Adu Gd L a0 (fun Ai Ak=>re (ih (Ai,Ak))) v.1 v.2)
def Zh [An A Int](Gd:Ab→Option Int)(L:Nat)(o2:Nat×Cs):A:=
 (sl o2.1 [(lf (B7 (o2.2.1+1)))])
def Bol(Gd:Ab→Option Int)(L:Nat)(kk:Cz):Ba:=(Av 0 (Be (EV (B91 Gd L) L 9 Ck7.w.r) (Cp Tryz.prog (RS Tryz.f257) kk)))
theorem Cf5(Gd:Ab→Option Int)(L:Nat)(kk:Cz)(a0:Ab)(o2:Nat×Cs):kX [.exit 0] (Brh a0) (Bol Gd L kk) o2=ob (Zh Gd L o2) (kQ I kk):=eE (Zh Gd L o2)
def A2o [An A Int](Gd:Ab→Option Int)(L:Nat)(a0:Ab):A:=(bd (Qa Gd L a0 L 0 0) fun o2=>Zh Gd L o2)
def As2(Gd:Ab→Option Int)(L:Nat)(a0:Ab):Option Int:=A2o Gd L a0
theorem Cqd(Gd:Ab→Option Int)(Bvu:Bl7 Gd)(L:Nat):Bl7 (As2 Gd L):=fun a0 r h=>hF Tryz.func257 (Cr3 Gd Bvu L) L (fun kk=>eE ((ho (B5y Gd L (Bol Gd L kk) a0 L (0,0)) fun o2=>Cf5 Gd L kk a0 o2))) h
def Se:Nat→Ab→Option Int
 |0,_=>none
 |L+1,a0=>As2 (Se L) L a0
theorem B3c(L:Nat):Bl7 (Se L):=by
 induction L with
 |zero=>exact fun _ _ h=>(by cases h)
 |succ L ih=>
  have i257:=ih
  exact Cqd (Se L) i257 L
def Ci9(L:Nat):F7:=E1 I 257 Bj (Se L) (B3c L)
def Ath [An A Int](L:Nat)(a0:Int):A:=
 (jp (.cn (decide (a0 < 1))
 (.lf true)
 (.lf (decide (a0 > 26)))) (fun b1=>
 (cn b1
 (lf (-1))
 (jp (.cn (decide (a0≥5))
 (.lf (decide (a0≤8)))
 (.lf false)) (fun b2=>
 (cn b2
 (lf 1)
 (jp (.cn (decide (a0≥9))
 (.lf (decide (a0≤21)))
 (.lf false)) (fun b3=>
 (cn b3
 (lf 2)
 (lf 0))))))))))
def Am8(a0:Int):Option Int:=Ath L a0
def Cax:F7:=E1 I 260 (cI .i64) (Am8 L) fun a0 r h=>hF Tryz.func260 (oS []) L (fun kk=>eE (Ath L a0)) h
def Aq4 [An A Bool](L:Nat)(a0:Int):A:=
 (jp (.cn (decide (a0≥22))
 (.lf (decide (a0≤24)))
 (.lf false)) (fun b1=>
 (lf b1)))
def Ac5(a0:Int):Option Bool:=Aq4 L a0
def Cay:F7:=E1 B 261 (cI .i64) (Ac5 L) fun a0 r h=>hF Tryz.func261 (oS []) L (fun kk=>eE (Aq4 L a0)) h
def Aww [An A Int](L:Nat)(a0:Int):A:=
 (cn (a0 == 25)
 (lf 15)
 (cn (a0 == 26)
 (lf 31)
 (lf 63)))
def Vq(a0:Int):Option Int:=Aww L a0
def Caz:F7:=E1 I 262 (cI .i64) (Vq L) fun a0 r h=>hF Tryz.func262 (oS []) L (fun kk=>eE (Aww L a0)) h
end
end Go.Proofs.YtofcpkmnhmnfcaaGreatR.Ev
