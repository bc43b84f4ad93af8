import Derived.Test.YtofcpkmnhmnfcaaGreatRG0
namespace Go.Proofs.YtofcpkmnhmnfcaaGreatR.Ev
open Go An
set_option maxRecDepth 100000
set_option maxHeartbeats 4000000
set_option linter.unusedVariables false
set_option linter.unusedSimpArgs false
set_option linter.unnecessarySimpa false
noncomputable section
variable {A:Type} (L n:Nat) (kk:Cz) (K:Ax) (k:Bk)
def Ata [An A Bool](L:Nat)(a0:Int):A:=
 (jp (.cn (decide (a0≥97))
 (.lf (decide (a0≤122)))
 (.lf false)) (fun b1=>
 (lf b1)))
def Akc(a0:Int):Option Bool:=Ata L a0
def Cbs:Ew:=E1 B 148 (cI .u8) (Akc L) fun a0 r h=>hF Tryz.func148 (oS []) L (fun kk=>eE (Ata L a0)) h
def Amn [An A (List ByteArray)](L:Nat):A:=
 (lf [(⟨#[97,100,100]⟩:ByteArray),(⟨#[97,102,116,101,114]⟩:ByteArray),(⟨#[97,110,100]⟩:ByteArray),(⟨#[97,116]⟩:ByteArray),(⟨#[98,101,108,116]⟩:ByteArray),(⟨#[98,111,111,108]⟩:ByteArray),(⟨#[99,111,110,115,101,114,118,101]⟩:ByteArray),(⟨#[99,111,110,115,116]⟩:ByteArray),(⟨#[99,111,117,110,116]⟩:ByteArray),(⟨#[99,121,99,108,101]⟩:ByteArray),(⟨#[100,111,119,110]⟩:ByteArray),(⟨#[100,114,97,119]⟩:ByteArray),(⟨#[100,117,114]⟩:ByteArray),(⟨#[101,108,115,101]⟩:ByteArray),(⟨#[101,110,100]⟩:ByteArray),(⟨#[101,118,101,114,121]⟩:ByteArray),(⟨#[102,97,108,115,101]⟩:ByteArray),(⟨#[102,97,117,108,116]⟩:ByteArray),(⟨#[102,105,102,111]⟩:ByteArray),(⟨#[102,114,101,101]⟩:ByteArray),(⟨#[102,114,111,109]⟩:ByteArray),(⟨#[103,101,111,109]⟩:ByteArray),(⟨#[103,101,116]⟩:ByteArray),(⟨#[104,111,108,100]⟩:ByteArray),(⟨#[105,102]⟩:ByteArray),(⟨#[105,110,116]⟩:ByteArray),(⟨#[105,110,116,111]⟩:ByteArray),(⟨#[108,101,97,115,116]⟩:ByteArray),(⟨#[108,101,118,101,108]⟩:ByteArray),(⟨#[108,105,102,111]⟩:ByteArray),(⟨#[108,105,110,107]⟩:ByteArray),(⟨#[108,111,99,97,108]⟩:ByteArray),(⟨#[109,97,120]⟩:ByteArray),(⟨#[109,105,110]⟩:ByteArray),(⟨#[109,111,100,101,108]⟩:ByteArray),(⟨#[110,111,116]⟩:ByteArray),(⟨#[110,111,119]⟩:ByteArray),(⟨#[111,98,115,101,114,118,101]⟩:ByteArray),(⟨#[111,114]⟩:ByteArray),(⟨#[112,97,114,97,109]⟩:ByteArray),(⟨#[112,114,101,101,109,112,116]⟩:ByteArray),(⟨#[112,114,105,111]⟩:ByteArray),(⟨#[112,117,116]⟩:ByteArray),(⟨#[113,117,101,117,101]⟩:ByteArray),(⟨#[114,101,108,101,97,115,101]⟩:ByteArray),(⟨#[114,101,115,111,117,114,99,101]⟩:ByteArray),(⟨#[114,105,100,101]⟩:ByteArray),(⟨#[114,111,117,116,105,110,101]⟩:ByteArray),(⟨#[115,101,105,122,101]⟩:ByteArray),(⟨#[115,101,110,100]⟩:ByteArray),(⟨#[115,101,116]⟩:ByteArray),(⟨#[115,104,105,102,116]⟩:ByteArray),(⟨#[115,105,103,110,97,108]⟩:ByteArray),(⟨#[115,105,116,101]⟩:ByteArray),(⟨#[115,105,122,101]⟩:ByteArray),(⟨#[115,112,97,119,110]⟩:ByteArray),(⟨#[115,116,97,114,116]⟩:ByteArray),(⟨#[115,116,111,112]⟩:ByteArray),(⟨#[115,116,111,114,101]⟩:ByteArray),(⟨#[115,116,114,101,97,109]⟩:ByteArray),(⟨#[115,117,109]⟩:ByteArray),(⟨#[116,97,98,108,101]⟩:ByteArray),(⟨#[116,97,108,108,121]⟩:ByteArray),(⟨#[116,105,99,107,115]⟩:ByteArray),(⟨#[116,105,109,101]⟩:ByteArray),(⟨#[116,114,117,101]⟩:ByteArray),(⟨#[117,110,105,102,111,114,109]⟩:ByteArray),(⟨#[117,110,116,105,108]⟩:ByteArray),(⟨#[117,112]⟩:ByteArray),(⟨#[118,97,114]⟩:ByteArray),(⟨#[119,97,105,116]⟩:ByteArray),(⟨#[119,97,105,116,105,110,103]⟩:ByteArray),(⟨#[119,104,105,108,101]⟩:ByteArray)])
def Amb:Option (List ByteArray):=Amn L
def Cb6:Ew:=E0 (fun(x:List ByteArray)=>lv (.t9 x)) 202 (Amb L) fun r h=>hF Tryz.func202 (oS []) L (fun kk=>eE (Amn L)) h
def Cdu:=CC Tryz.f151
def B27(L:Nat):Ba:=oL []
def Bjw(a0:List ByteArray)(a1:ByteArray)(v:Co):St:=⟨[(0,lv (.t9 a0)),(1,S a1),(4,I v.1),(5,I v.2)],[],0⟩
def Aqi [An A B7](L:Nat)(a0:List ByteArray)(a1:ByteArray)(rec:Int→Int→A)(Ak:Int)(Ai:Int):A:=
 (lw Ai a0
 (cn ((a0.getD (Int.toNat Ai) default).toList == a1.toList)
 (lf (0,Ai,Ai))
 (rec Ak (B6 (Ai+1))))
 (lf (1,Ak,Ai)))
def Ahy(L:Nat)(a0:List ByteArray)(a1:ByteArray):Nat→Int→Int→Option B7
 |0,_,_=>none
 |n+1,Ak,Ai=>Aqi L a0 a1 (Ahy L a0 a1 n) Ak Ai
theorem Bye(a0:List ByteArray)(a1:ByteArray):LP (EV (B27 L) L 9 Cdu.u.l.u.l.l) [0,1,4,5] [] (Bjw a0 a1) [.ret,.exit 0] (fun n v=>Ahy L a0 a1 n v.1 v.2) K:=lE (fun _=>rfl) fun n v ih=>eE (Aqi L a0 a1 (fun Ak Ai=>re (ih (Ak,Ai))) v.1 v.2)
def Aie [An A Int](L:Nat)(o1:Nat×Co):A:=
 (sl o1.1 [(lf o1.2.1),
 (lf (-1))])
def Bgf:Ax:=(Av 0 (Bb (EV (B27 L) L 9 Cdu.u.r) (Cm Tryz.prog (RS Tryz.f151) kk)))
theorem B77(a0:List ByteArray)(a1:ByteArray)(o1:Nat×Co):kX [.ret,.exit 0] (Bjw a0 a1) (Bgf L kk) o1=ob (Aie L o1) (kQ I kk):=eE (Aie L o1)
def Bcr [An A Int](a0:List ByteArray)(a1:ByteArray):A:=(bd (Ahy L a0 a1 L 0 0) fun o1=>Aie L o1)
def u5(a0:List ByteArray)(a1:ByteArray):Option Int:=Bcr L a0 a1
def Blk:Ew:=E2 I 151 cl9 cS (u5 L) fun a0 a1 r h=>hF Tryz.func151 (C:=B27 L) (oS _) L (fun kk=>eE ((ho (Bye L (Bgf L kk) a0 a1 L (0,0)) fun o1=>B77 L kk a0 a1 o1))) h
def Ap1 [An A Bool](a0:ByteArray):A:=
 (bd (Amb L) fun r1=>
 (bd (u5 L r1 a0) fun r2=>
 (lf (decide (r2≥0)))))
def Apy(a0:ByteArray):Option Bool:=Ap1 L a0
def Cbt:Ew:=E1 B 149 cS (Apy L) fun a0 r h=>hF Tryz.func149 (oS [Blk L,Cb6 L]) L (fun kk=>eE (Ap1 L a0)) h
def c81:=CC Tryz.f81
def O81:Ba:=oL [Cbs L,Cbt L]
def Bs2(a0:ByteArray)(v:Co):St:=⟨[(0,S a0),(2,I v.1),(3,I v.2)],[],0⟩
def Ane [An A B7](a0:ByteArray)(rec:Int→Int→A)(Aj:Int)(Ak:Int):A:=
 (cn (decide (Ak < (a0.size:Int)))
 (cn ((if 0≤Ak then a0[Int.toNat Ak]? else none).isSome)
 (bd (Akc L (Iv (if 0≤Ak then a0[Int.toNat Ak]? else none))) fun r6=>
 (jb (.cn (!r6)
 (.cn ((if 0≤Ak then a0[Int.toNat Ak]? else none).isSome)
 (.lf ((Iv (if 0≤Ak then a0[Int.toNat Ak]? else none)) != 95))
 .fl)
 (.lf false)) (fun b7=>
 (jb (.cn b7
 (.cn ((if 0≤Ak then a0[Int.toNat Ak]? else none).isSome)
 (.cn (decide ((Iv (if 0≤Ak then a0[Int.toNat Ak]? else none)) < 48))
 (.lf true)
 (.cn ((if 0≤Ak then a0[Int.toNat Ak]? else none).isSome)
 (.lf (decide ((Iv (if 0≤Ak then a0[Int.toNat Ak]? else none)) > 57)))
 .fl))
 .fl)
 (.lf false)) (fun b8=>
 (cn b8
 (lf (0,3,Ak))
 (rec Aj (B6 (Ak+1)))))))))
 fl)
 (lf (1,Aj,Ak)))
def Aez(L:Nat)(a0:ByteArray):Nat→Int→Int→Option B7
 |0,_,_=>none
 |n+1,Aj,Ak=>Ane L a0 (Aez L a0 n) Aj Ak
theorem B7a(a0:ByteArray):LP (EV (O81 L) L 9 c81.w.l.u.l.l) [0,2,3] [] (Bs2 a0) [.ret,.exit 0] (fun n v=>Aez L a0 n v.1 v.2) K:=lE (fun _=>rfl) fun n v ih=>eE (Ane L a0 (fun Aj Ak=>re (ih (Aj,Ak))) v.1 v.2)
def Afq [An A Int](L:Nat)(o9:Nat×Co):A:=
 (sl o9.1 [(lf o9.2.1),
 (lf 0)])
def Bqr:Ax:=(Av 0 (Bb (EV (O81 L) L 9 c81.w.r) (Cm Tryz.prog (RS Tryz.f81) kk)))
theorem Cg8(a0:ByteArray)(o9:Nat×Co):kX [.ret,.exit 0] (Bs2 a0) (Bqr L kk) o9=ob (Afq L o9) (kQ I kk):=eE (Afq L o9)
def Aoq [An A Int](a0:ByteArray)(nx1:A):A:=
 (jp (.cn (decide ((a0.size:Int) < 1))
 (.lf true)
 (.lf (decide ((a0.size:Int) > 24)))) (fun b1=>
 (jb (.cn b1
 (.lf true)
 (.cn ((if 0≤0 then a0[Int.toNat 0]? else none).isSome)
 (.bd (Akc L (Iv (if 0≤0 then a0[Int.toNat 0]? else none))) fun r3=>
 (.lf (!r3)))
 .fl)) (fun b2=>
 (jb (.cn b2
 (.lf true)
 (.bd (Apy L a0) fun r5=>
 (.lf r5))) (fun b4=>
 (cn b4
 (lf 3)
 nx1)))))))
def A9a [An A Int](a0:ByteArray):A:=Aoq L a0 (bd (Aez L a0 L 0 0) fun o9=>Afq L o9)
def U9(a0:ByteArray):Option Int:=A9a L a0
def X81:Ew:=E1 I 81 cS (U9 L) fun a0 r h=>hF Tryz.func81 (C:=O81 L) (oS _) L (fun kk=>eE (Aoq L a0 (ho (B7a L (Bqr L kk) a0 L (0,0)) fun o9=>Cg8 L kk a0 o9))) h
def Atd [An A Int](L:Nat)(a0:Bool)(a1:Int):A:=
 (cn a0
 (lf 0)
 (lf a1))
def Cu(a0:Bool)(a1:Int):Option Int:=Atd L a0 a1
def X82:Ew:=E2 I 82 cB (cI .i64) (Cu L) fun a0 a1 r h=>hF Tryz.func82 (oS []) L (fun kk=>eE (Atd L a0 a1)) h
def Ax7 [An A Int](L:Nat)(a0:Int)(a1:Int):A:=
 (cn (a0 != 0)
 (lf a0)
 (lf a1))
def D3(a0:Int)(a1:Int):Option Int:=Ax7 L a0 a1
def X80:Ew:=E2 I 80 (cI .i64) (cI .i64) (D3 L) fun a0 a1 r h=>hF Tryz.func80 (oS []) L (fun kk=>eE (Ax7 L a0 a1)) h
def Ax8 [An A Int](a0:ByteArray)(a1:List ByteArray):A:=
 (bd (U9 L a0) fun r1=>
 (bd (u5 L a1 a0) fun r2=>
 (bd (Cu L (decide (r2 < 0)) 4) fun r3=>
 (bd (D3 L r1 r3) fun r4=>
 (lf r4)))))
def Zh(a0:ByteArray)(a1:List ByteArray):Option Int:=Ax8 L a0 a1
def X84:Ew:=E2 I 84 cS cl9 (Zh L) fun a0 a1 r h=>hF Tryz.func84 (oS [X80 L,X81 L,X82 L,Blk L]) L (fun kk=>eE (Ax8 L a0 a1)) h
def Ax6 [An A Bool](L:Nat)(a0:Int):A:=
 (jp (.cn (a0 == 1)
 (.lf true)
 (.lf (a0 == 2))) (fun b1=>
 (jp (.cn b1
 (.lf true)
 (.lf (a0 == 3))) (fun b2=>
 (lf b2)))))
def Agv(a0:Int):Option Bool:=Ax6 L a0
def Buj:Ew:=E1 B 150 (cI .i64) (Agv L) fun a0 r h=>hF Tryz.func150 (oS []) L (fun kk=>eE (Ax6 L a0)) h
def A88 [An A Bool](L:Nat)(a0:Int):A:=
 (jp (.cn (decide (a0≥(-1000000000000)))
 (.lf (decide (a0≤1000000000000)))
 (.lf false)) (fun b1=>
 (lf b1)))
def As2(a0:Int):Option Bool:=A88 L a0
def X50:Ew:=E1 B 50 (cI .i64) (As2 L) fun a0 r h=>hF Tryz.func50 (oS []) L (fun kk=>eE (A88 L a0)) h
def Ate [An A Bool](L:Nat)(a0:Int)(a1:Int)(a2:Int):A:=
 (jp (.cn (decide (a0≥a1))
 (.lf (decide (a0≤a2)))
 (.lf false)) (fun b1=>
 (lf b1)))
def Gd(a0:Int)(a1:Int)(a2:Int):Option Bool:=Ate L a0 a1 a2
def X51:Ew:=E3 B 51 (cI .i64) (cI .i64) (cI .i64) (Gd L) fun a0 a1 a2 r h=>hF Tryz.func51 (oS []) L (fun kk=>eE (Ate L a0 a1 a2)) h
def A1y [An A Bool](a0:Int)(a1:Int):A:=
 (cn (a0 == 1)
 (bd (As2 L a1) fun r1=>
 (lf r1))
 (cn (a0 == 2)
 (jp (.cn (a1 == 0)
 (.lf true)
 (.lf (a1 == 1))) (fun b2=>
 (lf b2)))
 (cn (a0 == 3)
 (bd (Gd L a1 0 1000000000) fun r3=>
 (lf r3))
 (lf false))))
def u6(a0:Int)(a1:Int):Option Bool:=A1y L a0 a1
def X32:Ew:=E2 B 32 (cI .i64) (cI .i64) (u6 L) fun a0 a1 r h=>hF Tryz.func32 (oS [X50 L,X51 L]) L (fun kk=>eE (A1y L a0 a1)) h
def Ax9 [An A Int](a0:Ag)(a1:List ByteArray):A:=
 (bd (Zh L a0.Name a1) fun r1=>
 (bd (Agv L a0.Type_) fun r2=>
 (bd (Cu L r2 1) fun r3=>
 (bd (D3 L r1 r3) fun r4=>
 (bd (u6 L a0.Type_ a0.N) fun r5=>
 (bd (Cu L r5 2) fun r6=>
 (bd (D3 L r4 r6) fun r7=>
 (lf r7))))))))
def Axt(a0:Ag)(a1:List ByteArray):Option Int:=Ax9 L a0 a1
def X83:Ew:=E2 I 83 A7m cl9 (Axt L) fun a0 a1 r h=>hF Tryz.func83 (oS [X32 L,X80 L,X82 L,X84 L,Buj L]) L (fun kk=>eE (Ax9 L a0 a1)) h
def A4s:=CC Tryz.f152
def A1s(L:Nat):Ba:=oL []
def Ba3:(List (List ByteArray))→Prop:=fun x=>kk ((fun(x:List (List ByteArray))=>lv (.t48 x)) x)
def Bjx(a0:Aa)(v:Lo):St:=⟨[(0,.any),(1,.loc 1 0),(2,.lst true (.t48 [])),(3,.vw true 9 48 1 10),(4,I v.1),(5,.any),(6,.any),(7,.any),(8,.any)],[(1,(Af a0)),(9,[.lst true (.t9 v.2),.lst true (.t9 []),.lst true (.t9 []),.lst true (.t9 []),.lst true (.t9 []),.lst true (.t9 []),.lst true (.t9 []),.lst true (.t9 []),.lst true (.t9 []),.lst true (.t9 [])])],0⟩
def Anl [An A (Nat×Lo)](L:Nat)(a0:Aa)(rec:Int→List ByteArray→A)(Aj:Int)(Ay3:List ByteArray):A:=
 (cn (decide (Aj < (a0.Vars.length:Int)))
 (gq ((0:Int)≤0)
 (gq (0 < ((10:Nat):Int))
 (gi Aj a0.Vars
 (gq ((Ay3.length+ [(a0.Vars.getD (Int.toNat Aj) default).Name].length)*16≤140737488355328)
 (gq (Ay3.length+ [(a0.Vars.getD (Int.toNat Aj) default).Name].length≤maxLen)
 (gq ((0:Int)≤0)
 (gq (0 < ((10:Nat):Int))
 (rec (B6 (Aj+1)) (Ay3++ [(a0.Vars.getD (Int.toNat Aj) default).Name])))))))))
 (lf (0,Aj,Ay3)))
def Ae5(L:Nat)(a0:Aa):Nat→Int→List ByteArray→Option (Nat×Lo)
 |0,_,_=>none
 |n+1,Aj,Ay3=>Anl L a0 (Ae5 L a0 n) Aj Ay3
theorem Byf(a0:Aa):LP (EV (A1s L) L 9 A4s.w.l.u.l.l) [0,1,2,3,4,5,6,7,8] [1,9] (Bjx a0) [.exit 0] (fun n v=>Ae5 L a0 n v.1 v.2) K:=lE (fun _=>rfl) fun n v ih=>eE (Anl L a0 (fun Aj Ay3=>re (ih (Aj,Ay3))) v.1 v.2)
def Bjy(a0:Aa)(o1:Nat×Lo)(v:Lo):St:=⟨[(0,.any),(1,.loc 1 0),(2,.lst true (.t48 [])),(3,.vw true 9 48 1 10),(4,.any),(5,I v.1),(6,.any),(7,.any),(8,.any)],[(1,(Af a0)),(9,[.lst true (.t9 o1.2.2),.lst true (.t9 v.2),.lst true (.t9 []),.lst true (.t9 []),.lst true (.t9 []),.lst true (.t9 []),.lst true (.t9 []),.lst true (.t9 []),.lst true (.t9 []),.lst true (.t9 [])])],0⟩
def Anm [An A (Nat×Lo)](L:Nat)(a0:Aa)(o1:Nat×Lo)(rec:Int→List ByteArray→A)(Bv:Int)(Ay4:List ByteArray):A:=
 (cn (decide (Bv < (a0.Resources.length:Int)))
 (gq ((0:Int)≤1)
 (gq (1 < ((10:Nat):Int))
 (gi Bv a0.Resources
 (gq ((Ay4.length+ [(a0.Resources.getD (Int.toNat Bv) default).Name].length)*16≤140737488355328)
 (gq (Ay4.length+ [(a0.Resources.getD (Int.toNat Bv) default).Name].length≤maxLen)
 (gq ((0:Int)≤1)
 (gq (1 < ((10:Nat):Int))
 (rec (B6 (Bv+1)) (Ay4++ [(a0.Resources.getD (Int.toNat Bv) default).Name])))))))))
 (lf (0,Bv,Ay4)))
def Ae6(L:Nat)(a0:Aa)(o1:Nat×Lo):Nat→Int→List ByteArray→Option (Nat×Lo)
 |0,_,_=>none
 |n+1,Bv,Ay4=>Anm L a0 o1 (Ae6 L a0 o1 n) Bv Ay4
theorem Byg(a0:Aa)(o1:Nat×Lo):LP (EV (A1s L) L 9 A4s.w.u.l.u.l.l) [0,1,2,3,4,5,6,7,8] [1,9] (Bjy a0 o1) [.exit 2] (fun n v=>Ae6 L a0 o1 n v.1 v.2) K:=lE (fun _=>rfl) fun n v ih=>eE (Anm L a0 o1 (fun Bv Ay4=>re (ih (Bv,Ay4))) v.1 v.2)
def Bjz(a0:Aa)(o1:Nat×Lo)(o2:Nat×Lo)(v:Lo):St:=⟨[(0,.any),(1,.loc 1 0),(2,.lst true (.t48 [])),(3,.vw true 9 48 1 10),(4,.any),(5,.any),(6,I v.1),(7,.any),(8,.any)],[(1,(Af a0)),(9,[.lst true (.t9 o1.2.2),.lst true (.t9 o2.2.2),.lst true (.t9 v.2),.lst true (.t9 []),.lst true (.t9 []),.lst true (.t9 []),.lst true (.t9 []),.lst true (.t9 []),.lst true (.t9 []),.lst true (.t9 [])])],0⟩
def Ann [An A (Nat×Lo)](L:Nat)(a0:Aa)(o1:Nat×Lo)(o2:Nat×Lo)(rec:Int→List ByteArray→A)(Fs:Int)(H8:List ByteArray):A:=
 (cn (decide (Fs < (a0.Stores.length:Int)))
 (gq ((0:Int)≤2)
 (gq (2 < ((10:Nat):Int))
 (gi Fs a0.Stores
 (gq ((H8.length+ [(a0.Stores.getD (Int.toNat Fs) default).Name].length)*16≤140737488355328)
 (gq (H8.length+ [(a0.Stores.getD (Int.toNat Fs) default).Name].length≤maxLen)
 (gq ((0:Int)≤2)
 (gq (2 < ((10:Nat):Int))
 (rec (B6 (Fs+1)) (H8++ [(a0.Stores.getD (Int.toNat Fs) default).Name])))))))))
 (lf (0,Fs,H8)))
def Ae7(L:Nat)(a0:Aa)(o1:Nat×Lo)(o2:Nat×Lo):Nat→Int→List ByteArray→Option (Nat×Lo)
 |0,_,_=>none
 |n+1,Fs,H8=>Ann L a0 o1 o2 (Ae7 L a0 o1 o2 n) Fs H8
theorem Byh(a0:Aa)(o1:Nat×Lo)(o2:Nat×Lo):LP (EV (A1s L) L 9 A4s.x.l.u.l.l) [0,1,2,3,4,5,6,7,8] [1,9] (Bjz a0 o1 o2) [.exit 4] (fun n v=>Ae7 L a0 o1 o2 n v.1 v.2) K:=lE (fun _=>rfl) fun n v ih=>eE (Ann L a0 o1 o2 (fun Fs H8=>re (ih (Fs,H8))) v.1 v.2)
def Bj0(a0:Aa)(o1:Nat×Lo)(o2:Nat×Lo)(o3:Nat×Lo)(v:Lo):St:=⟨[(0,.any),(1,.loc 1 0),(2,.lst true (.t48 [])),(3,.vw true 9 48 1 10),(4,.any),(5,.any),(6,.any),(7,I v.1),(8,.any)],[(1,(Af a0)),(9,[.lst true (.t9 o1.2.2),.lst true (.t9 o2.2.2),.lst true (.t9 o3.2.2),.lst true (.t9 v.2),.lst true (.t9 []),.lst true (.t9 []),.lst true (.t9 []),.lst true (.t9 []),.lst true (.t9 []),.lst true (.t9 [])])],0⟩
def Ano [An A (Nat×Lo)](L:Nat)(a0:Aa)(o1:Nat×Lo)(o2:Nat×Lo)(o3:Nat×Lo)(rec:Int→List ByteArray→A)(Cx:Int)(H9:List ByteArray):A:=
 (cn (decide (Cx < (a0.Belts.length:Int)))
 (gq ((0:Int)≤3)
 (gq (3 < ((10:Nat):Int))
 (gi Cx a0.Belts
 (gq ((H9.length+ [(a0.Belts.getD (Int.toNat Cx) default).Name].length)*16≤140737488355328)
 (gq (H9.length+ [(a0.Belts.getD (Int.toNat Cx) default).Name].length≤maxLen)
 (gq ((0:Int)≤3)
 (gq (3 < ((10:Nat):Int))
 (rec (B6 (Cx+1)) (H9++ [(a0.Belts.getD (Int.toNat Cx) default).Name])))))))))
 (lf (0,Cx,H9)))
def Ae8(L:Nat)(a0:Aa)(o1:Nat×Lo)(o2:Nat×Lo)(o3:Nat×Lo):Nat→Int→List ByteArray→Option (Nat×Lo)
 |0,_,_=>none
 |n+1,Cx,H9=>Ano L a0 o1 o2 o3 (Ae8 L a0 o1 o2 o3 n) Cx H9
theorem Byi(a0:Aa)(o1:Nat×Lo)(o2:Nat×Lo)(o3:Nat×Lo):LP (EV (A1s L) L 9 A4s.x.u.l.u.l.l) [0,1,2,3,4,5,6,7,8] [1,9] (Bj0 a0 o1 o2 o3) [.exit 6] (fun n v=>Ae8 L a0 o1 o2 o3 n v.1 v.2) K:=lE (fun _=>rfl) fun n v ih=>eE (Ano L a0 o1 o2 o3 (fun Cx H9=>re (ih (Cx,H9))) v.1 v.2)
def Bj1(a0:Aa)(o1:Nat×Lo)(o2:Nat×Lo)(o3:Nat×Lo)(o4:Nat×Lo)(v:Lo):St:=⟨[(0,.any),(1,.loc 1 0),(2,.lst true (.t48 [])),(3,.vw true 9 48 1 10),(4,.any),(5,.any),(6,.any),(7,.any),(8,I v.1)],[(1,(Af a0)),(9,[.lst true (.t9 o1.2.2),.lst true (.t9 o2.2.2),.lst true (.t9 o3.2.2),.lst true (.t9 o4.2.2),lv (.t9 a0.Queues),lv (.t9 a0.Streams),lv (.t9 a0.Tallies),lv (.t9 a0.Levels),lv (.t9 a0.Counts),.lst true (.t9 v.2)])],0⟩
def Anp [An A (Nat×Lo)](L:Nat)(a0:Aa)(o1:Nat×Lo)(o2:Nat×Lo)(o3:Nat×Lo)(o4:Nat×Lo)(rec:Int→List ByteArray→A)(Tp:Int)(Ay5:List ByteArray):A:=
 (cn (decide (Tp < (a0.Routines.length:Int)))
 (gq ((0:Int)≤9)
 (gq (9 < ((10:Nat):Int))
 (gi Tp a0.Routines
 (gq ((Ay5.length+ [(a0.Routines.getD (Int.toNat Tp) default).Name].length)*16≤140737488355328)
 (gq (Ay5.length+ [(a0.Routines.getD (Int.toNat Tp) default).Name].length≤maxLen)
 (gq ((0:Int)≤9)
 (gq (9 < ((10:Nat):Int))
 (rec (B6 (Tp+1)) (Ay5++ [(a0.Routines.getD (Int.toNat Tp) default).Name])))))))))
 (lf (0,Tp,Ay5)))
def Ae9(L:Nat)(a0:Aa)(o1:Nat×Lo)(o2:Nat×Lo)(o3:Nat×Lo)(o4:Nat×Lo):Nat→Int→List ByteArray→Option (Nat×Lo)
 |0,_,_=>none
 |n+1,Tp,Ay5=>Anp L a0 o1 o2 o3 o4 (Ae9 L a0 o1 o2 o3 o4 n) Tp Ay5
theorem Byj(a0:Aa)(o1:Nat×Lo)(o2:Nat×Lo)(o3:Nat×Lo)(o4:Nat×Lo):LP (EV (A1s L) L 9 A4s.x.x.w.u.l.u.l.l) [0,1,2,3,4,5,6,7,8] [1,9] (Bj1 a0 o1 o2 o3 o4) [.exit 8] (fun n v=>Ae9 L a0 o1 o2 o3 o4 n v.1 v.2) K:=lE (fun _=>rfl) fun n v ih=>eE (Anp L a0 o1 o2 o3 o4 (fun Tp Ay5=>re (ih (Tp,Ay5))) v.1 v.2)
def Af3 [An A (List (List ByteArray))](L:Nat)(o1:Nat×Lo)(o2:Nat×Lo)(o3:Nat×Lo)(o4:Nat×Lo)(a0:Aa)(o5:Nat×Lo):A:=
 (sl o5.1 [(lf [o1.2.2,o2.2.2,o3.2.2,o4.2.2,a0.Queues,a0.Streams,a0.Tallies,a0.Levels,a0.Counts,o5.2.2])])
def Bgk:Ax:=(Av 8 (Bb (EV (A1s L) L 9 A4s.x.x.w.u.r) (Cm Tryz.prog (RS Tryz.f152) kk)))
theorem B8c(a0:Aa)(o1:Nat×Lo)(o2:Nat×Lo)(o3:Nat×Lo)(o4:Nat×Lo)(o5:Nat×Lo):kX [.exit 8] (Bj1 a0 o1 o2 o3 o4) (Bgk L kk) o5=ob (Af3 L o1 o2 o3 o4 a0 o5) (Ba3 kk):=eE (Af3 L o1 o2 o3 o4 a0 o5)
def Aox [An A (List (List ByteArray))](L:Nat)(o1:Nat×Lo)(o2:Nat×Lo)(o3:Nat×Lo)(a0:Aa)(o4:Nat×Lo)(nx5:(Nat×Lo)→(Nat×Lo)→(Nat×Lo)→(Nat×Lo)→A):A:=
 (sl o4.1 [(gq ((0:Int)≤4)
 (gq (4 < ((10:Nat):Int))
 (gq ((0:Int)≤5)
 (gq (5 < ((10:Nat):Int))
 (gq ((0:Int)≤6)
 (gq (6 < ((10:Nat):Int))
 (gq ((0:Int)≤7)
 (gq (7 < ((10:Nat):Int))
 (gq ((0:Int)≤8)
 (gq (8 < ((10:Nat):Int))
 (nx5 o1 o2 o3 o4)))))))))))])
def Aoh [An A (List (List ByteArray))](o1:Nat×Lo)(o2:Nat×Lo)(o3:Nat×Lo)(a0:Aa)(o4:Nat×Lo):A:=Aox L o1 o2 o3 a0 o4 (fun o1 o2 o3 o4=>bd (Ae9 L a0 o1 o2 o3 o4 L 0 []) fun o5=>Af3 L o1 o2 o3 o4 a0 o5)
def Bgj:Ax:=(Av 6 (Bb (EV (A1s L) L 9 A4s.x.u.r) (Cm Tryz.prog (RS Tryz.f152) kk)))
theorem B8b(a0:Aa)(o1:Nat×Lo)(o2:Nat×Lo)(o3:Nat×Lo)(o4:Nat×Lo):kX [.exit 6] (Bj0 a0 o1 o2 o3) (Bgj L kk) o4=ob (Aoh L o1 o2 o3 a0 o4) (Ba3 kk):=eE (Aox L o1 o2 o3 a0 o4 (fun o1 o2 o3 o4=>ho (Byj L (Bgk L kk) a0 o1 o2 o3 o4 L (0,[])) fun o5=>B8c L kk a0 o1 o2 o3 o4 o5))
def Aow [An A (List (List ByteArray))](L:Nat)(o1:Nat×Lo)(o2:Nat×Lo)(a0:Aa)(o3:Nat×Lo)(nx4:(Nat×Lo)→(Nat×Lo)→(Nat×Lo)→A):A:=
 (sl o3.1 [(nx4 o1 o2 o3)])
def Aog [An A (List (List ByteArray))](o1:Nat×Lo)(o2:Nat×Lo)(a0:Aa)(o3:Nat×Lo):A:=Aow L o1 o2 a0 o3 (fun o1 o2 o3=>bd (Ae8 L a0 o1 o2 o3 L 0 []) fun o4=>Aoh L o1 o2 o3 a0 o4)
def Bgi:Ax:=(Av 4 (Bb (EV (A1s L) L 9 A4s.x.r) (Cm Tryz.prog (RS Tryz.f152) kk)))
theorem B8a(a0:Aa)(o1:Nat×Lo)(o2:Nat×Lo)(o3:Nat×Lo):kX [.exit 4] (Bjz a0 o1 o2) (Bgi L kk) o3=ob (Aog L o1 o2 a0 o3) (Ba3 kk):=eE (Aow L o1 o2 a0 o3 (fun o1 o2 o3=>ho (Byi L (Bgj L kk) a0 o1 o2 o3 L (0,[])) fun o4=>B8b L kk a0 o1 o2 o3 o4))
def Aov [An A (List (List ByteArray))](L:Nat)(o1:Nat×Lo)(a0:Aa)(o2:Nat×Lo)(nx3:(Nat×Lo)→(Nat×Lo)→A):A:=
 (sl o2.1 [(nx3 o1 o2)])
def Aof [An A (List (List ByteArray))](o1:Nat×Lo)(a0:Aa)(o2:Nat×Lo):A:=Aov L o1 a0 o2 (fun o1 o2=>bd (Ae7 L a0 o1 o2 L 0 []) fun o3=>Aog L o1 o2 a0 o3)
def Bgh:Ax:=(Av 2 (Bb (EV (A1s L) L 9 A4s.w.u.r) (Cm Tryz.prog (RS Tryz.f152) kk)))
theorem B79(a0:Aa)(o1:Nat×Lo)(o2:Nat×Lo):kX [.exit 2] (Bjy a0 o1) (Bgh L kk) o2=ob (Aof L o1 a0 o2) (Ba3 kk):=eE (Aov L o1 a0 o2 (fun o1 o2=>ho (Byh L (Bgi L kk) a0 o1 o2 L (0,[])) fun o3=>B8a L kk a0 o1 o2 o3))
def Aou [An A (List (List ByteArray))](L:Nat)(a0:Aa)(o1:Nat×Lo)(nx2:(Nat×Lo)→A):A:=
 (sl o1.1 [(nx2 o1)])
def Aoe [An A (List (List ByteArray))](a0:Aa)(o1:Nat×Lo):A:=Aou L a0 o1 (fun o1=>bd (Ae6 L a0 o1 L 0 []) fun o2=>Aof L o1 a0 o2)
def Bgg:Ax:=(Av 0 (Bb (EV (A1s L) L 9 A4s.w.r) (Cm Tryz.prog (RS Tryz.f152) kk)))
theorem B78(a0:Aa)(o1:Nat×Lo):kX [.exit 0] (Bjx a0) (Bgg L kk) o1=ob (Aoe L a0 o1) (Ba3 kk):=eE (Aou L a0 o1 (fun o1=>ho (Byg L (Bgh L kk) a0 o1 L (0,[])) fun o2=>B79 L kk a0 o1 o2))
def A9g [An A (List (List ByteArray))](a0:Aa):A:=(bd (Ae5 L a0 L 0 []) fun o1=>Aoe L a0 o1)
def Agu(a0:Aa):Option (List (List ByteArray)):=A9g L a0
def Buk:Ew:=E1 (fun(x:List (List ByteArray))=>lv (.t48 x)) 152 B8 (Agu L) fun a0 r h=>hF Tryz.func152 (C:=A1s L) (oS _) L (fun kk=>eE ((ho (Byf L (Bgg L kk) a0 L (0,[])) fun o1=>B78 L kk a0 o1))) h
def Cem:=CC Tryz.f231
def B3q:Ba:=oL [X51 L,X82 L]
def Bku(a0:Ah)(v:Co):St:=⟨[(0,.any),(1,.loc 1 0),(2,I v.1),(3,I v.2)],[(1,(Br a0))],0⟩
def Ag7 [An A B7](a0:Ah)(rec:Int→Int→A)(Al:Int)(Aj:Int):A:=
 (lw Aj a0.Shift
 (bd (Gd L ((a0.Shift.getD (Int.toNat Aj) default).At) 0 (B6 (a0.Cycle - 1))) fun r3=>
 (jb (.cn (!r3)
 (.lf true)
 (.bd (Gd L ((a0.Shift.getD (Int.toNat Aj) default).Units) 0 1000) fun r5=>
 (.lf (!r5)))) (fun b4=>
 (cn b4
 (lf (0,2,Aj))
 (cn (decide (Aj > 0))
 (gi (B6 (Aj - 1)) a0.Shift
 (cn (decide ((a0.Shift.getD (Int.toNat Aj) default).At≤(a0.Shift.getD (Int.toNat (B6 (Aj - 1))) default).At))
 (lf (0,12,Aj))
 (rec Al (B6 (Aj+1)))))
 (rec Al (B6 (Aj+1))))))))
 (lf (1,Al,Aj)))
def g7(L:Nat)(a0:Ah):Nat→Int→Int→Option B7
 |0,_,_=>none
 |n+1,Al,Aj=>Ag7 L a0 (g7 L a0 n) Al Aj
theorem Bzc(a0:Ah):LP (EV (B3q L) L 9 Cem.x.l.u.l.l) [0,1,2,3] [1] (Bku a0) [.ret,.exit 0] (fun n v=>g7 L a0 n v.1 v.2) K:=lE (fun _=>rfl) fun n v ih=>eE (Ag7 L a0 (fun Al Aj=>re (ih (Al,Aj))) v.1 v.2)
def l9 [An A Int](L:Nat)(o6:Nat×Co):A:=
 (sl o6.1 [(lf o6.2.1),
 (lf 0)])
def Bhn:Ax:=(Av 0 (Bb (EV (B3q L) L 9 Cem.x.r) (Cm Tryz.prog (RS Tryz.f231) kk)))
theorem B9f(a0:Ah)(o6:Nat×Co):kX [.ret,.exit 0] (Bku a0) (Bhn L kk) o6=ob (l9 L o6) (kQ I kk):=eE (l9 L o6)
def Ahe [An A Int](a0:Ah)(nx1:A):A:=
 (cn ((a0.Shift.length:Int) == 0)
 (bd (Cu L (a0.Cycle == 0) 1) fun r1=>
 (lf r1))
 (cn (decide ((a0.Shift.length:Int) > 20))
 (lf 6)
 (bd (Gd L a0.Cycle 1 1000000000) fun r2=>
 (cn (!r2)
 (lf 2)
 nx1))))
def A10 [An A Int](a0:Ah):A:=Ahe L a0 (bd (g7 L a0 L 0 0) fun o6=>l9 L o6)
def Amd(a0:Ah):Option Int:=A10 L a0
def Ccm:Ew:=E1 I 231 Mn (Amd L) fun a0 r h=>hF Tryz.func231 (C:=B3q L) (oS _) L (fun kk=>eE (Ahe L a0 (ho (Bzc L (Bhn L kk) a0 L (0,0)) fun o6=>B9f L kk a0 o6))) h
def Cd1:=CC Tryz.f161
def B3e(L:Nat):Ba:=oL []
def Bj8(a0:List Int)(a1:List Int)(v:U4):St:=⟨[(0,lv (.t3 a0)),(1,lv (.t3 a1)),(4,B v.1),(5,I v.2)],[],0⟩
def T5 [An A Ln](L:Nat)(a0:List Int)(a1:List Int)(rec:Bool→Int→A)(Ak:Bool)(Ai:Int):A:=
 (lw Ai a0
 (gi Ai a1
 (cn ((a0.getD (Int.toNat Ai) default) != (a1.getD (Int.toNat Ai) default))
 (lf (0,false,Ai))
 (rec Ak (B6 (Ai+1)))))
 (lf (1,Ak,Ai)))
def I4(L:Nat)(a0:List Int)(a1:List Int):Nat→Bool→Int→Option Ln
 |0,_,_=>none
 |n+1,Ak,Ai=>T5 L a0 a1 (I4 L a0 a1 n) Ak Ai
theorem Byq(a0:List Int)(a1:List Int):LP (EV (B3e L) L 9 Cd1.w.l.u.l.l) [0,1,4,5] [] (Bj8 a0 a1) [.ret,.exit 0] (fun n v=>I4 L a0 a1 n v.1 v.2) K:=lE (fun _=>rfl) fun n v ih=>eE (T5 L a0 a1 (fun Ak Ai=>re (ih (Ak,Ai))) v.1 v.2)
def P4 [An A Bool](L:Nat)(o1:Nat×U4):A:=
 (sl o1.1 [(lf o1.2.1),
 (lf true)])
def Bgr:Ax:=(Av 0 (Bb (EV (B3e L) L 9 Cd1.w.r) (Cm Tryz.prog (RS Tryz.f161) kk)))
theorem B8j(a0:List Int)(a1:List Int)(o1:Nat×U4):kX [.ret,.exit 0] (Bj8 a0 a1) (Bgr L kk) o1=ob (P4 L o1) (kQ B kk):=eE (P4 L o1)
def Uq [An A Bool](L:Nat)(a0:List Int)(a1:List Int)(nx1:A):A:=
 (cn ((a0.length:Int) != (a1.length:Int))
 (lf false)
 nx1)
def Amm [An A Bool](a0:List Int)(a1:List Int):A:=Uq L a0 a1 (bd (I4 L a0 a1 L false 0) fun o1=>P4 L o1)
def U8(a0:List Int)(a1:List Int):Option Bool:=Amm L a0 a1
def Cb0:Ew:=E2 B 161 cl3 cl3 (U8 L) fun a0 a1 r h=>hF Tryz.func161 (C:=B3e L) (oS _) L (fun kk=>eE (Uq L a0 a1 (ho (Byq L (Bgr L kk) a0 a1 L (false,0)) fun o1=>B8j L kk a0 a1 o1))) h
def Arr [An A Bool](a0:Bm)(a1:Bm):A:=
 (jp (.cn (a0.Op == a1.Op)
 (.lf (a0.A == a1.A))
 (.lf false)) (fun b1=>
 (jp (.cn b1
 (.lf (a0.B == a1.B))
 (.lf false)) (fun b2=>
 (jp (.cn b2
 (.lf (a0.N == a1.N))
 (.lf false)) (fun b3=>
 (jb (.cn b3
 (.bd (U8 L a0.Values a1.Values) fun r5=>
 (.lf r5))
 (.lf false)) (fun b4=>
 (jb (.cn b4
 (.bd (U8 L a0.Weights a1.Weights) fun r7=>
 (.lf r7))
 (.lf false)) (fun b6=>
 (lf b6)))))))))))
def Qg(a0:Bm)(a1:Bm):Option Bool:=Arr L a0 a1
def X89:Ew:=E2 B 89 Pz Pz (Qg L) fun a0 a1 r h=>hF Tryz.func89 (oS [Cb0 L]) L (fun kk=>eE (Arr L a0 a1)) h
def As9 [An A Bool](L:Nat)(a0:Bm):A:=
 (jp (.cn ((a0.Values.length:Int) == 0)
 (.lf ((a0.Weights.length:Int) == 0))
 (.lf false)) (fun b1=>
 (cn (a0.Op == 1)
 (jp (.cn (a0.B == 0)
 (.lf (a0.N == 0))
 (.lf false)) (fun b2=>
 (jp (.cn b2
 (.lf b1)
 (.lf false)) (fun b3=>
 (lf b3)))))
 (cn (a0.Op == 2)
 (cn (a0.Op == 2)
 (jp (.cn (a0.N == 0)
 (.lf b1)
 (.lf false)) (fun b4=>
 (lf b4)))
 (cn (a0.Op == 3)
 (jp (.cn (a0.A == 0)
 (.lf (a0.B == 0))
 (.lf false)) (fun b5=>
 (jp (.cn b5
 (.lf (a0.N == 0))
 (.lf false)) (fun b6=>
 (lf b6)))))
 (cn (a0.Op == 4)
 (lf b1)
 (lf false))))
 (cn (a0.Op == 5)
 (jp (.cn (a0.N == 0)
 (.lf b1)
 (.lf false)) (fun b7=>
 (lf b7)))
 (cn (a0.Op == 3)
 (jp (.cn (a0.A == 0)
 (.lf (a0.B == 0))
 (.lf false)) (fun b8=>
 (jp (.cn b8
 (.lf (a0.N == 0))
 (.lf false)) (fun b9=>
 (lf b9)))))
 (cn (a0.Op == 4)
 (lf b1)
 (lf false))))))))
def As3(a0:Bm):Option Bool:=As9 L a0
def Ccs:Ew:=E1 B 246 Pz (As3 L) fun a0 r h=>hF Tryz.func246 (oS []) L (fun kk=>eE (As9 L a0)) h
def Ap0 [An A Bool](L:Nat)(a0:Int)(a1:Int)(a2:Int):A:=
 (jp (.cn (decide (a0≥a1))
 (.lf (decide (a0≤a2)))
 (.lf false)) (fun b1=>
 (lf b1)))
def K5(a0:Int)(a1:Int)(a2:Int):Option Bool:=Ap0 L a0 a1 a2
def B4o:Ew:=E3 B 247 (cI .i64) (cI .i64) (cI .i64) (K5 L) fun a0 a1 a2 r h=>hF Tryz.func247 (oS []) L (fun kk=>eE (Ap0 L a0 a1 a2)) h
def Cet:=CC Tryz.f248
def B3v:Ba:=oL [B4o L]
def Bky(a0:Bm)(v:Co):St:=⟨[(0,.any),(1,.loc 1 0),(2,I v.1),(3,I v.2)],[(1,(Ar0 a0))],0⟩
def Anc [An A B7](a0:Bm)(rec:Int→Int→A)(Al:Int)(Aj:Int):A:=
 (lw Aj a0.Values
 (bd (K5 L (a0.Values.getD (Int.toNat Aj) default) 0 1000000000) fun r1=>
 (jb (.cn (!r1)
 (.lf true)
 (.gq (0≤Aj)
 (.gq (Aj < (a0.Weights.length:Int))
 (.bd (K5 L (a0.Weights.getD (Int.toNat Aj) default) 1 1000) fun r3=>
 (.lf (!r3)))))) (fun b2=>
 (cn b2
 (lf (0,2,Aj))
 (rec Al (B6 (Aj+1)))))))
 (lf (1,Al,Aj)))
def Aey(L:Nat)(a0:Bm):Nat→Int→Int→Option B7
 |0,_,_=>none
 |n+1,Al,Aj=>Anc L a0 (Aey L a0 n) Al Aj
theorem Bzg(a0:Bm):LP (EV (B3v L) L 9 Cet.x.l.u.l.l) [0,1,2,3] [1] (Bky a0) [.ret,.exit 0] (fun n v=>Aey L a0 n v.1 v.2) K:=lE (fun _=>rfl) fun n v ih=>eE (Anc L a0 (fun Al Aj=>re (ih (Al,Aj))) v.1 v.2)
def Afp [An A Int](L:Nat)(o4:Nat×Co):A:=
 (sl o4.1 [(lf o4.2.1),
 (lf 0)])
def Bhz:Ax:=(Av 0 (Bb (EV (B3v L) L 9 Cet.x.r) (Cm Tryz.prog (RS Tryz.f248) kk)))
theorem B9r(a0:Bm)(o4:Nat×Co):kX [.ret,.exit 0] (Bky a0) (Bhz L kk) o4=ob (Afp L o4) (kQ I kk):=eE (Afp L o4)
def Aop [An A Int](L:Nat)(a0:Bm)(nx1:A):A:=
 (cn ((a0.Values.length:Int) != (a0.Weights.length:Int))
 (lf 8)
 (cn ((a0.Values.length:Int) == 0)
 (lf 7)
 (cn (decide ((a0.Values.length:Int) > 20))
 (lf 6)
 nx1)))
def A89 [An A Int](a0:Bm):A:=Aop L a0 (bd (Aey L a0 L 0 0) fun o4=>Afp L o4)
def Axm(a0:Bm):Option Int:=A89 L a0
def Cct:Ew:=E1 I 248 Pz (Axm L) fun a0 r h=>hF Tryz.func248 (C:=B3v L) (oS _) L (fun kk=>eE (Aop L a0 (ho (Bzg L (Bhz L kk) a0 L (0,0)) fun o4=>B9r L kk a0 o4))) h
def Ax0 [An A Int](a0:Bm):A:=
 (bd (As3 L a0) fun r1=>
 (cn (!r1)
 (lf 1)
 (cn (a0.Op == 1)
 (bd (K5 L a0.A 0 1000000000) fun r2=>
 (cn (!r2)
 (lf 2)
 (lf 0)))
 (cn (a0.Op == 2)
 (bd (K5 L a0.A 0 a0.B) fun r3=>
 (jp (.cn r3
 (.lf (decide (a0.B≤1000000000)))
 (.lf false)) (fun b4=>
 (cn (!b4)
 (lf 2)
 (lf 0)))))
 (cn (a0.Op == 3)
 (bd (Axm L a0) fun r5=>
 (lf r5))
 (cn (a0.Op == 4)
 (bd (K5 L a0.N 1 20) fun r6=>
 (jb (.cn r6
 (.bd (K5 L a0.A 0 a0.B) fun r8=>
 (.lf r8))
 (.lf false)) (fun b7=>
 (jp (.cn b7
 (.lf (decide (a0.B≤1000000)))
 (.lf false)) (fun b9=>
 (cn (!b9)
 (lf 2)
 (lf 0)))))))
 (cn (a0.Op == 5)
 (bd (K5 L a0.A 1 1000) fun r10=>
 (jb (.cn r10
 (.bd (K5 L a0.B 1 1000) fun r12=>
 (.lf r12))
 (.lf false)) (fun b11=>
 (cn (!b11)
 (lf 2)
 (lf 0)))))
 (lf 0))))))))
def Agt(a0:Bm):Option Int:=Ax0 L a0
def B4k:Ew:=E1 I 232 Pz (Agt L) fun a0 r h=>hF Tryz.func232 (oS [Ccs L,B4o L,Cct L]) L (fun kk=>eE (Ax0 L a0)) h
def Amq [An A Int](a0:Aa)(a1:Ah):A:=
 (bd (Gd L a1.Units 0 1000) fun r1=>
 (bd (Cu L r1 2) fun r2=>
 (bd (Amd L a1) fun r3=>
 (bd (D3 L r2 r3) fun r4=>
 (cn (r4 != 0)
 (lf r4)
 (cn (a1.Fault.Stream.toList == (⟨#[]⟩:ByteArray).toList)
 (bd (Qg L a1.Fault.Up (⟨0,0,0,0,[],[]⟩:Bm)) fun r5=>
 (cn r5
 (jb (.bd (Qg L a1.Fault.Down (⟨0,0,0,0,[],[]⟩:Bm)) fun r7=>
 (.lf r7)) (fun b6=>
 (bd (Cu L b6 1) fun r8=>
 (lf r8))))
 (nq (bd (Cu L false 1) fun r9=>
 (lf r9)))))
 (bd (u5 L a0.Streams a1.Fault.Stream) fun r10=>
 (cn (decide (r10 < 0))
 (lf 5)
 (bd (Agt L a1.Fault.Up) fun r11=>
 (bd (Agt L a1.Fault.Down) fun r12=>
 (bd (D3 L r11 r12) fun r13=>
 (lf r13))))))))))))
def Amf(a0:Aa)(a1:Ah):Option Int:=Amq L a0 a1
def Cb7:Ew:=E2 I 203 B8 Mn (Amf L) fun a0 a1 r h=>hF Tryz.func203 (oS [X51 L,X80 L,X82 L,X89 L,Blk L,Ccm L,B4k L]) L (fun kk=>eE (Amq L a0 a1)) h
def Bfi(F:(List Ad)→Option Int):Prop:=∀y0 r,F y0=some r→Ho Tryz.prog 157 [Tw.en y0] I r
def Cdy:=CC Tryz.f157
def B3b(Hf:(List Ad)→Option Int)(L:Nat):Ba:=(orc 157 (A1 I Tw Hf) (oL []))
theorem Clw(Hf:(List Ad)→Option Int)(Bpd:Bfi Hf)(L:Nat):Dm Tryz.prog (B3b Hf L):=(Dt (a1 _ Bpd) (oS []))
def Bj5(a0:List Ad)(v:Co):St:=⟨[(0,lv (.t96 a0)),(2,I 0),(3,I v.1),(4,I v.2)],[],0⟩
def Ang [An A B7](Hf:(List Ad)→Option Int)(L:Nat)(a0:List Ad)(rec:Int→Int→A)(Ak:Int)(Ai:Int):A:=
 (lw Ai a0
 (bd (Hf ((a0.getD (Int.toNat Ai) default).Body)) fun r1=>
 (gi Ai a0
 (bd (Hf ((a0.getD (Int.toNat Ai) default).Else)) fun r2=>
 (rec (B6 ((B6 ((B6 (Ak+1))+r1))+r2)) (B6 (Ai+1))))))
 (lf (0,Ak,Ai)))
def Ae1(Hf:(List Ad)→Option Int)(L:Nat)(a0:List Ad):Nat→Int→Int→Option B7
 |0,_,_=>none
 |n+1,Ak,Ai=>Ang Hf L a0 (Ae1 Hf L a0 n) Ak Ai
theorem Byn(Hf:(List Ad)→Option Int)(L:Nat)(K:Ax)(a0:List Ad):LP (EV (B3b Hf L) L 9 Cdy.w.l.u.l.l) [0,2,3,4] [] (Bj5 a0) [.exit 0] (fun n v=>Ae1 Hf L a0 n v.1 v.2) K:=lE (fun _=>rfl) fun n v ih=>eE (Ang Hf L a0 (fun Ak Ai=>re (ih (Ak,Ai))) v.1 v.2)
def Afs [An A Int](Hf:(List Ad)→Option Int)(L:Nat)(o3:Nat×Co):A:=
 (sl o3.1 [(lf o3.2.1)])
def Bgo(Hf:(List Ad)→Option Int)(L:Nat)(kk:Cz):Ax:=(Av 0 (Bb (EV (B3b Hf L) L 9 Cdy.w.r) (Cm Tryz.prog (RS Tryz.f157) kk)))
theorem B8g(Hf:(List Ad)→Option Int)(L:Nat)(kk:Cz)(a0:List Ad)(o3:Nat×Co):kX [.exit 0] (Bj5 a0) (Bgo Hf L kk) o3=ob (Afs Hf L o3) (kQ I kk):=eE (Afs Hf L o3)
def A9c [An A Int](Hf:(List Ad)→Option Int)(L:Nat)(a0:List Ad):A:=(bd (Ae1 Hf L a0 L 0 0) fun o3=>Afs Hf L o3)
def Axi(Hf:(List Ad)→Option Int)(L:Nat)(a0:List Ad):Option Int:=A9c Hf L a0
theorem Cj2(Hf:(List Ad)→Option Int)(Bpd:Bfi Hf)(L:Nat):Bfi (Axi Hf L):=fun a0 r h=>hF Tryz.func157 (Clw Hf Bpd L) L (fun kk=>eE ((ho (Byn Hf L (Bgo Hf L kk) a0 L (0,0)) fun o3=>B8g Hf L kk a0 o3))) h
def Ab1:Nat→(List Ad)→Option Int
 |0,_=>none
 |L+1,a0=>Axi (Ab1 L) L a0
theorem Bwy(L:Nat):Bfi (Ab1 L):=by
 induction L with
 |zero=>exact fun _ _ h=>(by cases h)
 |succ L ih=>
  have i157:=ih
  exact Cj2 (Ab1 L) i157 L
def Cbx(L:Nat):Ew:=E1 I 157 Tw (Ab1 L) (Bwy L)
def Bfj(F:(List Ad)→Option Int):Prop:=∀y0 r,F y0=some r→Ho Tryz.prog 158 [Tw.en y0] I r
def Cdz:=CC Tryz.f158
def B3c(Hg:(List Ad)→Option Int)(L:Nat):Ba:=(orc 158 (A1 I Tw Hg) (oL []))
theorem Clx(Hg:(List Ad)→Option Int)(Bpe:Bfj Hg)(L:Nat):Dm Tryz.prog (B3c Hg L):=(Dt (a1 _ Bpe) (oS []))
def Bj6(a0:List Ad)(v:Co):St:=⟨[(0,lv (.t96 a0)),(2,I 0),(3,I v.1),(4,I v.2)],[],0⟩
def Anh [An A B7](Hg:(List Ad)→Option Int)(L:Nat)(a0:List Ad)(rec:Int→Int→A)(Ak:Int)(Ai:Int):A:=
 (lw Ai a0
 (bd (Hg ((a0.getD (Int.toNat Ai) default).Body)) fun r1=>
 (gi Ai a0
 (bd (Hg ((a0.getD (Int.toNat Ai) default).Else)) fun r2=>
 (rec (if (B6 (1+r2)) > (if (B6 (1+r1)) > Ak then (B6 (1+r1)) else Ak) then (B6 (1+r2)) else (if (B6 (1+r1)) > Ak then (B6 (1+r1)) else Ak)) (B6 (Ai+1))))))
 (lf (0,Ak,Ai)))
def Ae2(Hg:(List Ad)→Option Int)(L:Nat)(a0:List Ad):Nat→Int→Int→Option B7
 |0,_,_=>none
 |n+1,Ak,Ai=>Anh Hg L a0 (Ae2 Hg L a0 n) Ak Ai
theorem Byo(Hg:(List Ad)→Option Int)(L:Nat)(K:Ax)(a0:List Ad):LP (EV (B3c Hg L) L 9 Cdz.w.l.u.l.l) [0,2,3,4] [] (Bj6 a0) [.exit 0] (fun n v=>Ae2 Hg L a0 n v.1 v.2) K:=lE (fun _=>rfl) fun n v ih=>eE (Anh Hg L a0 (fun Ak Ai=>re (ih (Ak,Ai))) v.1 v.2)
def Aft [An A Int](Hg:(List Ad)→Option Int)(L:Nat)(o3:Nat×Co):A:=
 (sl o3.1 [(lf o3.2.1)])
def Bgp(Hg:(List Ad)→Option Int)(L:Nat)(kk:Cz):Ax:=(Av 0 (Bb (EV (B3c Hg L) L 9 Cdz.w.r) (Cm Tryz.prog (RS Tryz.f158) kk)))
theorem B8h(Hg:(List Ad)→Option Int)(L:Nat)(kk:Cz)(a0:List Ad)(o3:Nat×Co):kX [.exit 0] (Bj6 a0) (Bgp Hg L kk) o3=ob (Aft Hg L o3) (kQ I kk):=eE (Aft Hg L o3)
def A9d [An A Int](Hg:(List Ad)→Option Int)(L:Nat)(a0:List Ad):A:=(bd (Ae2 Hg L a0 L 0 0) fun o3=>Aft Hg L o3)
def Axj(Hg:(List Ad)→Option Int)(L:Nat)(a0:List Ad):Option Int:=A9d Hg L a0
theorem Cj3(Hg:(List Ad)→Option Int)(Bpe:Bfj Hg)(L:Nat):Bfj (Axj Hg L):=fun a0 r h=>hF Tryz.func158 (Clx Hg Bpe L) L (fun kk=>eE ((ho (Byo Hg L (Bgp Hg L kk) a0 L (0,0)) fun o3=>B8h Hg L kk a0 o3))) h
def Ab2:Nat→(List Ad)→Option Int
 |0,_=>none
 |L+1,a0=>Axj (Ab2 L) L a0
theorem Bwz(L:Nat):Bfj (Ab2 L):=by
 induction L with
 |zero=>exact fun _ _ h=>(by cases h)
 |succ L ih=>
  have i158:=ih
  exact Cj3 (Ab2 L) i158 L
def Cby(L:Nat):Ew:=E1 I 158 Tw (Ab2 L) (Bwz L)
def Aes:=CC Tryz.f233
def Arq(L:Nat):Ba:=oL []
def A51:(Cr×Bool)→Prop:=fun x=>kk ((fun(x:Cr×Bool)=> .tup [.agg (Akt x.1),B x.2]) x)
def Bji:St:=⟨[(2,.loc 2 0),(3,B false)],[(2,[B false,B false,B false,B false,B false,B false,B false,B false,B false])],0⟩
def Bi1(L:Nat)(kk:Cz):Ax:=(Cm Tryz.prog (RS Tryz.f233) kk)
def Aom [An A (Cr×Bool)](L:Nat):A:=
 (lf ((⟨false,false,false,false,false,false,false,false,false⟩:Cr),false))
theorem Bvi:EV (Arq L) L 9 Aes.w (Bji) (Bi1 L kk)=ob (Aom L) (A51 kk):=eE (Aom L)
def A05(a0:Int)(p803_2:Bool):St:=⟨[(2,.loc 2 0),(3,B false),(4,I a0),(32,B p803_2)],[(2,[B false,B false,B false,B false,B false,B false,B false,B false,B false])],0⟩
def A0n(e0:EC):Ax:=(Av 0 (Bb (EV (Arq L) L 9 e0) (Cm Tryz.prog (RS Tryz.f233) kk)))
def sx_R10_Of_3 [An A (Cr×Bool)](L:Nat)(a0:Int)(p803_2:Bool)(nx1:A):A:=
 (cn p803_2
 (lf ((⟨true,false,false,false,false,false,false,false,false⟩:Cr),true))
 (cn (a0 == 13)
 (lf ((⟨true,true,true,false,true,false,false,false,false⟩:Cr),true))
 (cn (a0 == 14)
 (lf ((⟨true,false,true,false,true,false,false,false,false⟩:Cr),true))
 (cn (a0 == 18)
 (lf ((⟨false,false,false,false,false,false,false,false,false⟩:Cr),true))
 nx1))))
def Ay2 [An A (Cr×Bool)](a0:Int)(p803_2:Bool):A:=sx_R10_Of_3 L a0 p803_2 (Aom L)
theorem Bwb(a0:Int)(p803_2:Bool)(z1:EC):EV (Arq L) L 9 Aes.u.l.u.l.x.x.w.u.r (A05 a0 p803_2) (A0n L kk (EC.put (rl [1]) z1 Aes.u.r))= @sx_R10_Of_3 Prop (anP (A51 kk)) L a0 p803_2 (EV (Arq L) L 9 z1 (Bji) (Bi1 L kk)):=by kernel_rfl
theorem Bvk(a0:Int)(p803_2:Bool):EV (Arq L) L 9 Aes.u.l.u.l.x.x.w.u.r (A05 a0 p803_2) (A0n L kk Aes.u.r)=ob (Ay2 L a0 p803_2) (A51 kk):=Eq.trans (b:=EV (Arq L) L 9 Aes.u.l.u.l.x.x.w.u.r (A05 a0 p803_2) (A0n L kk (EC.put (rl [1]) Aes.w Aes.u.r))) (by kernel_rfl) ((Bwb L kk a0 p803_2 Aes.w).trans (eE (sx_R10_Of_3 L a0 p803_2 (re (Bvi L kk)))))
def A04(a0:Int)(p802_2:Bool):St:=⟨[(2,.loc 2 0),(3,B false),(4,I a0),(5,B p802_2)],[(2,[B false,B false,B false,B false,B false,B false,B false,B false,B false])],0⟩
def A0m(e0:EC):Ax:=(Av 0 (Bb (EV (Arq L) L 9 e0) (Cm Tryz.prog (RS Tryz.f233) kk)))
def sx_R10_Of_2 [An A (Cr×Bool)](L:Nat)(a0:Int)(p802_2:Bool)(nx3:Int→Bool→A):A:=
 (cn p802_2
 (lf ((⟨true,false,true,false,false,false,false,false,false⟩:Cr),true))
 (cn (a0 == 2)
 (lf ((⟨true,true,false,false,false,true,false,false,false⟩:Cr),true))
 (cn (a0 == 3)
 (lf ((⟨false,false,true,false,false,false,false,true,true⟩:Cr),true))
 (cn (a0 == 4)
 (lf ((⟨false,false,true,false,false,false,false,true,false⟩:Cr),true))
 (cn (a0 == 5)
 (lf ((⟨false,false,true,false,false,false,false,false,false⟩:Cr),true))
 (cn (a0 == 6)
 (lf ((⟨true,false,true,true,false,false,true,false,false⟩:Cr),true))
 (cn (a0 == 9)
 (lf ((⟨true,true,false,false,false,false,false,false,false⟩:Cr),true))
 (cn (a0 == 10)
 (nx3 a0 (a0 == 10))
 (nx3 a0 (a0 == 11))))))))))
def Ay1 [An A (Cr×Bool)](a0:Int)(p802_2:Bool):A:=sx_R10_Of_2 L a0 p802_2 (fun a0 p803_2=>Ay2 L a0 p803_2)
theorem Bwa(a0:Int)(p802_2:Bool)(z3:EC):EV (Arq L) L 9 (EC.put (rl [21]) z3 Aes.u.l.u.l.u) (A04 a0 p802_2) (A0m L kk Aes.u.r)= @sx_R10_Of_2 Prop (anP (A51 kk)) L a0 p802_2 (fun a0 p803_2=>EV (Arq L) L 9 z3 (A05 a0 p803_2) (A0n L kk Aes.u.r)):=by kernel_rfl
theorem Bvj(a0:Int)(p802_2:Bool):EV (Arq L) L 9 Aes.u.l.u.l.u (A04 a0 p802_2) (A0m L kk Aes.u.r)=ob (Ay1 L a0 p802_2) (A51 kk):=Eq.trans (b:=EV (Arq L) L 9 (EC.put (rl [21]) Aes.u.l.u.l.x.x.w.u.r Aes.u.l.u.l.u) (A04 a0 p802_2) (A0m L kk Aes.u.r)) (by kernel_rfl) ((Bwa L kk a0 p802_2 Aes.u.l.u.l.x.x.w.u.r).trans (eE (sx_R10_Of_2 L a0 p802_2 (fun a0 p803_2=>re (Bvk L kk a0 p803_2)))))
def sx_R10_Of_0 [An A (Cr×Bool)](L:Nat)(a0:Int)(nx2:Int→Bool→A):A:=
 (cn (a0 == 1)
 (nx2 a0 (a0 == 1))
 (cn (a0 == 7)
 (nx2 a0 (a0 == 7))
 (cn (a0 == 8)
 (nx2 a0 (a0 == 8))
 (cn (a0 == 12)
 (nx2 a0 (a0 == 12))
 (cn (a0 == 15)
 (nx2 a0 (a0 == 15))
 (cn (a0 == 16)
 (nx2 a0 (a0 == 16))
 (nx2 a0 (a0 == 17))))))))
def Bn1 [An A (Cr×Bool)](a0:Int):A:=sx_R10_Of_0 L a0 (fun a0 p802_2=>Ay1 L a0 p802_2)
theorem Bv9(a0:Int)(z2:EC):EW (Arq L) L 9 (RS Tryz.f233) (EC.put (rl [2,1,2,1,2]) z2 Aes) [I a0] kk= @sx_R10_Of_0 Prop (anP (A51 kk)) L a0 (fun a0 p802_2=>EV (Arq L) L 9 z2 (A04 a0 p802_2) (A0m L kk Aes.u.r)):=by kernel_rfl
def A1h(a0:Int):Option (Cr×Bool):=Bn1 L a0
def B4l:Ew:=E1 (fun(x:Cr×Bool)=> .tup [.agg (Akt x.1),B x.2]) 233 (cI .i64) (A1h L) fun a0 r h=>hF Tryz.func233 (C:=Arq L) (oS _) L (fun kk=>Eq.trans (b:=EW (Arq L) L 9 (RS Tryz.f233) (EC.put (rl [2,1,2,1,2]) Aes.u.l.u.l.u Aes) [I a0] kk) (by kernel_rfl) ((Bv9 L kk a0 Aes.u.l.u.l.u).trans (eE (sx_R10_Of_0 L a0 (fun a0 p802_2=>re (Bvj L kk a0 p802_2)))))) h
def A1x [An A Bool](L:Nat)(a0:Ab):A:=
 (jp (.cn (a0.Op == 0)
 (.lf (a0.Name.toList == (⟨#[]⟩:ByteArray).toList))
 (.lf false)) (fun b1=>
 (jp (.cn b1
 (.lf (a0.N == 0))
 (.lf false)) (fun b2=>
 (jp (.cn b2
 (.lf ((a0.Kids.length:Int) == 0))
 (.lf false)) (fun b3=>
 (lf b3)))))))
def Arn(a0:Ab):Option Bool:=A1x L a0
def Ccu:Ew:=E1 B 249 Bh (Arn L) fun a0 r h=>hF Tryz.func249 (oS []) L (fun kk=>eE (A1x L a0)) h
def Atc [An A Bool](a0:Ad):A:=
 (bd (A1h L a0.Op) fun r1=>
 (jp (.cn r1.1.Name
 (.lf true)
 (.lf (a0.Name.toList == (⟨#[]⟩:ByteArray).toList))) (fun b2=>
 (jp (.cn b2
 (.cn r1.1.Of
 (.lf true)
 (.lf (a0.Of.toList == (⟨#[]⟩:ByteArray).toList)))
 (.lf false)) (fun b3=>
 (jb (.cn r1.1.E
 (.lf true)
 (.bd (Arn L (Ab.cp a0.E)) fun r5=>
 (.lf r5))) (fun b4=>
 (jb (.cn b4
 (.cn r1.1.F
 (.lf true)
 (.bd (Arn L (Ab.cp a0.F)) fun r7=>
 (.lf r7)))
 (.lf false)) (fun b6=>
 (jp (.cn b6
 (.cn r1.1.Args
 (.lf true)
 (.lf ((a0.Args.length:Int) == 0)))
 (.lf false)) (fun b8=>
 (jp (.cn r1.1.Body
 (.lf true)
 (.lf ((a0.Body.length:Int) == 0))) (fun b9=>
 (jp (.cn b9
 (.cn r1.1.Else
 (.lf true)
 (.lf ((a0.Else.length:Int) == 0)))
 (.lf false)) (fun b10=>
 (jp (.cn r1.2
 (.lf b3)
 (.lf false)) (fun b11=>
 (jp (.cn b11
 (.lf b8)
 (.lf false)) (fun b12=>
 (jp (.cn b12
 (.lf b10)
 (.lf false)) (fun b13=>
 (cn b13
 (cn r1.1.Dist
 (nq (jp (.cn r1.1.Flag
 (.lf true)
 (.lf (!a0.Flag))) (fun b14=>
 (lf b14))))
 (bd (Qg L a0.Dist (⟨0,0,0,0,[],[]⟩:Bm)) fun r15=>
 (nq (jp (.cn r15
 (.cn r1.1.Flag
 (.lf true)
 (.lf (!a0.Flag)))
 (.lf false)) (fun b16=>
 (lf b16))))))
 (nq (nq (lf false)))))))))))))))))))))))))
def As4(a0:Ad):Option Bool:=Atc L a0
def Ccn:Ew:=E1 B 234 Hi (As4 L) fun a0 r h=>hF Tryz.func234 (oS [X89 L,B4l L,Ccu L]) L (fun kk=>eE (Atc L a0)) h
def Bfn(F:Ab→Option Int):Prop:=∀y0 r,F y0=some r→Ho Tryz.prog 257 [Bh.en y0] I r
def Cew:=CC Tryz.f257
def B3x(Hs:Ab→Option Int)(L:Nat):Ba:=(orc 257 (A1 I Bh Hs) (oL []))
theorem Cl1(Hs:Ab→Option Int)(Bpi:Bfn Hs)(L:Nat):Dm Tryz.prog (B3x Hs L):=(Dt (a1 _ Bpi) (oS []))
def Bk0(a0:Ab)(v:Co):St:=⟨[(0,.any),(1,.loc 1 0),(2,I 0),(3,I v.1),(4,I v.2)],[(1,(Er a0))],0⟩
def Anf [An A B7](Hs:Ab→Option Int)(L:Nat)(a0:Ab)(rec:Int→Int→A)(Aj:Int)(Ak:Int):A:=
 (lw Ak a0.Kids
 (bd (Hs (Ab.cp (a0.Kids.getD (Int.toNat Ak) default))) fun r1=>
 (rec (if r1 > Aj then r1 else Aj) (B6 (Ak+1))))
 (lf (0,Aj,Ak)))
def Ae0(Hs:Ab→Option Int)(L:Nat)(a0:Ab):Nat→Int→Int→Option B7
 |0,_,_=>none
 |n+1,Aj,Ak=>Anf Hs L a0 (Ae0 Hs L a0 n) Aj Ak
theorem Bzi(Hs:Ab→Option Int)(L:Nat)(K:Ax)(a0:Ab):LP (EV (B3x Hs L) L 9 Cew.w.l.u.l.l) [0,1,2,3,4] [1] (Bk0 a0) [.exit 0] (fun n v=>Ae0 Hs L a0 n v.1 v.2) K:=lE (fun _=>rfl) fun n v ih=>eE (Anf Hs L a0 (fun Aj Ak=>re (ih (Aj,Ak))) v.1 v.2)
def Afr [An A Int](Hs:Ab→Option Int)(L:Nat)(o2:Nat×Co):A:=
 (sl o2.1 [(lf (B6 (o2.2.1+1)))])
def Bh1(Hs:Ab→Option Int)(L:Nat)(kk:Cz):Ax:=(Av 0 (Bb (EV (B3x Hs L) L 9 Cew.w.r) (Cm Tryz.prog (RS Tryz.f257) kk)))
theorem B9t(Hs:Ab→Option Int)(L:Nat)(kk:Cz)(a0:Ab)(o2:Nat×Co):kX [.exit 0] (Bk0 a0) (Bh1 Hs L kk) o2=ob (Afr Hs L o2) (kQ I kk):=eE (Afr Hs L o2)
def A9b [An A Int](Hs:Ab→Option Int)(L:Nat)(a0:Ab):A:=(bd (Ae0 Hs L a0 L 0 0) fun o2=>Afr Hs L o2)
def Axh(Hs:Ab→Option Int)(L:Nat)(a0:Ab):Option Int:=A9b Hs L a0
theorem Cj9(Hs:Ab→Option Int)(Bpi:Bfn Hs)(L:Nat):Bfn (Axh Hs L):=fun a0 r h=>hF Tryz.func257 (Cl1 Hs Bpi L) L (fun kk=>eE ((ho (Bzi Hs L (Bh1 Hs L kk) a0 L (0,0)) fun o2=>B9t Hs L kk a0 o2))) h
def Ab0:Nat→Ab→Option Int
 |0,_=>none
 |L+1,a0=>Axh (Ab0 L) L a0
theorem Bw3(L:Nat):Bfn (Ab0 L):=by
 induction L with
 |zero=>exact fun _ _ h=>(by cases h)
 |succ L ih=>
  have i257:=ih
  exact Cj9 (Ab0 L) i257 L
def Ccx(L:Nat):Ew:=E1 I 257 Bh (Ab0 L) (Bw3 L)
def Ax1 [An A Int](L:Nat)(a0:Int):A:=
 (jp (.cn (decide (a0 < 1))
 (.lf true)
 (.lf (decide (a0 > 26)))) (fun b1=>
 (cn b1
 (lf (-1))
 (jp (.cn (decide (a0≥5))
 (.lf (decide (a0≤8)))
 (.lf false)) (fun b2=>
 (cn b2
 (lf 1)
 (jp (.cn (decide (a0≥9))
 (.lf (decide (a0≤21)))
 (.lf false)) (fun b3=>
 (cn b3
 (lf 2)
 (lf 0))))))))))
def Axn(a0:Int):Option Int:=Ax1 L a0
def B4t:Ew:=E1 I 260 (cI .i64) (Axn L) fun a0 r h=>hF Tryz.func260 (oS []) L (fun kk=>eE (Ax1 L a0)) h
def Atb [An A Bool](L:Nat)(a0:Int):A:=
 (jp (.cn (decide (a0≥22))
 (.lf (decide (a0≤24)))
 (.lf false)) (fun b1=>
 (lf b1)))
def Akd(a0:Int):Option Bool:=Atb L a0
def B4u:Ew:=E1 B 261 (cI .i64) (Akd L) fun a0 r h=>hF Tryz.func261 (oS []) L (fun kk=>eE (Atb L a0)) h
def A1u [An A Int](L:Nat)(a0:Int):A:=
 (cn (a0 == 25)
 (lf 15)
 (cn (a0 == 26)
 (lf 31)
 (lf 63)))
def Y7(a0:Int):Option Int:=A1u L a0
def B4v:Ew:=E1 I 262 (cI .i64) (Y7 L) fun a0 r h=>hF Tryz.func262 (oS []) L (fun kk=>eE (A1u L a0)) h
end
end Go.Proofs.YtofcpkmnhmnfcaaGreatR.Ev
