import Derived.Test.YthjhkpgonleelaaGreatDoorBG0
namespace Go.Proofs.YthjhkpgonleelaaGreatDoor.Ev
open Go An
set_option maxRecDepth 100000
set_option maxHeartbeats 4000000
set_option linter.unusedVariables false
set_option linter.unusedSimpArgs false
set_option linter.unnecessarySimpa false
noncomputable section
variable {A:Type} (L n:Nat) (kk:Ep) (K:Ci) (k:Bn)
def Zt [An A Bool](L:Nat)(a0:Int):A:=
 (jp (.cn (decide (a0≥97))
 (.lf (decide (a0≤122)))
 (.lf false)) (fun b1=>
 (lf b1)))
def Py(a0:Int):Option Bool:=Zt L a0
def X54:Qi:=E1 B 54 (cI .u8) (Py L) fun a0 r h=>hF Tryz.func54 (oS []) L (fun kk=>eE (Zt L a0)) h
def Yb [An A Bool](L:Nat)(a0:ByteArray):A:=
 (cn (a0.toList == (⟨#[97,100,100]⟩:ByteArray).toList)
 (cn (a0.toList == (⟨#[97,100,100]⟩:ByteArray).toList)
 (lf true)
 (lf false))
 (cn (a0.toList == (⟨#[97,102,116,101,114]⟩:ByteArray).toList)
 (cn (a0.toList == (⟨#[97,102,116,101,114]⟩:ByteArray).toList)
 (lf true)
 (lf false))
 (cn (a0.toList == (⟨#[97,110,100]⟩:ByteArray).toList)
 (cn (a0.toList == (⟨#[97,110,100]⟩:ByteArray).toList)
 (lf true)
 (lf false))
 (cn (a0.toList == (⟨#[97,116]⟩:ByteArray).toList)
 (cn (a0.toList == (⟨#[97,116]⟩:ByteArray).toList)
 (lf true)
 (lf false))
 (cn (a0.toList == (⟨#[98,101,108,116]⟩:ByteArray).toList)
 (cn (a0.toList == (⟨#[98,101,108,116]⟩:ByteArray).toList)
 (lf true)
 (lf false))
 (cn (a0.toList == (⟨#[98,111,111,108]⟩:ByteArray).toList)
 (cn (a0.toList == (⟨#[98,111,111,108]⟩:ByteArray).toList)
 (lf true)
 (lf false))
 (cn (a0.toList == (⟨#[99,111,110,115,101,114,118,101]⟩:ByteArray).toList)
 (cn (a0.toList == (⟨#[99,111,110,115,101,114,118,101]⟩:ByteArray).toList)
 (lf true)
 (lf false))
 (cn (a0.toList == (⟨#[99,111,110,115,116]⟩:ByteArray).toList)
 (cn (a0.toList == (⟨#[99,111,110,115,116]⟩:ByteArray).toList)
 (lf true)
 (lf false))
 (cn (a0.toList == (⟨#[99,111,117,110,116]⟩:ByteArray).toList)
 (cn (a0.toList == (⟨#[99,111,117,110,116]⟩:ByteArray).toList)
 (lf true)
 (lf false))
 (cn (a0.toList == (⟨#[99,121,99,108,101]⟩:ByteArray).toList)
 (cn (a0.toList == (⟨#[99,121,99,108,101]⟩:ByteArray).toList)
 (lf true)
 (lf false))
 (cn (a0.toList == (⟨#[100,111,119,110]⟩:ByteArray).toList)
 (cn (a0.toList == (⟨#[100,111,119,110]⟩:ByteArray).toList)
 (lf true)
 (lf false))
 (cn (a0.toList == (⟨#[100,114,97,119]⟩:ByteArray).toList)
 (cn (a0.toList == (⟨#[100,114,97,119]⟩:ByteArray).toList)
 (lf true)
 (lf false))
 (cn (a0.toList == (⟨#[100,117,114]⟩:ByteArray).toList)
 (cn (a0.toList == (⟨#[100,117,114]⟩:ByteArray).toList)
 (lf true)
 (lf false))
 (cn (a0.toList == (⟨#[101,108,115,101]⟩:ByteArray).toList)
 (cn (a0.toList == (⟨#[101,108,115,101]⟩:ByteArray).toList)
 (lf true)
 (lf false))
 (cn (a0.toList == (⟨#[101,110,100]⟩:ByteArray).toList)
 (cn (a0.toList == (⟨#[101,110,100]⟩:ByteArray).toList)
 (lf true)
 (lf false))
 (cn (a0.toList == (⟨#[101,118,101,114,121]⟩:ByteArray).toList)
 (cn (a0.toList == (⟨#[101,118,101,114,121]⟩:ByteArray).toList)
 (lf true)
 (lf false))
 (cn (a0.toList == (⟨#[102,97,108,115,101]⟩:ByteArray).toList)
 (cn (a0.toList == (⟨#[102,97,108,115,101]⟩:ByteArray).toList)
 (lf true)
 (lf false))
 (cn (a0.toList == (⟨#[102,97,117,108,116]⟩:ByteArray).toList)
 (cn (a0.toList == (⟨#[102,97,117,108,116]⟩:ByteArray).toList)
 (lf true)
 (lf false))
 (cn (a0.toList == (⟨#[102,105,102,111]⟩:ByteArray).toList)
 (cn (a0.toList == (⟨#[102,105,102,111]⟩:ByteArray).toList)
 (lf true)
 (lf false))
 (cn (a0.toList == (⟨#[102,114,101,101]⟩:ByteArray).toList)
 (cn (a0.toList == (⟨#[102,114,101,101]⟩:ByteArray).toList)
 (lf true)
 (lf false))
 (cn (a0.toList == (⟨#[102,114,111,109]⟩:ByteArray).toList)
 (cn (a0.toList == (⟨#[102,114,111,109]⟩:ByteArray).toList)
 (lf true)
 (lf false))
 (cn (a0.toList == (⟨#[103,101,111,109]⟩:ByteArray).toList)
 (cn (a0.toList == (⟨#[103,101,111,109]⟩:ByteArray).toList)
 (lf true)
 (lf false))
 (cn (a0.toList == (⟨#[103,101,116]⟩:ByteArray).toList)
 (cn (a0.toList == (⟨#[103,101,116]⟩:ByteArray).toList)
 (lf true)
 (lf false))
 (cn (a0.toList == (⟨#[104,111,108,100]⟩:ByteArray).toList)
 (cn (a0.toList == (⟨#[104,111,108,100]⟩:ByteArray).toList)
 (lf true)
 (lf false))
 (cn (a0.toList == (⟨#[105,102]⟩:ByteArray).toList)
 (cn (a0.toList == (⟨#[105,102]⟩:ByteArray).toList)
 (lf true)
 (lf false))
 (cn (a0.toList == (⟨#[105,110,116]⟩:ByteArray).toList)
 (cn (a0.toList == (⟨#[105,110,116]⟩:ByteArray).toList)
 (lf true)
 (lf false))
 (cn (a0.toList == (⟨#[105,110,116,111]⟩:ByteArray).toList)
 (cn (a0.toList == (⟨#[105,110,116,111]⟩:ByteArray).toList)
 (lf true)
 (lf false))
 (cn (a0.toList == (⟨#[108,101,97,115,116]⟩:ByteArray).toList)
 (cn (a0.toList == (⟨#[108,101,97,115,116]⟩:ByteArray).toList)
 (lf true)
 (lf false))
 (cn (a0.toList == (⟨#[108,101,118,101,108]⟩:ByteArray).toList)
 (cn (a0.toList == (⟨#[108,101,118,101,108]⟩:ByteArray).toList)
 (lf true)
 (lf false))
 (cn (a0.toList == (⟨#[108,105,102,111]⟩:ByteArray).toList)
 (cn (a0.toList == (⟨#[108,105,102,111]⟩:ByteArray).toList)
 (lf true)
 (lf false))
 (cn (a0.toList == (⟨#[108,105,110,107]⟩:ByteArray).toList)
 (cn (a0.toList == (⟨#[108,105,110,107]⟩:ByteArray).toList)
 (lf true)
 (lf false))
 (cn (a0.toList == (⟨#[108,111,99,97,108]⟩:ByteArray).toList)
 (cn (a0.toList == (⟨#[108,111,99,97,108]⟩:ByteArray).toList)
 (lf true)
 (lf false))
 (cn (a0.toList == (⟨#[109,97,120]⟩:ByteArray).toList)
 (cn (a0.toList == (⟨#[109,97,120]⟩:ByteArray).toList)
 (lf true)
 (lf false))
 (cn (a0.toList == (⟨#[109,105,110]⟩:ByteArray).toList)
 (cn (a0.toList == (⟨#[109,105,110]⟩:ByteArray).toList)
 (lf true)
 (lf false))
 (cn (a0.toList == (⟨#[109,111,100,101,108]⟩:ByteArray).toList)
 (cn (a0.toList == (⟨#[109,111,100,101,108]⟩:ByteArray).toList)
 (lf true)
 (lf false))
 (cn (a0.toList == (⟨#[110,111,116]⟩:ByteArray).toList)
 (cn (a0.toList == (⟨#[110,111,116]⟩:ByteArray).toList)
 (lf true)
 (lf false))
 (cn (a0.toList == (⟨#[110,111,119]⟩:ByteArray).toList)
 (cn (a0.toList == (⟨#[110,111,119]⟩:ByteArray).toList)
 (lf true)
 (lf false))
 (cn (a0.toList == (⟨#[111,98,115,101,114,118,101]⟩:ByteArray).toList)
 (cn (a0.toList == (⟨#[111,98,115,101,114,118,101]⟩:ByteArray).toList)
 (lf true)
 (lf false))
 (cn (a0.toList == (⟨#[111,114]⟩:ByteArray).toList)
 (cn (a0.toList == (⟨#[111,114]⟩:ByteArray).toList)
 (lf true)
 (lf false))
 (cn (a0.toList == (⟨#[112,97,114,97,109]⟩:ByteArray).toList)
 (cn (a0.toList == (⟨#[112,97,114,97,109]⟩:ByteArray).toList)
 (lf true)
 (lf false))
 (cn (a0.toList == (⟨#[112,114,101,101,109,112,116]⟩:ByteArray).toList)
 (cn (a0.toList == (⟨#[112,114,101,101,109,112,116]⟩:ByteArray).toList)
 (lf true)
 (lf false))
 (cn (a0.toList == (⟨#[112,114,105,111]⟩:ByteArray).toList)
 (cn (a0.toList == (⟨#[112,114,105,111]⟩:ByteArray).toList)
 (lf true)
 (lf false))
 (cn (a0.toList == (⟨#[112,117,116]⟩:ByteArray).toList)
 (cn (a0.toList == (⟨#[112,117,116]⟩:ByteArray).toList)
 (lf true)
 (lf false))
 (cn (a0.toList == (⟨#[113,117,101,117,101]⟩:ByteArray).toList)
 (cn (a0.toList == (⟨#[113,117,101,117,101]⟩:ByteArray).toList)
 (lf true)
 (lf false))
 (cn (a0.toList == (⟨#[114,101,108,101,97,115,101]⟩:ByteArray).toList)
 (cn (a0.toList == (⟨#[114,101,108,101,97,115,101]⟩:ByteArray).toList)
 (lf true)
 (lf false))
 (cn (a0.toList == (⟨#[114,101,115,111,117,114,99,101]⟩:ByteArray).toList)
 (cn (a0.toList == (⟨#[114,101,115,111,117,114,99,101]⟩:ByteArray).toList)
 (lf true)
 (lf false))
 (cn (a0.toList == (⟨#[114,105,100,101]⟩:ByteArray).toList)
 (cn (a0.toList == (⟨#[114,105,100,101]⟩:ByteArray).toList)
 (lf true)
 (lf false))
 (cn (a0.toList == (⟨#[114,111,117,116,105,110,101]⟩:ByteArray).toList)
 (cn (a0.toList == (⟨#[114,111,117,116,105,110,101]⟩:ByteArray).toList)
 (lf true)
 (lf false))
 (cn (a0.toList == (⟨#[115,101,105,122,101]⟩:ByteArray).toList)
 (cn (a0.toList == (⟨#[115,101,105,122,101]⟩:ByteArray).toList)
 (lf true)
 (lf false))
 (cn (a0.toList == (⟨#[115,101,110,100]⟩:ByteArray).toList)
 (cn (a0.toList == (⟨#[115,101,110,100]⟩:ByteArray).toList)
 (lf true)
 (lf false))
 (cn (a0.toList == (⟨#[115,101,116]⟩:ByteArray).toList)
 (cn (a0.toList == (⟨#[115,101,116]⟩:ByteArray).toList)
 (lf true)
 (lf false))
 (cn (a0.toList == (⟨#[115,104,105,102,116]⟩:ByteArray).toList)
 (cn (a0.toList == (⟨#[115,104,105,102,116]⟩:ByteArray).toList)
 (lf true)
 (lf false))
 (cn (a0.toList == (⟨#[115,105,103,110,97,108]⟩:ByteArray).toList)
 (cn (a0.toList == (⟨#[115,105,103,110,97,108]⟩:ByteArray).toList)
 (lf true)
 (lf false))
 (cn (a0.toList == (⟨#[115,105,116,101]⟩:ByteArray).toList)
 (cn (a0.toList == (⟨#[115,105,116,101]⟩:ByteArray).toList)
 (lf true)
 (lf false))
 (cn (a0.toList == (⟨#[115,105,122,101]⟩:ByteArray).toList)
 (cn (a0.toList == (⟨#[115,105,122,101]⟩:ByteArray).toList)
 (lf true)
 (lf false))
 (cn (a0.toList == (⟨#[115,112,97,119,110]⟩:ByteArray).toList)
 (cn (a0.toList == (⟨#[115,112,97,119,110]⟩:ByteArray).toList)
 (lf true)
 (lf false))
 (cn (a0.toList == (⟨#[115,116,97,114,116]⟩:ByteArray).toList)
 (cn (a0.toList == (⟨#[115,116,97,114,116]⟩:ByteArray).toList)
 (lf true)
 (lf false))
 (cn (a0.toList == (⟨#[115,116,111,112]⟩:ByteArray).toList)
 (cn (a0.toList == (⟨#[115,116,111,112]⟩:ByteArray).toList)
 (lf true)
 (lf false))
 (cn (a0.toList == (⟨#[115,116,111,114,101]⟩:ByteArray).toList)
 (cn (a0.toList == (⟨#[115,116,111,114,101]⟩:ByteArray).toList)
 (lf true)
 (lf false))
 (cn (a0.toList == (⟨#[115,116,114,101,97,109]⟩:ByteArray).toList)
 (cn (a0.toList == (⟨#[115,116,114,101,97,109]⟩:ByteArray).toList)
 (lf true)
 (lf false))
 (cn (a0.toList == (⟨#[115,117,109]⟩:ByteArray).toList)
 (cn (a0.toList == (⟨#[115,117,109]⟩:ByteArray).toList)
 (lf true)
 (lf false))
 (cn (a0.toList == (⟨#[116,97,98,108,101]⟩:ByteArray).toList)
 (cn (a0.toList == (⟨#[116,97,98,108,101]⟩:ByteArray).toList)
 (lf true)
 (lf false))
 (cn (a0.toList == (⟨#[116,97,108,108,121]⟩:ByteArray).toList)
 (cn (a0.toList == (⟨#[116,97,108,108,121]⟩:ByteArray).toList)
 (lf true)
 (lf false))
 (cn (a0.toList == (⟨#[116,105,99,107,115]⟩:ByteArray).toList)
 (cn (a0.toList == (⟨#[116,105,99,107,115]⟩:ByteArray).toList)
 (lf true)
 (lf false))
 (cn (a0.toList == (⟨#[116,105,109,101]⟩:ByteArray).toList)
 (cn (a0.toList == (⟨#[116,105,109,101]⟩:ByteArray).toList)
 (lf true)
 (lf false))
 (cn (a0.toList == (⟨#[116,114,117,101]⟩:ByteArray).toList)
 (cn (a0.toList == (⟨#[116,114,117,101]⟩:ByteArray).toList)
 (lf true)
 (lf false))
 (cn (a0.toList == (⟨#[117,110,105,102,111,114,109]⟩:ByteArray).toList)
 (cn (a0.toList == (⟨#[117,110,105,102,111,114,109]⟩:ByteArray).toList)
 (lf true)
 (lf false))
 (cn (a0.toList == (⟨#[117,110,116,105,108]⟩:ByteArray).toList)
 (cn (a0.toList == (⟨#[117,110,116,105,108]⟩:ByteArray).toList)
 (lf true)
 (lf false))
 (cn (a0.toList == (⟨#[117,112]⟩:ByteArray).toList)
 (cn (a0.toList == (⟨#[117,112]⟩:ByteArray).toList)
 (lf true)
 (lf false))
 (cn (a0.toList == (⟨#[118,97,114]⟩:ByteArray).toList)
 (cn (a0.toList == (⟨#[118,97,114]⟩:ByteArray).toList)
 (lf true)
 (lf false))
 (cn (a0.toList == (⟨#[119,97,105,116]⟩:ByteArray).toList)
 (cn (a0.toList == (⟨#[119,97,105,116]⟩:ByteArray).toList)
 (lf true)
 (lf false))
 (cn (a0.toList == (⟨#[119,97,105,116,105,110,103]⟩:ByteArray).toList)
 (cn (a0.toList == (⟨#[119,97,105,116,105,110,103]⟩:ByteArray).toList)
 (lf true)
 (lf false))
 (cn (a0.toList == (⟨#[119,104,105,108,101]⟩:ByteArray).toList)
 (lf true)
 (lf false))))))))))))))))))))))))))))))))))))))))))))))))))))))))))))))))))))))))))
def Sg(a0:ByteArray):Option Bool:=Yb L a0
def X55:Qi:=E1 B 55 cS (Sg L) fun a0 r h=>hF Tryz.func55 (oS []) L (fun kk=>eE (Yb L a0)) h
def c35:=CC Tryz.f35
def O35:Bt:=oL [X54 L,X55 L]
def A7z(a0:ByteArray)(v:L1):St:=⟨[(0,S a0),(2,I v.1),(23,I (a0.size:Int)),(24,I v.2)],[],0⟩
def Mr [An A Hl](a0:ByteArray)(rec:Int→Int→A)(Bg:Int)(Am:Int):A:=
 (cn (decide (Am < (a0.size:Int)))
 (cn ((if 0≤Am then a0[Int.toNat Am]? else none).isSome)
 (bd (Py L (Jv (if 0≤Am then a0[Int.toNat Am]? else none))) fun r6=>
 (jp (.cn (!r6)
 (.cn (decide ((Jv (if 0≤Am then a0[Int.toNat Am]? else none)) < 48))
 (.lf true)
 (.lf (decide ((Jv (if 0≤Am then a0[Int.toNat Am]? else none)) > 57))))
 (.lf false)) (fun b7=>
 (jp (.cn b7
 (.lf ((Jv (if 0≤Am then a0[Int.toNat Am]? else none)) != 95))
 (.lf false)) (fun b8=>
 (cn b8
 (lf (0,3,Am))
 (rec Bg (Bi (Am+1)))))))))
 fl)
 (lf (1,Bg,Am)))
def Hx(L:Nat)(a0:ByteArray):Nat→Int→Int→Option Hl
 |0,_,_=>none
 |n+1,Bg,Am=>Mr L a0 (Hx L a0 n) Bg Am
theorem Bga(a0:ByteArray):LP (EV (O35 L) L 9 c35.w.l.u.l.l) [0,2,23,24] [] (A7z a0) [.ret,.exit 0] (fun n v=>Hx L a0 n v.1 v.2) K:=lE (fun _=>rfl) fun n v ih=>eE (Mr L a0 (fun Bg Am=>re (ih (Bg,Am))) v.1 v.2)
def Nf [An A Int](L:Nat)(o9:Nat×L1):A:=
 (sl o9.1 [(lf o9.2.1),
 (lf 0)])
def A6j:Ci:=(Bs 0 (Bz (EV (O35 L) L 9 c35.w.r) (Kb Tryz.prog (RS Tryz.f35) kk)))
theorem Blh(a0:ByteArray)(o9:Nat×L1):kX [.ret,.exit 0] (A7z a0) (A6j L kk) o9=ob (Nf L o9) (kQ I kk):=eE (Nf L o9)
def Ru [An A Int](a0:ByteArray)(nx1:A):A:=
 (jp (.cn (a0.toList == (⟨#[]⟩:ByteArray).toList)
 (.lf true)
 (.lf (decide ((a0.size:Int) > 24)))) (fun b1=>
 (jb (.cn b1
 (.lf true)
 (.cn ((if 0≤0 then a0[Int.toNat 0]? else none).isSome)
 (.bd (Py L (Jv (if 0≤0 then a0[Int.toNat 0]? else none))) fun r3=>
 (.lf (!r3)))
 .fl)) (fun b2=>
 (jb (.cn b2
 (.lf true)
 (.bd (Sg L a0) fun r5=>
 (.lf r5))) (fun b4=>
 (cn b4
 (lf 3)
 nx1)))))))
def Aeq [An A Int](a0:ByteArray):A:=Ru L a0 (bd (Hx L a0 L 0 0) fun o9=>Nf L o9)
def Cr(a0:ByteArray):Option Int:=Aeq L a0
def X35:Qi:=E1 I 35 cS (Cr L) fun a0 r h=>hF Tryz.func35 (C:=O35 L) (oS _) L (fun kk=>eE (Ru L a0 (ho (Bga L (A6j L kk) a0 L (0,0)) fun o9=>Blh L kk a0 o9))) h
def t7 [An A Bool](L:Nat)(a0:Int):A:=
 (jp (.cn (decide (a0≥1))
 (.lf (decide (a0≤3)))
 (.lf false)) (fun b1=>
 (lf b1)))
def H0(a0:Int):Option Bool:=t7 L a0
def Bev:Qi:=E1 B 146 (cI .i64) (H0 L) fun a0 r h=>hF Tryz.func146 (oS []) L (fun kk=>eE (t7 L a0)) h
def Alo [An A Bool](L:Nat)(a0:Int):A:=
 (jp (.cn (decide (a0≥(-1000000000000)))
 (.lf (decide (a0≤1000000000000)))
 (.lf false)) (fun b1=>
 (lf b1)))
def Zn(a0:Int):Option Bool:=Alo L a0
def Bey:Qi:=E1 B 158 (cI .i64) (Zn L) fun a0 r h=>hF Tryz.func158 (oS []) L (fun kk=>eE (Alo L a0)) h
def Zs [An A Bool](L:Nat)(a0:Int)(a1:Int)(a2:Int):A:=
 (jp (.cn (decide (a0≥a1))
 (.lf (decide (a0≤a2)))
 (.lf false)) (fun b1=>
 (lf b1)))
def Bf(a0:Int)(a1:Int)(a2:Int):Option Bool:=Zs L a0 a1 a2
def X95:Qi:=E3 B 95 (cI .i64) (cI .i64) (cI .i64) (Bf L) fun a0 a1 a2 r h=>hF Tryz.func95 (oS []) L (fun kk=>eE (Zs L a0 a1 a2)) h
def Abl [An A Bool](a0:Int)(a1:Int):A:=
 (cn (a0 == 1)
 (bd (Zn L a1) fun r1=>
 (lf r1))
 (cn (a0 == 2)
 (jp (.cn (a1 == 0)
 (.lf true)
 (.lf (a1 == 1))) (fun b2=>
 (lf b2)))
 (cn (a0 == 3)
 (bd (Bf L a1 0 1000000000) fun r3=>
 (lf r3))
 (lf false))))
def Nm(a0:Int)(a1:Int):Option Bool:=Abl L a0 a1
def Bew:Qi:=E2 B 147 (cI .i64) (cI .i64) (Nm L) fun a0 a1 r h=>hF Tryz.func147 (oS [X95 L,Bey L]) L (fun kk=>eE (Abl L a0 a1)) h
def c96:=CC Tryz.f96
def O96:Bt:=oL [X95 L]
def A74(a0:Ap)(v:L1):St:=⟨[(0,.any),(1,.loc 1 0),(2,I v.1),(12,.any),(17,.any),(23,lv (.t216 a0.Shift)),(24,I (a0.Shift.length:Int)),(25,I v.2)],[(1,(B8 a0))],0⟩
def Md [An A Hl](a0:Ap)(rec:Int→Int→A)(Au:Int)(Am:Int):A:=
 (lw Am a0.Shift
 (bd (Bf L ((a0.Shift.getD (Int.toNat Am) default).At) 0 (Bi (a0.Cycle - 1))) fun r2=>
 (cn (!r2)
 (cn (!r2)
 (lf (0,2,Am))
 (cn (decide (Am > 0))
 (gi (Bi (Am - 1)) a0.Shift
 (cn (decide ((a0.Shift.getD (Int.toNat Am) default).At≤(a0.Shift.getD (Int.toNat (Bi (Am - 1))) default).At))
 (lf (0,12,Am))
 (rec Au (Bi (Am+1)))))
 (rec Au (Bi (Am+1)))))
 (bd (Bf L ((a0.Shift.getD (Int.toNat Am) default).Units) 0 1000) fun r3=>
 (cn (!r3)
 (lf (0,2,Am))
 (cn (decide (Am > 0))
 (gi (Bi (Am - 1)) a0.Shift
 (cn (decide ((a0.Shift.getD (Int.toNat Am) default).At≤(a0.Shift.getD (Int.toNat (Bi (Am - 1))) default).At))
 (lf (0,12,Am))
 (rec Au (Bi (Am+1)))))
 (rec Au (Bi (Am+1))))))))
 (lf (1,Au,Am)))
def F1(L:Nat)(a0:Ap):Nat→Int→Int→Option Hl
 |0,_,_=>none
 |n+1,Au,Am=>Md L a0 (F1 L a0 n) Au Am
theorem Bgo(a0:Ap):LP (EV (O96 L) L 9 c96.w.u.l.u.l.l) [0,1,2,12,17,23,24,25] [1] (A74 a0) [.ret,.exit 1] (fun n v=>F1 L a0 n v.1 v.2) K:=lE (fun _=>rfl) fun n v ih=>eE (Md L a0 (fun Au Am=>re (ih (Au,Am))) v.1 v.2)
def Jf [An A Int](L:Nat)(o4:Nat×L1):A:=
 (sl o4.1 [(lf o4.2.1),
 (lf 0)])
def A6y:Ci:=(Bs 1 (Bz (EV (O96 L) L 9 c96.w.u.r) (Kb Tryz.prog (RS Tryz.f96) kk)))
theorem Blw(a0:Ap)(o4:Nat×L1):kX [.ret,.exit 1] (A74 a0) (A6y L kk) o4=ob (Jf L o4) (kQ I kk):=eE (Jf L o4)
def Mf [An A Int](a0:Ap)(nx1:A):A:=
 (cn ((a0.Shift.length:Int) == 0)
 (cn (a0.Cycle != 0)
 (lf 1)
 (lf 0))
 (cn (decide ((a0.Shift.length:Int) > 20))
 (lf 6)
 (bd (Bf L a0.Cycle 1 1000000000) fun r1=>
 (cn (!r1)
 (lf 2)
 nx1))))
def z7 [An A Int](a0:Ap):A:=Mf L a0 (bd (F1 L a0 L 0 0) fun o4=>Jf L o4)
def Qm(a0:Ap):Option Int:=z7 L a0
def X96:Qi:=E1 I 96 Aee (Qm L) fun a0 r h=>hF Tryz.func96 (C:=O96 L) (oS _) L (fun kk=>eE (Mf L a0 (ho (Bgo L (A6y L kk) a0 L (0,0)) fun o4=>Blw L kk a0 o4))) h
def c29:=CC Tryz.f29
def O29(L:Nat):Bt:=oL []
def A7y(a0:List Int)(a1:List Int)(v:Tu5):St:=⟨[(0,lv (.t3 a0)),(1,lv (.t3 a1)),(4,B v.1),(12,I (a0.length:Int)),(13,I v.2)],[],0⟩
def Ku [An A (Nat×Tu5)](L:Nat)(a0:List Int)(a1:List Int)(rec:Bool→Int→A)(C8:Bool)(Af:Int):A:=
 (lw Af a0
 (gi Af a1
 (cn ((a0.getD (Int.toNat Af) default) != (a1.getD (Int.toNat Af) default))
 (lf (0,false,Af))
 (rec C8 (Bi (Af+1)))))
 (lf (1,C8,Af)))
def Ej(L:Nat)(a0:List Int)(a1:List Int):Nat→Bool→Int→Option (Nat×Tu5)
 |0,_,_=>none
 |n+1,C8,Af=>Ku L a0 a1 (Ej L a0 a1 n) C8 Af
theorem Bf9(a0:List Int)(a1:List Int):LP (EV (O29 L) L 9 c29.w.l.u.l.l) [0,1,4,12,13] [] (A7y a0 a1) [.ret,.exit 0] (fun n v=>Ej L a0 a1 n v.1 v.2) K:=lE (fun _=>rfl) fun n v ih=>eE (Ku L a0 a1 (fun C8 Af=>re (ih (C8,Af))) v.1 v.2)
def Hn [An A Bool](L:Nat)(o1:Nat×Tu5):A:=
 (sl o1.1 [(lf o1.2.1),
 (lf true)])
def A6i:Ci:=(Bs 0 (Bz (EV (O29 L) L 9 c29.w.r) (Kb Tryz.prog (RS Tryz.f29) kk)))
theorem Blg(a0:List Int)(a1:List Int)(o1:Nat×Tu5):kX [.ret,.exit 0] (A7y a0 a1) (A6i L kk) o1=ob (Hn L o1) (kQ B kk):=eE (Hn L o1)
def Kw [An A Bool](L:Nat)(a0:List Int)(a1:List Int)(nx1:A):A:=
 (cn ((a0.length:Int) != (a1.length:Int))
 (lf false)
 nx1)
def Zu [An A Bool](a0:List Int)(a1:List Int):A:=Kw L a0 a1 (bd (Ej L a0 a1 L false 0) fun o1=>Hn L o1)
def Kf(a0:List Int)(a1:List Int):Option Bool:=Zu L a0 a1
def X29:Qi:=E2 B 29 cl3 cl3 (Kf L) fun a0 a1 r h=>hF Tryz.func29 (C:=O29 L) (oS _) L (fun kk=>eE (Kw L a0 a1 (ho (Bf9 L (A6i L kk) a0 a1 L (false,0)) fun o1=>Blg L kk a0 a1 o1))) h
def Ac5 [An A Bool](a0:Cp)(a1:Cp):A:=
 (jp (.cn (a0.Op == a1.Op)
 (.lf (a0.A == a1.A))
 (.lf false)) (fun b1=>
 (jp (.cn b1
 (.lf (a0.B == a1.B))
 (.lf false)) (fun b2=>
 (jp (.cn b2
 (.lf (a0.N == a1.N))
 (.lf false)) (fun b3=>
 (jb (.cn b3
 (.bd (Kf L a0.Values a1.Values) fun r5=>
 (.lf r5))
 (.lf false)) (fun b4=>
 (jb (.cn b4
 (.bd (Kf L a0.Weights a1.Weights) fun r7=>
 (.lf r7))
 (.lf false)) (fun b6=>
 (lf b6)))))))))))
def Jz(a0:Cp)(a1:Cp):Option Bool:=Ac5 L a0 a1
def Bex:Qi:=E2 B 148 k7 k7 (Jz L) fun a0 a1 r h=>hF Tryz.func148 (oS [X29 L]) L (fun kk=>eE (Ac5 L a0 a1)) h
def Bj6:=CC Tryz.f183
def Beh(L:Nat):Bt:=oL []
def A1x(a0:List ByteArray)(a1:ByteArray)(v:L1):St:=⟨[(0,lv (.t9 a0)),(1,S a1),(4,I v.1),(7,I (a0.length:Int)),(8,I v.2)],[],0⟩
def H1 [An A Hl](L:Nat)(a0:List ByteArray)(a1:ByteArray)(rec:Int→Int→A)(C8:Int)(Af:Int):A:=
 (lw Af a0
 (cn (a1.toList == (a0.getD (Int.toNat Af) default).toList)
 (lf (0,Af,Af))
 (rec C8 (Bi (Af+1))))
 (lf (1,C8,Af)))
def Dr(L:Nat)(a0:List ByteArray)(a1:ByteArray):Nat→Int→Int→Option Hl
 |0,_,_=>none
 |n+1,C8,Af=>H1 L a0 a1 (Dr L a0 a1 n) C8 Af
theorem Bbh(a0:List ByteArray)(a1:ByteArray):LP (EV (Beh L) L 9 Bj6.u.l.u.l.l) [0,1,4,7,8] [] (A1x a0 a1) [.ret,.exit 0] (fun n v=>Dr L a0 a1 n v.1 v.2) K:=lE (fun _=>rfl) fun n v ih=>eE (H1 L a0 a1 (fun C8 Af=>re (ih (C8,Af))) v.1 v.2)
def H2 [An A Int](L:Nat)(o1:Nat×L1):A:=
 (sl o1.1 [(lf o1.2.1),
 (lf (-1))])
def Az9:Ci:=(Bs 0 (Bz (EV (Beh L) L 9 Bj6.u.r) (Kb Tryz.prog (RS Tryz.f183) kk)))
theorem Bhn(a0:List ByteArray)(a1:ByteArray)(o1:Nat×L1):kX [.ret,.exit 0] (A1x a0 a1) (Az9 L kk) o1=ob (H2 L o1) (kQ I kk):=eE (H2 L o1)
def Vd [An A Int](a0:List ByteArray)(a1:ByteArray):A:=(bd (Dr L a0 a1 L 0 0) fun o1=>H2 L o1)
def Ks(a0:List ByteArray)(a1:ByteArray):Option Int:=Vd L a0 a1
def Bnl:Qi:=E2 I 183 cl9 cS (Ks L) fun a0 a1 r h=>hF Tryz.func183 (C:=Beh L) (oS _) L (fun kk=>eE ((ho (Bbh L (Az9 L kk) a0 a1 L (0,0)) fun o1=>Bhn L kk a0 a1 o1))) h
def L4 [An A Bool](a0:List ByteArray)(a1:ByteArray):A:=
 (bd (Ks L a0 a1) fun r1=>
 (lf (decide (r1≥0))))
def Bv(a0:List ByteArray)(a1:ByteArray):Option Bool:=L4 L a0 a1
def Bjb:Qi:=E2 B 149 cl9 cS (Bv L) fun a0 a1 r h=>hF Tryz.func149 (oS [Bnl L]) L (fun kk=>eE (L4 L a0 a1)) h
def s9 [An A Bool](L:Nat)(a0:Cp):A:=
 (cn (a0.Op == 1)
 (jp (.cn ((Bi ((a0.Values.length:Int)+(a0.Weights.length:Int))) == 0)
 (.lf (a0.B == 0))
 (.lf false)) (fun b1=>
 (jp (.cn b1
 (.lf (a0.N == 0))
 (.lf false)) (fun b2=>
 (lf b2)))))
 (cn (a0.Op == 2)
 (cn (a0.Op == 2)
 (jp (.cn ((Bi ((a0.Values.length:Int)+(a0.Weights.length:Int))) == 0)
 (.lf (a0.N == 0))
 (.lf false)) (fun b3=>
 (lf b3)))
 (cn (a0.Op == 4)
 (lf ((Bi ((a0.Values.length:Int)+(a0.Weights.length:Int))) == 0))
 (cn (a0.Op == 3)
 (jp (.cn (a0.A == 0)
 (.lf (a0.B == 0))
 (.lf false)) (fun b4=>
 (jp (.cn b4
 (.lf (a0.N == 0))
 (.lf false)) (fun b5=>
 (lf b5)))))
 (lf false))))
 (cn (a0.Op == 5)
 (jp (.cn ((Bi ((a0.Values.length:Int)+(a0.Weights.length:Int))) == 0)
 (.lf (a0.N == 0))
 (.lf false)) (fun b6=>
 (lf b6)))
 (cn (a0.Op == 4)
 (lf ((Bi ((a0.Values.length:Int)+(a0.Weights.length:Int))) == 0))
 (cn (a0.Op == 3)
 (jp (.cn (a0.A == 0)
 (.lf (a0.B == 0))
 (.lf false)) (fun b7=>
 (jp (.cn b7
 (.lf (a0.N == 0))
 (.lf false)) (fun b8=>
 (lf b8)))))
 (lf false))))))
def W6(a0:Cp):Option Bool:=s9 L a0
def Bnj:Qi:=E1 B 168 k7 (W6 L) fun a0 r h=>hF Tryz.func168 (oS []) L (fun kk=>eE (s9 L a0)) h
def Bkg:=CC Tryz.f197
def Bki:=CC Tryz.f215
def Bj5:=CC Tryz.f169
def Ant(L:Nat):Bt:=oL []
def A1w(p1_0:List Int)(p1_1:Int)(p1_2:Int)(v:L1):St:=⟨[(0,lv (.t3 p1_0)),(1,.clo 198 0 [.loc 3 0,.loc 4 0]),(4,I v.1),(7,I (p1_0.length:Int)),(8,I v.2)],[(3,[I p1_1]),(4,[I p1_2])],1005⟩
def Qv [An A Hl](L:Nat)(p1_0:List Int)(p1_1:Int)(p1_2:Int)(rec:Int→Int→A)(Bg:Int)(Am:Int):A:=
 (lw Am p1_0
 (jp (.cn (decide ((p1_0.getD (Int.toNat Am) default) < p1_1))
 (.lf true)
 (.lf (decide ((p1_0.getD (Int.toNat Am) default) > p1_2)))) (fun b1=>
 (cn b1
 (lf (0,Am,Am))
 (rec Bg (Bi (Am+1))))))
 (lf (1,Bg,Am)))
def Hv(L:Nat)(p1_0:List Int)(p1_1:Int)(p1_2:Int):Nat→Int→Int→Option Hl
 |0,_,_=>none
 |n+1,Bg,Am=>Qv L p1_0 p1_1 p1_2 (Hv L p1_0 p1_1 p1_2 n) Bg Am
theorem Bbg(p1_0:List Int)(p1_1:Int)(p1_2:Int):LP (EV (Ant L) L 7 Bki.u.l.u.l.l) [0,1,4,7,8] [3,4] (A1w p1_0 p1_1 p1_2) [.ret,.exit 0] (fun n v=>Hv L p1_0 p1_1 p1_2 n v.1 v.2) K:=lE (fun _=>rfl) fun n v ih=>eE (Qv L p1_0 p1_1 p1_2 (fun Bg Am=>re (ih (Bg,Am))) v.1 v.2)
def Ap1(p1_0:List Int)(p1_1:Int)(p1_2:Int)(k:Bn):Int→Prop:=fun o=>k (I o) [(3,[I p1_1]),(4,[I p1_2])]
def Qz [An A Int](L:Nat)(o2:Nat×L1):A:=
 (sl o2.1 [(lf o2.2.1),
 (lf (-1))])
def Az7:Ci:=(Bs 0 (Bz (EV (Ant L) L 7 Bki.u.r) (Dg Tryz.prog (RS Tryz.f215) k)))
theorem Bhl(p1_0:List Int)(p1_1:Int)(p1_2:Int)(o2:Nat×L1):kX [.ret,.exit 0] (A1w p1_0 p1_1 p1_2) (Az7 L k) o2=ob (Qz L o2) (Ap1 p1_0 p1_1 p1_2 k):=eE (Qz L o2)
def Aaf [An A Int](p1_0:List Int)(p1_1:Int)(p1_2:Int):A:=(bd (Hv L p1_0 p1_1 p1_2 L 0 0) fun o2=>Qz L o2)
def Vt(p1_0:List Int)(p1_1:Int)(p1_2:Int):Option Int:=Aaf L p1_0 p1_1 p1_2
theorem Bah(p1_0:List Int)(p1_1:Int)(p1_2:Int):YO (Ant L) L 8 215 [lv (.t3 p1_0),.clo 198 0 [.loc 3 0,.loc 4 0]] [(3,[I p1_1]),(4,[I p1_2])] k=ob (Vt L p1_0 p1_1 p1_2) (Ap1 p1_0 p1_1 p1_2 k):=(C6 _ _ _ y9 _ _ _ _ _ _ _).trans (eE ((ho (Bbg L (Az7 L k) p1_0 p1_1 p1_2 L (0,0)) fun o2=>Bhl L k p1_0 p1_1 p1_2 o2)))
def Mx [An A Bool](L:Nat)(o3:Int):A:=
 (lf (!(decide (o3≥0))))
def Az8(a2:List Int)(a0:Int)(a1:Int):Bn:=(Bx Tryz.prog (Ant L) (EI (Ant L) L 8) 2 (List.drop 3 Bkg.u.l.ops) ⟨[(6,.clo 198 0 [.loc 3 0,.loc 4 0]),(5,lv (.t3 a2)),(0,lv (.t3 a2)),(1,.clo 198 0 [.loc 3 0,.loc 4 0]),(4,B false)],[(3,[I a0]),(4,[I a1])],1005⟩ (some 7) (fun st9=>(Bz (EV (Ant L) L 8 Bkg.u.r) (Dg Tryz.prog (RS Tryz.f197) (Bx Tryz.prog (Ant L) (EI (Ant L) L 9) 2 (List.drop 3 Bj5.u.l.ops) ⟨[(8,.clo 198 0 [.loc 3 0,.loc 4 0]),(7,lv (.t3 a2)),(2,lv (.t3 a2)),(3,.loc 3 0),(4,.loc 4 0),(6,B false)],[(3,[I a0]),(4,[I a1])],0⟩ (some 9) (fun st9=>(Bz (EV (Ant L) L 9 Bj5.u.r) (Kb Tryz.prog (RS Tryz.f169) kk)) .normal st9)))) .normal st9))
theorem Bhm(a2:List Int)(a0:Int)(a1:Int)(o3:Int):Ap1 a2 a0 a1 (Az8 L kk a2 a0 a1) o3=ob (Mx L o3) (kQ B kk):=eE (Mx L o3)
def Aem [An A Bool](a0:Int)(a1:Int)(a2:List Int):A:=(bd (Vt L a2 a0 a1) fun o3=>Mx L o3)
def E7(a0:Int)(a1:Int)(a2:List Int):Option Bool:=Aem L a0 a1 a2
def Bnk:Qi:=E3 B 169 (cI .i64) (cI .i64) cl3 (E7 L) fun a0 a1 a2 r h=>hF Tryz.func169 (C:=Ant L) (oS _) L (fun kk=>eE ((ho (Bah L (Az8 L kk a2 a0 a1) a2 a0 a1) fun o3=>Bhm L kk a2 a0 a1 o3))) h
def Abj [An A Int](a0:Cp):A:=
 (bd (W6 L a0) fun r1=>
 (cn (!r1)
 (lf 1)
 (cn (a0.Op == 1)
 (bd (E7 L 0 1000000000 [a0.A]) fun r2=>
 (cn (!r2)
 (lf 2)
 (lf 0)))
 (cn (a0.Op == 2)
 (bd (E7 L 0 1000000000 [a0.A,a0.B]) fun r3=>
 (jp (.cn r3
 (.lf (decide (a0.A≤a0.B)))
 (.lf false)) (fun b4=>
 (cn (!b4)
 (lf 2)
 (lf 0)))))
 (cn (a0.Op == 4)
 (bd (E7 L 1 20 [a0.N]) fun r5=>
 (cn r5
 (jb (.bd (E7 L 0 1000000 [a0.A,a0.B]) fun r7=>
 (.lf r7)) (fun b6=>
 (jp (.cn b6
 (.lf (decide (a0.A≤a0.B)))
 (.lf false)) (fun b8=>
 (cn (!b8)
 (lf 2)
 (lf 0))))))
 (nq (nq (lf 2)))))
 (cn (a0.Op == 5)
 (bd (E7 L 1 1000 [a0.A,a0.B]) fun r9=>
 (cn (!r9)
 (lf 2)
 (lf 0)))
 (cn (a0.Op == 3)
 (cn ((a0.Values.length:Int) != (a0.Weights.length:Int))
 (lf 8)
 (cn ((a0.Values.length:Int) == 0)
 (lf 7)
 (cn (decide ((a0.Values.length:Int) > 20))
 (lf 6)
 (bd (E7 L 0 1000000000 a0.Values) fun r10=>
 (jb (.cn r10
 (.bd (E7 L 1 1000 a0.Weights) fun r12=>
 (.lf r12))
 (.lf false)) (fun b11=>
 (cn (!b11)
 (lf 2)
 (lf 0))))))))
 (lf 2))))))))
def Em(a0:Cp):Option Int:=Abj L a0
def Beu:Qi:=E1 I 129 k7 (Em L) fun a0 r h=>hF Tryz.func129 (oS [Bnj L,Bnk L]) L (fun kk=>eE (Abj L a0)) h
def Vl [An A Int](a0:Aa)(a1:Ml):A:=
 (cn (a1.Stream.toList == (⟨#[]⟩:ByteArray).toList)
 (bd (Jz L a1.Up (⟨0,0,0,0,[],[]⟩:Cp)) fun r1=>
 (cn (!r1)
 (nq (lf 1))
 (bd (Jz L a1.Down (⟨0,0,0,0,[],[]⟩:Cp)) fun r2=>
 (nq (cn (!r2)
 (lf 1)
 (cn (a1.Stream.toList == (⟨#[]⟩:ByteArray).toList)
 (lf 0)
 (bd (Bv L a0.Streams a1.Stream) fun r3=>
 (cn (!r3)
 (lf 5)
 (bd (Em L a1.Up) fun r4=>
 (cn (r4 != 0)
 (lf r4)
 (bd (Em L a1.Down) fun r5=>
 (lf r5))))))))))))
 (nq (cn (a1.Stream.toList == (⟨#[]⟩:ByteArray).toList)
 (lf 0)
 (bd (Bv L a0.Streams a1.Stream) fun r6=>
 (cn (!r6)
 (lf 5)
 (bd (Em L a1.Up) fun r7=>
 (cn (r7 != 0)
 (lf r7)
 (bd (Em L a1.Down) fun r8=>
 (lf r8)))))))))
def Ql(a0:Aa)(a1:Ml):Option Int:=Vl L a0 a1
def X97:Qi:=E2 I 97 K2 Aqt (Ql L) fun a0 a1 r h=>hF Tryz.func97 (oS [Beu L,Bex L,Bjb L]) L (fun kk=>eE (Vl L a0 a1)) h
def A9e:=CC Tryz.f150
def A4u(L:Nat):Bt:=oL []
def Bdo:(List Ba)→Prop:=fun x=>kk ((fun(x:List Ba)=>lv (.t200 x)) x)
def A1s(a0:List (List Ba))(v:L1):St:=⟨[(0,lv (.t90 a0)),(2,.lst true (.t200 [])),(3,I v.1),(6,.any),(8,.any),(9,lv (.t90 a0)),(10,I (a0.length:Int)),(11,I v.2),(27,.any)],[],0⟩
def F8 [An A Hl](L:Nat)(a0:List (List Ba))(rec:Int→Int→A)(C8:Int)(Asg:Int):A:=
 (lw Asg a0
 (cn (decide ((Bi (C8+((a0.getD (Int.toNat Asg) default).length:Int))) < 0))
 fl
 (rec (Bi (C8+((a0.getD (Int.toNat Asg) default).length:Int))) (Bi (Asg+1))))
 (lf (0,C8,Asg)))
def Cz(L:Nat)(a0:List (List Ba)):Nat→Int→Int→Option Hl
 |0,_,_=>none
 |n+1,C8,Asg=>F8 L a0 (Cz L a0 n) C8 Asg
theorem Bbc(a0:List (List Ba)):LP (EV (A4u L) L 9 A9e.w.l.u.l.l) [0,2,3,6,8,9,10,11,27] [] (A1s a0) [.exit 0] (fun n v=>Cz L a0 n v.1 v.2) K:=lE (fun _=>rfl) fun n v ih=>eE (F8 L a0 (fun C8 Asg=>re (ih (C8,Asg))) v.1 v.2)
def A1t(a0:List (List Ba))(v:List Ba×Int):St:=⟨[(0,.any),(2,.lst true (.t200 [])),(3,.any),(5,.any),(6,.lst true (.t200 v.1)),(11,.any),(25,lv (.t90 a0)),(26,I (a0.length:Int)),(27,I v.2)],[],0⟩
def F9 [An A (Nat×List Ba×Int)](L:Nat)(a0:List (List Ba))(rec:List Ba→Int→A)(Se:List Ba)(Aoi:Int):A:=
 (lw Aoi a0
 (gq ((Se.length+(a0.getD (Int.toNat Aoi) default).length)*24≤140737488355328)
 (gq (Se.length+(a0.getD (Int.toNat Aoi) default).length≤maxLen)
 (rec (Se++(a0.getD (Int.toNat Aoi) default)) (Bi (Aoi+1)))))
 (lf (0,Se,Aoi)))
def C0(L:Nat)(a0:List (List Ba)):Nat→List Ba→Int→Option (Nat×List Ba×Int)
 |0,_,_=>none
 |n+1,Se,Aoi=>F9 L a0 (C0 L a0 n) Se Aoi
theorem Bbd(a0:List (List Ba)):LP (EV (A4u L) L 9 A9e.x.l.u.l.l) [0,2,3,5,6,11,25,26,27] [] (A1t a0) [.exit 2] (fun n v=>C0 L a0 n v.1 v.2) K:=lE (fun _=>rfl) fun n v ih=>eE (F9 L a0 (fun Se Aoi=>re (ih (Se,Aoi))) v.1 v.2)
def Eh [An A (List Ba)](L:Nat)(o2:Nat×List Ba×Int):A:=
 (sl o2.1 [(lf o2.2.1)])
def Azw:Ci:=(Bs 2 (Bz (EV (A4u L) L 9 A9e.x.r) (Kb Tryz.prog (RS Tryz.f150) kk)))
theorem Bha(a0:List (List Ba))(o2:Nat×List Ba×Int):kX [.exit 2] (A1t a0) (Azw L kk) o2=ob (Eh L o2) (Bdo kk):=eE (Eh L o2)
def Gc [An A (List Ba)](L:Nat)(a0:List (List Ba))(o1:Nat×L1)(nx2:A):A:=
 (sl o1.1 [(gq (0≤o1.2.1)
 (gq (o1.2.1*((24:Nat):Int)≤140737488355328)
 (gq (o1.2.1≤(4611686018427387904:Int))
 nx2)))])
def Gb [An A (List Ba)](a0:List (List Ba))(o1:Nat×L1):A:=Gc L a0 o1 (bd (C0 L a0 L [] 0) fun o2=>Eh L o2)
def Azv:Ci:=(Bs 0 (Bz (EV (A4u L) L 9 A9e.w.r) (Kb Tryz.prog (RS Tryz.f150) kk)))
theorem Bg9(a0:List (List Ba))(o1:Nat×L1):kX [.exit 0] (A1s a0) (Azv L kk) o1=ob (Gb L a0 o1) (Bdo kk):=eE (Gc L a0 o1 (ho (Bbd L (Azw L kk) a0 L ([],0)) fun o2=>Bha L kk a0 o2))
def Rw [An A (List Ba)](a0:List (List Ba)):A:=(bd (Cz L a0 L 0 0) fun o1=>Gb L a0 o1)
def Hk(a0:List (List Ba)):Option (List Ba):=Rw L a0
def Bnf:Qi:=E1 (fun(x:List Ba)=>lv (.t200 x)) 150 Bob (Hk L) fun a0 r h=>hF Tryz.func150 (C:=A4u L) (oS _) L (fun kk=>eE ((ho (Bbc L (Azv L kk) a0 L (0,0)) fun o1=>Bg9 L kk a0 o1))) h
def Ayo(F:(List Ag)→Option Int):Prop:=∀y0 r,F y0=some r→Ho Tryz.prog 185 [Aer.en y0] I r
def Bj7:=CC Tryz.f185
def Bei(Dy:(List Ag)→Option Int)(L:Nat):Bt:=(orc 185 (A1 I Aer Dy) (oL []))
theorem Bpg(Dy:(List Ag)→Option Int)(A5y:Ayo Dy)(L:Nat):Ed Tryz.prog (Bei Dy L):=(Mu (a1 _ A5y) (oS []))
def A1y(a0:List Ag)(v:L1):St:=⟨[(0,.any),(2,I 0),(3,I v.1),(8,lv (.t264 a0)),(9,I (a0.length:Int)),(10,I v.2)],[],0⟩
def Su [An A Hl](Dy:(List Ag)→Option Int)(L:Nat)(a0:List Ag)(rec:Int→Int→A)(Bg:Int)(Af:Int):A:=
 (lw Af a0
 (bd (Dy ((a0.getD (Int.toNat Af) default).Body)) fun r1=>
 (bd (Dy ((a0.getD (Int.toNat Af) default).Else)) fun r2=>
 (rec (Bi (Bg+(Bi (r1+r2)))) (Bi (Af+1)))))
 (lf (0,Bg,Af)))
def Iw(Dy:(List Ag)→Option Int)(L:Nat)(a0:List Ag):Nat→Int→Int→Option Hl
 |0,_,_=>none
 |n+1,Bg,Af=>Su Dy L a0 (Iw Dy L a0 n) Bg Af
theorem Bbi(Dy:(List Ag)→Option Int)(L:Nat)(K:Ci)(a0:List Ag):LP (EV (Bei Dy L) L 9 Bj7.w.l.u.l.l) [0,2,3,8,9,10] [] (A1y a0) [.exit 0] (fun n v=>Iw Dy L a0 n v.1 v.2) K:=lE (fun _=>rfl) fun n v ih=>eE (Su Dy L a0 (fun Bg Af=>re (ih (Bg,Af))) v.1 v.2)
def Oi [An A Int](Dy:(List Ag)→Option Int)(L:Nat)(o3:Nat×L1):A:=
 (sl o3.1 [(lf o3.2.1)])
def A0a(Dy:(List Ag)→Option Int)(L:Nat)(kk:Ep):Ci:=(Bs 0 (Bz (EV (Bei Dy L) L 9 Bj7.w.r) (Kb Tryz.prog (RS Tryz.f185) kk)))
theorem Bho(Dy:(List Ag)→Option Int)(L:Nat)(kk:Ep)(a0:List Ag)(o3:Nat×L1):kX [.exit 0] (A1y a0) (A0a Dy L kk) o3=ob (Oi Dy L o3) (kQ I kk):=eE (Oi Dy L o3)
def Agm [An A Int](Dy:(List Ag)→Option Int)(L:Nat)(a0:List Ag):A:=(bd (Iw Dy L a0 L (a0.length:Int) 0) fun o3=>Oi Dy L o3)
def Abb(Dy:(List Ag)→Option Int)(L:Nat)(a0:List Ag):Option Int:=Agm Dy L a0
theorem Bn1(Dy:(List Ag)→Option Int)(A5y:Ayo Dy)(L:Nat):Ayo (Abb Dy L):=fun a0 r h=>hF Tryz.func185 (Bpg Dy A5y L) L (fun kk=>eE ((ho (Bbi Dy L (A0a Dy L kk) a0 L ((a0.length:Int),0)) fun o3=>Bho Dy L kk a0 o3))) h
def Jq:Nat→(List Ag)→Option Int
 |0,_=>none
 |L+1,a0=>Abb (Jq L) L a0
theorem A91(L:Nat):Ayo (Jq L):=by
 induction L with
 |zero=>exact fun _ _ h=>(by cases h)
 |succ L ih=>
  have i185:=ih
  exact Bn1 (Jq L) i185 L
def Bnm(L:Nat):Qi:=E1 I 185 Aer (Jq L) (A91 L)
def Ayp(F:(List Ag)→Option Int):Prop:=∀y0 r,F y0=some r→Ho Tryz.prog 186 [Aer.en y0] I r
def Bj8:=CC Tryz.f186
def Bej(Dz:(List Ag)→Option Int)(L:Nat):Bt:=(orc 186 (A1 I Aer Dz) (oL []))
theorem Bph(Dz:(List Ag)→Option Int)(A5z:Ayp Dz)(L:Nat):Ed Tryz.prog (Bej Dz L):=(Mu (a1 _ A5z) (oS []))
def A1z(a0:List Ag)(v:L1):St:=⟨[(0,.any),(2,I 0),(3,I v.1),(6,lv (.t264 a0)),(7,I (a0.length:Int)),(8,I v.2)],[],0⟩
def Sv [An A Hl](Dz:(List Ag)→Option Int)(L:Nat)(a0:List Ag)(rec:Int→Int→A)(Bg:Int)(Af:Int):A:=
 (lw Af a0
 (bd (Dz ((a0.getD (Int.toNat Af) default).Body)) fun r1=>
 (bd (Dz ((a0.getD (Int.toNat Af) default).Else)) fun r2=>
 (rec (if (Bi (1+r2)) > (if (Bi (1+r1)) > Bg then (Bi (1+r1)) else Bg) then (Bi (1+r2)) else (if (Bi (1+r1)) > Bg then (Bi (1+r1)) else Bg)) (Bi (Af+1)))))
 (lf (0,Bg,Af)))
def Ix(Dz:(List Ag)→Option Int)(L:Nat)(a0:List Ag):Nat→Int→Int→Option Hl
 |0,_,_=>none
 |n+1,Bg,Af=>Sv Dz L a0 (Ix Dz L a0 n) Bg Af
theorem Bbj(Dz:(List Ag)→Option Int)(L:Nat)(K:Ci)(a0:List Ag):LP (EV (Bej Dz L) L 9 Bj8.w.l.u.l.l) [0,2,3,6,7,8] [] (A1z a0) [.exit 0] (fun n v=>Ix Dz L a0 n v.1 v.2) K:=lE (fun _=>rfl) fun n v ih=>eE (Sv Dz L a0 (fun Bg Af=>re (ih (Bg,Af))) v.1 v.2)
def Oj [An A Int](Dz:(List Ag)→Option Int)(L:Nat)(o3:Nat×L1):A:=
 (sl o3.1 [(lf o3.2.1)])
def A0b(Dz:(List Ag)→Option Int)(L:Nat)(kk:Ep):Ci:=(Bs 0 (Bz (EV (Bej Dz L) L 9 Bj8.w.r) (Kb Tryz.prog (RS Tryz.f186) kk)))
theorem Bhp(Dz:(List Ag)→Option Int)(L:Nat)(kk:Ep)(a0:List Ag)(o3:Nat×L1):kX [.exit 0] (A1z a0) (A0b Dz L kk) o3=ob (Oj Dz L o3) (kQ I kk):=eE (Oj Dz L o3)
def Agn [An A Int](Dz:(List Ag)→Option Int)(L:Nat)(a0:List Ag):A:=(bd (Ix Dz L a0 L 0 0) fun o3=>Oj Dz L o3)
def Abc(Dz:(List Ag)→Option Int)(L:Nat)(a0:List Ag):Option Int:=Agn Dz L a0
theorem Bn2(Dz:(List Ag)→Option Int)(A5z:Ayp Dz)(L:Nat):Ayp (Abc Dz L):=fun a0 r h=>hF Tryz.func186 (Bph Dz A5z L) L (fun kk=>eE ((ho (Bbj Dz L (A0b Dz L kk) a0 L (0,0)) fun o3=>Bhp Dz L kk a0 o3))) h
def Jr:Nat→(List Ag)→Option Int
 |0,_=>none
 |L+1,a0=>Abc (Jr L) L a0
theorem A92(L:Nat):Ayp (Jr L):=by
 induction L with
 |zero=>exact fun _ _ h=>(by cases h)
 |succ L ih=>
  have i186:=ih
  exact Bn2 (Jr L) i186 L
def Bnn(L:Nat):Qi:=E1 I 186 Aer (Jr L) (A92 L)
def Zx:=CC Tryz.f210
def Ae5(L:Nat):Bt:=oL []
def Ao3:(Bp×Bool)→Prop:=fun x=>kk ((fun(x:Bp×Bool)=> .tup [.agg (Vq x.1),B x.2]) x)
def A1m:St:=⟨[(2,.loc 2 0),(3,B false)],[(2,[B false,B false,B false,B false,B false,B false,B false,B false,B false])],0⟩
def A1a(L:Nat)(kk:Ep):Ci:=(Kb Tryz.prog (RS Tryz.f210) kk)
def U4 [An A (Bp×Bool)](L:Nat):A:=
 (lf ((⟨false,false,false,false,false,false,false,false,false⟩:Bp),false))
theorem A9m:EV (Ae5 L) L 9 Zx.w (A1m) (A1a L kk)=ob (U4 L) (Ao3 kk):=eE (U4 L)
def Ald(a0:Int)(p803_2:Bool):St:=⟨[(2,.loc 2 0),(3,B false),(4,I a0),(32,B p803_2)],[(2,[B false,B false,B false,B false,B false,B false,B false,B false,B false])],0⟩
def Alb(e0:EC):Ci:=(Bs 0 (Bz (EV (Ae5 L) L 9 e0) (Kb Tryz.prog (RS Tryz.f210) kk)))
def sx_stmt_uses_3 [An A (Bp×Bool)](L:Nat)(a0:Int)(p803_2:Bool)(nx1:A):A:=
 (cn p803_2
 (lf ((⟨true,false,false,false,false,false,false,false,false⟩:Bp),true))
 (cn (a0 == 13)
 (lf ((⟨true,true,true,false,true,false,false,false,false⟩:Bp),true))
 (cn (a0 == 14)
 (lf ((⟨true,false,true,false,true,false,false,false,false⟩:Bp),true))
 (cn (a0 == 18)
 (lf ((⟨false,false,false,false,false,false,false,false,false⟩:Bp),true))
 nx1))))
def d6 [An A (Bp×Bool)](a0:Int)(p803_2:Bool):A:=sx_stmt_uses_3 L a0 p803_2 (U4 L)
theorem A9r(a0:Int)(p803_2:Bool)(z1:EC):EV (Ae5 L) L 9 Zx.u.l.u.l.x.x.w.u.r (Ald a0 p803_2) (Alb L kk (EC.put (rl [1]) z1 Zx.u.r))= @sx_stmt_uses_3 Prop (anP (Ao3 kk)) L a0 p803_2 (EV (Ae5 L) L 9 z1 (A1m) (A1a L kk)):=by kernel_rfl
theorem A9o(a0:Int)(p803_2:Bool):EV (Ae5 L) L 9 Zx.u.l.u.l.x.x.w.u.r (Ald a0 p803_2) (Alb L kk Zx.u.r)=ob (d6 L a0 p803_2) (Ao3 kk):=Eq.trans (b:=EV (Ae5 L) L 9 Zx.u.l.u.l.x.x.w.u.r (Ald a0 p803_2) (Alb L kk (EC.put (rl [1]) Zx.w Zx.u.r))) (by kernel_rfl) ((A9r L kk a0 p803_2 Zx.w).trans (eE (sx_stmt_uses_3 L a0 p803_2 (re (A9m L kk)))))
def Alc(a0:Int)(p802_2:Bool):St:=⟨[(2,.loc 2 0),(3,B false),(4,I a0),(5,B p802_2)],[(2,[B false,B false,B false,B false,B false,B false,B false,B false,B false])],0⟩
def Ala(e0:EC):Ci:=(Bs 0 (Bz (EV (Ae5 L) L 9 e0) (Kb Tryz.prog (RS Tryz.f210) kk)))
def sx_stmt_uses_2 [An A (Bp×Bool)](L:Nat)(a0:Int)(p802_2:Bool)(nx3:Int→Bool→A):A:=
 (cn p802_2
 (lf ((⟨true,false,true,false,false,false,false,false,false⟩:Bp),true))
 (cn (a0 == 2)
 (lf ((⟨true,true,false,false,false,true,false,false,false⟩:Bp),true))
 (cn (a0 == 3)
 (lf ((⟨false,false,true,false,false,false,false,true,true⟩:Bp),true))
 (cn (a0 == 4)
 (lf ((⟨false,false,true,false,false,false,false,true,false⟩:Bp),true))
 (cn (a0 == 5)
 (lf ((⟨false,false,true,false,false,false,false,false,false⟩:Bp),true))
 (cn (a0 == 6)
 (lf ((⟨true,false,true,true,false,false,true,false,false⟩:Bp),true))
 (cn (a0 == 9)
 (lf ((⟨true,true,false,false,false,false,false,false,false⟩:Bp),true))
 (cn (a0 == 10)
 (nx3 a0 (a0 == 10))
 (nx3 a0 (a0 == 11))))))))))
def d5 [An A (Bp×Bool)](a0:Int)(p802_2:Bool):A:=sx_stmt_uses_2 L a0 p802_2 (fun a0 p803_2=>d6 L a0 p803_2)
theorem A9q(a0:Int)(p802_2:Bool)(z3:EC):EV (Ae5 L) L 9 (EC.put (rl [21]) z3 Zx.u.l.u.l.u) (Alc a0 p802_2) (Ala L kk Zx.u.r)= @sx_stmt_uses_2 Prop (anP (Ao3 kk)) L a0 p802_2 (fun a0 p803_2=>EV (Ae5 L) L 9 z3 (Ald a0 p803_2) (Alb L kk Zx.u.r)):=by kernel_rfl
theorem A9n(a0:Int)(p802_2:Bool):EV (Ae5 L) L 9 Zx.u.l.u.l.u (Alc a0 p802_2) (Ala L kk Zx.u.r)=ob (d5 L a0 p802_2) (Ao3 kk):=Eq.trans (b:=EV (Ae5 L) L 9 (EC.put (rl [21]) Zx.u.l.u.l.x.x.w.u.r Zx.u.l.u.l.u) (Alc a0 p802_2) (Ala L kk Zx.u.r)) (by kernel_rfl) ((A9q L kk a0 p802_2 Zx.u.l.u.l.x.x.w.u.r).trans (eE (sx_stmt_uses_2 L a0 p802_2 (fun a0 p803_2=>re (A9o L kk a0 p803_2)))))
def sx_stmt_uses_0 [An A (Bp×Bool)](L:Nat)(a0:Int)(nx2:Int→Bool→A):A:=
 (cn (a0 == 1)
 (nx2 a0 (a0 == 1))
 (cn (a0 == 7)
 (nx2 a0 (a0 == 7))
 (cn (a0 == 8)
 (nx2 a0 (a0 == 8))
 (cn (a0 == 12)
 (nx2 a0 (a0 == 12))
 (cn (a0 == 15)
 (nx2 a0 (a0 == 15))
 (cn (a0 == 16)
 (nx2 a0 (a0 == 16))
 (nx2 a0 (a0 == 17))))))))
def Aj0 [An A (Bp×Bool)](a0:Int):A:=sx_stmt_uses_0 L a0 (fun a0 p802_2=>d5 L a0 p802_2)
theorem A9p(a0:Int)(z2:EC):EW (Ae5 L) L 9 (RS Tryz.f210) (EC.put (rl [2,1,2,1,2]) z2 Zx) [I a0] kk= @sx_stmt_uses_0 Prop (anP (Ao3 kk)) L a0 (fun a0 p802_2=>EV (Ae5 L) L 9 z2 (Alc a0 p802_2) (Ala L kk Zx.u.r)):=by kernel_rfl
def Xi(a0:Int):Option (Bp×Bool):=Aj0 L a0
def Bjf:Qi:=E1 (fun(x:Bp×Bool)=> .tup [.agg (Vq x.1),B x.2]) 210 (cI .i64) (Xi L) fun a0 r h=>hF Tryz.func210 (C:=Ae5 L) (oS _) L (fun kk=>Eq.trans (b:=EW (Ae5 L) L 9 (RS Tryz.f210) (EC.put (rl [2,1,2,1,2]) Zx.u.l.u.l.u Zx) [I a0] kk) (by kernel_rfl) ((A9p L kk a0 Zx.u.l.u.l.u).trans (eE (sx_stmt_uses_0 L a0 (fun a0 p802_2=>re (A9n L kk a0 p802_2)))))) h
def Ayr(F:Ab→Ab→Option Bool):Prop:=∀y0 y1 r,F y0 y1=some r→Ho Tryz.prog 192 [Cw.en y0,Cw.en y1] B r
def Bkb:=CC Tryz.f192
def Bem(Du:Ab→Ab→Option Bool)(L:Nat):Bt:=(orc 192 (A2 B Cw Cw Du) (oL []))
theorem Bpj(Du:Ab→Ab→Option Bool)(A51:Ayr Du)(L:Nat):Ed Tryz.prog (Bem Du L):=(Mu (a2 _ A51) (oS []))
def A11(a0:Ab)(a1:Ab)(v:Tu5):St:=⟨[(0,.any),(1,.any),(2,.any),(3,.loc 3 0),(4,B v.1),(36,lv (.t98 a0.Kids)),(37,I (a0.Kids.length:Int)),(38,I v.2)],[(2,(Dc a0)),(3,(Dc a1))],0⟩
def Uk [An A (Nat×Tu5)](Du:Ab→Ab→Option Bool)(L:Nat)(a0:Ab)(a1:Ab)(rec:Bool→Int→A)(Au:Bool)(Am:Int):A:=
 (lw Am a0.Kids
 (gi Am a1.Kids
 (bd (Du (Ab.cp (a0.Kids.getD (Int.toNat Am) default)) (Ab.cp (a1.Kids.getD (Int.toNat Am) default))) fun r4=>
 (cn (!r4)
 (lf (0,false,Am))
 (rec Au (Bi (Am+1))))))
 (lf (1,Au,Am)))
def Kl(Du:Ab→Ab→Option Bool)(L:Nat)(a0:Ab)(a1:Ab):Nat→Bool→Int→Option (Nat×Tu5)
 |0,_,_=>none
 |n+1,Au,Am=>Uk Du L a0 a1 (Kl Du L a0 a1 n) Au Am
theorem Bbl(Du:Ab→Ab→Option Bool)(L:Nat)(K:Ci)(a0:Ab)(a1:Ab):LP (EV (Bem Du L) L 9 Bkb.w.l.u.l.l) [0,1,2,3,4,36,37,38] [2,3] (A11 a0 a1) [.ret,.exit 0] (fun n v=>Kl Du L a0 a1 n v.1 v.2) K:=lE (fun _=>rfl) fun n v ih=>eE (Uk Du L a0 a1 (fun Au Am=>re (ih (Au,Am))) v.1 v.2)
def Qb [An A Bool](Du:Ab→Ab→Option Bool)(L:Nat)(o5:Nat×Tu5):A:=
 (sl o5.1 [(lf o5.2.1),
 (lf true)])
def A0d(Du:Ab→Ab→Option Bool)(L:Nat)(kk:Ep):Ci:=(Bs 0 (Bz (EV (Bem Du L) L 9 Bkb.w.r) (Kb Tryz.prog (RS Tryz.f192) kk)))
theorem Bhr(Du:Ab→Ab→Option Bool)(L:Nat)(kk:Ep)(a0:Ab)(a1:Ab)(o5:Nat×Tu5):kX [.ret,.exit 0] (A11 a0 a1) (A0d Du L kk) o5=ob (Qb Du L o5) (kQ B kk):=eE (Qb Du L o5)
def U6 [An A Bool](Du:Ab→Ab→Option Bool)(L:Nat)(a0:Ab)(a1:Ab)(nx1:A):A:=
 (jp (.cn (a0.Op != a1.Op)
 (.lf true)
 (.lf (!(a0.Name.toList == a1.Name.toList)))) (fun b1=>
 (jp (.cn b1
 (.lf true)
 (.lf (a0.N != a1.N))) (fun b2=>
 (jp (.cn b2
 (.lf true)
 (.lf ((a0.Kids.length:Int) != (a1.Kids.length:Int)))) (fun b3=>
 (cn b3
 (lf false)
 nx1)))))))
def Ajz [An A Bool](Du:Ab→Ab→Option Bool)(L:Nat)(a0:Ab)(a1:Ab):A:=U6 Du L a0 a1 (bd (Kl Du L a0 a1 L false 0) fun o5=>Qb Du L o5)
def Acy(Du:Ab→Ab→Option Bool)(L:Nat)(a0:Ab)(a1:Ab):Option Bool:=Ajz Du L a0 a1
theorem Bn4(Du:Ab→Ab→Option Bool)(A51:Ayr Du)(L:Nat):Ayr (Acy Du L):=fun a0 a1 r h=>hF Tryz.func192 (Bpj Du A51 L) L (fun kk=>eE (U6 Du L a0 a1 (ho (Bbl Du L (A0d Du L kk) a0 a1 L (false,0)) fun o5=>Bhr Du L kk a0 a1 o5))) h
def J0:Nat→Ab→Ab→Option Bool
 |0,_,_=>none
 |L+1,a0,a1=>Acy (J0 L) L a0 a1
theorem A94(L:Nat):Ayr (J0 L):=by
 induction L with
 |zero=>exact fun _ _ _ h=>(by cases h)
 |succ L ih=>
  have i192:=ih
  exact Bn4 (J0 L) i192 L
def Bje(L:Nat):Qi:=E2 B 192 Cw Cw (J0 L) (A94 L)
def Ac7 [An A Bool](a0:Ag)(a1:Bp):A:=
 (jp (.cn a1.u_name
 (.lf true)
 (.lf (a0.Name.toList == (⟨#[]⟩:ByteArray).toList))) (fun b1=>
 (jp (.cn b1
 (.cn a1.u_of
 (.lf true)
 (.lf (a0.Of.toList == (⟨#[]⟩:ByteArray).toList)))
 (.lf false)) (fun b2=>
 (cn b2
 (cn a1.u_e
 (nq (cn a1.u_f
 (nq (jp (.cn a1.u_args
 (.lf true)
 (.lf ((a0.Args.length:Int) == 0))) (fun b3=>
 (cn b3
 (cn a1.u_dist
 (nq (jp (.cn a1.u_flag
 (.lf true)
 (.lf (!a0.Flag))) (fun b4=>
 (jp (.cn b4
 (.cn a1.u_body
 (.lf true)
 (.lf ((a0.Body.length:Int) == 0)))
 (.lf false)) (fun b5=>
 (jp (.cn b5
 (.cn a1.u_other
 (.lf true)
 (.lf ((a0.Else.length:Int) == 0)))
 (.lf false)) (fun b6=>
 (lf b6))))))))
 (bd (Jz L a0.Dist (⟨0,0,0,0,[],[]⟩:Cp)) fun r7=>
 (nq (jp (.cn r7
 (.cn a1.u_flag
 (.lf true)
 (.lf (!a0.Flag)))
 (.lf false)) (fun b8=>
 (jp (.cn b8
 (.cn a1.u_body
 (.lf true)
 (.lf ((a0.Body.length:Int) == 0)))
 (.lf false)) (fun b9=>
 (jp (.cn b9
 (.cn a1.u_other
 (.lf true)
 (.lf ((a0.Else.length:Int) == 0)))
 (.lf false)) (fun b10=>
 (lf b10))))))))))
 (nq (nq (nq (nq (lf false)))))))))
 (bd (J0 L (Ab.cp a0.F) (Ab.mk 0 (⟨#[]⟩:ByteArray) 0 [])) fun r11=>
 (nq (jp (.cn r11
 (.cn a1.u_args
 (.lf true)
 (.lf ((a0.Args.length:Int) == 0)))
 (.lf false)) (fun b12=>
 (cn b12
 (cn a1.u_dist
 (nq (jp (.cn a1.u_flag
 (.lf true)
 (.lf (!a0.Flag))) (fun b13=>
 (jp (.cn b13
 (.cn a1.u_body
 (.lf true)
 (.lf ((a0.Body.length:Int) == 0)))
 (.lf false)) (fun b14=>
 (jp (.cn b14
 (.cn a1.u_other
 (.lf true)
 (.lf ((a0.Else.length:Int) == 0)))
 (.lf false)) (fun b15=>
 (lf b15))))))))
 (bd (Jz L a0.Dist (⟨0,0,0,0,[],[]⟩:Cp)) fun r16=>
 (nq (jp (.cn r16
 (.cn a1.u_flag
 (.lf true)
 (.lf (!a0.Flag)))
 (.lf false)) (fun b17=>
 (jp (.cn b17
 (.cn a1.u_body
 (.lf true)
 (.lf ((a0.Body.length:Int) == 0)))
 (.lf false)) (fun b18=>
 (jp (.cn b18
 (.cn a1.u_other
 (.lf true)
 (.lf ((a0.Else.length:Int) == 0)))
 (.lf false)) (fun b19=>
 (lf b19))))))))))
 (nq (nq (nq (nq (lf false))))))))))))
 (bd (J0 L (Ab.cp a0.E) (Ab.mk 0 (⟨#[]⟩:ByteArray) 0 [])) fun r20=>
 (nq (cn r20
 (cn a1.u_f
 (nq (jp (.cn a1.u_args
 (.lf true)
 (.lf ((a0.Args.length:Int) == 0))) (fun b21=>
 (cn b21
 (cn a1.u_dist
 (nq (jp (.cn a1.u_flag
 (.lf true)
 (.lf (!a0.Flag))) (fun b22=>
 (jp (.cn b22
 (.cn a1.u_body
 (.lf true)
 (.lf ((a0.Body.length:Int) == 0)))
 (.lf false)) (fun b23=>
 (jp (.cn b23
 (.cn a1.u_other
 (.lf true)
 (.lf ((a0.Else.length:Int) == 0)))
 (.lf false)) (fun b24=>
 (lf b24))))))))
 (bd (Jz L a0.Dist (⟨0,0,0,0,[],[]⟩:Cp)) fun r25=>
 (nq (jp (.cn r25
 (.cn a1.u_flag
 (.lf true)
 (.lf (!a0.Flag)))
 (.lf false)) (fun b26=>
 (jp (.cn b26
 (.cn a1.u_body
 (.lf true)
 (.lf ((a0.Body.length:Int) == 0)))
 (.lf false)) (fun b27=>
 (jp (.cn b27
 (.cn a1.u_other
 (.lf true)
 (.lf ((a0.Else.length:Int) == 0)))
 (.lf false)) (fun b28=>
 (lf b28))))))))))
 (nq (nq (nq (nq (lf false)))))))))
 (bd (J0 L (Ab.cp a0.F) (Ab.mk 0 (⟨#[]⟩:ByteArray) 0 [])) fun r29=>
 (nq (jp (.cn r29
 (.cn a1.u_args
 (.lf true)
 (.lf ((a0.Args.length:Int) == 0)))
 (.lf false)) (fun b30=>
 (cn b30
 (cn a1.u_dist
 (nq (jp (.cn a1.u_flag
 (.lf true)
 (.lf (!a0.Flag))) (fun b31=>
 (jp (.cn b31
 (.cn a1.u_body
 (.lf true)
 (.lf ((a0.Body.length:Int) == 0)))
 (.lf false)) (fun b32=>
 (jp (.cn b32
 (.cn a1.u_other
 (.lf true)
 (.lf ((a0.Else.length:Int) == 0)))
 (.lf false)) (fun b33=>
 (lf b33))))))))
 (bd (Jz L a0.Dist (⟨0,0,0,0,[],[]⟩:Cp)) fun r34=>
 (nq (jp (.cn r34
 (.cn a1.u_flag
 (.lf true)
 (.lf (!a0.Flag)))
 (.lf false)) (fun b35=>
 (jp (.cn b35
 (.cn a1.u_body
 (.lf true)
 (.lf ((a0.Body.length:Int) == 0)))
 (.lf false)) (fun b36=>
 (jp (.cn b36
 (.cn a1.u_other
 (.lf true)
 (.lf ((a0.Else.length:Int) == 0)))
 (.lf false)) (fun b37=>
 (lf b37))))))))))
 (nq (nq (nq (nq (lf false)))))))))))
 (nq (nq (nq (nq (nq (nq (lf false)))))))))))
 (nq (nq (nq (nq (nq (nq (nq (lf false)))))))))))))
def Xh(a0:Ag)(a1:Bp):Option Bool:=Ac7 L a0 a1
def Bjg:Qi:=E2 B 211 Aj3 Aj4 (Xh L) fun a0 a1 r h=>hF Tryz.func211 (oS [Bex L,Bje L]) L (fun kk=>eE (Ac7 L a0 a1)) h
end
end Go.Proofs.YthjhkpgonleelaaGreatDoor.Ev
