import Derived.Test.YthjhkpgonleelaaGreatDoorAG0
namespace Go.Proofs.YthjhkpgonleelaaGreatDoor.Ev
open Go An
set_option maxRecDepth 100000
set_option maxHeartbeats 4000000
set_option linter.unusedVariables false
set_option linter.unusedSimpArgs false
set_option linter.unnecessarySimpa false
noncomputable section
variable {A:Type} (L n:Nat) (kk:Cc) (K:Bg) (k:Bu)
def Acy [An A Bool](L:Nat)(a0:Int):A:=
 (jp (.cn (decide (a0≥97))
 (.lf (decide (a0≤122)))
 (.lf false)) (fun b1=>
 (lf b1)))
def Ts(a0:Int):Option Bool:=Acy L a0
def X54:Di:=E1 B 54 (cI .u8) (Ts L) fun a0 r h=>hF Tryz.func54 (oS []) L (fun kk=>eE (Acy L a0)) h
def Aa8 [An A Bool](L:Nat)(a0:ByteArray):A:=
 (cn (a0.toList == (⟨#[97,100,100]⟩:ByteArray).toList)
 (cn (a0.toList == (⟨#[97,100,100]⟩:ByteArray).toList)
 (lf true)
 (lf false))
 (cn (a0.toList == (⟨#[97,102,116,101,114]⟩:ByteArray).toList)
 (cn (a0.toList == (⟨#[97,102,116,101,114]⟩:ByteArray).toList)
 (lf true)
 (lf false))
 (cn (a0.toList == (⟨#[97,110,100]⟩:ByteArray).toList)
 (cn (a0.toList == (⟨#[97,110,100]⟩:ByteArray).toList)
 (lf true)
 (lf false))
 (cn (a0.toList == (⟨#[97,116]⟩:ByteArray).toList)
 (cn (a0.toList == (⟨#[97,116]⟩:ByteArray).toList)
 (lf true)
 (lf false))
 (cn (a0.toList == (⟨#[98,101,108,116]⟩:ByteArray).toList)
 (cn (a0.toList == (⟨#[98,101,108,116]⟩:ByteArray).toList)
 (lf true)
 (lf false))
 (cn (a0.toList == (⟨#[98,111,111,108]⟩:ByteArray).toList)
 (cn (a0.toList == (⟨#[98,111,111,108]⟩:ByteArray).toList)
 (lf true)
 (lf false))
 (cn (a0.toList == (⟨#[99,111,110,115,101,114,118,101]⟩:ByteArray).toList)
 (cn (a0.toList == (⟨#[99,111,110,115,101,114,118,101]⟩:ByteArray).toList)
 (lf true)
 (lf false))
 (cn (a0.toList == (⟨#[99,111,110,115,116]⟩:ByteArray).toList)
 (cn (a0.toList == (⟨#[99,111,110,115,116]⟩:ByteArray).toList)
 (lf true)
 (lf false))
 (cn (a0.toList == (⟨#[99,111,117,110,116]⟩:ByteArray).toList)
 (cn (a0.toList == (⟨#[99,111,117,110,116]⟩:ByteArray).toList)
 (lf true)
 (lf false))
 (cn (a0.toList == (⟨#[99,121,99,108,101]⟩:ByteArray).toList)
 (cn (a0.toList == (⟨#[99,121,99,108,101]⟩:ByteArray).toList)
 (lf true)
 (lf false))
 (cn (a0.toList == (⟨#[100,111,119,110]⟩:ByteArray).toList)
 (cn (a0.toList == (⟨#[100,111,119,110]⟩:ByteArray).toList)
 (lf true)
 (lf false))
 (cn (a0.toList == (⟨#[100,114,97,119]⟩:ByteArray).toList)
 (cn (a0.toList == (⟨#[100,114,97,119]⟩:ByteArray).toList)
 (lf true)
 (lf false))
 (cn (a0.toList == (⟨#[100,117,114]⟩:ByteArray).toList)
 (cn (a0.toList == (⟨#[100,117,114]⟩:ByteArray).toList)
 (lf true)
 (lf false))
 (cn (a0.toList == (⟨#[101,108,115,101]⟩:ByteArray).toList)
 (cn (a0.toList == (⟨#[101,108,115,101]⟩:ByteArray).toList)
 (lf true)
 (lf false))
 (cn (a0.toList == (⟨#[101,110,100]⟩:ByteArray).toList)
 (cn (a0.toList == (⟨#[101,110,100]⟩:ByteArray).toList)
 (lf true)
 (lf false))
 (cn (a0.toList == (⟨#[101,118,101,114,121]⟩:ByteArray).toList)
 (cn (a0.toList == (⟨#[101,118,101,114,121]⟩:ByteArray).toList)
 (lf true)
 (lf false))
 (cn (a0.toList == (⟨#[102,97,108,115,101]⟩:ByteArray).toList)
 (cn (a0.toList == (⟨#[102,97,108,115,101]⟩:ByteArray).toList)
 (lf true)
 (lf false))
 (cn (a0.toList == (⟨#[102,97,117,108,116]⟩:ByteArray).toList)
 (cn (a0.toList == (⟨#[102,97,117,108,116]⟩:ByteArray).toList)
 (lf true)
 (lf false))
 (cn (a0.toList == (⟨#[102,105,102,111]⟩:ByteArray).toList)
 (cn (a0.toList == (⟨#[102,105,102,111]⟩:ByteArray).toList)
 (lf true)
 (lf false))
 (cn (a0.toList == (⟨#[102,114,101,101]⟩:ByteArray).toList)
 (cn (a0.toList == (⟨#[102,114,101,101]⟩:ByteArray).toList)
 (lf true)
 (lf false))
 (cn (a0.toList == (⟨#[102,114,111,109]⟩:ByteArray).toList)
 (cn (a0.toList == (⟨#[102,114,111,109]⟩:ByteArray).toList)
 (lf true)
 (lf false))
 (cn (a0.toList == (⟨#[103,101,111,109]⟩:ByteArray).toList)
 (cn (a0.toList == (⟨#[103,101,111,109]⟩:ByteArray).toList)
 (lf true)
 (lf false))
 (cn (a0.toList == (⟨#[103,101,116]⟩:ByteArray).toList)
 (cn (a0.toList == (⟨#[103,101,116]⟩:ByteArray).toList)
 (lf true)
 (lf false))
 (cn (a0.toList == (⟨#[104,111,108,100]⟩:ByteArray).toList)
 (cn (a0.toList == (⟨#[104,111,108,100]⟩:ByteArray).toList)
 (lf true)
 (lf false))
 (cn (a0.toList == (⟨#[105,102]⟩:ByteArray).toList)
 (cn (a0.toList == (⟨#[105,102]⟩:ByteArray).toList)
 (lf true)
 (lf false))
 (cn (a0.toList == (⟨#[105,110,116]⟩:ByteArray).toList)
 (cn (a0.toList == (⟨#[105,110,116]⟩:ByteArray).toList)
 (lf true)
 (lf false))
 (cn (a0.toList == (⟨#[105,110,116,111]⟩:ByteArray).toList)
 (cn (a0.toList == (⟨#[105,110,116,111]⟩:ByteArray).toList)
 (lf true)
 (lf false))
 (cn (a0.toList == (⟨#[108,101,97,115,116]⟩:ByteArray).toList)
 (cn (a0.toList == (⟨#[108,101,97,115,116]⟩:ByteArray).toList)
 (lf true)
 (lf false))
 (cn (a0.toList == (⟨#[108,101,118,101,108]⟩:ByteArray).toList)
 (cn (a0.toList == (⟨#[108,101,118,101,108]⟩:ByteArray).toList)
 (lf true)
 (lf false))
 (cn (a0.toList == (⟨#[108,105,102,111]⟩:ByteArray).toList)
 (cn (a0.toList == (⟨#[108,105,102,111]⟩:ByteArray).toList)
 (lf true)
 (lf false))
 (cn (a0.toList == (⟨#[108,105,110,107]⟩:ByteArray).toList)
 (cn (a0.toList == (⟨#[108,105,110,107]⟩:ByteArray).toList)
 (lf true)
 (lf false))
 (cn (a0.toList == (⟨#[108,111,99,97,108]⟩:ByteArray).toList)
 (cn (a0.toList == (⟨#[108,111,99,97,108]⟩:ByteArray).toList)
 (lf true)
 (lf false))
 (cn (a0.toList == (⟨#[109,97,120]⟩:ByteArray).toList)
 (cn (a0.toList == (⟨#[109,97,120]⟩:ByteArray).toList)
 (lf true)
 (lf false))
 (cn (a0.toList == (⟨#[109,105,110]⟩:ByteArray).toList)
 (cn (a0.toList == (⟨#[109,105,110]⟩:ByteArray).toList)
 (lf true)
 (lf false))
 (cn (a0.toList == (⟨#[109,111,100,101,108]⟩:ByteArray).toList)
 (cn (a0.toList == (⟨#[109,111,100,101,108]⟩:ByteArray).toList)
 (lf true)
 (lf false))
 (cn (a0.toList == (⟨#[110,111,116]⟩:ByteArray).toList)
 (cn (a0.toList == (⟨#[110,111,116]⟩:ByteArray).toList)
 (lf true)
 (lf false))
 (cn (a0.toList == (⟨#[110,111,119]⟩:ByteArray).toList)
 (cn (a0.toList == (⟨#[110,111,119]⟩:ByteArray).toList)
 (lf true)
 (lf false))
 (cn (a0.toList == (⟨#[111,98,115,101,114,118,101]⟩:ByteArray).toList)
 (cn (a0.toList == (⟨#[111,98,115,101,114,118,101]⟩:ByteArray).toList)
 (lf true)
 (lf false))
 (cn (a0.toList == (⟨#[111,114]⟩:ByteArray).toList)
 (cn (a0.toList == (⟨#[111,114]⟩:ByteArray).toList)
 (lf true)
 (lf false))
 (cn (a0.toList == (⟨#[112,97,114,97,109]⟩:ByteArray).toList)
 (cn (a0.toList == (⟨#[112,97,114,97,109]⟩:ByteArray).toList)
 (lf true)
 (lf false))
 (cn (a0.toList == (⟨#[112,114,101,101,109,112,116]⟩:ByteArray).toList)
 (cn (a0.toList == (⟨#[112,114,101,101,109,112,116]⟩:ByteArray).toList)
 (lf true)
 (lf false))
 (cn (a0.toList == (⟨#[112,114,105,111]⟩:ByteArray).toList)
 (cn (a0.toList == (⟨#[112,114,105,111]⟩:ByteArray).toList)
 (lf true)
 (lf false))
 (cn (a0.toList == (⟨#[112,117,116]⟩:ByteArray).toList)
 (cn (a0.toList == (⟨#[112,117,116]⟩:ByteArray).toList)
 (lf true)
 (lf false))
 (cn (a0.toList == (⟨#[113,117,101,117,101]⟩:ByteArray).toList)
 (cn (a0.toList == (⟨#[113,117,101,117,101]⟩:ByteArray).toList)
 (lf true)
 (lf false))
 (cn (a0.toList == (⟨#[114,101,108,101,97,115,101]⟩:ByteArray).toList)
 (cn (a0.toList == (⟨#[114,101,108,101,97,115,101]⟩:ByteArray).toList)
 (lf true)
 (lf false))
 (cn (a0.toList == (⟨#[114,101,115,111,117,114,99,101]⟩:ByteArray).toList)
 (cn (a0.toList == (⟨#[114,101,115,111,117,114,99,101]⟩:ByteArray).toList)
 (lf true)
 (lf false))
 (cn (a0.toList == (⟨#[114,105,100,101]⟩:ByteArray).toList)
 (cn (a0.toList == (⟨#[114,105,100,101]⟩:ByteArray).toList)
 (lf true)
 (lf false))
 (cn (a0.toList == (⟨#[114,111,117,116,105,110,101]⟩:ByteArray).toList)
 (cn (a0.toList == (⟨#[114,111,117,116,105,110,101]⟩:ByteArray).toList)
 (lf true)
 (lf false))
 (cn (a0.toList == (⟨#[115,101,105,122,101]⟩:ByteArray).toList)
 (cn (a0.toList == (⟨#[115,101,105,122,101]⟩:ByteArray).toList)
 (lf true)
 (lf false))
 (cn (a0.toList == (⟨#[115,101,110,100]⟩:ByteArray).toList)
 (cn (a0.toList == (⟨#[115,101,110,100]⟩:ByteArray).toList)
 (lf true)
 (lf false))
 (cn (a0.toList == (⟨#[115,101,116]⟩:ByteArray).toList)
 (cn (a0.toList == (⟨#[115,101,116]⟩:ByteArray).toList)
 (lf true)
 (lf false))
 (cn (a0.toList == (⟨#[115,104,105,102,116]⟩:ByteArray).toList)
 (cn (a0.toList == (⟨#[115,104,105,102,116]⟩:ByteArray).toList)
 (lf true)
 (lf false))
 (cn (a0.toList == (⟨#[115,105,103,110,97,108]⟩:ByteArray).toList)
 (cn (a0.toList == (⟨#[115,105,103,110,97,108]⟩:ByteArray).toList)
 (lf true)
 (lf false))
 (cn (a0.toList == (⟨#[115,105,116,101]⟩:ByteArray).toList)
 (cn (a0.toList == (⟨#[115,105,116,101]⟩:ByteArray).toList)
 (lf true)
 (lf false))
 (cn (a0.toList == (⟨#[115,105,122,101]⟩:ByteArray).toList)
 (cn (a0.toList == (⟨#[115,105,122,101]⟩:ByteArray).toList)
 (lf true)
 (lf false))
 (cn (a0.toList == (⟨#[115,112,97,119,110]⟩:ByteArray).toList)
 (cn (a0.toList == (⟨#[115,112,97,119,110]⟩:ByteArray).toList)
 (lf true)
 (lf false))
 (cn (a0.toList == (⟨#[115,116,97,114,116]⟩:ByteArray).toList)
 (cn (a0.toList == (⟨#[115,116,97,114,116]⟩:ByteArray).toList)
 (lf true)
 (lf false))
 (cn (a0.toList == (⟨#[115,116,111,112]⟩:ByteArray).toList)
 (cn (a0.toList == (⟨#[115,116,111,112]⟩:ByteArray).toList)
 (lf true)
 (lf false))
 (cn (a0.toList == (⟨#[115,116,111,114,101]⟩:ByteArray).toList)
 (cn (a0.toList == (⟨#[115,116,111,114,101]⟩:ByteArray).toList)
 (lf true)
 (lf false))
 (cn (a0.toList == (⟨#[115,116,114,101,97,109]⟩:ByteArray).toList)
 (cn (a0.toList == (⟨#[115,116,114,101,97,109]⟩:ByteArray).toList)
 (lf true)
 (lf false))
 (cn (a0.toList == (⟨#[115,117,109]⟩:ByteArray).toList)
 (cn (a0.toList == (⟨#[115,117,109]⟩:ByteArray).toList)
 (lf true)
 (lf false))
 (cn (a0.toList == (⟨#[116,97,98,108,101]⟩:ByteArray).toList)
 (cn (a0.toList == (⟨#[116,97,98,108,101]⟩:ByteArray).toList)
 (lf true)
 (lf false))
 (cn (a0.toList == (⟨#[116,97,108,108,121]⟩:ByteArray).toList)
 (cn (a0.toList == (⟨#[116,97,108,108,121]⟩:ByteArray).toList)
 (lf true)
 (lf false))
 (cn (a0.toList == (⟨#[116,105,99,107,115]⟩:ByteArray).toList)
 (cn (a0.toList == (⟨#[116,105,99,107,115]⟩:ByteArray).toList)
 (lf true)
 (lf false))
 (cn (a0.toList == (⟨#[116,105,109,101]⟩:ByteArray).toList)
 (cn (a0.toList == (⟨#[116,105,109,101]⟩:ByteArray).toList)
 (lf true)
 (lf false))
 (cn (a0.toList == (⟨#[116,114,117,101]⟩:ByteArray).toList)
 (cn (a0.toList == (⟨#[116,114,117,101]⟩:ByteArray).toList)
 (lf true)
 (lf false))
 (cn (a0.toList == (⟨#[117,110,105,102,111,114,109]⟩:ByteArray).toList)
 (cn (a0.toList == (⟨#[117,110,105,102,111,114,109]⟩:ByteArray).toList)
 (lf true)
 (lf false))
 (cn (a0.toList == (⟨#[117,110,116,105,108]⟩:ByteArray).toList)
 (cn (a0.toList == (⟨#[117,110,116,105,108]⟩:ByteArray).toList)
 (lf true)
 (lf false))
 (cn (a0.toList == (⟨#[117,112]⟩:ByteArray).toList)
 (cn (a0.toList == (⟨#[117,112]⟩:ByteArray).toList)
 (lf true)
 (lf false))
 (cn (a0.toList == (⟨#[118,97,114]⟩:ByteArray).toList)
 (cn (a0.toList == (⟨#[118,97,114]⟩:ByteArray).toList)
 (lf true)
 (lf false))
 (cn (a0.toList == (⟨#[119,97,105,116]⟩:ByteArray).toList)
 (cn (a0.toList == (⟨#[119,97,105,116]⟩:ByteArray).toList)
 (lf true)
 (lf false))
 (cn (a0.toList == (⟨#[119,97,105,116,105,110,103]⟩:ByteArray).toList)
 (cn (a0.toList == (⟨#[119,97,105,116,105,110,103]⟩:ByteArray).toList)
 (lf true)
 (lf false))
 (cn (a0.toList == (⟨#[119,104,105,108,101]⟩:ByteArray).toList)
 (lf true)
 (lf false))))))))))))))))))))))))))))))))))))))))))))))))))))))))))))))))))))))))))
def Aa5(a0:ByteArray):Option Bool:=Aa8 L a0
def X55:Di:=E1 B 55 cS (Aa5 L) fun a0 r h=>hF Tryz.func55 (oS []) L (fun kk=>eE (Aa8 L a0)) h
def c35:=CC Tryz.f35
def O35:Bi:=oL [X54 L,X55 L]
def Bd1(a0:ByteArray)(v:C8):St:=⟨[(0,S a0),(2,I v.1),(23,I (a0.size:Int)),(24,I v.2)],[],0⟩
def f9 [An A Cq](a0:ByteArray)(rec:Int→Int→A)(Aw:Int)(Ag:Int):A:=
 (cn (decide (Ag < (a0.size:Int)))
 (cn ((if 0≤Ag then a0[Int.toNat Ag]? else none).isSome)
 (bd (Ts L (Lq (if 0≤Ag then a0[Int.toNat Ag]? else none))) fun r6=>
 (jp (.cn (!r6)
 (.cn (decide ((Lq (if 0≤Ag then a0[Int.toNat Ag]? else none)) < 48))
 (.lf true)
 (.lf (decide ((Lq (if 0≤Ag then a0[Int.toNat Ag]? else none)) > 57))))
 (.lf false)) (fun b7=>
 (jp (.cn b7
 (.lf ((Lq (if 0≤Ag then a0[Int.toNat Ag]? else none)) != 95))
 (.lf false)) (fun b8=>
 (cn b8
 (lf (0,3,Ag))
 (rec Aw (Bo (Ag+1)))))))))
 fl)
 (lf (1,Aw,Ag)))
def Oo(L:Nat)(a0:ByteArray):Nat→Int→Int→Option Cq
 |0,_,_=>none
 |n+1,Aw,Ag=>f9 L a0 (Oo L a0 n) Aw Ag
theorem Bn9(a0:ByteArray):LP (EV (O35 L) L 9 c35.w.l.u.l.l) [0,2,23,24] [] (Bd1 a0) [.ret,.exit 0] (fun n v=>Oo L a0 n v.1 v.2) K:=lE (fun _=>rfl) fun n v ih=>eE (f9 L a0 (fun Aw Ag=>re (ih (Aw,Ag))) v.1 v.2)
def Pz [An A Int](L:Nat)(o9:Nat×C8):A:=
 (sl o9.1 [(lf o9.2.1),
 (lf 0)])
def Bbv:Bg:=(Bb 0 (Bp (EV (O35 L) L 9 c35.w.r) (Ct Tryz.prog (RS Tryz.f35) kk)))
theorem Bwb(a0:ByteArray)(o9:Nat×C8):kX [.ret,.exit 0] (Bd1 a0) (Bbv L kk) o9=ob (Pz L o9) (kQ I kk):=eE (Pz L o9)
def u4 [An A Int](a0:ByteArray)(nx1:A):A:=
 (jp (.cn (a0.toList == (⟨#[]⟩:ByteArray).toList)
 (.lf true)
 (.lf (decide ((a0.size:Int) > 24)))) (fun b1=>
 (jb (.cn b1
 (.lf true)
 (.cn ((if 0≤0 then a0[Int.toNat 0]? else none).isSome)
 (.bd (Ts L (Lq (if 0≤0 then a0[Int.toNat 0]? else none))) fun r3=>
 (.lf (!r3)))
 .fl)) (fun b2=>
 (jb (.cn b2
 (.lf true)
 (.bd (Aa5 L a0) fun r5=>
 (.lf r5))) (fun b4=>
 (cn b4
 (lf 3)
 nx1)))))))
def Ars [An A Int](a0:ByteArray):A:=u4 L a0 (bd (Oo L a0 L 0 0) fun o9=>Pz L o9)
def Cy(a0:ByteArray):Option Int:=Ars L a0
def X35:Di:=E1 I 35 cS (Cy L) fun a0 r h=>hF Tryz.func35 (C:=O35 L) (oS _) L (fun kk=>eE (u4 L a0 (ho (Bn9 L (Bbv L kk) a0 L (0,0)) fun o9=>Bwb L kk a0 o9))) h
def Af2 [An A Bool](L:Nat)(a0:Int):A:=
 (jp (.cn (decide (a0≥1))
 (.lf (decide (a0≤3)))
 (.lf false)) (fun b1=>
 (lf b1)))
def P2(a0:Int):Option Bool:=Af2 L a0
def Bfl:Di:=E1 B 146 (cI .i64) (P2 L) fun a0 r h=>hF Tryz.func146 (oS []) L (fun kk=>eE (Af2 L a0)) h
def Awq [An A Bool](L:Nat)(a0:Int):A:=
 (jp (.cn (decide (a0≥(-1000000000000)))
 (.lf (decide (a0≤1000000000000)))
 (.lf false)) (fun b1=>
 (lf b1)))
def Acm(a0:Int):Option Bool:=Awq L a0
def Bfo:Di:=E1 B 158 (cI .i64) (Acm L) fun a0 r h=>hF Tryz.func158 (oS []) L (fun kk=>eE (Awq L a0)) h
def Acx [An A Bool](L:Nat)(a0:Int)(a1:Int)(a2:Int):A:=
 (jp (.cn (decide (a0≥a1))
 (.lf (decide (a0≤a2)))
 (.lf false)) (fun b1=>
 (lf b1)))
def Br(a0:Int)(a1:Int)(a2:Int):Option Bool:=Acx L a0 a1 a2
def X95:Di:=E3 B 95 (cI .i64) (cI .i64) (cI .i64) (Br L) fun a0 a1 a2 r h=>hF Tryz.func95 (oS []) L (fun kk=>eE (Acx L a0 a1 a2)) h
def Ai3 [An A Bool](a0:Int)(a1:Int):A:=
 (cn (a0 == 1)
 (bd (Acm L a1) fun r1=>
 (lf r1))
 (cn (a0 == 2)
 (jp (.cn (a1 == 0)
 (.lf true)
 (.lf (a1 == 1))) (fun b2=>
 (lf b2)))
 (cn (a0 == 3)
 (bd (Br L a1 0 1000000000) fun r3=>
 (lf r3))
 (lf false))))
def S2(a0:Int)(a1:Int):Option Bool:=Ai3 L a0 a1
def Bfm:Di:=E2 B 147 (cI .i64) (cI .i64) (S2 L) fun a0 a1 r h=>hF Tryz.func147 (oS [X95 L,Bfo L]) L (fun kk=>eE (Ai3 L a0 a1)) h
def c96:=CC Tryz.f96
def O96:Bi:=oL [X95 L]
def Bek(a0:Ah)(v:C8):St:=⟨[(0,.any),(1,.loc 1 0),(2,I v.1),(12,.any),(17,.any),(23,lv (.t216 a0.Shift)),(24,I (a0.Shift.length:Int)),(25,I v.2)],[(1,(B5 a0))],0⟩
def Sw [An A Cq](a0:Ah)(rec:Int→Int→A)(Ar:Int)(Ag:Int):A:=
 (lw Ag a0.Shift
 (bd (Br L ((a0.Shift.getD (Int.toNat Ag) default).At) 0 (Bo (a0.Cycle - 1))) fun r2=>
 (cn (!r2)
 (cn (!r2)
 (lf (0,2,Ag))
 (cn (decide (Ag > 0))
 (gi (Bo (Ag - 1)) a0.Shift
 (cn (decide ((a0.Shift.getD (Int.toNat Ag) default).At≤(a0.Shift.getD (Int.toNat (Bo (Ag - 1))) default).At))
 (lf (0,12,Ag))
 (rec Ar (Bo (Ag+1)))))
 (rec Ar (Bo (Ag+1)))))
 (bd (Br L ((a0.Shift.getD (Int.toNat Ag) default).Units) 0 1000) fun r3=>
 (cn (!r3)
 (lf (0,2,Ag))
 (cn (decide (Ag > 0))
 (gi (Bo (Ag - 1)) a0.Shift
 (cn (decide ((a0.Shift.getD (Int.toNat Ag) default).At≤(a0.Shift.getD (Int.toNat (Bo (Ag - 1))) default).At))
 (lf (0,12,Ag))
 (rec Ar (Bo (Ag+1)))))
 (rec Ar (Bo (Ag+1))))))))
 (lf (1,Ar,Ag)))
def Ks(L:Nat)(a0:Ah):Nat→Int→Int→Option Cq
 |0,_,_=>none
 |n+1,Ar,Ag=>Sw L a0 (Ks L a0 n) Ar Ag
theorem Bo4(a0:Ah):LP (EV (O96 L) L 9 c96.w.u.l.u.l.l) [0,1,2,12,17,23,24,25] [1] (Bek a0) [.ret,.exit 1] (fun n v=>Ks L a0 n v.1 v.2) K:=lE (fun _=>rfl) fun n v ih=>eE (Sw L a0 (fun Ar Ag=>re (ih (Ar,Ag))) v.1 v.2)
def Ku [An A Int](L:Nat)(o4:Nat×C8):A:=
 (sl o4.1 [(lf o4.2.1),
 (lf 0)])
def Bcu:Bg:=(Bb 1 (Bp (EV (O96 L) L 9 c96.w.u.r) (Ct Tryz.prog (RS Tryz.f96) kk)))
theorem Bxa(a0:Ah)(o4:Nat×C8):kX [.ret,.exit 1] (Bek a0) (Bcu L kk) o4=ob (Ku L o4) (kQ I kk):=eE (Ku L o4)
def Sz [An A Int](a0:Ah)(nx1:A):A:=
 (cn ((a0.Shift.length:Int) == 0)
 (cn (a0.Cycle != 0)
 (lf 1)
 (lf 0))
 (cn (decide ((a0.Shift.length:Int) > 20))
 (lf 6)
 (bd (Br L a0.Cycle 1 1000000000) fun r1=>
 (cn (!r1)
 (lf 2)
 nx1))))
def Akb [An A Int](a0:Ah):A:=Sz L a0 (bd (Ks L a0 L 0 0) fun o4=>Ku L o4)
def Yw(a0:Ah):Option Int:=Akb L a0
def X96:Di:=E1 I 96 Kq (Yw L) fun a0 r h=>hF Tryz.func96 (C:=O96 L) (oS _) L (fun kk=>eE (Sz L a0 (ho (Bo4 L (Bcu L kk) a0 L (0,0)) fun o4=>Bxa L kk a0 o4))) h
def c29:=CC Tryz.f29
def O29(L:Nat):Bi:=oL []
def Bdu(a0:List Int)(a1:List Int)(v:N2):St:=⟨[(0,lv (.t3 a0)),(1,lv (.t3 a1)),(4,B v.1),(12,I (a0.length:Int)),(13,I v.2)],[],0⟩
def Gs [An A (Nat×N2)](L:Nat)(a0:List Int)(a1:List Int)(rec:Bool→Int→A)(Ao:Bool)(Ae:Int):A:=
 (lw Ae a0
 (gi Ae a1
 (cn ((a0.getD (Int.toNat Ae) default) != (a1.getD (Int.toNat Ae) default))
 (lf (0,false,Ae))
 (rec Ao (Bo (Ae+1)))))
 (lf (1,Ao,Ae)))
def Dg(L:Nat)(a0:List Int)(a1:List Int):Nat→Bool→Int→Option (Nat×N2)
 |0,_,_=>none
 |n+1,Ao,Ae=>Gs L a0 a1 (Dg L a0 a1 n) Ao Ae
theorem Bn1(a0:List Int)(a1:List Int):LP (EV (O29 L) L 9 c29.w.l.u.l.l) [0,1,4,12,13] [] (Bdu a0 a1) [.ret,.exit 0] (fun n v=>Dg L a0 a1 n v.1 v.2) K:=lE (fun _=>rfl) fun n v ih=>eE (Gs L a0 a1 (fun Ao Ae=>re (ih (Ao,Ae))) v.1 v.2)
def Es [An A Bool](L:Nat)(o1:Nat×N2):A:=
 (sl o1.1 [(lf o1.2.1),
 (lf true)])
def Bbn:Bg:=(Bb 0 (Bp (EV (O29 L) L 9 c29.w.r) (Ct Tryz.prog (RS Tryz.f29) kk)))
theorem Bv3(a0:List Int)(a1:List Int)(o1:Nat×N2):kX [.ret,.exit 0] (Bdu a0 a1) (Bbn L kk) o1=ob (Es L o1) (kQ B kk):=eE (Es L o1)
def Gt [An A Bool](L:Nat)(a0:List Int)(a1:List Int)(nx1:A):A:=
 (cn ((a0.length:Int) != (a1.length:Int))
 (lf false)
 nx1)
def T0 [An A Bool](a0:List Int)(a1:List Int):A:=Gt L a0 a1 (bd (Dg L a0 a1 L false 0) fun o1=>Es L o1)
def Df(a0:List Int)(a1:List Int):Option Bool:=T0 L a0 a1
def X29:Di:=E2 B 29 cl3 cl3 (Df L) fun a0 a1 r h=>hF Tryz.func29 (C:=O29 L) (oS _) L (fun kk=>eE (Gt L a0 a1 (ho (Bn1 L (Bbn L kk) a0 a1 L (false,0)) fun o1=>Bv3 L kk a0 a1 o1))) h
def Amy [An A Bool](a0:B8)(a1:B8):A:=
 (jp (.cn (a0.Op == a1.Op)
 (.lf (a0.A == a1.A))
 (.lf false)) (fun b1=>
 (jp (.cn b1
 (.lf (a0.B == a1.B))
 (.lf false)) (fun b2=>
 (jp (.cn b2
 (.lf (a0.N == a1.N))
 (.lf false)) (fun b3=>
 (jb (.cn b3
 (.bd (Df L a0.Values a1.Values) fun r5=>
 (.lf r5))
 (.lf false)) (fun b4=>
 (jb (.cn b4
 (.bd (Df L a0.Weights a1.Weights) fun r7=>
 (.lf r7))
 (.lf false)) (fun b6=>
 (lf b6)))))))))))
def H3(a0:B8)(a1:B8):Option Bool:=Amy L a0 a1
def Bfn:Di:=E2 B 148 He He (H3 L) fun a0 a1 r h=>hF Tryz.func148 (oS [X29 L]) L (fun kk=>eE (Amy L a0 a1)) h
def Buh:=CC Tryz.f183
def Blk(L:Nat):Bi:=oL []
def A6q(a0:List ByteArray)(a1:ByteArray)(v:C8):St:=⟨[(0,lv (.t9 a0)),(1,S a1),(4,I v.1),(7,I (a0.length:Int)),(8,I v.2)],[],0⟩
def K1 [An A Cq](L:Nat)(a0:List ByteArray)(a1:ByteArray)(rec:Int→Int→A)(Ao:Int)(Ae:Int):A:=
 (lw Ae a0
 (cn (a1.toList == (a0.getD (Int.toNat Ae) default).toList)
 (lf (0,Ae,Ae))
 (rec Ao (Bo (Ae+1))))
 (lf (1,Ao,Ae)))
def Hr(L:Nat)(a0:List ByteArray)(a1:ByteArray):Nat→Int→Int→Option Cq
 |0,_,_=>none
 |n+1,Ao,Ae=>K1 L a0 a1 (Hr L a0 a1 n) Ao Ae
theorem Biw(a0:List ByteArray)(a1:ByteArray):LP (EV (Blk L) L 9 Buh.u.l.u.l.l) [0,1,4,7,8] [] (A6q a0 a1) [.ret,.exit 0] (fun n v=>Hr L a0 a1 n v.1 v.2) K:=lE (fun _=>rfl) fun n v ih=>eE (K1 L a0 a1 (fun Ao Ae=>re (ih (Ao,Ae))) v.1 v.2)
def Ht [An A Int](L:Nat)(o1:Nat×C8):A:=
 (sl o1.1 [(lf o1.2.1),
 (lf (-1))])
def A4d:Bg:=(Bb 0 (Bp (EV (Blk L) L 9 Buh.u.r) (Ct Tryz.prog (RS Tryz.f183) kk)))
theorem Bp9(a0:List ByteArray)(a1:ByteArray)(o1:Nat×C8):kX [.ret,.exit 0] (A6q a0 a1) (A4d L kk) o1=ob (Ht L o1) (kQ I kk):=eE (Ht L o1)
def Ab8 [An A Int](a0:List ByteArray)(a1:ByteArray):A:=(bd (Hr L a0 a1 L 0 0) fun o1=>Ht L o1)
def N1(a0:List ByteArray)(a1:ByteArray):Option Int:=Ab8 L a0 a1
def Bs6:Di:=E2 I 183 cl9 cS (N1 L) fun a0 a1 r h=>hF Tryz.func183 (C:=Blk L) (oS _) L (fun kk=>eE ((ho (Biw L (A4d L kk) a0 a1 L (0,0)) fun o1=>Bp9 L kk a0 a1 o1))) h
def Ky [An A Bool](a0:List ByteArray)(a1:ByteArray):A:=
 (bd (N1 L a0 a1) fun r1=>
 (lf (decide (r1≥0))))
def B7(a0:List ByteArray)(a1:ByteArray):Option Bool:=Ky L a0 a1
def Bl1:Di:=E2 B 149 cl9 cS (B7 L) fun a0 a1 r h=>hF Tryz.func149 (oS [Bs6 L]) L (fun kk=>eE (Ky L a0 a1)) h
def Af0 [An A Bool](L:Nat)(a0:B8):A:=
 (cn (a0.Op == 1)
 (jp (.cn ((Bo ((a0.Values.length:Int)+(a0.Weights.length:Int))) == 0)
 (.lf (a0.B == 0))
 (.lf false)) (fun b1=>
 (jp (.cn b1
 (.lf (a0.N == 0))
 (.lf false)) (fun b2=>
 (lf b2)))))
 (cn (a0.Op == 2)
 (cn (a0.Op == 2)
 (jp (.cn ((Bo ((a0.Values.length:Int)+(a0.Weights.length:Int))) == 0)
 (.lf (a0.N == 0))
 (.lf false)) (fun b3=>
 (lf b3)))
 (cn (a0.Op == 4)
 (lf ((Bo ((a0.Values.length:Int)+(a0.Weights.length:Int))) == 0))
 (cn (a0.Op == 3)
 (jp (.cn (a0.A == 0)
 (.lf (a0.B == 0))
 (.lf false)) (fun b4=>
 (jp (.cn b4
 (.lf (a0.N == 0))
 (.lf false)) (fun b5=>
 (lf b5)))))
 (lf false))))
 (cn (a0.Op == 5)
 (jp (.cn ((Bo ((a0.Values.length:Int)+(a0.Weights.length:Int))) == 0)
 (.lf (a0.N == 0))
 (.lf false)) (fun b6=>
 (lf b6)))
 (cn (a0.Op == 4)
 (lf ((Bo ((a0.Values.length:Int)+(a0.Weights.length:Int))) == 0))
 (cn (a0.Op == 3)
 (jp (.cn (a0.A == 0)
 (.lf (a0.B == 0))
 (.lf false)) (fun b7=>
 (jp (.cn b7
 (.lf (a0.N == 0))
 (.lf false)) (fun b8=>
 (lf b8)))))
 (lf false))))))
def Afr(a0:B8):Option Bool:=Af0 L a0
def Bsw:Di:=E1 B 168 He (Afr L) fun a0 r h=>hF Tryz.func168 (oS []) L (fun kk=>eE (Af0 L a0)) h
def Bur:=CC Tryz.f197
def Buw:=CC Tryz.f215
def Bua:=CC Tryz.f169
def Ari(L:Nat):Bi:=oL []
def A6i(p1_0:List Int)(p1_1:Int)(p1_2:Int)(v:C8):St:=⟨[(0,lv (.t3 p1_0)),(1,.clo 198 0 [.loc 3 0,.loc 4 0]),(4,I v.1),(7,I (p1_0.length:Int)),(8,I v.2)],[(3,[I p1_1]),(4,[I p1_2])],1005⟩
def d8 [An A Cq](L:Nat)(p1_0:List Int)(p1_1:Int)(p1_2:Int)(rec:Int→Int→A)(Aw:Int)(Ag:Int):A:=
 (lw Ag p1_0
 (jp (.cn (decide ((p1_0.getD (Int.toNat Ag) default) < p1_1))
 (.lf true)
 (.lf (decide ((p1_0.getD (Int.toNat Ag) default) > p1_2)))) (fun b1=>
 (cn b1
 (lf (0,Ag,Ag))
 (rec Aw (Bo (Ag+1))))))
 (lf (1,Aw,Ag)))
def Om(L:Nat)(p1_0:List Int)(p1_1:Int)(p1_2:Int):Nat→Int→Int→Option Cq
 |0,_,_=>none
 |n+1,Aw,Ag=>d8 L p1_0 p1_1 p1_2 (Om L p1_0 p1_1 p1_2 n) Aw Ag
theorem Bin(p1_0:List Int)(p1_1:Int)(p1_2:Int):LP (EV (Ari L) L 7 Buw.u.l.u.l.l) [0,1,4,7,8] [3,4] (A6i p1_0 p1_1 p1_2) [.ret,.exit 0] (fun n v=>Om L p1_0 p1_1 p1_2 n v.1 v.2) K:=lE (fun _=>rfl) fun n v ih=>eE (d8 L p1_0 p1_1 p1_2 (fun Aw Ag=>re (ih (Aw,Ag))) v.1 v.2)
def Atk(p1_0:List Int)(p1_1:Int)(p1_2:Int)(k:Bu):Int→Prop:=fun o=>k (I o) [(3,[I p1_1]),(4,[I p1_2])]
def O3 [An A Int](L:Nat)(o2:Nat×C8):A:=
 (sl o2.1 [(lf o2.2.1),
 (lf (-1))])
def A34:Bg:=(Bb 0 (Bp (EV (Ari L) L 7 Buw.u.r) (Cx Tryz.prog (RS Tryz.f215) k)))
theorem Bp0(p1_0:List Int)(p1_1:Int)(p1_2:Int)(o2:Nat×C8):kX [.ret,.exit 0] (A6i p1_0 p1_1 p1_2) (A34 L k) o2=ob (O3 L o2) (Atk p1_0 p1_1 p1_2 k):=eE (O3 L o2)
def Akl [An A Int](p1_0:List Int)(p1_1:Int)(p1_2:Int):A:=(bd (Om L p1_0 p1_1 p1_2 L 0 0) fun o2=>O3 L o2)
def Zj(p1_0:List Int)(p1_1:Int)(p1_2:Int):Option Int:=Akl L p1_0 p1_1 p1_2
theorem Bhk(p1_0:List Int)(p1_1:Int)(p1_2:Int):YO (Ari L) L 8 215 [lv (.t3 p1_0),.clo 198 0 [.loc 3 0,.loc 4 0]] [(3,[I p1_1]),(4,[I p1_2])] k=ob (Zj L p1_0 p1_1 p1_2) (Atk p1_0 p1_1 p1_2 k):=(Cu _ _ _ Xu _ _ _ _ _ _ _).trans (eE ((ho (Bin L (A34 L k) p1_0 p1_1 p1_2 L (0,0)) fun o2=>Bp0 L k p1_0 p1_1 p1_2 o2)))
def O5 [An A Bool](L:Nat)(o3:Int):A:=
 (lf (!(decide (o3≥0))))
def A35(a2:List Int)(a0:Int)(a1:Int):Bu:=(B2 Tryz.prog (Ari L) (EI (Ari L) L 8) 2 (List.drop 3 Bur.u.l.ops) ⟨[(6,.clo 198 0 [.loc 3 0,.loc 4 0]),(5,lv (.t3 a2)),(0,lv (.t3 a2)),(1,.clo 198 0 [.loc 3 0,.loc 4 0]),(4,B false)],[(3,[I a0]),(4,[I a1])],1005⟩ (some 7) (fun st9=>(Bp (EV (Ari L) L 8 Bur.u.r) (Cx Tryz.prog (RS Tryz.f197) (B2 Tryz.prog (Ari L) (EI (Ari L) L 9) 2 (List.drop 3 Bua.u.l.ops) ⟨[(8,.clo 198 0 [.loc 3 0,.loc 4 0]),(7,lv (.t3 a2)),(2,lv (.t3 a2)),(3,.loc 3 0),(4,.loc 4 0),(6,B false)],[(3,[I a0]),(4,[I a1])],0⟩ (some 9) (fun st9=>(Bp (EV (Ari L) L 9 Bua.u.r) (Ct Tryz.prog (RS Tryz.f169) kk)) .normal st9)))) .normal st9))
theorem Bp1(a2:List Int)(a0:Int)(a1:Int)(o3:Int):Atk a2 a0 a1 (A35 L kk a2 a0 a1) o3=ob (O5 L o3) (kQ B kk):=eE (O5 L o3)
def Aro [An A Bool](a0:Int)(a1:Int)(a2:List Int):A:=(bd (Zj L a2 a0 a1) fun o3=>O5 L o3)
def Gd(a0:Int)(a1:Int)(a2:List Int):Option Bool:=Aro L a0 a1 a2
def Bsx:Di:=E3 B 169 (cI .i64) (cI .i64) cl3 (Gd L) fun a0 a1 a2 r h=>hF Tryz.func169 (C:=Ari L) (oS _) L (fun kk=>eE ((ho (Bhk L (A35 L kk a2 a0 a1) a2 a0 a1) fun o3=>Bp1 L kk a2 a0 a1 o3))) h
def Ai0 [An A Int](a0:B8):A:=
 (bd (Afr L a0) fun r1=>
 (cn (!r1)
 (lf 1)
 (cn (a0.Op == 1)
 (bd (Gd L 0 1000000000 [a0.A]) fun r2=>
 (cn (!r2)
 (lf 2)
 (lf 0)))
 (cn (a0.Op == 2)
 (bd (Gd L 0 1000000000 [a0.A,a0.B]) fun r3=>
 (jp (.cn r3
 (.lf (decide (a0.A≤a0.B)))
 (.lf false)) (fun b4=>
 (cn (!b4)
 (lf 2)
 (lf 0)))))
 (cn (a0.Op == 4)
 (bd (Gd L 1 20 [a0.N]) fun r5=>
 (cn r5
 (jb (.bd (Gd L 0 1000000 [a0.A,a0.B]) fun r7=>
 (.lf r7)) (fun b6=>
 (jp (.cn b6
 (.lf (decide (a0.A≤a0.B)))
 (.lf false)) (fun b8=>
 (cn (!b8)
 (lf 2)
 (lf 0))))))
 (nq (nq (lf 2)))))
 (cn (a0.Op == 5)
 (bd (Gd L 1 1000 [a0.A,a0.B]) fun r9=>
 (cn (!r9)
 (lf 2)
 (lf 0)))
 (cn (a0.Op == 3)
 (cn ((a0.Values.length:Int) != (a0.Weights.length:Int))
 (lf 8)
 (cn ((a0.Values.length:Int) == 0)
 (lf 7)
 (cn (decide ((a0.Values.length:Int) > 20))
 (lf 6)
 (bd (Gd L 0 1000000000 a0.Values) fun r10=>
 (jb (.cn r10
 (.bd (Gd L 1 1000 a0.Weights) fun r12=>
 (.lf r12))
 (.lf false)) (fun b11=>
 (cn (!b11)
 (lf 2)
 (lf 0))))))))
 (lf 2))))))))
def F9(a0:B8):Option Int:=Ai0 L a0
def Bfi:Di:=E1 I 129 He (F9 L) fun a0 r h=>hF Tryz.func129 (oS [Bsw L,Bsx L]) L (fun kk=>eE (Ai0 L a0)) h
def Y2 [An A Int](a0:Aa)(a1:J5):A:=
 (cn (a1.Stream.toList == (⟨#[]⟩:ByteArray).toList)
 (bd (H3 L a1.Up (⟨0,0,0,0,[],[]⟩:B8)) fun r1=>
 (cn (!r1)
 (nq (lf 1))
 (bd (H3 L a1.Down (⟨0,0,0,0,[],[]⟩:B8)) fun r2=>
 (nq (cn (!r2)
 (lf 1)
 (cn (a1.Stream.toList == (⟨#[]⟩:ByteArray).toList)
 (lf 0)
 (bd (B7 L a0.Streams a1.Stream) fun r3=>
 (cn (!r3)
 (lf 5)
 (bd (F9 L a1.Up) fun r4=>
 (cn (r4 != 0)
 (lf r4)
 (bd (F9 L a1.Down) fun r5=>
 (lf r5))))))))))))
 (nq (cn (a1.Stream.toList == (⟨#[]⟩:ByteArray).toList)
 (lf 0)
 (bd (B7 L a0.Streams a1.Stream) fun r6=>
 (cn (!r6)
 (lf 5)
 (bd (F9 L a1.Up) fun r7=>
 (cn (r7 != 0)
 (lf r7)
 (bd (F9 L a1.Down) fun r8=>
 (lf r8)))))))))
def Yv(a0:Aa)(a1:J5):Option Int:=Y2 L a0 a1
def X97:Di:=E2 I 97 Cs Aul (Yv L) fun a0 a1 r h=>hF Tryz.func97 (oS [Bfi L,Bfn L,Bl1 L]) L (fun kk=>eE (Y2 L a0 a1)) h
def Bfu:=CC Tryz.f150
def A9k(L:Nat):Bi:=oL []
def Bkp:(List Bs)→Prop:=fun x=>kk ((fun(x:List Bs)=>lv (.t200 x)) x)
def A6e(a0:List (List Bs))(v:C8):St:=⟨[(0,lv (.t90 a0)),(2,.lst true (.t200 [])),(3,I v.1),(6,.any),(8,.any),(9,lv (.t90 a0)),(10,I (a0.length:Int)),(11,I v.2),(27,.any)],[],0⟩
def Io [An A Cq](L:Nat)(a0:List (List Bs))(rec:Int→Int→A)(Ao:Int)(Avv:Int):A:=
 (lw Avv a0
 (cn (decide ((Bo (Ao+((a0.getD (Int.toNat Avv) default).length:Int))) < 0))
 fl
 (rec (Bo (Ao+((a0.getD (Int.toNat Avv) default).length:Int))) (Bo (Avv+1))))
 (lf (0,Ao,Avv)))
def F1(L:Nat)(a0:List (List Bs)):Nat→Int→Int→Option Cq
 |0,_,_=>none
 |n+1,Ao,Avv=>Io L a0 (F1 L a0 n) Ao Avv
theorem Bij(a0:List (List Bs)):LP (EV (A9k L) L 9 Bfu.w.l.u.l.l) [0,2,3,6,8,9,10,11,27] [] (A6e a0) [.exit 0] (fun n v=>F1 L a0 n v.1 v.2) K:=lE (fun _=>rfl) fun n v ih=>eE (Io L a0 (fun Ao Avv=>re (ih (Ao,Avv))) v.1 v.2)
def A6f(a0:List (List Bs))(v:List Bs×Int):St:=⟨[(0,.any),(2,.lst true (.t200 [])),(3,.any),(5,.any),(6,.lst true (.t200 v.1)),(11,.any),(25,lv (.t90 a0)),(26,I (a0.length:Int)),(27,I v.2)],[],0⟩
def Ip [An A (Nat×List Bs×Int)](L:Nat)(a0:List (List Bs))(rec:List Bs→Int→A)(Gm:List Bs)(Jf:Int):A:=
 (lw Jf a0
 (gq ((Gm.length+(a0.getD (Int.toNat Jf) default).length)*24≤140737488355328)
 (gq (Gm.length+(a0.getD (Int.toNat Jf) default).length≤maxLen)
 (rec (Gm++(a0.getD (Int.toNat Jf) default)) (Bo (Jf+1)))))
 (lf (0,Gm,Jf)))
def F2(L:Nat)(a0:List (List Bs)):Nat→List Bs→Int→Option (Nat×List Bs×Int)
 |0,_,_=>none
 |n+1,Gm,Jf=>Ip L a0 (F2 L a0 n) Gm Jf
theorem Bik(a0:List (List Bs)):LP (EV (A9k L) L 9 Bfu.x.l.u.l.l) [0,2,3,5,6,11,25,26,27] [] (A6f a0) [.exit 2] (fun n v=>F2 L a0 n v.1 v.2) K:=lE (fun _=>rfl) fun n v ih=>eE (Ip L a0 (fun Gm Jf=>re (ih (Gm,Jf))) v.1 v.2)
def F3 [An A (List Bs)](L:Nat)(o2:Nat×List Bs×Int):A:=
 (sl o2.1 [(lf o2.2.1)])
def A3t:Bg:=(Bb 2 (Bp (EV (A9k L) L 9 Bfu.x.r) (Ct Tryz.prog (RS Tryz.f150) kk)))
theorem Bpp(a0:List (List Bs))(o2:Nat×List Bs×Int):kX [.exit 2] (A6f a0) (A3t L kk) o2=ob (F3 L o2) (Bkp kk):=eE (F3 L o2)
def Ix [An A (List Bs)](L:Nat)(a0:List (List Bs))(o1:Nat×C8)(nx2:A):A:=
 (sl o1.1 [(gq (0≤o1.2.1)
 (gq (o1.2.1*((24:Nat):Int)≤140737488355328)
 (gq (o1.2.1≤(4611686018427387904:Int))
 nx2)))])
def Iu [An A (List Bs)](a0:List (List Bs))(o1:Nat×C8):A:=Ix L a0 o1 (bd (F2 L a0 L [] 0) fun o2=>F3 L o2)
def A3s:Bg:=(Bb 0 (Bp (EV (A9k L) L 9 Bfu.w.r) (Ct Tryz.prog (RS Tryz.f150) kk)))
theorem Bpo(a0:List (List Bs))(o1:Nat×C8):kX [.exit 0] (A6e a0) (A3s L kk) o1=ob (Iu L a0 o1) (Bkp kk):=eE (Ix L a0 o1 (ho (Bik L (A3t L kk) a0 L ([],0)) fun o2=>Bpp L kk a0 o2))
def Vy [An A (List Bs)](a0:List (List Bs)):A:=(bd (F1 L a0 L 0 0) fun o1=>Iu L a0 o1)
def Kh(a0:List (List Bs)):Option (List Bs):=Vy L a0
def Bss:Di:=E1 (fun(x:List Bs)=>lv (.t200 x)) 150 Bzm (Kh L) fun a0 r h=>hF Tryz.func150 (C:=A9k L) (oS _) L (fun kk=>eE ((ho (Bij L (A3s L kk) a0 L (0,0)) fun o1=>Bpo L kk a0 o1))) h
def A2p(F:(List Af)→Option Int):Prop:=∀y0 r,F y0=some r→Ho Tryz.prog 185 [Md.en y0] I r
def Bui:=CC Tryz.f185
def Bll(Dy:(List Af)→Option Int)(L:Nat):Bi:=(orc 185 (A1 I Md Dy) (oL []))
theorem B0q(Dy:(List Af)→Option Int)(Bam:A2p Dy)(L:Nat):Cz Tryz.prog (Bll Dy L):=(De (a1 _ Bam) (oS []))
def A6r(a0:List Af)(v:C8):St:=⟨[(0,.any),(2,I 0),(3,I v.1),(8,lv (.t264 a0)),(9,I (a0.length:Int)),(10,I v.2)],[],0⟩
def Abo [An A Cq](Dy:(List Af)→Option Int)(L:Nat)(a0:List Af)(rec:Int→Int→A)(Aw:Int)(Ae:Int):A:=
 (lw Ae a0
 (bd (Dy ((a0.getD (Int.toNat Ae) default).Body)) fun r1=>
 (bd (Dy ((a0.getD (Int.toNat Ae) default).Else)) fun r2=>
 (rec (Bo (Aw+(Bo (r1+r2)))) (Bo (Ae+1)))))
 (lf (0,Aw,Ae)))
def R1(Dy:(List Af)→Option Int)(L:Nat)(a0:List Af):Nat→Int→Int→Option Cq
 |0,_,_=>none
 |n+1,Aw,Ae=>Abo Dy L a0 (R1 Dy L a0 n) Aw Ae
theorem Bix(Dy:(List Af)→Option Int)(L:Nat)(K:Bg)(a0:List Af):LP (EV (Bll Dy L) L 9 Bui.w.l.u.l.l) [0,2,3,8,9,10] [] (A6r a0) [.exit 0] (fun n v=>R1 Dy L a0 n v.1 v.2) K:=lE (fun _=>rfl) fun n v ih=>eE (Abo Dy L a0 (fun Aw Ae=>re (ih (Aw,Ae))) v.1 v.2)
def So [An A Int](Dy:(List Af)→Option Int)(L:Nat)(o3:Nat×C8):A:=
 (sl o3.1 [(lf o3.2.1)])
def A4e(Dy:(List Af)→Option Int)(L:Nat)(kk:Cc):Bg:=(Bb 0 (Bp (EV (Bll Dy L) L 9 Bui.w.r) (Ct Tryz.prog (RS Tryz.f185) kk)))
theorem Bqa(Dy:(List Af)→Option Int)(L:Nat)(kk:Cc)(a0:List Af)(o3:Nat×C8):kX [.exit 0] (A6r a0) (A4e Dy L kk) o3=ob (So Dy L o3) (kQ I kk):=eE (So Dy L o3)
def At7 [An A Int](Dy:(List Af)→Option Int)(L:Nat)(a0:List Af):A:=(bd (R1 Dy L a0 L (a0.length:Int) 0) fun o3=>So Dy L o3)
def Aia(Dy:(List Af)→Option Int)(L:Nat)(a0:List Af):Option Int:=At7 Dy L a0
theorem By9(Dy:(List Af)→Option Int)(Bam:A2p Dy)(L:Nat):A2p (Aia Dy L):=fun a0 r h=>hF Tryz.func185 (B0q Dy Bam L) L (fun kk=>eE ((ho (Bix Dy L (A4e Dy L kk) a0 L ((a0.length:Int),0)) fun o3=>Bqa Dy L kk a0 o3))) h
def Mq:Nat→(List Af)→Option Int
 |0,_=>none
 |L+1,a0=>Aia (Mq L) L a0
theorem Bg2(L:Nat):A2p (Mq L):=by
 induction L with
 |zero=>exact fun _ _ h=>(by cases h)
 |succ L ih=>
  have i185:=ih
  exact By9 (Mq L) i185 L
def Bs7(L:Nat):Di:=E1 I 185 Md (Mq L) (Bg2 L)
def A2q(F:(List Af)→Option Int):Prop:=∀y0 r,F y0=some r→Ho Tryz.prog 186 [Md.en y0] I r
def Buj:=CC Tryz.f186
def Blm(Dz:(List Af)→Option Int)(L:Nat):Bi:=(orc 186 (A1 I Md Dz) (oL []))
theorem B0r(Dz:(List Af)→Option Int)(Ban:A2q Dz)(L:Nat):Cz Tryz.prog (Blm Dz L):=(De (a1 _ Ban) (oS []))
def A6s(a0:List Af)(v:C8):St:=⟨[(0,.any),(2,I 0),(3,I v.1),(6,lv (.t264 a0)),(7,I (a0.length:Int)),(8,I v.2)],[],0⟩
def Abp [An A Cq](Dz:(List Af)→Option Int)(L:Nat)(a0:List Af)(rec:Int→Int→A)(Aw:Int)(Ae:Int):A:=
 (lw Ae a0
 (bd (Dz ((a0.getD (Int.toNat Ae) default).Body)) fun r1=>
 (bd (Dz ((a0.getD (Int.toNat Ae) default).Else)) fun r2=>
 (rec (if (Bo (1+r2)) > (if (Bo (1+r1)) > Aw then (Bo (1+r1)) else Aw) then (Bo (1+r2)) else (if (Bo (1+r1)) > Aw then (Bo (1+r1)) else Aw)) (Bo (Ae+1)))))
 (lf (0,Aw,Ae)))
def R2(Dz:(List Af)→Option Int)(L:Nat)(a0:List Af):Nat→Int→Int→Option Cq
 |0,_,_=>none
 |n+1,Aw,Ae=>Abp Dz L a0 (R2 Dz L a0 n) Aw Ae
theorem Biy(Dz:(List Af)→Option Int)(L:Nat)(K:Bg)(a0:List Af):LP (EV (Blm Dz L) L 9 Buj.w.l.u.l.l) [0,2,3,6,7,8] [] (A6s a0) [.exit 0] (fun n v=>R2 Dz L a0 n v.1 v.2) K:=lE (fun _=>rfl) fun n v ih=>eE (Abp Dz L a0 (fun Aw Ae=>re (ih (Aw,Ae))) v.1 v.2)
def Sp [An A Int](Dz:(List Af)→Option Int)(L:Nat)(o3:Nat×C8):A:=
 (sl o3.1 [(lf o3.2.1)])
def A4f(Dz:(List Af)→Option Int)(L:Nat)(kk:Cc):Bg:=(Bb 0 (Bp (EV (Blm Dz L) L 9 Buj.w.r) (Ct Tryz.prog (RS Tryz.f186) kk)))
theorem Bqb(Dz:(List Af)→Option Int)(L:Nat)(kk:Cc)(a0:List Af)(o3:Nat×C8):kX [.exit 0] (A6s a0) (A4f Dz L kk) o3=ob (Sp Dz L o3) (kQ I kk):=eE (Sp Dz L o3)
def At8 [An A Int](Dz:(List Af)→Option Int)(L:Nat)(a0:List Af):A:=(bd (R2 Dz L a0 L 0 0) fun o3=>Sp Dz L o3)
def Aib(Dz:(List Af)→Option Int)(L:Nat)(a0:List Af):Option Int:=At8 Dz L a0
theorem Bza(Dz:(List Af)→Option Int)(Ban:A2q Dz)(L:Nat):A2q (Aib Dz L):=fun a0 r h=>hF Tryz.func186 (B0r Dz Ban L) L (fun kk=>eE ((ho (Biy Dz L (A4f Dz L kk) a0 L (0,0)) fun o3=>Bqb Dz L kk a0 o3))) h
def Mr:Nat→(List Af)→Option Int
 |0,_=>none
 |L+1,a0=>Aib (Mr L) L a0
theorem Bg3(L:Nat):A2q (Mr L):=by
 induction L with
 |zero=>exact fun _ _ h=>(by cases h)
 |succ L ih=>
  have i186:=ih
  exact Bza (Mr L) i186 L
def Bs8(L:Nat):Di:=E1 I 186 Md (Mr L) (Bg3 L)
def T4:=CC Tryz.f210
def Aha(L:Nat):Bi:=oL []
def Asl:(B4×Bool)→Prop:=fun x=>kk ((fun(x:B4×Bool)=> .tup [.agg (Og x.1),B x.2]) x)
def A54:St:=⟨[(2,.loc 2 0),(3,B false)],[(2,[B false,B false,B false,B false,B false,B false,B false,B false,B false])],0⟩
def A5u(L:Nat)(kk:Cc):Bg:=(Ct Tryz.prog (RS Tryz.f210) kk)
def Vr [An A (B4×Bool)](L:Nat):A:=
 (lf ((⟨false,false,false,false,false,false,false,false,false⟩:B4),false))
theorem Bf9:EV (Aha L) L 9 T4.w (A54) (A5u L kk)=ob (Vr L) (Asl kk):=eE (Vr L)
def Ao5(a0:Int)(p803_2:Bool):St:=⟨[(2,.loc 2 0),(3,B false),(4,I a0),(32,B p803_2)],[(2,[B false,B false,B false,B false,B false,B false,B false,B false,B false])],0⟩
def Aov(e0:EC):Bg:=(Bb 0 (Bp (EV (Aha L) L 9 e0) (Ct Tryz.prog (RS Tryz.f210) kk)))
def sx_stmt_uses_3 [An A (B4×Bool)](L:Nat)(a0:Int)(p803_2:Bool)(nx1:A):A:=
 (cn p803_2
 (lf ((⟨true,false,false,false,false,false,false,false,false⟩:B4),true))
 (cn (a0 == 13)
 (lf ((⟨true,true,true,false,true,false,false,false,false⟩:B4),true))
 (cn (a0 == 14)
 (lf ((⟨true,false,true,false,true,false,false,false,false⟩:B4),true))
 (cn (a0 == 18)
 (lf ((⟨false,false,false,false,false,false,false,false,false⟩:B4),true))
 nx1))))
def Aej [An A (B4×Bool)](a0:Int)(p803_2:Bool):A:=sx_stmt_uses_3 L a0 p803_2 (Vr L)
theorem Bgo(a0:Int)(p803_2:Bool)(z1:EC):EV (Aha L) L 9 T4.u.l.u.l.x.x.w.u.r (Ao5 a0 p803_2) (Aov L kk (EC.put (rl [1]) z1 T4.u.r))= @sx_stmt_uses_3 Prop (anP (Asl kk)) L a0 p803_2 (EV (Aha L) L 9 z1 (A54) (A5u L kk)):=by kernel_rfl
theorem Bgb(a0:Int)(p803_2:Bool):EV (Aha L) L 9 T4.u.l.u.l.x.x.w.u.r (Ao5 a0 p803_2) (Aov L kk T4.u.r)=ob (Aej L a0 p803_2) (Asl kk):=Eq.trans (b:=EV (Aha L) L 9 T4.u.l.u.l.x.x.w.u.r (Ao5 a0 p803_2) (Aov L kk (EC.put (rl [1]) T4.w T4.u.r))) (by kernel_rfl) ((Bgo L kk a0 p803_2 T4.w).trans (eE (sx_stmt_uses_3 L a0 p803_2 (re (Bf9 L kk)))))
def Ao4(a0:Int)(p802_2:Bool):St:=⟨[(2,.loc 2 0),(3,B false),(4,I a0),(5,B p802_2)],[(2,[B false,B false,B false,B false,B false,B false,B false,B false,B false])],0⟩
def Aou(e0:EC):Bg:=(Bb 0 (Bp (EV (Aha L) L 9 e0) (Ct Tryz.prog (RS Tryz.f210) kk)))
def sx_stmt_uses_2 [An A (B4×Bool)](L:Nat)(a0:Int)(p802_2:Bool)(nx3:Int→Bool→A):A:=
 (cn p802_2
 (lf ((⟨true,false,true,false,false,false,false,false,false⟩:B4),true))
 (cn (a0 == 2)
 (lf ((⟨true,true,false,false,false,true,false,false,false⟩:B4),true))
 (cn (a0 == 3)
 (lf ((⟨false,false,true,false,false,false,false,true,true⟩:B4),true))
 (cn (a0 == 4)
 (lf ((⟨false,false,true,false,false,false,false,true,false⟩:B4),true))
 (cn (a0 == 5)
 (lf ((⟨false,false,true,false,false,false,false,false,false⟩:B4),true))
 (cn (a0 == 6)
 (lf ((⟨true,false,true,true,false,false,true,false,false⟩:B4),true))
 (cn (a0 == 9)
 (lf ((⟨true,true,false,false,false,false,false,false,false⟩:B4),true))
 (cn (a0 == 10)
 (nx3 a0 (a0 == 10))
 (nx3 a0 (a0 == 11))))))))))
def Aei [An A (B4×Bool)](a0:Int)(p802_2:Bool):A:=sx_stmt_uses_2 L a0 p802_2 (fun a0 p803_2=>Aej L a0 p803_2)
theorem Bgn(a0:Int)(p802_2:Bool)(z3:EC):EV (Aha L) L 9 (EC.put (rl [21]) z3 T4.u.l.u.l.u) (Ao4 a0 p802_2) (Aou L kk T4.u.r)= @sx_stmt_uses_2 Prop (anP (Asl kk)) L a0 p802_2 (fun a0 p803_2=>EV (Aha L) L 9 z3 (Ao5 a0 p803_2) (Aov L kk T4.u.r)):=by kernel_rfl
theorem Bga(a0:Int)(p802_2:Bool):EV (Aha L) L 9 T4.u.l.u.l.u (Ao4 a0 p802_2) (Aou L kk T4.u.r)=ob (Aei L a0 p802_2) (Asl kk):=Eq.trans (b:=EV (Aha L) L 9 (EC.put (rl [21]) T4.u.l.u.l.x.x.w.u.r T4.u.l.u.l.u) (Ao4 a0 p802_2) (Aou L kk T4.u.r)) (by kernel_rfl) ((Bgn L kk a0 p802_2 T4.u.l.u.l.x.x.w.u.r).trans (eE (sx_stmt_uses_2 L a0 p802_2 (fun a0 p803_2=>re (Bgb L kk a0 p803_2)))))
def sx_stmt_uses_0 [An A (B4×Bool)](L:Nat)(a0:Int)(nx2:Int→Bool→A):A:=
 (cn (a0 == 1)
 (nx2 a0 (a0 == 1))
 (cn (a0 == 7)
 (nx2 a0 (a0 == 7))
 (cn (a0 == 8)
 (nx2 a0 (a0 == 8))
 (cn (a0 == 12)
 (nx2 a0 (a0 == 12))
 (cn (a0 == 15)
 (nx2 a0 (a0 == 15))
 (cn (a0 == 16)
 (nx2 a0 (a0 == 16))
 (nx2 a0 (a0 == 17))))))))
def Awr [An A (B4×Bool)](a0:Int):A:=sx_stmt_uses_0 L a0 (fun a0 p802_2=>Aei L a0 p802_2)
theorem Bgm(a0:Int)(z2:EC):EW (Aha L) L 9 (RS Tryz.f210) (EC.put (rl [2,1,2,1,2]) z2 T4) [I a0] kk= @sx_stmt_uses_0 Prop (anP (Asl kk)) L a0 (fun a0 p802_2=>EV (Aha L) L 9 z2 (Ao4 a0 p802_2) (Aou L kk T4.u.r)):=by kernel_rfl
def Amh(a0:Int):Option (B4×Bool):=Awr L a0
def Bl8:Di:=E1 (fun(x:B4×Bool)=> .tup [.agg (Og x.1),B x.2]) 210 (cI .i64) (Amh L) fun a0 r h=>hF Tryz.func210 (C:=Aha L) (oS _) L (fun kk=>Eq.trans (b:=EW (Aha L) L 9 (RS Tryz.f210) (EC.put (rl [2,1,2,1,2]) T4.u.l.u.l.u T4) [I a0] kk) (by kernel_rfl) ((Bgm L kk a0 T4.u.l.u.l.u).trans (eE (sx_stmt_uses_0 L a0 (fun a0 p802_2=>re (Bga L kk a0 p802_2)))))) h
def A2s(F:Ab→Ab→Option Bool):Prop:=∀y0 y1 r,F y0 y1=some r→Ho Tryz.prog 192 [Bq.en y0,Bq.en y1] B r
def Bum:=CC Tryz.f192
def Blo(Dp:Ab→Ab→Option Bool)(L:Nat):Bi:=(orc 192 (A2 B Bq Bq Dp) (oL []))
theorem B0t(Dp:Ab→Ab→Option Bool)(Bap:A2s Dp)(L:Nat):Cz Tryz.prog (Blo Dp L):=(De (a2 _ Bap) (oS []))
def A6u(a0:Ab)(a1:Ab)(v:N2):St:=⟨[(0,.any),(1,.any),(2,.any),(3,.loc 3 0),(4,B v.1),(36,lv (.t98 a0.Kids)),(37,I (a0.Kids.length:Int)),(38,I v.2)],[(2,(Ca a0)),(3,(Ca a1))],0⟩
def Adx [An A (Nat×N2)](Dp:Ab→Ab→Option Bool)(L:Nat)(a0:Ab)(a1:Ab)(rec:Bool→Int→A)(Ar:Bool)(Ag:Int):A:=
 (lw Ag a0.Kids
 (gi Ag a1.Kids
 (bd (Dp (Ab.cp (a0.Kids.getD (Int.toNat Ag) default)) (Ab.cp (a1.Kids.getD (Int.toNat Ag) default))) fun r4=>
 (cn (!r4)
 (lf (0,false,Ag))
 (rec Ar (Bo (Ag+1))))))
 (lf (1,Ar,Ag)))
def Uz(Dp:Ab→Ab→Option Bool)(L:Nat)(a0:Ab)(a1:Ab):Nat→Bool→Int→Option (Nat×N2)
 |0,_,_=>none
 |n+1,Ar,Ag=>Adx Dp L a0 a1 (Uz Dp L a0 a1 n) Ar Ag
theorem Bi0(Dp:Ab→Ab→Option Bool)(L:Nat)(K:Bg)(a0:Ab)(a1:Ab):LP (EV (Blo Dp L) L 9 Bum.w.l.u.l.l) [0,1,2,3,4,36,37,38] [2,3] (A6u a0 a1) [.ret,.exit 0] (fun n v=>Uz Dp L a0 a1 n v.1 v.2) K:=lE (fun _=>rfl) fun n v ih=>eE (Adx Dp L a0 a1 (fun Ar Ag=>re (ih (Ar,Ag))) v.1 v.2)
def Vp [An A Bool](Dp:Ab→Ab→Option Bool)(L:Nat)(o5:Nat×N2):A:=
 (sl o5.1 [(lf o5.2.1),
 (lf true)])
def A4h(Dp:Ab→Ab→Option Bool)(L:Nat)(kk:Cc):Bg:=(Bb 0 (Bp (EV (Blo Dp L) L 9 Bum.w.r) (Ct Tryz.prog (RS Tryz.f192) kk)))
theorem Bqd(Dp:Ab→Ab→Option Bool)(L:Nat)(kk:Cc)(a0:Ab)(a1:Ab)(o5:Nat×N2):kX [.ret,.exit 0] (A6u a0 a1) (A4h Dp L kk) o5=ob (Vp Dp L o5) (kQ B kk):=eE (Vp Dp L o5)
def Ae3 [An A Bool](Dp:Ab→Ab→Option Bool)(L:Nat)(a0:Ab)(a1:Ab)(nx1:A):A:=
 (jp (.cn (a0.Op != a1.Op)
 (.lf true)
 (.lf (!(a0.Name.toList == a1.Name.toList)))) (fun b1=>
 (jp (.cn b1
 (.lf true)
 (.lf (a0.N != a1.N))) (fun b2=>
 (jp (.cn b2
 (.lf true)
 (.lf ((a0.Kids.length:Int) != (a1.Kids.length:Int)))) (fun b3=>
 (cn b3
 (lf false)
 nx1)))))))
def Awp [An A Bool](Dp:Ab→Ab→Option Bool)(L:Nat)(a0:Ab)(a1:Ab):A:=Ae3 Dp L a0 a1 (bd (Uz Dp L a0 a1 L false 0) fun o5=>Vp Dp L o5)
def Al2(Dp:Ab→Ab→Option Bool)(L:Nat)(a0:Ab)(a1:Ab):Option Bool:=Awp Dp L a0 a1
theorem Bzc(Dp:Ab→Ab→Option Bool)(Bap:A2s Dp)(L:Nat):A2s (Al2 Dp L):=fun a0 a1 r h=>hF Tryz.func192 (B0t Dp Bap L) L (fun kk=>eE (Ae3 Dp L a0 a1 (ho (Bi0 Dp L (A4h Dp L kk) a0 a1 L (false,0)) fun o5=>Bqd Dp L kk a0 a1 o5))) h
def H4:Nat→Ab→Ab→Option Bool
 |0,_,_=>none
 |L+1,a0,a1=>Al2 (H4 L) L a0 a1
theorem Bg5(L:Nat):A2s (H4 L):=by
 induction L with
 |zero=>exact fun _ _ _ h=>(by cases h)
 |succ L ih=>
  have i192:=ih
  exact Bzc (H4 L) i192 L
def Bl4(L:Nat):Di:=E2 B 192 Bq Bq (H4 L) (Bg5 L)
def Am0 [An A Bool](a0:Af)(a1:B4):A:=
 (jp (.cn a1.u_name
 (.lf true)
 (.lf (a0.Name.toList == (⟨#[]⟩:ByteArray).toList))) (fun b1=>
 (jp (.cn b1
 (.cn a1.u_of
 (.lf true)
 (.lf (a0.Of.toList == (⟨#[]⟩:ByteArray).toList)))
 (.lf false)) (fun b2=>
 (cn b2
 (cn a1.u_e
 (nq (cn a1.u_f
 (nq (jp (.cn a1.u_args
 (.lf true)
 (.lf ((a0.Args.length:Int) == 0))) (fun b3=>
 (cn b3
 (cn a1.u_dist
 (nq (jp (.cn a1.u_flag
 (.lf true)
 (.lf (!a0.Flag))) (fun b4=>
 (jp (.cn b4
 (.cn a1.u_body
 (.lf true)
 (.lf ((a0.Body.length:Int) == 0)))
 (.lf false)) (fun b5=>
 (jp (.cn b5
 (.cn a1.u_other
 (.lf true)
 (.lf ((a0.Else.length:Int) == 0)))
 (.lf false)) (fun b6=>
 (lf b6))))))))
 (bd (H3 L a0.Dist (⟨0,0,0,0,[],[]⟩:B8)) fun r7=>
 (nq (jp (.cn r7
 (.cn a1.u_flag
 (.lf true)
 (.lf (!a0.Flag)))
 (.lf false)) (fun b8=>
 (jp (.cn b8
 (.cn a1.u_body
 (.lf true)
 (.lf ((a0.Body.length:Int) == 0)))
 (.lf false)) (fun b9=>
 (jp (.cn b9
 (.cn a1.u_other
 (.lf true)
 (.lf ((a0.Else.length:Int) == 0)))
 (.lf false)) (fun b10=>
 (lf b10))))))))))
 (nq (nq (nq (nq (lf false)))))))))
 (bd (H4 L (Ab.cp a0.F) (Ab.mk 0 (⟨#[]⟩:ByteArray) 0 [])) fun r11=>
 (nq (jp (.cn r11
 (.cn a1.u_args
 (.lf true)
 (.lf ((a0.Args.length:Int) == 0)))
 (.lf false)) (fun b12=>
 (cn b12
 (cn a1.u_dist
 (nq (jp (.cn a1.u_flag
 (.lf true)
 (.lf (!a0.Flag))) (fun b13=>
 (jp (.cn b13
 (.cn a1.u_body
 (.lf true)
 (.lf ((a0.Body.length:Int) == 0)))
 (.lf false)) (fun b14=>
 (jp (.cn b14
 (.cn a1.u_other
 (.lf true)
 (.lf ((a0.Else.length:Int) == 0)))
 (.lf false)) (fun b15=>
 (lf b15))))))))
 (bd (H3 L a0.Dist (⟨0,0,0,0,[],[]⟩:B8)) fun r16=>
 (nq (jp (.cn r16
 (.cn a1.u_flag
 (.lf true)
 (.lf (!a0.Flag)))
 (.lf false)) (fun b17=>
 (jp (.cn b17
 (.cn a1.u_body
 (.lf true)
 (.lf ((a0.Body.length:Int) == 0)))
 (.lf false)) (fun b18=>
 (jp (.cn b18
 (.cn a1.u_other
 (.lf true)
 (.lf ((a0.Else.length:Int) == 0)))
 (.lf false)) (fun b19=>
 (lf b19))))))))))
 (nq (nq (nq (nq (lf false))))))))))))
 (bd (H4 L (Ab.cp a0.E) (Ab.mk 0 (⟨#[]⟩:ByteArray) 0 [])) fun r20=>
 (nq (cn r20
 (cn a1.u_f
 (nq (jp (.cn a1.u_args
 (.lf true)
 (.lf ((a0.Args.length:Int) == 0))) (fun b21=>
 (cn b21
 (cn a1.u_dist
 (nq (jp (.cn a1.u_flag
 (.lf true)
 (.lf (!a0.Flag))) (fun b22=>
 (jp (.cn b22
 (.cn a1.u_body
 (.lf true)
 (.lf ((a0.Body.length:Int) == 0)))
 (.lf false)) (fun b23=>
 (jp (.cn b23
 (.cn a1.u_other
 (.lf true)
 (.lf ((a0.Else.length:Int) == 0)))
 (.lf false)) (fun b24=>
 (lf b24))))))))
 (bd (H3 L a0.Dist (⟨0,0,0,0,[],[]⟩:B8)) fun r25=>
 (nq (jp (.cn r25
 (.cn a1.u_flag
 (.lf true)
 (.lf (!a0.Flag)))
 (.lf false)) (fun b26=>
 (jp (.cn b26
 (.cn a1.u_body
 (.lf true)
 (.lf ((a0.Body.length:Int) == 0)))
 (.lf false)) (fun b27=>
 (jp (.cn b27
 (.cn a1.u_other
 (.lf true)
 (.lf ((a0.Else.length:Int) == 0)))
 (.lf false)) (fun b28=>
 (lf b28))))))))))
 (nq (nq (nq (nq (lf false)))))))))
 (bd (H4 L (Ab.cp a0.F) (Ab.mk 0 (⟨#[]⟩:ByteArray) 0 [])) fun r29=>
 (nq (jp (.cn r29
 (.cn a1.u_args
 (.lf true)
 (.lf ((a0.Args.length:Int) == 0)))
 (.lf false)) (fun b30=>
 (cn b30
 (cn a1.u_dist
 (nq (jp (.cn a1.u_flag
 (.lf true)
 (.lf (!a0.Flag))) (fun b31=>
 (jp (.cn b31
 (.cn a1.u_body
 (.lf true)
 (.lf ((a0.Body.length:Int) == 0)))
 (.lf false)) (fun b32=>
 (jp (.cn b32
 (.cn a1.u_other
 (.lf true)
 (.lf ((a0.Else.length:Int) == 0)))
 (.lf false)) (fun b33=>
 (lf b33))))))))
 (bd (H3 L a0.Dist (⟨0,0,0,0,[],[]⟩:B8)) fun r34=>
 (nq (jp (.cn r34
 (.cn a1.u_flag
 (.lf true)
 (.lf (!a0.Flag)))
 (.lf false)) (fun b35=>
 (jp (.cn b35
 (.cn a1.u_body
 (.lf true)
 (.lf ((a0.Body.length:Int) == 0)))
 (.lf false)) (fun b36=>
 (jp (.cn b36
 (.cn a1.u_other
 (.lf true)
 (.lf ((a0.Else.length:Int) == 0)))
 (.lf false)) (fun b37=>
 (lf b37))))))))))
 (nq (nq (nq (nq (lf false)))))))))))
 (nq (nq (nq (nq (nq (nq (lf false)))))))))))
 (nq (nq (nq (nq (nq (nq (nq (lf false)))))))))))))
def Amg(a0:Af)(a1:B4):Option Bool:=Am0 L a0 a1
def Bl9:Di:=E2 B 211 Qj Am3 (Amg L) fun a0 a1 r h=>hF Tryz.func211 (oS [Bfn L,Bl4 L]) L (fun kk=>eE (Am0 L a0 a1)) h
end
end Go.Proofs.YthjhkpgonleelaaGreatDoor.Ev
