import Derived.Test.YthjhkpgonleelaaGreatDoorLG0
set_option maxRecDepth 100000
set_option maxHeartbeats 4000000
set_option linter.unusedVariables false
set_option linter.unusedSimpArgs false
set_option linter.unnecessarySimpa false
namespace Go.Proofs.YthjhkpgonleelaaGreatDoor.Ev
open Go An
noncomputable section
variable {A:Type} (L n:Nat) (kk:K5) (K:Ef) (k:Dj)
def Ahm [An A Bool](L:Nat)(a0:Int):A:=
 (jp (.cn (decide (a0>=97))
 (.lf (decide (a0<=122)))
 (.lf false)) (λb1=>
 (lf b1)))
def Us(a0:Int):Option Bool:=Ahm L a0
def X54:F3:=E1 B 54 (cI .u8) (Us L) λa0 r h=>hF Tryz.func54 (oS []) L (λkk=>eE (Ahm L a0)) h
def Afc [An A Bool](L:Nat)(a0:Yb):A:=
 (cn (a0.toList == (⟨#[97,100,100]⟩:Yb).toList)
 (cn (a0.toList == (⟨#[97,100,100]⟩:Yb).toList)
 (lf true)
 (lf false))
 (cn (a0.toList == (⟨#[97,102,116,101,114]⟩:Yb).toList)
 (cn (a0.toList == (⟨#[97,102,116,101,114]⟩:Yb).toList)
 (lf true)
 (lf false))
 (cn (a0.toList == (⟨#[97,110,100]⟩:Yb).toList)
 (cn (a0.toList == (⟨#[97,110,100]⟩:Yb).toList)
 (lf true)
 (lf false))
 (cn (a0.toList == (⟨#[97,116]⟩:Yb).toList)
 (cn (a0.toList == (⟨#[97,116]⟩:Yb).toList)
 (lf true)
 (lf false))
 (cn (a0.toList == (⟨#[98,101,108,116]⟩:Yb).toList)
 (cn (a0.toList == (⟨#[98,101,108,116]⟩:Yb).toList)
 (lf true)
 (lf false))
 (cn (a0.toList == (⟨#[98,111,111,108]⟩:Yb).toList)
 (cn (a0.toList == (⟨#[98,111,111,108]⟩:Yb).toList)
 (lf true)
 (lf false))
 (cn (a0.toList == (⟨#[99,111,110,115,101,114,118,101]⟩:Yb).toList)
 (cn (a0.toList == (⟨#[99,111,110,115,101,114,118,101]⟩:Yb).toList)
 (lf true)
 (lf false))
 (cn (a0.toList == (⟨#[99,111,110,115,116]⟩:Yb).toList)
 (cn (a0.toList == (⟨#[99,111,110,115,116]⟩:Yb).toList)
 (lf true)
 (lf false))
 (cn (a0.toList == (⟨#[99,111,117,110,116]⟩:Yb).toList)
 (cn (a0.toList == (⟨#[99,111,117,110,116]⟩:Yb).toList)
 (lf true)
 (lf false))
 (cn (a0.toList == (⟨#[99,121,99,108,101]⟩:Yb).toList)
 (cn (a0.toList == (⟨#[99,121,99,108,101]⟩:Yb).toList)
 (lf true)
 (lf false))
 (cn (a0.toList == (⟨#[100,111,119,110]⟩:Yb).toList)
 (cn (a0.toList == (⟨#[100,111,119,110]⟩:Yb).toList)
 (lf true)
 (lf false))
 (cn (a0.toList == (⟨#[100,114,97,119]⟩:Yb).toList)
 (cn (a0.toList == (⟨#[100,114,97,119]⟩:Yb).toList)
 (lf true)
 (lf false))
 (cn (a0.toList == (⟨#[100,117,114]⟩:Yb).toList)
 (cn (a0.toList == (⟨#[100,117,114]⟩:Yb).toList)
 (lf true)
 (lf false))
 (cn (a0.toList == (⟨#[101,108,115,101]⟩:Yb).toList)
 (cn (a0.toList == (⟨#[101,108,115,101]⟩:Yb).toList)
 (lf true)
 (lf false))
 (cn (a0.toList == (⟨#[101,110,100]⟩:Yb).toList)
 (cn (a0.toList == (⟨#[101,110,100]⟩:Yb).toList)
 (lf true)
 (lf false))
 (cn (a0.toList == (⟨#[101,118,101,114,121]⟩:Yb).toList)
 (cn (a0.toList == (⟨#[101,118,101,114,121]⟩:Yb).toList)
 (lf true)
 (lf false))
 (cn (a0.toList == (⟨#[102,97,108,115,101]⟩:Yb).toList)
 (cn (a0.toList == (⟨#[102,97,108,115,101]⟩:Yb).toList)
 (lf true)
 (lf false))
 (cn (a0.toList == (⟨#[102,97,117,108,116]⟩:Yb).toList)
 (cn (a0.toList == (⟨#[102,97,117,108,116]⟩:Yb).toList)
 (lf true)
 (lf false))
 (cn (a0.toList == (⟨#[102,105,102,111]⟩:Yb).toList)
 (cn (a0.toList == (⟨#[102,105,102,111]⟩:Yb).toList)
 (lf true)
 (lf false))
 (cn (a0.toList == (⟨#[102,114,101,101]⟩:Yb).toList)
 (cn (a0.toList == (⟨#[102,114,101,101]⟩:Yb).toList)
 (lf true)
 (lf false))
 (cn (a0.toList == (⟨#[102,114,111,109]⟩:Yb).toList)
 (cn (a0.toList == (⟨#[102,114,111,109]⟩:Yb).toList)
 (lf true)
 (lf false))
 (cn (a0.toList == (⟨#[103,101,111,109]⟩:Yb).toList)
 (cn (a0.toList == (⟨#[103,101,111,109]⟩:Yb).toList)
 (lf true)
 (lf false))
 (cn (a0.toList == (⟨#[103,101,116]⟩:Yb).toList)
 (cn (a0.toList == (⟨#[103,101,116]⟩:Yb).toList)
 (lf true)
 (lf false))
 (cn (a0.toList == (⟨#[104,111,108,100]⟩:Yb).toList)
 (cn (a0.toList == (⟨#[104,111,108,100]⟩:Yb).toList)
 (lf true)
 (lf false))
 (cn (a0.toList == (⟨#[105,102]⟩:Yb).toList)
 (cn (a0.toList == (⟨#[105,102]⟩:Yb).toList)
 (lf true)
 (lf false))
 (cn (a0.toList == (⟨#[105,110,116]⟩:Yb).toList)
 (cn (a0.toList == (⟨#[105,110,116]⟩:Yb).toList)
 (lf true)
 (lf false))
 (cn (a0.toList == (⟨#[105,110,116,111]⟩:Yb).toList)
 (cn (a0.toList == (⟨#[105,110,116,111]⟩:Yb).toList)
 (lf true)
 (lf false))
 (cn (a0.toList == (⟨#[108,101,97,115,116]⟩:Yb).toList)
 (cn (a0.toList == (⟨#[108,101,97,115,116]⟩:Yb).toList)
 (lf true)
 (lf false))
 (cn (a0.toList == (⟨#[108,101,118,101,108]⟩:Yb).toList)
 (cn (a0.toList == (⟨#[108,101,118,101,108]⟩:Yb).toList)
 (lf true)
 (lf false))
 (cn (a0.toList == (⟨#[108,105,102,111]⟩:Yb).toList)
 (cn (a0.toList == (⟨#[108,105,102,111]⟩:Yb).toList)
 (lf true)
 (lf false))
 (cn (a0.toList == (⟨#[108,105,110,107]⟩:Yb).toList)
 (cn (a0.toList == (⟨#[108,105,110,107]⟩:Yb).toList)
 (lf true)
 (lf false))
 (cn (a0.toList == (⟨#[108,111,99,97,108]⟩:Yb).toList)
 (cn (a0.toList == (⟨#[108,111,99,97,108]⟩:Yb).toList)
 (lf true)
 (lf false))
 (cn (a0.toList == (⟨#[109,97,120]⟩:Yb).toList)
 (cn (a0.toList == (⟨#[109,97,120]⟩:Yb).toList)
 (lf true)
 (lf false))
 (cn (a0.toList == (⟨#[109,105,110]⟩:Yb).toList)
 (cn (a0.toList == (⟨#[109,105,110]⟩:Yb).toList)
 (lf true)
 (lf false))
 (cn (a0.toList == (⟨#[109,111,100,101,108]⟩:Yb).toList)
 (cn (a0.toList == (⟨#[109,111,100,101,108]⟩:Yb).toList)
 (lf true)
 (lf false))
 (cn (a0.toList == (⟨#[110,111,116]⟩:Yb).toList)
 (cn (a0.toList == (⟨#[110,111,116]⟩:Yb).toList)
 (lf true)
 (lf false))
 (cn (a0.toList == (⟨#[110,111,119]⟩:Yb).toList)
 (cn (a0.toList == (⟨#[110,111,119]⟩:Yb).toList)
 (lf true)
 (lf false))
 (cn (a0.toList == (⟨#[111,98,115,101,114,118,101]⟩:Yb).toList)
 (cn (a0.toList == (⟨#[111,98,115,101,114,118,101]⟩:Yb).toList)
 (lf true)
 (lf false))
 (cn (a0.toList == (⟨#[111,114]⟩:Yb).toList)
 (cn (a0.toList == (⟨#[111,114]⟩:Yb).toList)
 (lf true)
 (lf false))
 (cn (a0.toList == (⟨#[112,97,114,97,109]⟩:Yb).toList)
 (cn (a0.toList == (⟨#[112,97,114,97,109]⟩:Yb).toList)
 (lf true)
 (lf false))
 (cn (a0.toList == (⟨#[112,114,101,101,109,112,116]⟩:Yb).toList)
 (cn (a0.toList == (⟨#[112,114,101,101,109,112,116]⟩:Yb).toList)
 (lf true)
 (lf false))
 (cn (a0.toList == (⟨#[112,114,105,111]⟩:Yb).toList)
 (cn (a0.toList == (⟨#[112,114,105,111]⟩:Yb).toList)
 (lf true)
 (lf false))
 (cn (a0.toList == (⟨#[112,117,116]⟩:Yb).toList)
 (cn (a0.toList == (⟨#[112,117,116]⟩:Yb).toList)
 (lf true)
 (lf false))
 (cn (a0.toList == (⟨#[113,117,101,117,101]⟩:Yb).toList)
 (cn (a0.toList == (⟨#[113,117,101,117,101]⟩:Yb).toList)
 (lf true)
 (lf false))
 (cn (a0.toList == (⟨#[114,101,108,101,97,115,101]⟩:Yb).toList)
 (cn (a0.toList == (⟨#[114,101,108,101,97,115,101]⟩:Yb).toList)
 (lf true)
 (lf false))
 (cn (a0.toList == (⟨#[114,101,115,111,117,114,99,101]⟩:Yb).toList)
 (cn (a0.toList == (⟨#[114,101,115,111,117,114,99,101]⟩:Yb).toList)
 (lf true)
 (lf false))
 (cn (a0.toList == (⟨#[114,105,100,101]⟩:Yb).toList)
 (cn (a0.toList == (⟨#[114,105,100,101]⟩:Yb).toList)
 (lf true)
 (lf false))
 (cn (a0.toList == (⟨#[114,111,117,116,105,110,101]⟩:Yb).toList)
 (cn (a0.toList == (⟨#[114,111,117,116,105,110,101]⟩:Yb).toList)
 (lf true)
 (lf false))
 (cn (a0.toList == (⟨#[115,101,105,122,101]⟩:Yb).toList)
 (cn (a0.toList == (⟨#[115,101,105,122,101]⟩:Yb).toList)
 (lf true)
 (lf false))
 (cn (a0.toList == (⟨#[115,101,110,100]⟩:Yb).toList)
 (cn (a0.toList == (⟨#[115,101,110,100]⟩:Yb).toList)
 (lf true)
 (lf false))
 (cn (a0.toList == (⟨#[115,101,116]⟩:Yb).toList)
 (cn (a0.toList == (⟨#[115,101,116]⟩:Yb).toList)
 (lf true)
 (lf false))
 (cn (a0.toList == (⟨#[115,104,105,102,116]⟩:Yb).toList)
 (cn (a0.toList == (⟨#[115,104,105,102,116]⟩:Yb).toList)
 (lf true)
 (lf false))
 (cn (a0.toList == (⟨#[115,105,103,110,97,108]⟩:Yb).toList)
 (cn (a0.toList == (⟨#[115,105,103,110,97,108]⟩:Yb).toList)
 (lf true)
 (lf false))
 (cn (a0.toList == (⟨#[115,105,116,101]⟩:Yb).toList)
 (cn (a0.toList == (⟨#[115,105,116,101]⟩:Yb).toList)
 (lf true)
 (lf false))
 (cn (a0.toList == (⟨#[115,105,122,101]⟩:Yb).toList)
 (cn (a0.toList == (⟨#[115,105,122,101]⟩:Yb).toList)
 (lf true)
 (lf false))
 (cn (a0.toList == (⟨#[115,112,97,119,110]⟩:Yb).toList)
 (cn (a0.toList == (⟨#[115,112,97,119,110]⟩:Yb).toList)
 (lf true)
 (lf false))
 (cn (a0.toList == (⟨#[115,116,97,114,116]⟩:Yb).toList)
 (cn (a0.toList == (⟨#[115,116,97,114,116]⟩:Yb).toList)
 (lf true)
 (lf false))
 (cn (a0.toList == (⟨#[115,116,111,112]⟩:Yb).toList)
 (cn (a0.toList == (⟨#[115,116,111,112]⟩:Yb).toList)
 (lf true)
 (lf false))
 (cn (a0.toList == (⟨#[115,116,111,114,101]⟩:Yb).toList)
 (cn (a0.toList == (⟨#[115,116,111,114,101]⟩:Yb).toList)
 (lf true)
 (lf false))
 (cn (a0.toList == (⟨#[115,116,114,101,97,109]⟩:Yb).toList)
 (cn (a0.toList == (⟨#[115,116,114,101,97,109]⟩:Yb).toList)
 (lf true)
 (lf false))
 (cn (a0.toList == (⟨#[115,117,109]⟩:Yb).toList)
 (cn (a0.toList == (⟨#[115,117,109]⟩:Yb).toList)
 (lf true)
 (lf false))
 (cn (a0.toList == (⟨#[116,97,98,108,101]⟩:Yb).toList)
 (cn (a0.toList == (⟨#[116,97,98,108,101]⟩:Yb).toList)
 (lf true)
 (lf false))
 (cn (a0.toList == (⟨#[116,97,108,108,121]⟩:Yb).toList)
 (cn (a0.toList == (⟨#[116,97,108,108,121]⟩:Yb).toList)
 (lf true)
 (lf false))
 (cn (a0.toList == (⟨#[116,105,99,107,115]⟩:Yb).toList)
 (cn (a0.toList == (⟨#[116,105,99,107,115]⟩:Yb).toList)
 (lf true)
 (lf false))
 (cn (a0.toList == (⟨#[116,105,109,101]⟩:Yb).toList)
 (cn (a0.toList == (⟨#[116,105,109,101]⟩:Yb).toList)
 (lf true)
 (lf false))
 (cn (a0.toList == (⟨#[116,114,117,101]⟩:Yb).toList)
 (cn (a0.toList == (⟨#[116,114,117,101]⟩:Yb).toList)
 (lf true)
 (lf false))
 (cn (a0.toList == (⟨#[117,110,105,102,111,114,109]⟩:Yb).toList)
 (cn (a0.toList == (⟨#[117,110,105,102,111,114,109]⟩:Yb).toList)
 (lf true)
 (lf false))
 (cn (a0.toList == (⟨#[117,110,116,105,108]⟩:Yb).toList)
 (cn (a0.toList == (⟨#[117,110,116,105,108]⟩:Yb).toList)
 (lf true)
 (lf false))
 (cn (a0.toList == (⟨#[117,112]⟩:Yb).toList)
 (cn (a0.toList == (⟨#[117,112]⟩:Yb).toList)
 (lf true)
 (lf false))
 (cn (a0.toList == (⟨#[118,97,114]⟩:Yb).toList)
 (cn (a0.toList == (⟨#[118,97,114]⟩:Yb).toList)
 (lf true)
 (lf false))
 (cn (a0.toList == (⟨#[119,97,105,116]⟩:Yb).toList)
 (cn (a0.toList == (⟨#[119,97,105,116]⟩:Yb).toList)
 (lf true)
 (lf false))
 (cn (a0.toList == (⟨#[119,97,105,116,105,110,103]⟩:Yb).toList)
 (cn (a0.toList == (⟨#[119,97,105,116,105,110,103]⟩:Yb).toList)
 (lf true)
 (lf false))
 (cn (a0.toList == (⟨#[119,104,105,108,101]⟩:Yb).toList)
 (lf true)
 (lf false))))))))))))))))))))))))))))))))))))))))))))))))))))))))))))))))))))))))))
def Xb(a0:Yb):Option Bool:=Afc L a0
def X55:F3:=E1 B 55 cS (Xb L) λa0 r h=>hF Tryz.func55 (oS []) L (λkk=>eE (Afc L a0)) h
def c35:=CC Tryz.f35
def O35:Bc:=oL [X54 L,X55 L]
def B3d(a0:Yb)(v:Jc):St:=⟨[(0,S a0),(2,I v.1),(23,I (a0.size:Int)),(24,I v.2)],[],0⟩
def Qs [An A C3](a0:Yb)(rec:Int->Int->A)(Ag:Int)(Af:Int):A:=
 (cn (decide (Af<(a0.size:Int)))
 (cn ((if 0<=Af then a0[Int.toNat Af]? else none).isSome)
 (bd (Us L (D1 (if 0<=Af then a0[Int.toNat Af]? else none))) λr6=>
 (jp (.cn (!r6)
 (.cn (decide ((D1 (if 0<=Af then a0[Int.toNat Af]? else none))<48))
 (.lf true)
 (.lf (decide ((D1 (if 0<=Af then a0[Int.toNat Af]? else none))>57))))
 (.lf false)) (λb7=>
 (jp (.cn b7
 (.lf ((D1 (if 0<=Af then a0[Int.toNat Af]? else none)) != 95))
 (.lf false)) (λb8=>
 (cn b8
 (lf (0,3,Af))
 (rec Ag (Bu (Af+1)))))))))
 fl)
 (lf (1,Ag,Af)))
def I7(L:Nat)(a0:Yb):Nat->Int->Int->Option C3
 |0,_,_=>none
 |n+1,Ag,Af=>Qs L a0 (I7 L a0 n) Ag Af
theorem B1d(a0:Yb):LP (EV (O35 L) L 9 c35.w.l.u.l.l) [0,2,23,24] [] (B3d a0) [.ret,.exit 0] (λn v=>I7 L a0 n v.1 v.2) K:=lE (λ_=>rfl) λn v ih=>eE (Qs L a0 (λAg Af=>re (ih (Ag,Af))) v.1 v.2)
def V9 [An A Int](L:Nat)(o9:Nat×Jc):A:=
 (sl o9.1 [(lf o9.2.1),
 (lf 0)])
def Wn [An A Int](a0:Yb)(nx1:A):A:=
 (jp (.cn (a0.toList == (⟨#[]⟩:Yb).toList)
 (.lf true)
 (.lf (decide ((a0.size:Int)>24)))) (λb1=>
 (jb (.cn b1
 (.lf true)
 (.cn ((if 0<=0 then a0[Int.toNat 0]? else none).isSome)
 (.bd (Us L (D1 (if 0<=0 then a0[Int.toNat 0]? else none))) λr3=>
 (.lf (!r3)))
 .fl)) (λb2=>
 (jb (.cn b2
 (.lf true)
 (.bd (Xb L a0) λr5=>
 (.lf r5))) (λb4=>
 (cn b4
 (lf 3)
 nx1)))))))
def Asu [An A Int](a0:Yb):A:=Wn L a0 (bd (I7 L a0 L 0 0) λo9=>V9 L o9)
def Cu(a0:Yb):Option Int:=Asu L a0
def X35:F3:=E1 I 35 cS (Cu L) λa0 r h=>hF Tryz.func35 (C:=O35 L) (oS _) L (λkk=>eE (Wn L a0 (hq (B1d L (KA (O35 L) L 9 c35 (rl [4,1,2,1]) (KE Tryz.f35 kk)) a0 L (0,0)) λo9=>V9 L o9))) h
def Akg [An A Bool](L:Nat)(a0:Int):A:=
 (jp (.cn (decide (a0>=1))
 (.lf (decide (a0<=3)))
 (.lf false)) (λb1=>
 (lf b1)))
def Jf(a0:Int):Option Bool:=Akg L a0
def By3:F3:=E1 B 146 (cI .i64) (Jf L) λa0 r h=>hF Tryz.func146 (oS []) L (λkk=>eE (Akg L a0)) h
def A27 [An A Bool](L:Nat)(a0:Int):A:=
 (jp (.cn (decide (a0>=(-1000000000000)))
 (.lf (decide (a0<=1000000000000)))
 (.lf false)) (λb1=>
 (lf b1)))
def Ahd(a0:Int):Option Bool:=A27 L a0
def By6:F3:=E1 B 158 (cI .i64) (Ahd L) λa0 r h=>hF Tryz.func158 (oS []) L (λkk=>eE (A27 L a0)) h
def Ahl [An A Bool](L:Nat)(a0:Int)(a1:Int)(a2:Int):A:=
 (jp (.cn (decide (a0>=a1))
 (.lf (decide (a0<=a2)))
 (.lf false)) (λb1=>
 (lf b1)))
def Be(a0:Int)(a1:Int)(a2:Int):Option Bool:=Ahl L a0 a1 a2
def X95:F3:=E3 B 95 (cI .i64) (cI .i64) (cI .i64) (Be L) λa0 a1 a2 r h=>hF Tryz.func95 (oS []) L (λkk=>eE (Ahl L a0 a1 a2)) h
def An1 [An A Bool](a0:Int)(a1:Int):A:=
 (cn (a0 == 1)
 (bd (Ahd L a1) λr1=>
 (lf r1))
 (cn (a0 == 2)
 (jp (.cn (a1 == 0)
 (.lf true)
 (.lf (a1 == 1))) (λb2=>
 (lf b2)))
 (cn (a0 == 3)
 (bd (Be L a1 0 1000000000) λr3=>
 (lf r3))
 (lf false))))
def Rw(a0:Int)(a1:Int):Option Bool:=An1 L a0 a1
def By4:F3:=E2 B 147 (cI .i64) (cI .i64) (Rw L) λa0 a1 r h=>hF Tryz.func147 (oS [X95 L,By6 L]) L (λkk=>eE (An1 L a0 a1)) h
def c96:=CC Tryz.f96
def O96:Bc:=oL [X95 L]
def B38(a0:Aj)(v:Jc):St:=⟨[(0,.any),zq7,(2,I v.1),Bbw,(17,.any),(23,lv (.fA a0.aZ)),(24,I (a0.aZ.length:Int)),(25,I v.2)],[(1,(B3 a0))],0⟩
def Qe [An A C3](a0:Aj)(rec:Int->Int->A)(Ah:Int)(Af:Int):A:=
 (lw Af a0.aZ
 (bd (Be L ((gD a0.aZ Af).At) 0 (Bu (a0.cZ-1))) λr2=>
 (cn (!r2)
 (cn (!r2)
 (lf (0,2,Af))
 (cn (decide (Af>0))
 (gi (Bu (Af-1)) a0.aZ
 (cn (decide ((gD a0.aZ Af).At<=(gD a0.aZ (Bu (Af-1))).At))
 (lf (0,12,Af))
 (rec Ah (Bu (Af+1)))))
 (rec Ah (Bu (Af+1)))))
 (bd (Be L ((gD a0.aZ Af).Units) 0 1000) λr3=>
 (cn (!r3)
 (lf (0,2,Af))
 (cn (decide (Af>0))
 (gi (Bu (Af-1)) a0.aZ
 (cn (decide ((gD a0.aZ Af).At<=(gD a0.aZ (Bu (Af-1))).At))
 (lf (0,12,Af))
 (rec Ah (Bu (Af+1)))))
 (rec Ah (Bu (Af+1))))))))
 (lf (1,Ah,Af)))
def Hb(L:Nat)(a0:Aj):Nat->Int->Int->Option C3
 |0,_,_=>none
 |n+1,Ah,Af=>Qe L a0 (Hb L a0 n) Ah Af
theorem B17(a0:Aj):LP (EV (O96 L) L 9 c96.w.u.l.u.l.l) [0,1,2,12,17,23,24,25] [1] (B38 a0) [.ret,.exit 1] (λn v=>Hb L a0 n v.1 v.2) K:=lE (λ_=>rfl) λn v ih=>eE (Qe L a0 (λAh Af=>re (ih (Ah,Af))) v.1 v.2)
def Qf [An A Int](L:Nat)(o4:Nat×Jc):A:=
 (sl o4.1 [(lf o4.2.1),
 (lf 0)])
def Qg [An A Int](a0:Aj)(nx1:A):A:=
 (cn ((a0.aZ.length:Int) == 0)
 (cn (a0.cZ != 0)
 (lf 1)
 (lf 0))
 (cn (decide ((a0.aZ.length:Int)>20))
 (lf 6)
 (bd (Be L a0.cZ 1 1000000000) λr1=>
 (cn (!r1)
 (lf 2)
 nx1))))
def Ali [An A Int](a0:Aj):A:=Qg L a0 (bd (Hb L a0 L 0 0) λo4=>Qf L o4)
def Va(a0:Aj):Option Int:=Ali L a0
def X96:F3:=E1 I 96 Ww (Va L) λa0 r h=>hF Tryz.func96 (C:=O96 L) (oS _) L (λkk=>eE (Qg L a0 (hq (B17 L (KA (O96 L) L 9 c96 (rl [6,1,2,1]) (KE Tryz.f96 kk)) a0 L (0,0)) λo4=>Qf L o4))) h
def c29:=CC Tryz.f29
def O29(L:Nat):Bc:=oL []
def B25(a0:List Int)(a1:List Int)(v:Tu5):St:=⟨[(0,lv (.t3 a0)),(1,lv (.t3 a1)),(4,B v.1),(12,I (a0.length:Int)),(13,I v.2)],[],0⟩
def Nc [An A (Nat×Tu5)](L:Nat)(a0:List Int)(a1:List Int)(rec:Bool->Int->A)(Ak:Bool)(Bj:Int):A:=
 (lw Bj a0
 (gi Bj a1
 (cn ((gD a0 Bj) != (gD a1 Bj))
 (lf (0,false,Bj))
 (rec Ak (Bu (Bj+1)))))
 (lf (1,Ak,Bj)))
def Fs(L:Nat)(a0:List Int)(a1:List Int):Nat->Bool->Int->Option (Nat×Tu5)
 |0,_,_=>none
 |n+1,Ak,Bj=>Nc L a0 a1 (Fs L a0 a1 n) Ak Bj
theorem B05(a0:List Int)(a1:List Int):LP (EV (O29 L) L 9 c29.w.l.u.l.l) [0,1,4,12,13] [] (B25 a0 a1) [.ret,.exit 0] (λn v=>Fs L a0 a1 n v.1 v.2) K:=lE (λ_=>rfl) λn v ih=>eE (Nc L a0 a1 (λAk Bj=>re (ih (Ak,Bj))) v.1 v.2)
def Ni [An A Bool](L:Nat)(o1:Nat×Tu5):A:=
 (sl o1.1 [(lf o1.2.1),
 (lf true)])
def Nk [An A Bool](L:Nat)(a0:List Int)(a1:List Int)(nx1:A):A:=
 (cn ((a0.length:Int) != (a1.length:Int))
 (lf false)
 nx1)
def Ahn [An A Bool](a0:List Int)(a1:List Int):A:=Nk L a0 a1 (bd (Fs L a0 a1 L false 0) λo1=>Ni L o1)
def Ep(a0:List Int)(a1:List Int):Option Bool:=Ahn L a0 a1
def X29:F3:=E2 B 29 cl3 cl3 (Ep L) λa0 a1 r h=>hF Tryz.func29 (C:=O29 L) (oS _) L (λkk=>eE (Nk L a0 a1 (hq (B05 L (KA (O29 L) L 9 c29 (rl [4,1,2,1]) (KE Tryz.f29 kk)) a0 a1 L (false,0)) λo1=>Ni L o1))) h
def Aqt [An A Bool](a0:Bk)(a1:Bk):A:=
 (jp (.cn (a0.Op == a1.Op)
 (.lf (a0.A == a1.A))
 (.lf false)) (λb1=>
 (jp (.cn b1
 (.lf (a0.B == a1.B))
 (.lf false)) (λb2=>
 (jp (.cn b2
 (.lf (a0.N == a1.N))
 (.lf false)) (λb3=>
 (jb (.cn b3
 (.bd (Ep L a0.aW a1.aW) λr5=>
 (.lf r5))
 (.lf false)) (λb4=>
 (jb (.cn b4
 (.bd (Ep L a0.aU a1.aU) λr7=>
 (.lf r7))
 (.lf false)) (λb6=>
 (lf b6)))))))))))
def Lm(a0:Bk)(a1:Bk):Option Bool:=Aqt L a0 a1
def By5:F3:=E2 B 148 Ob Ob (Lm L) λa0 a1 r h=>hF Tryz.func148 (oS [X29 L]) L (λkk=>eE (Aqt L a0 a1)) h
def B57:=CC Tryz.f183
def Byn(L:Nat):Bc:=oL []
def Bv2(a0:List Yb)(a1:Yb)(v:Jc):St:=⟨[(0,lv (.t9 a0)),(1,S a1),(4,I v.1),(7,I (a0.length:Int)),(8,I v.2)],[],0⟩
def Jg [An A C3](L:Nat)(a0:List Yb)(a1:Yb)(rec:Int->Int->A)(Ak:Int)(Bj:Int):A:=
 (lw Bj a0
 (cn (a1.toList == (gD a0 Bj).toList)
 (lf (0,Bj,Bj))
 (rec Ak (Bu (Bj+1))))
 (lf (1,Ak,Bj)))
def D4(L:Nat)(a0:List Yb)(a1:Yb):Nat->Int->Int->Option C3
 |0,_,_=>none
 |n+1,Ak,Bj=>Jg L a0 a1 (D4 L a0 a1 n) Ak Bj
theorem Bue(a0:List Yb)(a1:Yb):LP (EV (Byn L) L 9 B57.u.l.u.l.l) [0,1,4,7,8] [] (Bv2 a0 a1) [.ret,.exit 0] (λn v=>D4 L a0 a1 n v.1 v.2) K:=lE (λ_=>rfl) λn v ih=>eE (Jg L a0 a1 (λAk Bj=>re (ih (Ak,Bj))) v.1 v.2)
def P7 [An A Int](L:Nat)(o1:Nat×Jc):A:=
 (sl o1.1 [(lf o1.2.1),
 (lf (-1))])
def Abb [An A Int](a0:List Yb)(a1:Yb):A:=(bd (D4 L a0 a1 L 0 0) λo1=>P7 L o1)
def Na(a0:List Yb)(a1:Yb):Option Int:=Abb L a0 a1
def B9z:F3:=E2 I 183 cl9 cS (Na L) λa0 a1 r h=>hF Tryz.func183 (C:=Byn L) (oS _) L (λkk=>eE ((hq (Bue L (KA (Byn L) L 9 B57 (rl [2,1,2,1]) (KE Tryz.f183 kk)) a0 a1 L (0,0)) λo1=>P7 L o1))) h
def Ph [An A Bool](a0:List Yb)(a1:Yb):A:=
 (bd (Na L a0 a1) λr1=>
 (lf (decide (r1>=0))))
def Bx(a0:List Yb)(a1:Yb):Option Bool:=Ph L a0 a1
def B4u:F3:=E2 B 149 cl9 cS (Bx L) λa0 a1 r h=>hF Tryz.func149 (oS [B9z L]) L (λkk=>eE (Ph L a0 a1)) h
def Ake [An A Bool](L:Nat)(a0:Bk):A:=
 (cn (a0.Op == 1)
 (jp (.cn ((Bu ((a0.aW.length:Int)+(a0.aU.length:Int))) == 0)
 (.lf (a0.B == 0))
 (.lf false)) (λb1=>
 (jp (.cn b1
 (.lf (a0.N == 0))
 (.lf false)) (λb2=>
 (lf b2)))))
 (cn (a0.Op == 2)
 (cn (a0.Op == 2)
 (jp (.cn ((Bu ((a0.aW.length:Int)+(a0.aU.length:Int))) == 0)
 (.lf (a0.N == 0))
 (.lf false)) (λb3=>
 (lf b3)))
 (cn (a0.Op == 4)
 (lf ((Bu ((a0.aW.length:Int)+(a0.aU.length:Int))) == 0))
 (cn (a0.Op == 3)
 (jp (.cn (a0.A == 0)
 (.lf (a0.B == 0))
 (.lf false)) (λb4=>
 (jp (.cn b4
 (.lf (a0.N == 0))
 (.lf false)) (λb5=>
 (lf b5)))))
 (lf false))))
 (cn (a0.Op == 5)
 (jp (.cn ((Bu ((a0.aW.length:Int)+(a0.aU.length:Int))) == 0)
 (.lf (a0.N == 0))
 (.lf false)) (λb6=>
 (lf b6)))
 (cn (a0.Op == 4)
 (lf ((Bu ((a0.aW.length:Int)+(a0.aU.length:Int))) == 0))
 (cn (a0.Op == 3)
 (jp (.cn (a0.A == 0)
 (.lf (a0.B == 0))
 (.lf false)) (λb7=>
 (jp (.cn b7
 (.lf (a0.N == 0))
 (.lf false)) (λb8=>
 (lf b8)))))
 (lf false))))))
def Ac9(a0:Bk):Option Bool:=Ake L a0
def B9o:F3:=E1 B 168 Ob (Ac9 L) λa0 r h=>hF Tryz.func168 (oS []) L (λkk=>eE (Ake L a0)) h
def B6h:=CC Tryz.f197
def B6m:=CC Tryz.f215
def B50:=CC Tryz.f169
def Bb0(L:Nat):Bc:=oL []
def Bvu(p1_0:List Int)(p1_1:Int)(p1_2:Int)(v:Jc):St:=⟨[(0,lv (.t3 p1_0)),(1,Bo6),(4,I v.1),(7,I (p1_0.length:Int)),(8,I v.2)],[(3,[I p1_1]),(4,[I p1_2])],1005⟩
def Vl [An A C3](L:Nat)(p1_0:List Int)(p1_1:Int)(p1_2:Int)(rec:Int->Int->A)(Ag:Int)(Af:Int):A:=
 (lw Af p1_0
 (jp (.cn (decide ((gD p1_0 Af)<p1_1))
 (.lf true)
 (.lf (decide ((gD p1_0 Af)>p1_2)))) (λb1=>
 (cn b1
 (lf (0,Af,Af))
 (rec Ag (Bu (Af+1))))))
 (lf (1,Ag,Af)))
def I2(L:Nat)(p1_0:List Int)(p1_1:Int)(p1_2:Int):Nat->Int->Int->Option C3
 |0,_,_=>none
 |n+1,Ag,Af=>Vl L p1_0 p1_1 p1_2 (I2 L p1_0 p1_1 p1_2 n) Ag Af
theorem Bt6(p1_0:List Int)(p1_1:Int)(p1_2:Int):LP (EV (Bb0 L) L 7 B6m.u.l.u.l.l) [0,1,4,7,8] [3,4] (Bvu p1_0 p1_1 p1_2) [.ret,.exit 0] (λn v=>I2 L p1_0 p1_1 p1_2 n v.1 v.2) K:=lE (λ_=>rfl) λn v ih=>eE (Vl L p1_0 p1_1 p1_2 (λAg Af=>re (ih (Ag,Af))) v.1 v.2)
def Bp9(p1_0:List Int)(p1_1:Int)(p1_2:Int)(k:Dj):Int->Prop:=λo=>k (I o) [(3,[I p1_1]),(4,[I p1_2])]
def Aci [An A Int](L:Nat)(o2:Nat×Jc):A:=
 (sl o2.1 [(lf o2.2.1),
 (lf (-1))])
def Alr [An A Int](p1_0:List Int)(p1_1:Int)(p1_2:Int):A:=(bd (I2 L p1_0 p1_1 p1_2 L 0 0) λo2=>Aci L o2)
def Abt(p1_0:List Int)(p1_1:Int)(p1_2:Int):Option Int:=Alr L p1_0 p1_1 p1_2
theorem Bs1(p1_0:List Int)(p1_1:Int)(p1_2:Int):YO (Bb0 L) L 8 215 [lv (.t3 p1_0),Bo6] [(3,[I p1_1]),(4,[I p1_2])] k=ob (Abt L p1_0 p1_1 p1_2) (Bp9 p1_0 p1_1 p1_2 k):=(C4 _ _ _ jn4 _ _ _ _ _ _ _).trans (eE ((hq (Bt6 L (KA (Bb0 L) L 7 B6m (rl [2,1,2,1]) (KJ Tryz.f215 k)) p1_0 p1_1 p1_2 L (0,0)) λo2=>Aci L o2)))
def Vv [An A Bool](L:Nat)(o3:Int):A:=
 (lf (!(decide (o3>=0))))
def Asq [An A Bool](a0:Int)(a1:Int)(a2:List Int):A:=(bd (Abt L a2 a0 a1) λo3=>Vv L o3)
def Gn(a0:Int)(a1:Int)(a2:List Int):Option Bool:=Asq L a0 a1 a2
def B9p:F3:=E3 B 169 (cI .i64) (cI .i64) cl3 (Gn L) λa0 a1 a2 r h=>hF Tryz.func169 (C:=Bb0 L) (oS _) L (λkk=>eE ((hq (Bs1 L (Md (Bb0 L) L 8 2 3 B6h.u.l ⟨[(6,Bo6),(5,lv (.t3 a2)),(0,lv (.t3 a2)),(1,Bo6),Ais],[(3,[I a0]),(4,[I a1])],1005⟩ (some 7) (kN (KA (Bb0 L) L 8 B6h (rl [2,1]) (KJ Tryz.f197 (Md (Bb0 L) L 9 2 3 B50.u.l ⟨[(8,Bo6),(7,lv (.t3 a2)),(2,lv (.t3 a2)),Th,Be9,(6,B false)],[(3,[I a0]),(4,[I a1])],0⟩ (some 9) (kN (KA (Bb0 L) L 9 B50 (rl [2,1]) (KE Tryz.f169 kk)))))))) a2 a0 a1) λo3=>Vv L o3))) h
def Anz [An A Int](a0:Bk):A:=
 (bd (Ac9 L a0) λr1=>
 (cn (!r1)
 (lf 1)
 (cn (a0.Op == 1)
 (bd (Gn L 0 1000000000 [a0.A]) λr2=>
 (cn (!r2)
 (lf 2)
 (lf 0)))
 (cn (a0.Op == 2)
 (bd (Gn L 0 1000000000 [a0.A,a0.B]) λr3=>
 (jp (.cn r3
 (.lf (decide (a0.A<=a0.B)))
 (.lf false)) (λb4=>
 (cn (!b4)
 (lf 2)
 (lf 0)))))
 (cn (a0.Op == 4)
 (bd (Gn L 1 20 [a0.N]) λr5=>
 (cn r5
 (jb (.bd (Gn L 0 1000000 [a0.A,a0.B]) λr7=>
 (.lf r7)) (λb6=>
 (jp (.cn b6
 (.lf (decide (a0.A<=a0.B)))
 (.lf false)) (λb8=>
 (cn (!b8)
 (lf 2)
 (lf 0))))))
 (nq (nq (lf 2)))))
 (cn (a0.Op == 5)
 (bd (Gn L 1 1000 [a0.A,a0.B]) λr9=>
 (cn (!r9)
 (lf 2)
 (lf 0)))
 (cn (a0.Op == 3)
 (cn ((a0.aW.length:Int) != (a0.aU.length:Int))
 (lf 8)
 (cn ((a0.aW.length:Int) == 0)
 (lf 7)
 (cn (decide ((a0.aW.length:Int)>20))
 (lf 6)
 (bd (Gn L 0 1000000000 a0.aW) λr10=>
 (jb (.cn r10
 (.bd (Gn L 1 1000 a0.aU) λr12=>
 (.lf r12))
 (.lf false)) (λb11=>
 (cn (!b11)
 (lf 2)
 (lf 0))))))))
 (lf 2))))))))
def F4(a0:Bk):Option Int:=Anz L a0
def By0:F3:=E1 I 129 Ob (F4 L) λa0 r h=>hF Tryz.func129 (oS [B9o L,B9p L]) L (λkk=>eE (Anz L a0)) h
def Abm [An A Int](a0:Aa)(a1:Np):A:=
 (cn (a1.dH.toList == (⟨#[]⟩:Yb).toList)
 (bd (Lm L a1.Up (⟨0,0,0,0,[],[]⟩:Bk)) λr1=>
 (cn (!r1)
 (nq (lf 1))
 (bd (Lm L a1.Down (⟨0,0,0,0,[],[]⟩:Bk)) λr2=>
 (nq (cn (!r2)
 (lf 1)
 (cn (a1.dH.toList == (⟨#[]⟩:Yb).toList)
 (lf 0)
 (bd (Bx L a0.bB a1.dH) λr3=>
 (cn (!r3)
 (lf 5)
 (bd (F4 L a1.Up) λr4=>
 (cn (r4 != 0)
 (lf r4)
 (bd (F4 L a1.Down) λr5=>
 (lf r5))))))))))))
 (nq (cn (a1.dH.toList == (⟨#[]⟩:Yb).toList)
 (lf 0)
 (bd (Bx L a0.bB a1.dH) λr6=>
 (cn (!r6)
 (lf 5)
 (bd (F4 L a1.Up) λr7=>
 (cn (r7 != 0)
 (lf r7)
 (bd (F4 L a1.Down) λr8=>
 (lf r8)))))))))
def U9(a0:Aa)(a1:Np):Option Int:=Abm L a0 a1
def X97:F3:=E2 I 97 C7 A9g (U9 L) λa0 a1 r h=>hF Tryz.func97 (oS [By0 L,By5 L,B4u L]) L (λkk=>eE (Abm L a0 a1)) h
def Bq5:=CC Tryz.f150
def Bln(L:Nat):Bc:=oL []
def Bvp(a0:List (List A9))(v:Jc):St:=⟨[(0,lv (.gH a0)),(2,.bA true (.dQ [])),(3,I v.1),(6,.any),(8,.any),(9,lv (.gH a0)),(10,I (a0.length:Int)),(11,I v.2),(27,.any)],[],0⟩
def Hh [An A C3](L:Nat)(a0:List (List A9))(rec:Int->Int->A)(Ak:Int)(Bbk:Int):A:=
 (lw Bbk a0
 (cn (decide ((Bu (Ak+((gD a0 Bbk).length:Int)))<0))
 fl
 (rec (Bu (Ak+((gD a0 Bbk).length:Int))) (Bu (Bbk+1))))
 (lf (0,Ak,Bbk)))
def C8(L:Nat)(a0:List (List A9)):Nat->Int->Int->Option C3
 |0,_,_=>none
 |n+1,Ak,Bbk=>Hh L a0 (C8 L a0 n) Ak Bbk
theorem Bt2(a0:List (List A9)):LP (EV (Bln L) L 9 Bq5.w.l.u.l.l) [0,2,3,6,8,9,10,11,27] [] (Bvp a0) [.exit 0] (λn v=>C8 L a0 n v.1 v.2) K:=lE (λ_=>rfl) λn v ih=>eE (Hh L a0 (λAk Bbk=>re (ih (Ak,Bbk))) v.1 v.2)
def Bvq(a0:List (List A9))(v:List A9×Int):St:=⟨[(0,.any),(2,.bA true (.dQ [])),(3,.any),(5,.any),(6,.bA true (.dQ v.1)),A7e,(25,lv (.gH a0)),(26,I (a0.length:Int)),(27,I v.2)],[],0⟩
def Hi [An A (Nat×List A9×Int)](L:Nat)(a0:List (List A9))(rec:List A9->Int->A)(Gf:List A9)(T6:Int):A:=
 (lw T6 a0
 (gq ((Gf.length+(gD a0 T6).length)*24<=140737488355328)
 (gq (Gf.length+(gD a0 T6).length<=maxLen)
 (rec (Gf++(gD a0 T6)) (Bu (T6+1)))))
 (lf (0,Gf,T6)))
def C9(L:Nat)(a0:List (List A9)):Nat->List A9->Int->Option (Nat×List A9×Int)
 |0,_,_=>none
 |n+1,Gf,T6=>Hi L a0 (C9 L a0 n) Gf T6
theorem Bt3(a0:List (List A9)):LP (EV (Bln L) L 9 Bq5.x.l.u.l.l) [0,2,3,5,6,11,25,26,27] [] (Bvq a0) [.exit 2] (λn v=>C9 L a0 n v.1 v.2) K:=lE (λ_=>rfl) λn v ih=>eE (Hi L a0 (λGf T6=>re (ih (Gf,T6))) v.1 v.2)
def Hk [An A (List A9)](L:Nat)(o2:Nat×List A9×Int):A:=
 (sl o2.1 [(lf o2.2.1)])
def Hl [An A (List A9)](L:Nat)(a0:List (List A9))(o1:Nat×Jc)(nx2:A):A:=
 (sl o1.1 [(gq (0<=o1.2.1)
 (gq (o1.2.1*((24:Nat):Int)<=140737488355328)
 (gq (o1.2.1<=(4611686018427387904:Int))
 nx2)))])
def K2 [An A (List A9)](a0:List (List A9))(o1:Nat×Jc):A:=Hl L a0 o1 (bd (C9 L a0 L [] 0) λo2=>Hk L o2)
def Wp [An A (List A9)](a0:List (List A9)):A:=(bd (C8 L a0 L 0 0) λo1=>K2 L a0 o1)
def Il(a0:List (List A9)):Option (List A9):=Wp L a0
def B9k:F3:=E1 (λ(x:List A9)=>lv (.dQ x)) 150 Ca7 (Il L) λa0 r h=>hF Tryz.func150 (C:=Bln L) (oS _) L (λkk=>eE ((hq (Bt2 L (KA (Bln L) L 9 Bq5 (rl [4,1,2,1]) (KE Tryz.f150 kk)) a0 L (0,0)) λo1=>Hl L a0 o1 (hq (Bt3 L (KA (Bln L) L 9 Bq5 (rl [8,1,2,1]) (KE Tryz.f150 kk)) a0 L ([],0)) λo2=>Hk L o2)))) h
def Bhs(F:(List Ad)->Option Int):Prop:=∀y0 r,F y0=some r->Ho Tryz.prog 185 [Y7.en y0] I r
def B58:=CC Tryz.f185
def Byo(F9:(List Ad)->Option Int)(L:Nat):Bc:=(orc 185 (A1 I Y7 F9) (oL []))
theorem Cce(F9:(List Ad)->Option Int)(Bmx:Bhs F9)(L:Nat):Dl Tryz.prog (Byo F9 L):=(Em (a1 _ Bmx) (oS []))
def Bv3(a0:List Ad)(v:Jc):St:=⟨[(0,.any),(2,I 0),(3,I v.1),(8,lv (.dW a0)),(9,I (a0.length:Int)),(10,I v.2)],[],0⟩
def Xn [An A C3](F9:(List Ad)->Option Int)(L:Nat)(a0:List Ad)(rec:Int->Int->A)(Ag:Int)(Bj:Int):A:=
 (lw Bj a0
 (bd (F9 ((gD a0 Bj).bD)) λr1=>
 (bd (F9 ((gD a0 Bj).bL)) λr2=>
 (rec (Bu (Ag+(Bu (r1+r2)))) (Bu (Bj+1)))))
 (lf (0,Ag,Bj)))
def Ko(F9:(List Ad)->Option Int)(L:Nat)(a0:List Ad):Nat->Int->Int->Option C3
 |0,_,_=>none
 |n+1,Ag,Bj=>Xn F9 L a0 (Ko F9 L a0 n) Ag Bj
theorem Buf(F9:(List Ad)->Option Int)(L:Nat)(K:Ef)(a0:List Ad):LP (EV (Byo F9 L) L 9 B58.w.l.u.l.l) [0,2,3,8,9,10] [] (Bv3 a0) [.exit 0] (λn v=>Ko F9 L a0 n v.1 v.2) K:=lE (λ_=>rfl) λn v ih=>eE (Xn F9 L a0 (λAg Bj=>re (ih (Ag,Bj))) v.1 v.2)
def X5 [An A Int](F9:(List Ad)->Option Int)(L:Nat)(o3:Nat×Jc):A:=
 (sl o3.1 [(lf o3.2.1)])
def Au5 [An A Int](F9:(List Ad)->Option Int)(L:Nat)(a0:List Ad):A:=(bd (Ko F9 L a0 L (a0.length:Int) 0) λo3=>X5 F9 L o3)
def Anh(F9:(List Ad)->Option Int)(L:Nat)(a0:List Ad):Option Int:=Au5 F9 L a0
theorem Cav(F9:(List Ad)->Option Int)(Bmx:Bhs F9)(L:Nat):Bhs (Anh F9 L):=λa0 r h=>hF Tryz.func185 (Cce F9 Bmx L) L (λkk=>eE ((hq (Buf F9 L (KA (Byo F9 L) L 9 B58 (rl [4,1,2,1]) (KE Tryz.f185 kk)) a0 L ((a0.length:Int),0)) λo3=>X5 F9 L o3))) h
def Lc:Nat->(List Ad)->Option Int
 |0,_=>none
 |L+1,a0=>Anh (Lc L) L a0
theorem Bsi(L:Nat):Bhs (Lc L):=by
 induction L with
 |zero=>exact λ_ _ h=>(by cases h)
 |succ L ih=>
  have i185:=ih;exact Cav (Lc L) i185 L
def B90(L:Nat):F3:=E1 I 185 Y7 (Lc L) (Bsi L)
def Bht(F:(List Ad)->Option Int):Prop:=∀y0 r,F y0=some r->Ho Tryz.prog 186 [Y7.en y0] I r
def B59:=CC Tryz.f186
def Byp(Ga:(List Ad)->Option Int)(L:Nat):Bc:=(orc 186 (A1 I Y7 Ga) (oL []))
theorem Ccf(Ga:(List Ad)->Option Int)(Bmy:Bht Ga)(L:Nat):Dl Tryz.prog (Byp Ga L):=(Em (a1 _ Bmy) (oS []))
def Bv4(a0:List Ad)(v:Jc):St:=⟨[(0,.any),(2,I 0),(3,I v.1),(6,lv (.dW a0)),(7,I (a0.length:Int)),(8,I v.2)],[],0⟩
def Xo [An A C3](Ga:(List Ad)->Option Int)(L:Nat)(a0:List Ad)(rec:Int->Int->A)(Ag:Int)(Bj:Int):A:=
 (lw Bj a0
 (bd (Ga ((gD a0 Bj).bD)) λr1=>
 (bd (Ga ((gD a0 Bj).bL)) λr2=>
 (rec (if(Bu (1+r2))>(if(Bu (1+r1))>Ag then(Bu (1+r1))else Ag) then(Bu (1+r2)) else(if(Bu (1+r1))>Ag then(Bu (1+r1))else Ag)) (Bu (Bj+1)))))
 (lf (0,Ag,Bj)))
def Kq(Ga:(List Ad)->Option Int)(L:Nat)(a0:List Ad):Nat->Int->Int->Option C3
 |0,_,_=>none
 |n+1,Ag,Bj=>Xo Ga L a0 (Kq Ga L a0 n) Ag Bj
theorem Bug(Ga:(List Ad)->Option Int)(L:Nat)(K:Ef)(a0:List Ad):LP (EV (Byp Ga L) L 9 B59.w.l.u.l.l) [0,2,3,6,7,8] [] (Bv4 a0) [.exit 0] (λn v=>Kq Ga L a0 n v.1 v.2) K:=lE (λ_=>rfl) λn v ih=>eE (Xo Ga L a0 (λAg Bj=>re (ih (Ag,Bj))) v.1 v.2)
def X6 [An A Int](Ga:(List Ad)->Option Int)(L:Nat)(o3:Nat×Jc):A:=
 (sl o3.1 [(lf o3.2.1)])
def Au6 [An A Int](Ga:(List Ad)->Option Int)(L:Nat)(a0:List Ad):A:=(bd (Kq Ga L a0 L 0 0) λo3=>X6 Ga L o3)
def Ani(Ga:(List Ad)->Option Int)(L:Nat)(a0:List Ad):Option Int:=Au6 Ga L a0
theorem Caw(Ga:(List Ad)->Option Int)(Bmy:Bht Ga)(L:Nat):Bht (Ani Ga L):=λa0 r h=>hF Tryz.func186 (Ccf Ga Bmy L) L (λkk=>eE ((hq (Bug Ga L (KA (Byp Ga L) L 9 B59 (rl [4,1,2,1]) (KE Tryz.f186 kk)) a0 L (0,0)) λo3=>X6 Ga L o3))) h
def Lf:Nat->(List Ad)->Option Int
 |0,_=>none
 |L+1,a0=>Ani (Lf L) L a0
theorem Bsj(L:Nat):Bht (Lf L):=by
 induction L with
 |zero=>exact λ_ _ h=>(by cases h)
 |succ L ih=>
  have i186:=ih;exact Caw (Lf L) i186 L
def B91(L:Nat):F3:=E1 I 186 Y7 (Lf L) (Bsj L)
def Ahp:=CC Tryz.f210
def Ate(L:Nat):Bc:=oL []
def A72:(Bs×Bool)->Prop:=λx=>kk ((λ(x:Bs×Bool)=>.bY [.agg (Abr x.1),B x.2]) x)
def Bi8:St:=⟨[Sw,(3,B false)],Blb,0⟩
def Bir(L:Nat)(kk:K5):Ef:=(KE Tryz.f210 kk)
def Aak [An A (Bs×Bool)](L:Nat):A:=
 (lf ((⟨false,false,false,false,false,false,false,false,false⟩:Bs),false))
theorem Brk:EV (Ate L) L 9 Ahp.w (Bi8) (Bir L kk)=ob (Aak L) (A72 kk):=eE (Aak L)
def A2f(a0:Int)(p803_2:Bool):St:=⟨[Sw,(3,B false),(4,I a0),(32,B p803_2)],Blb,0⟩
def A15(e0:EC):Ef:=(Gi 0 (Qr (EV (Ate L) L 9 e0) (KE Tryz.f210 kk)))
def sx_stmt_uses_3 [An A (Bs×Bool)](L:Nat)(a0:Int)(p803_2:Bool)(nx1:A):A:=
 (cn p803_2
 (lf ((⟨true,false,false,false,false,false,false,false,false⟩:Bs),true))
 (cn (a0 == 13)
 (lf ((⟨true,true,true,false,true,false,false,false,false⟩:Bs),true))
 (cn (a0 == 14)
 (lf ((⟨true,false,true,false,true,false,false,false,false⟩:Bs),true))
 (cn (a0 == 18)
 (lf ((⟨false,false,false,false,false,false,false,false,false⟩:Bs),true))
 nx1))))
def Aii [An A (Bs×Bool)](a0:Int)(p803_2:Bool):A:=sx_stmt_uses_3 L a0 p803_2 (Aak L)
theorem Brz(a0:Int)(p803_2:Bool)(z1:EC):EV (Ate L) L 9 Ahp.u.l.u.l.x.x.w.u.r (A2f a0 p803_2) (A15 L kk (EC.put (rl [1]) z1 Ahp.u.r))= @sx_stmt_uses_3 Prop (anP (A72 kk)) L a0 p803_2 (EV (Ate L) L 9 z1 (Bi8) (Bir L kk)):=by kernel_rfl
theorem Brm(a0:Int)(p803_2:Bool):EV (Ate L) L 9 Ahp.u.l.u.l.x.x.w.u.r (A2f a0 p803_2) (A15 L kk Ahp.u.r)=ob (Aii L a0 p803_2) (A72 kk):=Eq.trans (b:=EV (Ate L) L 9 Ahp.u.l.u.l.x.x.w.u.r (A2f a0 p803_2) (A15 L kk (EC.put (rl [1]) Ahp.w Ahp.u.r))) (by kernel_rfl) ((Brz L kk a0 p803_2 Ahp.w).trans (eE (sx_stmt_uses_3 L a0 p803_2 (re (Brk L kk)))))
def A2e(a0:Int)(p802_2:Bool):St:=⟨[Sw,(3,B false),(4,I a0),(5,B p802_2)],Blb,0⟩
def A14(e0:EC):Ef:=(Gi 0 (Qr (EV (Ate L) L 9 e0) (KE Tryz.f210 kk)))
def sx_stmt_uses_2 [An A (Bs×Bool)](L:Nat)(a0:Int)(p802_2:Bool)(nx3:Int->Bool->A):A:=
 (cn p802_2
 (lf ((⟨true,false,true,false,false,false,false,false,false⟩:Bs),true))
 (cn (a0 == 2)
 (lf ((⟨true,true,false,false,false,true,false,false,false⟩:Bs),true))
 (cn (a0 == 3)
 (lf ((⟨false,false,true,false,false,false,false,true,true⟩:Bs),true))
 (cn (a0 == 4)
 (lf ((⟨false,false,true,false,false,false,false,true,false⟩:Bs),true))
 (cn (a0 == 5)
 (lf ((⟨false,false,true,false,false,false,false,false,false⟩:Bs),true))
 (cn (a0 == 6)
 (lf ((⟨true,false,true,true,false,false,true,false,false⟩:Bs),true))
 (cn (a0 == 9)
 (lf ((⟨true,true,false,false,false,false,false,false,false⟩:Bs),true))
 (cn (a0 == 10)
 (nx3 a0 (a0 == 10))
 (nx3 a0 (a0 == 11))))))))))
def Aih [An A (Bs×Bool)](a0:Int)(p802_2:Bool):A:=sx_stmt_uses_2 L a0 p802_2 (λa0 p803_2=>Aii L a0 p803_2)
theorem Bry(a0:Int)(p802_2:Bool)(z3:EC):EV (Ate L) L 9 (EC.put (rl [21]) z3 Ahp.u.l.u.l.u) (A2e a0 p802_2) (A14 L kk Ahp.u.r)= @sx_stmt_uses_2 Prop (anP (A72 kk)) L a0 p802_2 (λa0 p803_2=>EV (Ate L) L 9 z3 (A2f a0 p803_2) (A15 L kk Ahp.u.r)):=by kernel_rfl
theorem Brl(a0:Int)(p802_2:Bool):EV (Ate L) L 9 Ahp.u.l.u.l.u (A2e a0 p802_2) (A14 L kk Ahp.u.r)=ob (Aih L a0 p802_2) (A72 kk):=Eq.trans (b:=EV (Ate L) L 9 (EC.put (rl [21]) Ahp.u.l.u.l.x.x.w.u.r Ahp.u.l.u.l.u) (A2e a0 p802_2) (A14 L kk Ahp.u.r)) (by kernel_rfl) ((Bry L kk a0 p802_2 Ahp.u.l.u.l.x.x.w.u.r).trans (eE (sx_stmt_uses_2 L a0 p802_2 (λa0 p803_2=>re (Brm L kk a0 p803_2)))))
def sx_stmt_uses_0 [An A (Bs×Bool)](L:Nat)(a0:Int)(nx2:Int->Bool->A):A:=
 (cn (a0 == 1)
 (nx2 a0 (a0 == 1))
 (cn (a0 == 7)
 (nx2 a0 (a0 == 7))
 (cn (a0 == 8)
 (nx2 a0 (a0 == 8))
 (cn (a0 == 12)
 (nx2 a0 (a0 == 12))
 (cn (a0 == 15)
 (nx2 a0 (a0 == 15))
 (cn (a0 == 16)
 (nx2 a0 (a0 == 16))
 (nx2 a0 (a0 == 17))))))))
def Az1 [An A (Bs×Bool)](a0:Int):A:=sx_stmt_uses_0 L a0 (λa0 p802_2=>Aih L a0 p802_2)
theorem Brx(a0:Int)(z2:EC):EW (Ate L) L 9 (RS Tryz.f210) (EC.put (rl [2,1,2,1,2]) z2 Ahp) [I a0] kk= @sx_stmt_uses_0 Prop (anP (A72 kk)) L a0 (λa0 p802_2=>EV (Ate L) L 9 z2 (A2e a0 p802_2) (A14 L kk Ahp.u.r)):=by kernel_rfl
def Aej(a0:Int):Option (Bs×Bool):=Az1 L a0
def B41:F3:=E1 (λ(x:Bs×Bool)=>.bY [.agg (Abr x.1),B x.2]) 210 (cI .i64) (Aej L) λa0 r h=>hF Tryz.func210 (C:=Ate L) (oS _) L (λkk=>Eq.trans (b:=EW (Ate L) L 9 (RS Tryz.f210) (EC.put (rl [2,1,2,1,2]) Ahp.u.l.u.l.u Ahp) [I a0] kk) (by kernel_rfl) ((Brx L kk a0 Ahp.u.l.u.l.u).trans (eE (sx_stmt_uses_0 L a0 (λa0 p802_2=>re (Brl L kk a0 p802_2)))))) h
def Bhv(F:Ab->Ab->Option Bool):Prop:=∀y0 y1 r,F y0 y1=some r->Ho Tryz.prog 192 [Bi.en y0,Bi.en y1] B r
def B6c:=CC Tryz.f192
def Byr(F1:Ab->Ab->Option Bool)(L:Nat):Bc:=(orc 192 (A2 B Bi Bi F1) (oL []))
theorem Cch(F1:Ab->Ab->Option Bool)(Bm0:Bhv F1)(L:Nat):Dl Tryz.prog (Byr F1 L):=(Em (a2 _ Bm0) (oS []))
def Bv6(a0:Ab)(a1:Ab)(v:Tu5):St:=⟨[(0,.any),(1,.any),(2,.any),Th,(4,B v.1),(36,lv (.dU a0.aY)),(37,I (a0.aY.length:Int)),(38,I v.2)],[(2,(Cl a0)),(3,(Cl a1))],0⟩
def g7 [An A (Nat×Tu5)](F1:Ab->Ab->Option Bool)(L:Nat)(a0:Ab)(a1:Ab)(rec:Bool->Int->A)(Ah:Bool)(Af:Int):A:=
 (lw Af a0.aY
 (gi Af a1.aY
 (bd (F1 (Ab.cp (gD a0.aY Af)) (Ab.cp (gD a1.aY Af))) λr4=>
 (cn (!r4)
 (lf (0,false,Af))
 (rec Ah (Bu (Af+1))))))
 (lf (1,Ah,Af)))
def Mz(F1:Ab->Ab->Option Bool)(L:Nat)(a0:Ab)(a1:Ab):Nat->Bool->Int->Option (Nat×Tu5)
 |0,_,_=>none
 |n+1,Ah,Af=>g7 F1 L a0 a1 (Mz F1 L a0 a1 n) Ah Af
theorem Bui(F1:Ab->Ab->Option Bool)(L:Nat)(K:Ef)(a0:Ab)(a1:Ab):LP (EV (Byr F1 L) L 9 B6c.w.l.u.l.l) [0,1,2,3,4,36,37,38] [2,3] (Bv6 a0 a1) [.ret,.exit 0] (λn v=>Mz F1 L a0 a1 n v.1 v.2) K:=lE (λ_=>rfl) λn v ih=>eE (g7 F1 L a0 a1 (λAh Af=>re (ih (Ah,Af))) v.1 v.2)
def Aac [An A Bool](F1:Ab->Ab->Option Bool)(L:Nat)(o5:Nat×Tu5):A:=
 (sl o5.1 [(lf o5.2.1),
 (lf true)])
def Aa3 [An A Bool](F1:Ab->Ab->Option Bool)(L:Nat)(a0:Ab)(a1:Ab)(nx1:A):A:=
 (jp (.cn (a0.Op != a1.Op)
 (.lf true)
 (.lf (!(a0.aF.toList == a1.aF.toList)))) (λb1=>
 (jp (.cn b1
 (.lf true)
 (.lf (a0.N != a1.N))) (λb2=>
 (jp (.cn b2
 (.lf true)
 (.lf ((a0.aY.length:Int) != (a1.aY.length:Int)))) (λb3=>
 (cn b3
 (lf false)
 nx1)))))))
def Az0 [An A Bool](F1:Ab->Ab->Option Bool)(L:Nat)(a0:Ab)(a1:Ab):A:=Aa3 F1 L a0 a1 (bd (Mz F1 L a0 a1 L false 0) λo5=>Aac F1 L o5)
def Ap0(F1:Ab->Ab->Option Bool)(L:Nat)(a0:Ab)(a1:Ab):Option Bool:=Az0 F1 L a0 a1
theorem Cay(F1:Ab->Ab->Option Bool)(Bm0:Bhv F1)(L:Nat):Bhv (Ap0 F1 L):=λa0 a1 r h=>hF Tryz.func192 (Cch F1 Bm0 L) L (λkk=>eE (Aa3 F1 L a0 a1 (hq (Bui F1 L (KA (Byr F1 L) L 9 B6c (rl [4,1,2,1]) (KE Tryz.f192 kk)) a0 a1 L (false,0)) λo5=>Aac F1 L o5))) h
def Lo:Nat->Ab->Ab->Option Bool
 |0,_,_=>none
 |L+1,a0,a1=>Ap0 (Lo L) L a0 a1
theorem Bsl(L:Nat):Bhv (Lo L):=by
 induction L with
 |zero=>exact λ_ _ _ h=>(by cases h)
 |succ L ih=>
  have i192:=ih;exact Cay (Lo L) i192 L
def B4x(L:Nat):F3:=E2 B 192 Bi Bi (Lo L) (Bsl L)
def Aqv [An A Bool](a0:Ad)(a1:Bs):A:=
 (jp (.cn a1.dP
 (.lf true)
 (.lf (a0.aF.toList == (⟨#[]⟩:Yb).toList))) (λb1=>
 (jp (.cn b1
 (.cn a1.fQ
 (.lf true)
 (.lf (a0.Of.toList == (⟨#[]⟩:Yb).toList)))
 (.lf false)) (λb2=>
 (cn b2
 (cn a1.fH
 (nq (cn a1.fM
 (nq (jp (.cn a1.dF
 (.lf true)
 (.lf ((a0.aM.length:Int) == 0))) (λb3=>
 (cn b3
 (cn a1.bO
 (nq (jp (.cn a1.eX
 (.lf true)
 (.lf (!a0.bU))) (λb4=>
 (jp (.cn b4
 (.cn a1.eZ
 (.lf true)
 (.lf ((a0.bD.length:Int) == 0)))
 (.lf false)) (λb5=>
 (jp (.cn b5
 (.cn a1.dZ
 (.lf true)
 (.lf ((a0.bL.length:Int) == 0)))
 (.lf false)) (λb6=>
 (lf b6))))))))
 (bd (Lm L a0.bE (⟨0,0,0,0,[],[]⟩:Bk)) λr7=>
 (nq (jp (.cn r7
 (.cn a1.eX
 (.lf true)
 (.lf (!a0.bU)))
 (.lf false)) (λb8=>
 (jp (.cn b8
 (.cn a1.eZ
 (.lf true)
 (.lf ((a0.bD.length:Int) == 0)))
 (.lf false)) (λb9=>
 (jp (.cn b9
 (.cn a1.dZ
 (.lf true)
 (.lf ((a0.bL.length:Int) == 0)))
 (.lf false)) (λb10=>
 (lf b10))))))))))
 (nq (nq (nq (nq (lf false)))))))))
 (bd (Lo L (Ab.cp a0.F) (Ab.mk 0 (⟨#[]⟩:Yb) 0 [])) λr11=>
 (nq (jp (.cn r11
 (.cn a1.dF
 (.lf true)
 (.lf ((a0.aM.length:Int) == 0)))
 (.lf false)) (λb12=>
 (cn b12
 (cn a1.bO
 (nq (jp (.cn a1.eX
 (.lf true)
 (.lf (!a0.bU))) (λb13=>
 (jp (.cn b13
 (.cn a1.eZ
 (.lf true)
 (.lf ((a0.bD.length:Int) == 0)))
 (.lf false)) (λb14=>
 (jp (.cn b14
 (.cn a1.dZ
 (.lf true)
 (.lf ((a0.bL.length:Int) == 0)))
 (.lf false)) (λb15=>
 (lf b15))))))))
 (bd (Lm L a0.bE (⟨0,0,0,0,[],[]⟩:Bk)) λr16=>
 (nq (jp (.cn r16
 (.cn a1.eX
 (.lf true)
 (.lf (!a0.bU)))
 (.lf false)) (λb17=>
 (jp (.cn b17
 (.cn a1.eZ
 (.lf true)
 (.lf ((a0.bD.length:Int) == 0)))
 (.lf false)) (λb18=>
 (jp (.cn b18
 (.cn a1.dZ
 (.lf true)
 (.lf ((a0.bL.length:Int) == 0)))
 (.lf false)) (λb19=>
 (lf b19))))))))))
 (nq (nq (nq (nq (lf false))))))))))))
 (bd (Lo L (Ab.cp a0.E) (Ab.mk 0 (⟨#[]⟩:Yb) 0 [])) λr20=>
 (nq (cn r20
 (cn a1.fM
 (nq (jp (.cn a1.dF
 (.lf true)
 (.lf ((a0.aM.length:Int) == 0))) (λb21=>
 (cn b21
 (cn a1.bO
 (nq (jp (.cn a1.eX
 (.lf true)
 (.lf (!a0.bU))) (λb22=>
 (jp (.cn b22
 (.cn a1.eZ
 (.lf true)
 (.lf ((a0.bD.length:Int) == 0)))
 (.lf false)) (λb23=>
 (jp (.cn b23
 (.cn a1.dZ
 (.lf true)
 (.lf ((a0.bL.length:Int) == 0)))
 (.lf false)) (λb24=>
 (lf b24))))))))
 (bd (Lm L a0.bE (⟨0,0,0,0,[],[]⟩:Bk)) λr25=>
 (nq (jp (.cn r25
 (.cn a1.eX
 (.lf true)
 (.lf (!a0.bU)))
 (.lf false)) (λb26=>
 (jp (.cn b26
 (.cn a1.eZ
 (.lf true)
 (.lf ((a0.bD.length:Int) == 0)))
 (.lf false)) (λb27=>
 (jp (.cn b27
 (.cn a1.dZ
 (.lf true)
 (.lf ((a0.bL.length:Int) == 0)))
 (.lf false)) (λb28=>
 (lf b28))))))))))
 (nq (nq (nq (nq (lf false)))))))))
 (bd (Lo L (Ab.cp a0.F) (Ab.mk 0 (⟨#[]⟩:Yb) 0 [])) λr29=>
 (nq (jp (.cn r29
 (.cn a1.dF
 (.lf true)
 (.lf ((a0.aM.length:Int) == 0)))
 (.lf false)) (λb30=>
 (cn b30
 (cn a1.bO
 (nq (jp (.cn a1.eX
 (.lf true)
 (.lf (!a0.bU))) (λb31=>
 (jp (.cn b31
 (.cn a1.eZ
 (.lf true)
 (.lf ((a0.bD.length:Int) == 0)))
 (.lf false)) (λb32=>
 (jp (.cn b32
 (.cn a1.dZ
 (.lf true)
 (.lf ((a0.bL.length:Int) == 0)))
 (.lf false)) (λb33=>
 (lf b33))))))))
 (bd (Lm L a0.bE (⟨0,0,0,0,[],[]⟩:Bk)) λr34=>
 (nq (jp (.cn r34
 (.cn a1.eX
 (.lf true)
 (.lf (!a0.bU)))
 (.lf false)) (λb35=>
 (jp (.cn b35
 (.cn a1.eZ
 (.lf true)
 (.lf ((a0.bD.length:Int) == 0)))
 (.lf false)) (λb36=>
 (jp (.cn b36
 (.cn a1.dZ
 (.lf true)
 (.lf ((a0.bL.length:Int) == 0)))
 (.lf false)) (λb37=>
 (lf b37))))))))))
 (nq (nq (nq (nq (lf false)))))))))))
 (nq (nq (nq (nq (nq (nq (lf false)))))))))))
 (nq (nq (nq (nq (nq (nq (nq (lf false)))))))))))))
def Aei(a0:Ad)(a1:Bs):Option Bool:=Aqv L a0 a1
def B42:F3:=E2 B 211 Aem Az4 (Aei L) λa0 a1 r h=>hF Tryz.func211 (oS [By5 L,B4x L]) L (λkk=>eE (Aqv L a0 a1)) h
def Bhw(F:Ab->Option Int):Prop:=∀y0 r,F y0=some r->Ho Tryz.prog 193 [Bi.en y0] I r
def B6d:=CC Tryz.f193
def Bys(Gy:Ab->Option Int)(L:Nat):Bc:=(orc 193 (A1 I Bi Gy) (oL []))
theorem Cci(Gy:Ab->Option Int)(Bm1:Bhw Gy)(L:Nat):Dl Tryz.prog (Bys Gy L):=(Em (a1 _ Bm1) (oS []))
def Bv7(a0:Ab)(v:Jc):St:=⟨[(0,.any),(1,.any),(2,I 0),(3,I v.1),(7,lv (.dU a0.aY)),(8,I (a0.aY.length:Int)),(9,I v.2)],[(1,(Cl a0))],0⟩
def Xi [An A C3](Gy:Ab->Option Int)(L:Nat)(a0:Ab)(rec:Int->Int->A)(Ag:Int)(Bj:Int):A:=
 (lw Bj a0.aY
 (bd (Gy (Ab.cp (gD a0.aY Bj))) λr1=>
 (rec (Bu (Ag+r1)) (Bu (Bj+1))))
 (lf (0,Ag,Bj)))
def Kc(Gy:Ab->Option Int)(L:Nat)(a0:Ab):Nat->Int->Int->Option C3
 |0,_,_=>none
 |n+1,Ag,Bj=>Xi Gy L a0 (Kc Gy L a0 n) Ag Bj
theorem Buj(Gy:Ab->Option Int)(L:Nat)(K:Ef)(a0:Ab):LP (EV (Bys Gy L) L 9 B6d.w.l.u.l.l) [0,1,2,3,7,8,9] [1] (Bv7 a0) [.exit 0] (λn v=>Kc Gy L a0 n v.1 v.2) K:=lE (λ_=>rfl) λn v ih=>eE (Xi Gy L a0 (λAg Bj=>re (ih (Ag,Bj))) v.1 v.2)
def Xw [An A Int](Gy:Ab->Option Int)(L:Nat)(o2:Nat×Jc):A:=
 (sl o2.1 [(lf o2.2.1)])
def Au0 [An A Int](Gy:Ab->Option Int)(L:Nat)(a0:Ab):A:=(bd (Kc Gy L a0 L 1 0) λo2=>Xw Gy L o2)
def Ang(Gy:Ab->Option Int)(L:Nat)(a0:Ab):Option Int:=Au0 Gy L a0
theorem Caz(Gy:Ab->Option Int)(Bm1:Bhw Gy)(L:Nat):Bhw (Ang Gy L):=λa0 r h=>hF Tryz.func193 (Cci Gy Bm1 L) L (λkk=>eE ((hq (Buj Gy L (KA (Bys Gy L) L 9 B6d (rl [4,1,2,1]) (KE Tryz.f193 kk)) a0 L (1,0)) λo2=>Xw Gy L o2))) h
def Lb:Nat->Ab->Option Int
 |0,_=>none
 |L+1,a0=>Ang (Lb L) L a0
theorem Bsm(L:Nat):Bhw (Lb L):=by
 induction L with
 |zero=>exact λ_ _ h=>(by cases h)
 |succ L ih=>
  have i193:=ih;exact Caz (Lb L) i193 L
def B93(L:Nat):F3:=E1 I 193 Bi (Lb L) (Bsm L)
end
end Go.Proofs.YthjhkpgonleelaaGreatDoor.Ev
