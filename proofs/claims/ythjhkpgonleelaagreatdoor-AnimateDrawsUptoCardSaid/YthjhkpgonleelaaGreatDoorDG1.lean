import Derived.Test.YthjhkpgonleelaaGreatDoorDG0
set_option maxRecDepth 100000
set_option maxHeartbeats 4000000
set_option linter.unusedVariables false
set_option linter.unusedSimpArgs false
set_option linter.unnecessarySimpa false
namespace Go.Proofs.YthjhkpgonleelaaGreatDoor.Ev
open Go An
noncomputable section
variable {A:Type} (L n:Nat) (kk:Lr) (K:Ei) (k:Dj)
def Aiz [An A Bool](L:Nat)(a0:Int):A:=
 (jp (.cn (decide (a0>=97))
 (.lf (decide (a0<=122)))
 (.lf false)) (λb1=>
 (lf b1)))
def Vk(a0:Int):Option Bool:=Aiz L a0
def X54:F6:=E1 B 54 (cI .u8) (Vk L) λa0 r h=>hF Tryz.func54 (oS []) L (λkk=>eE (Aiz L a0)) h
def Ago [An A Bool](L:Nat)(a0:Yb):A:=
 (cn (a0.toList == (⟨#[97,100,100]⟩:Yb).toList)
 (cn (a0.toList == (⟨#[97,100,100]⟩:Yb).toList)
 (lf true)
 (lf false))
 (cn (a0.toList == (⟨#[97,102,116,101,114]⟩:Yb).toList)
 (cn (a0.toList == (⟨#[97,102,116,101,114]⟩:Yb).toList)
 (lf true)
 (lf false))
 (cn (a0.toList == (⟨#[97,110,100]⟩:Yb).toList)
 (cn (a0.toList == (⟨#[97,110,100]⟩:Yb).toList)
 (lf true)
 (lf false))
 (cn (a0.toList == (⟨#[97,116]⟩:Yb).toList)
 (cn (a0.toList == (⟨#[97,116]⟩:Yb).toList)
 (lf true)
 (lf false))
 (cn (a0.toList == (⟨#[98,101,108,116]⟩:Yb).toList)
 (cn (a0.toList == (⟨#[98,101,108,116]⟩:Yb).toList)
 (lf true)
 (lf false))
 (cn (a0.toList == (⟨#[98,111,111,108]⟩:Yb).toList)
 (cn (a0.toList == (⟨#[98,111,111,108]⟩:Yb).toList)
 (lf true)
 (lf false))
 (cn (a0.toList == (⟨#[99,111,110,115,101,114,118,101]⟩:Yb).toList)
 (cn (a0.toList == (⟨#[99,111,110,115,101,114,118,101]⟩:Yb).toList)
 (lf true)
 (lf false))
 (cn (a0.toList == (⟨#[99,111,110,115,116]⟩:Yb).toList)
 (cn (a0.toList == (⟨#[99,111,110,115,116]⟩:Yb).toList)
 (lf true)
 (lf false))
 (cn (a0.toList == (⟨#[99,111,117,110,116]⟩:Yb).toList)
 (cn (a0.toList == (⟨#[99,111,117,110,116]⟩:Yb).toList)
 (lf true)
 (lf false))
 (cn (a0.toList == (⟨#[99,121,99,108,101]⟩:Yb).toList)
 (cn (a0.toList == (⟨#[99,121,99,108,101]⟩:Yb).toList)
 (lf true)
 (lf false))
 (cn (a0.toList == (⟨#[100,111,119,110]⟩:Yb).toList)
 (cn (a0.toList == (⟨#[100,111,119,110]⟩:Yb).toList)
 (lf true)
 (lf false))
 (cn (a0.toList == (⟨#[100,114,97,119]⟩:Yb).toList)
 (cn (a0.toList == (⟨#[100,114,97,119]⟩:Yb).toList)
 (lf true)
 (lf false))
 (cn (a0.toList == (⟨#[100,117,114]⟩:Yb).toList)
 (cn (a0.toList == (⟨#[100,117,114]⟩:Yb).toList)
 (lf true)
 (lf false))
 (cn (a0.toList == (⟨#[101,108,115,101]⟩:Yb).toList)
 (cn (a0.toList == (⟨#[101,108,115,101]⟩:Yb).toList)
 (lf true)
 (lf false))
 (cn (a0.toList == (⟨#[101,110,100]⟩:Yb).toList)
 (cn (a0.toList == (⟨#[101,110,100]⟩:Yb).toList)
 (lf true)
 (lf false))
 (cn (a0.toList == (⟨#[101,118,101,114,121]⟩:Yb).toList)
 (cn (a0.toList == (⟨#[101,118,101,114,121]⟩:Yb).toList)
 (lf true)
 (lf false))
 (cn (a0.toList == (⟨#[102,97,108,115,101]⟩:Yb).toList)
 (cn (a0.toList == (⟨#[102,97,108,115,101]⟩:Yb).toList)
 (lf true)
 (lf false))
 (cn (a0.toList == (⟨#[102,97,117,108,116]⟩:Yb).toList)
 (cn (a0.toList == (⟨#[102,97,117,108,116]⟩:Yb).toList)
 (lf true)
 (lf false))
 (cn (a0.toList == (⟨#[102,105,102,111]⟩:Yb).toList)
 (cn (a0.toList == (⟨#[102,105,102,111]⟩:Yb).toList)
 (lf true)
 (lf false))
 (cn (a0.toList == (⟨#[102,114,101,101]⟩:Yb).toList)
 (cn (a0.toList == (⟨#[102,114,101,101]⟩:Yb).toList)
 (lf true)
 (lf false))
 (cn (a0.toList == (⟨#[102,114,111,109]⟩:Yb).toList)
 (cn (a0.toList == (⟨#[102,114,111,109]⟩:Yb).toList)
 (lf true)
 (lf false))
 (cn (a0.toList == (⟨#[103,101,111,109]⟩:Yb).toList)
 (cn (a0.toList == (⟨#[103,101,111,109]⟩:Yb).toList)
 (lf true)
 (lf false))
 (cn (a0.toList == (⟨#[103,101,116]⟩:Yb).toList)
 (cn (a0.toList == (⟨#[103,101,116]⟩:Yb).toList)
 (lf true)
 (lf false))
 (cn (a0.toList == (⟨#[104,111,108,100]⟩:Yb).toList)
 (cn (a0.toList == (⟨#[104,111,108,100]⟩:Yb).toList)
 (lf true)
 (lf false))
 (cn (a0.toList == (⟨#[105,102]⟩:Yb).toList)
 (cn (a0.toList == (⟨#[105,102]⟩:Yb).toList)
 (lf true)
 (lf false))
 (cn (a0.toList == (⟨#[105,110,116]⟩:Yb).toList)
 (cn (a0.toList == (⟨#[105,110,116]⟩:Yb).toList)
 (lf true)
 (lf false))
 (cn (a0.toList == (⟨#[105,110,116,111]⟩:Yb).toList)
 (cn (a0.toList == (⟨#[105,110,116,111]⟩:Yb).toList)
 (lf true)
 (lf false))
 (cn (a0.toList == (⟨#[108,101,97,115,116]⟩:Yb).toList)
 (cn (a0.toList == (⟨#[108,101,97,115,116]⟩:Yb).toList)
 (lf true)
 (lf false))
 (cn (a0.toList == (⟨#[108,101,118,101,108]⟩:Yb).toList)
 (cn (a0.toList == (⟨#[108,101,118,101,108]⟩:Yb).toList)
 (lf true)
 (lf false))
 (cn (a0.toList == (⟨#[108,105,102,111]⟩:Yb).toList)
 (cn (a0.toList == (⟨#[108,105,102,111]⟩:Yb).toList)
 (lf true)
 (lf false))
 (cn (a0.toList == (⟨#[108,105,110,107]⟩:Yb).toList)
 (cn (a0.toList == (⟨#[108,105,110,107]⟩:Yb).toList)
 (lf true)
 (lf false))
 (cn (a0.toList == (⟨#[108,111,99,97,108]⟩:Yb).toList)
 (cn (a0.toList == (⟨#[108,111,99,97,108]⟩:Yb).toList)
 (lf true)
 (lf false))
 (cn (a0.toList == (⟨#[109,97,120]⟩:Yb).toList)
 (cn (a0.toList == (⟨#[109,97,120]⟩:Yb).toList)
 (lf true)
 (lf false))
 (cn (a0.toList == (⟨#[109,105,110]⟩:Yb).toList)
 (cn (a0.toList == (⟨#[109,105,110]⟩:Yb).toList)
 (lf true)
 (lf false))
 (cn (a0.toList == (⟨#[109,111,100,101,108]⟩:Yb).toList)
 (cn (a0.toList == (⟨#[109,111,100,101,108]⟩:Yb).toList)
 (lf true)
 (lf false))
 (cn (a0.toList == (⟨#[110,111,116]⟩:Yb).toList)
 (cn (a0.toList == (⟨#[110,111,116]⟩:Yb).toList)
 (lf true)
 (lf false))
 (cn (a0.toList == (⟨#[110,111,119]⟩:Yb).toList)
 (cn (a0.toList == (⟨#[110,111,119]⟩:Yb).toList)
 (lf true)
 (lf false))
 (cn (a0.toList == (⟨#[111,98,115,101,114,118,101]⟩:Yb).toList)
 (cn (a0.toList == (⟨#[111,98,115,101,114,118,101]⟩:Yb).toList)
 (lf true)
 (lf false))
 (cn (a0.toList == (⟨#[111,114]⟩:Yb).toList)
 (cn (a0.toList == (⟨#[111,114]⟩:Yb).toList)
 (lf true)
 (lf false))
 (cn (a0.toList == (⟨#[112,97,114,97,109]⟩:Yb).toList)
 (cn (a0.toList == (⟨#[112,97,114,97,109]⟩:Yb).toList)
 (lf true)
 (lf false))
 (cn (a0.toList == (⟨#[112,114,101,101,109,112,116]⟩:Yb).toList)
 (cn (a0.toList == (⟨#[112,114,101,101,109,112,116]⟩:Yb).toList)
 (lf true)
 (lf false))
 (cn (a0.toList == (⟨#[112,114,105,111]⟩:Yb).toList)
 (cn (a0.toList == (⟨#[112,114,105,111]⟩:Yb).toList)
 (lf true)
 (lf false))
 (cn (a0.toList == (⟨#[112,117,116]⟩:Yb).toList)
 (cn (a0.toList == (⟨#[112,117,116]⟩:Yb).toList)
 (lf true)
 (lf false))
 (cn (a0.toList == (⟨#[113,117,101,117,101]⟩:Yb).toList)
 (cn (a0.toList == (⟨#[113,117,101,117,101]⟩:Yb).toList)
 (lf true)
 (lf false))
 (cn (a0.toList == (⟨#[114,101,108,101,97,115,101]⟩:Yb).toList)
 (cn (a0.toList == (⟨#[114,101,108,101,97,115,101]⟩:Yb).toList)
 (lf true)
 (lf false))
 (cn (a0.toList == (⟨#[114,101,115,111,117,114,99,101]⟩:Yb).toList)
 (cn (a0.toList == (⟨#[114,101,115,111,117,114,99,101]⟩:Yb).toList)
 (lf true)
 (lf false))
 (cn (a0.toList == (⟨#[114,105,100,101]⟩:Yb).toList)
 (cn (a0.toList == (⟨#[114,105,100,101]⟩:Yb).toList)
 (lf true)
 (lf false))
 (cn (a0.toList == (⟨#[114,111,117,116,105,110,101]⟩:Yb).toList)
 (cn (a0.toList == (⟨#[114,111,117,116,105,110,101]⟩:Yb).toList)
 (lf true)
 (lf false))
 (cn (a0.toList == (⟨#[115,101,105,122,101]⟩:Yb).toList)
 (cn (a0.toList == (⟨#[115,101,105,122,101]⟩:Yb).toList)
 (lf true)
 (lf false))
 (cn (a0.toList == (⟨#[115,101,110,100]⟩:Yb).toList)
 (cn (a0.toList == (⟨#[115,101,110,100]⟩:Yb).toList)
 (lf true)
 (lf false))
 (cn (a0.toList == (⟨#[115,101,116]⟩:Yb).toList)
 (cn (a0.toList == (⟨#[115,101,116]⟩:Yb).toList)
 (lf true)
 (lf false))
 (cn (a0.toList == (⟨#[115,104,105,102,116]⟩:Yb).toList)
 (cn (a0.toList == (⟨#[115,104,105,102,116]⟩:Yb).toList)
 (lf true)
 (lf false))
 (cn (a0.toList == (⟨#[115,105,103,110,97,108]⟩:Yb).toList)
 (cn (a0.toList == (⟨#[115,105,103,110,97,108]⟩:Yb).toList)
 (lf true)
 (lf false))
 (cn (a0.toList == (⟨#[115,105,116,101]⟩:Yb).toList)
 (cn (a0.toList == (⟨#[115,105,116,101]⟩:Yb).toList)
 (lf true)
 (lf false))
 (cn (a0.toList == (⟨#[115,105,122,101]⟩:Yb).toList)
 (cn (a0.toList == (⟨#[115,105,122,101]⟩:Yb).toList)
 (lf true)
 (lf false))
 (cn (a0.toList == (⟨#[115,112,97,119,110]⟩:Yb).toList)
 (cn (a0.toList == (⟨#[115,112,97,119,110]⟩:Yb).toList)
 (lf true)
 (lf false))
 (cn (a0.toList == (⟨#[115,116,97,114,116]⟩:Yb).toList)
 (cn (a0.toList == (⟨#[115,116,97,114,116]⟩:Yb).toList)
 (lf true)
 (lf false))
 (cn (a0.toList == (⟨#[115,116,111,112]⟩:Yb).toList)
 (cn (a0.toList == (⟨#[115,116,111,112]⟩:Yb).toList)
 (lf true)
 (lf false))
 (cn (a0.toList == (⟨#[115,116,111,114,101]⟩:Yb).toList)
 (cn (a0.toList == (⟨#[115,116,111,114,101]⟩:Yb).toList)
 (lf true)
 (lf false))
 (cn (a0.toList == (⟨#[115,116,114,101,97,109]⟩:Yb).toList)
 (cn (a0.toList == (⟨#[115,116,114,101,97,109]⟩:Yb).toList)
 (lf true)
 (lf false))
 (cn (a0.toList == (⟨#[115,117,109]⟩:Yb).toList)
 (cn (a0.toList == (⟨#[115,117,109]⟩:Yb).toList)
 (lf true)
 (lf false))
 (cn (a0.toList == (⟨#[116,97,98,108,101]⟩:Yb).toList)
 (cn (a0.toList == (⟨#[116,97,98,108,101]⟩:Yb).toList)
 (lf true)
 (lf false))
 (cn (a0.toList == (⟨#[116,97,108,108,121]⟩:Yb).toList)
 (cn (a0.toList == (⟨#[116,97,108,108,121]⟩:Yb).toList)
 (lf true)
 (lf false))
 (cn (a0.toList == (⟨#[116,105,99,107,115]⟩:Yb).toList)
 (cn (a0.toList == (⟨#[116,105,99,107,115]⟩:Yb).toList)
 (lf true)
 (lf false))
 (cn (a0.toList == (⟨#[116,105,109,101]⟩:Yb).toList)
 (cn (a0.toList == (⟨#[116,105,109,101]⟩:Yb).toList)
 (lf true)
 (lf false))
 (cn (a0.toList == (⟨#[116,114,117,101]⟩:Yb).toList)
 (cn (a0.toList == (⟨#[116,114,117,101]⟩:Yb).toList)
 (lf true)
 (lf false))
 (cn (a0.toList == (⟨#[117,110,105,102,111,114,109]⟩:Yb).toList)
 (cn (a0.toList == (⟨#[117,110,105,102,111,114,109]⟩:Yb).toList)
 (lf true)
 (lf false))
 (cn (a0.toList == (⟨#[117,110,116,105,108]⟩:Yb).toList)
 (cn (a0.toList == (⟨#[117,110,116,105,108]⟩:Yb).toList)
 (lf true)
 (lf false))
 (cn (a0.toList == (⟨#[117,112]⟩:Yb).toList)
 (cn (a0.toList == (⟨#[117,112]⟩:Yb).toList)
 (lf true)
 (lf false))
 (cn (a0.toList == (⟨#[118,97,114]⟩:Yb).toList)
 (cn (a0.toList == (⟨#[118,97,114]⟩:Yb).toList)
 (lf true)
 (lf false))
 (cn (a0.toList == (⟨#[119,97,105,116]⟩:Yb).toList)
 (cn (a0.toList == (⟨#[119,97,105,116]⟩:Yb).toList)
 (lf true)
 (lf false))
 (cn (a0.toList == (⟨#[119,97,105,116,105,110,103]⟩:Yb).toList)
 (cn (a0.toList == (⟨#[119,97,105,116,105,110,103]⟩:Yb).toList)
 (lf true)
 (lf false))
 (cn (a0.toList == (⟨#[119,104,105,108,101]⟩:Yb).toList)
 (lf true)
 (lf false))))))))))))))))))))))))))))))))))))))))))))))))))))))))))))))))))))))))))
def Ye(a0:Yb):Option Bool:=Ago L a0
def X55:F6:=E1 B 55 cS (Ye L) λa0 r h=>hF Tryz.func55 (oS []) L (λkk=>eE (Ago L a0)) h
def c35:=CC Tryz.f35
def O35:Bc:=oL [X54 L,X55 L]
def B5c(a0:Yb)(v:Js):St:=⟨[(0,S a0),(2,I v.1),(23,I (a0.size:Int)),(24,I v.2)],[],0⟩
def Ro [An A C3](a0:Yb)(rec:Int->Int->A)(Ag:Int)(Af:Int):A:=
 (cn (decide (Af<(a0.size:Int)))
 (cn ((if 0<=Af then a0[Int.toNat Af]? else none).isSome)
 (bd (Vk L (D2 (if 0<=Af then a0[Int.toNat Af]? else none))) λr6=>
 (jp (.cn (!r6)
 (.cn (decide ((D2 (if 0<=Af then a0[Int.toNat Af]? else none))<48))
 (.lf true)
 (.lf (decide ((D2 (if 0<=Af then a0[Int.toNat Af]? else none))>57))))
 (.lf false)) (λb7=>
 (jp (.cn b7
 (.lf ((D2 (if 0<=Af then a0[Int.toNat Af]? else none)) != 95))
 (.lf false)) (λb8=>
 (cn b8
 (lf (0,3,Af))
 (rec Ag (Bs (Af+1)))))))))
 fl)
 (lf (1,Ag,Af)))
def Jm(L:Nat)(a0:Yb):Nat->Int->Int->Option C3
 |0,_,_=>none
 |n+1,Ag,Af=>Ro L a0 (Jm L a0 n) Ag Af
theorem B3b(a0:Yb):LP (EV (O35 L) L 9 c35.w.l.u.l.l) [0,2,23,24] [] (B5c a0) [.ret,.exit 0] (λn v=>Jm L a0 n v.1 v.2) K:=lE (λ_=>rfl) λn v ih=>eE (Ro L a0 (λAg Af=>re (ih (Ag,Af))) v.1 v.2)
def W7 [An A Int](L:Nat)(o9:Nat×Js):A:=
 (sl o9.1 [(lf o9.2.1),
 (lf 0)])
def Xm [An A Int](a0:Yb)(nx1:A):A:=
 (jp (.cn (a0.toList == (⟨#[]⟩:Yb).toList)
 (.lf true)
 (.lf (decide ((a0.size:Int)>24)))) (λb1=>
 (jb (.cn b1
 (.lf true)
 (.cn ((if 0<=0 then a0[Int.toNat 0]? else none).isSome)
 (.bd (Vk L (D2 (if 0<=0 then a0[Int.toNat 0]? else none))) λr3=>
 (.lf (!r3)))
 .fl)) (λb2=>
 (jb (.cn b2
 (.lf true)
 (.bd (Ye L a0) λr5=>
 (.lf r5))) (λb4=>
 (cn b4
 (lf 3)
 nx1)))))))
def Atz [An A Int](a0:Yb):A:=Xm L a0 (bd (Jm L a0 L 0 0) λo9=>W7 L o9)
def Cw(a0:Yb):Option Int:=Atz L a0
def X35:F6:=E1 I 35 cS (Cw L) λa0 r h=>hF Tryz.func35 (C:=O35 L) (oS _) L (λkk=>eE (Xm L a0 (hq (B3b L (KA (O35 L) L 9 c35 (rl [4,1,2,1]) (KE Tryz.f35 kk)) a0 L (0,0)) λo9=>W7 L o9))) h
def Alk [An A Bool](L:Nat)(a0:Int):A:=
 (jp (.cn (decide (a0>=1))
 (.lf (decide (a0<=3)))
 (.lf false)) (λb1=>
 (lf b1)))
def Ju(a0:Int):Option Bool:=Alk L a0
def B02:F6:=E1 B 146 (cI .i64) (Ju L) λa0 r h=>hF Tryz.func146 (oS []) L (λkk=>eE (Alk L a0)) h
def A4i [An A Bool](L:Nat)(a0:Int):A:=
 (jp (.cn (decide (a0>=(-1000000000000)))
 (.lf (decide (a0<=1000000000000)))
 (.lf false)) (λb1=>
 (lf b1)))
def Aiq(a0:Int):Option Bool:=A4i L a0
def B05:F6:=E1 B 158 (cI .i64) (Aiq L) λa0 r h=>hF Tryz.func158 (oS []) L (λkk=>eE (A4i L a0)) h
def Aiy [An A Bool](L:Nat)(a0:Int)(a1:Int)(a2:Int):A:=
 (jp (.cn (decide (a0>=a1))
 (.lf (decide (a0<=a2)))
 (.lf false)) (λb1=>
 (lf b1)))
def Be(a0:Int)(a1:Int)(a2:Int):Option Bool:=Aiy L a0 a1 a2
def X95:F6:=E3 B 95 (cI .i64) (cI .i64) (cI .i64) (Be L) λa0 a1 a2 r h=>hF Tryz.func95 (oS []) L (λkk=>eE (Aiy L a0 a1 a2)) h
def Aoz [An A Bool](a0:Int)(a1:Int):A:=
 (cn (a0 == 1)
 (bd (Aiq L a1) λr1=>
 (lf r1))
 (cn (a0 == 2)
 (jp (.cn (a1 == 0)
 (.lf true)
 (.lf (a1 == 1))) (λb2=>
 (lf b2)))
 (cn (a0 == 3)
 (bd (Be L a1 0 1000000000) λr3=>
 (lf r3))
 (lf false))))
def Sl(a0:Int)(a1:Int):Option Bool:=Aoz L a0 a1
def B03:F6:=E2 B 147 (cI .i64) (cI .i64) (Sl L) λa0 a1 r h=>hF Tryz.func147 (oS [X95 L,B05 L]) L (λkk=>eE (Aoz L a0 a1)) h
def c96:=CC Tryz.f96
def O96:Bc:=oL [X95 L]
def B57(a0:Ak)(v:Js):St:=⟨[(0,.any),zq7,(2,I v.1),Bdf,(17,.any),(23,lv (.fC a0.bA)),(24,I (a0.bA.length:Int)),(25,I v.2)],[(1,(B3 a0))],0⟩
def Qy [An A C3](a0:Ak)(rec:Int->Int->A)(Ai:Int)(Af:Int):A:=
 (lw Af a0.bA
 (bd (Be L ((gD a0.bA Af).At) 0 (Bs (a0.dA-1))) λr2=>
 (cn (!r2)
 (cn (!r2)
 (lf (0,2,Af))
 (cn (decide (Af>0))
 (gi (Bs (Af-1)) a0.bA
 (cn (decide ((gD a0.bA Af).At<=(gD a0.bA (Bs (Af-1))).At))
 (lf (0,12,Af))
 (rec Ai (Bs (Af+1)))))
 (rec Ai (Bs (Af+1)))))
 (bd (Be L ((gD a0.bA Af).Units) 0 1000) λr3=>
 (cn (!r3)
 (lf (0,2,Af))
 (cn (decide (Af>0))
 (gi (Bs (Af-1)) a0.bA
 (cn (decide ((gD a0.bA Af).At<=(gD a0.bA (Bs (Af-1))).At))
 (lf (0,12,Af))
 (rec Ai (Bs (Af+1)))))
 (rec Ai (Bs (Af+1))))))))
 (lf (1,Ai,Af)))
def Hi(L:Nat)(a0:Ak):Nat->Int->Int->Option C3
 |0,_,_=>none
 |n+1,Ai,Af=>Qy L a0 (Hi L a0 n) Ai Af
theorem B35(a0:Ak):LP (EV (O96 L) L 9 c96.w.u.l.u.l.l) [0,1,2,12,17,23,24,25] [1] (B57 a0) [.ret,.exit 1] (λn v=>Hi L a0 n v.1 v.2) K:=lE (λ_=>rfl) λn v ih=>eE (Qy L a0 (λAi Af=>re (ih (Ai,Af))) v.1 v.2)
def Q0 [An A Int](L:Nat)(o4:Nat×Js):A:=
 (sl o4.1 [(lf o4.2.1),
 (lf 0)])
def Rb [An A Int](a0:Ak)(nx1:A):A:=
 (cn ((a0.bA.length:Int) == 0)
 (cn (a0.dA != 0)
 (lf 1)
 (lf 0))
 (cn (decide ((a0.bA.length:Int)>20))
 (lf 6)
 (bd (Be L a0.dA 1 1000000000) λr1=>
 (cn (!r1)
 (lf 2)
 nx1))))
def Amp [An A Int](a0:Ak):A:=Rb L a0 (bd (Hi L a0 L 0 0) λo4=>Q0 L o4)
def V2(a0:Ak):Option Int:=Amp L a0
def X96:F6:=E1 I 96 Xu (V2 L) λa0 r h=>hF Tryz.func96 (C:=O96 L) (oS _) L (λkk=>eE (Rb L a0 (hq (B35 L (KA (O96 L) L 9 c96 (rl [6,1,2,1]) (KE Tryz.f96 kk)) a0 L (0,0)) λo4=>Q0 L o4))) h
def c29:=CC Tryz.f29
def O29(L:Nat):Bc:=oL []
def B44(a0:List Int)(a1:List Int)(v:Tu5):St:=⟨[(0,lv (.t3 a0)),(1,lv (.t3 a1)),(4,B v.1),(12,I (a0.length:Int)),(13,I v.2)],[],0⟩
def Nx [An A (Nat×Tu5)](L:Nat)(a0:List Int)(a1:List Int)(rec:Bool->Int->A)(Al:Bool)(Bj:Int):A:=
 (lw Bj a0
 (gi Bj a1
 (cn ((gD a0 Bj) != (gD a1 Bj))
 (lf (0,false,Bj))
 (rec Al (Bs (Bj+1)))))
 (lf (1,Al,Bj)))
def F2(L:Nat)(a0:List Int)(a1:List Int):Nat->Bool->Int->Option (Nat×Tu5)
 |0,_,_=>none
 |n+1,Al,Bj=>Nx L a0 a1 (F2 L a0 a1 n) Al Bj
theorem B23(a0:List Int)(a1:List Int):LP (EV (O29 L) L 9 c29.w.l.u.l.l) [0,1,4,12,13] [] (B44 a0 a1) [.ret,.exit 0] (λn v=>F2 L a0 a1 n v.1 v.2) K:=lE (λ_=>rfl) λn v ih=>eE (Nx L a0 a1 (λAl Bj=>re (ih (Al,Bj))) v.1 v.2)
def N2 [An A Bool](L:Nat)(o1:Nat×Tu5):A:=
 (sl o1.1 [(lf o1.2.1),
 (lf true)])
def N4 [An A Bool](L:Nat)(a0:List Int)(a1:List Int)(nx1:A):A:=
 (cn ((a0.length:Int) != (a1.length:Int))
 (lf false)
 nx1)
def Ai0 [An A Bool](a0:List Int)(a1:List Int):A:=N4 L a0 a1 (bd (F2 L a0 a1 L false 0) λo1=>N2 L o1)
def Et(a0:List Int)(a1:List Int):Option Bool:=Ai0 L a0 a1
def X29:F6:=E2 B 29 cl3 cl3 (Et L) λa0 a1 r h=>hF Tryz.func29 (C:=O29 L) (oS _) L (λkk=>eE (N4 L a0 a1 (hq (B23 L (KA (O29 L) L 9 c29 (rl [4,1,2,1]) (KE Tryz.f29 kk)) a0 a1 L (false,0)) λo1=>N2 L o1))) h
def Ars [An A Bool](a0:Bk)(a1:Bk):A:=
 (jp (.cn (a0.Op == a1.Op)
 (.lf (a0.A == a1.A))
 (.lf false)) (λb1=>
 (jp (.cn b1
 (.lf (a0.B == a1.B))
 (.lf false)) (λb2=>
 (jp (.cn b2
 (.lf (a0.N == a1.N))
 (.lf false)) (λb3=>
 (jb (.cn b3
 (.bd (Et L a0.aW a1.aW) λr5=>
 (.lf r5))
 (.lf false)) (λb4=>
 (jb (.cn b4
 (.bd (Et L a0.aU a1.aU) λr7=>
 (.lf r7))
 (.lf false)) (λb6=>
 (lf b6)))))))))))
def L6(a0:Bk)(a1:Bk):Option Bool:=Ars L a0 a1
def B04:F6:=E2 B 148 Oy Oy (L6 L) λa0 a1 r h=>hF Tryz.func148 (oS [X29 L]) L (λkk=>eE (Ars L a0 a1)) h
def B78:=CC Tryz.f183
def B0m(L:Nat):Bc:=oL []
def Bxx(a0:List Yb)(a1:Yb)(v:Js):St:=⟨[(0,lv (.t9 a0)),(1,S a1),(4,I v.1),(7,I (a0.length:Int)),(8,I v.2)],[],0⟩
def Jv [An A C3](L:Nat)(a0:List Yb)(a1:Yb)(rec:Int->Int->A)(Al:Int)(Bj:Int):A:=
 (lw Bj a0
 (cn (a1.toList == (gD a0 Bj).toList)
 (lf (0,Bj,Bj))
 (rec Al (Bs (Bj+1))))
 (lf (1,Al,Bj)))
def D6(L:Nat)(a0:List Yb)(a1:Yb):Nat->Int->Int->Option C3
 |0,_,_=>none
 |n+1,Al,Bj=>Jv L a0 a1 (D6 L a0 a1 n) Al Bj
theorem Bv9(a0:List Yb)(a1:Yb):LP (EV (B0m L) L 9 B78.u.l.u.l.l) [0,1,4,7,8] [] (Bxx a0 a1) [.ret,.exit 0] (λn v=>D6 L a0 a1 n v.1 v.2) K:=lE (λ_=>rfl) λn v ih=>eE (Jv L a0 a1 (λAl Bj=>re (ih (Al,Bj))) v.1 v.2)
def Qq [An A Int](L:Nat)(o1:Nat×Js):A:=
 (sl o1.1 [(lf o1.2.1),
 (lf (-1))])
def Acm [An A Int](a0:List Yb)(a1:Yb):A:=(bd (D6 L a0 a1 L 0 0) λo1=>Qq L o1)
def Nv(a0:List Yb)(a1:Yb):Option Int:=Acm L a0 a1
def Cb1:F6:=E2 I 183 cl9 cS (Nv L) λa0 a1 r h=>hF Tryz.func183 (C:=B0m L) (oS _) L (λkk=>eE ((hq (Bv9 L (KA (B0m L) L 9 B78 (rl [2,1,2,1]) (KE Tryz.f183 kk)) a0 a1 L (0,0)) λo1=>Qq L o1))) h
def P7 [An A Bool](a0:List Yb)(a1:Yb):A:=
 (bd (Nv L a0 a1) λr1=>
 (lf (decide (r1>=0))))
def Bx(a0:List Yb)(a1:Yb):Option Bool:=P7 L a0 a1
def B6v:F6:=E2 B 149 cl9 cS (Bx L) λa0 a1 r h=>hF Tryz.func149 (oS [Cb1 L]) L (λkk=>eE (P7 L a0 a1)) h
def Ali [An A Bool](L:Nat)(a0:Bk):A:=
 (cn (a0.Op == 1)
 (jp (.cn ((Bs ((a0.aW.length:Int)+(a0.aU.length:Int))) == 0)
 (.lf (a0.B == 0))
 (.lf false)) (λb1=>
 (jp (.cn b1
 (.lf (a0.N == 0))
 (.lf false)) (λb2=>
 (lf b2)))))
 (cn (a0.Op == 2)
 (cn (a0.Op == 2)
 (jp (.cn ((Bs ((a0.aW.length:Int)+(a0.aU.length:Int))) == 0)
 (.lf (a0.N == 0))
 (.lf false)) (λb3=>
 (lf b3)))
 (cn (a0.Op == 4)
 (lf ((Bs ((a0.aW.length:Int)+(a0.aU.length:Int))) == 0))
 (cn (a0.Op == 3)
 (jp (.cn (a0.A == 0)
 (.lf (a0.B == 0))
 (.lf false)) (λb4=>
 (jp (.cn b4
 (.lf (a0.N == 0))
 (.lf false)) (λb5=>
 (lf b5)))))
 (lf false))))
 (cn (a0.Op == 5)
 (jp (.cn ((Bs ((a0.aW.length:Int)+(a0.aU.length:Int))) == 0)
 (.lf (a0.N == 0))
 (.lf false)) (λb6=>
 (lf b6)))
 (cn (a0.Op == 4)
 (lf ((Bs ((a0.aW.length:Int)+(a0.aU.length:Int))) == 0))
 (cn (a0.Op == 3)
 (jp (.cn (a0.A == 0)
 (.lf (a0.B == 0))
 (.lf false)) (λb7=>
 (jp (.cn b7
 (.lf (a0.N == 0))
 (.lf false)) (λb8=>
 (lf b8)))))
 (lf false))))))
def Aek(a0:Bk):Option Bool:=Ali L a0
def Cbq:F6:=E1 B 168 Oy (Aek L) λa0 r h=>hF Tryz.func168 (oS []) L (λkk=>eE (Ali L a0)) h
def B8i:=CC Tryz.f197
def B8n:=CC Tryz.f215
def B71:=CC Tryz.f169
def Bdi(L:Nat):Bc:=oL []
def Bxp(p1_0:List Int)(p1_1:Int)(p1_2:Int)(v:Js):St:=⟨[(0,lv (.t3 p1_0)),(1,Bqz),(4,I v.1),(7,I (p1_0.length:Int)),(8,I v.2)],[(3,[I p1_1]),(4,[I p1_2])],1005⟩
def Wg [An A C3](L:Nat)(p1_0:List Int)(p1_1:Int)(p1_2:Int)(rec:Int->Int->A)(Ag:Int)(Af:Int):A:=
 (lw Af p1_0
 (jp (.cn (decide ((gD p1_0 Af)<p1_1))
 (.lf true)
 (.lf (decide ((gD p1_0 Af)>p1_2)))) (λb1=>
 (cn b1
 (lf (0,Af,Af))
 (rec Ag (Bs (Af+1))))))
 (lf (1,Ag,Af)))
def Jh(L:Nat)(p1_0:List Int)(p1_1:Int)(p1_2:Int):Nat->Int->Int->Option C3
 |0,_,_=>none
 |n+1,Ag,Af=>Wg L p1_0 p1_1 p1_2 (Jh L p1_0 p1_1 p1_2 n) Ag Af
theorem Bv1(p1_0:List Int)(p1_1:Int)(p1_2:Int):LP (EV (Bdi L) L 7 B8n.u.l.u.l.l) [0,1,4,7,8] [3,4] (Bxp p1_0 p1_1 p1_2) [.ret,.exit 0] (λn v=>Jh L p1_0 p1_1 p1_2 n v.1 v.2) K:=lE (λ_=>rfl) λn v ih=>eE (Wg L p1_0 p1_1 p1_2 (λAg Af=>re (ih (Ag,Af))) v.1 v.2)
def Br2(p1_0:List Int)(p1_1:Int)(p1_2:Int)(k:Dj):Int->Prop:=λo=>k (I o) [(3,[I p1_1]),(4,[I p1_2])]
def Adu [An A Int](L:Nat)(o2:Nat×Js):A:=
 (sl o2.1 [(lf o2.2.1),
 (lf (-1))])
def Am0 [An A Int](p1_0:List Int)(p1_1:Int)(p1_2:Int):A:=(bd (Jh L p1_0 p1_1 p1_2 L 0 0) λo2=>Adu L o2)
def Ac6(p1_0:List Int)(p1_1:Int)(p1_2:Int):Option Int:=Am0 L p1_0 p1_1 p1_2
theorem Buv(p1_0:List Int)(p1_1:Int)(p1_2:Int):YO (Bdi L) L 8 215 [lv (.t3 p1_0),Bqz] [(3,[I p1_1]),(4,[I p1_2])] k=ob (Ac6 L p1_0 p1_1 p1_2) (Br2 p1_0 p1_1 p1_2 k):=(C4 _ _ _ jn4 _ _ _ _ _ _ _).trans (eE ((hq (Bv1 L (KA (Bdi L) L 7 B8n (rl [2,1,2,1]) (KJ Tryz.f215 k)) p1_0 p1_1 p1_2 L (0,0)) λo2=>Adu L o2)))
def Wt [An A Bool](L:Nat)(o3:Int):A:=
 (lf (!(decide (o3>=0))))
def Atv [An A Bool](a0:Int)(a1:Int)(a2:List Int):A:=(bd (Ac6 L a2 a0 a1) λo3=>Wt L o3)
def Gt(a0:Int)(a1:Int)(a2:List Int):Option Bool:=Atv L a0 a1 a2
def Cbr:F6:=E3 B 169 (cI .i64) (cI .i64) cl3 (Gt L) λa0 a1 a2 r h=>hF Tryz.func169 (C:=Bdi L) (oS _) L (λkk=>eE ((hq (Buv L (Mx (Bdi L) L 8 2 3 B8i.u.l ⟨[(6,Bqz),(5,lv (.t3 a2)),(0,lv (.t3 a2)),(1,Bqz),Aj7],[(3,[I a0]),(4,[I a1])],1005⟩ (some 7) (kN (KA (Bdi L) L 8 B8i (rl [2,1]) (KJ Tryz.f197 (Mx (Bdi L) L 9 2 3 B71.u.l ⟨[(8,Bqz),(7,lv (.t3 a2)),(2,lv (.t3 a2)),T4,Bgt,(6,B false)],[(3,[I a0]),(4,[I a1])],0⟩ (some 9) (kN (KA (Bdi L) L 9 B71 (rl [2,1]) (KE Tryz.f169 kk)))))))) a2 a0 a1) λo3=>Wt L o3))) h
def Aox [An A Int](a0:Bk):A:=
 (bd (Aek L a0) λr1=>
 (cn (!r1)
 (lf 1)
 (cn (a0.Op == 1)
 (bd (Gt L 0 1000000000 [a0.A]) λr2=>
 (cn (!r2)
 (lf 2)
 (lf 0)))
 (cn (a0.Op == 2)
 (bd (Gt L 0 1000000000 [a0.A,a0.B]) λr3=>
 (jp (.cn r3
 (.lf (decide (a0.A<=a0.B)))
 (.lf false)) (λb4=>
 (cn (!b4)
 (lf 2)
 (lf 0)))))
 (cn (a0.Op == 4)
 (bd (Gt L 1 20 [a0.N]) λr5=>
 (cn r5
 (jb (.bd (Gt L 0 1000000 [a0.A,a0.B]) λr7=>
 (.lf r7)) (λb6=>
 (jp (.cn b6
 (.lf (decide (a0.A<=a0.B)))
 (.lf false)) (λb8=>
 (cn (!b8)
 (lf 2)
 (lf 0))))))
 (nq (nq (lf 2)))))
 (cn (a0.Op == 5)
 (bd (Gt L 1 1000 [a0.A,a0.B]) λr9=>
 (cn (!r9)
 (lf 2)
 (lf 0)))
 (cn (a0.Op == 3)
 (cn ((a0.aW.length:Int) != (a0.aU.length:Int))
 (lf 8)
 (cn ((a0.aW.length:Int) == 0)
 (lf 7)
 (cn (decide ((a0.aW.length:Int)>20))
 (lf 6)
 (bd (Gt L 0 1000000000 a0.aW) λr10=>
 (jb (.cn r10
 (.bd (Gt L 1 1000 a0.aU) λr12=>
 (.lf r12))
 (.lf false)) (λb11=>
 (cn (!b11)
 (lf 2)
 (lf 0))))))))
 (lf 2))))))))
def F7(a0:Bk):Option Int:=Aox L a0
def B0z:F6:=E1 I 129 Oy (F7 L) λa0 r h=>hF Tryz.func129 (oS [Cbq L,Cbr L]) L (λkk=>eE (Aox L a0)) h
def Acz [An A Int](a0:Aa)(a1:N7):A:=
 (cn (a1.dG.toList == (⟨#[]⟩:Yb).toList)
 (bd (L6 L a1.Up (⟨0,0,0,0,[],[]⟩:Bk)) λr1=>
 (cn (!r1)
 (nq (lf 1))
 (bd (L6 L a1.Down (⟨0,0,0,0,[],[]⟩:Bk)) λr2=>
 (nq (cn (!r2)
 (lf 1)
 (cn (a1.dG.toList == (⟨#[]⟩:Yb).toList)
 (lf 0)
 (bd (Bx L a0.aZ a1.dG) λr3=>
 (cn (!r3)
 (lf 5)
 (bd (F7 L a1.Up) λr4=>
 (cn (r4 != 0)
 (lf r4)
 (bd (F7 L a1.Down) λr5=>
 (lf r5))))))))))))
 (nq (cn (a1.dG.toList == (⟨#[]⟩:Yb).toList)
 (lf 0)
 (bd (Bx L a0.aZ a1.dG) λr6=>
 (cn (!r6)
 (lf 5)
 (bd (F7 L a1.Up) λr7=>
 (cn (r7 != 0)
 (lf r7)
 (bd (F7 L a1.Down) λr8=>
 (lf r8)))))))))
def V1(a0:Aa)(a1:N7):Option Int:=Acz L a0 a1
def X97:F6:=E2 I 97 C7 Ba0 (V1 L) λa0 a1 r h=>hF Tryz.func97 (oS [B0z L,B04 L,B6v L]) L (λkk=>eE (Acz L a0 a1)) h
def Bsz:=CC Tryz.f150
def Bni(L:Nat):Bc:=oL []
def Bxl(a0:List (List Ba))(v:Js):St:=⟨[(0,lv (.gJ a0)),(2,.bB true (.dQ [])),(3,I v.1),(6,.any),(8,.any),(9,lv (.gJ a0)),(10,I (a0.length:Int)),(11,I v.2),(27,.any)],[],0⟩
def Hp [An A C3](L:Nat)(a0:List (List Ba))(rec:Int->Int->A)(Al:Int)(Bc3:Int):A:=
 (lw Bc3 a0
 (cn (decide ((Bs (Al+((gD a0 Bc3).length:Int)))<0))
 fl
 (rec (Bs (Al+((gD a0 Bc3).length:Int))) (Bs (Bc3+1))))
 (lf (0,Al,Bc3)))
def C8(L:Nat)(a0:List (List Ba)):Nat->Int->Int->Option C3
 |0,_,_=>none
 |n+1,Al,Bc3=>Hp L a0 (C8 L a0 n) Al Bc3
theorem Bvx(a0:List (List Ba)):LP (EV (Bni L) L 9 Bsz.w.l.u.l.l) [0,2,3,6,8,9,10,11,27] [] (Bxl a0) [.exit 0] (λn v=>C8 L a0 n v.1 v.2) K:=lE (λ_=>rfl) λn v ih=>eE (Hp L a0 (λAl Bc3=>re (ih (Al,Bc3))) v.1 v.2)
def Bxm(a0:List (List Ba))(v:List Ba×Int):St:=⟨[(0,.any),(2,.bB true (.dQ [])),(3,.any),(5,.any),(6,.bB true (.dQ v.1)),A8s,(25,lv (.gJ a0)),(26,I (a0.length:Int)),(27,I v.2)],[],0⟩
def Hq [An A (Nat×List Ba×Int)](L:Nat)(a0:List (List Ba))(rec:List Ba->Int->A)(Gi:List Ba)(Lo:Int):A:=
 (lw Lo a0
 (gq ((Gi.length+(gD a0 Lo).length)*24<=140737488355328)
 (gq (Gi.length+(gD a0 Lo).length<=maxLen)
 (rec (Gi++(gD a0 Lo)) (Bs (Lo+1)))))
 (lf (0,Gi,Lo)))
def C9(L:Nat)(a0:List (List Ba)):Nat->List Ba->Int->Option (Nat×List Ba×Int)
 |0,_,_=>none
 |n+1,Gi,Lo=>Hq L a0 (C9 L a0 n) Gi Lo
theorem Bvy(a0:List (List Ba)):LP (EV (Bni L) L 9 Bsz.x.l.u.l.l) [0,2,3,5,6,11,25,26,27] [] (Bxm a0) [.exit 2] (λn v=>C9 L a0 n v.1 v.2) K:=lE (λ_=>rfl) λn v ih=>eE (Hq L a0 (λGi Lo=>re (ih (Gi,Lo))) v.1 v.2)
def Hs [An A (List Ba)](L:Nat)(o2:Nat×List Ba×Int):A:=
 (sl o2.1 [(lf o2.2.1)])
def Ht [An A (List Ba)](L:Nat)(a0:List (List Ba))(o1:Nat×Js)(nx2:A):A:=
 (sl o1.1 [(gq (0<=o1.2.1)
 (gq (o1.2.1*((24:Nat):Int)<=140737488355328)
 (gq (o1.2.1<=(4611686018427387904:Int))
 nx2)))])
def Lm [An A (List Ba)](a0:List (List Ba))(o1:Nat×Js):A:=Ht L a0 o1 (bd (C9 L a0 L [] 0) λo2=>Hs L o2)
def Xo [An A (List Ba)](a0:List (List Ba)):A:=(bd (C8 L a0 L 0 0) λo1=>Lm L a0 o1)
def I0(a0:List (List Ba)):Option (List Ba):=Xo L a0
def Cbm:F6:=E1 (λ(x:List Ba)=>lv (.dQ x)) 150 Cc9 (I0 L) λa0 r h=>hF Tryz.func150 (C:=Bni L) (oS _) L (λkk=>eE ((hq (Bvx L (KA (Bni L) L 9 Bsz (rl [4,1,2,1]) (KE Tryz.f150 kk)) a0 L (0,0)) λo1=>Ht L a0 o1 (hq (Bvy L (KA (Bni L) L 9 Bsz (rl [8,1,2,1]) (KE Tryz.f150 kk)) a0 L ([],0)) λo2=>Hs L o2)))) h
def Bji(F:(List Ad)->Option Int):Prop:=∀y0 r,F y0=some r->Ho Tryz.prog 185 [Z8.en y0] I r
def B79:=CC Tryz.f185
def B0n(Gc:(List Ad)->Option Int)(L:Nat):Bc:=(orc 185 (A1 I Z8 Gc) (oL []))
theorem Ceg(Gc:(List Ad)->Option Int)(Bos:Bji Gc)(L:Nat):Dl Tryz.prog (B0n Gc L):=(Er (a1 _ Bos) (oS []))
def Bxy(a0:List Ad)(v:Js):St:=⟨[(0,.any),(2,I 0),(3,I v.1),(8,lv (.dX a0)),(9,I (a0.length:Int)),(10,I v.2)],[],0⟩
def Ys [An A C3](Gc:(List Ad)->Option Int)(L:Nat)(a0:List Ad)(rec:Int->Int->A)(Ag:Int)(Bj:Int):A:=
 (lw Bj a0
 (bd (Gc ((gD a0 Bj).bE)) λr1=>
 (bd (Gc ((gD a0 Bj).bN)) λr2=>
 (rec (Bs (Ag+(Bs (r1+r2)))) (Bs (Bj+1)))))
 (lf (0,Ag,Bj)))
def K6(Gc:(List Ad)->Option Int)(L:Nat)(a0:List Ad):Nat->Int->Int->Option C3
 |0,_,_=>none
 |n+1,Ag,Bj=>Ys Gc L a0 (K6 Gc L a0 n) Ag Bj
theorem Bwa(Gc:(List Ad)->Option Int)(L:Nat)(K:Ei)(a0:List Ad):LP (EV (B0n Gc L) L 9 B79.w.l.u.l.l) [0,2,3,8,9,10] [] (Bxy a0) [.exit 0] (λn v=>K6 Gc L a0 n v.1 v.2) K:=lE (λ_=>rfl) λn v ih=>eE (Ys Gc L a0 (λAg Bj=>re (ih (Ag,Bj))) v.1 v.2)
def Za [An A Int](Gc:(List Ad)->Option Int)(L:Nat)(o3:Nat×Js):A:=
 (sl o3.1 [(lf o3.2.1)])
def Awc [An A Int](Gc:(List Ad)->Option Int)(L:Nat)(a0:List Ad):A:=(bd (K6 Gc L a0 L (a0.length:Int) 0) λo3=>Za Gc L o3)
def Aoh(Gc:(List Ad)->Option Int)(L:Nat)(a0:List Ad):Option Int:=Awc Gc L a0
theorem Ccx(Gc:(List Ad)->Option Int)(Bos:Bji Gc)(L:Nat):Bji (Aoh Gc L):=λa0 r h=>hF Tryz.func185 (Ceg Gc Bos L) L (λkk=>eE ((hq (Bwa Gc L (KA (B0n Gc L) L 9 B79 (rl [4,1,2,1]) (KE Tryz.f185 kk)) a0 L ((a0.length:Int),0)) λo3=>Za Gc L o3))) h
def Lx:Nat->(List Ad)->Option Int
 |0,_=>none
 |L+1,a0=>Aoh (Lx L) L a0
theorem Buc(L:Nat):Bji (Lx L):=by
 induction L with
 |zero=>exact λ_ _ h=>(by cases h)
 |succ L ih=>
  have i185:=ih;exact Ccx (Lx L) i185 L
def Cb2(L:Nat):F6:=E1 I 185 Z8 (Lx L) (Buc L)
def Bjj(F:(List Ad)->Option Int):Prop:=∀y0 r,F y0=some r->Ho Tryz.prog 186 [Z8.en y0] I r
def B8a:=CC Tryz.f186
def B0o(Gd:(List Ad)->Option Int)(L:Nat):Bc:=(orc 186 (A1 I Z8 Gd) (oL []))
theorem Ceh(Gd:(List Ad)->Option Int)(Bou:Bjj Gd)(L:Nat):Dl Tryz.prog (B0o Gd L):=(Er (a1 _ Bou) (oS []))
def Bxz(a0:List Ad)(v:Js):St:=⟨[(0,.any),(2,I 0),(3,I v.1),(6,lv (.dX a0)),(7,I (a0.length:Int)),(8,I v.2)],[],0⟩
def Yt [An A C3](Gd:(List Ad)->Option Int)(L:Nat)(a0:List Ad)(rec:Int->Int->A)(Ag:Int)(Bj:Int):A:=
 (lw Bj a0
 (bd (Gd ((gD a0 Bj).bE)) λr1=>
 (bd (Gd ((gD a0 Bj).bN)) λr2=>
 (rec (if(Bs (1+r2))>(if(Bs (1+r1))>Ag then(Bs (1+r1))else Ag) then(Bs (1+r2)) else(if(Bs (1+r1))>Ag then(Bs (1+r1))else Ag)) (Bs (Bj+1)))))
 (lf (0,Ag,Bj)))
def K7(Gd:(List Ad)->Option Int)(L:Nat)(a0:List Ad):Nat->Int->Int->Option C3
 |0,_,_=>none
 |n+1,Ag,Bj=>Yt Gd L a0 (K7 Gd L a0 n) Ag Bj
theorem Bwb(Gd:(List Ad)->Option Int)(L:Nat)(K:Ei)(a0:List Ad):LP (EV (B0o Gd L) L 9 B8a.w.l.u.l.l) [0,2,3,6,7,8] [] (Bxz a0) [.exit 0] (λn v=>K7 Gd L a0 n v.1 v.2) K:=lE (λ_=>rfl) λn v ih=>eE (Yt Gd L a0 (λAg Bj=>re (ih (Ag,Bj))) v.1 v.2)
def Zb [An A Int](Gd:(List Ad)->Option Int)(L:Nat)(o3:Nat×Js):A:=
 (sl o3.1 [(lf o3.2.1)])
def Awd [An A Int](Gd:(List Ad)->Option Int)(L:Nat)(a0:List Ad):A:=(bd (K7 Gd L a0 L 0 0) λo3=>Zb Gd L o3)
def Aoi(Gd:(List Ad)->Option Int)(L:Nat)(a0:List Ad):Option Int:=Awd Gd L a0
theorem Ccy(Gd:(List Ad)->Option Int)(Bou:Bjj Gd)(L:Nat):Bjj (Aoi Gd L):=λa0 r h=>hF Tryz.func186 (Ceh Gd Bou L) L (λkk=>eE ((hq (Bwb Gd L (KA (B0o Gd L) L 9 B8a (rl [4,1,2,1]) (KE Tryz.f186 kk)) a0 L (0,0)) λo3=>Zb Gd L o3))) h
def Ly:Nat->(List Ad)->Option Int
 |0,_=>none
 |L+1,a0=>Aoi (Ly L) L a0
theorem Bud(L:Nat):Bjj (Ly L):=by
 induction L with
 |zero=>exact λ_ _ h=>(by cases h)
 |succ L ih=>
  have i186:=ih;exact Ccy (Ly L) i186 L
def Cb3(L:Nat):F6:=E1 I 186 Z8 (Ly L) (Bud L)
def Ai3:=CC Tryz.f210
def Auj(L:Nat):Bc:=oL []
def A9i:(Bt×Bool)->Prop:=λx=>kk ((λ(x:Bt×Bool)=>.cK [.agg (Ac4 x.1),B x.2]) x)
def Bkx:St:=⟨[Tp,(3,B false)],Bm5,0⟩
def Bkf(L:Nat)(kk:Lr):Ei:=(KE Tryz.f210 kk)
def Abq [An A (Bt×Bool)](L:Nat):A:=
 (lf ((⟨false,false,false,false,false,false,false,false,false⟩:Bt),false))
theorem Bte:EV (Auj L) L 9 Ai3.w (Bkx) (Bkf L kk)=ob (Abq L) (A9i kk):=eE (Abq L)
def A3q(a0:Int)(p803_2:Bool):St:=⟨[Tp,(3,B false),(4,I a0),(32,B p803_2)],Bm5,0⟩
def A3g(e0:EC):Ei:=(Gn 0 (Rn (EV (Auj L) L 9 e0) (KE Tryz.f210 kk)))
def sx_stmt_uses_3 [An A (Bt×Bool)](L:Nat)(a0:Int)(p803_2:Bool)(nx1:A):A:=
 (cn p803_2
 (lf ((⟨true,false,false,false,false,false,false,false,false⟩:Bt),true))
 (cn (a0 == 13)
 (lf ((⟨true,true,true,false,true,false,false,false,false⟩:Bt),true))
 (cn (a0 == 14)
 (lf ((⟨true,false,true,false,true,false,false,false,false⟩:Bt),true))
 (cn (a0 == 18)
 (lf ((⟨false,false,false,false,false,false,false,false,false⟩:Bt),true))
 nx1))))
def Ajy [An A (Bt×Bool)](a0:Int)(p803_2:Bool):A:=sx_stmt_uses_3 L a0 p803_2 (Abq L)
theorem Btt(a0:Int)(p803_2:Bool)(z1:EC):EV (Auj L) L 9 Ai3.u.l.u.l.x.x.w.u.r (A3q a0 p803_2) (A3g L kk (EC.put (rl [1]) z1 Ai3.u.r))= @sx_stmt_uses_3 Prop (anP (A9i kk)) L a0 p803_2 (EV (Auj L) L 9 z1 (Bkx) (Bkf L kk)):=by kernel_rfl
theorem Btg(a0:Int)(p803_2:Bool):EV (Auj L) L 9 Ai3.u.l.u.l.x.x.w.u.r (A3q a0 p803_2) (A3g L kk Ai3.u.r)=ob (Ajy L a0 p803_2) (A9i kk):=Eq.trans (b:=EV (Auj L) L 9 Ai3.u.l.u.l.x.x.w.u.r (A3q a0 p803_2) (A3g L kk (EC.put (rl [1]) Ai3.w Ai3.u.r))) (by kernel_rfl) ((Btt L kk a0 p803_2 Ai3.w).trans (eE (sx_stmt_uses_3 L a0 p803_2 (re (Bte L kk)))))
def A3p(a0:Int)(p802_2:Bool):St:=⟨[Tp,(3,B false),(4,I a0),(5,B p802_2)],Bm5,0⟩
def A3f(e0:EC):Ei:=(Gn 0 (Rn (EV (Auj L) L 9 e0) (KE Tryz.f210 kk)))
def sx_stmt_uses_2 [An A (Bt×Bool)](L:Nat)(a0:Int)(p802_2:Bool)(nx3:Int->Bool->A):A:=
 (cn p802_2
 (lf ((⟨true,false,true,false,false,false,false,false,false⟩:Bt),true))
 (cn (a0 == 2)
 (lf ((⟨true,true,false,false,false,true,false,false,false⟩:Bt),true))
 (cn (a0 == 3)
 (lf ((⟨false,false,true,false,false,false,false,true,true⟩:Bt),true))
 (cn (a0 == 4)
 (lf ((⟨false,false,true,false,false,false,false,true,false⟩:Bt),true))
 (cn (a0 == 5)
 (lf ((⟨false,false,true,false,false,false,false,false,false⟩:Bt),true))
 (cn (a0 == 6)
 (lf ((⟨true,false,true,true,false,false,true,false,false⟩:Bt),true))
 (cn (a0 == 9)
 (lf ((⟨true,true,false,false,false,false,false,false,false⟩:Bt),true))
 (cn (a0 == 10)
 (nx3 a0 (a0 == 10))
 (nx3 a0 (a0 == 11))))))))))
def Ajx [An A (Bt×Bool)](a0:Int)(p802_2:Bool):A:=sx_stmt_uses_2 L a0 p802_2 (λa0 p803_2=>Ajy L a0 p803_2)
theorem Bts(a0:Int)(p802_2:Bool)(z3:EC):EV (Auj L) L 9 (EC.put (rl [21]) z3 Ai3.u.l.u.l.u) (A3p a0 p802_2) (A3f L kk Ai3.u.r)= @sx_stmt_uses_2 Prop (anP (A9i kk)) L a0 p802_2 (λa0 p803_2=>EV (Auj L) L 9 z3 (A3q a0 p803_2) (A3g L kk Ai3.u.r)):=by kernel_rfl
theorem Btf(a0:Int)(p802_2:Bool):EV (Auj L) L 9 Ai3.u.l.u.l.u (A3p a0 p802_2) (A3f L kk Ai3.u.r)=ob (Ajx L a0 p802_2) (A9i kk):=Eq.trans (b:=EV (Auj L) L 9 (EC.put (rl [21]) Ai3.u.l.u.l.x.x.w.u.r Ai3.u.l.u.l.u) (A3p a0 p802_2) (A3f L kk Ai3.u.r)) (by kernel_rfl) ((Bts L kk a0 p802_2 Ai3.u.l.u.l.x.x.w.u.r).trans (eE (sx_stmt_uses_2 L a0 p802_2 (λa0 p803_2=>re (Btg L kk a0 p803_2)))))
def sx_stmt_uses_0 [An A (Bt×Bool)](L:Nat)(a0:Int)(nx2:Int->Bool->A):A:=
 (cn (a0 == 1)
 (nx2 a0 (a0 == 1))
 (cn (a0 == 7)
 (nx2 a0 (a0 == 7))
 (cn (a0 == 8)
 (nx2 a0 (a0 == 8))
 (cn (a0 == 12)
 (nx2 a0 (a0 == 12))
 (cn (a0 == 15)
 (nx2 a0 (a0 == 15))
 (cn (a0 == 16)
 (nx2 a0 (a0 == 16))
 (nx2 a0 (a0 == 17))))))))
def A1b [An A (Bt×Bool)](a0:Int):A:=sx_stmt_uses_0 L a0 (λa0 p802_2=>Ajx L a0 p802_2)
theorem Btr(a0:Int)(z2:EC):EW (Auj L) L 9 (RS Tryz.f210) (EC.put (rl [2,1,2,1,2]) z2 Ai3) [I a0] kk= @sx_stmt_uses_0 Prop (anP (A9i kk)) L a0 (λa0 p802_2=>EV (Auj L) L 9 z2 (A3p a0 p802_2) (A3f L kk Ai3.u.r)):=by kernel_rfl
def Afu(a0:Int):Option (Bt×Bool):=A1b L a0
def B62:F6:=E1 (λ(x:Bt×Bool)=>.cK [.agg (Ac4 x.1),B x.2]) 210 (cI .i64) (Afu L) λa0 r h=>hF Tryz.func210 (C:=Auj L) (oS _) L (λkk=>Eq.trans (b:=EW (Auj L) L 9 (RS Tryz.f210) (EC.put (rl [2,1,2,1,2]) Ai3.u.l.u.l.u Ai3) [I a0] kk) (by kernel_rfl) ((Btr L kk a0 Ai3.u.l.u.l.u).trans (eE (sx_stmt_uses_0 L a0 (λa0 p802_2=>re (Btf L kk a0 p802_2)))))) h
def Bjl(F:Ab->Ab->Option Bool):Prop:=∀y0 y1 r,F y0 y1=some r->Ho Tryz.prog 192 [Bi.en y0,Bi.en y1] B r
def B8d:=CC Tryz.f192
def B0q(F4:Ab->Ab->Option Bool)(L:Nat):Bc:=(orc 192 (A2 B Bi Bi F4) (oL []))
theorem Cej(F4:Ab->Ab->Option Bool)(Bow:Bjl F4)(L:Nat):Dl Tryz.prog (B0q F4 L):=(Er (a2 _ Bow) (oS []))
def Bx1(a0:Ab)(a1:Ab)(v:Tu5):St:=⟨[(0,.any),(1,.any),(2,.any),T4,(4,B v.1),(36,lv (.dU a0.aY)),(37,I (a0.aY.length:Int)),(38,I v.2)],[(2,(Cl a0)),(3,(Cl a1))],0⟩
def Aag [An A (Nat×Tu5)](F4:Ab->Ab->Option Bool)(L:Nat)(a0:Ab)(a1:Ab)(rec:Bool->Int->A)(Ai:Bool)(Af:Int):A:=
 (lw Af a0.aY
 (gi Af a1.aY
 (bd (F4 (Ab.cp (gD a0.aY Af)) (Ab.cp (gD a1.aY Af))) λr4=>
 (cn (!r4)
 (lf (0,false,Af))
 (rec Ai (Bs (Af+1))))))
 (lf (1,Ai,Af)))
def Nn(F4:Ab->Ab->Option Bool)(L:Nat)(a0:Ab)(a1:Ab):Nat->Bool->Int->Option (Nat×Tu5)
 |0,_,_=>none
 |n+1,Ai,Af=>Aag F4 L a0 a1 (Nn F4 L a0 a1 n) Ai Af
theorem Bwd(F4:Ab->Ab->Option Bool)(L:Nat)(K:Ei)(a0:Ab)(a1:Ab):LP (EV (B0q F4 L) L 9 B8d.w.l.u.l.l) [0,1,2,3,4,36,37,38] [2,3] (Bx1 a0 a1) [.ret,.exit 0] (λn v=>Nn F4 L a0 a1 n v.1 v.2) K:=lE (λ_=>rfl) λn v ih=>eE (Aag F4 L a0 a1 (λAi Af=>re (ih (Ai,Af))) v.1 v.2)
def Abh [An A Bool](F4:Ab->Ab->Option Bool)(L:Nat)(o5:Nat×Tu5):A:=
 (sl o5.1 [(lf o5.2.1),
 (lf true)])
def Acd [An A Bool](F4:Ab->Ab->Option Bool)(L:Nat)(a0:Ab)(a1:Ab)(nx1:A):A:=
 (jp (.cn (a0.Op != a1.Op)
 (.lf true)
 (.lf (!(a0.aF.toList == a1.aF.toList)))) (λb1=>
 (jp (.cn b1
 (.lf true)
 (.lf (a0.N != a1.N))) (λb2=>
 (jp (.cn b2
 (.lf true)
 (.lf ((a0.aY.length:Int) != (a1.aY.length:Int)))) (λb3=>
 (cn b3
 (lf false)
 nx1)))))))
def A1a [An A Bool](F4:Ab->Ab->Option Bool)(L:Nat)(a0:Ab)(a1:Ab):A:=Acd F4 L a0 a1 (bd (Nn F4 L a0 a1 L false 0) λo5=>Abh F4 L o5)
def Aqx(F4:Ab->Ab->Option Bool)(L:Nat)(a0:Ab)(a1:Ab):Option Bool:=A1a F4 L a0 a1
theorem Cc0(F4:Ab->Ab->Option Bool)(Bow:Bjl F4)(L:Nat):Bjl (Aqx F4 L):=λa0 a1 r h=>hF Tryz.func192 (Cej F4 Bow L) L (λkk=>eE (Acd F4 L a0 a1 (hq (Bwd F4 L (KA (B0q F4 L) L 9 B8d (rl [4,1,2,1]) (KE Tryz.f192 kk)) a0 a1 L (false,0)) λo5=>Abh F4 L o5))) h
def L7:Nat->Ab->Ab->Option Bool
 |0,_,_=>none
 |L+1,a0,a1=>Aqx (L7 L) L a0 a1
theorem Buf(L:Nat):Bjl (L7 L):=by
 induction L with
 |zero=>exact λ_ _ _ h=>(by cases h)
 |succ L ih=>
  have i192:=ih;exact Cc0 (L7 L) i192 L
def B6y(L:Nat):F6:=E2 B 192 Bi Bi (L7 L) (Buf L)
def Aru [An A Bool](a0:Ad)(a1:Bt):A:=
 (jp (.cn a1.dP
 (.lf true)
 (.lf (a0.aF.toList == (⟨#[]⟩:Yb).toList))) (λb1=>
 (jp (.cn b1
 (.cn a1.fT
 (.lf true)
 (.lf (a0.Of.toList == (⟨#[]⟩:Yb).toList)))
 (.lf false)) (λb2=>
 (cn b2
 (cn a1.fI
 (nq (cn a1.fP
 (nq (jp (.cn a1.dF
 (.lf true)
 (.lf ((a0.aP.length:Int) == 0))) (λb3=>
 (cn b3
 (cn a1.bR
 (nq (jp (.cn a1.fA
 (.lf true)
 (.lf (!a0.bY))) (λb4=>
 (jp (.cn b4
 (.cn a1.eZ
 (.lf true)
 (.lf ((a0.bE.length:Int) == 0)))
 (.lf false)) (λb5=>
 (jp (.cn b5
 (.cn a1.dY
 (.lf true)
 (.lf ((a0.bN.length:Int) == 0)))
 (.lf false)) (λb6=>
 (lf b6))))))))
 (bd (L6 L a0.bF (⟨0,0,0,0,[],[]⟩:Bk)) λr7=>
 (nq (jp (.cn r7
 (.cn a1.fA
 (.lf true)
 (.lf (!a0.bY)))
 (.lf false)) (λb8=>
 (jp (.cn b8
 (.cn a1.eZ
 (.lf true)
 (.lf ((a0.bE.length:Int) == 0)))
 (.lf false)) (λb9=>
 (jp (.cn b9
 (.cn a1.dY
 (.lf true)
 (.lf ((a0.bN.length:Int) == 0)))
 (.lf false)) (λb10=>
 (lf b10))))))))))
 (nq (nq (nq (nq (lf false)))))))))
 (bd (L7 L (Ab.cp a0.F) (Ab.mk 0 (⟨#[]⟩:Yb) 0 [])) λr11=>
 (nq (jp (.cn r11
 (.cn a1.dF
 (.lf true)
 (.lf ((a0.aP.length:Int) == 0)))
 (.lf false)) (λb12=>
 (cn b12
 (cn a1.bR
 (nq (jp (.cn a1.fA
 (.lf true)
 (.lf (!a0.bY))) (λb13=>
 (jp (.cn b13
 (.cn a1.eZ
 (.lf true)
 (.lf ((a0.bE.length:Int) == 0)))
 (.lf false)) (λb14=>
 (jp (.cn b14
 (.cn a1.dY
 (.lf true)
 (.lf ((a0.bN.length:Int) == 0)))
 (.lf false)) (λb15=>
 (lf b15))))))))
 (bd (L6 L a0.bF (⟨0,0,0,0,[],[]⟩:Bk)) λr16=>
 (nq (jp (.cn r16
 (.cn a1.fA
 (.lf true)
 (.lf (!a0.bY)))
 (.lf false)) (λb17=>
 (jp (.cn b17
 (.cn a1.eZ
 (.lf true)
 (.lf ((a0.bE.length:Int) == 0)))
 (.lf false)) (λb18=>
 (jp (.cn b18
 (.cn a1.dY
 (.lf true)
 (.lf ((a0.bN.length:Int) == 0)))
 (.lf false)) (λb19=>
 (lf b19))))))))))
 (nq (nq (nq (nq (lf false))))))))))))
 (bd (L7 L (Ab.cp a0.E) (Ab.mk 0 (⟨#[]⟩:Yb) 0 [])) λr20=>
 (nq (cn r20
 (cn a1.fP
 (nq (jp (.cn a1.dF
 (.lf true)
 (.lf ((a0.aP.length:Int) == 0))) (λb21=>
 (cn b21
 (cn a1.bR
 (nq (jp (.cn a1.fA
 (.lf true)
 (.lf (!a0.bY))) (λb22=>
 (jp (.cn b22
 (.cn a1.eZ
 (.lf true)
 (.lf ((a0.bE.length:Int) == 0)))
 (.lf false)) (λb23=>
 (jp (.cn b23
 (.cn a1.dY
 (.lf true)
 (.lf ((a0.bN.length:Int) == 0)))
 (.lf false)) (λb24=>
 (lf b24))))))))
 (bd (L6 L a0.bF (⟨0,0,0,0,[],[]⟩:Bk)) λr25=>
 (nq (jp (.cn r25
 (.cn a1.fA
 (.lf true)
 (.lf (!a0.bY)))
 (.lf false)) (λb26=>
 (jp (.cn b26
 (.cn a1.eZ
 (.lf true)
 (.lf ((a0.bE.length:Int) == 0)))
 (.lf false)) (λb27=>
 (jp (.cn b27
 (.cn a1.dY
 (.lf true)
 (.lf ((a0.bN.length:Int) == 0)))
 (.lf false)) (λb28=>
 (lf b28))))))))))
 (nq (nq (nq (nq (lf false)))))))))
 (bd (L7 L (Ab.cp a0.F) (Ab.mk 0 (⟨#[]⟩:Yb) 0 [])) λr29=>
 (nq (jp (.cn r29
 (.cn a1.dF
 (.lf true)
 (.lf ((a0.aP.length:Int) == 0)))
 (.lf false)) (λb30=>
 (cn b30
 (cn a1.bR
 (nq (jp (.cn a1.fA
 (.lf true)
 (.lf (!a0.bY))) (λb31=>
 (jp (.cn b31
 (.cn a1.eZ
 (.lf true)
 (.lf ((a0.bE.length:Int) == 0)))
 (.lf false)) (λb32=>
 (jp (.cn b32
 (.cn a1.dY
 (.lf true)
 (.lf ((a0.bN.length:Int) == 0)))
 (.lf false)) (λb33=>
 (lf b33))))))))
 (bd (L6 L a0.bF (⟨0,0,0,0,[],[]⟩:Bk)) λr34=>
 (nq (jp (.cn r34
 (.cn a1.fA
 (.lf true)
 (.lf (!a0.bY)))
 (.lf false)) (λb35=>
 (jp (.cn b35
 (.cn a1.eZ
 (.lf true)
 (.lf ((a0.bE.length:Int) == 0)))
 (.lf false)) (λb36=>
 (jp (.cn b36
 (.cn a1.dY
 (.lf true)
 (.lf ((a0.bN.length:Int) == 0)))
 (.lf false)) (λb37=>
 (lf b37))))))))))
 (nq (nq (nq (nq (lf false)))))))))))
 (nq (nq (nq (nq (nq (nq (lf false)))))))))))
 (nq (nq (nq (nq (nq (nq (nq (lf false)))))))))))))
def Aft(a0:Ad)(a1:Bt):Option Bool:=Aru L a0 a1
def B63:F6:=E2 B 211 Afx A1e (Aft L) λa0 a1 r h=>hF Tryz.func211 (oS [B04 L,B6y L]) L (λkk=>eE (Aru L a0 a1)) h
def Bjm(F:Ab->Option Int):Prop:=∀y0 r,F y0=some r->Ho Tryz.prog 193 [Bi.en y0] I r
def B8e:=CC Tryz.f193
def B0r(He:Ab->Option Int)(L:Nat):Bc:=(orc 193 (A1 I Bi He) (oL []))
theorem Cek(He:Ab->Option Int)(Box:Bjm He)(L:Nat):Dl Tryz.prog (B0r He L):=(Er (a1 _ Box) (oS []))
def Bx2(a0:Ab)(v:Js):St:=⟨[(0,.any),(1,.any),(2,I 0),(3,I v.1),(7,lv (.dU a0.aY)),(8,I (a0.aY.length:Int)),(9,I v.2)],[(1,(Cl a0))],0⟩
def Ym [An A C3](He:Ab->Option Int)(L:Nat)(a0:Ab)(rec:Int->Int->A)(Ag:Int)(Bj:Int):A:=
 (lw Bj a0.aY
 (bd (He (Ab.cp (gD a0.aY Bj))) λr1=>
 (rec (Bs (Ag+r1)) (Bs (Bj+1))))
 (lf (0,Ag,Bj)))
def Ku(He:Ab->Option Int)(L:Nat)(a0:Ab):Nat->Int->Int->Option C3
 |0,_,_=>none
 |n+1,Ag,Bj=>Ym He L a0 (Ku He L a0 n) Ag Bj
theorem Bwe(He:Ab->Option Int)(L:Nat)(K:Ei)(a0:Ab):LP (EV (B0r He L) L 9 B8e.w.l.u.l.l) [0,1,2,3,7,8,9] [1] (Bx2 a0) [.exit 0] (λn v=>Ku He L a0 n v.1 v.2) K:=lE (λ_=>rfl) λn v ih=>eE (Ym He L a0 (λAg Bj=>re (ih (Ag,Bj))) v.1 v.2)
def Y1 [An A Int](He:Ab->Option Int)(L:Nat)(o2:Nat×Js):A:=
 (sl o2.1 [(lf o2.2.1)])
def Av7 [An A Int](He:Ab->Option Int)(L:Nat)(a0:Ab):A:=(bd (Ku He L a0 L 1 0) λo2=>Y1 He L o2)
def Aog(He:Ab->Option Int)(L:Nat)(a0:Ab):Option Int:=Av7 He L a0
theorem Cc1(He:Ab->Option Int)(Box:Bjm He)(L:Nat):Bjm (Aog He L):=λa0 r h=>hF Tryz.func193 (Cek He Box L) L (λkk=>eE ((hq (Bwe He L (KA (B0r He L) L 9 B8e (rl [4,1,2,1]) (KE Tryz.f193 kk)) a0 L (1,0)) λo2=>Y1 He L o2))) h
def Lw:Nat->Ab->Option Int
 |0,_=>none
 |L+1,a0=>Aog (Lw L) L a0
theorem Bug(L:Nat):Bjm (Lw L):=by
 induction L with
 |zero=>exact λ_ _ h=>(by cases h)
 |succ L ih=>
  have i193:=ih;exact Cc1 (Lw L) i193 L
def Cb5(L:Nat):F6:=E1 I 193 Bi (Lw L) (Bug L)
end
end Go.Proofs.YthjhkpgonleelaaGreatDoor.Ev
