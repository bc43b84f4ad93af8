import Derived.Test.YtgacplpjamkieaaGreatHG0
set_option maxRecDepth 100000
set_option maxHeartbeats 4000000
set_option linter.unusedVariables false
set_option linter.unusedSimpArgs false
set_option linter.unnecessarySimpa false
namespace Go.Proofs.YtgacplpjamkieaaGreat.Ev
open Go An
noncomputable section
variable {A:Type} (L n:Nat) (kk:Hf) (K:De) (k:C3)
def Xd [An A Bool](L:Nat)(a0:Int):A:=
 (jp (.cn (decide (a0>=97))
 (.lf (decide (a0<=122)))
 (.lf false)) (λb1=>
 (lf b1)))
def Mv(a0:Int):Option Bool:=Xd L a0
def Bqj:Fs:=E1 B 123 (cI .u8) (Mv L) λa0 r h=>hF Tryz.func123 (oS []) L (λkk=>eE (Xd L a0)) h
def Ve [An A Bool](L:Nat)(a0:Yb):A:=
 (cn (a0.toList == (⟨#[97,100,100]⟩:Yb).toList)
 (cn (a0.toList == (⟨#[97,100,100]⟩:Yb).toList)
 (lf true)
 (lf false))
 (cn (a0.toList == (⟨#[97,102,116,101,114]⟩:Yb).toList)
 (cn (a0.toList == (⟨#[97,102,116,101,114]⟩:Yb).toList)
 (lf true)
 (lf false))
 (cn (a0.toList == (⟨#[97,110,100]⟩:Yb).toList)
 (cn (a0.toList == (⟨#[97,110,100]⟩:Yb).toList)
 (lf true)
 (lf false))
 (cn (a0.toList == (⟨#[97,116]⟩:Yb).toList)
 (cn (a0.toList == (⟨#[97,116]⟩:Yb).toList)
 (lf true)
 (lf false))
 (cn (a0.toList == (⟨#[98,101,108,116]⟩:Yb).toList)
 (cn (a0.toList == (⟨#[98,101,108,116]⟩:Yb).toList)
 (lf true)
 (lf false))
 (cn (a0.toList == (⟨#[98,111,111,108]⟩:Yb).toList)
 (cn (a0.toList == (⟨#[98,111,111,108]⟩:Yb).toList)
 (lf true)
 (lf false))
 (cn (a0.toList == (⟨#[99,111,110,115,101,114,118,101]⟩:Yb).toList)
 (cn (a0.toList == (⟨#[99,111,110,115,101,114,118,101]⟩:Yb).toList)
 (lf true)
 (lf false))
 (cn (a0.toList == (⟨#[99,111,110,115,116]⟩:Yb).toList)
 (cn (a0.toList == (⟨#[99,111,110,115,116]⟩:Yb).toList)
 (lf true)
 (lf false))
 (cn (a0.toList == (⟨#[99,111,117,110,116]⟩:Yb).toList)
 (cn (a0.toList == (⟨#[99,111,117,110,116]⟩:Yb).toList)
 (lf true)
 (lf false))
 (cn (a0.toList == (⟨#[99,121,99,108,101]⟩:Yb).toList)
 (cn (a0.toList == (⟨#[99,121,99,108,101]⟩:Yb).toList)
 (lf true)
 (lf false))
 (cn (a0.toList == (⟨#[100,111,119,110]⟩:Yb).toList)
 (cn (a0.toList == (⟨#[100,111,119,110]⟩:Yb).toList)
 (lf true)
 (lf false))
 (cn (a0.toList == (⟨#[100,114,97,119]⟩:Yb).toList)
 (cn (a0.toList == (⟨#[100,114,97,119]⟩:Yb).toList)
 (lf true)
 (lf false))
 (cn (a0.toList == (⟨#[100,117,114]⟩:Yb).toList)
 (cn (a0.toList == (⟨#[100,117,114]⟩:Yb).toList)
 (lf true)
 (lf false))
 (cn (a0.toList == (⟨#[101,108,115,101]⟩:Yb).toList)
 (cn (a0.toList == (⟨#[101,108,115,101]⟩:Yb).toList)
 (lf true)
 (lf false))
 (cn (a0.toList == (⟨#[101,110,100]⟩:Yb).toList)
 (cn (a0.toList == (⟨#[101,110,100]⟩:Yb).toList)
 (lf true)
 (lf false))
 (cn (a0.toList == (⟨#[101,118,101,114,121]⟩:Yb).toList)
 (cn (a0.toList == (⟨#[101,118,101,114,121]⟩:Yb).toList)
 (lf true)
 (lf false))
 (cn (a0.toList == (⟨#[102,97,108,115,101]⟩:Yb).toList)
 (cn (a0.toList == (⟨#[102,97,108,115,101]⟩:Yb).toList)
 (lf true)
 (lf false))
 (cn (a0.toList == (⟨#[102,97,117,108,116]⟩:Yb).toList)
 (cn (a0.toList == (⟨#[102,97,117,108,116]⟩:Yb).toList)
 (lf true)
 (lf false))
 (cn (a0.toList == (⟨#[102,105,102,111]⟩:Yb).toList)
 (cn (a0.toList == (⟨#[102,105,102,111]⟩:Yb).toList)
 (lf true)
 (lf false))
 (cn (a0.toList == (⟨#[102,114,101,101]⟩:Yb).toList)
 (cn (a0.toList == (⟨#[102,114,101,101]⟩:Yb).toList)
 (lf true)
 (lf false))
 (cn (a0.toList == (⟨#[102,114,111,109]⟩:Yb).toList)
 (cn (a0.toList == (⟨#[102,114,111,109]⟩:Yb).toList)
 (lf true)
 (lf false))
 (cn (a0.toList == (⟨#[103,101,111,109]⟩:Yb).toList)
 (cn (a0.toList == (⟨#[103,101,111,109]⟩:Yb).toList)
 (lf true)
 (lf false))
 (cn (a0.toList == (⟨#[103,101,116]⟩:Yb).toList)
 (cn (a0.toList == (⟨#[103,101,116]⟩:Yb).toList)
 (lf true)
 (lf false))
 (cn (a0.toList == (⟨#[104,111,108,100]⟩:Yb).toList)
 (cn (a0.toList == (⟨#[104,111,108,100]⟩:Yb).toList)
 (lf true)
 (lf false))
 (cn (a0.toList == (⟨#[105,102]⟩:Yb).toList)
 (cn (a0.toList == (⟨#[105,102]⟩:Yb).toList)
 (lf true)
 (lf false))
 (cn (a0.toList == (⟨#[105,110,116]⟩:Yb).toList)
 (cn (a0.toList == (⟨#[105,110,116]⟩:Yb).toList)
 (lf true)
 (lf false))
 (cn (a0.toList == (⟨#[105,110,116,111]⟩:Yb).toList)
 (cn (a0.toList == (⟨#[105,110,116,111]⟩:Yb).toList)
 (lf true)
 (lf false))
 (cn (a0.toList == (⟨#[108,101,97,115,116]⟩:Yb).toList)
 (cn (a0.toList == (⟨#[108,101,97,115,116]⟩:Yb).toList)
 (lf true)
 (lf false))
 (cn (a0.toList == (⟨#[108,101,118,101,108]⟩:Yb).toList)
 (cn (a0.toList == (⟨#[108,101,118,101,108]⟩:Yb).toList)
 (lf true)
 (lf false))
 (cn (a0.toList == (⟨#[108,105,102,111]⟩:Yb).toList)
 (cn (a0.toList == (⟨#[108,105,102,111]⟩:Yb).toList)
 (lf true)
 (lf false))
 (cn (a0.toList == (⟨#[108,105,110,107]⟩:Yb).toList)
 (cn (a0.toList == (⟨#[108,105,110,107]⟩:Yb).toList)
 (lf true)
 (lf false))
 (cn (a0.toList == (⟨#[108,111,99,97,108]⟩:Yb).toList)
 (cn (a0.toList == (⟨#[108,111,99,97,108]⟩:Yb).toList)
 (lf true)
 (lf false))
 (cn (a0.toList == (⟨#[109,97,120]⟩:Yb).toList)
 (cn (a0.toList == (⟨#[109,97,120]⟩:Yb).toList)
 (lf true)
 (lf false))
 (cn (a0.toList == (⟨#[109,105,110]⟩:Yb).toList)
 (cn (a0.toList == (⟨#[109,105,110]⟩:Yb).toList)
 (lf true)
 (lf false))
 (cn (a0.toList == (⟨#[109,111,100,101,108]⟩:Yb).toList)
 (cn (a0.toList == (⟨#[109,111,100,101,108]⟩:Yb).toList)
 (lf true)
 (lf false))
 (cn (a0.toList == (⟨#[110,111,116]⟩:Yb).toList)
 (cn (a0.toList == (⟨#[110,111,116]⟩:Yb).toList)
 (lf true)
 (lf false))
 (cn (a0.toList == (⟨#[110,111,119]⟩:Yb).toList)
 (cn (a0.toList == (⟨#[110,111,119]⟩:Yb).toList)
 (lf true)
 (lf false))
 (cn (a0.toList == (⟨#[111,98,115,101,114,118,101]⟩:Yb).toList)
 (cn (a0.toList == (⟨#[111,98,115,101,114,118,101]⟩:Yb).toList)
 (lf true)
 (lf false))
 (cn (a0.toList == (⟨#[111,114]⟩:Yb).toList)
 (cn (a0.toList == (⟨#[111,114]⟩:Yb).toList)
 (lf true)
 (lf false))
 (cn (a0.toList == (⟨#[112,97,114,97,109]⟩:Yb).toList)
 (cn (a0.toList == (⟨#[112,97,114,97,109]⟩:Yb).toList)
 (lf true)
 (lf false))
 (cn (a0.toList == (⟨#[112,114,101,101,109,112,116]⟩:Yb).toList)
 (cn (a0.toList == (⟨#[112,114,101,101,109,112,116]⟩:Yb).toList)
 (lf true)
 (lf false))
 (cn (a0.toList == (⟨#[112,114,105,111]⟩:Yb).toList)
 (cn (a0.toList == (⟨#[112,114,105,111]⟩:Yb).toList)
 (lf true)
 (lf false))
 (cn (a0.toList == (⟨#[112,117,116]⟩:Yb).toList)
 (cn (a0.toList == (⟨#[112,117,116]⟩:Yb).toList)
 (lf true)
 (lf false))
 (cn (a0.toList == (⟨#[113,117,101,117,101]⟩:Yb).toList)
 (cn (a0.toList == (⟨#[113,117,101,117,101]⟩:Yb).toList)
 (lf true)
 (lf false))
 (cn (a0.toList == (⟨#[114,101,108,101,97,115,101]⟩:Yb).toList)
 (cn (a0.toList == (⟨#[114,101,108,101,97,115,101]⟩:Yb).toList)
 (lf true)
 (lf false))
 (cn (a0.toList == (⟨#[114,101,115,111,117,114,99,101]⟩:Yb).toList)
 (cn (a0.toList == (⟨#[114,101,115,111,117,114,99,101]⟩:Yb).toList)
 (lf true)
 (lf false))
 (cn (a0.toList == (⟨#[114,105,100,101]⟩:Yb).toList)
 (cn (a0.toList == (⟨#[114,105,100,101]⟩:Yb).toList)
 (lf true)
 (lf false))
 (cn (a0.toList == (⟨#[114,111,117,116,105,110,101]⟩:Yb).toList)
 (cn (a0.toList == (⟨#[114,111,117,116,105,110,101]⟩:Yb).toList)
 (lf true)
 (lf false))
 (cn (a0.toList == (⟨#[115,101,105,122,101]⟩:Yb).toList)
 (cn (a0.toList == (⟨#[115,101,105,122,101]⟩:Yb).toList)
 (lf true)
 (lf false))
 (cn (a0.toList == (⟨#[115,101,110,100]⟩:Yb).toList)
 (cn (a0.toList == (⟨#[115,101,110,100]⟩:Yb).toList)
 (lf true)
 (lf false))
 (cn (a0.toList == (⟨#[115,101,116]⟩:Yb).toList)
 (cn (a0.toList == (⟨#[115,101,116]⟩:Yb).toList)
 (lf true)
 (lf false))
 (cn (a0.toList == (⟨#[115,104,105,102,116]⟩:Yb).toList)
 (cn (a0.toList == (⟨#[115,104,105,102,116]⟩:Yb).toList)
 (lf true)
 (lf false))
 (cn (a0.toList == (⟨#[115,105,103,110,97,108]⟩:Yb).toList)
 (cn (a0.toList == (⟨#[115,105,103,110,97,108]⟩:Yb).toList)
 (lf true)
 (lf false))
 (cn (a0.toList == (⟨#[115,105,116,101]⟩:Yb).toList)
 (cn (a0.toList == (⟨#[115,105,116,101]⟩:Yb).toList)
 (lf true)
 (lf false))
 (cn (a0.toList == (⟨#[115,105,122,101]⟩:Yb).toList)
 (cn (a0.toList == (⟨#[115,105,122,101]⟩:Yb).toList)
 (lf true)
 (lf false))
 (cn (a0.toList == (⟨#[115,112,97,119,110]⟩:Yb).toList)
 (cn (a0.toList == (⟨#[115,112,97,119,110]⟩:Yb).toList)
 (lf true)
 (lf false))
 (cn (a0.toList == (⟨#[115,116,97,114,116]⟩:Yb).toList)
 (cn (a0.toList == (⟨#[115,116,97,114,116]⟩:Yb).toList)
 (lf true)
 (lf false))
 (cn (a0.toList == (⟨#[115,116,111,112]⟩:Yb).toList)
 (cn (a0.toList == (⟨#[115,116,111,112]⟩:Yb).toList)
 (lf true)
 (lf false))
 (cn (a0.toList == (⟨#[115,116,111,114,101]⟩:Yb).toList)
 (cn (a0.toList == (⟨#[115,116,111,114,101]⟩:Yb).toList)
 (lf true)
 (lf false))
 (cn (a0.toList == (⟨#[115,116,114,101,97,109]⟩:Yb).toList)
 (cn (a0.toList == (⟨#[115,116,114,101,97,109]⟩:Yb).toList)
 (lf true)
 (lf false))
 (cn (a0.toList == (⟨#[115,117,109]⟩:Yb).toList)
 (cn (a0.toList == (⟨#[115,117,109]⟩:Yb).toList)
 (lf true)
 (lf false))
 (cn (a0.toList == (⟨#[116,97,98,108,101]⟩:Yb).toList)
 (cn (a0.toList == (⟨#[116,97,98,108,101]⟩:Yb).toList)
 (lf true)
 (lf false))
 (cn (a0.toList == (⟨#[116,97,108,108,121]⟩:Yb).toList)
 (cn (a0.toList == (⟨#[116,97,108,108,121]⟩:Yb).toList)
 (lf true)
 (lf false))
 (cn (a0.toList == (⟨#[116,105,99,107,115]⟩:Yb).toList)
 (cn (a0.toList == (⟨#[116,105,99,107,115]⟩:Yb).toList)
 (lf true)
 (lf false))
 (cn (a0.toList == (⟨#[116,105,109,101]⟩:Yb).toList)
 (cn (a0.toList == (⟨#[116,105,109,101]⟩:Yb).toList)
 (lf true)
 (lf false))
 (cn (a0.toList == (⟨#[116,114,117,101]⟩:Yb).toList)
 (cn (a0.toList == (⟨#[116,114,117,101]⟩:Yb).toList)
 (lf true)
 (lf false))
 (cn (a0.toList == (⟨#[117,110,105,102,111,114,109]⟩:Yb).toList)
 (cn (a0.toList == (⟨#[117,110,105,102,111,114,109]⟩:Yb).toList)
 (lf true)
 (lf false))
 (cn (a0.toList == (⟨#[117,110,116,105,108]⟩:Yb).toList)
 (cn (a0.toList == (⟨#[117,110,116,105,108]⟩:Yb).toList)
 (lf true)
 (lf false))
 (cn (a0.toList == (⟨#[117,112]⟩:Yb).toList)
 (cn (a0.toList == (⟨#[117,112]⟩:Yb).toList)
 (lf true)
 (lf false))
 (cn (a0.toList == (⟨#[118,97,114]⟩:Yb).toList)
 (cn (a0.toList == (⟨#[118,97,114]⟩:Yb).toList)
 (lf true)
 (lf false))
 (cn (a0.toList == (⟨#[119,97,105,116]⟩:Yb).toList)
 (cn (a0.toList == (⟨#[119,97,105,116]⟩:Yb).toList)
 (lf true)
 (lf false))
 (cn (a0.toList == (⟨#[119,97,105,116,105,110,103]⟩:Yb).toList)
 (cn (a0.toList == (⟨#[119,97,105,116,105,110,103]⟩:Yb).toList)
 (lf true)
 (lf false))
 (cn (a0.toList == (⟨#[119,104,105,108,101]⟩:Yb).toList)
 (lf true)
 (lf false))))))))))))))))))))))))))))))))))))))))))))))))))))))))))))))))))))))))))
def Po(a0:Yb):Option Bool:=Ve L a0
def Bqk:Fs:=E1 B 124 cS (Po L) λa0 r h=>hF Tryz.func124 (oS []) L (λkk=>eE (Ve L a0)) h
def c75:=CC Tryz.f75
def O75:Ba:=oL [Bqj L,Bqk L]
def Bkm(a0:Yb)(v:Ef):St:=⟨[(0,S a0),(2,I v.1),(23,I (a0.size:Int)),(24,I v.2)],[],0⟩
def Kr [An A C0](a0:Yb)(rec:Int->Int->A)(Aq:Int)(Aj:Int):A:=
 (cn (decide (Aj<(a0.size:Int)))
 (cn ((if 0<=Aj then a0[Int.toNat Aj]? else none).isSome)
 (bd (Mv L (C5 (if 0<=Aj then a0[Int.toNat Aj]? else none))) λr6=>
 (jp (.cn (!r6)
 (.cn (decide ((C5 (if 0<=Aj then a0[Int.toNat Aj]? else none))<48))
 (.lf true)
 (.lf (decide ((C5 (if 0<=Aj then a0[Int.toNat Aj]? else none))>57))))
 (.lf false)) (λb7=>
 (jp (.cn b7
 (.lf ((C5 (if 0<=Aj then a0[Int.toNat Aj]? else none)) != 95))
 (.lf false)) (λb8=>
 (cn b8
 (lf (0,3,Aj))
 (rec Aq (Cp (Aj+1)))))))))
 fl)
 (lf (1,Aq,Aj)))
def Gs(L:Nat)(a0:Yb):Nat->Int->Int->Option C0
 |0,_,_=>none
 |n+1,Aq,Aj=>Kr L a0 (Gs L a0 n) Aq Aj
theorem Bi5(a0:Yb):LP (EV (O75 L) L 9 c75.w.l.u.l.l) [0,2,23,24] [] (Bkm a0) [.ret,.exit 0] (λn v=>Gs L a0 n v.1 v.2) K:=lE (λ_=>rfl) λn v ih=>eE (Kr L a0 (λAq Aj=>re (ih (Aq,Aj))) v.1 v.2)
def N6 [An A Int](L:Nat)(o9:Nat×Ef):A:=
 (sl o9.1 [(lf o9.2.1),
 (lf 0)])
def Oc [An A Int](a0:Yb)(nx1:A):A:=
 (jp (.cn (a0.toList == (⟨#[]⟩:Yb).toList)
 (.lf true)
 (.lf (decide ((a0.size:Int)>24)))) (λb1=>
 (jb (.cn b1
 (.lf true)
 (.cn ((if 0<=0 then a0[Int.toNat 0]? else none).isSome)
 (.bd (Mv L (C5 (if 0<=0 then a0[Int.toNat 0]? else none))) λr3=>
 (.lf (!r3)))
 .fl)) (λb2=>
 (jb (.cn b2
 (.lf true)
 (.bd (Po L a0) λr5=>
 (.lf r5))) (λb4=>
 (cn b4
 (lf 3)
 nx1)))))))
def Ahw [An A Int](a0:Yb):A:=Oc L a0 (bd (Gs L a0 L 0 0) λo9=>N6 L o9)
def Cq(a0:Yb):Option Int:=Ahw L a0
def X75:Fs:=E1 I 75 cS (Cq L) λa0 r h=>hF Tryz.func75 (C:=O75 L) (oS _) L (λkk=>eE (Oc L a0 (hq (Bi5 L (KA (O75 L) L 9 c75 (rl [4,1,2,1]) (KE Tryz.f75 kk)) a0 L (0,0)) λo9=>N6 L o9))) h
def Ahu [An A Bool](L:Nat)(a0:Int):A:=
 (jp (.cn (decide (a0>=1))
 (.lf (decide (a0<=3)))
 (.lf false)) (λb1=>
 (lf b1)))
def T9(a0:Int):Option Bool:=Ahu L a0
def Bgp:Fs:=E1 B 201 (cI .i64) (T9 L) λa0 r h=>hF Tryz.func201 (oS []) L (λkk=>eE (Ahu L a0)) h
def Aqw [An A Bool](L:Nat)(a0:Int):A:=
 (jp (.cn (decide (a0>=(-1000000000000)))
 (.lf (decide (a0<=1000000000000)))
 (.lf false)) (λb1=>
 (lf b1)))
def W7(a0:Int):Option Bool:=Aqw L a0
def Bgr:Fs:=E1 B 211 (cI .i64) (W7 L) λa0 r h=>hF Tryz.func211 (oS []) L (λkk=>eE (Aqw L a0)) h
def Aft [An A Bool](L:Nat)(a0:Int)(a1:Int)(a2:Int):A:=
 (jp (.cn (decide (a0>=a1))
 (.lf (decide (a0<=a2)))
 (.lf false)) (λb1=>
 (lf b1)))
def Bd(a0:Int)(a1:Int)(a2:Int):Option Bool:=Aft L a0 a1 a2
def A3v:Fs:=E3 B 134 (cI .i64) (cI .i64) (cI .i64) (Bd L) λa0 a1 a2 r h=>hF Tryz.func134 (oS []) L (λkk=>eE (Aft L a0 a1 a2)) h
def Ajr [An A Bool](a0:Int)(a1:Int):A:=
 (cn (a0 == 1)
 (bd (W7 L a1) λr1=>
 (lf r1))
 (cn (a0 == 2)
 (jp (.cn (a1 == 0)
 (.lf true)
 (.lf (a1 == 1))) (λb2=>
 (lf b2)))
 (cn (a0 == 3)
 (bd (Bd L a1 0 1000000000) λr3=>
 (lf r3))
 (lf false))))
def Wm(a0:Int)(a1:Int):Option Bool:=Ajr L a0 a1
def Bgq:Fs:=E2 B 202 (cI .i64) (cI .i64) (Wm L) λa0 a1 r h=>hF Tryz.func202 (oS [A3v L,Bgr L]) L (λkk=>eE (Ajr L a0 a1)) h
def Bmu:=CC Tryz.f135
def Bf6:Ba:=oL [A3v L]
def Bdv(a0:Ai)(v:Ef):St:=⟨[(0,.any),Yq,(2,I v.1),(12,.any),(17,.any),(23,lv (.dP a0.cO)),(24,I (a0.cO.length:Int)),(25,I v.2)],[(1,(Bt a0))],0⟩
def Wi [An A C0](a0:Ai)(rec:Int->Int->A)(A9:Int)(Aj:Int):A:=
 (lw Aj a0.cO
 (bd (Bd L ((gD a0.cO Aj).At) 0 (Cp (a0.fJ-1))) λr2=>
 (cn (!r2)
 (cn (!r2)
 (lf (0,2,Aj))
 (cn (decide (Aj>0))
 (gi (Cp (Aj-1)) a0.cO
 (cn (decide ((gD a0.cO Aj).At<=(gD a0.cO (Cp (Aj-1))).At))
 (lf (0,12,Aj))
 (rec A9 (Cp (Aj+1)))))
 (rec A9 (Cp (Aj+1)))))
 (bd (Bd L ((gD a0.cO Aj).Units) 0 1000) λr3=>
 (cn (!r3)
 (lf (0,2,Aj))
 (cn (decide (Aj>0))
 (gi (Cp (Aj-1)) a0.cO
 (cn (decide ((gD a0.cO Aj).At<=(gD a0.cO (Cp (Aj-1))).At))
 (lf (0,12,Aj))
 (rec A9 (Cp (Aj+1)))))
 (rec A9 (Cp (Aj+1))))))))
 (lf (1,A9,Aj)))
def Ow(L:Nat)(a0:Ai):Nat->Int->Int->Option C0
 |0,_,_=>none
 |n+1,A9,Aj=>Wi L a0 (Ow L a0 n) A9 Aj
theorem Bb8(a0:Ai):LP (EV (Bf6 L) L 9 Bmu.w.u.l.u.l.l) [0,1,2,12,17,23,24,25] [1] (Bdv a0) [.ret,.exit 1] (λn v=>Ow L a0 n v.1 v.2) K:=lE (λ_=>rfl) λn v ih=>eE (Wi L a0 (λA9 Aj=>re (ih (A9,Aj))) v.1 v.2)
def Wj [An A Int](L:Nat)(o4:Nat×Ef):A:=
 (sl o4.1 [(lf o4.2.1),
 (lf 0)])
def Wk [An A Int](a0:Ai)(nx1:A):A:=
 (cn ((a0.cO.length:Int) == 0)
 (cn (a0.fJ != 0)
 (lf 1)
 (lf 0))
 (cn (decide ((a0.cO.length:Int)>20))
 (lf 6)
 (bd (Bd L a0.fJ 1 1000000000) λr1=>
 (cn (!r1)
 (lf 2)
 nx1))))
def Alg [An A Int](a0:Ai):A:=Wk L a0 (bd (Ow L a0 L 0 0) λo4=>Wj L o4)
def l9(a0:Ai):Option Int:=Alg L a0
def Bql:Fs:=E1 I 135 Ahd (l9 L) λa0 r h=>hF Tryz.func135 (C:=Bf6 L) (oS _) L (λkk=>eE (Wk L a0 (hq (Bb8 L (KA (Bf6 L) L 9 Bmu (rl [6,1,2,1]) (KE Tryz.f135 kk)) a0 L (0,0)) λo4=>Wj L o4))) h
def Bnu:=CC Tryz.f232
def Bgm(L:Nat):Ba:=oL []
def Bep(a0:List Int)(a1:List Int)(v:Bool×Int):St:=⟨[(0,lv (.t3 a0)),(1,lv (.t3 a1)),(4,B v.1),(12,I (a0.length:Int)),(13,I v.2)],[],0⟩
def S8 [An A (Nat×Bool×Int)](L:Nat)(a0:List Int)(a1:List Int)(rec:Bool->Int->A)(Az:Bool)(Bj:Int):A:=
 (lw Bj a0
 (gi Bj a1
 (cn ((gD a0 Bj) != (gD a1 Bj))
 (lf (0,false,Bj))
 (rec Az (Cp (Bj+1)))))
 (lf (1,Az,Bj)))
def Md(L:Nat)(a0:List Int)(a1:List Int):Nat->Bool->Int->Option (Nat×Bool×Int)
 |0,_,_=>none
 |n+1,Az,Bj=>S8 L a0 a1 (Md L a0 a1 n) Az Bj
theorem Bc2(a0:List Int)(a1:List Int):LP (EV (Bgm L) L 9 Bnu.w.l.u.l.l) [0,1,4,12,13] [] (Bep a0 a1) [.ret,.exit 0] (λn v=>Md L a0 a1 n v.1 v.2) K:=lE (λ_=>rfl) λn v ih=>eE (S8 L a0 a1 (λAz Bj=>re (ih (Az,Bj))) v.1 v.2)
def Ta [An A Bool](L:Nat)(o1:Nat×Bool×Int):A:=
 (sl o1.1 [(lf o1.2.1),
 (lf true)])
def Tb [An A Bool](L:Nat)(a0:List Int)(a1:List Int)(nx1:A):A:=
 (cn ((a0.length:Int) != (a1.length:Int))
 (lf false)
 nx1)
def Aij [An A Bool](a0:List Int)(a1:List Int):A:=Tb L a0 a1 (bd (Md L a0 a1 L false 0) λo1=>Ta L o1)
def P3(a0:List Int)(a1:List Int):Option Bool:=Aij L a0 a1
def Bq6:Fs:=E2 B 232 cl3 cl3 (P3 L) λa0 a1 r h=>hF Tryz.func232 (C:=Bgm L) (oS _) L (λkk=>eE (Tb L a0 a1 (hq (Bc2 L (KA (Bgm L) L 9 Bnu (rl [4,1,2,1]) (KE Tryz.f232 kk)) a0 a1 L (false,0)) λo1=>Ta L o1))) h
def Ant [An A Bool](a0:Ah)(a1:Ah):A:=
 (jp (.cn (a0.Op == a1.Op)
 (.lf (a0.A == a1.A))
 (.lf false)) (λb1=>
 (jp (.cn b1
 (.lf (a0.B == a1.B))
 (.lf false)) (λb2=>
 (jp (.cn b2
 (.lf (a0.N == a1.N))
 (.lf false)) (λb3=>
 (jb (.cn b3
 (.bd (P3 L a0.bN a1.bN) λr5=>
 (.lf r5))
 (.lf false)) (λb4=>
 (jb (.cn b4
 (.bd (P3 L a0.bI a1.bI) λr7=>
 (.lf r7))
 (.lf false)) (λb6=>
 (lf b6)))))))))))
def Mt(a0:Ah)(a1:Ah):Option Bool:=Ant L a0 a1
def Bl9:Fs:=E2 B 203 Zb Zb (Mt L) λa0 a1 r h=>hF Tryz.func203 (oS [Bq6 L]) L (λkk=>eE (Ant L a0 a1)) h
def Bnj:=CC Tryz.f184
def Bgd(L:Nat):Ba:=oL []
def Bd9(a0:List Yb)(a1:Yb)(v:Ef):St:=⟨[(0,lv (.t9 a0)),(1,S a1),(4,I v.1),(7,I (a0.length:Int)),(8,I v.2)],[],0⟩
def Hj [An A C0](L:Nat)(a0:List Yb)(a1:Yb)(rec:Int->Int->A)(Az:Int)(Bj:Int):A:=
 (lw Bj a0
 (cn (a1.toList == (gD a0 Bj).toList)
 (lf (0,Bj,Bj))
 (rec Az (Cp (Bj+1))))
 (lf (1,Az,Bj)))
def C8(L:Nat)(a0:List Yb)(a1:Yb):Nat->Int->Int->Option C0
 |0,_,_=>none
 |n+1,Az,Bj=>Hj L a0 a1 (C8 L a0 a1 n) Az Bj
theorem Bcm(a0:List Yb)(a1:Yb):LP (EV (Bgd L) L 9 Bnj.u.l.u.l.l) [0,1,4,7,8] [] (Bd9 a0 a1) [.ret,.exit 0] (λn v=>C8 L a0 a1 n v.1 v.2) K:=lE (λ_=>rfl) λn v ih=>eE (Hj L a0 a1 (λAz Bj=>re (ih (Az,Bj))) v.1 v.2)
def Kf [An A Int](L:Nat)(o1:Nat×Ef):A:=
 (sl o1.1 [(lf o1.2.1),
 (lf (-1))])
def S4 [An A Int](a0:List Yb)(a1:Yb):A:=(bd (C8 L a0 a1 L 0 0) λo1=>Kf L o1)
def Cz(a0:List Yb)(a1:Yb):Option Int:=S4 L a0 a1
def Bl5:Fs:=E2 I 184 cl9 cS (Cz L) λa0 a1 r h=>hF Tryz.func184 (C:=Bgd L) (oS _) L (λkk=>eE ((hq (Bcm L (KA (Bgd L) L 9 Bnj (rl [2,1,2,1]) (KE Tryz.f184 kk)) a0 a1 L (0,0)) λo1=>Kf L o1))) h
def O2 [An A Bool](a0:List Yb)(a1:Yb):A:=
 (bd (Cz L a0 a1) λr1=>
 (lf (decide (r1>=0))))
def Bv(a0:List Yb)(a1:Yb):Option Bool:=O2 L a0 a1
def Bma:Fs:=E2 B 204 cl9 cS (Bv L) λa0 a1 r h=>hF Tryz.func204 (oS [Bl5 L]) L (λkk=>eE (O2 L a0 a1)) h
def Aht [An A Bool](L:Nat)(a0:Ah):A:=
 (cn (a0.Op == 1)
 (jp (.cn ((Cp ((a0.bN.length:Int)+(a0.bI.length:Int))) == 0)
 (.lf (a0.B == 0))
 (.lf false)) (λb1=>
 (jp (.cn b1
 (.lf (a0.N == 0))
 (.lf false)) (λb2=>
 (lf b2)))))
 (cn (a0.Op == 2)
 (cn (a0.Op == 2)
 (jp (.cn ((Cp ((a0.bN.length:Int)+(a0.bI.length:Int))) == 0)
 (.lf (a0.N == 0))
 (.lf false)) (λb3=>
 (lf b3)))
 (cn (a0.Op == 4)
 (lf ((Cp ((a0.bN.length:Int)+(a0.bI.length:Int))) == 0))
 (cn (a0.Op == 3)
 (jp (.cn (a0.A == 0)
 (.lf (a0.B == 0))
 (.lf false)) (λb4=>
 (jp (.cn b4
 (.lf (a0.N == 0))
 (.lf false)) (λb5=>
 (lf b5)))))
 (lf false))))
 (cn (a0.Op == 5)
 (jp (.cn ((Cp ((a0.bN.length:Int)+(a0.bI.length:Int))) == 0)
 (.lf (a0.N == 0))
 (.lf false)) (λb6=>
 (lf b6)))
 (cn (a0.Op == 4)
 (lf ((Cp ((a0.bN.length:Int)+(a0.bI.length:Int))) == 0))
 (cn (a0.Op == 3)
 (jp (.cn (a0.A == 0)
 (.lf (a0.B == 0))
 (.lf false)) (λb7=>
 (jp (.cn b7
 (.lf (a0.N == 0))
 (.lf false)) (λb8=>
 (lf b8)))))
 (lf false))))))
def Ahn(a0:Ah):Option Bool:=Aht L a0
def Bq7:Fs:=E1 B 233 Zb (Ahn L) λa0 r h=>hF Tryz.func233 (oS []) L (λkk=>eE (Aht L a0)) h
def Bnw:=CC Tryz.f240
def Bnx:=CC Tryz.f246
def Bnv:=CC Tryz.f234
def Axo(L:Nat):Ba:=oL []
def Beq(p1_0:List Int)(p1_1:Int)(p1_2:Int)(v:Ef):St:=⟨[(0,lv (.t3 p1_0)),(1,A8j),(4,I v.1),(7,I (p1_0.length:Int)),(8,I v.2)],[(3,[I p1_1]),(4,[I p1_2])],1005⟩
def Aal [An A C0](L:Nat)(p1_0:List Int)(p1_1:Int)(p1_2:Int)(rec:Int->Int->A)(Aq:Int)(Aj:Int):A:=
 (lw Aj p1_0
 (jp (.cn (decide ((gD p1_0 Aj)<p1_1))
 (.lf true)
 (.lf (decide ((gD p1_0 Aj)>p1_2)))) (λb1=>
 (cn b1
 (lf (0,Aj,Aj))
 (rec Aq (Cp (Aj+1))))))
 (lf (1,Aq,Aj)))
def Tk(L:Nat)(p1_0:List Int)(p1_1:Int)(p1_2:Int):Nat->Int->Int->Option C0
 |0,_,_=>none
 |n+1,Aq,Aj=>Aal L p1_0 p1_1 p1_2 (Tk L p1_0 p1_1 p1_2 n) Aq Aj
theorem Bc3(p1_0:List Int)(p1_1:Int)(p1_2:Int):LP (EV (Axo L) L 7 Bnx.u.l.u.l.l) [0,1,4,7,8] [3,4] (Beq p1_0 p1_1 p1_2) [.ret,.exit 0] (λn v=>Tk L p1_0 p1_1 p1_2 n v.1 v.2) K:=lE (λ_=>rfl) λn v ih=>eE (Aal L p1_0 p1_1 p1_2 (λAq Aj=>re (ih (Aq,Aj))) v.1 v.2)
def A81(p1_0:List Int)(p1_1:Int)(p1_2:Int)(k:C3):Int->Prop:=λo=>k (I o) [(3,[I p1_1]),(4,[I p1_2])]
def Aas [An A Int](L:Nat)(o2:Nat×Ef):A:=
 (sl o2.1 [(lf o2.2.1),
 (lf (-1))])
def Alq [An A Int](p1_0:List Int)(p1_1:Int)(p1_2:Int):A:=(bd (Tk L p1_0 p1_1 p1_2 L 0 0) λo2=>Aas L o2)
def v8(p1_0:List Int)(p1_1:Int)(p1_2:Int):Option Int:=Alq L p1_0 p1_1 p1_2
theorem Bbh(p1_0:List Int)(p1_1:Int)(p1_2:Int):YO (Axo L) L 8 246 [lv (.t3 p1_0),A8j] [(3,[I p1_1]),(4,[I p1_2])] k=ob (v8 L p1_0 p1_1 p1_2) (A81 p1_0 p1_1 p1_2 k):=(Cf _ _ _ Yr _ _ _ _ _ _ _).trans (eE ((hq (Bc3 L (KA (Axo L) L 7 Bnx (rl [2,1,2,1]) (KJ Tryz.f246 k)) p1_0 p1_1 p1_2 L (0,0)) λo2=>Aas L o2)))
def Aat [An A Bool](L:Nat)(o3:Int):A:=
 (lf (!(decide (o3>=0))))
def Asy [An A Bool](a0:Int)(a1:Int)(a2:List Int):A:=(bd (v8 L a2 a0 a1) λo3=>Aat L o3)
def I0(a0:Int)(a1:Int)(a2:List Int):Option Bool:=Asy L a0 a1 a2
def Bq8:Fs:=E3 B 234 (cI .i64) (cI .i64) cl3 (I0 L) λa0 a1 a2 r h=>hF Tryz.func234 (C:=Axo L) (oS _) L (λkk=>eE ((hq (Bbh L (K1 (Axo L) L 8 2 3 Bnw.u.l ⟨[(6,A8j),(5,lv (.t3 a2)),(0,lv (.t3 a2)),(1,A8j),Atr],[(3,[I a0]),(4,[I a1])],1005⟩ (some 7) (kN (KA (Axo L) L 8 Bnw (rl [2,1]) (KJ Tryz.f240 (K1 (Axo L) L 9 2 3 Bnv.u.l ⟨[(8,A8j),(7,lv (.t3 a2)),(2,lv (.t3 a2)),Qe,(4,.loc 4 0),(6,B false)],[(3,[I a0]),(4,[I a1])],0⟩ (some 9) (kN (KA (Axo L) L 9 Bnv (rl [2,1]) (KE Tryz.f234 kk)))))))) a2 a0 a1) λo3=>Aat L o3))) h
def Ajo [An A Int](a0:Ah):A:=
 (bd (Ahn L a0) λr1=>
 (cn (!r1)
 (lf 1)
 (cn (a0.Op == 1)
 (bd (I0 L 0 1000000000 [a0.A]) λr2=>
 (cn (!r2)
 (lf 2)
 (lf 0)))
 (cn (a0.Op == 2)
 (bd (I0 L 0 1000000000 [a0.A,a0.B]) λr3=>
 (jp (.cn r3
 (.lf (decide (a0.A<=a0.B)))
 (.lf false)) (λb4=>
 (cn (!b4)
 (lf 2)
 (lf 0)))))
 (cn (a0.Op == 4)
 (bd (I0 L 1 20 [a0.N]) λr5=>
 (cn r5
 (jb (.bd (I0 L 0 1000000 [a0.A,a0.B]) λr7=>
 (.lf r7)) (λb6=>
 (jp (.cn b6
 (.lf (decide (a0.A<=a0.B)))
 (.lf false)) (λb8=>
 (cn (!b8)
 (lf 2)
 (lf 0))))))
 (nq (nq (lf 2)))))
 (cn (a0.Op == 5)
 (bd (I0 L 1 1000 [a0.A,a0.B]) λr9=>
 (cn (!r9)
 (lf 2)
 (lf 0)))
 (cn (a0.Op == 3)
 (cn ((a0.bN.length:Int) != (a0.bI.length:Int))
 (lf 8)
 (cn ((a0.bN.length:Int) == 0)
 (lf 7)
 (cn (decide ((a0.bN.length:Int)>20))
 (lf 6)
 (bd (I0 L 0 1000000000 a0.bN) λr10=>
 (jb (.cn r10
 (.bd (I0 L 1 1000 a0.bI) λr12=>
 (.lf r12))
 (.lf false)) (λb11=>
 (cn (!b11)
 (lf 2)
 (lf 0))))))))
 (lf 2))))))))
def Nh(a0:Ah):Option Int:=Ajo L a0
def Bmb:Fs:=E1 I 205 Zb (Nh L) λa0 r h=>hF Tryz.func205 (oS [Bq7 L,Bq8 L]) L (λkk=>eE (Ajo L a0)) h
def m0 [An A Int](a0:Ab)(a1:Qi):A:=
 (cn (a1.dO.toList == (⟨#[]⟩:Yb).toList)
 (bd (Mt L a1.Up (⟨0,0,0,0,[],[]⟩:Ah)) λr1=>
 (cn (!r1)
 (nq (lf 1))
 (bd (Mt L a1.Down (⟨0,0,0,0,[],[]⟩:Ah)) λr2=>
 (nq (cn (!r2)
 (lf 1)
 (cn (a1.dO.toList == (⟨#[]⟩:Yb).toList)
 (lf 0)
 (bd (Bv L a0.aR a1.dO) λr3=>
 (cn (!r3)
 (lf 5)
 (bd (Nh L a1.Up) λr4=>
 (cn (r4 != 0)
 (lf r4)
 (bd (Nh L a1.Down) λr5=>
 (lf r5))))))))))))
 (nq (cn (a1.dO.toList == (⟨#[]⟩:Yb).toList)
 (lf 0)
 (bd (Bv L a0.aR a1.dO) λr6=>
 (cn (!r6)
 (lf 5)
 (bd (Nh L a1.Up) λr7=>
 (cn (r7 != 0)
 (lf r7)
 (bd (Nh L a1.Down) λr8=>
 (lf r8)))))))))
def l8(a0:Ab)(a1:Qi):Option Int:=m0 L a0 a1
def Bqm:Fs:=E2 I 136 Cr Avl (l8 L) λa0 a1 r h=>hF Tryz.func136 (oS [Bl9 L,Bma L,Bmb L]) L (λkk=>eE (m0 L a0 a1)) h
def c29:=CC Tryz.f29
def O29(L:Nat):Ba:=oL []
def Bj7(a0:List (List Aw))(v:Ef):St:=⟨[(0,lv (.t44 a0)),(2,.aO true (.dG [])),(3,I v.1),(6,.any),(8,.any),(9,lv (.t44 a0)),(10,I (a0.length:Int)),(11,I v.2),(27,.any)],[],0⟩
def Ls [An A C0](L:Nat)(a0:List (List Aw))(rec:Int->Int->A)(Az:Int)(Gl:Int):A:=
 (lw Gl a0
 (cn (decide ((Cp (Az+((gD a0 Gl).length:Int)))<0))
 fl
 (rec (Cp (Az+((gD a0 Gl).length:Int))) (Cp (Gl+1))))
 (lf (0,Az,Gl)))
def Ii(L:Nat)(a0:List (List Aw)):Nat->Int->Int->Option C0
 |0,_,_=>none
 |n+1,Az,Gl=>Ls L a0 (Ii L a0 n) Az Gl
theorem Bir(a0:List (List Aw)):LP (EV (O29 L) L 9 c29.w.l.u.l.l) [0,2,3,6,8,9,10,11,27] [] (Bj7 a0) [.exit 0] (λn v=>Ii L a0 n v.1 v.2) K:=lE (λ_=>rfl) λn v ih=>eE (Ls L a0 (λAz Gl=>re (ih (Az,Gl))) v.1 v.2)
def Bj8(a0:List (List Aw))(v:List Aw×Int):St:=⟨[(0,.any),(2,.aO true (.dG [])),(3,.any),(5,.any),(6,.aO true (.dG v.1)),(11,.any),(25,lv (.t44 a0)),(26,I (a0.length:Int)),(27,I v.2)],[],0⟩
def Lt [An A (Nat×List Aw×Int)](L:Nat)(a0:List (List Aw))(rec:List Aw->Int->A)(Gb:List Aw)(Nd:Int):A:=
 (lw Nd a0
 (gq ((Gb.length+(gD a0 Nd).length)*24<=140737488355328)
 (gq (Gb.length+(gD a0 Nd).length<=maxLen)
 (rec (Gb++(gD a0 Nd)) (Cp (Nd+1)))))
 (lf (0,Gb,Nd)))
def Ij(L:Nat)(a0:List (List Aw)):Nat->List Aw->Int->Option (Nat×List Aw×Int)
 |0,_,_=>none
 |n+1,Gb,Nd=>Lt L a0 (Ij L a0 n) Gb Nd
theorem Bis(a0:List (List Aw)):LP (EV (O29 L) L 9 c29.x.l.u.l.l) [0,2,3,5,6,11,25,26,27] [] (Bj8 a0) [.exit 2] (λn v=>Ij L a0 n v.1 v.2) K:=lE (λ_=>rfl) λn v ih=>eE (Lt L a0 (λGb Nd=>re (ih (Gb,Nd))) v.1 v.2)
def Lv [An A (List Aw)](L:Nat)(o2:Nat×List Aw×Int):A:=
 (sl o2.1 [(lf o2.2.1)])
def L5 [An A (List Aw)](L:Nat)(a0:List (List Aw))(o1:Nat×Ef)(nx2:A):A:=
 (sl o1.1 [(gq (0<=o1.2.1)
 (gq (o1.2.1*((24:Nat):Int)<=140737488355328)
 (gq (o1.2.1<=(4611686018427387904:Int))
 nx2)))])
def V6 [An A (List Aw)](a0:List (List Aw))(o1:Nat×Ef):A:=L5 L a0 o1 (bd (Ij L a0 L [] 0) λo2=>Lv L o2)
def Ys [An A (List Aw)](a0:List (List Aw)):A:=(bd (Ii L a0 L 0 0) λo1=>V6 L a0 o1)
def Jt(a0:List (List Aw)):Option (List Aw):=Ys L a0
def X29:Fs:=E1 (λ(x:List Aw)=>lv (.dG x)) 29 Brw (Jt L) λa0 r h=>hF Tryz.func29 (C:=O29 L) (oS _) L (λkk=>eE ((hq (Bir L (KA (O29 L) L 9 c29 (rl [4,1,2,1]) (KE Tryz.f29 kk)) a0 L (0,0)) λo1=>L5 L a0 o1 (hq (Bis L (KA (O29 L) L 9 c29 (rl [8,1,2,1]) (KE Tryz.f29 kk)) a0 L ([],0)) λo2=>Lv L o2)))) h
def Sp9(F:(List Ae)->Option Int):Prop:=∀y0 r,F y0=some r->Ho Tryz.prog 9 [Ac6.en y0] I r
def c9:=CC Tryz.f9
def O9(Qt:(List Ae)->Option Int)(L:Nat):Ba:=(orc 9 (A1 I Ac6 Qt) (oL []))
theorem s9(Qt:(List Ae)->Option Int)(hr9:Sp9 Qt)(L:Nat):B8 Tryz.prog (O9 Qt L):=(B5 (a1 _ hr9) (oS []))
def Bpd(a0:List Ae)(v:Ef):St:=⟨[(0,.any),(2,I 0),(3,I v.1),(8,lv (.eU a0)),(9,I (a0.length:Int)),(10,I v.2)],[],0⟩
def Ad6 [An A C0](Qt:(List Ae)->Option Int)(L:Nat)(a0:List Ae)(rec:Int->Int->A)(Aq:Int)(Bj:Int):A:=
 (lw Bj a0
 (bd (Qt ((gD a0 Bj).cK)) λr1=>
 (bd (Qt ((gD a0 Bj).dM)) λr2=>
 (rec (Cp (Aq+(Cp (r1+r2)))) (Cp (Bj+1)))))
 (lf (0,Aq,Bj)))
def Vv(Qt:(List Ae)->Option Int)(L:Nat)(a0:List Ae):Nat->Int->Int->Option C0
 |0,_,_=>none
 |n+1,Aq,Bj=>Ad6 Qt L a0 (Vv Qt L a0 n) Aq Bj
theorem Boh(Qt:(List Ae)->Option Int)(L:Nat)(K:De)(a0:List Ae):LP (EV (O9 Qt L) L 9 c9.w.l.u.l.l) [0,2,3,8,9,10] [] (Bpd a0) [.exit 0] (λn v=>Vv Qt L a0 n v.1 v.2) K:=lE (λ_=>rfl) λn v ih=>eE (Ad6 Qt L a0 (λAq Bj=>re (ih (Aq,Bj))) v.1 v.2)
def Aer [An A Int](Qt:(List Ae)->Option Int)(L:Nat)(o3:Nat×Ef):A:=
 (sl o3.1 [(lf o3.2.1)])
def Avb [An A Int](Qt:(List Ae)->Option Int)(L:Nat)(a0:List Ae):A:=(bd (Vv Qt L a0 L (a0.length:Int) 0) λo3=>Aer Qt L o3)
def Ajb(Qt:(List Ae)->Option Int)(L:Nat)(a0:List Ae):Option Int:=Avb Qt L a0
theorem b9(Qt:(List Ae)->Option Int)(hr9:Sp9 Qt)(L:Nat):Sp9 (Ajb Qt L):=λa0 r h=>hF Tryz.func9 (s9 Qt hr9 L) L (λkk=>eE ((hq (Boh Qt L (KA (O9 Qt L) L 9 c9 (rl [4,1,2,1]) (KE Tryz.f9 kk)) a0 L ((a0.length:Int),0)) λo3=>Aer Qt L o3))) h
def Re:Nat->(List Ae)->Option Int
 |0,_=>none
 |L+1,a0=>Ajb (Re L) L a0
theorem Bob(L:Nat):Sp9 (Re L):=by
 induction L with
 |zero=>exact λ_ _ h=>(by cases h)
 |succ L ih=>
  have i9:=ih;exact b9 (Re L) i9 L
def X9(L:Nat):Fs:=E1 I 9 Ac6 (Re L) (Bob L)
def A9r(F:(List Ae)->Option Int):Prop:=∀y0 r,F y0=some r->Ho Tryz.prog 82 [Ac6.en y0] I r
def c82:=CC Tryz.f82
def O82(It:(List Ae)->Option Int)(L:Nat):Ba:=(orc 82 (A1 I Ac6 It) (oL []))
theorem s82(It:(List Ae)->Option Int)(Bh0:A9r It)(L:Nat):B8 Tryz.prog (O82 It L):=(B5 (a1 _ Bh0) (oS []))
def Bkv(a0:List Ae)(v:Ef):St:=⟨[(0,.any),(2,I 0),(3,I v.1),(6,lv (.eU a0)),(7,I (a0.length:Int)),(8,I v.2)],[],0⟩
def Ad7 [An A C0](It:(List Ae)->Option Int)(L:Nat)(a0:List Ae)(rec:Int->Int->A)(Aq:Int)(Bj:Int):A:=
 (lw Bj a0
 (bd (It ((gD a0 Bj).cK)) λr1=>
 (bd (It ((gD a0 Bj).dM)) λr2=>
 (rec (if(Cp (1+r2))>(if(Cp (1+r1))>Aq then(Cp (1+r1))else Aq) then(Cp (1+r2)) else(if(Cp (1+r1))>Aq then(Cp (1+r1))else Aq)) (Cp (Bj+1)))))
 (lf (0,Aq,Bj)))
def Vw(It:(List Ae)->Option Int)(L:Nat)(a0:List Ae):Nat->Int->Int->Option C0
 |0,_,_=>none
 |n+1,Aq,Bj=>Ad7 It L a0 (Vw It L a0 n) Aq Bj
theorem Bje(It:(List Ae)->Option Int)(L:Nat)(K:De)(a0:List Ae):LP (EV (O82 It L) L 9 c82.w.l.u.l.l) [0,2,3,6,7,8] [] (Bkv a0) [.exit 0] (λn v=>Vw It L a0 n v.1 v.2) K:=lE (λ_=>rfl) λn v ih=>eE (Ad7 It L a0 (λAq Bj=>re (ih (Aq,Bj))) v.1 v.2)
def Aes [An A Int](It:(List Ae)->Option Int)(L:Nat)(o3:Nat×Ef):A:=
 (sl o3.1 [(lf o3.2.1)])
def Avc [An A Int](It:(List Ae)->Option Int)(L:Nat)(a0:List Ae):A:=(bd (Vw It L a0 L 0 0) λo3=>Aes It L o3)
def Ajc(It:(List Ae)->Option Int)(L:Nat)(a0:List Ae):Option Int:=Avc It L a0
theorem b82(It:(List Ae)->Option Int)(Bh0:A9r It)(L:Nat):A9r (Ajc It L):=λa0 r h=>hF Tryz.func82 (s82 It Bh0 L) L (λkk=>eE ((hq (Bje It L (KA (O82 It L) L 9 c82 (rl [4,1,2,1]) (KE Tryz.f82 kk)) a0 L (0,0)) λo3=>Aes It L o3))) h
def Rf:Nat->(List Ae)->Option Int
 |0,_=>none
 |L+1,a0=>Ajc (Rf L) L a0
theorem Bhr(L:Nat):A9r (Rf L):=by
 induction L with
 |zero=>exact λ_ _ h=>(by cases h)
 |succ L ih=>
  have i82:=ih;exact b82 (Rf L) i82 L
def X82(L:Nat):Fs:=E1 I 82 Ac6 (Rf L) (Bhr L)
def Xh:=CC Tryz.f160
def Ah9(L:Nat):Ba:=oL []
def At9:(Bu×Bool)->Prop:=λx=>kk ((λ(x:Bu×Bool)=>.aY [.agg (Tj x.1),B x.2]) x)
def A3e:St:=⟨[zq9,(3,B false)],[Ble],0⟩
def A2x(L:Nat)(kk:Hf):De:=(KE Tryz.f160 kk)
def X6 [An A (Bu×Bool)](L:Nat):A:=
 (lf ((⟨false,false,false,false,false,false,false,false,false⟩:Bu),false))
theorem Bae:EV (Ah9 L) L 9 Xh.w (A3e) (A2x L kk)=ob (X6 L) (At9 kk):=eE (X6 L)
def Aqg(a0:Int)(p803_2:Bool):St:=⟨[zq9,(3,B false),(4,I a0),(32,B p803_2)],[Ble],0⟩
def Ap7(e0:EC):De:=(C6 0 (I8 (EV (Ah9 L) L 9 e0) (KE Tryz.f160 kk)))
def sx_stmt_uses_3 [An A (Bu×Bool)](L:Nat)(a0:Int)(p803_2:Bool)(nx1:A):A:=
 (cn p803_2
 (lf ((⟨true,false,false,false,false,false,false,false,false⟩:Bu),true))
 (cn (a0 == 13)
 (lf ((⟨true,true,true,false,true,false,false,false,false⟩:Bu),true))
 (cn (a0 == 14)
 (lf ((⟨true,false,true,false,true,false,false,false,false⟩:Bu),true))
 (cn (a0 == 18)
 (lf ((⟨false,false,false,false,false,false,false,false,false⟩:Bu),true))
 nx1))))
def Agv [An A (Bu×Bool)](a0:Int)(p803_2:Bool):A:=sx_stmt_uses_3 L a0 p803_2 (X6 L)
theorem Bar(a0:Int)(p803_2:Bool)(z1:EC):EV (Ah9 L) L 9 Xh.u.l.u.l.x.x.w.u.r (Aqg a0 p803_2) (Ap7 L kk (EC.put (rl [1]) z1 Xh.u.r))= @sx_stmt_uses_3 Prop (anP (At9 kk)) L a0 p803_2 (EV (Ah9 L) L 9 z1 (A3e) (A2x L kk)):=by kernel_rfl
theorem Bag(a0:Int)(p803_2:Bool):EV (Ah9 L) L 9 Xh.u.l.u.l.x.x.w.u.r (Aqg a0 p803_2) (Ap7 L kk Xh.u.r)=ob (Agv L a0 p803_2) (At9 kk):=Eq.trans (b:=EV (Ah9 L) L 9 Xh.u.l.u.l.x.x.w.u.r (Aqg a0 p803_2) (Ap7 L kk (EC.put (rl [1]) Xh.w Xh.u.r))) (by kernel_rfl) ((Bar L kk a0 p803_2 Xh.w).trans (eE (sx_stmt_uses_3 L a0 p803_2 (re (Bae L kk)))))
def Aqf(a0:Int)(p802_2:Bool):St:=⟨[zq9,(3,B false),(4,I a0),(5,B p802_2)],[Ble],0⟩
def Ap6(e0:EC):De:=(C6 0 (I8 (EV (Ah9 L) L 9 e0) (KE Tryz.f160 kk)))
def sx_stmt_uses_2 [An A (Bu×Bool)](L:Nat)(a0:Int)(p802_2:Bool)(nx3:Int->Bool->A):A:=
 (cn p802_2
 (lf ((⟨true,false,true,false,false,false,false,false,false⟩:Bu),true))
 (cn (a0 == 2)
 (lf ((⟨true,true,false,false,false,true,false,false,false⟩:Bu),true))
 (cn (a0 == 3)
 (lf ((⟨false,false,true,false,false,false,false,true,true⟩:Bu),true))
 (cn (a0 == 4)
 (lf ((⟨false,false,true,false,false,false,false,true,false⟩:Bu),true))
 (cn (a0 == 5)
 (lf ((⟨false,false,true,false,false,false,false,false,false⟩:Bu),true))
 (cn (a0 == 6)
 (lf ((⟨true,false,true,true,false,false,true,false,false⟩:Bu),true))
 (cn (a0 == 9)
 (lf ((⟨true,true,false,false,false,false,false,false,false⟩:Bu),true))
 (cn (a0 == 10)
 (nx3 a0 (a0 == 10))
 (nx3 a0 (a0 == 11))))))))))
def Agu [An A (Bu×Bool)](a0:Int)(p802_2:Bool):A:=sx_stmt_uses_2 L a0 p802_2 (λa0 p803_2=>Agv L a0 p803_2)
theorem Baq(a0:Int)(p802_2:Bool)(z3:EC):EV (Ah9 L) L 9 (EC.put (rl [21]) z3 Xh.u.l.u.l.u) (Aqf a0 p802_2) (Ap6 L kk Xh.u.r)= @sx_stmt_uses_2 Prop (anP (At9 kk)) L a0 p802_2 (λa0 p803_2=>EV (Ah9 L) L 9 z3 (Aqg a0 p803_2) (Ap7 L kk Xh.u.r)):=by kernel_rfl
theorem Baf(a0:Int)(p802_2:Bool):EV (Ah9 L) L 9 Xh.u.l.u.l.u (Aqf a0 p802_2) (Ap6 L kk Xh.u.r)=ob (Agu L a0 p802_2) (At9 kk):=Eq.trans (b:=EV (Ah9 L) L 9 (EC.put (rl [21]) Xh.u.l.u.l.x.x.w.u.r Xh.u.l.u.l.u) (Aqf a0 p802_2) (Ap6 L kk Xh.u.r)) (by kernel_rfl) ((Baq L kk a0 p802_2 Xh.u.l.u.l.x.x.w.u.r).trans (eE (sx_stmt_uses_2 L a0 p802_2 (λa0 p803_2=>re (Bag L kk a0 p803_2)))))
def sx_stmt_uses_0 [An A (Bu×Bool)](L:Nat)(a0:Int)(nx2:Int->Bool->A):A:=
 (cn (a0 == 1)
 (nx2 a0 (a0 == 1))
 (cn (a0 == 7)
 (nx2 a0 (a0 == 7))
 (cn (a0 == 8)
 (nx2 a0 (a0 == 8))
 (cn (a0 == 12)
 (nx2 a0 (a0 == 12))
 (cn (a0 == 15)
 (nx2 a0 (a0 == 15))
 (cn (a0 == 16)
 (nx2 a0 (a0 == 16))
 (nx2 a0 (a0 == 17))))))))
def Axt [An A (Bu×Bool)](a0:Int):A:=sx_stmt_uses_0 L a0 (λa0 p802_2=>Agu L a0 p802_2)
theorem Bap(a0:Int)(z2:EC):EW (Ah9 L) L 9 (RS Tryz.f160) (EC.put (rl [2,1,2,1,2]) z2 Xh) [I a0] kk= @sx_stmt_uses_0 Prop (anP (At9 kk)) L a0 (λa0 p802_2=>EV (Ah9 L) L 9 z2 (Aqf a0 p802_2) (Ap6 L kk Xh.u.r)):=by kernel_rfl
def Ank(a0:Int):Option (Bu×Bool):=Axt L a0
def Bly:Fs:=E1 (λ(x:Bu×Bool)=>.aY [.agg (Tj x.1),B x.2]) 160 (cI .i64) (Ank L) λa0 r h=>hF Tryz.func160 (C:=Ah9 L) (oS _) L (λkk=>Eq.trans (b:=EW (Ah9 L) L 9 (RS Tryz.f160) (EC.put (rl [2,1,2,1,2]) Xh.u.l.u.l.u Xh) [I a0] kk) (by kernel_rfl) ((Bap L kk a0 Xh.u.l.u.l.u).trans (eE (sx_stmt_uses_0 L a0 (λa0 p802_2=>re (Baf L kk a0 p802_2)))))) h
def A2h(F:Aa->Aa->Option Bool):Prop:=∀y0 y1 r,F y0 y1=some r->Ho Tryz.prog 213 [Ay.en y0,Ay.en y1] B r
def Bno:=CC Tryz.f213
def Bgh(Ga:Aa->Aa->Option Bool)(L:Nat):Ba:=(orc 213 (A2 B Ay Ay Ga) (oL []))
theorem Bsu(Ga:Aa->Aa->Option Bool)(A6w:A2h Ga)(L:Nat):B8 Tryz.prog (Bgh Ga L):=(B5 (a2 _ A6w) (oS []))
def Bej(a0:Aa)(a1:Aa)(v:Bool×Int):St:=⟨[(0,.any),(1,.any),(2,.any),Qe,(4,B v.1),(36,lv (.t53 a0.aQ)),(37,I (a0.aQ.length:Int)),(38,I v.2)],[(2,(Bm a0)),(3,(Bm a1))],0⟩
def Age [An A (Nat×Bool×Int)](Ga:Aa->Aa->Option Bool)(L:Nat)(a0:Aa)(a1:Aa)(rec:Bool->Int->A)(A9:Bool)(Aj:Int):A:=
 (lw Aj a0.aQ
 (gi Aj a1.aQ
 (bd (Ga (Aa.cp (gD a0.aQ Aj)) (Aa.cp (gD a1.aQ Aj))) λr4=>
 (cn (!r4)
 (lf (0,false,Aj))
 (rec A9 (Cp (Aj+1))))))
 (lf (1,A9,Aj)))
def Xt(Ga:Aa->Aa->Option Bool)(L:Nat)(a0:Aa)(a1:Aa):Nat->Bool->Int->Option (Nat×Bool×Int)
 |0,_,_=>none
 |n+1,A9,Aj=>Age Ga L a0 a1 (Xt Ga L a0 a1 n) A9 Aj
theorem Bcx(Ga:Aa->Aa->Option Bool)(L:Nat)(K:De)(a0:Aa)(a1:Aa):LP (EV (Bgh Ga L) L 9 Bno.w.l.u.l.l) [0,1,2,3,4,36,37,38] [2,3] (Bej a0 a1) [.ret,.exit 0] (λn v=>Xt Ga L a0 a1 n v.1 v.2) K:=lE (λ_=>rfl) λn v ih=>eE (Age Ga L a0 a1 (λA9 Aj=>re (ih (A9,Aj))) v.1 v.2)
def Agq [An A Bool](Ga:Aa->Aa->Option Bool)(L:Nat)(o5:Nat×Bool×Int):A:=
 (sl o5.1 [(lf o5.2.1),
 (lf true)])
def Ag1 [An A Bool](Ga:Aa->Aa->Option Bool)(L:Nat)(a0:Aa)(a1:Aa)(nx1:A):A:=
 (jp (.cn (a0.Op != a1.Op)
 (.lf true)
 (.lf (!(a0.aD.toList == a1.aD.toList)))) (λb1=>
 (jp (.cn b1
 (.lf true)
 (.lf (a0.N != a1.N))) (λb2=>
 (jp (.cn b2
 (.lf true)
 (.lf ((a0.aQ.length:Int) != (a1.aQ.length:Int)))) (λb3=>
 (cn b3
 (lf false)
 nx1)))))))
def Axs [An A Bool](Ga:Aa->Aa->Option Bool)(L:Nat)(a0:Aa)(a1:Aa):A:=Ag1 Ga L a0 a1 (bd (Xt Ga L a0 a1 L false 0) λo5=>Agq Ga L o5)
def Ani(Ga:Aa->Aa->Option Bool)(L:Nat)(a0:Aa)(a1:Aa):Option Bool:=Axs Ga L a0 a1
theorem Bro(Ga:Aa->Aa->Option Bool)(A6w:A2h Ga)(L:Nat):A2h (Ani Ga L):=λa0 a1 r h=>hF Tryz.func213 (Bsu Ga A6w L) L (λkk=>eE (Ag1 Ga L a0 a1 (hq (Bcx Ga L (KA (Bgh Ga L) L 9 Bno (rl [4,1,2,1]) (KE Tryz.f213 kk)) a0 a1 L (false,0)) λo5=>Agq Ga L o5))) h
def Mu:Nat->Aa->Aa->Option Bool
 |0,_,_=>none
 |L+1,a0,a1=>Ani (Mu L) L a0 a1
theorem Bba(L:Nat):A2h (Mu L):=by
 induction L with
 |zero=>exact λ_ _ _ h=>(by cases h)
 |succ L ih=>
  have i213:=ih;exact Bro (Mu L) i213 L
def Bqz(L:Nat):Fs:=E2 B 213 Ay Ay (Mu L) (Bba L)
def Anu [An A Bool](a0:Ae)(a1:Bu):A:=
 (jp (.cn a1.dI
 (.lf true)
 (.lf (a0.aD.toList == (⟨#[]⟩:Yb).toList))) (λb1=>
 (jp (.cn b1
 (.cn a1.fP
 (.lf true)
 (.lf (a0.Of.toList == (⟨#[]⟩:Yb).toList)))
 (.lf false)) (λb2=>
 (cn b2
 (cn a1.gH
 (nq (cn a1.gN
 (nq (jp (.cn a1.fG
 (.lf true)
 (.lf ((a0.bM.length:Int) == 0))) (λb3=>
 (cn b3
 (cn a1.fB
 (nq (jp (.cn a1.dU
 (.lf true)
 (.lf (!a0.cZ))) (λb4=>
 (jp (.cn b4
 (.cn a1.dS
 (.lf true)
 (.lf ((a0.cK.length:Int) == 0)))
 (.lf false)) (λb5=>
 (jp (.cn b5
 (.cn a1.dF
 (.lf true)
 (.lf ((a0.dM.length:Int) == 0)))
 (.lf false)) (λb6=>
 (lf b6))))))))
 (bd (Mt L a0.bW (⟨0,0,0,0,[],[]⟩:Ah)) λr7=>
 (nq (jp (.cn r7
 (.cn a1.dU
 (.lf true)
 (.lf (!a0.cZ)))
 (.lf false)) (λb8=>
 (jp (.cn b8
 (.cn a1.dS
 (.lf true)
 (.lf ((a0.cK.length:Int) == 0)))
 (.lf false)) (λb9=>
 (jp (.cn b9
 (.cn a1.dF
 (.lf true)
 (.lf ((a0.dM.length:Int) == 0)))
 (.lf false)) (λb10=>
 (lf b10))))))))))
 (nq (nq (nq (nq (lf false)))))))))
 (bd (Mu L (Aa.cp a0.F) (Aa.mk 0 (⟨#[]⟩:Yb) 0 [])) λr11=>
 (nq (jp (.cn r11
 (.cn a1.fG
 (.lf true)
 (.lf ((a0.bM.length:Int) == 0)))
 (.lf false)) (λb12=>
 (cn b12
 (cn a1.fB
 (nq (jp (.cn a1.dU
 (.lf true)
 (.lf (!a0.cZ))) (λb13=>
 (jp (.cn b13
 (.cn a1.dS
 (.lf true)
 (.lf ((a0.cK.length:Int) == 0)))
 (.lf false)) (λb14=>
 (jp (.cn b14
 (.cn a1.dF
 (.lf true)
 (.lf ((a0.dM.length:Int) == 0)))
 (.lf false)) (λb15=>
 (lf b15))))))))
 (bd (Mt L a0.bW (⟨0,0,0,0,[],[]⟩:Ah)) λr16=>
 (nq (jp (.cn r16
 (.cn a1.dU
 (.lf true)
 (.lf (!a0.cZ)))
 (.lf false)) (λb17=>
 (jp (.cn b17
 (.cn a1.dS
 (.lf true)
 (.lf ((a0.cK.length:Int) == 0)))
 (.lf false)) (λb18=>
 (jp (.cn b18
 (.cn a1.dF
 (.lf true)
 (.lf ((a0.dM.length:Int) == 0)))
 (.lf false)) (λb19=>
 (lf b19))))))))))
 (nq (nq (nq (nq (lf false))))))))))))
 (bd (Mu L (Aa.cp a0.E) (Aa.mk 0 (⟨#[]⟩:Yb) 0 [])) λr20=>
 (nq (cn r20
 (cn a1.gN
 (nq (jp (.cn a1.fG
 (.lf true)
 (.lf ((a0.bM.length:Int) == 0))) (λb21=>
 (cn b21
 (cn a1.fB
 (nq (jp (.cn a1.dU
 (.lf true)
 (.lf (!a0.cZ))) (λb22=>
 (jp (.cn b22
 (.cn a1.dS
 (.lf true)
 (.lf ((a0.cK.length:Int) == 0)))
 (.lf false)) (λb23=>
 (jp (.cn b23
 (.cn a1.dF
 (.lf true)
 (.lf ((a0.dM.length:Int) == 0)))
 (.lf false)) (λb24=>
 (lf b24))))))))
 (bd (Mt L a0.bW (⟨0,0,0,0,[],[]⟩:Ah)) λr25=>
 (nq (jp (.cn r25
 (.cn a1.dU
 (.lf true)
 (.lf (!a0.cZ)))
 (.lf false)) (λb26=>
 (jp (.cn b26
 (.cn a1.dS
 (.lf true)
 (.lf ((a0.cK.length:Int) == 0)))
 (.lf false)) (λb27=>
 (jp (.cn b27
 (.cn a1.dF
 (.lf true)
 (.lf ((a0.dM.length:Int) == 0)))
 (.lf false)) (λb28=>
 (lf b28))))))))))
 (nq (nq (nq (nq (lf false)))))))))
 (bd (Mu L (Aa.cp a0.F) (Aa.mk 0 (⟨#[]⟩:Yb) 0 [])) λr29=>
 (nq (jp (.cn r29
 (.cn a1.fG
 (.lf true)
 (.lf ((a0.bM.length:Int) == 0)))
 (.lf false)) (λb30=>
 (cn b30
 (cn a1.fB
 (nq (jp (.cn a1.dU
 (.lf true)
 (.lf (!a0.cZ))) (λb31=>
 (jp (.cn b31
 (.cn a1.dS
 (.lf true)
 (.lf ((a0.cK.length:Int) == 0)))
 (.lf false)) (λb32=>
 (jp (.cn b32
 (.cn a1.dF
 (.lf true)
 (.lf ((a0.dM.length:Int) == 0)))
 (.lf false)) (λb33=>
 (lf b33))))))))
 (bd (Mt L a0.bW (⟨0,0,0,0,[],[]⟩:Ah)) λr34=>
 (nq (jp (.cn r34
 (.cn a1.dU
 (.lf true)
 (.lf (!a0.cZ)))
 (.lf false)) (λb35=>
 (jp (.cn b35
 (.cn a1.dS
 (.lf true)
 (.lf ((a0.cK.length:Int) == 0)))
 (.lf false)) (λb36=>
 (jp (.cn b36
 (.cn a1.dF
 (.lf true)
 (.lf ((a0.dM.length:Int) == 0)))
 (.lf false)) (λb37=>
 (lf b37))))))))))
 (nq (nq (nq (nq (lf false)))))))))))
 (nq (nq (nq (nq (nq (nq (lf false)))))))))))
 (nq (nq (nq (nq (nq (nq (nq (lf false)))))))))))))
def Anj(a0:Ae)(a1:Bu):Option Bool:=Anu L a0 a1
def Blz:Fs:=E2 B 161 Dv Anw (Anj L) λa0 a1 r h=>hF Tryz.func161 (oS [Bl9 L,Bqz L]) L (λkk=>eE (Anu L a0 a1)) h
def A9k(F:Aa->Option Int):Prop:=∀y0 r,F y0=some r->Ho Tryz.prog 21 [Ay.en y0] I r
def c21:=CC Tryz.f21
def O21(H3:Aa->Option Int)(L:Nat):Ba:=(orc 21 (A1 I Ay H3) (oL []))
theorem s21(H3:Aa->Option Int)(Bht:A9k H3)(L:Nat):B8 Tryz.prog (O21 H3 L):=(B5 (a1 _ Bht) (oS []))
def Bj3(a0:Aa)(v:Ef):St:=⟨[(0,.any),(1,.any),(2,I 0),(3,I v.1),(7,lv (.t53 a0.aQ)),(8,I (a0.aQ.length:Int)),(9,I v.2)],[(1,(Bm a0))],0⟩
def Pv [An A C0](H3:Aa->Option Int)(L:Nat)(a0:Aa)(rec:Int->Int->A)(Aq:Int)(Bj:Int):A:=
 (lw Bj a0.aQ
 (bd (H3 (Aa.cp (gD a0.aQ Bj))) λr1=>
 (rec (Cp (Aq+r1)) (Cp (Bj+1))))
 (lf (0,Aq,Bj)))
def Ih(H3:Aa->Option Int)(L:Nat)(a0:Aa):Nat->Int->Int->Option C0
 |0,_,_=>none
 |n+1,Aq,Bj=>Pv H3 L a0 (Ih H3 L a0 n) Aq Bj
theorem Bin(H3:Aa->Option Int)(L:Nat)(K:De)(a0:Aa):LP (EV (O21 H3 L) L 9 c21.w.l.u.l.l) [0,1,2,3,7,8,9] [1] (Bj3 a0) [.exit 0] (λn v=>Ih H3 L a0 n v.1 v.2) K:=lE (λ_=>rfl) λn v ih=>eE (Pv H3 L a0 (λAq Bj=>re (ih (Aq,Bj))) v.1 v.2)
def P0 [An A Int](H3:Aa->Option Int)(L:Nat)(o2:Nat×Ef):A:=
 (sl o2.1 [(lf o2.2.1)])
def Ajq [An A Int](H3:Aa->Option Int)(L:Nat)(a0:Aa):A:=(bd (Ih H3 L a0 L 1 0) λo2=>P0 H3 L o2)
def Acl(H3:Aa->Option Int)(L:Nat)(a0:Aa):Option Int:=Ajq H3 L a0
theorem b21(H3:Aa->Option Int)(Bht:A9k H3)(L:Nat):A9k (Acl H3 L):=λa0 r h=>hF Tryz.func21 (s21 H3 Bht L) L (λkk=>eE ((hq (Bin H3 L (KA (O21 H3 L) L 9 c21 (rl [4,1,2,1]) (KE Tryz.f21 kk)) a0 L (1,0)) λo2=>P0 H3 L o2))) h
def F3:Nat->Aa->Option Int
 |0,_=>none
 |L+1,a0=>Acl (F3 L) L a0
theorem Bhj(L:Nat):A9k (F3 L):=by
 induction L with
 |zero=>exact λ_ _ h=>(by cases h)
 |succ L ih=>
  have i21:=ih;exact b21 (F3 L) i21 L
def X21(L:Nat):Fs:=E1 I 21 Ay (F3 L) (Bhj L)
end
end Go.Proofs.YtgacplpjamkieaaGreat.Ev
