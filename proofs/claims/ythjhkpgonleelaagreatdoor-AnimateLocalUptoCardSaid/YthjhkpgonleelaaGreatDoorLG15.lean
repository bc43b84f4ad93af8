import Derived.Test.YthjhkpgonleelaaGreatDoorLG0
set_option maxRecDepth 100000
set_option maxHeartbeats 4000000
set_option linter.unusedVariables false
set_option linter.unusedSimpArgs false
set_option linter.unnecessarySimpa false
namespace Go.Proofs.YthjhkpgonleelaaGreatDoor.Ev
open Go An
noncomputable section
variable {A:Type} (L n:Nat) (kk:K5) (K:Ef) (k:Dj)
def Bqu(F:Int->Option Yb):Prop:=∀y0 r,F y0=some r->Ho Tryz.prog 27 [(cI .i64).en y0] S r
def O27(Ae0:Int->Option Yb)(L:Nat):Bc:=(orc 27 (A1 S (cI .i64) Ae0) (oL []))
theorem s27(Ae0:Int->Option Yb)(Bz1:Bqu Ae0)(L:Nat):Dl Tryz.prog (O27 Ae0 L):=(Em (a1 _ Bz1) (oS []))
def A2s [An A Yb](Ae0:Int->Option Yb)(L:Nat)(a0:Int):A:=
 (jp (.cn (decide (a0>=0))
 (.lf (decide (a0<10)))
 (.lf false)) (λb1=>
 (cn b1
 (gq (0<=a0)
 (gq ((a0:Int)<=(Bu (a0+1)))
 (gq (((Bu (a0+1)):Int)<=10)
 (lf ((⟨#[48,49,50,51,52,53,54,55,56,57]⟩:Yb).extract (Int.toNat a0) (Int.toNat (Bu (a0+1))))))))
 (cn (decide (a0>0))
 (bd (Ae0 (Bu (Int.tdiv a0 10))) λr2=>
 (bd (Ae0 (Int.tmod a0 10)) λr3=>
 (cn (!decide (((r2.size+r3.size:Nat):Int)>IntKind.i64.max))
 (lf (r2++r3))
 fl)))
 (cn (decide (a0>(-10)))
 (bd (Ae0 (Bu (0-a0))) λr4=>
 (cn (!decide ((((⟨#[45]⟩:Yb).size+r4.size:Nat):Int)>IntKind.i64.max))
 (lf ((⟨#[45]⟩:Yb)++r4))
 fl))
 (bd (Ae0 (Bu (Int.tdiv a0 10))) λr5=>
 (bd (Ae0 (Bu (0-(Int.tmod a0 10)))) λr6=>
 (cn (!decide (((r5.size+r6.size:Nat):Int)>IntKind.i64.max))
 (lf (r5++r6))
 fl))))))))
def A2l(Ae0:Int->Option Yb)(L:Nat)(a0:Int):Option Yb:=A2s Ae0 L a0
theorem b27(Ae0:Int->Option Yb)(Bz1:Bqu Ae0)(L:Nat):Bqu (A2l Ae0 L):=λa0 r h=>hF Tryz.func27 (s27 Ae0 Bz1 L) L (λkk=>eE (A2s Ae0 L a0)) h
def Yk:Nat->Int->Option Yb
 |0,_=>none
 |L+1,a0=>A2l (Yk L) L a0
theorem Bzz(L:Nat):Bqu (Yk L):=by
 induction L with
 |zero=>exact λ_ _ h=>(by cases h)
 |succ L ih=>
  have i27:=ih;exact b27 (Yk L) i27 L
def X27(L:Nat):F3:=E1 S 27 (cI .i64) (Yk L) (Bzz L)
def c28:=CC Tryz.f28
def O28:Bc:=oL [X27 L]
def B24(a1:List Int)(v:Yb×Int):St:=⟨[(0,S v.1),(1,lv (.t3 a1)),(4,S (⟨#[]⟩:Yb)),(5,I v.2)],[],0⟩
def Asz [An A (Nat×Yb×Int)](a1:List Int)(rec:Yb->Int->A)(Ah:Yb)(Af:Int):A:=
 (cn (decide (Af<(a1.length:Int)))
 (cn (!decide (((Ah.size+(⟨#[32]⟩:Yb).size:Nat):Int)>IntKind.i64.max))
 (gi Af a1
 (bd (Yk L (gD a1 Af)) λr1=>
 (cn (!decide ((((Ah++(⟨#[32]⟩:Yb)).size+r1.size:Nat):Int)>IntKind.i64.max))
 (rec ((Ah++(⟨#[32]⟩:Yb))++r1) (Bu (Af+1)))
 fl)))
 fl)
 (lf (0,Ah,Af)))
def Akp(L:Nat)(a1:List Int):Nat->Yb->Int->Option (Nat×Yb×Int)
 |0,_,_=>none
 |n+1,Ah,Af=>Asz L a1 (Akp L a1 n) Ah Af
theorem B04(a1:List Int):LP (EV (O28 L) L 9 c28.u.l.u.l.l) [0,1,4,5] [] (B24 a1) [.exit 0] (λn v=>Akp L a1 n v.1 v.2) K:=lE (λ_=>rfl) λn v ih=>eE (Asz L a1 (λAh Af=>re (ih (Ah,Af))) v.1 v.2)
def As3 [An A Yb](L:Nat)(o2:Nat×Yb×Int):A:=
 (sl o2.1 [(cn (!decide (((o2.2.1.size+(⟨#[10]⟩:Yb).size:Nat):Int)>IntKind.i64.max))
 (lf (o2.2.1++(⟨#[10]⟩:Yb)))
 fl)])
def Bfh [An A Yb](a0:Yb)(a1:List Int):A:=(bd (Akp L a1 L a0 0) λo2=>As3 L o2)
def Ahb(a0:Yb)(a1:List Int):Option Yb:=Bfh L a0 a1
def X28:F3:=E2 S 28 cS cl3 (Ahb L) λa0 a1 r h=>hF Tryz.func28 (C:=O28 L) (oS _) L (λkk=>eE ((hq (B04 L (KA (O28 L) L 9 c28 (rl [2,1,2,1]) (KE Tryz.f28 kk)) a1 L (a0,0)) λo2=>As3 L o2))) h
def A24 [An A Yb](a0:Ao):A:=
 (bd (Yk L a0.Time) λr1=>
 (cn (!decide ((((⟨#[97,116,32]⟩:Yb).size+r1.size:Nat):Int)>IntKind.i64.max))
 (cn (!decide (((((⟨#[97,116,32]⟩:Yb)++r1).size+(⟨#[32,115,105,116,101,32]⟩:Yb).size:Nat):Int)>IntKind.i64.max))
 (bd (Yk L a0.bW) λr2=>
 (cn (!decide ((((((⟨#[97,116,32]⟩:Yb)++r1)++(⟨#[32,115,105,116,101,32]⟩:Yb)).size+r2.size:Nat):Int)>IntKind.i64.max))
 (cn (!decide (((((((⟨#[97,116,32]⟩:Yb)++r1)++(⟨#[32,115,105,116,101,32]⟩:Yb))++r2).size+(⟨#[10]⟩:Yb).size:Nat):Int)>IntKind.i64.max))
 (bd (Ahb L (⟨#[112,114,111,99,115]⟩:Yb) a0.dY) λr3=>
 (cn (!decide ((((((((⟨#[97,116,32]⟩:Yb)++r1)++(⟨#[32,115,105,116,101,32]⟩:Yb))++r2)++(⟨#[10]⟩:Yb)).size+r3.size:Nat):Int)>IntKind.i64.max))
 (bd (Ahb L (⟨#[104,101,108,100]⟩:Yb) a0.Held) λr4=>
 (cn (!decide (((((((((⟨#[97,116,32]⟩:Yb)++r1)++(⟨#[32,115,105,116,101,32]⟩:Yb))++r2)++(⟨#[10]⟩:Yb))++r3).size+r4.size:Nat):Int)>IntKind.i64.max))
 (bd (Ahb L (⟨#[119,97,105,116,105,110,103]⟩:Yb) a0.dB) λr5=>
 (cn (!decide ((((((((((⟨#[97,116,32]⟩:Yb)++r1)++(⟨#[32,115,105,116,101,32]⟩:Yb))++r2)++(⟨#[10]⟩:Yb))++r3)++r4).size+r5.size:Nat):Int)>IntKind.i64.max))
 (bd (Ahb L (⟨#[105,116,101,109,115]⟩:Yb) a0.Items) λr6=>
 (cn (!decide (((((((((((⟨#[97,116,32]⟩:Yb)++r1)++(⟨#[32,115,105,116,101,32]⟩:Yb))++r2)++(⟨#[10]⟩:Yb))++r3)++r4)++r5).size+r6.size:Nat):Int)>IntKind.i64.max))
 (lf (((((((((⟨#[97,116,32]⟩:Yb)++r1)++(⟨#[32,115,105,116,101,32]⟩:Yb))++r2)++(⟨#[10]⟩:Yb))++r3)++r4)++r5)++r6))
 fl))
 fl))
 fl))
 fl))
 fl)
 fl))
 fl)
 fl))
def A2m(a0:Ao):Option Yb:=A24 L a0
def X16:F3:=E1 S 16 Ry (A2m L) λa0 r h=>hF Tryz.func16 (oS [X27 L,X28 L]) L (λkk=>eE (A24 L a0)) h
end
end Go.Proofs.YthjhkpgonleelaaGreatDoor.Ev
