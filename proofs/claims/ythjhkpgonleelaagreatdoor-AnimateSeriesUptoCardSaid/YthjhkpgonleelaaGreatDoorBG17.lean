import Derived.Test.YthjhkpgonleelaaGreatDoorBG0
namespace Go.Proofs.YthjhkpgonleelaaGreatDoor.Ev
open Go An
set_option maxRecDepth 100000
set_option maxHeartbeats 4000000
set_option linter.unusedVariables false
set_option linter.unusedSimpArgs false
set_option linter.unnecessarySimpa false
noncomputable section
variable {A:Type} (L n:Nat) (kk:Ep) (K:Ci) (k:Bn)
def Bes(F:Int→Option ByteArray):Prop:=∀y0 r,F y0=some r→Ho Tryz.prog 27 [(cI .i64).en y0] S r
def O27(X0:Int→Option ByteArray)(L:Nat):Bt:=(orc 27 (A1 S (cI .i64) X0) (oL []))
theorem s27(X0:Int→Option ByteArray)(Bfj:Bes X0)(L:Nat):Ed Tryz.prog (O27 X0 L):=(Mu (a1 _ Bfj) (oS []))
def All [An A ByteArray](X0:Int→Option ByteArray)(L:Nat)(a0:Int):A:=
 (jp (.cn (decide (a0≥0))
 (.lf (decide (a0 < 10)))
 (.lf false)) (fun b1=>
 (cn b1
 (gq (0≤a0)
 (gq ((a0:Int)≤(Bi (a0+1)))
 (gq (((Bi (a0+1)):Int)≤10)
 (lf ((⟨#[48,49,50,51,52,53,54,55,56,57]⟩:ByteArray).extract (Int.toNat a0) (Int.toNat (Bi (a0+1))))))))
 (cn (decide (a0 > 0))
 (bd (X0 (Bi (Int.tdiv a0 10))) fun r2=>
 (bd (X0 (Int.tmod a0 10)) fun r3=>
 (cn (!decide (((r2.size+r3.size:Nat):Int) > IntKind.i64.max))
 (lf (r2++r3))
 fl)))
 (cn (decide (a0 > (-10)))
 (bd (X0 (Bi (0 - a0))) fun r4=>
 (cn (!decide ((((⟨#[45]⟩:ByteArray).size+r4.size:Nat):Int) > IntKind.i64.max))
 (lf ((⟨#[45]⟩:ByteArray)++r4))
 fl))
 (bd (X0 (Bi (Int.tdiv a0 10))) fun r5=>
 (bd (X0 (Bi (0 - (Int.tmod a0 10)))) fun r6=>
 (cn (!decide (((r5.size+r6.size:Nat):Int) > IntKind.i64.max))
 (lf (r5++r6))
 fl))))))))
def Avi(X0:Int→Option ByteArray)(L:Nat)(a0:Int):Option ByteArray:=All X0 L a0
theorem b27(X0:Int→Option ByteArray)(Bfj:Bes X0)(L:Nat):Bes (Avi X0 L):=fun a0 r h=>hF Tryz.func27 (s27 X0 Bfj L) L (fun kk=>eE (All X0 L a0)) h
end
end Go.Proofs.YthjhkpgonleelaaGreatDoor.Ev
