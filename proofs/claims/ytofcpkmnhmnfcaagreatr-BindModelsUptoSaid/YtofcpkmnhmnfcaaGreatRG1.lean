import Derived.Test.YtofcpkmnhmnfcaaGreatRG0
namespace Go.Proofs.YtofcpkmnhmnfcaaGreatR.Ev
open Go An
set_option maxRecDepth 100000
set_option maxHeartbeats 4000000
set_option linter.unusedVariables false
set_option linter.unusedSimpArgs false
set_option linter.unnecessarySimpa false
noncomputable section
variable {A:Type} (L n:Nat) (kk:Cz) (K:Ba) (k:Bq)
def Atd [An A Bool](L:Nat)(a0:Aa):A:=
 (jp (.cn (decide ((a0.Vars.length:Int)≤100))
 (.lf (decide ((a0.Resources.length:Int)≤100)))
 (.lf false)) (fun b1=>
 (jp (.cn b1
 (.lf (decide ((a0.Stores.length:Int)≤100)))
 (.lf false)) (fun b2=>
 (jp (.cn b2
 (.lf (decide ((a0.Belts.length:Int)≤100)))
 (.lf false)) (fun b3=>
 (jp (.cn b3
 (.lf (decide ((a0.Queues.length:Int)≤100)))
 (.lf false)) (fun b4=>
 (jp (.cn b4
 (.lf (decide ((a0.Streams.length:Int)≤100)))
 (.lf false)) (fun b5=>
 (jp (.cn b5
 (.lf (decide ((a0.Tallies.length:Int)≤100)))
 (.lf false)) (fun b6=>
 (jp (.cn b6
 (.lf (decide ((a0.Levels.length:Int)≤100)))
 (.lf false)) (fun b7=>
 (jp (.cn b7
 (.lf (decide ((a0.Counts.length:Int)≤100)))
 (.lf false)) (fun b8=>
 (jp (.cn b8
 (.lf (decide ((a0.Routines.length:Int)≤100)))
 (.lf false)) (fun b9=>
 (lf b9)))))))))))))))))))
def Ai0(a0:Aa):Option Bool:=Atd L a0
def X16:F7:=E1 B 16 Cn (Ai0 L) fun a0 r h=>hF Tryz.func16 (oS []) L (fun kk=>eE (Atd L a0)) h
end
end Go.Proofs.YtofcpkmnhmnfcaaGreatR.Ev
