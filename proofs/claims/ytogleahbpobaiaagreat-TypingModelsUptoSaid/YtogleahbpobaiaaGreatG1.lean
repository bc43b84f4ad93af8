import Derived.Test.YtogleahbpobaiaaGreatG0
namespace Go.Proofs.YtogleahbpobaiaaGreat.Ev
open Go An
set_option maxRecDepth 100000
set_option maxHeartbeats 4000000
set_option linter.unusedVariables false
set_option linter.unusedSimpArgs false
set_option linter.unnecessarySimpa false
variable {A:Type} (L n:Nat) (kk:Ct) (K:Be) (k:Bx)
def Apg [An A Bool](L:Nat)(a0:Aq):A:=
 (jp (.cn (decide ((a0.Params.length:Int)≤40))
 (.lf (decide ((a0.Locals.length:Int)≤20)))
 (.lf false)) (fun b1=>
 (jp (.cn b1
 (.lf (decide ((Da ((Da ((Da ((Da ((Da ((Da ((Da ((Da ((Da ((a0.Site.Vars.length:Int)+(a0.Site.Resources.length:Int)))+(a0.Site.Stores.length:Int)))+(a0.Site.Belts.length:Int)))+(a0.Site.Queues.length:Int)))+(a0.Site.Streams.length:Int)))+(a0.Site.Tallies.length:Int)))+(a0.Site.Levels.length:Int)))+(a0.Site.Counts.length:Int)))+(a0.Site.Routines.length:Int)))≤80)))
 (.lf false)) (fun b2=>
 (lf b2)))))
def Afi(a0:Aq):Option Bool:=Apg L a0
def X5:Gk:=E1 B 5 Ew (Afi L) fun a0 r h=>hF Tryz.func5 (oS []) L (fun kk=>eE (Apg L a0)) h
end Go.Proofs.YtogleahbpobaiaaGreat.Ev
