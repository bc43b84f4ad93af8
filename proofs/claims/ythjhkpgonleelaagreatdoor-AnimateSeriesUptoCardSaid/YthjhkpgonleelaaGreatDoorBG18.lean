import Derived.Test.YthjhkpgonleelaaGreatDoorBG1
import Derived.Test.YthjhkpgonleelaaGreatDoorBG8
import Derived.Test.YthjhkpgonleelaaGreatDoorBG12
import Derived.Test.YthjhkpgonleelaaGreatDoorBG15
import Derived.Test.YthjhkpgonleelaaGreatDoorBG16
import Derived.Test.YthjhkpgonleelaaGreatDoorBG17
namespace Go.Proofs.YthjhkpgonleelaaGreatDoor.Ev
open Go An
set_option maxRecDepth 100000
set_option maxHeartbeats 4000000
set_option linter.unusedVariables false
set_option linter.unusedSimpArgs false
set_option linter.unnecessarySimpa false
noncomputable section
variable {A:Type} (L n:Nat) (kk:Ep) (K:Ci) (k:Bn)
end
end Go.Proofs.YthjhkpgonleelaaGreatDoor.Ev
