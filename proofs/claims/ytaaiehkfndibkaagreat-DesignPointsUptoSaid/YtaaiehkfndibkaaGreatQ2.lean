import Derived.Test.YtaaiehkfndibkaaGreatG2
import Derived.Test.YtaaiehkfndibkaaGreatPa
namespace Go.Proofs.YtaaiehkfndibkaaGreat.Ev
open Go
set_option maxRecDepth 100000
set_option linter.unusedVariables false
set_option linter.unusedSimpArgs false
set_option linter.unnecessarySimpa false
end Go.Proofs.YtaaiehkfndibkaaGreat.Ev
