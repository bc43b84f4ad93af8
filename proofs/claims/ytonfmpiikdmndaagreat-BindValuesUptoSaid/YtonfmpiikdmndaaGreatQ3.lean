import Derived.Test.YtonfmpiikdmndaaGreatG3
import Derived.Test.YtonfmpiikdmndaaGreatPa
namespace Go.Proofs.YtonfmpiikdmndaaGreat.Ev
open Go
set_option maxRecDepth 100000
set_option linter.unusedVariables false
set_option linter.unusedSimpArgs false
set_option linter.unnecessarySimpa false
end Go.Proofs.YtonfmpiikdmndaaGreat.Ev
