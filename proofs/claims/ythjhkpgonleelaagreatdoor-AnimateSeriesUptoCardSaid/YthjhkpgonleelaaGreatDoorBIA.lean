/-  What the library's Itoa does: the shelf's contract, laid here. -/
import Derived.Shelf.Strconv.Itoa0
import Derived.Shelf.Strconv.Itoa1
import Derived.Shelf.LaysM
import Derived.Shelf.Strconv.Itoa2
import Derived.Shelf.Strconv.Itoa3
import Derived.Test.YthjhkpgonleelaaGreatDoorProg
import Derived.Test.YthjhkpgonleelaaGreatDoorBFE
namespace Go.Proofs.YthjhkpgonleelaaGreatDoor.Ev
open Go Go.Shelf Go.Proofs
end Go.Proofs.YthjhkpgonleelaaGreatDoor.Ev
namespace Go.Proofs.YthjhkpgonleelaaGreatDoor.Ev
open Go
set_option maxRecDepth 100000
set_option linter.unusedVariables false
end Go.Proofs.YthjhkpgonleelaaGreatDoor.Ev
