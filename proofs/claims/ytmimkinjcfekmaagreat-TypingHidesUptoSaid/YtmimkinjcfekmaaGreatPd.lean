/-  Chapters 7 and 9, plainly: the reference. -/
import Derived.Test.YtmimkinjcfekmaaGreatPc
namespace Go.Proofs.YtmimkinjcfekmaaGreat.Ev
open Go An
set_option maxRecDepth 100000
set_option linter.unusedVariables false
set_option linter.unusedSimpArgs false
set_option linter.unnecessarySimpa false
theorem n9{α :Type}(l:List α)(p: α→Bool):decide (J2 (l.findIdx? p)≥0)=l.any p:=by
 have h:=List.findIdx?_isSome (xs:=l) (p:=p)
 rw [←h]
 cases l.findIdx? p with
 |none=>rfl
 |some i=>simp [J2]
end Go.Proofs.YtmimkinjcfekmaaGreat.Ev
