/-  Chapters 9 and 14, plainly: sizes of expressions without overflow; kids of well typed expressions. -/
import Derived.Test.YtcbandfdmbkokaaGreatPg
namespace Go.Proofs.YtcbandfdmbkokaaGreat.Ev
open Go
set_option maxRecDepth 100000
set_option linter.unusedVariables false
set_option linter.unusedSimpArgs false
set_option linter.unnecessarySimpa false
mutual
theorem Aza:∀e:Aa,dE e≤Cn e
 | .mk a b c k=>by
  rw [dE,Cn]
  have:=A3b k
  omega
theorem A3b:∀k:List Aa,dEs k≤Rm k
 | []=>by simp [dEs]
 |x::k=>by
  rw [dEs,Rm]
  have:=Aza x
  have:=A3b k
  omega
end
end Go.Proofs.YtcbandfdmbkokaaGreat.Ev
