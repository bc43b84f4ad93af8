/-  TypingModels, plainly. -/
import Derived.Test.YtogleahbpobaiaaGreatQA
import Derived.Test.YtogleahbpobaiaaGreatCH
namespace Go.Proofs.YtogleahbpobaiaaGreat.Ev
open Go An
set_option maxRecDepth 100000
set_option linter.unusedVariables false
set_option linter.unusedSimpArgs false
set_option linter.unnecessarySimpa false
theorem Axb(m:Ad)(hm:S9 m)(hb:Gb m≤1048576):∃L,Z5 L m=some true:=by
 have h:MG m:=⟨hm,hb⟩
 refine ⟨m9,?_⟩
 have hl:=Ta (Nat.le_refl m9)
 have e:m9=maxLen+4194304:=rfl
 obtain ⟨b,hf⟩:=Bg1 hm hb m9 (by rw [e];exact Nat.add_lt_add_left (by decide) _)
 simp only [Z9,Z5,aN,aB,hf,Bpo m9 (by rw [e,Bd];decide),A00 h m9 (Nat.le_refl _),Ba3 h m9 (Nat.le_refl _),Bsp,Option.bind_some,beq_self_eq_true,cond_true]
 cases b<;>rfl
end Go.Proofs.YtogleahbpobaiaaGreat.Ev
