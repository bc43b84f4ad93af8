/-  TypingStmts, plainly. -/
import Derived.Test.YtcbandfdmbkokaaGreatQ5
import Derived.Test.YtcbandfdmbkokaaGreatPp
namespace Go.Proofs.YtcbandfdmbkokaaGreat.Ev
open Go
set_option maxRecDepth 100000
set_option linter.unusedVariables false
set_option linter.unusedSimpArgs false
set_option linter.unnecessarySimpa false
theorem Aiu(c:Mq)(hc:Aan c)(hb:Rg c≤1048576):∃L,Ox L c=some true:=by
 obtain ⟨hm,hs,hl,ha,hB⟩:=hc
 unfold Rg at hb
 have hM:=Cf
 refine ⟨maxLen+4194304,?_⟩
 generalize hLd:maxLen+4194304=L
 have h1:Ct c.A≤1048576:=by rw [Hp];omega
 have h2:=r0 c.A
 have hF:Fu L c.A:=⟨by rw [hM] at *;omega,h1⟩
 have hbm:Ga c.M≤1048576:=by omega
 obtain ⟨b,hf⟩:=Ama hm hbm L (by rw [hM] at *;omega)
 simp only [Sk,Ox,Ao,Au,Al,Am,Ar,Ap,Ak,Av,Aw,Aq,Ax,hf,Avh L (by rw [hM] at *;omega),Ty hm hbm hl c.Site ha.2 L hF,Atm hm hbm hl c.Site ha.2 L hF,Option.bind_some,O8,beq_self_eq_true,cond_true]
 cases (!b || decide ((c.Locals.length:Int) > 20))<;>rfl
end Go.Proofs.YtcbandfdmbkokaaGreat.Ev
