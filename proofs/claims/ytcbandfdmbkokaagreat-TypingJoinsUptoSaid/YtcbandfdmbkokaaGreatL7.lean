/-  TypingJoins, plainly. -/
import Derived.Test.YtcbandfdmbkokaaGreatQ5
import Derived.Test.YtcbandfdmbkokaaGreatPp
namespace Go.Proofs.YtcbandfdmbkokaaGreat.Ev
open Go
set_option maxRecDepth 100000
set_option linter.unusedVariables false
set_option linter.unusedSimpArgs false
set_option linter.unnecessarySimpa false
theorem Azb(a b:List Ab):Vl (a++b)=max (Vl a) (Vl b):=by
 induction a with
 |nil=>simp [Vl]
 |cons x k ih=>rw [List.cons_append,Vl,Vl,ih,Nat.max_assoc]
theorem A3a(a b:List Ab):I3 (a++b)=I3 a+I3 b:=by
 induction a with
 |nil=>simp [I3]
 |cons x k ih=>rw [List.cons_append,I3,I3,ih,Nat.add_assoc]
theorem A20(a b:List Ab):Ct (a++b)=Ct a+Ct b:=by
 induction a with
 |nil=>simp [Ct]
 |cons x k ih=>rw [List.cons_append,Ct,Ct,ih];omega
theorem A10(a b:List Ab):Kl (a++b)=if Kl a≠0 then Kl a else Kl b:=by
 induction a with
 |nil=>simp [Kl]
 |cons x k ih=>
  rw [List.cons_append,Kl,Kl,ih]
  by_cases h:A27 x=0<;>simp [h]
theorem A6x(m:Af)(v:Ai)(a b:List Ab):R5 m v (a++b)=if R5 m v a≠0 then R5 m v a else R5 m v b:=by
 induction a with
 |nil=>simp [R5]
 |cons x k ih=>
  rw [List.cons_append,R5,R5,ih]
  by_cases h:tyS m v x=0<;>simp [h]
theorem Ay0{a b:List Ab}(h:Vg (a++b)=0):Vg a=0∧Vg b=0:=by
 unfold Vg at*
 rw [A3a,Azb,A10] at h
 by_cases h1:200 < I3 a+I3 b
 ·rw [if_pos h1] at h;omega
 ·rw [if_neg h1] at h
  by_cases h2:12 < max (Vl a) (Vl b)
  ·rw [if_pos h2] at h;omega
  ·rw [if_neg h2] at h
   rw [if_neg (by omega),if_neg (by omega),if_neg (by omega),if_neg (by omega)]
   by_cases h3:Kl a=0
   ·exact ⟨h3,by simpa [h3] using h⟩
   ·rw [if_pos h3] at h;exact absurd h h3
theorem Ait(c:Mq)(hc:Aan c)(hb:Rg c≤1048576):∃L,Ow L c=some true:=by
 obtain ⟨hm,hs,hl,ha,hB⟩:=hc
 unfold Rg at hb
 have hM:=Cf
 refine ⟨maxLen+4194304,?_⟩
 generalize hLd:maxLen+4194304=L
 have h1:Ct c.A+Ct c.B≤1048576:=by rw [Hp,Hp];omega
 have h2:=r0 c.A
 have h3:=r0 c.B
 have h4:=Ak2 c.A
 have h5:=Ak2 c.B
 have hFa:Fu L c.A:=⟨by rw [hM] at *;omega,by omega⟩
 have hFb:Fu L c.B:=⟨by rw [hM] at *;omega,by omega⟩
 have hFc:Fu L (c.A++c.B):=⟨by rw [Azb];rw [hM] at *;omega,by rw [A20];exact h1⟩
 have hcc:∀y∈c.A++c.B,Cj y:=fun y hy=>(List.mem_append.1 hy).elim (ha.2 y) (hB.2 y)
 have hbm:Ga c.M≤1048576:=by omega
 obtain ⟨b,hf⟩:=Ama hm hbm L (by rw [hM] at *;omega)
 simp only [Sj,Ow,Ao,Au,Al,Am,Ar,Ap,Ak,Av,Aw,Aq,Ax,hf,Avh L (by rw [hM] at *;omega),Ac3 hcc L hFc,Ty hm hbm hl 0 ha.2 L hFa,Ty hm hbm hl 0 hB.2 L hFb,Ty hm hbm hl 0 hcc L hFc,Option.bind_some,O8]
 rw [ifp (show (0+c.A.length)*312≤140737488355328 by omega),ifp (show 0+c.A.length≤maxLen by rw [hM];omega),ifp (show (c.A.length+c.B.length)*312≤140737488355328 by omega),ifp (show c.A.length+c.B.length≤maxLen by rw [hM];omega)]
 generalize (!b || decide ((c.Locals.length:Int) > 20) || decide ((c.A.length:Int) > 40) || decide ((c.B.length:Int) > 40))=z
 cases z with
 |true=>rfl
 |false=>
  simp only [cond_false]
  by_cases e:Vg (c.A++c.B)=0
  ·obtain ⟨ea,eb⟩:=Ay0 e
   simp only [e,bne_self_eq_false,cond_false]
   have key:∀l,Vg l=0→Ahp c.M 0 c.Locals l=if (0:Int) < 0∨(c.M.Sites.length:Int)≤0 then 2 else R5 c.M ⟨c.M.Params,c.Locals,c.M.Sites.getD (Int.toNat 0) default⟩ l:=fun l hl=>by unfold Ahp;rw [if_neg (by simp [hl])]
   rw [key _ e,key _ ea,key _ eb,A6x]
   generalize R5 _ _ c.A=x
   generalize R5 _ _ c.B=y
   by_cases hz:(0:Int) < 0∨(c.M.Sites.length:Int)≤0
   ·simp only [if_pos hz];rfl
   ·simp only [if_neg hz]
    by_cases hx:x=0
    ·subst hx;simp
    ·simp [hx,beq_false_of_ne hx]
  ·simp only [i4 e,cond_true]
end Go.Proofs.YtcbandfdmbkokaaGreat.Ev
