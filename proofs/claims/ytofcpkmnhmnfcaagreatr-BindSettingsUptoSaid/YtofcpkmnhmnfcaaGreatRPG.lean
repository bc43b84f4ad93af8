/-  Chapter 14, plainly: the types of expressions, in the program and in the reference. -/
import Derived.Test.YtofcpkmnhmnfcaaGreatRQA
import Derived.Test.YtofcpkmnhmnfcaaGreatRR0
import Derived.Test.YtofcpkmnhmnfcaaGreatRPE
namespace Go.Proofs.YtofcpkmnhmnfcaaGreatR.Ev
open Go An
set_option maxRecDepth 100000
set_option linter.unusedVariables false
set_option linter.unusedSimpArgs false
set_option linter.unnecessarySimpa false
def B14(op:Int):Int:=if op=1 then 1 else if op=2 then 2 else if op=4 then 3 else 0
def Brd(op:Int):List Int→Int
 | [a]=>unT op a
 | [a,b]=>Bus op a b
 |_=>B14 op
def Bbe(v:Au)(op:Int)(nm:ByteArray)(kids:List Int):Int×Int:=
 if op=3 then match A2p v nm with
  |some t=>(t,0)
  |none=>(0,5)
 else if 22≤op then if Bzq op (Anb v.Site nm)=true then (1,0) else (0,5)
 else if Brd op kids=0 then (0,10) else (Brd op kids,0)
mutual
def tyE(v:Au):Ab→Int×Int
 | .mk op nm _ k=>if (tyL v k).2≠0 then (0,(tyL v k).2) else Bbe v op nm (tyL v k).1
def tyL(v:Au):List Ab→List Int×Int
 | []=>([],0)
 |x::k=>if (tyE v x).2≠0 then ([],(tyE v x).2) else if (tyL v k).2≠0 then ([],(tyL v k).2) else ((tyE v x).1::(tyL v k).1,0)
end
def Am8(v:Au)(e:Ab):Int×Int:=if Nz false e≠0 then (0,Nz false e) else tyE v e
theorem B0z(v:Au):∀k:List Ab,(tyL v k).2=0→(tyL v k).1.length=k.length:=by
 intro k
 induction k with
 |nil=>intro _;rw [tyL];rfl
 |cons x k ih=>
  rw [tyL]
  intro h
  split at h
  ·contradiction
  ·split at h
   ·contradiction
   ·rename_i h1 h2
    have h2:(tyL v k).2=0:=Decidable.not_not.1 h2
    rw [if_neg h1,if_neg (by simp [h2])]
    simp [ih h2]
theorem Boi{c:Bool}{op:Int}{nm:ByteArray}{n:Int}{k:List Ab}(h:Avk c (.mk op nm n k)=0):Ayv c (.mk op nm n k)=0∧A4t c k=0:=by
 rw [Avk] at h
 split at h
 ·contradiction
 ·rename_i h1;exact ⟨Decidable.not_not.1 h1,h⟩
theorem Boh{c:Bool} :∀ {k:List Ab},A4t c k=0→∀x∈k,Avk c x=0:=by
 intro k
 induction k with
 |nil=>intro _ x hx;cases hx
 |cons y k ih=>
  intro h x hx
  rw [A4t] at h
  split at h
  ·contradiction
  ·rename_i h1
   rcases List.mem_cons.1 hx with rfl|hx
   ·exact Decidable.not_not.1 h1
   ·exact ih h x hx
theorem Brl{op:Int}{nm:ByteArray}{n:Int}{k:List Ab}(h:Ayv false (.mk op nm n k)=0):(k.length:Int)=Ayi op∧1≤op∧op≤24:=by
 have h1:Atw false (.mk op nm n k)=false:=by
  cases hb:Atw false (.mk op nm n k) with
  |false=>rfl
  |true=>unfold Ayv at h;rw [if_pos hb] at h;cases h
 unfold Atw at h1
 simp only [Ab.cp_eq,Ab.Op,Ab.Name,Ab.N,Ab.Kids,Ab.eta,Bool.or_eq_false_iff,decide_eq_false_iff_not,Decidable.not_not,Bool.not_eq_false'] at h1
 obtain ⟨⟨h2,h3⟩,_⟩:=h1
 refine ⟨Decidable.not_not.1 (of_decide_eq_false h3),?_⟩
 unfold A0b at h2
 by_cases h3:op=3
 ·omega
 ·rw [if_neg h3] at h2
  by_cases h4:op=25∨op=26
  ·rw [if_pos h4] at h2;cases h2
  ·rw [if_neg h4] at h2
   have h5:=of_decide_eq_true h2
   unfold Ayi at h5
   grind
theorem Bn9(op:Int):Ayi op≤2:=by unfold Ayi;grind
theorem Azy(B2d:Au→Ab→Option (Int×Int))(L:Nat)(a1:Ab)(v:Au):∀(k:List Ab) (i:Nat) (v0 v1:Int) (acc:List Int),acc.length+k.length≤1099511627776→(∀x∈k,B2d v x=some (tyE v x))→
  ∃j acc',Iq B2d L a1 v k i v0 v1 acc=some (if (tyL v k).2≠0 then (0,(0,(tyL v k).2,acc',j)) else (1,(v0,v1,acc++(tyL v k).1,j))):=by
 intro k
 induction k with
 |nil=>intro i v0 v1 acc _ _;exact ⟨i,acc,by rw [Iq,tyL];simp⟩
 |cons x k ih=>
  intro i v0 v1 acc hlen h
  rw [List.length_cons] at hlen
  obtain ⟨j,acc',hj⟩:=ih (i+1) v0 v1 (acc++ [(tyE v x).1]) (by simp only [List.length_append,List.length_cons,List.length_nil];omega) fun y hy=>h y (by simp [hy])
  have hM:=Bx
  rw [Iq,h x (by simp),Option.bind_some,tyL]
  simp only [List.length_cons,List.length_nil]
  by_cases hx:(tyE v x).2=0
  ·refine ⟨j,acc',?_⟩
   rw [ifp (show (acc.length+(0+1))*8≤140737488355328 by omega),ifp (show acc.length+(0+1)≤maxLen by omega),hj]
   by_cases hk:(tyL v k).2=0<;>simp [hx,hk]
  ·refine ⟨i,acc,?_⟩
   simp [hx,ne0 hx]
theorem Bm5{l:List Int}(h:l.length≤2):l= []∨(∃a,l= [a])∨∃a b,l= [a,b]:=by
 match l,h with
 | [],_=>exact .inl rfl
 | [a],_=>exact .inr (.inl ⟨a,rfl⟩)
 | [a,b],_=>exact .inr (.inr ⟨a,b,rfl⟩)
theorem A3n{e:Ab}(h:Cn e)(v:Au)(hv:Kh v):∀L,maxLen+dE e < L→Avk false e=0→K7 L v e=some (tyE v e):=by
 induction h with
 |mk a0 a1 a2 a3 h0 h1 h2 h3 h4 ih=>
  intro L hL hc
  obtain ⟨L,rfl⟩:∃k,L=k+1:=⟨L - 1,by omega⟩
  rw [dE] at hL
  obtain ⟨hn,hk⟩:=Boi hc
  have hr:∀x∈a3,K7 L v x=some (tyE v x):=fun x hx=>ih x hx L (by have:=Ao8 hx;omega) (Boh hk x hx)
  obtain ⟨ha,hop1,hop2⟩:=Brl hn
  have ha2:=Bn9 a0
  have h5:a3.length≤2:=by omega
  obtain ⟨j,acc',hj⟩:=Azy (K7 L) L (.mk a0 a1 a2 a3) v a3 0 0 0 [] (by simp;omega) hr
  have hM:=Bx
  simp only [Aqc,Sd,Ahi,K7,Sd,aN,aB,Ab.cp_eq,Ab.Op,Ab.Name,Ab.N,Ab.Kids,Ab.eta,Auo _ _ (.mk a0 a1 a2 a3) _ L h3 (show a3.length < L by omega),hj,Option.bind_some,tyE]
  by_cases hz:(tyL v a3).2=0
  ·have hlen:=B0z v a3 hz
   simp only [hz,ne_eq,not_true_eq_false,if_false,Sr,List.nil_append,A3m L v a1 hv (by omega),Aqu L _ a1 hv.2.2.len (by omega),Aww,Azn,Awv,Option.bind_some,Bbe]
   generalize (tyL v a3).1=l at hlen ⊢
   by_cases e3:a0=3
   ·subst e3;cases A2p v a1<;>rfl
   have b3:(a0 == 3)=false:=beq_false_of_ne e3
   by_cases e22:a0≥22
   ·simp only [e3,e22,b3,cond_false,if_false,decide_true,cond_true,if_true,ge_iff_le]
    cases Bzq a0 (Anb v.Site a1)<;>rfl
   simp only [e3,e22,b3,cond_false,if_false,decide_false]
   rcases Bm5 (show l.length≤2 by omega) with rfl|⟨a,rfl⟩|⟨a,b,rfl⟩
   ·simp only [Brd,B14,List.length_nil]
    by_cases e1:a0=1
    ·subst e1;rfl
    by_cases e2:a0=2
    ·subst e2;rfl
    by_cases e4:a0=4
    ·subst e4;rfl
    simp [e1,e2,e4,beq_false_of_ne e1,beq_false_of_ne e2,beq_false_of_ne e4]
   ·simp only [Brd]
    by_cases hu:unT a0 a=0<;>first|(simp [hu];done)|simp [hu,beq_false_of_ne hu]
   ·simp only [Brd]
    by_cases hu:Bus a0 a b=0<;>first|(simp [hu];done)|simp [hu,beq_false_of_ne hu]
  ·simp [hz,Nb]
theorem A3l{e:Ab}(h:Cn e)(v:Au)(hv:Kh v)(L:Nat)(hL:maxLen+dE e < L):Abf L v e=some (Am8 v e):=by
 simp only [Ahp,Abf,aN,aB,Ab.cp_eq,Abp h L hL,Option.bind_some,Am8]
 by_cases hc:Nz false e=0
 ·have hc':Avk false e=0:=by
   unfold Nz at hc
   split at hc
   ·cases hc
   ·split at hc
    ·cases hc
    ·exact hc
  simp [hc,A3n h v hv L hL hc']
 ·simp [hc,ne0 hc]
theorem Ba5(s:Aa):Ajp s (D0 s):=by
 unfold Ajp D0
 have h0:s.Vars.length≤Gh Gf s.Vars:=Hv fun x=>by unfold Gf;omega
 have h1:s.Resources.length≤Gh F6 s.Resources:=Hv fun x=>by unfold F6;omega
 have h2:s.Stores.length≤Gh Rj s.Stores:=Hv fun x=>by unfold Rj;omega
 have h3:s.Belts.length≤Gh S4 s.Belts:=Hv fun x=>by unfold S4;omega
 have h4:s.Queues.length≤Gh (fun z:ByteArray=>z.size+1) s.Queues:=Hv fun x=>by omega
 have h5:s.Streams.length≤Gh (fun z:ByteArray=>z.size+1) s.Streams:=Hv fun x=>by omega
 have h6:s.Tallies.length≤Gh (fun z:ByteArray=>z.size+1) s.Tallies:=Hv fun x=>by omega
 have h7:s.Levels.length≤Gh (fun z:ByteArray=>z.size+1) s.Levels:=Hv fun x=>by omega
 have h8:s.Counts.length≤Gh (fun z:ByteArray=>z.size+1) s.Counts:=Hv fun x=>by omega
 have h9:s.Routines.length≤Gh Ep s.Routines:=Hv fun x=>by unfold Ep;omega
 refine ⟨?_,?_,?_,?_,?_,?_,?_,?_,?_,?_⟩<;>omega
theorem Ajp.mono{s:Aa}{m n:Nat}(h:Ajp s m)(hm:m≤n):Ajp s n:=by
 obtain ⟨h0,h1,h2,h3,h4,h5,h6,h7,h8,h9⟩:=h
 exact ⟨by omega,by omega,by omega,by omega,by omega,by omega,by omega,by omega,by omega,by omega⟩
mutual
theorem A2g:∀e:Ab,dE e≤C0 e
 | .mk a b c k=>by
  rw [dE,C0]
  have:=Bom k
  omega
theorem Bom:∀k:List Ab,dEs k≤Sj k
 | []=>by simp [dEs]
 |x::k=>by
  rw [dEs,Sj]
  have:=A2g x
  have:=Bom k
  omega
end
end Go.Proofs.YtofcpkmnhmnfcaaGreatR.Ev
