/-  Chapter 14, plainly: the types of expressions, in the program and in the reference. -/
import Derived.Test.YtfencmicmnhglaaGreatR1
import Derived.Test.YtfencmicmnhglaaGreatPE
namespace Go.Proofs.YtfencmicmnhglaaGreat.Ev
open Go An
set_option maxRecDepth 100000
set_option linter.unusedVariables false
set_option linter.unusedSimpArgs false
set_option linter.unnecessarySimpa false
def Boy(op:Int):Int:=if op=1 then 1 else if op=2 then 2 else if op=4 then 3 else 0
def Bge(op:Int):List Int→Int
 | [a]=>unT op a
 | [a,b]=>Bi4 op a b
 |_=>Boy op
def Bo5(v:Bf)(op:Int)(nm:ByteArray)(kids:List Int):Int×Int:=
 if op=3 then match A7p v nm with
  |some t=>(t,0)
  |none=>(0,5)
 else if 22≤op then if Bmj op (Ait v.Site nm)=true then (1,0) else (0,5)
 else if Bge op kids=0 then (0,10) else (Bge op kids,0)
mutual
def tyE(v:Bf):Ab→Int×Int
 | .mk op nm _ k=>if (tyL v k).2≠0 then (0,(tyL v k).2) else Bo5 v op nm (tyL v k).1
def tyL(v:Bf):List Ab→List Int×Int
 | []=>([],0)
 |x::k=>if (tyE v x).2≠0 then ([],(tyE v x).2) else if (tyL v k).2≠0 then ([],(tyL v k).2) else ((tyE v x).1::(tyL v k).1,0)
end
def Aqs(v:Bf)(e:Ab):Int×Int:=if M8 false e≠0 then (0,M8 false e) else tyE v e
theorem Bny(v:Bf):∀k:List Ab,(tyL v k).2=0→(tyL v k).1.length=k.length:=by
 intro k
 induction k with
 |nil=>intro _;rw [tyL];rfl
 |cons x k ih=>
  rw [tyL]
  intro h
  split at h
  ·contradiction
  ·split at h
   ·contradiction
   ·rename_i h1 h2
    have h2:(tyL v k).2=0:=Decidable.not_not.1 h2
    rw [if_neg h1,if_neg (by simp [h2])]
    simp [ih h2]
theorem Bd7{c:Bool}{op:Int}{nm:ByteArray}{n:Int}{k:List Ab}(h:Aom c (.mk op nm n k)=0):Aqx c (.mk op nm n k)=0∧Avs c k=0:=by
 rw [Aom] at h
 split at h
 ·contradiction
 ·rename_i h1;exact ⟨Decidable.not_not.1 h1,h⟩
theorem Bd6{c:Bool} :∀ {k:List Ab},Avs c k=0→∀x∈k,Aom c x=0:=by
 intro k
 induction k with
 |nil=>intro _ x hx;cases hx
 |cons y k ih=>
  intro h x hx
  rw [Avs] at h
  split at h
  ·contradiction
  ·rename_i h1
   rcases List.mem_cons.1 hx with rfl|hx
   ·exact Decidable.not_not.1 h1
   ·exact ih h x hx
theorem Bgp{op:Int}{nm:ByteArray}{n:Int}{k:List Ab}(h:Aqx false (.mk op nm n k)=0):(k.length:Int)=Aql op∧1≤op∧op≤24:=by
 have h1:Amu false (.mk op nm n k)=false:=by
  cases hb:Amu false (.mk op nm n k) with
  |false=>rfl
  |true=>unfold Aqx at h;rw [if_pos hb] at h;cases h
 unfold Amu at h1
 simp only [Ab.cp_eq,Ab.Op,Ab.Name,Ab.N,Ab.Kids,Ab.eta,Bool.or_eq_false_iff,decide_eq_false_iff_not,Decidable.not_not,Bool.not_eq_false'] at h1
 obtain ⟨⟨h2,h3⟩,_⟩:=h1
 refine ⟨Decidable.not_not.1 (of_decide_eq_false h3),?_⟩
 unfold Asm at h2
 by_cases h3:op=3
 ·omega
 ·rw [if_neg h3] at h2
  by_cases h4:op=25∨op=26
  ·rw [if_pos h4] at h2;cases h2
  ·rw [if_neg h4] at h2
   have h5:=of_decide_eq_true h2
   unfold Aql at h5
   grind
theorem Bdx(op:Int):Aql op≤2:=by unfold Aql;grind
theorem Ar9(Bpd:Bf→Ab→Option (Int×Int))(L:Nat)(a1:Ab)(v:Bf):∀(k:List Ab) (i:Nat) (v0 v1:Int) (acc:List Int),acc.length+k.length≤1099511627776→(∀x∈k,Bpd v x=some (tyE v x))→
  ∃j acc',Ic Bpd L a1 v k i v0 v1 acc=some (if (tyL v k).2≠0 then (0,(0,(tyL v k).2,acc',j)) else (1,(v0,v1,acc++(tyL v k).1,j))):=by
 intro k
 induction k with
 |nil=>intro i v0 v1 acc _ _;exact ⟨i,acc,by rw [Ic,tyL];simp⟩
 |cons x k ih=>
  intro i v0 v1 acc hlen h
  rw [List.length_cons] at hlen
  obtain ⟨j,acc',hj⟩:=ih (i+1) v0 v1 (acc++ [(tyE v x).1]) (by simp only [List.length_append,List.length_cons,List.length_nil];omega) fun y hy=>h y (by simp [hy])
  have hM:=B4
  rw [Ic,h x (by simp),Option.bind_some,tyL]
  simp only [List.length_cons,List.length_nil]
  by_cases hx:(tyE v x).2=0
  ·refine ⟨j,acc',?_⟩
   rw [ifp (show (acc.length+(0+1))*8≤140737488355328 by omega),ifp (show acc.length+(0+1)≤maxLen by omega),hj]
   by_cases hk:(tyL v k).2=0<;>simp [hx,hk]
  ·refine ⟨i,acc,?_⟩
   simp [hx,Zn hx]
theorem Bc1{l:List Int}(h:l.length≤2):l= []∨(∃a,l= [a])∨∃a b,l= [a,b]:=by
 match l,h with
 | [],_=>exact .inl rfl
 | [a],_=>exact .inr (.inl ⟨a,rfl⟩)
 | [a,b],_=>exact .inr (.inr ⟨a,b,rfl⟩)
theorem Aui{e:Ab}(h:B9 e)(v:Bf)(hv:Ju v):∀L,maxLen+dE e < L→Aom false e=0→Kk L v e=some (tyE v e):=by
 induction h with
 |mk a0 a1 a2 a3 h0 h1 h2 h3 h4 ih=>
  intro L hL hc
  obtain ⟨L,rfl⟩:∃k,L=k+1:=⟨L - 1,by omega⟩
  rw [dE] at hL
  obtain ⟨hn,hk⟩:=Bd7 hc
  have hr:∀x∈a3,Kk L v x=some (tyE v x):=fun x hx=>ih x hx L (by have:=Amv hx;omega) (Bd6 hk x hx)
  obtain ⟨ha,hop1,hop2⟩:=Bgp hn
  have ha2:=Bdx a0
  have h5:a3.length≤2:=by omega
  obtain ⟨j,acc',hj⟩:=Ar9 (Kk L) L (.mk a0 a1 a2 a3) v a3 0 0 0 [] (by simp;omega) hr
  have hM:=B4
  simp only [Aki,Rh,Adj,Kk,Rh,aN,aB,Ab.cp_eq,Ab.Op,Ab.Name,Ab.N,Ab.Kids,Ab.eta,Anp _ _ (.mk a0 a1 a2 a3) _ L h3 (show a3.length < L by omega),hj,Option.bind_some,tyE]
  by_cases hz:(tyL v a3).2=0
  ·have hlen:=Bny v a3 hz
   simp only [hz,ne_eq,not_true_eq_false,if_false,n8,List.nil_append,Auh L v a1 hv (by omega),Akp L _ a1 hv.2.2.len (by omega),Apx,Ary,Apw,Option.bind_some,Bo5]
   generalize (tyL v a3).1=l at hlen ⊢
   by_cases e3:a0=3
   ·subst e3;cases A7p v a1<;>rfl
   have b3:(a0 == 3)=false:=beq_false_of_ne e3
   by_cases e22:a0≥22
   ·simp only [e3,e22,b3,cond_false,if_false,decide_true,cond_true,if_true,ge_iff_le]
    cases Bmj a0 (Ait v.Site a1)<;>rfl
   simp only [e3,e22,b3,cond_false,if_false,decide_false]
   rcases Bc1 (show l.length≤2 by omega) with rfl|⟨a,rfl⟩|⟨a,b,rfl⟩
   ·simp only [Bge,Boy,List.length_nil]
    by_cases e1:a0=1
    ·subst e1;rfl
    by_cases e2:a0=2
    ·subst e2;rfl
    by_cases e4:a0=4
    ·subst e4;rfl
    simp [e1,e2,e4,beq_false_of_ne e1,beq_false_of_ne e2,beq_false_of_ne e4]
   ·simp only [Bge]
    by_cases hu:unT a0 a=0<;>first|(simp [hu];done)|simp [hu,beq_false_of_ne hu]
   ·simp only [Bge]
    by_cases hu:Bi4 a0 a b=0<;>first|(simp [hu];done)|simp [hu,beq_false_of_ne hu]
  ·simp [hz,Lx]
theorem Aug{e:Ab}(h:B9 e)(v:Bf)(hv:Ju v)(L:Nat)(hL:maxLen+dE e < L):u6 L v e=some (Aqs v e):=by
 simp only [Adr,u6,aN,aB,Ab.cp_eq,v8 h L hL,Option.bind_some,Aqs]
 by_cases hc:M8 false e=0
 ·have hc':Aom false e=0:=by
   unfold M8 at hc
   split at hc
   ·cases hc
   ·split at hc
    ·cases hc
    ·exact hc
  simp [hc,Aui h v hv L hL hc']
 ·simp [hc,Zn hc]
theorem A2s(s:Aa):Ae2 s (C2 s):=by
 unfold Ae2 C2
 have h0:s.Vars.length≤C3 Gt s.Vars:=Hj fun x=>by unfold Gt;omega
 have h1:s.Resources.length≤C3 De s.Resources:=Hj fun x=>by unfold De;omega
 have h2:s.Stores.length≤C3 H6 s.Stores:=Hj fun x=>by unfold H6;omega
 have h3:s.Belts.length≤C3 I6 s.Belts:=Hj fun x=>by unfold I6;omega
 have h4:s.Queues.length≤C3 (fun z:ByteArray=>z.size+1) s.Queues:=Hj fun x=>by omega
 have h5:s.Streams.length≤C3 (fun z:ByteArray=>z.size+1) s.Streams:=Hj fun x=>by omega
 have h6:s.Tallies.length≤C3 (fun z:ByteArray=>z.size+1) s.Tallies:=Hj fun x=>by omega
 have h7:s.Levels.length≤C3 (fun z:ByteArray=>z.size+1) s.Levels:=Hj fun x=>by omega
 have h8:s.Counts.length≤C3 (fun z:ByteArray=>z.size+1) s.Counts:=Hj fun x=>by omega
 have h9:s.Routines.length≤C3 Df s.Routines:=Hj fun x=>by unfold Df;omega
 refine ⟨?_,?_,?_,?_,?_,?_,?_,?_,?_,?_⟩<;>omega
theorem Ae2.mono{s:Aa}{m n:Nat}(h:Ae2 s m)(hm:m≤n):Ae2 s n:=by
 obtain ⟨h0,h1,h2,h3,h4,h5,h6,h7,h8,h9⟩:=h
 exact ⟨by omega,by omega,by omega,by omega,by omega,by omega,by omega,by omega,by omega,by omega⟩
mutual
theorem A62:∀e:Ab,dE e≤Cm e
 | .mk a b c k=>by
  rw [dE,Cm]
  have:=Bea k
  omega
theorem Bea:∀k:List Ab,dEs k≤Rn k
 | []=>by simp [dEs]
 |x::k=>by
  rw [dEs,Rn]
  have:=A62 x
  have:=Bea k
  omega
end
end Go.Proofs.YtfencmicmnhglaaGreat.Ev
