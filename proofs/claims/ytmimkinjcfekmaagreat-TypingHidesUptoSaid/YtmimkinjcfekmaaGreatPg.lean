/-  Chapter 14, plainly: the types of expressions, in the program and in the reference. -/
import Derived.Test.YtmimkinjcfekmaaGreatQ2
import Derived.Test.YtmimkinjcfekmaaGreatR0
import Derived.Test.YtmimkinjcfekmaaGreatPf
namespace Go.Proofs.YtmimkinjcfekmaaGreat.Ev
open Go An
set_option maxRecDepth 100000
set_option linter.unusedVariables false
set_option linter.unusedSimpArgs false
set_option linter.unnecessarySimpa false
def Afn(op:Int):Int:=if op=1 then 1 else if op=2 then 2 else if op=4 then 3 else 0
def Acg(op:Int):List Int→Int
 | [a]=>unT op a
 | [a,b]=>Aea op a b
 |_=>Afn op
def Y8(v:Ae)(op:Int)(nm:ByteArray)(kids:List Int):Int×Int:=
 if op=3 then match Qb v nm with
  |some t=>(t,0)
  |none=>(0,5)
 else if 22≤op then if Aew op (q9 v.Site nm)=true then (1,0) else (0,5)
 else if Acg op kids=0 then (0,10) else (Acg op kids,0)
mutual
def v7(v:Ae):Aa→Int×Int
 | .mk op nm _ k=>if (Tb v k).2≠0 then (0,(Tb v k).2) else Y8 v op nm (Tb v k).1
def Tb(v:Ae):List Aa→List Int×Int
 | []=>([],0)
 |x::k=>if (v7 v x).2≠0 then ([],(v7 v x).2) else if (Tb v k).2≠0 then ([],(Tb v k).2) else ((v7 v x).1::(Tb v k).1,0)
end
def Sh(v:Ae)(e:Aa):Int×Int:=if Ih false e≠0 then (0,Ih false e) else v7 v e
theorem Afc(v:Ae):∀k:List Aa,(Tb v k).2=0→(Tb v k).1.length=k.length:=by
 intro k
 induction k with
 |nil=>intro _;rw [Tb];rfl
 |cons x k ih=>
  rw [Tb]
  intro h
  split at h
  ·contradiction
  ·split at h
   ·contradiction
   ·rename_i h1 h2
    have h2:(Tb v k).2=0:=Decidable.not_not.1 h2
    rw [if_neg h1,if_neg (by simp [h2])]
    simp [ih h2]
theorem Abh{c:Bool}{op:Int}{nm:ByteArray}{n:Int}{k:List Aa}(h:Rf c (.mk op nm n k)=0):Sk c (.mk op nm n k)=0∧U9 c k=0:=by
 rw [Rf] at h
 split at h
 ·contradiction
 ·rename_i h1;exact ⟨Decidable.not_not.1 h1,h⟩
theorem Abg{c:Bool} :∀ {k:List Aa},U9 c k=0→∀x∈k,Rf c x=0:=by
 intro k
 induction k with
 |nil=>intro _ x hx;cases hx
 |cons y k ih=>
  intro h x hx
  rw [U9] at h
  split at h
  ·contradiction
  ·rename_i h1
   rcases List.mem_cons.1 hx with rfl|hx
   ·exact Decidable.not_not.1 h1
   ·exact ih h x hx
theorem Acs{op:Int}{nm:ByteArray}{n:Int}{k:List Aa}(h:Sk false (.mk op nm n k)=0):(k.length:Int)=Sa op∧1≤op∧op≤24:=by
 have h1:P6 false (.mk op nm n k)=false:=by
  cases hb:P6 false (.mk op nm n k) with
  |false=>rfl
  |true=>unfold Sk at h;rw [if_pos hb] at h;cases h
 unfold P6 at h1
 simp only [Aa.cp_eq,Aa.Op,Aa.Name,Aa.N,Aa.Kids,Aa.eta,Bool.or_eq_false_iff,decide_eq_false_iff_not,Decidable.not_not,Bool.not_eq_false'] at h1
 obtain ⟨⟨h2,h3⟩,_⟩:=h1
 refine ⟨Decidable.not_not.1 (of_decide_eq_false h3),?_⟩
 unfold Th at h2
 by_cases h3:op=3
 ·omega
 ·rw [if_neg h3] at h2
  by_cases h4:op=25∨op=26
  ·rw [if_pos h4] at h2;cases h2
  ·rw [if_neg h4] at h2
   have h5:=of_decide_eq_true h2
   unfold Sa at h5
   grind
theorem Abe(op:Int):Sa op≤2:=by unfold Sa;grind
theorem S9(Afu:Ae→Aa→Option (Int×Int))(L:Nat)(a1:Aa)(v:Ae):∀(k:List Aa) (i:Nat) (v0 v1:Int) (acc:List Int),acc.length+k.length≤1099511627776→(∀x∈k,Afu v x=some (v7 v x))→
  ∃j acc',Bt Afu L a1 v k i v0 v1 acc=some (if (Tb v k).2≠0 then (0,(0,(Tb v k).2,acc',j)) else (1,(v0,v1,acc++(Tb v k).1,j))):=by
 intro k
 induction k with
 |nil=>intro i v0 v1 acc _ _;exact ⟨i,acc,by rw [Bt,Tb];simp⟩
 |cons x k ih=>
  intro i v0 v1 acc hlen h
  rw [List.length_cons] at hlen
  obtain ⟨j,acc',hj⟩:=ih (i+1) v0 v1 (acc++ [(v7 v x).1]) (by simp only [List.length_append,List.length_cons,List.length_nil];omega) fun y hy=>h y (by simp [hy])
  have hM:=Ro
  rw [Bt,h x (by simp),Option.bind_some,Tb]
  simp only [List.length_cons,List.length_nil]
  by_cases hx:(v7 v x).2=0
  ·refine ⟨j,acc',?_⟩
   rw [ifp (show (acc.length+(0+1))*8≤140737488355328 by omega),ifp (show acc.length+(0+1)≤maxLen by omega),hj]
   by_cases hk:(Tb v k).2=0<;>simp [hx,hk]
  ·refine ⟨i,acc,?_⟩
   simp [hx,ne0 hx]
theorem Aa4{l:List Int}(h:l.length≤2):l= []∨(∃a,l= [a])∨∃a b,l= [a,b]:=by
 match l,h with
 | [],_=>exact .inl rfl
 | [a],_=>exact .inr (.inl ⟨a,rfl⟩)
 | [a,b],_=>exact .inr (.inr ⟨a,b,rfl⟩)
theorem Uk{e:Aa}(h:Bc e)(v:Ae)(hv:Iu v):∀L,maxLen+dE e < L→Rf false e=0→Co L v e=some (v7 v e):=by
 induction h with
 |mk a0 a1 a2 a3 h0 h1 h2 h3 h4 ih=>
  intro L hL hc
  obtain ⟨L,rfl⟩:∃k,L=k+1:=⟨L - 1,by omega⟩
  rw [dE] at hL
  obtain ⟨hn,hk⟩:=Abh hc
  have hr:∀x∈a3,Co L v x=some (v7 v x):=fun x hx=>ih x hx L (by have:=Tf hx;omega) (Abg hk x hx)
  obtain ⟨ha,hop1,hop2⟩:=Acs hn
  have ha2:=Abe a0
  have h5:a3.length≤2:=by omega
  obtain ⟨j,acc',hj⟩:=S9 (Co L) L (.mk a0 a1 a2 a3) v a3 0 0 0 [] (by simp;omega) hr
  have hM:=Ro
  simp only [Oj,D0,K3,Co,D0,aN,aB,Aa.cp_eq,Aa.Op,Aa.Name,Aa.N,Aa.Kids,Aa.eta,Qp _ _ (.mk a0 a1 a2 a3) _ L h3 (show a3.length < L by omega),hj,Option.bind_some,v7]
  by_cases hz:(Tb v a3).2=0
  ·have hlen:=Afc v a3 hz
   simp only [hz,ne_eq,not_true_eq_false,if_false,Ac6,List.nil_append,Np L v a1 hv (by omega),Vf L _ a1 hv.2.2.len (by omega),Rw,S2,Rv,Option.bind_some,Y8]
   generalize (Tb v a3).1=l at hlen ⊢
   by_cases e3:a0=3
   ·subst e3;cases Qb v a1<;>rfl
   have b3:(a0 == 3)=false:=beq_false_of_ne e3
   by_cases e22:a0≥22
   ·simp only [e3,e22,b3,cond_false,if_false,decide_true,cond_true,if_true,ge_iff_le]
    cases Aew a0 (q9 v.Site a1)<;>rfl
   simp only [e3,e22,b3,cond_false,if_false,decide_false]
   rcases Aa4 (show l.length≤2 by omega) with rfl|⟨a,rfl⟩|⟨a,b,rfl⟩
   ·simp only [Acg,Afn,List.length_nil]
    by_cases e1:a0=1
    ·subst e1;rfl
    by_cases e2:a0=2
    ·subst e2;rfl
    by_cases e4:a0=4
    ·subst e4;rfl
    simp [e1,e2,e4,beq_false_of_ne e1,beq_false_of_ne e2,beq_false_of_ne e4]
   ·simp only [Acg]
    by_cases hu:unT a0 a=0<;>first|(simp [hu];done)|simp [hu,beq_false_of_ne hu]
   ·simp only [Acg]
    by_cases hu:Aea a0 a b=0<;>first|(simp [hu];done)|simp [hu,beq_false_of_ne hu]
  ·simp [hz,Uw]
theorem No{e:Aa}(h:Bc e)(v:Ae)(hv:Iu v)(L:Nat)(hL:maxLen+dE e < L):Gy L v e=some (Sh v e):=by
 simp only [K6,Gy,aN,aB,Aa.cp_eq,Ot h L hL,Option.bind_some,Sh]
 by_cases hc:Ih false e=0
 ·have hc':Rf false e=0:=by
   unfold Ih at hc
   split at hc
   ·cases hc
   ·split at hc
    ·cases hc
    ·exact hc
  simp [hc,Uk h v hv L hL hc']
 ·simp [hc,ne0 hc]
theorem X1(L:Nat)(hL:100≤L):Hq L=some true:=by
 rfl
def f7(v:Ae):Bool:=decide (v.Params.length≤40) && decide (v.Locals.length≤20) && decide (v.Site.Vars.length+v.Site.Resources.length+v.Site.Stores.length+v.Site.Belts.length+v.Site.Queues.length+v.Site.Streams.length+v.Site.Tallies.length+v.Site.Levels.length+v.Site.Counts.length+v.Site.Routines.length≤80)
theorem Ack(s:Ab):W7 s (Ef s):=by
 unfold W7 Ef
 have h0:s.Vars.length≤C4 F1 s.Vars:=E9 fun x=>by unfold F1;omega
 have h1:s.Resources.length≤C4 C3 s.Resources:=E9 fun x=>by unfold C3;omega
 have h2:s.Stores.length≤C4 Dv s.Stores:=E9 fun x=>by unfold Dv;omega
 have h3:s.Belts.length≤C4 Ee s.Belts:=E9 fun x=>by unfold Ee;omega
 have h4:s.Queues.length≤C4 (fun z:ByteArray=>z.size+1) s.Queues:=E9 fun x=>by omega
 have h5:s.Streams.length≤C4 (fun z:ByteArray=>z.size+1) s.Streams:=E9 fun x=>by omega
 have h6:s.Tallies.length≤C4 (fun z:ByteArray=>z.size+1) s.Tallies:=E9 fun x=>by omega
 have h7:s.Levels.length≤C4 (fun z:ByteArray=>z.size+1) s.Levels:=E9 fun x=>by omega
 have h8:s.Counts.length≤C4 (fun z:ByteArray=>z.size+1) s.Counts:=E9 fun x=>by omega
 have h9:s.Routines.length≤C4 E5 s.Routines:=E9 fun x=>by unfold E5;omega
 refine ⟨?_,?_,?_,?_,?_,?_,?_,?_,?_,?_⟩<;>omega
theorem W7.mono{s:Ab}{m n:Nat}(h:W7 s m)(hm:m≤n):W7 s n:=by
 obtain ⟨h0,h1,h2,h3,h4,h5,h6,h7,h8,h9⟩:=h
 exact ⟨by omega,by omega,by omega,by omega,by omega,by omega,by omega,by omega,by omega,by omega⟩
theorem Xf(L:Nat)(v:Ae)(hb:Hj v≤1048576):Kq L v=some (f7 v):=by
 unfold Hj at hb
 obtain ⟨h0,h1,h2,h3,h4,h5,h6,h7,h8,h9⟩:=(Ack v.Site).mono (show Ef v.Site≤1048576 by omega)
 have hw:∀n:Nat,n≤1048576000→Mu (n:Int)=(n:Int):=fun n hn=>m6 (by omega) (by omega)
 simp only [Mz,Kq,aN,aB,Jo,f7]
 have e:∀a b:Nat,(a:Int)+(b:Int)=((a+b:Nat):Int):=fun a b=>by omega
 simp only [e]
 repeat (first|rw [hw _ (by omega)]|rw [e])
 congr 2
 ·congr 1<;>exact decide_eq_decide.2 (by omega)
 ·exact decide_eq_decide.2 (by omega)
end Go.Proofs.YtmimkinjcfekmaaGreat.Ev
