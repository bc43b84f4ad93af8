/-  Chapter 14, plainly: the types of expressions, in the program and in the reference. -/
import Derived.Test.YtfencmicmnhglaaGreatQA
import Derived.Test.YtfencmicmnhglaaGreatR1
import Derived.Test.YtfencmicmnhglaaGreatPE
namespace Go.Proofs.YtfencmicmnhglaaGreat.Ev
open Go An
set_option maxRecDepth 100000
set_option linter.unusedVariables false
set_option linter.unusedSimpArgs false
set_option linter.unnecessarySimpa false
def Bxp(op:Int):Int:=if op=1 then 1 else if op=2 then 2 else if op=4 then 3 else 0
def Bhb(op:Int):List Int→Int
 | [a]=>unT op a
 | [a,b]=>Bjj op a b
 |_=>Bxp op
def A64(v:Ar)(op:Int)(nm:ByteArray)(kids:List Int):Int×Int:=
 if op=3 then match A6e v nm with
  |some t=>(t,0)
  |none=>(0,5)
 else if 22≤op then if Bxw op (Hi v.Site nm)=true then (1,0) else (0,5)
 else if Bhb op kids=0 then (0,10) else (Bhb op kids,0)
mutual
def tyE(v:Ar):Ab→Int×Int
 | .mk op nm _ k=>if (tyL v k).2≠0 then (0,(tyL v k).2) else A64 v op nm (tyL v k).1
def tyL(v:Ar):List Ab→List Int×Int
 | []=>([],0)
 |x::k=>if (tyE v x).2≠0 then ([],(tyE v x).2) else if (tyL v k).2≠0 then ([],(tyL v k).2) else ((tyE v x).1::(tyL v k).1,0)
end
def Ane(v:Ar)(e:Ab):Int×Int:=if F9 false e≠0 then (0,F9 false e) else tyE v e
theorem Bse(v:Ar):∀k:List Ab,(tyL v k).2=0→(tyL v k).1.length=k.length:=by
 intro k
 induction k with
 |nil=>intro _;rw [tyL];rfl
 |cons x k ih=>
  rw [tyL]
  intro h
  split at h
  ·contradiction
  ·split at h
   ·contradiction
   ·rename_i h1 h2
    have h2:(tyL v k).2=0:=Decidable.not_not.1 h2
    rw [if_neg h1,if_neg (by simp [h2])]
    simp [ih h2]
theorem Bfm{c:Bool}{op:Int}{nm:ByteArray}{n:Int}{k:List Ab}(h:Anc c (.mk op nm n k)=0):Axy c (.mk op nm n k)=0∧Arz c k=0:=by
 rw [Anc] at h
 split at h
 ·contradiction
 ·rename_i h1;exact ⟨Decidable.not_not.1 h1,h⟩
theorem Bfl{c:Bool} :∀ {k:List Ab},Arz c k=0→∀x∈k,Anc c x=0:=by
 intro k
 induction k with
 |nil=>intro _ x hx;cases hx
 |cons y k ih=>
  intro h x hx
  rw [Arz] at h
  split at h
  ·contradiction
  ·rename_i h1
   rcases List.mem_cons.1 hx with rfl|hx
   ·exact Decidable.not_not.1 h1
   ·exact ih h x hx
theorem Bho{op:Int}{nm:ByteArray}{n:Int}{k:List Ab}(h:Axy false (.mk op nm n k)=0):(k.length:Int)=Ad2 op∧1≤op∧op≤24:=by
 have h1:Atj false (.mk op nm n k)=false:=by
  cases hb:Atj false (.mk op nm n k) with
  |false=>rfl
  |true=>unfold Axy at h;rw [if_pos hb] at h;cases h
 unfold Atj at h1
 simp only [Ab.cp_eq,Ab.Op,Ab.Name,Ab.N,Ab.Kids,Ab.eta,Bool.or_eq_false_iff,decide_eq_false_iff_not,Decidable.not_not,Bool.not_eq_false'] at h1
 obtain ⟨⟨h2,h3⟩,_⟩:=h1
 refine ⟨Decidable.not_not.1 (of_decide_eq_false h3),?_⟩
 unfold Apt at h2
 by_cases h3:op=3
 ·omega
 ·rw [if_neg h3] at h2
  by_cases h4:op=25∨op=26
  ·rw [if_pos h4] at h2;cases h2
  ·rw [if_neg h4] at h2
   have h5:=of_decide_eq_true h2
   unfold Ad2 at h5
   grind
theorem Bfe(op:Int):Ad2 op≤2:=by unfold Ad2;grind
theorem A3r(Bid:Ar→Ab→Option (Int×Int))(L:Nat)(a1:Ab)(v:Ar):∀(k:List Ab) (i:Nat) (v0 v1:Int) (acc:List Int),acc.length+k.length≤1099511627776→(∀x∈k,Bid v x=some (tyE v x))→
  ∃j acc',I8 Bid L a1 v k i v0 v1 acc=some (if (tyL v k).2≠0 then (0,(0,(tyL v k).2,acc',j)) else (1,(v0,v1,acc++(tyL v k).1,j))):=by
 intro k
 induction k with
 |nil=>intro i v0 v1 acc _ _;exact ⟨i,acc,by rw [I8,tyL];simp⟩
 |cons x k ih=>
  intro i v0 v1 acc hlen h
  rw [List.length_cons] at hlen
  obtain ⟨j,acc',hj⟩:=ih (i+1) v0 v1 (acc++ [(tyE v x).1]) (by simp only [List.length_append,List.length_cons,List.length_nil];omega) fun y hy=>h y (by simp [hy])
  have hM:=Bd
  rw [I8,h x (by simp),Option.bind_some,tyL]
  simp only [List.length_cons,List.length_nil]
  by_cases hx:(tyE v x).2=0
  ·refine ⟨j,acc',?_⟩
   rw [ifp (show (acc.length+(0+1))*8≤140737488355328 by omega),ifp (show acc.length+(0+1)≤maxLen by omega),hj]
   by_cases hk:(tyL v k).2=0<;>simp [hx,hk]
  ·refine ⟨i,acc,?_⟩
   simp [hx,Uy hx]
theorem A91(Bid:Ar→Ab→Option (Int×Int))(L:Nat)(a1:Ab)(v:Ar):∀(k:List Ab) (i:Nat) (v0 v1:Int) (acc:List Int),acc.length+k.length≤1099511627776→(∀x∈k,Bid v x=some (tyE v x))→
  ∃j acc',Mb Bid L v a1 k i v0 v1 acc=some (if (tyL v k).2≠0 then (0,(0,(tyL v k).2,acc',j)) else (1,(v0,v1,acc++(tyL v k).1,j))):=by
 intro k
 induction k with
 |nil=>intro i v0 v1 acc _ _;exact ⟨i,acc,by rw [Mb,tyL];simp⟩
 |cons x k ih=>
  intro i v0 v1 acc hlen h
  rw [List.length_cons] at hlen
  obtain ⟨j,acc',hj⟩:=ih (i+1) v0 v1 (acc++ [(tyE v x).1]) (by simp only [List.length_append,List.length_cons,List.length_nil];omega) fun y hy=>h y (by simp [hy])
  have hM:=Bd
  rw [Mb,h x (by simp),Option.bind_some,tyL]
  simp only [List.length_cons,List.length_nil]
  by_cases hx:(tyE v x).2=0
  ·refine ⟨j,acc',?_⟩
   rw [ifp (show (acc.length+(0+1))*8≤140737488355328 by omega),ifp (show acc.length+(0+1)≤maxLen by omega),hj]
   by_cases hk:(tyL v k).2=0<;>simp [hx,hk]
  ·refine ⟨i,acc,?_⟩
   simp [hx,Uy hx]
theorem Bbz{l:List Int}(h:l.length≤2):l= []∨(∃a,l= [a])∨∃a b,l= [a,b]:=by
 match l,h with
 | [],_=>exact .inl rfl
 | [a],_=>exact .inr (.inl ⟨a,rfl⟩)
 | [a,b],_=>exact .inr (.inr ⟨a,b,rfl⟩)
theorem A7g{e:Ab}(h:B1 e)(v:Ar)(hv:Ep v):∀L,maxLen+dE e < L→Anc false e=0→Lj L v e=some (tyE v e):=by
 induction h with
 |mk a0 a1 a2 a3 h0 h1 h2 h3 h4 ih=>
  intro L hL hc
  obtain ⟨L,rfl⟩:∃k,L=k+1:=⟨L - 1,by omega⟩
  rw [dE] at hL
  obtain ⟨hn,hk⟩:=Bfm hc
  have hr:∀x∈a3,Lj L v x=some (tyE v x):=fun x hx=>ih x hx L (by have:=Ala hx;omega) (Bfl hk x hx)
  obtain ⟨ha,hop1,hop2⟩:=Bho hn
  have ha2:=Bfe a0
  have h5:a3.length≤2:=by omega
  obtain ⟨j,acc',hj⟩:=A3r (Lj L) L (.mk a0 a1 a2 a3) v a3 0 0 0 [] (by simp;omega) hr
  have hM:=Bd
  simp only [Aud,Uc,Alt,Lj,Uc,aN,aB,Ab.cp_eq,Ab.Op,Ab.Name,Ab.N,Ab.Kids,Ab.eta,Axw _ _ (.mk a0 a1 a2 a3) _ L h3 (show a3.length < L by omega),hj,Option.bind_some,tyE]
  by_cases hz:(tyL v a3).2=0
  ·have hlen:=Bse v a3 hz
   simp only [hz,ne_eq,not_true_eq_false,if_false,Qo,List.nil_append,A7f L v a1 hv (by omega),Aum L _ a1 hv.2.2.len (by omega),Az8,A3g,Az7,Option.bind_some,A64]
   generalize (tyL v a3).1=l at hlen ⊢
   by_cases e3:a0=3
   ·subst e3;cases A6e v a1<;>rfl
   have b3:(a0 == 3)=false:=beq_false_of_ne e3
   by_cases e22:a0≥22
   ·simp only [e3,e22,b3,cond_false,if_false,decide_true,cond_true,if_true,ge_iff_le]
    cases Bxw a0 (Hi v.Site a1)<;>rfl
   simp only [e3,e22,b3,cond_false,if_false,decide_false]
   rcases Bbz (show l.length≤2 by omega) with rfl|⟨a,rfl⟩|⟨a,b,rfl⟩
   ·simp only [Bhb,Bxp,List.length_nil]
    by_cases e1:a0=1
    ·subst e1;rfl
    by_cases e2:a0=2
    ·subst e2;rfl
    by_cases e4:a0=4
    ·subst e4;rfl
    simp [e1,e2,e4,beq_false_of_ne e1,beq_false_of_ne e2,beq_false_of_ne e4]
   ·simp only [Bhb]
    by_cases hu:unT a0 a=0<;>first|(simp [hu];done)|simp [hu,beq_false_of_ne hu]
   ·simp only [Bhb]
    by_cases hu:Bjj a0 a b=0<;>first|(simp [hu];done)|simp [hu,beq_false_of_ne hu]
  ·simp [hz,Hb]
theorem A7e{e:Ab}(h:B1 e)(v:Ar)(hv:Ep v)(L:Nat)(hL:maxLen+dE e < L):Afw L v e=some (Ane v e):=by
 simp only [Al5,Afw,aN,aB,Ab.cp_eq,Agf h L hL,Option.bind_some,Ane]
 by_cases hc:F9 false e=0
 ·have hc':Anc false e=0:=by
   unfold F9 at hc
   split at hc
   ·cases hc
   ·split at hc
    ·cases hc
    ·exact hc
  simp [hc,A7g h v hv L hL hc']
 ·simp [hc,Uy hc]
theorem Bh2(L:Nat)(v:Ar)(e:Ab)(hv:Ep v)(hs:Wu v.Site 1099511627776)(hL:maxLen < L)(h1:1≤e.Op)(h2:e.Op≤24)(ha:Ad2 e.Op=0):Ajk L v e=some (A64 v e.Op e.Name []):=by
 simp only [Au7,Ajk,aN,aB,Aln L _ e.Name hs hL,Bh0 L v e.Name hv hL,Ea,Option.bind_some,A64,Bhb,Bxp,Bxw,H4,I2,Tl]
 generalize e.Op=op at h1 h2 ha ⊢
 rcases A4i op with rfl|rfl|rfl|rfl|rfl|rfl|rfl|rfl|rfl|rfl|rfl|rfl|rfl|rfl|rfl|rfl|rfl|rfl|rfl|rfl|rfl|rfl|rfl|rfl|rfl|rfl|hop|hop
 all_goals first|(exfalso;revert ha;decide)|(exfalso;omega)|skip
 ·rfl
 ·rfl
 ·cases A6e v e.Name<;>rfl
 ·rfl
 ·by_cases h:Hi v.Site e.Name=⟨#[114,101,115,111,117,114,99,101]⟩<;>simp [h]
 ·by_cases h:Hi v.Site e.Name=⟨#[115,116,111,114,101]⟩<;>simp [h]
 ·by_cases h:Hi v.Site e.Name=⟨#[114,101,115,111,117,114,99,101]⟩
  ·simp [h]
  ·by_cases h':Hi v.Site e.Name=⟨#[113,117,101,117,101]⟩<;>simp [h,h']
theorem Bea{e:Ab}(h:B1 e)(v:Ar)(hv:Ep v)(hs:Wu v.Site 1099511627776):∀L,maxLen+dE e < L→Anc false e=0→Rg L v e=some (tyE v e):=by
 induction h with
 |mk a0 a1 a2 a3 h0 h1 h2 h3 h4 ih=>
  intro L hL hc
  obtain ⟨L,rfl⟩:∃k,L=k+1:=⟨L - 1,by omega⟩
  rw [dE] at hL
  obtain ⟨hn,hk⟩:=Bfm hc
  have hr:∀x∈a3,Rg L v x=some (tyE v x):=fun x hx=>ih x hx L (by have:=Ala hx;omega) (Bfl hk x hx)
  obtain ⟨ha,hop1,hop2⟩:=Bho hn
  have ha2:=Bfe a0
  have h5:a3.length≤2:=by omega
  obtain ⟨j,acc',hj⟩:=A91 (Rg L) L (.mk a0 a1 a2 a3) v a3 0 0 0 [] (by simp;omega) hr
  have hM:=Bd
  simp only [A1c,X2,Aq3,Rg,X2,aN,aB,Ab.cp_eq,Ab.Op,Ab.Name,Ab.N,Ab.Kids,Ab.eta,A25 _ _ _ (.mk a0 a1 a2 a3) L h3 (show a3.length < L by omega),hj,Option.bind_some,tyE]
  by_cases hz:(tyL v a3).2=0
  ·have hlen:=Bse v a3 hz
   simp only [hz,ne_eq,not_true_eq_false,if_false,Qo,List.nil_append,Beb,A87,Option.bind_some]
   have hlf:(a3.length:Int)=0→Ajk L v (Ab.mk a0 a1 a2 a3)=some (A64 v a0 a1 []):=fun hz=>Bh2 L v (.mk a0 a1 a2 a3) hv hs (by omega) hop1 hop2 (by simp only [Ab.cp_eq,Ab.Op,Ab.Name,Ab.N,Ab.Kids,Ab.eta];omega)
   generalize (tyL v a3).1=l at hlen ⊢
   rcases Bbz (show l.length≤2 by omega) with rfl|⟨a,rfl⟩|⟨a,b,rfl⟩
   ·rw [hlf (by simp at hlen;omega)]
    rfl
   ·simp only [List.length_cons,List.length_nil] at hlen
    have hn3:¬a0=3:=by rintro rfl;revert ha;simp only [←hlen];decide
    have hn22:¬22≤a0:=by
     intro hh
     have:Ad2 a0=0:=by unfold Ad2;grind
     omega
    simp only [A64,hn3,hn22,Bhb,if_false]
    by_cases hu:unT a0 a=0<;>first|(simp [hu];done)|simp [hu,beq_false_of_ne hu]
   ·simp only [List.length_cons,List.length_nil] at hlen
    have hn3:¬a0=3:=by rintro rfl;revert ha;simp only [←hlen];decide
    have hn22:¬22≤a0:=by
     intro hh
     have:Ad2 a0=0:=by unfold Ad2;grind
     omega
    simp only [A64,hn3,hn22,Bhb,if_false]
    by_cases hu:Bjj a0 a b=0<;>first|(simp [hu];done)|simp [hu,beq_false_of_ne hu]
  ·simp [hz,Hb]
theorem Bs5{e:Ab}(hc:F9 false e=0):Anc false e=0:=by
 unfold F9 at hc
 split at hc
 ·cases hc
 ·split at hc
  ·cases hc
  ·exact hc
theorem Bhz{e:Ab}(h:B1 e)(v:Ar)(hv:Ep v)(hs:Wu v.Site 1099511627776)(L:Nat)(hL:maxLen+dE e < L):Aot L v e=some (Ane v e):=by
 simp only [Au5,Aot,aN,aB,Ab.cp_eq,Ai3 h L hL,Option.bind_some,Ane]
 by_cases hc:F9 false e=0
 ·simp [hc,Bea h v hv hs L hL (Bs5 hc)]
 ·simp [hc,Uy hc]
theorem A6i(s:Aa):Wu s (Df s):=by
 unfold Wu Df
 have h0:s.Vars.length≤Dl Ji s.Vars:=Jb fun x=>by unfold Ji;omega
 have h1:s.Resources.length≤Dl Du s.Resources:=Jb fun x=>by unfold Du;omega
 have h2:s.Stores.length≤Dl I1 s.Stores:=Jb fun x=>by unfold I1;omega
 have h3:s.Belts.length≤Dl J3 s.Belts:=Jb fun x=>by unfold J3;omega
 have h4:s.Queues.length≤Dl (fun z:ByteArray=>z.size+1) s.Queues:=Jb fun x=>by omega
 have h5:s.Streams.length≤Dl (fun z:ByteArray=>z.size+1) s.Streams:=Jb fun x=>by omega
 have h6:s.Tallies.length≤Dl (fun z:ByteArray=>z.size+1) s.Tallies:=Jb fun x=>by omega
 have h7:s.Levels.length≤Dl (fun z:ByteArray=>z.size+1) s.Levels:=Jb fun x=>by omega
 have h8:s.Counts.length≤Dl (fun z:ByteArray=>z.size+1) s.Counts:=Jb fun x=>by omega
 have h9:s.Routines.length≤Dl C7 s.Routines:=Jb fun x=>by unfold C7;omega
 refine ⟨?_,?_,?_,?_,?_,?_,?_,?_,?_,?_⟩<;>omega
theorem Wu.mono{s:Aa}{m n:Nat}(h:Wu s m)(hm:m≤n):Wu s n:=by
 obtain ⟨h0,h1,h2,h3,h4,h5,h6,h7,h8,h9⟩:=h
 exact ⟨by omega,by omega,by omega,by omega,by omega,by omega,by omega,by omega,by omega,by omega⟩
mutual
theorem Bmc:∀e:Ab,dE e≤Cs e
 | .mk a b c k=>by
  rw [dE,Cs]
  have:=Bvd k
  omega
theorem Bvd:∀k:List Ab,dEs k≤Uo k
 | []=>by simp [dEs]
 |x::k=>by
  rw [dEs,Uo]
  have:=Bmc x
  have:=Bvd k
  omega
end
end Go.Proofs.YtfencmicmnhglaaGreat.Ev
