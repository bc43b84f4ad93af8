/-  Chapter 14, plainly: the types of expressions, in the program and in the reference. -/
import Derived.Test.YtofcpkmnhmnfcaaGreatRQA
import Derived.Test.YtofcpkmnhmnfcaaGreatRR0
import Derived.Test.YtofcpkmnhmnfcaaGreatRPE
namespace Go.Proofs.YtofcpkmnhmnfcaaGreatR.Ev
open Go An
set_option maxRecDepth 100000
set_option linter.unusedVariables false
set_option linter.unusedSimpArgs false
set_option linter.unnecessarySimpa false
def Bxr(op:Int):Int:=if op=1 then 1 else if op=2 then 2 else if op=4 then 3 else 0
def Bg5(op:Int):List Int→Int
 | [a]=>unT op a
 | [a,b]=>Bjo op a b
 |_=>Bxr op
def A8j(v:Aq)(op:Int)(nm:ByteArray)(kids:List Int):Int×Int:=
 if op=3 then match A7o v nm with
  |some t=>(t,0)
  |none=>(0,5)
 else if 22≤op then if Bxx op (Hf v.Site nm)=true then (1,0) else (0,5)
 else if Bg5 op kids=0 then (0,10) else (Bg5 op kids,0)
mutual
def tyE(v:Aq):Ab→Int×Int
 | .mk op nm _ k=>if (tyL v k).2≠0 then (0,(tyL v k).2) else A8j v op nm (tyL v k).1
def tyL(v:Aq):List Ab→List Int×Int
 | []=>([],0)
 |x::k=>if (tyE v x).2≠0 then ([],(tyE v x).2) else if (tyL v k).2≠0 then ([],(tyL v k).2) else ((tyE v x).1::(tyL v k).1,0)
end
def Apl(v:Aq)(e:Ab):Int×Int:=if F8 false e≠0 then (0,F8 false e) else tyE v e
theorem Brp(v:Aq):∀k:List Ab,(tyL v k).2=0→(tyL v k).1.length=k.length:=by
 intro k
 induction k with
 |nil=>intro _;rw [tyL];rfl
 |cons x k ih=>
  rw [tyL]
  intro h
  split at h
  ·contradiction
  ·split at h
   ·contradiction
   ·rename_i h1 h2
    have h2:(tyL v k).2=0:=Decidable.not_not.1 h2
    rw [if_neg h1,if_neg (by simp [h2])]
    simp [ih h2]
theorem Bfw{c:Bool}{op:Int}{nm:ByteArray}{n:Int}{k:List Ab}(h:Apk c (.mk op nm n k)=0):Azp c (.mk op nm n k)=0∧Aua c k=0:=by
 rw [Apk] at h
 split at h
 ·contradiction
 ·rename_i h1;exact ⟨Decidable.not_not.1 h1,h⟩
theorem Bfv{c:Bool} :∀ {k:List Ab},Aua c k=0→∀x∈k,Apk c x=0:=by
 intro k
 induction k with
 |nil=>intro _ x hx;cases hx
 |cons y k ih=>
  intro h x hx
  rw [Aua] at h
  split at h
  ·contradiction
  ·rename_i h1
   rcases List.mem_cons.1 hx with rfl|hx
   ·exact Decidable.not_not.1 h1
   ·exact ih h x hx
theorem Bhj{op:Int}{nm:ByteArray}{n:Int}{k:List Ab}(h:Azp false (.mk op nm n k)=0):(k.length:Int)=Afx op∧1≤op∧op≤24:=by
 have h1:Au6 false (.mk op nm n k)=false:=by
  cases hb:Au6 false (.mk op nm n k) with
  |false=>rfl
  |true=>unfold Azp at h;rw [if_pos hb] at h;cases h
 unfold Au6 at h1
 simp only [Ab.cp_eq,Ab.Op,Ab.Name,Ab.N,Ab.Kids,Ab.eta,Bool.or_eq_false_iff,decide_eq_false_iff_not,Decidable.not_not,Bool.not_eq_false'] at h1
 obtain ⟨⟨h2,h3⟩,_⟩:=h1
 refine ⟨Decidable.not_not.1 (of_decide_eq_false h3),?_⟩
 unfold Aro at h2
 by_cases h3:op=3
 ·omega
 ·rw [if_neg h3] at h2
  by_cases h4:op=25∨op=26
  ·rw [if_pos h4] at h2;cases h2
  ·rw [if_neg h4] at h2
   have h5:=of_decide_eq_true h2
   unfold Afx at h5
   grind
theorem Bfp(op:Int):Afx op≤2:=by unfold Afx;grind
theorem A46(Bid:Aq→Ab→Option (Int×Int))(L:Nat)(a1:Ab)(v:Aq):∀(k:List Ab) (i:Nat) (v0 v1:Int) (acc:List Int),acc.length+k.length≤1099511627776→(∀x∈k,Bid v x=some (tyE v x))→
  ∃j acc',Jg Bid L a1 v k i v0 v1 acc=some (if (tyL v k).2≠0 then (0,(0,(tyL v k).2,acc',j)) else (1,(v0,v1,acc++(tyL v k).1,j))):=by
 intro k
 induction k with
 |nil=>intro i v0 v1 acc _ _;exact ⟨i,acc,by rw [Jg,tyL];simp⟩
 |cons x k ih=>
  intro i v0 v1 acc hlen h
  rw [List.length_cons] at hlen
  obtain ⟨j,acc',hj⟩:=ih (i+1) v0 v1 (acc++ [(tyE v x).1]) (by simp only [List.length_append,List.length_cons,List.length_nil];omega) fun y hy=>h y (by simp [hy])
  have hM:=Bb
  rw [Jg,h x (by simp),Option.bind_some,tyL]
  simp only [List.length_cons,List.length_nil]
  by_cases hx:(tyE v x).2=0
  ·refine ⟨j,acc',?_⟩
   rw [ifp (show (acc.length+(0+1))*8≤140737488355328 by omega),ifp (show acc.length+(0+1)≤maxLen by omega),hj]
   by_cases hk:(tyL v k).2=0<;>simp [hx,hk]
  ·refine ⟨i,acc,?_⟩
   simp [hx,Wl hx]
theorem Ba2(Bid:Aq→Ab→Option (Int×Int))(L:Nat)(a1:Ab)(v:Aq):∀(k:List Ab) (i:Nat) (v0 v1:Int) (acc:List Int),acc.length+k.length≤1099511627776→(∀x∈k,Bid v x=some (tyE v x))→
  ∃j acc',Mw Bid L v a1 k i v0 v1 acc=some (if (tyL v k).2≠0 then (0,(0,(tyL v k).2,acc',j)) else (1,(v0,v1,acc++(tyL v k).1,j))):=by
 intro k
 induction k with
 |nil=>intro i v0 v1 acc _ _;exact ⟨i,acc,by rw [Mw,tyL];simp⟩
 |cons x k ih=>
  intro i v0 v1 acc hlen h
  rw [List.length_cons] at hlen
  obtain ⟨j,acc',hj⟩:=ih (i+1) v0 v1 (acc++ [(tyE v x).1]) (by simp only [List.length_append,List.length_cons,List.length_nil];omega) fun y hy=>h y (by simp [hy])
  have hM:=Bb
  rw [Mw,h x (by simp),Option.bind_some,tyL]
  simp only [List.length_cons,List.length_nil]
  by_cases hx:(tyE v x).2=0
  ·refine ⟨j,acc',?_⟩
   rw [ifp (show (acc.length+(0+1))*8≤140737488355328 by omega),ifp (show acc.length+(0+1)≤maxLen by omega),hj]
   by_cases hk:(tyL v k).2=0<;>simp [hx,hk]
  ·refine ⟨i,acc,?_⟩
   simp [hx,Wl hx]
theorem Bcm{l:List Int}(h:l.length≤2):l= []∨(∃a,l= [a])∨∃a b,l= [a,b]:=by
 match l,h with
 | [],_=>exact .inl rfl
 | [a],_=>exact .inr (.inl ⟨a,rfl⟩)
 | [a,b],_=>exact .inr (.inr ⟨a,b,rfl⟩)
theorem A8u{e:Ab}(h:Bv e)(v:Aq)(hv:Ei v):∀L,maxLen+dE e < L→Apk false e=0→L2 L v e=some (tyE v e):=by
 induction h with
 |mk a0 a1 a2 a3 h0 h1 h2 h3 h4 ih=>
  intro L hL hc
  obtain ⟨L,rfl⟩:∃k,L=k+1:=⟨L - 1,by omega⟩
  rw [dE] at hL
  obtain ⟨hn,hk⟩:=Bfw hc
  have hr:∀x∈a3,L2 L v x=some (tyE v x):=fun x hx=>ih x hx L (by have:=Ak9 hx;omega) (Bfv hk x hx)
  obtain ⟨ha,hop1,hop2⟩:=Bhj hn
  have ha2:=Bfp a0
  have h5:a3.length≤2:=by omega
  obtain ⟨j,acc',hj⟩:=A46 (L2 L) L (.mk a0 a1 a2 a3) v a3 0 0 0 [] (by simp;omega) hr
  have hM:=Bb
  simp only [Av5,Vm,An4,L2,Vm,aN,aB,Ab.cp_eq,Ab.Op,Ab.Name,Ab.N,Ab.Kids,Ab.eta,Azn _ _ (.mk a0 a1 a2 a3) _ L h3 (show a3.length < L by omega),hj,Option.bind_some,tyE]
  by_cases hz:(tyL v a3).2=0
  ·have hlen:=Brp v a3 hz
   simp only [hz,ne_eq,not_true_eq_false,if_false,Kx,List.nil_append,A8t L v a1 hv (by omega),Awd L _ a1 hv.2.2.len (by omega),A1z,A4v,A1y,Option.bind_some,A8j]
   generalize (tyL v a3).1=l at hlen ⊢
   by_cases e3:a0=3
   ·subst e3;cases A7o v a1<;>rfl
   have b3:(a0 == 3)=false:=beq_false_of_ne e3
   by_cases e22:a0≥22
   ·simp only [e3,e22,b3,cond_false,if_false,decide_true,cond_true,if_true,ge_iff_le]
    cases Bxx a0 (Hf v.Site a1)<;>rfl
   simp only [e3,e22,b3,cond_false,if_false,decide_false]
   rcases Bcm (show l.length≤2 by omega) with rfl|⟨a,rfl⟩|⟨a,b,rfl⟩
   ·simp only [Bg5,Bxr,List.length_nil]
    by_cases e1:a0=1
    ·subst e1;rfl
    by_cases e2:a0=2
    ·subst e2;rfl
    by_cases e4:a0=4
    ·subst e4;rfl
    simp [e1,e2,e4,beq_false_of_ne e1,beq_false_of_ne e2,beq_false_of_ne e4]
   ·simp only [Bg5]
    by_cases hu:unT a0 a=0<;>first|(simp [hu];done)|simp [hu,beq_false_of_ne hu]
   ·simp only [Bg5]
    by_cases hu:Bjo a0 a b=0<;>first|(simp [hu];done)|simp [hu,beq_false_of_ne hu]
  ·simp [hz,Gm]
theorem A8s{e:Ab}(h:Bv e)(v:Aq)(hv:Ei v)(L:Nat)(hL:maxLen+dE e < L):Ahx L v e=some (Apl v e):=by
 simp only [Aoe,Ahx,aN,aB,Ab.cp_eq,Aih h L hL,Option.bind_some,Apl]
 by_cases hc:F8 false e=0
 ·have hc':Apk false e=0:=by
   unfold F8 at hc
   split at hc
   ·cases hc
   ·split at hc
    ·cases hc
    ·exact hc
  simp [hc,A8u h v hv L hL hc']
 ·simp [hc,Wl hc]
theorem Bhy(L:Nat)(v:Aq)(e:Ab)(hv:Ei v)(hs:Ys v.Site 1099511627776)(hL:maxLen < L)(h1:1≤e.Op)(h2:e.Op≤24)(ha:Afx e.Op=0):Aly L v e=some (A8j v e.Op e.Name []):=by
 simp only [Aw1,Aly,aN,aB,Anx L _ e.Name hs hL,Bhw L v e.Name hv hL,D0,Option.bind_some,A8j,Bg5,Bxr,Bxx,H8,Ja,Uw]
 generalize e.Op=op at h1 h2 ha ⊢
 rcases A5y op with rfl|rfl|rfl|rfl|rfl|rfl|rfl|rfl|rfl|rfl|rfl|rfl|rfl|rfl|rfl|rfl|rfl|rfl|rfl|rfl|rfl|rfl|rfl|rfl|rfl|rfl|hop|hop
 all_goals first|(exfalso;revert ha;decide)|(exfalso;omega)|skip
 ·rfl
 ·rfl
 ·cases A7o v e.Name<;>rfl
 ·rfl
 ·by_cases h:Hf v.Site e.Name=⟨#[114,101,115,111,117,114,99,101]⟩<;>simp [h]
 ·by_cases h:Hf v.Site e.Name=⟨#[115,116,111,114,101]⟩<;>simp [h]
 ·by_cases h:Hf v.Site e.Name=⟨#[114,101,115,111,117,114,99,101]⟩
  ·simp [h]
  ·by_cases h':Hf v.Site e.Name=⟨#[113,117,101,117,101]⟩<;>simp [h,h']
theorem Beh{e:Ab}(h:Bv e)(v:Aq)(hv:Ei v)(hs:Ys v.Site 1099511627776):∀L,maxLen+dE e < L→Apk false e=0→Si L v e=some (tyE v e):=by
 induction h with
 |mk a0 a1 a2 a3 h0 h1 h2 h3 h4 ih=>
  intro L hL hc
  obtain ⟨L,rfl⟩:∃k,L=k+1:=⟨L - 1,by omega⟩
  rw [dE] at hL
  obtain ⟨hn,hk⟩:=Bfw hc
  have hr:∀x∈a3,Si L v x=some (tyE v x):=fun x hx=>ih x hx L (by have:=Ak9 hx;omega) (Bfv hk x hx)
  obtain ⟨ha,hop1,hop2⟩:=Bhj hn
  have ha2:=Bfp a0
  have h5:a3.length≤2:=by omega
  obtain ⟨j,acc',hj⟩:=Ba2 (Si L) L (.mk a0 a1 a2 a3) v a3 0 0 0 [] (by simp;omega) hr
  have hM:=Bb
  simp only [A20,Z2,As7,Si,Z2,aN,aB,Ab.cp_eq,Ab.Op,Ab.Name,Ab.N,Ab.Kids,Ab.eta,A4k _ _ _ (.mk a0 a1 a2 a3) L h3 (show a3.length < L by omega),hj,Option.bind_some,tyE]
  by_cases hz:(tyL v a3).2=0
  ·have hlen:=Brp v a3 hz
   simp only [hz,ne_eq,not_true_eq_false,if_false,Kx,List.nil_append,Bei,A99,Option.bind_some]
   have hlf:(a3.length:Int)=0→Aly L v (Ab.mk a0 a1 a2 a3)=some (A8j v a0 a1 []):=fun hz=>Bhy L v (.mk a0 a1 a2 a3) hv hs (by omega) hop1 hop2 (by simp only [Ab.cp_eq,Ab.Op,Ab.Name,Ab.N,Ab.Kids,Ab.eta];omega)
   generalize (tyL v a3).1=l at hlen ⊢
   rcases Bcm (show l.length≤2 by omega) with rfl|⟨a,rfl⟩|⟨a,b,rfl⟩
   ·rw [hlf (by simp at hlen;omega)]
    rfl
   ·simp only [List.length_cons,List.length_nil] at hlen
    have hn3:¬a0=3:=by rintro rfl;revert ha;simp only [←hlen];decide
    have hn22:¬22≤a0:=by
     intro hh
     have:Afx a0=0:=by unfold Afx;grind
     omega
    simp only [A8j,hn3,hn22,Bg5,if_false]
    by_cases hu:unT a0 a=0<;>first|(simp [hu];done)|simp [hu,beq_false_of_ne hu]
   ·simp only [List.length_cons,List.length_nil] at hlen
    have hn3:¬a0=3:=by rintro rfl;revert ha;simp only [←hlen];decide
    have hn22:¬22≤a0:=by
     intro hh
     have:Afx a0=0:=by unfold Afx;grind
     omega
    simp only [A8j,hn3,hn22,Bg5,if_false]
    by_cases hu:Bjo a0 a b=0<;>first|(simp [hu];done)|simp [hu,beq_false_of_ne hu]
  ·simp [hz,Gm]
theorem Bso{e:Ab}(hc:F8 false e=0):Apk false e=0:=by
 unfold F8 at hc
 split at hc
 ·cases hc
 ·split at hc
  ·cases hc
  ·exact hc
theorem Bhv{e:Ab}(h:Bv e)(v:Aq)(hv:Ei v)(hs:Ys v.Site 1099511627776)(L:Nat)(hL:maxLen+dE e < L):Aqx L v e=some (Apl v e):=by
 simp only [Awz,Aqx,aN,aB,Ab.cp_eq,Alh h L hL,Option.bind_some,Apl]
 by_cases hc:F8 false e=0
 ·simp [hc,Beh h v hv hs L hL (Bso hc)]
 ·simp [hc,Wl hc]
theorem A7u(s:Aa):Ys s (Ec s):=by
 unfold Ys Ec
 have h0:s.Vars.length≤Hd Ha s.Vars:=Io fun x=>by unfold Ha;omega
 have h1:s.Resources.length≤Hd Gs s.Resources:=Io fun x=>by unfold Gs;omega
 have h2:s.Stores.length≤Hd Us s.Stores:=Io fun x=>by unfold Us;omega
 have h3:s.Belts.length≤Hd Wh s.Belts:=Io fun x=>by unfold Wh;omega
 have h4:s.Queues.length≤Hd (fun z:ByteArray=>z.size+1) s.Queues:=Io fun x=>by omega
 have h5:s.Streams.length≤Hd (fun z:ByteArray=>z.size+1) s.Streams:=Io fun x=>by omega
 have h6:s.Tallies.length≤Hd (fun z:ByteArray=>z.size+1) s.Tallies:=Io fun x=>by omega
 have h7:s.Levels.length≤Hd (fun z:ByteArray=>z.size+1) s.Levels:=Io fun x=>by omega
 have h8:s.Counts.length≤Hd (fun z:ByteArray=>z.size+1) s.Counts:=Io fun x=>by omega
 have h9:s.Routines.length≤Hd Dw s.Routines:=Io fun x=>by unfold Dw;omega
 refine ⟨?_,?_,?_,?_,?_,?_,?_,?_,?_,?_⟩<;>omega
theorem Ys.mono{s:Aa}{m n:Nat}(h:Ys s m)(hm:m≤n):Ys s n:=by
 obtain ⟨h0,h1,h2,h3,h4,h5,h6,h7,h8,h9⟩:=h
 exact ⟨by omega,by omega,by omega,by omega,by omega,by omega,by omega,by omega,by omega,by omega⟩
mutual
theorem A7f:∀e:Ab,dE e≤C0 e
 | .mk a b c k=>by
  rw [dE,C0]
  have:=Buz k
  omega
theorem Buz:∀k:List Ab,dEs k≤Vv k
 | []=>by simp [dEs]
 |x::k=>by
  rw [dEs,Vv]
  have:=A7f x
  have:=Buz k
  omega
end
end Go.Proofs.YtofcpkmnhmnfcaaGreatR.Ev
