/-  Chapter 14, plainly: the types of expressions, in the program and in the reference. -/
import Derived.Test.YtogleahbpobaiaaGreatQA
import Derived.Test.YtogleahbpobaiaaGreatR1
import Derived.Test.YtogleahbpobaiaaGreatPE
namespace Go.Proofs.YtogleahbpobaiaaGreat.Ev
open Go An
set_option maxRecDepth 100000
set_option linter.unusedVariables false
set_option linter.unusedSimpArgs false
set_option linter.unnecessarySimpa false
def Bsl(op:Int):Int:=if op=1 then 1 else if op=2 then 2 else if op=4 then 3 else 0
def Bd4(op:Int):List Int→Int
 | [a]=>unT op a
 | [a,b]=>Bgd op a b
 |_=>Bsl op
def A33(v:Aq)(op:Int)(nm:ByteArray)(kids:List Int):Int×Int:=
 if op=3 then match A3j v nm with
  |some t=>(t,0)
  |none=>(0,5)
 else if 22≤op then if Bsq op (Gf v.Site nm)=true then (1,0) else (0,5)
 else if Bd4 op kids=0 then (0,10) else (Bd4 op kids,0)
mutual
def tyE(v:Aq):Ab→Int×Int
 | .mk op nm _ k=>if (tyL v k).2≠0 then (0,(tyL v k).2) else A33 v op nm (tyL v k).1
def tyL(v:Aq):List Ab→List Int×Int
 | []=>([],0)
 |x::k=>if (tyE v x).2≠0 then ([],(tyE v x).2) else if (tyL v k).2≠0 then ([],(tyL v k).2) else ((tyE v x).1::(tyL v k).1,0)
end
def Alo(v:Aq)(e:Ab):Int×Int:=if E6 false e≠0 then (0,E6 false e) else tyE v e
theorem Bmz(v:Aq):∀k:List Ab,(tyL v k).2=0→(tyL v k).1.length=k.length:=by
 intro k
 induction k with
 |nil=>intro _;rw [tyL];rfl
 |cons x k ih=>
  rw [tyL]
  intro h
  split at h
  ·contradiction
  ·split at h
   ·contradiction
   ·rename_i h1 h2
    have h2:(tyL v k).2=0:=Decidable.not_not.1 h2
    rw [if_neg h1,if_neg (by simp [h2])]
    simp [ih h2]
theorem Bcm{c:Bool}{op:Int}{nm:ByteArray}{n:Int}{k:List Ab}(h:Alm c (.mk op nm n k)=0):Avy c (.mk op nm n k)=0∧Ap9 c k=0:=by
 rw [Alm] at h
 split at h
 ·contradiction
 ·rename_i h1;exact ⟨Decidable.not_not.1 h1,h⟩
theorem Bcl{c:Bool} :∀ {k:List Ab},Ap9 c k=0→∀x∈k,Alm c x=0:=by
 intro k
 induction k with
 |nil=>intro _ x hx;cases hx
 |cons y k ih=>
  intro h x hx
  rw [Ap9] at h
  split at h
  ·contradiction
  ·rename_i h1
   rcases List.mem_cons.1 hx with rfl|hx
   ·exact Decidable.not_not.1 h1
   ·exact ih h x hx
theorem Beh{op:Int}{nm:ByteArray}{n:Int}{k:List Ab}(h:Avy false (.mk op nm n k)=0):(k.length:Int)=Ach op∧1≤op∧op≤24:=by
 have h1:Arr false (.mk op nm n k)=false:=by
  cases hb:Arr false (.mk op nm n k) with
  |false=>rfl
  |true=>unfold Avy at h;rw [if_pos hb] at h;cases h
 unfold Arr at h1
 simp only [Ab.cp_eq,Ab.Op,Ab.Name,Ab.N,Ab.Kids,Ab.eta,Bool.or_eq_false_iff,decide_eq_false_iff_not,Decidable.not_not,Bool.not_eq_false'] at h1
 obtain ⟨⟨h2,h3⟩,_⟩:=h1
 refine ⟨Decidable.not_not.1 (of_decide_eq_false h3),?_⟩
 unfold Anz at h2
 by_cases h3:op=3
 ·omega
 ·rw [if_neg h3] at h2
  by_cases h4:op=25∨op=26
  ·rw [if_pos h4] at h2;cases h2
  ·rw [if_neg h4] at h2
   have h5:=of_decide_eq_true h2
   unfold Ach at h5
   grind
theorem Bcd(op:Int):Ach op≤2:=by unfold Ach;grind
theorem A1c(Be4:Aq→Ab→Option (Int×Int))(L:Nat)(a1:Ab)(v:Aq):∀(k:List Ab) (i:Nat) (v0 v1:Int) (acc:List Int),acc.length+k.length≤1099511627776→(∀x∈k,Be4 v x=some (tyE v x))→
  ∃j acc',Iu Be4 L a1 v k i v0 v1 acc=some (if (tyL v k).2≠0 then (0,(0,(tyL v k).2,acc',j)) else (1,(v0,v1,acc++(tyL v k).1,j))):=by
 intro k
 induction k with
 |nil=>intro i v0 v1 acc _ _;exact ⟨i,acc,by rw [Iu,tyL];simp⟩
 |cons x k ih=>
  intro i v0 v1 acc hlen h
  rw [List.length_cons] at hlen
  obtain ⟨j,acc',hj⟩:=ih (i+1) v0 v1 (acc++ [(tyE v x).1]) (by simp only [List.length_append,List.length_cons,List.length_nil];omega) fun y hy=>h y (by simp [hy])
  have hM:=Bd
  rw [Iu,h x (by simp),Option.bind_some,tyL]
  simp only [List.length_cons,List.length_nil]
  by_cases hx:(tyE v x).2=0
  ·refine ⟨j,acc',?_⟩
   rw [ifp (show (acc.length+(0+1))*8≤140737488355328 by omega),ifp (show acc.length+(0+1)≤maxLen by omega),hj]
   by_cases hk:(tyL v k).2=0<;>simp [hx,hk]
  ·refine ⟨i,acc,?_⟩
   simp [hx,Um hx]
theorem A6w(Be4:Aq→Ab→Option (Int×Int))(L:Nat)(a1:Ab)(v:Aq):∀(k:List Ab) (i:Nat) (v0 v1:Int) (acc:List Int),acc.length+k.length≤1099511627776→(∀x∈k,Be4 v x=some (tyE v x))→
  ∃j acc',Lq Be4 L v a1 k i v0 v1 acc=some (if (tyL v k).2≠0 then (0,(0,(tyL v k).2,acc',j)) else (1,(v0,v1,acc++(tyL v k).1,j))):=by
 intro k
 induction k with
 |nil=>intro i v0 v1 acc _ _;exact ⟨i,acc,by rw [Lq,tyL];simp⟩
 |cons x k ih=>
  intro i v0 v1 acc hlen h
  rw [List.length_cons] at hlen
  obtain ⟨j,acc',hj⟩:=ih (i+1) v0 v1 (acc++ [(tyE v x).1]) (by simp only [List.length_append,List.length_cons,List.length_nil];omega) fun y hy=>h y (by simp [hy])
  have hM:=Bd
  rw [Lq,h x (by simp),Option.bind_some,tyL]
  simp only [List.length_cons,List.length_nil]
  by_cases hx:(tyE v x).2=0
  ·refine ⟨j,acc',?_⟩
   rw [ifp (show (acc.length+(0+1))*8≤140737488355328 by omega),ifp (show acc.length+(0+1)≤maxLen by omega),hj]
   by_cases hk:(tyL v k).2=0<;>simp [hx,hk]
  ·refine ⟨i,acc,?_⟩
   simp [hx,Um hx]
theorem A8q{l:List Int}(h:l.length≤2):l= []∨(∃a,l= [a])∨∃a b,l= [a,b]:=by
 match l,h with
 | [],_=>exact .inl rfl
 | [a],_=>exact .inr (.inl ⟨a,rfl⟩)
 | [a,b],_=>exact .inr (.inr ⟨a,b,rfl⟩)
theorem A4e{e:Ab}(h:Bv e)(v:Aq)(hv:Ec v):∀L,maxLen+dE e < L→Alm false e=0→Kt L v e=some (tyE v e):=by
 induction h with
 |mk a0 a1 a2 a3 h0 h1 h2 h3 h4 ih=>
  intro L hL hc
  obtain ⟨L,rfl⟩:∃k,L=k+1:=⟨L - 1,by omega⟩
  rw [dE] at hL
  obtain ⟨hn,hk⟩:=Bcm hc
  have hr:∀x∈a3,Kt L v x=some (tyE v x):=fun x hx=>ih x hx L (by have:=Ajt hx;omega) (Bcl hk x hx)
  obtain ⟨ha,hop1,hop2⟩:=Beh hn
  have ha2:=Bcd a0
  have h5:a3.length≤2:=by omega
  obtain ⟨j,acc',hj⟩:=A1c (Kt L) L (.mk a0 a1 a2 a3) v a3 0 0 0 [] (by simp;omega) hr
  have hM:=Bd
  simp only [Ask,Yd,Sw,Akb,Kt,Yd,Sw,aN,aB,Ab.cp_eq,Ab.Op,Ab.Name,Ab.N,Ab.Kids,Ab.eta,Avw _ _ (.mk a0 a1 a2 a3) _ L h3 (show a3.length < L by omega),hj,Option.bind_some,tyE]
  by_cases hz:(tyL v a3).2=0
  ·have hlen:=Bmz v a3 hz
   simp only [hz,ne_eq,not_true_eq_false,if_false,S0,List.nil_append,A4d L v a1 hv (by omega),Ass L _ a1 hv.2.2.len (by omega),Ax5,A02,Ax4,Option.bind_some,A33]
   generalize (tyL v a3).1=l at hlen ⊢
   by_cases e3:a0=3
   ·subst e3;cases A3j v a1<;>rfl
   have b3:(a0 == 3)=false:=beq_false_of_ne e3
   by_cases e22:a0≥22
   ·simp only [e3,e22,b3,cond_false,if_false,decide_true,cond_true,if_true,ge_iff_le]
    cases Bsq a0 (Gf v.Site a1)<;>rfl
   simp only [e3,e22,b3,cond_false,if_false,decide_false]
   rcases A8q (show l.length≤2 by omega) with rfl|⟨a,rfl⟩|⟨a,b,rfl⟩
   ·simp only [Bd4,Bsl,List.length_nil]
    by_cases e1:a0=1
    ·subst e1;rfl
    by_cases e2:a0=2
    ·subst e2;rfl
    by_cases e4:a0=4
    ·subst e4;rfl
    simp [e1,e2,e4,beq_false_of_ne e1,beq_false_of_ne e2,beq_false_of_ne e4]
   ·simp only [Bd4]
    by_cases hu:unT a0 a=0<;>first|(simp [hu];done)|simp [hu,beq_false_of_ne hu]
   ·simp only [Bd4]
    by_cases hu:Bgd a0 a b=0<;>first|(simp [hu];done)|simp [hu,beq_false_of_ne hu]
  ·simp [hz,H2]
theorem A4c{e:Ab}(h:Bv e)(v:Aq)(hv:Ec v)(L:Nat)(hL:maxLen+dE e < L):Aeo L v e=some (Alo v e):=by
 simp only [Akk,Aeo,aN,aB,Ab.cp_eq,Ae3 h L hL,Option.bind_some,Alo]
 by_cases hc:E6 false e=0
 ·have hc':Alm false e=0:=by
   unfold E6 at hc
   split at hc
   ·cases hc
   ·split at hc
    ·cases hc
    ·exact hc
  simp [hc,A4e h v hv L hL hc']
 ·simp [hc,Um hc]
theorem Bet(L:Nat)(v:Aq)(e:Ab)(hv:Ec v)(hs:U9 v.Site 1099511627776)(hL:maxLen < L)(h1:1≤e.Op)(h2:e.Op≤24)(ha:Ach e.Op=0):Ah1 L v e=some (A33 v e.Op e.Name []):=by
 simp only [As9,Ah1,aN,aB,Aj5 L _ e.Name hs hL,Ber L v e.Name hv hL,Em,Option.bind_some,A33,Bd4,Bsl,Bsq,Hl,Im,R7]
 generalize e.Op=op at h1 h2 ha ⊢
 rcases A1y op with rfl|rfl|rfl|rfl|rfl|rfl|rfl|rfl|rfl|rfl|rfl|rfl|rfl|rfl|rfl|rfl|rfl|rfl|rfl|rfl|rfl|rfl|rfl|rfl|rfl|rfl|hop|hop
 all_goals first|(exfalso;revert ha;decide)|(exfalso;omega)|skip
 ·rfl
 ·rfl
 ·cases A3j v e.Name<;>rfl
 ·rfl
 ·by_cases h:Gf v.Site e.Name=⟨#[114,101,115,111,117,114,99,101]⟩<;>simp [h]
 ·by_cases h:Gf v.Site e.Name=⟨#[115,116,111,114,101]⟩<;>simp [h]
 ·by_cases h:Gf v.Site e.Name=⟨#[114,101,115,111,117,114,99,101]⟩
  ·simp [h]
  ·by_cases h':Gf v.Site e.Name=⟨#[113,117,101,117,101]⟩<;>simp [h,h']
theorem Ba8{e:Ab}(h:Bv e)(v:Aq)(hv:Ec v)(hs:U9 v.Site 1099511627776):∀L,maxLen+dE e < L→Alm false e=0→P4 L v e=some (tyE v e):=by
 induction h with
 |mk a0 a1 a2 a3 h0 h1 h2 h3 h4 ih=>
  intro L hL hc
  obtain ⟨L,rfl⟩:∃k,L=k+1:=⟨L - 1,by omega⟩
  rw [dE] at hL
  obtain ⟨hn,hk⟩:=Bcm hc
  have hr:∀x∈a3,P4 L v x=some (tyE v x):=fun x hx=>ih x hx L (by have:=Ajt hx;omega) (Bcl hk x hx)
  obtain ⟨ha,hop1,hop2⟩:=Beh hn
  have ha2:=Bcd a0
  have h5:a3.length≤2:=by omega
  obtain ⟨j,acc',hj⟩:=A6w (P4 L) L (.mk a0 a1 a2 a3) v a3 0 0 0 [] (by simp;omega) hr
  have hM:=Bd
  simp only [Ay3,Ab1,We,Apb,P4,Ab1,We,aN,aB,Ab.cp_eq,Ab.Op,Ab.Name,Ab.N,Ab.Kids,Ab.eta,A0u _ _ _ (.mk a0 a1 a2 a3) L h3 (show a3.length < L by omega),hj,Option.bind_some,tyE]
  by_cases hz:(tyL v a3).2=0
  ·have hlen:=Bmz v a3 hz
   simp only [hz,ne_eq,not_true_eq_false,if_false,S0,List.nil_append,Ba9,A53,Option.bind_some]
   have hlf:(a3.length:Int)=0→Ah1 L v (Ab.mk a0 a1 a2 a3)=some (A33 v a0 a1 []):=fun hz=>Bet L v (.mk a0 a1 a2 a3) hv hs (by omega) hop1 hop2 (by simp only [Ab.cp_eq,Ab.Op,Ab.Name,Ab.N,Ab.Kids,Ab.eta];omega)
   generalize (tyL v a3).1=l at hlen ⊢
   rcases A8q (show l.length≤2 by omega) with rfl|⟨a,rfl⟩|⟨a,b,rfl⟩
   ·rw [hlf (by simp at hlen;omega)]
    rfl
   ·simp only [List.length_cons,List.length_nil] at hlen
    have hn3:¬a0=3:=by rintro rfl;revert ha;simp only [←hlen];decide
    have hn22:¬22≤a0:=by
     intro hh
     have:Ach a0=0:=by unfold Ach;grind
     omega
    simp only [A33,hn3,hn22,Bd4,if_false]
    by_cases hu:unT a0 a=0<;>first|(simp [hu];done)|simp [hu,beq_false_of_ne hu]
   ·simp only [List.length_cons,List.length_nil] at hlen
    have hn3:¬a0=3:=by rintro rfl;revert ha;simp only [←hlen];decide
    have hn22:¬22≤a0:=by
     intro hh
     have:Ach a0=0:=by unfold Ach;grind
     omega
    simp only [A33,hn3,hn22,Bd4,if_false]
    by_cases hu:Bgd a0 a b=0<;>first|(simp [hu];done)|simp [hu,beq_false_of_ne hu]
  ·simp [hz,H2]
theorem Bno{e:Ab}(hc:E6 false e=0):Alm false e=0:=by
 unfold E6 at hc
 split at hc
 ·cases hc
 ·split at hc
  ·cases hc
  ·exact hc
theorem Beq{e:Ab}(h:Bv e)(v:Aq)(hv:Ec v)(hs:U9 v.Site 1099511627776)(L:Nat)(hL:maxLen+dE e < L):Am0 L v e=some (Alo v e):=by
 simp only [As7,Am0,aN,aB,Ab.cp_eq,Ahm h L hL,Option.bind_some,Alo]
 by_cases hc:E6 false e=0
 ·simp [hc,Ba8 h v hv hs L hL (Bno hc)]
 ·simp [hc,Um hc]
theorem Bpo(L:Nat)(hL:100≤L):Ajd L=some true:=by
 rfl
def Bgy(v:Aq):Bool:=decide (v.Params.length≤40) && decide (v.Locals.length≤20) && decide (v.Site.Vars.length+v.Site.Resources.length+v.Site.Stores.length+v.Site.Belts.length+v.Site.Queues.length+v.Site.Streams.length+v.Site.Tallies.length+v.Site.Levels.length+v.Site.Counts.length+v.Site.Routines.length≤80)
theorem Aqt(s:Aa):U9 s (Cj s):=by
 unfold U9 Cj
 have h0:s.Vars.length≤Db H3 s.Vars:=Iw fun x=>by unfold H3;omega
 have h1:s.Resources.length≤Db Dj s.Resources:=Iw fun x=>by unfold Dj;omega
 have h2:s.Stores.length≤Db Il s.Stores:=Iw fun x=>by unfold Il;omega
 have h3:s.Belts.length≤Db Jm s.Belts:=Iw fun x=>by unfold Jm;omega
 have h4:s.Queues.length≤Db (fun z:ByteArray=>z.size+1) s.Queues:=Iw fun x=>by omega
 have h5:s.Streams.length≤Db (fun z:ByteArray=>z.size+1) s.Streams:=Iw fun x=>by omega
 have h6:s.Tallies.length≤Db (fun z:ByteArray=>z.size+1) s.Tallies:=Iw fun x=>by omega
 have h7:s.Levels.length≤Db (fun z:ByteArray=>z.size+1) s.Levels:=Iw fun x=>by omega
 have h8:s.Counts.length≤Db (fun z:ByteArray=>z.size+1) s.Counts:=Iw fun x=>by omega
 have h9:s.Routines.length≤Db Cp s.Routines:=Iw fun x=>by unfold Cp;omega
 refine ⟨?_,?_,?_,?_,?_,?_,?_,?_,?_,?_⟩<;>omega
theorem U9.mono{s:Aa}{m n:Nat}(h:U9 s m)(hm:m≤n):U9 s n:=by
 obtain ⟨h0,h1,h2,h3,h4,h5,h6,h7,h8,h9⟩:=h
 exact ⟨by omega,by omega,by omega,by omega,by omega,by omega,by omega,by omega,by omega,by omega⟩
theorem Bar(L:Nat)(v:Aq)(hb:Atc v≤1048576):Afi L v=some (Bgy v):=by
 unfold Atc at hb
 obtain ⟨h0,h1,h2,h3,h4,h5,h6,h7,h8,h9⟩:=(Aqt v.Site).mono (show Cj v.Site≤1048576 by omega)
 have hw:∀n:Nat,n≤1048576000→Da (n:Int)=(n:Int):=fun n hn=>Tn (by omega) (by omega)
 simp only [Apg,Afi,aN,aB,Di,Bgy]
 have e:∀a b:Nat,(a:Int)+(b:Int)=((a+b:Nat):Int):=fun a b=>by omega
 simp only [e]
 repeat (first|rw [hw _ (by omega)]|rw [e])
 congr 2
 ·congr 1<;>exact decide_eq_decide.2 (by omega)
 ·exact decide_eq_decide.2 (by omega)
end Go.Proofs.YtogleahbpobaiaaGreat.Ev
namespace Go.Proofs.YtogleahbpobaiaaGreat.Ev
open Go An
set_option maxRecDepth 100000
set_option linter.unusedVariables false
set_option linter.unusedSimpArgs false
set_option linter.unnecessarySimpa false
mutual
theorem Bil:∀e:Ab,dE e≤Co e
 | .mk a b c k=>by
  rw [dE,Co]
  have:=Bp0 k
  omega
theorem Bp0:∀k:List Ab,dEs k≤Tb k
 | []=>by simp [dEs]
 |x::k=>by
  rw [dEs,Tb]
  have:=Bil x
  have:=Bp0 k
  omega
end
end Go.Proofs.YtogleahbpobaiaaGreat.Ev
