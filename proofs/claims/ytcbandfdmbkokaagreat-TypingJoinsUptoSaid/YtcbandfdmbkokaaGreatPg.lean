/-  Chapter 14, plainly: the types of expressions, in the program and in the reference. -/
import Derived.Test.YtcbandfdmbkokaaGreatQ5
import Derived.Test.YtcbandfdmbkokaaGreatR1
import Derived.Test.YtcbandfdmbkokaaGreatPf
namespace Go.Proofs.YtcbandfdmbkokaaGreat.Ev
open Go
set_option linter.unusedVariables false
set_option linter.unusedSimpArgs false
set_option linter.unnecessarySimpa false
def A5y(op:Int):Int:=if op=1 then 1 else if op=2 then 2 else if op=4 then 3 else 0
def Awk(op:Int):List Int→Int
 | [a]=>unT op a
 | [a,b]=>Axy op a b
 |_=>A5y op
def Al9(v:Ai)(op:Int)(nm:ByteArray)(kids:List Int):Int×Int:=
 if op=3 then match All v nm with
  |some t=>(t,0)
  |none=>(0,5)
 else if 22≤op then if A53 op (Oj v.Site nm)=true then (1,0) else (0,5)
 else if Awk op kids=0 then (0,10) else (Awk op kids,0)
mutual
def tyE(v:Ai):Aa→Int×Int
 | .mk op nm _ k=>if (tyL v k).2≠0 then (0,(tyL v k).2) else Al9 v op nm (tyL v k).1
def tyL(v:Ai):List Aa→List Int×Int
 | []=>([],0)
 |x::k=>if (tyE v x).2≠0 then ([],(tyE v x).2) else if (tyL v k).2≠0 then ([],(tyL v k).2) else ((tyE v x).1::(tyL v k).1,0)
end
def k6(v:Ai)(e:Aa):Int×Int:=if E1 false e≠0 then (0,E1 false e) else tyE v e
theorem A00(v:Ai):∀k:List Aa,(tyL v k).2=0→(tyL v k).1.length=k.length:=by
 intro k
 induction k with
 |nil=>intro _;rw [tyL];rfl
 |cons x k ih=>
  rw [tyL]
  intro h
  split at h
  ·contradiction
  ·split at h
   ·contradiction
   ·rename_i h1 h2
    have h2:(tyL v k).2=0:=Decidable.not_not.1 h2
    rw [if_neg h1,if_neg (by simp [h2])]
    simp [ih h2]
theorem Avn{c:Bool}{op:Int}{nm:ByteArray}{n:Int}{k:List Aa}(h:j9 c (.mk op nm n k)=0):Afc c (.mk op nm n k)=0∧Aav c k=0:=by
 rw [j9] at h
 split at h
 ·contradiction
 ·rename_i h1;exact ⟨Decidable.not_not.1 h1,h⟩
theorem Avm{c:Bool} :∀ {k:List Aa},Aav c k=0→∀x∈k,j9 c x=0:=by
 intro k
 induction k with
 |nil=>intro _ x hx;cases hx
 |cons y k ih=>
  intro h x hx
  rw [Aav] at h
  split at h
  ·contradiction
  ·rename_i h1
   rcases List.mem_cons.1 hx with rfl|hx
   ·exact Decidable.not_not.1 h1
   ·exact ih h x hx
theorem Aws{op:Int}{nm:ByteArray}{n:Int}{k:List Aa}(h:Afc false (.mk op nm n k)=0):(k.length:Int)=Vk op∧1≤op∧op≤24:=by
 have h1:Ab9 false (.mk op nm n k)=false:=by
  cases hb:Ab9 false (.mk op nm n k) with
  |false=>rfl
  |true=>unfold Afc at h;rw [if_pos hb] at h;cases h
 unfold Ab9 at h1
 simp only [Aa.cp_eq,Aa.Op,Aa.Name,Aa.N,Aa.Kids,Aa.eta,Bool.or_eq_false_iff,decide_eq_false_iff_not,Decidable.not_not,Bool.not_eq_false'] at h1
 obtain ⟨⟨h2,h3⟩,_⟩:=h1
 refine ⟨Decidable.not_not.1 (of_decide_eq_false h3),?_⟩
 unfold u5 at h2
 by_cases h3:op=3
 ·omega
 ·rw [if_neg h3] at h2
  by_cases h4:op=25∨op=26
  ·rw [if_pos h4] at h2;cases h2
  ·rw [if_neg h4] at h2
   have h5:=of_decide_eq_true h2
   unfold Vk at h5
   grind
theorem Avg(op:Int):Vk op≤2:=by unfold Vk;grind
theorem Ajv(Ew:Ai→Aa→Option (Int×Int))(L:Nat)(a1:Aa)(v:Ai):∀(k:List Aa) (i:Nat) (v0 v1:Int) (acc:List Int),acc.length+k.length≤1099511627776→(∀x∈k,Ew v x=some (tyE v x))→
  ∃j acc',H8 Ew L a1 v k i v0 v1 acc=some (if (tyL v k).2≠0 then (0,(0,(tyL v k).2,acc',j)) else (1,(v0,v1,acc++(tyL v k).1,j))):=by
 intro k
 induction k with
 |nil=>intro i v0 v1 acc _ _;exact ⟨i,acc,by rw [H8,tyL];simp⟩
 |cons x k ih=>
  intro i v0 v1 acc hlen h
  rw [List.length_cons] at hlen
  obtain ⟨j,acc',hj⟩:=ih (i+1) v0 v1 (acc++ [(tyE v x).1]) (by simp only [List.length_append,List.length_cons,List.length_nil];omega) fun y hy=>h y (by simp [hy])
  have hM:=Cf
  rw [H8,h x (by simp),Option.bind_some,tyL]
  simp only [List.length_cons,List.length_nil]
  by_cases hx:(tyE v x).2=0
  ·refine ⟨j,acc',?_⟩
   rw [ifp (show (acc.length+(0+1))*8≤140737488355328 by omega),ifp (show acc.length+(0+1)≤maxLen by omega),hj]
   by_cases hk:(tyL v k).2=0<;>simp [hx,hk]
  ·refine ⟨i,acc,?_⟩
   simp [hx,i4 hx]
theorem Apa(Ew:Ai→Aa→Option (Int×Int))(L:Nat)(a1:Aa)(v:Ai):∀(k:List Aa) (i:Nat) (v0 v1:Int) (acc:List Int),acc.length+k.length≤1099511627776→(∀x∈k,Ew v x=some (tyE v x))→
  ∃j acc',Lv Ew L v a1 k i v0 v1 acc=some (if (tyL v k).2≠0 then (0,(0,(tyL v k).2,acc',j)) else (1,(v0,v1,acc++(tyL v k).1,j))):=by
 intro k
 induction k with
 |nil=>intro i v0 v1 acc _ _;exact ⟨i,acc,by rw [Lv,tyL];simp⟩
 |cons x k ih=>
  intro i v0 v1 acc hlen h
  rw [List.length_cons] at hlen
  obtain ⟨j,acc',hj⟩:=ih (i+1) v0 v1 (acc++ [(tyE v x).1]) (by simp only [List.length_append,List.length_cons,List.length_nil];omega) fun y hy=>h y (by simp [hy])
  have hM:=Cf
  rw [Lv,h x (by simp),Option.bind_some,tyL]
  simp only [List.length_cons,List.length_nil]
  by_cases hx:(tyE v x).2=0
  ·refine ⟨j,acc',?_⟩
   rw [ifp (show (acc.length+(0+1))*8≤140737488355328 by omega),ifp (show acc.length+(0+1)≤maxLen by omega),hj]
   by_cases hk:(tyL v k).2=0<;>simp [hx,hk]
  ·refine ⟨i,acc,?_⟩
   simp [hx,i4 hx]
theorem Aqw{l:List Int}(h:l.length≤2):l= []∨(∃a,l= [a])∨∃a b,l= [a,b]:=by
 match l,h with
 | [],_=>exact .inl rfl
 | [a],_=>exact .inr (.inl ⟨a,rfl⟩)
 | [a,b],_=>exact .inr (.inr ⟨a,b,rfl⟩)
theorem Amh{e:Aa}(h:Ce e)(v:Ai)(hv:D8 v):∀L,maxLen+dE e < L→j9 false e=0→Hj L v e=some (tyE v e):=by
 induction h with
 |mk a0 a1 a2 a3 h0 h1 h2 h3 h4 ih=>
  intro L hL hc
  obtain ⟨L,rfl⟩:∃k,L=k+1:=⟨L - 1,by omega⟩
  rw [dE] at hL
  obtain ⟨hn,hk⟩:=Avn hc
  have hr:∀x∈a3,Hj L v x=some (tyE v x):=fun x hx=>ih x hx L (by have:=Zs hx;omega) (Avm hk x hx)
  obtain ⟨ha,hop1,hop2⟩:=Aws hn
  have ha2:=Avg a0
  have h5:a3.length≤2:=by omega
  obtain ⟨j,acc',hj⟩:=Ajv (Hj L) L (.mk a0 a1 a2 a3) v a3 0 0 0 [] (by simp;omega) hr
  have hM:=Cf
  simp only [Tq,Tj,Hj,Ao,Au,Al,Am,Ar,Ap,Ak,Av,Aw,Aq,Ax,Aa.cp_eq,Aa.Op,Aa.Name,Aa.N,Aa.Kids,Aa.eta,Ae2 _ _ (.mk a0 a1 a2 a3) _ L h3 (show a3.length < L by omega),hj,Option.bind_some,tyE]
  by_cases hz:(tyL v a3).2=0
  ·have hlen:=A00 v a3 hz
   simp only [hz,ne_eq,not_true_eq_false,if_false,f6,List.nil_append,Amg L v a1 hv (by omega),Ac2 L _ a1 hv.2.2.len (by omega),Ahc,Ajn,Ahb,Option.bind_some,Al9]
   generalize (tyL v a3).1=l at hlen ⊢
   by_cases e3:a0=3
   ·subst e3;cases All v a1<;>rfl
   have b3:(a0 == 3)=false:=beq_false_of_ne e3
   by_cases e22:a0≥22
   ·simp only [e3,e22,b3,cond_false,if_false,decide_true,cond_true,if_true,ge_iff_le]
    cases A53 a0 (Oj v.Site a1)<;>rfl
   simp only [e3,e22,b3,cond_false,if_false,decide_false]
   rcases Aqw (show l.length≤2 by omega) with rfl|⟨a,rfl⟩|⟨a,b,rfl⟩
   ·simp only [Awk,A5y,List.length_nil]
    by_cases e1:a0=1
    ·subst e1;rfl
    by_cases e2:a0=2
    ·subst e2;rfl
    by_cases e4:a0=4
    ·subst e4;rfl
    simp [e1,e2,e4,beq_false_of_ne e1,beq_false_of_ne e2,beq_false_of_ne e4]
   ·simp only [Awk]
    by_cases hu:unT a0 a=0<;>first|(simp [hu];done)|simp [hu,beq_false_of_ne hu]
   ·simp only [Awk]
    by_cases hu:Axy a0 a b=0<;>first|(simp [hu];done)|simp [hu,beq_false_of_ne hu]
  ·simp [hz,P9]
theorem Amf{e:Aa}(h:Ce e)(v:Ai)(hv:D8 v)(L:Nat)(hL:maxLen+dE e < L):Ko L v e=some (k6 v e):=by
 simp only [V0,Ko,Ao,Au,Al,Am,Ar,Ap,Ak,Av,Aw,Aq,Ax,Aa.cp_eq,V3 h L hL,Option.bind_some,k6]
 by_cases hc:E1 false e=0
 ·have hc':j9 false e=0:=by
   unfold E1 at hc
   split at hc
   ·cases hc
   ·split at hc
    ·cases hc
    ·exact hc
  simp [hc,Amh h v hv L hL hc']
 ·simp [hc,i4 hc]
theorem Aw4(L:Nat)(v:Ai)(e:Aa)(hv:D8 v)(hs:Vr v.Site 1099511627776)(hL:maxLen < L)(h1:1≤e.Op)(h2:e.Op≤24)(ha:Vk e.Op=0):Ps L v e=some (Al9 v e.Op e.Name []):=by
 simp only [n9,Ps,Ao,Au,Al,Am,Ar,Ap,Ak,Av,Aw,Aq,Ax,Abj L _ e.Name hs hL,Aw2 L v e.Name hv hL,G8,Option.bind_some,Al9,Awk,A5y,A53,Hc,O9,Qo]
 generalize e.Op=op at h1 h2 ha ⊢
 rcases Akn op with rfl|rfl|rfl|rfl|rfl|rfl|rfl|rfl|rfl|rfl|rfl|rfl|rfl|rfl|rfl|rfl|rfl|rfl|rfl|rfl|rfl|rfl|rfl|rfl|rfl|rfl|hop|hop
 all_goals first|(exfalso;revert ha;decide)|(exfalso;omega)|skip
 ·rfl
 ·rfl
 ·cases All v e.Name<;>rfl
 ·rfl
 ·by_cases h:Oj v.Site e.Name=⟨#[114,101,115,111,117,114,99,101]⟩<;>simp [h]
 ·by_cases h:Oj v.Site e.Name=⟨#[115,116,111,114,101]⟩<;>simp [h]
 ·by_cases h:Oj v.Site e.Name=⟨#[114,101,115,111,117,114,99,101]⟩
  ·simp [h]
  ·by_cases h':Oj v.Site e.Name=⟨#[113,117,101,117,101]⟩<;>simp [h,h']
theorem Atq{e:Aa}(h:Ce e)(v:Ai)(hv:D8 v)(hs:Vr v.Site 1099511627776):∀L,maxLen+dE e < L→j9 false e=0→Kz L v e=some (tyE v e):=by
 induction h with
 |mk a0 a1 a2 a3 h0 h1 h2 h3 h4 ih=>
  intro L hL hc
  obtain ⟨L,rfl⟩:∃k,L=k+1:=⟨L - 1,by omega⟩
  rw [dE] at hL
  obtain ⟨hn,hk⟩:=Avn hc
  have hr:∀x∈a3,Kz L v x=some (tyE v x):=fun x hx=>ih x hx L (by have:=Zs hx;omega) (Avm hk x hx)
  obtain ⟨ha,hop1,hop2⟩:=Aws hn
  have ha2:=Avg a0
  have h5:a3.length≤2:=by omega
  obtain ⟨j,acc',hj⟩:=Apa (Kz L) L (.mk a0 a1 a2 a3) v a3 0 0 0 [] (by simp;omega) hr
  have hM:=Cf
  simp only [Wn,V9,Kz,Ao,Au,Al,Am,Ar,Ap,Ak,Av,Aw,Aq,Ax,Aa.cp_eq,Aa.Op,Aa.Name,Aa.N,Aa.Kids,Aa.eta,Ai7 _ _ _ (.mk a0 a1 a2 a3) L h3 (show a3.length < L by omega),hj,Option.bind_some,tyE]
  by_cases hz:(tyL v a3).2=0
  ·have hlen:=A00 v a3 hz
   simp only [hz,ne_eq,not_true_eq_false,if_false,f6,List.nil_append,Atr,Aoo,Option.bind_some]
   have hlf:(a3.length:Int)=0→Ps L v (Aa.mk a0 a1 a2 a3)=some (Al9 v a0 a1 []):=fun hz=>Aw4 L v (.mk a0 a1 a2 a3) hv hs (by omega) hop1 hop2 (by simp only [Aa.cp_eq,Aa.Op,Aa.Name,Aa.N,Aa.Kids,Aa.eta];omega)
   generalize (tyL v a3).1=l at hlen ⊢
   rcases Aqw (show l.length≤2 by omega) with rfl|⟨a,rfl⟩|⟨a,b,rfl⟩
   ·rw [hlf (by simp at hlen;omega)]
    rfl
   ·simp only [List.length_cons,List.length_nil] at hlen
    have hn3:¬a0=3:=by rintro rfl;revert ha;simp only [←hlen];decide
    have hn22:¬22≤a0:=by
     intro hh
     have:Vk a0=0:=by unfold Vk;grind
     omega
    simp only [Al9,hn3,hn22,Awk,if_false]
    by_cases hu:unT a0 a=0<;>first|(simp [hu];done)|simp [hu,beq_false_of_ne hu]
   ·simp only [List.length_cons,List.length_nil] at hlen
    have hn3:¬a0=3:=by rintro rfl;revert ha;simp only [←hlen];decide
    have hn22:¬22≤a0:=by
     intro hh
     have:Vk a0=0:=by unfold Vk;grind
     omega
    simp only [Al9,hn3,hn22,Awk,if_false]
    by_cases hu:Axy a0 a b=0<;>first|(simp [hu];done)|simp [hu,beq_false_of_ne hu]
  ·simp [hz,P9]
theorem A1z{e:Aa}(hc:E1 false e=0):j9 false e=0:=by
 unfold E1 at hc
 split at hc
 ·cases hc
 ·split at hc
  ·cases hc
  ·exact hc
theorem Aw1{e:Aa}(h:Ce e)(v:Ai)(hv:D8 v)(hs:Vr v.Site 1099511627776)(L:Nat)(hL:maxLen+dE e < L):Sw L v e=some (k6 v e):=by
 simp only [n6,Sw,Ao,Au,Al,Am,Ar,Ap,Ak,Av,Aw,Aq,Ax,Aa.cp_eq,Xy h L hL,Option.bind_some,k6]
 by_cases hc:E1 false e=0
 ·simp [hc,Atq h v hv hs L hL (A1z hc)]
 ·simp [hc,i4 hc]
theorem Avh(L:Nat)(hL:100≤L):I4 L=some true:=by
 rfl
def Ayg(v:Ai):Bool:=decide (v.Params.length≤40) && decide (v.Locals.length≤20) && decide (v.Site.Vars.length+v.Site.Resources.length+v.Site.Stores.length+v.Site.Belts.length+v.Site.Queues.length+v.Site.Streams.length+v.Site.Tallies.length+v.Site.Levels.length+v.Site.Counts.length+v.Site.Routines.length≤80)
theorem Alp(s:Ac):Vr s (C3 s):=by
 unfold Vr C3
 have h0:s.Vars.length≤Da Hq s.Vars:=Mr fun x=>by unfold Hq;omega
 have h1:s.Resources.length≤Da Fs s.Resources:=Mr fun x=>by unfold Fs;omega
 have h2:s.Stores.length≤Da Hx s.Stores:=Mr fun x=>by unfold Hx;omega
 have h3:s.Belts.length≤Da I6 s.Belts:=Mr fun x=>by unfold I6;omega
 have h4:s.Queues.length≤Da (fun z:ByteArray=>z.size+1) s.Queues:=Mr fun x=>by omega
 have h5:s.Streams.length≤Da (fun z:ByteArray=>z.size+1) s.Streams:=Mr fun x=>by omega
 have h6:s.Tallies.length≤Da (fun z:ByteArray=>z.size+1) s.Tallies:=Mr fun x=>by omega
 have h7:s.Levels.length≤Da (fun z:ByteArray=>z.size+1) s.Levels:=Mr fun x=>by omega
 have h8:s.Counts.length≤Da (fun z:ByteArray=>z.size+1) s.Counts:=Mr fun x=>by omega
 have h9:s.Routines.length≤Da Gl s.Routines:=Mr fun x=>by unfold Gl;omega
 refine ⟨?_,?_,?_,?_,?_,?_,?_,?_,?_,?_⟩<;>omega
theorem Vr.mono{s:Ac}{m n:Nat}(h:Vr s m)(hm:m≤n):Vr s n:=by
 obtain ⟨h0,h1,h2,h3,h4,h5,h6,h7,h8,h9⟩:=h
 exact ⟨by omega,by omega,by omega,by omega,by omega,by omega,by omega,by omega,by omega,by omega⟩
theorem Atc(L:Nat)(v:Ai)(hb:Ada v≤1048576):M3 L v=some (Ayg v):=by
 unfold Ada at hb
 obtain ⟨h0,h1,h2,h3,h4,h5,h6,h7,h8,h9⟩:=(Alp v.Site).mono (show C3 v.Site≤1048576 by omega)
 have hw:∀n:Nat,n≤1048576000→F9 (n:Int)=(n:Int):=fun n hn=>Vi (by omega) (by omega)
 simp only [Zb,M3,Ao,Au,Al,Am,Ar,Ap,Ak,Av,Aw,Aq,Ax,Dz,Ayg]
 have e:∀a b:Nat,(a:Int)+(b:Int)=((a+b:Nat):Int):=fun a b=>by omega
 simp only [e]
 repeat (first|rw [hw _ (by omega)]|rw [e])
 congr 2
 ·congr 1<;>exact decide_eq_decide.2 (by omega)
 ·exact decide_eq_decide.2 (by omega)
end Go.Proofs.YtcbandfdmbkokaaGreat.Ev
