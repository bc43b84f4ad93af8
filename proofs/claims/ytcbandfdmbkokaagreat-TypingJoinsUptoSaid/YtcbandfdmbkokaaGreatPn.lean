/-  Chapter 14, plainly: a statement without its inner ones, in the program and in the reference. -/
import Derived.Test.YtcbandfdmbkokaaGreatQ3
import Derived.Test.YtcbandfdmbkokaaGreatQ5
import Derived.Test.YtcbandfdmbkokaaGreatPm
namespace Go.Proofs.YtcbandfdmbkokaaGreat.Ev
open Go
set_option maxRecDepth 100000
set_option linter.unusedVariables false
set_option linter.unusedSimpArgs false
set_option linter.unnecessarySimpa false
structure MB (L:Nat) (m:Af) (v:Ai):Prop where
 fuel:maxLen < L
 ev:D8 v
 st:Vr v.Site 1099511627776
 sites:m.Sites.length≤1099511627776
 links:m.Links.length≤1099511627776
 each:∀d∈m.Sites,Vr d 1099511627776
theorem Vr.max{s:Ac}(h:Vr s 1099511627776):Vr s maxLen:=h.mono (by rw [Cf];omega)
def Axd(s:Ac)(n:ByteArray):Option (List Be):=(s.Routines.find? fun x=>decide (x.Name=n)).map (·.Params)
def Anz(v:Ai)(s:Ab):Int:=match Axd v.Site s.Name with
 |none=>5
 |some ps=>Ak4 v ps s
def Axh(m:Af)(v:Ai)(s:Ab):Int:=match m.Sites.find? (fun x=>decide (x.Name=s.Of)) with
 |none=>5
 |some d=>match Axd d s.Name with
  |none=>5
  |some ps=>if (Alq m v.Site.Name s.Of).2=true then Ak4 v ps s else 16
def Aoy(m:Af)(v:Ai)(s:Ab):Int:=
 if s.Op=1 then A6i v s
 else if s.Op=2 then Abd v s.Name (decide (Oj v.Site s.Of=k8)) [1,3]
 else if s.Op=3∨s.Op=4 then Od v s.E [2]
 else if s.Op=5 then Od v s.E [3]
 else if s.Op=6 then P5 v s Hc [s.E,s.F]
 else if s.Op=7 then P5 v s Hc [s.E]
 else if s.Op=8 then P5 v s O9 [s.E]
 else if s.Op=9 then Abd v s.Of (decide (Oj v.Site s.Name=O9)) [1]
 else if s.Op=10 then P5 v s u6 []
 else if s.Op=11 then P5 v s Qo []
 else if s.Op=12 then P5 v s Qo [s.E]
 else if s.Op=13 then Axh m v s
 else if s.Op=14 then Anz v s
 else if s.Op=15 then (if Oj v.Site s.Name=Wu then Od v s.E [1,3] else 5)
 else if s.Op=16 then P5 v s Ym [s.E]
 else if s.Op=17 then P5 v s Yl [s.E]
 else 0
theorem Abb{α :Type}(l:List α)(p: α→Bool):decide (R2 (l.findIdx? p) < 0)=(l.findIdx? p).isNone:=by
 cases l.findIdx? p with
 |none=>rfl
 |some i=>exact decide_eq_false (by simp [R2])
theorem w4(L:Nat)(r:Ag)(s:Ab)(hm:MB L r.u_m r.u_env)(hs:SB L s):Eh L r s=some (Axh r.u_m r.u_env s):=by
 have hM:=Cf
 have h1:=hm.sites
 have h2:=hm.links
 have hL:=hm.fuel
 simp only [Og,Eh,Ao,Au,Al,Am,Ar,Ap,Ak,Av,Aw,Aq,Ax,Ab.cp_eq,Aot L r.u_m s.Of (by omega) hL,Aos L r.u_m _ _ (show r.u_m.Links.length≤maxLen by omega) hL,Option.bind_some,Axh,Aa8,Aqo,Abb]
 cases hf:r.u_m.Sites.findIdx? (fun x=>decide (x.Name=s.Of)) with
 |none=>rfl
 |some i=>
  have hi:=Adp hf
  have hd:Vr (r.u_m.Sites.getD i default) 1099511627776:=hm.each _ (by rw [Ro _ i hi];exact List.getElem_mem hi)
  simp only [Option.isNone_some,cond_false,R2,nn,if_true,Ub hi,Sr,Option.map_some,Vt L _ s.Name hd.max.2.2.2.2.2.2.2.2.2 (Nat.lt_of_le_of_lt hd.max.2.2.2.2.2.2.2.2.2 hL),Option.bind_some,Ts,Abb,Axd,Aa8]
  cases hg:(r.u_m.Sites.getD i default).Routines.findIdx? (fun x=>decide (x.Name=s.Name)) with
  |none=>rfl
  |some j=>
   have hj:=Adp hg
   simp only [Option.isNone_some,cond_false,R2,nn,if_true,Ub hj,Sr,Option.map_some,Ve L r _ s hm.ev hs,Option.bind_some]
   cases (Alq r.u_m r.u_env.Site.Name s.Of).2<;>rfl
theorem Aaj(L:Nat)(r:Ag)(s:Ab)(hm:MB L r.u_m r.u_env)(hs:SB L s):D6 L r s=some (Aoy r.u_m r.u_env s):=by
 have hM:=Cf
 have hL:=hm.fuel
 have hv:=hm.ev
 obtain ⟨b1,b2,b3,b4⟩:=hs.de
 have w:∀l:List Int,l.length≤2→Br L r s.E l=some (Od r.u_env s.E l):=fun l hl=>Ge L r s.E l hv hs.e b1 (by omega)
 have n1:∀k,B9 L r s k [s.E]=some (P5 r.u_env s k [s.E]):=fun k=>Qs L r s k [s.E] hv hL (by simp) fun x hx=>by
  simp only [List.mem_singleton] at hx;subst hx;exact ⟨hs.e,b1⟩
 have n2:∀k,B9 L r s k [s.E,s.F]=some (P5 r.u_env s k [s.E,s.F]):=fun k=>Qs L r s k [s.E,s.F] hv hL (by simp) fun x hx=>by
  simp only [List.mem_cons,List.not_mem_nil,or_false] at hx
  rcases hx with rfl|rfl
  ·exact ⟨hs.e,b1⟩
  ·exact ⟨hs.f,b2⟩
 have n0:∀k,B9 L r s k []=some (P5 r.u_env s k []):=fun k=>Qs L r s k [] hv hL (by simp) fun x hx=>by cases hx
 have q:∀n k,Cu L r n k=some (decide (Oj r.u_env.Site n=k)):=fun n k=>Wy L r n k hv hL
 have i:∀n b l,l.length≤2→Dh L r n b l=some (Abd r.u_env n b l):=fun n b l hl=>v8 L r n b l hv hL (by omega)
 have hr9:(r.u_env.Site.Routines).length≤maxLen:=hm.st.max.2.2.2.2.2.2.2.2.2
 have hsp:(Option.bind (Dr L r.u_env.Site s.Name) fun r15=>bif decide (r15 < 0) then some 5 else if (0:Int)≤r15 then if r15 < ((r.u_env.Site.Routines.length:Nat):Int) then Option.bind (C7 L r (r.u_env.Site.Routines.getD (Int.toNat r15) default) s) fun r16=>some r16 else none else none)=some (Anz r.u_env s):=by
  simp only [Vt L _ s.Name hr9 (by omega),Option.bind_some,Ts,Abb,Anz,Axd,Aa8]
  cases hg:r.u_env.Site.Routines.findIdx? (fun x=>decide (x.Name=s.Name)) with
  |none=>rfl
  |some j=>
   have hj:=Adp hg
   simp only [Option.isNone_some,cond_false,R2,nn,if_true,Ub hj,Sr,Option.map_some,Ve L r _ s hv hs,Option.bind_some]
 simp only [Et,Gi,S0,D6,Ao,Au,Al,Am,Ar,Ap,Ak,Av,Aw,Aq,Ax,Ab.cp_eq,Aa.cp_eq,Aak L r s hv hs.e b1,q,i _ _ [1,3] (by simp),i _ _ [1] (by simp),w [2] (by simp),w [3] (by simp),w [1,3] (by simp),n0,n1,n2,w4 L r s hm hs,hsp,Option.bind_some]
 unfold Aoy
 rcases Abx s.Op with h|h|h|h|h|h|h|h|h|h|h|h|h|h|h|h|h|h|h|h
 case inr.inr.inr.inr.inr.inr.inr.inr.inr.inr.inr.inr.inr.inr.inr.inr.inr.inr.inl=>
  have h':s.Op < 1∨18 < s.Op:= .inl h
  simp only [cond_false,Bd h' 1 (by decide) (by decide),Bd h' 2 (by decide) (by decide),Bd h' 3 (by decide) (by decide),Bd h' 4 (by decide) (by decide),Bd h' 5 (by decide) (by decide),Bd h' 6 (by decide) (by decide),Bd h' 7 (by decide) (by decide),Bd h' 8 (by decide) (by decide),Bd h' 9 (by decide) (by decide),Bd h' 10 (by decide) (by decide),Bd h' 11 (by decide) (by decide),Bd h' 12 (by decide) (by decide),Bd h' 13 (by decide) (by decide),Bd h' 14 (by decide) (by decide),Bd h' 15 (by decide) (by decide),Bd h' 16 (by decide) (by decide),Bd h' 17 (by decide) (by decide)]
  repeat rw [if_neg (by omega)]
 case inr.inr.inr.inr.inr.inr.inr.inr.inr.inr.inr.inr.inr.inr.inr.inr.inr.inr.inr=>
  have h':s.Op < 1∨18 < s.Op:= .inr h
  simp only [cond_false,Bd h' 1 (by decide) (by decide),Bd h' 2 (by decide) (by decide),Bd h' 3 (by decide) (by decide),Bd h' 4 (by decide) (by decide),Bd h' 5 (by decide) (by decide),Bd h' 6 (by decide) (by decide),Bd h' 7 (by decide) (by decide),Bd h' 8 (by decide) (by decide),Bd h' 9 (by decide) (by decide),Bd h' 10 (by decide) (by decide),Bd h' 11 (by decide) (by decide),Bd h' 12 (by decide) (by decide),Bd h' 13 (by decide) (by decide),Bd h' 14 (by decide) (by decide),Bd h' 15 (by decide) (by decide),Bd h' 16 (by decide) (by decide),Bd h' 17 (by decide) (by decide)]
  repeat rw [if_neg (by omega)]
 all_goals (rw [h];first|rfl|(simp;done)|(simp;split<;>simp_all [Wu]))
theorem Yt(L:Nat)(v:Ai)(e:Aa)(a b:Int)(hv:D8 v)(hs:Vr v.Site 1099511627776)(he:Ce e)(hL:maxLen+dE e < L):Eg L v e a b=some (Od v e [a,b]):=by
 simp only [Ab7,Eg,Ao,Au,Al,Am,Ar,Ap,Ak,Av,Aw,Aq,Ax,Aa.cp_eq,Aw1 he v hv hs L hL,Option.bind_some,Od,List.any_cons,List.any_nil,Dz,D7]
 congr 1
 by_cases h:(k6 v e).2=0
 ·by_cases h1:(k6 v e).1=a
  ·simp [h,h1]
  ·by_cases h2:(k6 v e).1=b
   ·simp [h,h2]
   ·simp [h,h1,h2,x0 h1,x0 h2,beq_false_of_ne]
 ·simp [h,beq_false_of_ne h]
theorem A02(v:Ai)(e:Aa)(a:Int):Od v e [a,a]=Od v e [a]:=by
 unfold Od;simp
theorem Abk(L:Nat)(s:Ac)(n:ByteArray)(h:Vr s 1099511627776)(hL:maxLen < L):Ie L s n=some (Ts s n):=by
 have hM:=Cf
 have h9:=h.2.2.2.2.2.2.2.2.2
 have hf:G9 L (s.Routines.map fun x=>x.Name) n=some (Av7 (s.Routines.map fun x=>x.Name) n):=Abi L _ n (by rw [List.length_map];omega) (by rw [List.length_map];omega)
 simp only [Vx,Ie,Ao,Au,Al,Am,Ar,Ap,Ak,Av,Aw,Aq,Ax,Afh L s h hL,Option.bind_some]
 rw [ifp (by omega),ifp (by simp only [Adu,List.length_cons,List.length_nil];omega)]
 rw [show (Adu s).getD 9 default=s.Routines.map fun x=>x.Name from rfl,hf,Option.bind_some]
 simp only [Av7,Ts,List.findIdx?_map]
 rfl
theorem At1(L:Nat)(n:ByteArray)(m:Af):∀(k:List Ac) (i:Nat) (v:Int),P3 L n m k i v=some (match k.findIdx? (fun x=>x.Name.toList == n.toList) with|some j=>(0,(((i+j:Nat):Int),((i+j:Nat):Int)))|none=>(1,(v,((i+k.length:Nat):Int)))):=by
 intro k
 induction k with
 |nil=>intro i v;rfl
 |cons x k ih=>
  intro i v
  rw [P3,ih,List.findIdx?_cons]
  cases hc:(fun x:Ac=>x.Name.toList == n.toList) x with
  |true=>simp only [hc,cond_true,if_true];rfl
  |false=>
   simp only [hc,cond_false,if_false,Bool.false_eq_true]
   cases k.findIdx? (fun x=>x.Name.toList == n.toList) with
   |some j=>simp [Nat.add_assoc,Nat.add_comm 1]
   |none=>simp [Nat.add_assoc,Nat.add_comm 1]
theorem Aw0(L:Nat)(m:Af)(n:ByteArray)(hl:m.Sites.length≤maxLen)(hL:maxLen < L):Sv L m n=some (Aqo m n):=by
 simp only [Ya,Sv,Ao,Au,Al,Am,Ar,Ap,Ak,Av,Aw,Aq,Ax,Alw L n m L hl (by omega),At1,G8,Option.bind_some,Aqo]
 cases m.Sites.findIdx? (fun x=>decide (x.Name=n)) with
 |none=>rfl
 |some i=>simp [R2,P9]
theorem At0(L:Nat)(a b:ByteArray)(m:Af):∀(k:List Cq) (i:Nat) (v:Int) (w:Bool),i+k.length≤m.Links.length→∃j,P2 L a b m k i v w=some (match k.find? (fun l=>decide (l.From=a) && decide (l.To=b)) with|some l=>(0,(l.Delay,true,j))|none=>(1,(v,w,j))):=by
 intro k
 induction k with
 |nil=>intro i v w _;exact ⟨i,rfl⟩
 |cons x k ih=>
  intro i v w hi
  rw [List.length_cons] at hi
  obtain ⟨j,hj⟩:=ih (i+1) v w (by omega)
  rw [P2,hj,List.find?_cons,G8,G8,ifp (show (0:Int)≤(i:Int) by omega),ifp (show (i:Int) < (m.Links.length:Int) by omega),D7,Option.bind_some,Dz]
  cases (decide (x.From=a) && decide (x.To=b)) with
  |true=>exact ⟨i,rfl⟩
  |false=>exact ⟨j,rfl⟩
theorem Awz(L:Nat)(m:Af)(a b:ByteArray)(hl:m.Links.length≤maxLen)(hL:maxLen < L):Su L m a b=some (Alq m a b):=by
 obtain ⟨j,hj⟩:=At0 L a b m m.Links 0 0 false (by omega)
 simp only [X9,Su,Ao,Au,Al,Am,Ar,Ap,Ak,Av,Aw,Aq,Ax,Alv L a b m L hl (by omega),hj,Option.bind_some,Alq,A5z]
 cases m.Links.find? (fun l=>decide (l.From=a) && decide (l.To=b))<;>rfl
theorem At2(L:Nat)(ps:List Be)(v:Ai)(s:Ab)(hv:D8 v)(hs:Vr v.Site 1099511627776)(h:∀x∈s.Args,Ce x∧maxLen+dE x < L):∀(k:List Be) (i:Nat) (w:Int),i+k.length=s.Args.length→∃j,P4 L ps v s k i w=some (bif Aas v (s.Args.drop i) k != 0 then (0,(Aas v (s.Args.drop i) k,j)) else (1,(w,j))):=by
 intro k
 induction k with
 |nil=>
  intro i w hi
  have:s.Args.drop i= []:=List.drop_eq_nil_of_le (by simp at hi;omega)
  exact ⟨i,by rw [this];rfl⟩
 |cons p k ih=>
  intro i w hi
  rw [List.length_cons] at hi
  obtain ⟨j,hj⟩:=ih (i+1) w (by omega)
  have hlt:i < s.Args.length:=by omega
  obtain ⟨h1,h2⟩:=h (s.Args.getD i default) (by rw [Ro _ i hlt];exact List.getElem_mem hlt)
  rw [P4,ifp (show (i:Int) < (s.Args.length:Int) by omega),Sr,Yt L v _ _ _ hv hs h1 h2,Option.bind_some,Zu s.Args i hlt,Aas,hj,A02]
  generalize s.Args.getD i default=y
  by_cases hx:Od v y [p.Type_]=0
  ·exact ⟨j,by simp [hx]⟩
  ·exact ⟨i,by simp [hx,i4 hx]⟩
theorem Aw3(L:Nat)(v:Ai)(s:Ab)(ps:List Be)(hv:D8 v)(hs:Vr v.Site 1099511627776)(h:SB L s):Pr L v s ps=some (Ak4 v ps s):=by
 have hM:=Cf
 have hL:=h.fuel
 obtain ⟨b1,b2,b3,b4⟩:=h.de
 have hw:=Yt L v s.E 3 3 hv hs h.e b1
 simp only [Yb,Pr,Ao,Au,Al,Am,Ar,Ap,Ak,Av,Aw,Aq,Ax,Aa.cp_eq,hw,A02,Ak4]
 by_cases hl:s.Args.length=ps.length
 ·obtain ⟨j,hj⟩:=At2 L ps v s hv hs (fun x hx=>⟨h.args x hx,b3 x hx⟩) ps 0 0 (by omega)
  rw [List.drop_zero] at hj
  have:((s.Args.length:Int) != (ps.length:Int))=false:=by rw [hl];exact bne_self_eq_false _
  simp only [this,cond_false,Alx L ps v s L (by omega) (by omega),hj,Option.bind_some,hl,ne_eq,not_true_eq_false,if_false]
  by_cases hz:Aas v s.Args ps=0
  ·simp [hz,f6]
  ·simp [i4 hz,hz,P9]
 ·have:((s.Args.length:Int) != (ps.length:Int))=true:=x0 (by omega)
  simp [this,hl]
end Go.Proofs.YtcbandfdmbkokaaGreat.Ev
