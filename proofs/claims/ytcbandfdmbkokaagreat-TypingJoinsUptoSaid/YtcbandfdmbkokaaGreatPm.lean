/-  Chapter 14, plainly: statements of the program. -/
import Derived.Test.YtcbandfdmbkokaaGreatQ2
import Derived.Test.YtcbandfdmbkokaaGreatQ3
import Derived.Test.YtcbandfdmbkokaaGreatPl
namespace Go.Proofs.YtcbandfdmbkokaaGreat.Ev
open Go
set_option maxRecDepth 100000
set_option linter.unusedVariables false
set_option linter.unusedSimpArgs false
set_option linter.unnecessarySimpa false
def Od(v:Ai)(e:Aa)(l:List Int):Int:=if (k6 v e).2≠0 then (k6 v e).2 else if l.any (fun t=>(k6 v e).1 == t) then 0 else 10
theorem f5(L:Nat)(r1:Int×Int)(a2:List Int)(a1:Aa):∀(k:List Int) (i:Nat) (v:Int),∃j,D4 L r1 a2 a1 k i v=some (bif k.any (fun t=>r1.1 == t) then (0,(0,j)) else (1,(v,j))):=by
 intro k
 induction k with
 |nil=>intro i v;exact ⟨i,rfl⟩
 |cons x k ih=>
  intro i v
  obtain ⟨j,hj⟩:=ih (i+1) v
  rw [D4,hj,List.any_cons]
  cases r1.1 == x with
  |true=>exact ⟨i,rfl⟩
  |false=>exact ⟨j,rfl⟩
theorem Ge(L:Nat)(r:Ag)(e:Aa)(l:List Int)(hr:D8 r.u_env)(he:Ce e)(hL:maxLen+dE e < L)(hl:l.length≤1048576):Br L r e l=some (Od r.u_env e l):=by
 have hM:=Cf
 obtain ⟨j,hj⟩:=f5 L (k6 r.u_env e) l e l 0 0
 simp only [Iu,Br,Ao,Au,Al,Am,Ar,Ap,Ak,Av,Aw,Aq,Ax,Aa.cp_eq,Amf he r.u_env hr L hL,Yq L _ l e L (by omega) (by omega),hj,Option.bind_some,Od]
 by_cases h:(k6 r.u_env e).2=0
 ·cases hb:l.any (fun t=>(k6 r.u_env e).1 == t)<;>simp [h,P9,f6]
 ·simp [h,i4 h]
theorem Y8(L:Nat)(r1:Int×Bool)(a2:List Int):∀(k:List Int) (i:Nat) (v:Int),∃j,Du L r1 a2 k i v=some (bif k.any (fun t=>r1.1 == t) then (0,(0,j)) else (1,(v,j))):=by
 intro k
 induction k with
 |nil=>intro i v;exact ⟨i,rfl⟩
 |cons x k ih=>
  intro i v
  obtain ⟨j,hj⟩:=ih (i+1) v
  rw [Du,hj,List.any_cons]
  cases r1.1 == x with
  |true=>exact ⟨i,rfl⟩
  |false=>exact ⟨j,rfl⟩
def Abd(v:Ai)(n:ByteArray)(found:Bool)(l:List Int):Int:=match Acl v.Locals n with
 |none=>5
 |some t=>if found=false then 5 else if l.any (fun x=>t == x) then 0 else 10
theorem v8(L:Nat)(r:Ag)(n:ByteArray)(found:Bool)(l:List Int)(hr:D8 r.u_env)(hL:maxLen < L)(hl:l.length≤1048576):Dh L r n found l=some (Abd r.u_env n found l):=by
 have hM:=Cf
 have h2:=hr.2.1.1
 obtain ⟨j,hj⟩:=Y8 L (o2 (Acl r.u_env.Locals n)) l l 0 0
 simp only [Oe,Dh,Hw,Em,Ao,Au,Al,Am,Ar,Ap,Ak,Av,Aw,Aq,Ax,Xc L _ n h2 (by omega),Xv L _ l L (by omega) (by omega),hj,Option.bind_some,Abd,O8]
 cases Acl r.u_env.Locals n with
 |none=>rfl
 |some t=>
  cases found with
  |false=>rfl
  |true=>cases hb:l.any (fun x=>t == x)<;>simp [o2,hb,P9,f6]
theorem Wy(L:Nat)(r:Ag)(n k:ByteArray)(hr:D8 r.u_env)(hL:maxLen < L):Cu L r n k=some (decide (Oj r.u_env.Site n=k)):=by
 simp only [Qb,Cu,Ao,Au,Al,Am,Ar,Ap,Ak,Av,Aw,Aq,Ax,Ac2 L _ n hr.2.2.len hL,G8,Option.bind_some]
def U9(v:Ai):List Aa→Int
 | []=>0
 |x::k=>if Od v x [1]≠0 then Od v x [1] else U9 v k
def P5(v:Ai)(s:Ab)(kind:ByteArray)(l:List Aa):Int:=if Oj v.Site s.Name=kind then U9 v l else 5
theorem Z9(L:Nat)(r:Ag)(a3:List Aa)(a1:Ab)(hr:D8 r.u_env):∀(k:List Aa) (i:Nat) (v:Int),(∀x∈k,Ce x∧maxLen+dE x < L)→∃j,D3 L r a3 a1 k i v=some (bif U9 r.u_env k != 0 then (0,(U9 r.u_env k,j)) else (1,(v,j))):=by
 intro k
 induction k with
 |nil=>intro i v _;exact ⟨i,rfl⟩
 |cons x k ih=>
  intro i v h
  obtain ⟨j,hj⟩:=ih (i+1) v fun y hy=>h y (by simp [hy])
  obtain ⟨h1,h2⟩:=h x (by simp)
  rw [D3,Ge L r x [1] hr h1 h2 (by simp),Option.bind_some,U9,hj]
  by_cases hx:Od r.u_env x [1]=0
  ·exact ⟨j,by simp [hx]⟩
  ·exact ⟨i,by simp [hx,i4 hx]⟩
theorem Qs(L:Nat)(r:Ag)(s:Ab)(kind:ByteArray)(l:List Aa)(hr:D8 r.u_env)(hL:maxLen < L)(hl:l.length≤2)(h:∀x∈l,Ce x∧maxLen+dE x < L):B9 L r s kind l=some (P5 r.u_env s kind l):=by
 have hM:=Cf
 obtain ⟨j,hj⟩:=Z9 L r l s hr l 0 0 h
 simp only [It,B9,Ao,Au,Al,Am,Ar,Ap,Ak,Av,Aw,Aq,Ax,Wy L r _ kind hr hL,Yp L r l s L (by omega) (by omega),hj,Option.bind_some,P5]
 by_cases hk:Oj r.u_env.Site s.Name=kind
 ·by_cases hz:U9 r.u_env l=0
  ·simp [hk,hz,f6]
  ·simp [hk,i4 hz,P9]
 ·simp [hk]
theorem w5(L:Nat)(r:Ag)(r1:Int×Bool)(s:Ab)(hr:D8 r.u_env)(he:Ce s.E)(hL:maxLen+dE s.E < L):∀(k:List Bp) (i:Nat) (v:Int),∃j,Eo L r r1 s k i v=some (match k.find? (fun x=>decide (x.Name=s.Name)) with|some x=>(0,(Od r.u_env s.E [x.Type_],j))|none=>(1,(v,j))):=by
 intro k
 induction k with
 |nil=>intro i v;exact ⟨i,rfl⟩
 |cons x k ih=>
  intro i v
  obtain ⟨j,hj⟩:=ih (i+1) v
  rw [Eo,List.find?_cons,G8]
  cases decide (x.Name=s.Name) with
  |true=>exact ⟨i,by simp [Aa.cp_eq,Ge L r s.E [x.Type_] hr he hL (by simp)]⟩
  |false=>exact ⟨j,hj⟩
def A6i(v:Ai)(s:Ab):Int:=match Acl v.Locals s.Name with
 |some t=>Od v s.E [t]
 |none=>match Apc v.Site.Vars s.Name with
  |some t=>Od v s.E [t]
  |none=>5
theorem Aak(L:Nat)(r:Ag)(s:Ab)(hr:D8 r.u_env)(he:Ce s.E)(hL:maxLen+dE s.E < L):E4 L r s=some (A6i r.u_env s):=by
 have hM:=Cf
 have h2:=hr.2.1.1
 have h4:=hr.2.2.len.1
 obtain ⟨j,hj⟩:=w5 L r (o2 (Acl r.u_env.Locals s.Name)) s hr he hL r.u_env.Site.Vars 0 0
 have hw:∀t,Br L r s.E [t]=some (Od r.u_env s.E [t]):=fun t=>Ge L r s.E [t] hr he hL (by simp)
 simp only [K3,E4,Ao,Au,Al,Am,Ar,Ap,Ak,Av,Aw,Aq,Ax,Aa.cp_eq,Xc L _ s.Name h2 (by omega),Z4 L r _ s L h4 (by omega),hj,hw,Option.bind_some,A6i,Apc]
 cases Acl r.u_env.Locals s.Name with
 |some t=>rfl
 |none=>
  cases r.u_env.Site.Vars.find? (fun x=>decide (x.Name=s.Name)) with
  |some x=>rfl
  |none=>rfl
def Aas(v:Ai):List Aa→List Be→Int
 |x::k,p::ps=>if Od v x [p.Type_]≠0 then Od v x [p.Type_] else Aas v k ps
 |_,_=>0
def Ak4(v:Ai)(ps:List Be)(s:Ab):Int:=if s.Args.length≠ps.length then 8 else if Aas v s.Args ps≠0 then Aas v s.Args ps else Od v s.E [3]
theorem l7(L:Nat)(r:Ag)(s:Ab)(f:Bg)(hr:D8 r.u_env):∀(k:List Aa) (i:Nat) (v:Int),i+k.length=f.Params.length→(∀x∈k,Ce x∧maxLen+dE x < L)→∃j,Ee L r s f k i v=some (bif Aas r.u_env k (f.Params.drop i) != 0 then (0,(Aas r.u_env k (f.Params.drop i),j)) else (1,(v,j))):=by
 intro k
 induction k with
 |nil=>intro i v _ _;exact ⟨i,rfl⟩
 |cons x k ih=>
  intro i v hi h
  rw [List.length_cons] at hi
  obtain ⟨j,hj⟩:=ih (i+1) v (by omega) fun y hy=>h y (by simp [hy])
  obtain ⟨h1,h2⟩:=h x (by simp)
  have hlt:i < f.Params.length:=by omega
  rw [Ee,ifp (show (i:Int) < (f.Params.length:Int) by omega),Sr,Ge L r x _ hr h1 h2 (by simp),Option.bind_some,Zu f.Params i hlt,Aas,hj]
  generalize f.Params.getD i default=p
  by_cases hx:Od r.u_env x [p.Type_]=0
  ·exact ⟨j,by simp [hx]⟩
  ·exact ⟨i,by simp [hx,i4 hx]⟩
theorem Ve(L:Nat)(r:Ag)(f:Bg)(s:Ab)(hr:D8 r.u_env)(h:SB L s):C7 L r f s=some (Ak4 r.u_env f.Params s):=by
 have hM:=Cf
 have hL:=h.fuel
 obtain ⟨b1,b2,b3,b4⟩:=h.de
 have hw:=Ge L r s.E [3] hr h.e b1 (by simp)
 simp only [Jx,C7,Ao,Au,Al,Am,Ar,Ap,Ak,Av,Aw,Aq,Ax,Aa.cp_eq,Y3 L r s f L (by omega) (by omega),hw,Ak4]
 by_cases hl:s.Args.length=f.Params.length
 ·obtain ⟨j,hj⟩:=l7 L r s f hr s.Args 0 0 (by omega) fun x hx=>⟨h.args x hx,b3 x hx⟩
  rw [List.drop_zero] at hj
  have:((s.Args.length:Int) != (f.Params.length:Int))=false:=by rw [hl];exact bne_self_eq_false _
  simp only [this,cond_false,hj,Option.bind_some,hl,ne_eq,not_true_eq_false,if_false]
  by_cases hz:Aas r.u_env s.Args f.Params=0
  ·simp [hz,f6]
  ·simp [i4 hz,hz,P9]
 ·have:((s.Args.length:Int) != (f.Params.length:Int))=true:=x0 (by omega)
  simp [this,hl]
theorem Amp(L:Nat)(l:List Ac)(m:Af)(n:ByteArray):∀(k:List Ac) (i:Nat) (v:Int),Mm L l m n k i v=some (match k.findIdx? (fun x=>x.Name.toList == n.toList) with|some j=>(0,(((i+j:Nat):Int),((i+j:Nat):Int)))|none=>(1,(v,((i+k.length:Nat):Int)))):=by
 intro k
 induction k with
 |nil=>intro i v;rfl
 |cons x k ih=>
  intro i v
  rw [Mm,ih,List.findIdx?_cons]
  cases hc:(fun x=>x.Name.toList == n.toList) x with
  |true=>simp only [hc,cond_true,if_true];rfl
  |false=>
   simp only [hc,cond_false,if_false,Bool.false_eq_true]
   cases k.findIdx? (fun x=>x.Name.toList == n.toList) with
   |some j=>simp [Nat.add_assoc,Nat.add_comm 1]
   |none=>simp [Nat.add_assoc,Nat.add_comm 1]
theorem Ad0(L:Nat)(l:List Ac)(m:Af)(n:ByteArray)(hl:l.length≤maxLen)(hL:l.length < L):Rz L l m n=some (R2 (l.findIdx? (fun x=>decide (x.Name=n)))):=by
 simp only [Rz,Ry,Ao,Au,Al,Am,Ar,Ap,Ak,Av,Aw,Aq,Ax,Agu _ _ _ _ _ hl hL,Amp,G8,Option.bind_some]
 cases l.findIdx? (fun x=>decide (x.Name=n)) with
 |none=>rfl
 |some i=>simp [R2,P9]
def Aqo(m:Af)(n:ByteArray):Int:=R2 (m.Sites.findIdx? fun x=>decide (x.Name=n))
theorem Aot(L:Nat)(m:Af)(n:ByteArray)(hl:m.Sites.length≤maxLen)(hL:maxLen < L):O2 L m n=some (Aqo m n):=by
 simp only [Uv,O2,Ao,Au,Al,Am,Ar,Ap,Ak,Av,Aw,Aq,Ax,Ad0 L _ m n hl (by omega),Option.bind_some,Aqo]
def A5z(m:Af)(a b:ByteArray):Option Cq:=m.Links.find? fun l=>decide (l.From=a) && decide (l.To=b)
theorem Amo(L:Nat)(p:List Cq)(m:Af)(a b:ByteArray):∀(k:List Cq) (i:Nat) (v:Int),Ml L p m a b k i v=some (match k.findIdx? (fun l=>decide (l.From=a) && decide (l.To=b)) with|some j=>(0,(((i+j:Nat):Int),((i+j:Nat):Int)))|none=>(1,(v,((i+k.length:Nat):Int)))):=by
 intro k
 induction k with
 |nil=>intro i v;rfl
 |cons x k ih=>
  intro i v
  rw [Ml,ih,List.findIdx?_cons,G8,G8,Dz]
  cases hc:(decide (x.From=a) && decide (x.To=b)) with
  |true=>simp
  |false=>
   cases k.findIdx? (fun l=>decide (l.From=a) && decide (l.To=b)) with
   |some j=>simp [Nat.add_assoc,Nat.add_comm 1]
   |none=>simp [Nat.add_assoc,Nat.add_comm 1]
theorem Aa8{α :Type} [Inhabited α](p: α→Bool)(l:List α):l.find? p=(l.findIdx? p).map fun i=>l.getD i default:=by
 induction l with
 |nil=>rfl
 |cons x l ih=>
  rw [List.find?_cons,List.findIdx?_cons]
  cases p x with
  |true=>rfl
  |false=>
   simp only [ih,Bool.false_eq_true,if_false]
   cases l.findIdx? p<;>simp
theorem Adp{α :Type}{p: α→Bool}{l:List α}{i:Nat}(h:l.findIdx? p=some i):i < l.length:=by
 obtain ⟨h1,_⟩:=List.findIdx?_eq_some_iff_getElem.1 h
 exact h1
def Alq(m:Af)(a b:ByteArray):Int×Bool:=match A5z m a b with
 |some l=>(l.Delay,true)
 |none=>(0,false)
theorem Aos(L:Nat)(m:Af)(a b:ByteArray)(hl:m.Links.length≤maxLen)(hL:maxLen < L):O1 L m a b=some (Alq m a b):=by
 simp only [Uu,O1,Tx,Rx,Ao,Au,Al,Am,Ar,Ap,Ak,Av,Aw,Aq,Ax,Agt L m.Links m a b L hl (by omega),Amo,Option.bind_some,Alq,A5z,Aa8]
 cases hf:m.Links.findIdx? (fun l=>decide (l.From=a) && decide (l.To=b)) with
 |none=>rfl
 |some i=>
  have hi:=Adp hf
  have h1:decide ((i:Int) < 0)=false:=decide_eq_false (by omega)
  simp only [P9,Option.bind_some,Nat.zero_add,h1,cond_false,nn,if_true,Ub hi,Sr,Option.map_some]
end Go.Proofs.YtcbandfdmbkokaaGreat.Ev
