/-  Chapter 14, plainly: statements of the program. -/
import Derived.Test.YtofcpkmnhmnfcaaGreatRQA
import Derived.Test.YtofcpkmnhmnfcaaGreatRPK
namespace Go.Proofs.YtofcpkmnhmnfcaaGreatR.Ev
open Go An
set_option maxRecDepth 100000
set_option linter.unusedVariables false
set_option linter.unusedSimpArgs false
set_option linter.unnecessarySimpa false
def Xj(v:Au)(e:Ab)(l:List Int):Int:=if (Am8 v e).2≠0 then (Am8 v e).2 else if l.any (fun t=>(Am8 v e).1 == t) then 0 else 10
theorem Aid(L:Nat)(r1:Int×Int)(a2:List Int)(a1:Ab):∀(k:List Int) (i:Nat) (v:Int),∃j,Dy L r1 a2 a1 k i v=some (bif k.any (fun t=>r1.1 == t) then (0,(0,j)) else (1,(v,j))):=by
 intro k
 induction k with
 |nil=>intro i v;exact ⟨i,rfl⟩
 |cons x k ih=>
  intro i v
  obtain ⟨j,hj⟩:=ih (i+1) v
  rw [Dy,hj,List.any_cons]
  cases r1.1 == x with
  |true=>exact ⟨i,rfl⟩
  |false=>exact ⟨j,rfl⟩
theorem Gi(L:Nat)(r:Am)(e:Ab)(l:List Int)(hr:Kh r.u_env)(he:Cn e)(hL:maxLen+dE e < L)(hl:l.length≤1048576):Bq L r e l=some (Xj r.u_env e l):=by
 have hM:=Bx
 obtain ⟨j,hj⟩:=Aid L (Am8 r.u_env e) l e l 0 0
 simp only [Z7,Ka,Gx,Bq,Ka,Gx,aN,aB,Ab.cp_eq,A3l he r.u_env hr L hL,Afk L _ l e L (by omega) (by omega),hj,Option.bind_some,Xj]
 by_cases h:(Am8 r.u_env e).2=0
 ·cases hb:l.any (fun t=>(Am8 r.u_env e).1 == t)<;>simp [h,Nb,Sr]
 ·simp [h,ne0 h]
theorem Agr(L:Nat)(r1:Int×Bool)(a2:List Int):∀(k:List Int) (i:Nat) (v:Int),∃j,Dp L r1 a2 k i v=some (bif k.any (fun t=>r1.1 == t) then (0,(0,j)) else (1,(v,j))):=by
 intro k
 induction k with
 |nil=>intro i v;exact ⟨i,rfl⟩
 |cons x k ih=>
  intro i v
  obtain ⟨j,hj⟩:=ih (i+1) v
  rw [Dp,hj,List.any_cons]
  cases r1.1 == x with
  |true=>exact ⟨i,rfl⟩
  |false=>exact ⟨j,rfl⟩
def A2v(v:Au)(n:ByteArray)(found:Bool)(l:List Int):Int:=match A4x v.Locals n with
 |none=>5
 |some t=>if found=false then 5 else if l.any (fun x=>t == x) then 0 else 10
theorem Ak7(L:Nat)(r:Am)(n:ByteArray)(found:Bool)(l:List Int)(hr:Kh r.u_env)(hL:maxLen < L)(hl:l.length≤1048576):Hm L r n found l=some (A2v r.u_env n found l):=by
 have hM:=Bx
 have h2:=hr.2.1.1
 obtain ⟨j,hj⟩:=Agr L (o2 (A4x r.u_env.Locals n)) l l 0 0
 simp only [Tu,Hm,Zk,Jp,Gp,Rg,Jp,Gp,aN,aB,Adi L _ n h2 (by omega),Ad1 L _ l L (by omega) (by omega),hj,Option.bind_some,A2v,Zl]
 cases A4x r.u_env.Locals n with
 |none=>rfl
 |some t=>
  cases found with
  |false=>rfl
  |true=>cases hb:l.any (fun x=>t == x)<;>simp [o2,hb,Nb,Sr]
theorem Ack(L:Nat)(r:Am)(n k:ByteArray)(hr:Kh r.u_env)(hL:maxLen < L):F5 L r n k=some (decide (Anb r.u_env.Site n=k)):=by
 simp only [Xm,F5,aN,aB,Aqu L _ n hr.2.2.len hL,Jo,Option.bind_some]
def Aqh(v:Au):List Ab→Int
 | []=>0
 |x::k=>if Xj v x [1]≠0 then Xj v x [1] else Aqh v k
def Tz(v:Au)(s:Ad)(kind:ByteArray)(l:List Ab):Int:=if Anb v.Site s.Name=kind then Aqh v l else 5
theorem Aic(L:Nat)(r:Am)(a3:List Ab)(a1:Ad)(hr:Kh r.u_env):∀(k:List Ab) (i:Nat) (v:Int),(∀x∈k,Cn x∧maxLen+dE x < L)→∃j,Dx L r a3 a1 k i v=some (bif Aqh r.u_env k != 0 then (0,(Aqh r.u_env k,j)) else (1,(v,j))):=by
 intro k
 induction k with
 |nil=>intro i v _;exact ⟨i,rfl⟩
 |cons x k ih=>
  intro i v h
  obtain ⟨j,hj⟩:=ih (i+1) v fun y hy=>h y (by simp [hy])
  obtain ⟨h1,h2⟩:=h x (by simp)
  rw [Dx,Gi L r x [1] hr h1 h2 (by simp),Option.bind_some,Aqh,hj]
  by_cases hx:Xj r.u_env x [1]=0
  ·exact ⟨j,by simp [hx]⟩
  ·exact ⟨i,by simp [hx,ne0 hx]⟩
theorem Rq(L:Nat)(r:Am)(s:Ad)(kind:ByteArray)(l:List Ab)(hr:Kh r.u_env)(hL:maxLen < L)(hl:l.length≤2)(h:∀x∈l,Cn x∧maxLen+dE x < L):B2 L r s kind l=some (Tz r.u_env s kind l):=by
 have hM:=Bx
 obtain ⟨j,hj⟩:=Aic L r l s hr l 0 0 h
 simp only [Z6,J9,Gw,B2,J9,Gw,aN,aB,Ack L r _ kind hr hL,Afj L r l s L (by omega) (by omega),hj,Option.bind_some,Tz]
 by_cases hk:Anb r.u_env.Site s.Name=kind
 ·by_cases hz:Aqh r.u_env l=0
  ·simp [hk,hz,Sr]
  ·simp [hk,ne0 hz,Nb]
 ·simp [hk]
theorem Ala(L:Nat)(r:Am)(r1:Int×Bool)(s:Ad)(hr:Kh r.u_env)(he:Cn s.E)(hL:maxLen+dE s.E < L):∀(k:List Ag) (i:Nat) (v:Int),∃j,Et L r r1 s k i v=some (match k.find? (fun x=>decide (x.Name=s.Name)) with|some x=>(0,(Xj r.u_env s.E [x.Type_],j))|none=>(1,(v,j))):=by
 intro k
 induction k with
 |nil=>intro i v;exact ⟨i,rfl⟩
 |cons x k ih=>
  intro i v
  obtain ⟨j,hj⟩:=ih (i+1) v
  rw [Et,List.find?_cons,Jo]
  cases decide (x.Name=s.Name) with
  |true=>exact ⟨i,by simp [Ab.cp_eq,Gi L r s.E [x.Type_] hr he hL (by simp)]⟩
  |false=>exact ⟨j,hj⟩
def Bmv(v:Au)(s:Ad):Int:=match A4x v.Locals s.Name with
 |some t=>Xj v s.E [t]
 |none=>match Sg v.Site.Vars s.Name with
  |some t=>Xj v s.E [t]
  |none=>5
theorem Al7(L:Nat)(r:Am)(s:Ad)(hr:Kh r.u_env)(he:Cn s.E)(hL:maxLen+dE s.E < L):Pu L r s=some (Bmv r.u_env s):=by
 have hM:=Bx
 have h2:=hr.2.1.1
 have h4:=hr.2.2.len.1
 obtain ⟨j,hj⟩:=Ala L r (o2 (A4x r.u_env.Locals s.Name)) s hr he hL r.u_env.Site.Vars 0 0
 have hw:∀t,Bq L r s.E [t]=some (Xj r.u_env s.E [t]):=fun t=>Gi L r s.E [t] hr he hL (by simp)
 simp only [Acb,Lw,Ir,Pu,Lw,Ir,aN,aB,Ab.cp_eq,Adi L _ s.Name h2 (by omega),Ah8 L r _ s L h4 (by omega),hj,hw,Option.bind_some,Bmv,Sg]
 cases A4x r.u_env.Locals s.Name with
 |some t=>rfl
 |none=>
  cases r.u_env.Site.Vars.find? (fun x=>decide (x.Name=s.Name)) with
  |some x=>rfl
  |none=>rfl
def Am1(v:Au):List Ab→List Ao→Int
 |x::k,p::ps=>if Xj v x [p.Type_]≠0 then Xj v x [p.Type_] else Am1 v k ps
 |_,_=>0
def A2c(v:Au)(ps:List Ao)(s:Ad):Int:=if s.Args.length≠ps.length then 8 else if Am1 v s.Args ps≠0 then Am1 v s.Args ps else Xj v s.E [3]
theorem Ajr(L:Nat)(r:Am)(s:Ad)(f:Ap)(hr:Kh r.u_env):∀(k:List Ab) (i:Nat) (v:Int),i+k.length=f.Params.length→(∀x∈k,Cn x∧maxLen+dE x < L)→∃j,Eb L r s f k i v=some (bif Am1 r.u_env k (f.Params.drop i) != 0 then (0,(Am1 r.u_env k (f.Params.drop i),j)) else (1,(v,j))):=by
 intro k
 induction k with
 |nil=>intro i v _ _;exact ⟨i,rfl⟩
 |cons x k ih=>
  intro i v hi h
  rw [List.length_cons] at hi
  obtain ⟨j,hj⟩:=ih (i+1) v (by omega) fun y hy=>h y (by simp [hy])
  obtain ⟨h1,h2⟩:=h x (by simp)
  have hlt:i < f.Params.length:=by omega
  rw [Eb,ifp (show (i:Int) < (f.Params.length:Int) by omega),toN,Gi L r x _ hr h1 h2 (by simp),Option.bind_some,Aty f.Params i hlt,Am1,hj]
  generalize f.Params.getD i default=p
  by_cases hx:Xj r.u_env x [p.Type_]=0
  ·exact ⟨j,by simp [hx]⟩
  ·exact ⟨i,by simp [hx,ne0 hx]⟩
theorem l4(L:Nat)(r:Am)(f:Ap)(s:Ad)(hr:Kh r.u_env)(h:SB L s):Hl L r f s=some (A2c r.u_env f.Params s):=by
 have hM:=Bx
 have hL:=h.fuel
 obtain ⟨b1,b2,b3,b4⟩:=h.de
 have hw:=Gi L r s.E [3] hr h.e b1 (by simp)
 simp only [t5,Lh,Ht,Hl,Lh,Ht,aN,aB,Ab.cp_eq,Agp L r s f L (by omega) (by omega),hw,A2c]
 by_cases hl:s.Args.length=f.Params.length
 ·obtain ⟨j,hj⟩:=Ajr L r s f hr s.Args 0 0 (by omega) fun x hx=>⟨h.args x hx,b3 x hx⟩
  rw [List.drop_zero] at hj
  have:((s.Args.length:Int) != (f.Params.length:Int))=false:=by rw [hl];exact bne_self_eq_false _
  simp only [this,cond_false,hj,Option.bind_some,hl,ne_eq,not_true_eq_false,if_false]
  by_cases hz:Am1 r.u_env s.Args f.Params=0
  ·simp [hz,Sr]
  ·simp [ne0 hz,hz,Nb]
 ·have:((s.Args.length:Int) != (f.Params.length:Int))=true:=Ayu (by omega)
  simp [this,hl]
theorem A3w(L:Nat)(l:List Aa)(m:Ac)(n:ByteArray):∀(k:List Aa) (i:Nat) (v:Int),Mj L l m n k i v=some (match k.findIdx? (fun x=>x.Name.toList == n.toList) with|some j=>(0,(((i+j:Nat):Int),((i+j:Nat):Int)))|none=>(1,(v,((i+k.length:Nat):Int)))):=by
 intro k
 induction k with
 |nil=>intro i v;rfl
 |cons x k ih=>
  intro i v
  rw [Mj,ih,List.findIdx?_cons]
  cases hc:(fun x=>x.Name.toList == n.toList) x with
  |true=>simp only [hc,cond_true,if_true];rfl
  |false=>
   simp only [hc,cond_false,if_false,Bool.false_eq_true]
   cases k.findIdx? (fun x=>x.Name.toList == n.toList) with
   |some j=>simp [Nat.add_assoc,Nat.add_comm 1]
   |none=>simp [Nat.add_assoc,Nat.add_comm 1]
theorem Asp(L:Nat)(l:List Aa)(m:Ac)(n:ByteArray)(hl:l.length≤maxLen)(hL:l.length < L):Yc L l m n=some (Sf (l.findIdx? (fun x=>decide (x.Name=n)))):=by
 simp only [Yc,Alq,Yx,aN,aB,Av9 _ _ _ _ _ hl hL,A3w,Jo,Option.bind_some]
 cases l.findIdx? (fun x=>decide (x.Name=n)) with
 |none=>rfl
 |some i=>simp [Sf,Nb]
def Bbx(m:Ac)(n:ByteArray):Int:=Sf (m.Sites.findIdx? fun x=>decide (x.Name=n))
theorem Aqv(L:Nat)(m:Ac)(n:ByteArray)(hl:m.Sites.length≤maxLen)(hL:maxLen < L):Vq L m n=some (Bbx m n):=by
 simp only [Atj,Tc,Vq,Tc,aN,aB,Asp L _ m n hl (by omega),Option.bind_some,Bbx]
def Brg(m:Ac)(a b:ByteArray):Option Bj:=m.Links.find? fun l=>decide (l.From=a) && decide (l.To=b)
theorem A3v(L:Nat)(p:List Bj)(m:Ac)(a b:ByteArray):∀(k:List Bj) (i:Nat) (v:Int),Mi L p m a b k i v=some (match k.findIdx? (fun l=>decide (l.From=a) && decide (l.To=b)) with|some j=>(0,(((i+j:Nat):Int),((i+j:Nat):Int)))|none=>(1,(v,((i+k.length:Nat):Int)))):=by
 intro k
 induction k with
 |nil=>intro i v;rfl
 |cons x k ih=>
  intro i v
  rw [Mi,ih,List.findIdx?_cons,Jo,Jo,Ny]
  cases hc:(decide (x.From=a) && decide (x.To=b)) with
  |true=>simp
  |false=>
   cases k.findIdx? (fun l=>decide (l.From=a) && decide (l.To=b)) with
   |some j=>simp [Nat.add_assoc,Nat.add_comm 1]
   |none=>simp [Nat.add_assoc,Nat.add_comm 1]
theorem Aiz{α :Type} [Inhabited α](p: α→Bool)(l:List α):l.find? p=(l.findIdx? p).map fun i=>l.getD i default:=by
 induction l with
 |nil=>rfl
 |cons x l ih=>
  rw [List.find?_cons,List.findIdx?_cons]
  cases p x with
  |true=>rfl
  |false=>
   simp only [ih,Bool.false_eq_true,if_false]
   cases l.findIdx? p<;>simp
theorem Akx{α :Type}{p: α→Bool}{l:List α}{i:Nat}(h:l.findIdx? p=some i):i < l.length:=by
 obtain ⟨h1,_⟩:=List.findIdx?_eq_some_iff_getElem.1 h
 exact h1
def Ba7(m:Ac)(a b:ByteArray):Int×Bool:=match Brg m a b with
 |some l=>(l.Delay,true)
 |none=>(0,false)
theorem A42(L:Nat)(m:Ac)(a b:ByteArray)(hl:m.Links.length≤maxLen)(hL:maxLen < L):Adr L m a b=some (Ba7 m a b):=by
 simp only [Ati,Tb,Adr,Tb,Acy,Alp,Yw,aN,aB,Av8 L m.Links m a b L hl (by omega),A3v,Option.bind_some,Ba7,Brg,Aiz]
 cases hf:m.Links.findIdx? (fun l=>decide (l.From=a) && decide (l.To=b)) with
 |none=>rfl
 |some i=>
  have hi:=Akx hf
  have h1:decide ((i:Int) < 0)=false:=decide_eq_false (by omega)
  simp only [Nb,Option.bind_some,Nat.zero_add,h1,cond_false,nn,if_true,Qu hi,toN,Option.map_some]
structure MB (L:Nat) (m:Ac) (v:Au):Prop where
 fuel:maxLen < L
 ev:Kh v
 st:Ajp v.Site 1099511627776
 sites:m.Sites.length≤1099511627776
 links:m.Links.length≤1099511627776
 each:∀d∈m.Sites,Ajp d 1099511627776
theorem Ajp.max{s:Aa}(h:Ajp s 1099511627776):Ajp s maxLen:=h.mono (by rw [Bx];omega)
def Bjb(s:Aa)(n:ByteArray):Option (List Ao):=(s.Routines.find? fun x=>decide (x.Name=n)).map (·.Params)
def Axa(v:Au)(s:Ad):Int:=match Bjb v.Site s.Name with
 |none=>5
 |some ps=>A2c v ps s
def A6h(m:Ac)(v:Au)(s:Ad):Int:=match m.Sites.find? (fun x=>decide (x.Name=s.Of)) with
 |none=>5
 |some d=>match Bjb d s.Name with
  |none=>5
  |some ps=>if (Ba7 m v.Site.Name s.Of).2=true then A2c v ps s else 16
def A5a(m:Ac)(v:Au)(s:Ad):Int:=
 if s.Op=1 then Bmv v s
 else if s.Op=2 then A2v v s.Name (decide (Anb v.Site s.Of=Av1)) [1,3]
 else if s.Op=3∨s.Op=4 then Xj v s.E [2]
 else if s.Op=5 then Xj v s.E [3]
 else if s.Op=6 then Tz v s Vi [s.E,s.F]
 else if s.Op=7 then Tz v s Vi [s.E]
 else if s.Op=8 then Tz v s Ajn [s.E]
 else if s.Op=9 then A2v v s.Of (decide (Anb v.Site s.Name=Ajn)) [1]
 else if s.Op=10 then Tz v s A72 []
 else if s.Op=11 then Tz v s Ajm []
 else if s.Op=12 then Tz v s Ajm [s.E]
 else if s.Op=13 then A6h m v s
 else if s.Op=14 then Axa v s
 else if s.Op=15 then (if Anb v.Site s.Name=At8 then Xj v s.E [1,3] else 5)
 else if s.Op=16 then Tz v s A2x [s.E]
 else if s.Op=17 then Tz v s A2w [s.E]
 else 0
theorem Ana{α :Type}(l:List α)(p: α→Bool):decide (Sf (l.findIdx? p) < 0)=(l.findIdx? p).isNone:=by
 cases l.findIdx? p with
 |none=>rfl
 |some i=>exact decide_eq_false (by simp [Sf])
theorem Ak9(L:Nat)(r:Am)(s:Ad)(hm:MB L r.u_m r.u_env)(hs:SB L s):Od L r s=some (A6h r.u_m r.u_env s):=by
 have hM:=Bx
 have h1:=hm.sites
 have h2:=hm.links
 have hL:=hm.fuel
 simp only [Tv,Od,aN,aB,Ad.cp_eq,Aqv L r.u_m s.Of (by omega) hL,A42 L r.u_m _ _ (show r.u_m.Links.length≤maxLen by omega) hL,Option.bind_some,A6h,Aiz,Bbx,Ana]
 cases hf:r.u_m.Sites.findIdx? (fun x=>decide (x.Name=s.Of)) with
 |none=>rfl
 |some i=>
  have hi:=Akx hf
  have hd:Ajp (r.u_m.Sites.getD i default) 1099511627776:=hm.each _ (by rw [Iu _ i hi];exact List.getElem_mem hi)
  simp only [Option.isNone_some,cond_false,Sf,nn,if_true,Qu hi,toN,Option.map_some,Rp L _ s.Name hd.max.2.2.2.2.2.2.2.2.2 (Nat.lt_of_le_of_lt hd.max.2.2.2.2.2.2.2.2.2 hL),Option.bind_some,Aco,Ana,Bjb,Aiz]
  cases hg:(r.u_m.Sites.getD i default).Routines.findIdx? (fun x=>decide (x.Name=s.Name)) with
  |none=>rfl
  |some j=>
   have hj:=Akx hg
   simp only [Option.isNone_some,cond_false,Sf,nn,if_true,Qu hj,toN,Option.map_some,l4 L r _ s hm.ev hs,Option.bind_some]
   cases (Ba7 r.u_m r.u_env.Site.Name s.Of).2<;>rfl
theorem Al6(L:Nat)(r:Am)(s:Ad)(hm:MB L r.u_m r.u_env)(hs:SB L s):Li L r s=some (A5a r.u_m r.u_env s):=by
 have hM:=Bx
 have hL:=hm.fuel
 have hv:=hm.ev
 obtain ⟨b1,b2,b3,b4⟩:=hs.de
 have w:∀l:List Int,l.length≤2→Bq L r s.E l=some (Xj r.u_env s.E l):=fun l hl=>Gi L r s.E l hv hs.e b1 (by omega)
 have n1:∀k,B2 L r s k [s.E]=some (Tz r.u_env s k [s.E]):=fun k=>Rq L r s k [s.E] hv hL (by simp) fun x hx=>by
  simp only [List.mem_singleton] at hx;subst hx;exact ⟨hs.e,b1⟩
 have n2:∀k,B2 L r s k [s.E,s.F]=some (Tz r.u_env s k [s.E,s.F]):=fun k=>Rq L r s k [s.E,s.F] hv hL (by simp) fun x hx=>by
  simp only [List.mem_cons,List.not_mem_nil,or_false] at hx
  rcases hx with rfl|rfl
  ·exact ⟨hs.e,b1⟩
  ·exact ⟨hs.f,b2⟩
 have n0:∀k,B2 L r s k []=some (Tz r.u_env s k []):=fun k=>Rq L r s k [] hv hL (by simp) fun x hx=>by cases hx
 have q:∀n k,F5 L r n k=some (decide (Anb r.u_env.Site n=k)):=fun n k=>Ack L r n k hv hL
 have i:∀n b l,l.length≤2→Hm L r n b l=some (A2v r.u_env n b l):=fun n b l hl=>Ak7 L r n b l hv hL (by omega)
 have hr9:(r.u_env.Site.Routines).length≤maxLen:=hm.st.max.2.2.2.2.2.2.2.2.2
 have hsp:(Option.bind (Fv L r.u_env.Site s.Name) fun r15=>bif decide (r15 < 0) then some 5 else if (0:Int)≤r15 then if r15 < ((r.u_env.Site.Routines.length:Nat):Int) then Option.bind (Hl L r (r.u_env.Site.Routines.getD (Int.toNat r15) default) s) fun r16=>some r16 else none else none)=some (Axa r.u_env s):=by
  simp only [Rp L _ s.Name hr9 (by omega),Option.bind_some,Aco,Ana,Axa,Bjb,Aiz]
  cases hg:r.u_env.Site.Routines.findIdx? (fun x=>decide (x.Name=s.Name)) with
  |none=>rfl
  |some j=>
   have hj:=Akx hg
   simp only [Option.isNone_some,cond_false,Sf,nn,if_true,Qu hj,toN,Option.map_some,l4 L r _ s hv hs,Option.bind_some]
 simp only [Lv,sx_typing_routine_own_0,Aca,Li,aN,aB,Ad.cp_eq,Ab.cp_eq,Al7 L r s hv hs.e b1,q,i _ _ [1,3] (by simp),i _ _ [1] (by simp),w [2] (by simp),w [3] (by simp),w [1,3] (by simp),n0,n1,n2,Ak9 L r s hm hs,hsp,Option.bind_some]
 unfold A5a
 rcases Bbz s.Op with h|h|h|h|h|h|h|h|h|h|h|h|h|h|h|h|h|h|h|h
 case inr.inr.inr.inr.inr.inr.inr.inr.inr.inr.inr.inr.inr.inr.inr.inr.inr.inr.inl=>
  have h':s.Op < 1∨18 < s.Op:= .inl h
  simp only [cond_false,B3 h' 1 (by decide) (by decide),B3 h' 2 (by decide) (by decide),B3 h' 3 (by decide) (by decide),B3 h' 4 (by decide) (by decide),B3 h' 5 (by decide) (by decide),B3 h' 6 (by decide) (by decide),B3 h' 7 (by decide) (by decide),B3 h' 8 (by decide) (by decide),B3 h' 9 (by decide) (by decide),B3 h' 10 (by decide) (by decide),B3 h' 11 (by decide) (by decide),B3 h' 12 (by decide) (by decide),B3 h' 13 (by decide) (by decide),B3 h' 14 (by decide) (by decide),B3 h' 15 (by decide) (by decide),B3 h' 16 (by decide) (by decide),B3 h' 17 (by decide) (by decide)]
  repeat rw [if_neg (by omega)]
 case inr.inr.inr.inr.inr.inr.inr.inr.inr.inr.inr.inr.inr.inr.inr.inr.inr.inr.inr=>
  have h':s.Op < 1∨18 < s.Op:= .inr h
  simp only [cond_false,B3 h' 1 (by decide) (by decide),B3 h' 2 (by decide) (by decide),B3 h' 3 (by decide) (by decide),B3 h' 4 (by decide) (by decide),B3 h' 5 (by decide) (by decide),B3 h' 6 (by decide) (by decide),B3 h' 7 (by decide) (by decide),B3 h' 8 (by decide) (by decide),B3 h' 9 (by decide) (by decide),B3 h' 10 (by decide) (by decide),B3 h' 11 (by decide) (by decide),B3 h' 12 (by decide) (by decide),B3 h' 13 (by decide) (by decide),B3 h' 14 (by decide) (by decide),B3 h' 15 (by decide) (by decide),B3 h' 16 (by decide) (by decide),B3 h' 17 (by decide) (by decide)]
  repeat rw [if_neg (by omega)]
 all_goals (rw [h];first|rfl|(simp;done)|(simp;split<;>simp_all [At8]))
end Go.Proofs.YtofcpkmnhmnfcaaGreatR.Ev
