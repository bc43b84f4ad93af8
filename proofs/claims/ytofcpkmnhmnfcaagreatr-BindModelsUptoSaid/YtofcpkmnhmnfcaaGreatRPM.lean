/-  Chapter 14, plainly: statements of the program. -/
import Derived.Test.YtofcpkmnhmnfcaaGreatRQA
import Derived.Test.YtofcpkmnhmnfcaaGreatRPK
namespace Go.Proofs.YtofcpkmnhmnfcaaGreatR.Ev
open Go An
set_option maxRecDepth 100000
set_option linter.unusedVariables false
set_option linter.unusedSimpArgs false
set_option linter.unnecessarySimpa false
def Rh(v:Aq)(e:Ab)(l:List Int):Int:=if (Apl v e).2≠0 then (Apl v e).2 else if l.any (fun t=>(Apl v e).1 == t) then 0 else 10
theorem Aow(L:Nat)(r1:Int×Int)(a2:List Int)(a1:Ab):∀(k:List Int) (i:Nat) (v:Int),∃j,Ea L r1 a2 a1 k i v=some (bif k.any (fun t=>r1.1 == t) then (0,(0,j)) else (1,(v,j))):=by
 intro k
 induction k with
 |nil=>intro i v;exact ⟨i,rfl⟩
 |cons x k ih=>
  intro i v
  obtain ⟨j,hj⟩:=ih (i+1) v
  rw [Ea,hj,List.any_cons]
  cases r1.1 == x with
  |true=>exact ⟨i,rfl⟩
  |false=>exact ⟨j,rfl⟩
theorem Hg(L:Nat)(r:Ao)(e:Ab)(l:List Int)(hr:Ei r.u_env)(he:Bv e)(hL:maxLen+dE e < L)(hl:l.length≤1048576):Bw L r e l=some (Rh r.u_env e l):=by
 have hM:=Bb
 obtain ⟨j,hj⟩:=Aow L (Apl r.u_env e) l e l 0 0
 simp only [Adj,K2,Hy,Bw,K2,Hy,aN,aB,Ab.cp_eq,A8s he r.u_env hr L hL,Amq L _ l e L (by omega) (by omega),hj,Option.bind_some,Rh]
 by_cases h:(Apl r.u_env e).2=0
 ·cases hb:l.any (fun t=>(Apl r.u_env e).1 == t)<;>simp [h,Gm,Kx]
 ·simp [h,Wl h]
theorem Am6(L:Nat)(r1:Int×Bool)(a2:List Int):∀(k:List Int) (i:Nat) (v:Int),∃j,Dy L r1 a2 k i v=some (bif k.any (fun t=>r1.1 == t) then (0,(0,j)) else (1,(v,j))):=by
 intro k
 induction k with
 |nil=>intro i v;exact ⟨i,rfl⟩
 |cons x k ih=>
  intro i v
  obtain ⟨j,hj⟩:=ih (i+1) v
  rw [Dy,hj,List.any_cons]
  cases r1.1 == x with
  |true=>exact ⟨i,rfl⟩
  |false=>exact ⟨j,rfl⟩
def Aug(v:Aq)(n:ByteArray)(found:Bool)(l:List Int):Int:=match Avi v.Locals n with
 |none=>5
 |some t=>if found=false then 5 else if l.any (fun x=>t == x) then 0 else 10
theorem Ar0(L:Nat)(r:Ao)(n:ByteArray)(found:Bool)(l:List Int)(hr:Ei r.u_env)(hL:maxLen < L)(hl:l.length≤1048576):Ig L r n found l=some (Aug r.u_env n found l):=by
 have hM:=Bb
 have h2:=hr.2.1.1
 obtain ⟨j,hj⟩:=Am6 L (o2 (Avi r.u_env.Locals n)) l l 0 0
 simp only [Xc,Ig,Acs,Kh,Hm,Un,Kh,Hm,aN,aB,Akl L _ n h2 (by omega),Alf L _ l L (by omega) (by omega),hj,Option.bind_some,Aug,Ly]
 cases Avi r.u_env.Locals n with
 |none=>rfl
 |some t=>
  cases found with
  |false=>rfl
  |true=>cases hb:l.any (fun x=>t == x)<;>simp [o2,hb,Gm,Kx]
theorem Ajj(L:Nat)(r:Ao)(n k:ByteArray)(hr:Ei r.u_env)(hL:maxLen < L):Gq L r n k=some (decide (Hf r.u_env.Site n=k)):=by
 simp only [Aal,Gq,aN,aB,Awd L _ n hr.2.2.len hL,D0,Option.bind_some]
def Ads(v:Aq):List Ab→Int
 | []=>0
 |x::k=>if Rh v x [1]≠0 then Rh v x [1] else Ads v k
def T8(v:Aq)(s:Ad)(kind:ByteArray)(l:List Ab):Int:=if Hf v.Site s.Name=kind then Ads v l else 5
theorem Aov(L:Nat)(r:Ao)(a3:List Ab)(a1:Ad)(hr:Ei r.u_env):∀(k:List Ab) (i:Nat) (v:Int),(∀x∈k,Bv x∧maxLen+dE x < L)→∃j,D9 L r a3 a1 k i v=some (bif Ads r.u_env k != 0 then (0,(Ads r.u_env k,j)) else (1,(v,j))):=by
 intro k
 induction k with
 |nil=>intro i v _;exact ⟨i,rfl⟩
 |cons x k ih=>
  intro i v h
  obtain ⟨j,hj⟩:=ih (i+1) v fun y hy=>h y (by simp [hy])
  obtain ⟨h1,h2⟩:=h x (by simp)
  rw [D9,Hg L r x [1] hr h1 h2 (by simp),Option.bind_some,Ads,hj]
  by_cases hx:Rh r.u_env x [1]=0
  ·exact ⟨j,by simp [hx]⟩
  ·exact ⟨i,by simp [hx,Wl hx]⟩
theorem U1(L:Nat)(r:Ao)(s:Ad)(kind:ByteArray)(l:List Ab)(hr:Ei r.u_env)(hL:maxLen < L)(hl:l.length≤2)(h:∀x∈l,Bv x∧maxLen+dE x < L):B5 L r s kind l=some (T8 r.u_env s kind l):=by
 have hM:=Bb
 obtain ⟨j,hj⟩:=Aov L r l s hr l 0 0 h
 simp only [Adi,K1,Hx,B5,K1,Hx,aN,aB,Ajj L r _ kind hr hL,Amp L r l s L (by omega) (by omega),hj,Option.bind_some,T8]
 by_cases hk:Hf r.u_env.Site s.Name=kind
 ·by_cases hz:Ads r.u_env l=0
  ·simp [hk,hz,Kx]
  ·simp [hk,Wl hz,Gm]
 ·simp [hk]
theorem Ar3(L:Nat)(r:Ao)(r1:Int×Bool)(s:Ad)(hr:Ei r.u_env)(he:Bv s.E)(hL:maxLen+dE s.E < L):∀(k:List Ag) (i:Nat) (v:Int),∃j,F5 L r r1 s k i v=some (match k.find? (fun x=>decide (x.Name=s.Name)) with|some x=>(0,(Rh r.u_env s.E [x.Type_],j))|none=>(1,(v,j))):=by
 intro k
 induction k with
 |nil=>intro i v;exact ⟨i,rfl⟩
 |cons x k ih=>
  intro i v
  obtain ⟨j,hj⟩:=ih (i+1) v
  rw [F5,List.find?_cons,D0]
  cases decide (x.Name=s.Name) with
  |true=>exact ⟨i,by simp [Ab.cp_eq,Hg L r s.E [x.Type_] hr he hL (by simp)]⟩
  |false=>exact ⟨j,hj⟩
def Bx9(v:Aq)(s:Ad):Int:=match Avi v.Locals s.Name with
 |some t=>Rh v s.E [t]
 |none=>match Ba9 v.Site.Vars s.Name with
  |some t=>Rh v s.E [t]
  |none=>5
theorem Asz(L:Nat)(r:Ao)(s:Ad)(hr:Ei r.u_env)(he:Bv s.E)(hL:maxLen+dE s.E < L):So L r s=some (Bx9 r.u_env s):=by
 have hM:=Bb
 have h2:=hr.2.1.1
 have h4:=hr.2.2.len.1
 obtain ⟨j,hj⟩:=Ar3 L r (o2 (Avi r.u_env.Locals s.Name)) s hr he hL r.u_env.Site.Vars 0 0
 have hw:∀t,Bw L r s.E [t]=some (Rh r.u_env s.E [t]):=fun t=>Hg L r s.E [t] hr he hL (by simp)
 simp only [Aja,Nb,Jh,So,Nb,Jh,aN,aB,Ab.cp_eq,Akl L _ s.Name h2 (by omega),Aoo L r _ s L h4 (by omega),hj,hw,Option.bind_some,Bx9,Ba9]
 cases Avi r.u_env.Locals s.Name with
 |some t=>rfl
 |none=>
  cases r.u_env.Site.Vars.find? (fun x=>decide (x.Name=s.Name)) with
  |some x=>rfl
  |none=>rfl
def At5(v:Aq):List Ab→List Ap→Int
 |x::k,p::ps=>if Rh v x [p.Type_]≠0 then Rh v x [p.Type_] else At5 v k ps
 |_,_=>0
def A69(v:Aq)(ps:List Ap)(s:Ad):Int:=if s.Args.length≠ps.length then 8 else if At5 v s.Args ps≠0 then At5 v s.Args ps else Rh v s.E [3]
theorem Aqd(L:Nat)(r:Ao)(s:Ad)(f:Am)(hr:Ei r.u_env):∀(k:List Ab) (i:Nat) (v:Int),i+k.length=f.Params.length→(∀x∈k,Bv x∧maxLen+dE x < L)→∃j,Er L r s f k i v=some (bif At5 r.u_env k (f.Params.drop i) != 0 then (0,(At5 r.u_env k (f.Params.drop i),j)) else (1,(v,j))):=by
 intro k
 induction k with
 |nil=>intro i v _ _;exact ⟨i,rfl⟩
 |cons x k ih=>
  intro i v hi h
  rw [List.length_cons] at hi
  obtain ⟨j,hj⟩:=ih (i+1) v (by omega) fun y hy=>h y (by simp [hy])
  obtain ⟨h1,h2⟩:=h x (by simp)
  have hlt:i < f.Params.length:=by omega
  rw [Er,ifp (show (i:Int) < (f.Params.length:Int) by omega),Z8,Hg L r x _ hr h1 h2 (by simp),Option.bind_some,Abd f.Params i hlt,At5,hj]
  generalize f.Params.getD i default=p
  by_cases hx:Rh r.u_env x [p.Type_]=0
  ·exact ⟨j,by simp [hx]⟩
  ·exact ⟨i,by simp [hx,Wl hx]⟩
theorem Ael(L:Nat)(r:Ao)(f:Am)(s:Ad)(hr:Ei r.u_env)(h:SB L s):Ie L r f s=some (A69 r.u_env f.Params s):=by
 have hM:=Bb
 have hL:=h.fuel
 obtain ⟨b1,b2,b3,b4⟩:=h.de
 have hw:=Hg L r s.E [3] hr h.e b1 (by simp)
 simp only [Afv,Mc,Il,Ie,Mc,Il,aN,aB,Ab.cp_eq,Am4 L r s f L (by omega) (by omega),hw,A69]
 by_cases hl:s.Args.length=f.Params.length
 ·obtain ⟨j,hj⟩:=Aqd L r s f hr s.Args 0 0 (by omega) fun x hx=>⟨h.args x hx,b3 x hx⟩
  rw [List.drop_zero] at hj
  have:((s.Args.length:Int) != (f.Params.length:Int))=false:=by rw [hl];exact bne_self_eq_false _
  simp only [this,cond_false,hj,Option.bind_some,hl,ne_eq,not_true_eq_false,if_false]
  by_cases hz:At5 r.u_env s.Args f.Params=0
  ·simp [hz,Kx]
  ·simp [Wl hz,hz,Gm]
 ·have:((s.Args.length:Int) != (f.Params.length:Int))=true:=Asp (by omega)
  simp [this,hl]
theorem A84(L:Nat)(l:List Aa)(m:Ac)(n:ByteArray):∀(k:List Aa) (i:Nat) (v:Int),N1 L l m n k i v=some (match k.findIdx? (fun x=>x.Name.toList == n.toList) with|some j=>(0,(((i+j:Nat):Int),((i+j:Nat):Int)))|none=>(1,(v,((i+k.length:Nat):Int)))):=by
 intro k
 induction k with
 |nil=>intro i v;rfl
 |cons x k ih=>
  intro i v
  rw [N1,ih,List.findIdx?_cons]
  cases hc:(fun x=>x.Name.toList == n.toList) x with
  |true=>simp only [hc,cond_true,if_true];rfl
  |false=>
   simp only [hc,cond_false,if_false,Bool.false_eq_true]
   cases k.findIdx? (fun x=>x.Name.toList == n.toList) with
   |some j=>simp [Nat.add_assoc,Nat.add_comm 1]
   |none=>simp [Nat.add_assoc,Nat.add_comm 1]
theorem Axz(L:Nat)(l:List Aa)(m:Ac)(n:ByteArray)(hl:l.length≤maxLen)(hL:l.length < L):Abe L l m n=some (N7 (l.findIdx? (fun x=>decide (x.Name=n)))):=by
 simp only [Abe,Asj,Abz,aN,aB,A09 _ _ _ _ _ hl hL,A84,D0,Option.bind_some]
 cases l.findIdx? (fun x=>decide (x.Name=n)) with
 |none=>rfl
 |some i=>simp [N7,Gm]
def A3m(m:Ac)(n:ByteArray):Int:=N7 (m.Sites.findIdx? fun x=>decide (x.Name=n))
theorem Awe(L:Nat)(m:Ac)(n:ByteArray)(hl:m.Sites.length≤maxLen)(hL:maxLen < L):d6 L m n=some (A3m m n):=by
 simp only [Ayk,Ws,d6,Ws,aN,aB,Axz L _ m n hl (by omega),Option.bind_some,A3m]
def Bxs(m:Ac)(a b:ByteArray):Option Bk:=m.Links.find? fun l=>decide (l.From=a) && decide (l.To=b)
theorem A83(L:Nat)(p:List Bk)(m:Ac)(a b:ByteArray):∀(k:List Bk) (i:Nat) (v:Int),N0 L p m a b k i v=some (match k.findIdx? (fun l=>decide (l.From=a) && decide (l.To=b)) with|some j=>(0,(((i+j:Nat):Int),((i+j:Nat):Int)))|none=>(1,(v,((i+k.length:Nat):Int)))):=by
 intro k
 induction k with
 |nil=>intro i v;rfl
 |cons x k ih=>
  intro i v
  rw [N0,ih,List.findIdx?_cons,D0,D0,Dq]
  cases hc:(decide (x.From=a) && decide (x.To=b)) with
  |true=>simp
  |false=>
   cases k.findIdx? (fun l=>decide (l.From=a) && decide (l.To=b)) with
   |some j=>simp [Nat.add_assoc,Nat.add_comm 1]
   |none=>simp [Nat.add_assoc,Nat.add_comm 1]
theorem Ame{α :Type} [Inhabited α](p: α→Bool)(l:List α):l.find? p=(l.findIdx? p).map fun i=>l.getD i default:=by
 induction l with
 |nil=>rfl
 |cons x l ih=>
  rw [List.find?_cons,List.findIdx?_cons]
  cases p x with
  |true=>rfl
  |false=>
   simp only [ih,Bool.false_eq_true,if_false]
   cases l.findIdx? p<;>simp
theorem Aj1{α :Type}{p: α→Bool}{l:List α}{i:Nat}(h:l.findIdx? p=some i):i < l.length:=by
 obtain ⟨h1,_⟩:=List.findIdx?_eq_some_iff_getElem.1 h
 exact h1
def A7v(m:Ac)(a b:ByteArray):Int×Bool:=match Bxs m a b with
 |some l=>(l.Delay,true)
 |none=>(0,false)
theorem Bad(L:Nat)(m:Ac)(a b:ByteArray)(hl:m.Links.length≤maxLen)(hL:maxLen < L):Akz L m a b=some (A7v m a b):=by
 simp only [Ayj,Wr,Akz,Wr,Ajz,Asi,Aby,aN,aB,A08 L m.Links m a b L hl (by omega),A83,Option.bind_some,A7v,Bxs,Ame]
 cases hf:m.Links.findIdx? (fun l=>decide (l.From=a) && decide (l.To=b)) with
 |none=>rfl
 |some i=>
  have hi:=Aj1 hf
  have h1:decide ((i:Int) < 0)=false:=decide_eq_false (by omega)
  simp only [Gm,Option.bind_some,Nat.zero_add,h1,cond_false,nn,if_true,Hp hi,Z8,Option.map_some]
structure MB (L:Nat) (m:Ac) (v:Aq):Prop where
 fuel:maxLen < L
 ev:Ei v
 st:Ys v.Site 1099511627776
 sites:m.Sites.length≤1099511627776
 links:m.Links.length≤1099511627776
 each:∀d∈m.Sites,Ys d 1099511627776
theorem Ys.max{s:Aa}(h:Ys s 1099511627776):Ys s maxLen:=h.mono (by rw [Bb];omega)
def Bij(s:Aa)(n:ByteArray):Option (List Ap):=(s.Routines.find? fun x=>decide (x.Name=n)).map (·.Params)
def A9l(v:Aq)(s:Ad):Int:=match Bij v.Site s.Name with
 |none=>5
 |some ps=>A69 v ps s
def Bik(m:Ac)(v:Aq)(s:Ad):Int:=match m.Sites.find? (fun x=>decide (x.Name=s.Of)) with
 |none=>5
 |some d=>match Bij d s.Name with
  |none=>5
  |some ps=>if (A7v m v.Site.Name s.Of).2=true then A69 v ps s else 16
def Bal(m:Ac)(v:Aq)(s:Ad):Int:=
 if s.Op=1 then Bx9 v s
 else if s.Op=2 then Aug v s.Name (decide (Hf v.Site s.Of=Aqb)) [1,3]
 else if s.Op=3∨s.Op=4 then Rh v s.E [2]
 else if s.Op=5 then Rh v s.E [3]
 else if s.Op=6 then T8 v s H8 [s.E,s.F]
 else if s.Op=7 then T8 v s H8 [s.E]
 else if s.Op=8 then T8 v s Ja [s.E]
 else if s.Op=9 then Aug v s.Of (decide (Hf v.Site s.Name=Ja)) [1]
 else if s.Op=10 then T8 v s Arp []
 else if s.Op=11 then T8 v s Uw []
 else if s.Op=12 then T8 v s Uw [s.E]
 else if s.Op=13 then Bik m v s
 else if s.Op=14 then A9l v s
 else if s.Op=15 then (if Hf v.Site s.Name=Ajd then Rh v s.E [1,3] else 5)
 else if s.Op=16 then T8 v s Amj [s.E]
 else if s.Op=17 then T8 v s Uv [s.E]
 else 0
theorem Adr{α :Type}(l:List α)(p: α→Bool):decide (N7 (l.findIdx? p) < 0)=(l.findIdx? p).isNone:=by
 cases l.findIdx? p with
 |none=>rfl
 |some i=>exact decide_eq_false (by simp [N7])
theorem Ar2(L:Nat)(r:Ao)(s:Ad)(hm:MB L r.u_m r.u_env)(hs:SB L s):Ri L r s=some (Bik r.u_m r.u_env s):=by
 have hM:=Bb
 have h1:=hm.sites
 have h2:=hm.links
 have hL:=hm.fuel
 simp only [Xd,Ri,aN,aB,Ad.cp_eq,Awe L r.u_m s.Of (by omega) hL,Bad L r.u_m _ _ (show r.u_m.Links.length≤maxLen by omega) hL,Option.bind_some,Bik,Ame,A3m,Adr]
 cases hf:r.u_m.Sites.findIdx? (fun x=>decide (x.Name=s.Of)) with
 |none=>rfl
 |some i=>
  have hi:=Aj1 hf
  have hd:Ys (r.u_m.Sites.getD i default) 1099511627776:=hm.each _ (by rw [Hb _ i hi];exact List.getElem_mem hi)
  simp only [Option.isNone_some,cond_false,N7,nn,if_true,Hp hi,Z8,Option.map_some,U0 L _ s.Name hd.max.2.2.2.2.2.2.2.2.2 (Nat.lt_of_le_of_lt hd.max.2.2.2.2.2.2.2.2.2 hL),Option.bind_some,U2,Adr,Bij,Ame]
  cases hg:(r.u_m.Sites.getD i default).Routines.findIdx? (fun x=>decide (x.Name=s.Name)) with
  |none=>rfl
  |some j=>
   have hj:=Aj1 hg
   simp only [Option.isNone_some,cond_false,N7,nn,if_true,Hp hj,Z8,Option.map_some,Ael L r _ s hm.ev hs,Option.bind_some]
   cases (A7v r.u_m r.u_env.Site.Name s.Of).2<;>rfl
theorem Asy(L:Nat)(r:Ao)(s:Ad)(hm:MB L r.u_m r.u_env)(hs:SB L s):Md L r s=some (Bal r.u_m r.u_env s):=by
 have hM:=Bb
 have hL:=hm.fuel
 have hv:=hm.ev
 obtain ⟨b1,b2,b3,b4⟩:=hs.de
 have w:∀l:List Int,l.length≤2→Bw L r s.E l=some (Rh r.u_env s.E l):=fun l hl=>Hg L r s.E l hv hs.e b1 (by omega)
 have n1:∀k,B5 L r s k [s.E]=some (T8 r.u_env s k [s.E]):=fun k=>U1 L r s k [s.E] hv hL (by simp) fun x hx=>by
  simp only [List.mem_singleton] at hx;subst hx;exact ⟨hs.e,b1⟩
 have n2:∀k,B5 L r s k [s.E,s.F]=some (T8 r.u_env s k [s.E,s.F]):=fun k=>U1 L r s k [s.E,s.F] hv hL (by simp) fun x hx=>by
  simp only [List.mem_cons,List.not_mem_nil,or_false] at hx
  rcases hx with rfl|rfl
  ·exact ⟨hs.e,b1⟩
  ·exact ⟨hs.f,b2⟩
 have n0:∀k,B5 L r s k []=some (T8 r.u_env s k []):=fun k=>U1 L r s k [] hv hL (by simp) fun x hx=>by cases hx
 have q:∀n k,Gq L r n k=some (decide (Hf r.u_env.Site n=k)):=fun n k=>Ajj L r n k hv hL
 have i:∀n b l,l.length≤2→Ig L r n b l=some (Aug r.u_env n b l):=fun n b l hl=>Ar0 L r n b l hv hL (by omega)
 have hr9:(r.u_env.Site.Routines).length≤maxLen:=hm.st.max.2.2.2.2.2.2.2.2.2
 have hsp:(Option.bind (Gi L r.u_env.Site s.Name) fun r15=>bif decide (r15 < 0) then some 5 else if (0:Int)≤r15 then if r15 < ((r.u_env.Site.Routines.length:Nat):Int) then Option.bind (Ie L r (r.u_env.Site.Routines.getD (Int.toNat r15) default) s) fun r16=>some r16 else none else none)=some (A9l r.u_env s):=by
  simp only [U0 L _ s.Name hr9 (by omega),Option.bind_some,U2,Adr,A9l,Bij,Ame]
  cases hg:r.u_env.Site.Routines.findIdx? (fun x=>decide (x.Name=s.Name)) with
  |none=>rfl
  |some j=>
   have hj:=Aj1 hg
   simp only [Option.isNone_some,cond_false,N7,nn,if_true,Hp hj,Z8,Option.map_some,Ael L r _ s hv hs,Option.bind_some]
 simp only [Na,sx_typing_routine_own_0,Ai9,Md,aN,aB,Ad.cp_eq,Ab.cp_eq,Asz L r s hv hs.e b1,q,i _ _ [1,3] (by simp),i _ _ [1] (by simp),w [2] (by simp),w [3] (by simp),w [1,3] (by simp),n0,n1,n2,Ar2 L r s hm hs,hsp,Option.bind_some]
 unfold Bal
 rcases Auw s.Op with h|h|h|h|h|h|h|h|h|h|h|h|h|h|h|h|h|h|h|h
 case inr.inr.inr.inr.inr.inr.inr.inr.inr.inr.inr.inr.inr.inr.inr.inr.inr.inr.inl=>
  have h':s.Op < 1∨18 < s.Op:= .inl h
  simp only [cond_false,Az h' 1 (by decide) (by decide),Az h' 2 (by decide) (by decide),Az h' 3 (by decide) (by decide),Az h' 4 (by decide) (by decide),Az h' 5 (by decide) (by decide),Az h' 6 (by decide) (by decide),Az h' 7 (by decide) (by decide),Az h' 8 (by decide) (by decide),Az h' 9 (by decide) (by decide),Az h' 10 (by decide) (by decide),Az h' 11 (by decide) (by decide),Az h' 12 (by decide) (by decide),Az h' 13 (by decide) (by decide),Az h' 14 (by decide) (by decide),Az h' 15 (by decide) (by decide),Az h' 16 (by decide) (by decide),Az h' 17 (by decide) (by decide)]
  repeat rw [if_neg (by omega)]
 case inr.inr.inr.inr.inr.inr.inr.inr.inr.inr.inr.inr.inr.inr.inr.inr.inr.inr.inr=>
  have h':s.Op < 1∨18 < s.Op:= .inr h
  simp only [cond_false,Az h' 1 (by decide) (by decide),Az h' 2 (by decide) (by decide),Az h' 3 (by decide) (by decide),Az h' 4 (by decide) (by decide),Az h' 5 (by decide) (by decide),Az h' 6 (by decide) (by decide),Az h' 7 (by decide) (by decide),Az h' 8 (by decide) (by decide),Az h' 9 (by decide) (by decide),Az h' 10 (by decide) (by decide),Az h' 11 (by decide) (by decide),Az h' 12 (by decide) (by decide),Az h' 13 (by decide) (by decide),Az h' 14 (by decide) (by decide),Az h' 15 (by decide) (by decide),Az h' 16 (by decide) (by decide),Az h' 17 (by decide) (by decide)]
  repeat rw [if_neg (by omega)]
 all_goals (rw [h];first|rfl|(simp;done)|(simp;split<;>simp_all [Ajd]))
theorem Ams(L:Nat)(v:Aq)(e:Ab)(a b:Int)(hv:Ei v)(hs:Ys v.Site 1099511627776)(he:Bv e)(hL:maxLen+dE e < L):I8 L v e a b=some (Rh v e [a,b]):=by
 simp only [A0k,I8,aN,aB,Ab.cp_eq,Bhv he v hv hs L hL,Option.bind_some,Rh,List.any_cons,List.any_nil,Dq,Dt]
 congr 1
 by_cases h:(Apl v e).2=0
 ·by_cases h1:(Apl v e).1=a
  ·simp [h,h1]
  ·by_cases h2:(Apl v e).1=b
   ·simp [h,h2]
   ·simp [h,h1,h2,Asp h1,Asp h2,beq_false_of_ne]
 ·simp [h,beq_false_of_ne h]
theorem Brs(v:Aq)(e:Ab)(a:Int):Rh v e [a,a]=Rh v e [a]:=by
 unfold Rh;simp
theorem Amr(L:Nat)(s:Aa)(n:ByteArray)(h:Ys s 1099511627776)(hL:maxLen < L):Tg L s n=some (U2 s n):=by
 have hM:=Bb
 have h9:=h.2.2.2.2.2.2.2.2.2
 have hf:Nc L (s.Routines.map fun x=>x.Name) n=some (A92 (s.Routines.map fun x=>x.Name) n):=Aji L _ n (by rw [List.length_map];omega) (by rw [List.length_map];omega)
 simp only [Aoa,Tg,aN,aB,Arw L s h hL,Option.bind_some]
 rw [ifp (by omega),ifp (by simp only [Ji,List.length_cons,List.length_nil];omega)]
 rw [show (Ji s).getD 9 default=s.Routines.map fun x=>x.Name from rfl,hf,Option.bind_some]
 simp only [A92,U2,List.findIdx?_map]
 rfl
theorem Bew(L:Nat)(n:ByteArray)(m:Ac):∀(k:List Aa) (i:Nat) (v:Int),T4 L n m k i v=some (match k.findIdx? (fun x=>x.Name.toList == n.toList) with|some j=>(0,(((i+j:Nat):Int),((i+j:Nat):Int)))|none=>(1,(v,((i+k.length:Nat):Int)))):=by
 intro k
 induction k with
 |nil=>intro i v;rfl
 |cons x k ih=>
  intro i v
  rw [T4,ih,List.findIdx?_cons]
  cases hc:(fun x:Aa=>x.Name.toList == n.toList) x with
  |true=>simp only [hc,cond_true,if_true];rfl
  |false=>
   simp only [hc,cond_false,if_false,Bool.false_eq_true]
   cases k.findIdx? (fun x=>x.Name.toList == n.toList) with
   |some j=>simp [Nat.add_assoc,Nat.add_comm 1]
   |none=>simp [Nat.add_assoc,Nat.add_comm 1]
theorem A3j(L:Nat)(m:Ac)(n:ByteArray)(hl:m.Sites.length≤maxLen)(hL:maxLen < L):Yx L m n=some (A3m m n):=by
 simp only [A6y,Aa3,Yx,Aa3,aN,aB,A8a L n m L hl (by omega),Bew,D0,Option.bind_some,A3m]
 cases m.Sites.findIdx? (fun x=>decide (x.Name=n)) with
 |none=>rfl
 |some i=>simp [N7,Gm]
theorem Bev(L:Nat)(a b:ByteArray)(m:Ac):∀(k:List Bk) (i:Nat) (v:Int) (w:Bool),i+k.length≤m.Links.length→∃j,T1 L a b m k i v w=some (match k.find? (fun l=>decide (l.From=a) && decide (l.To=b)) with|some l=>(0,(l.Delay,true,j))|none=>(1,(v,w,j))):=by
 intro k
 induction k with
 |nil=>intro i v w _;exact ⟨i,rfl⟩
 |cons x k ih=>
  intro i v w hi
  rw [List.length_cons] at hi
  obtain ⟨j,hj⟩:=ih (i+1) v w (by omega)
  rw [T1,hj,List.find?_cons,D0,D0,ifp (show (0:Int)≤(i:Int) by omega),ifp (show (i:Int) < (m.Links.length:Int) by omega),Dt,Option.bind_some,Dq]
  cases (decide (x.From=a) && decide (x.To=b)) with
  |true=>exact ⟨i,rfl⟩
  |false=>exact ⟨j,rfl⟩
theorem Bhs(L:Nat)(m:Ac)(a b:ByteArray)(hl:m.Links.length≤maxLen)(hL:maxLen < L):Aqw L m a b=some (A7v m a b):=by
 obtain ⟨j,hj⟩:=Bev L a b m m.Links 0 0 false (by omega)
 simp only [A6w,Aa1,Aqw,Aa1,aN,aB,A77 L a b m L hl (by omega),hj,Option.bind_some,A7v,Bxs]
 cases m.Links.find? (fun l=>decide (l.From=a) && decide (l.To=b))<;>rfl
theorem Bey(L:Nat)(ps:List Ap)(v:Aq)(s:Ad)(hv:Ei v)(hs:Ys v.Site 1099511627776)(h:∀x∈s.Args,Bv x∧maxLen+dE x < L):∀(k:List Ap) (i:Nat) (w:Int),i+k.length=s.Args.length→∃j,T6 L ps v s k i w=some (bif At5 v (s.Args.drop i) k != 0 then (0,(At5 v (s.Args.drop i) k,j)) else (1,(w,j))):=by
 intro k
 induction k with
 |nil=>
  intro i w hi
  have:s.Args.drop i= []:=List.drop_eq_nil_of_le (by simp at hi;omega)
  exact ⟨i,by rw [this];rfl⟩
 |cons p k ih=>
  intro i w hi
  rw [List.length_cons] at hi
  obtain ⟨j,hj⟩:=ih (i+1) w (by omega)
  have hlt:i < s.Args.length:=by omega
  obtain ⟨h1,h2⟩:=h (s.Args.getD i default) (by rw [Hb _ i hlt];exact List.getElem_mem hlt)
  rw [T6,ifp (show (i:Int) < (s.Args.length:Int) by omega),Z8,Ams L v _ _ _ hv hs h1 h2,Option.bind_some,Abd s.Args i hlt,At5,hj,Brs]
  generalize s.Args.getD i default=y
  by_cases hx:Rh v y [p.Type_]=0
  ·exact ⟨j,by simp [hx]⟩
  ·exact ⟨i,by simp [hx,Wl hx]⟩
theorem Bhx(L:Nat)(v:Aq)(s:Ad)(ps:List Ap)(hv:Ei v)(hs:Ys v.Site 1099511627776)(h:SB L s):Af4 L v s ps=some (A69 v ps s):=by
 have hM:=Bb
 have hL:=h.fuel
 obtain ⟨b1,b2,b3,b4⟩:=h.de
 have hw:=Ams L v s.E 3 3 hv hs h.e b1
 simp only [A61,Aiz,Aa6,Af4,Aiz,Aa6,aN,aB,Ab.cp_eq,hw,Brs,A69]
 by_cases hl:s.Args.length=ps.length
 ·obtain ⟨j,hj⟩:=Bey L ps v s hv hs (fun x hx=>⟨h.args x hx,b3 x hx⟩) ps 0 0 (by omega)
  rw [List.drop_zero] at hj
  have:((s.Args.length:Int) != (ps.length:Int))=false:=by rw [hl];exact bne_self_eq_false _
  simp only [this,cond_false,A8e L ps v s L (by omega) (by omega),hj,Option.bind_some,hl,ne_eq,not_true_eq_false,if_false]
  by_cases hz:At5 v s.Args ps=0
  ·simp [hz,Kx]
  ·simp [Wl hz,hz,Gm]
 ·have:((s.Args.length:Int) != (ps.length:Int))=true:=Asp (by omega)
  simp [this,hl]
end Go.Proofs.YtofcpkmnhmnfcaaGreatR.Ev
