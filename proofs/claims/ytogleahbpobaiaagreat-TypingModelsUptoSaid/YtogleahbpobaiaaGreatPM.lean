/-  Chapter 14, plainly: statements of the program. -/
import Derived.Test.YtogleahbpobaiaaGreatQA
import Derived.Test.YtogleahbpobaiaaGreatPK
namespace Go.Proofs.YtogleahbpobaiaaGreat.Ev
open Go An
set_option maxRecDepth 100000
set_option linter.unusedVariables false
set_option linter.unusedSimpArgs false
set_option linter.unnecessarySimpa false
def Oy(v:Aq)(e:Ab)(l:List Int):Int:=if (Alo v e).2≠0 then (Alo v e).2 else if l.any (fun t=>(Alo v e).1 == t) then 0 else 10
theorem Akz(L:Nat)(r1:Int×Int)(a2:List Int)(a1:Ab):∀(k:List Int) (i:Nat) (v:Int),∃j,D7 L r1 a2 a1 k i v=some (bif k.any (fun t=>r1.1 == t) then (0,(0,j)) else (1,(v,j))):=by
 intro k
 induction k with
 |nil=>intro i v;exact ⟨i,rfl⟩
 |cons x k ih=>
  intro i v
  obtain ⟨j,hj⟩:=ih (i+1) v
  rw [D7,hj,List.any_cons]
  cases r1.1 == x with
  |true=>exact ⟨i,rfl⟩
  |false=>exact ⟨j,rfl⟩
theorem Gg(L:Nat)(r:Aj)(e:Ab)(l:List Int)(hr:Ec r.u_env)(he:Bv e)(hL:maxLen+dE e < L)(hl:l.length≤1048576):Bw L r e l=some (Oy r.u_env e l):=by
 have hM:=Bd
 obtain ⟨j,hj⟩:=Akz L (Alo r.u_env e) l e l 0 0
 simp only [v5,J2,Hf,Bw,J2,Hf,aN,aB,Ab.cp_eq,A4c he r.u_env hr L hL,Ait L _ l e L (by omega) (by omega),hj,Option.bind_some,Oy]
 by_cases h:(Alo r.u_env e).2=0
 ·cases hb:l.any (fun t=>(Alo r.u_env e).1 == t)<;>simp [h,H2,S0]
 ·simp [h,Um h]
theorem Ajc(L:Nat)(r1:Int×Bool)(a2:List Int):∀(k:List Int) (i:Nat) (v:Int),∃j,Dx L r1 a2 k i v=some (bif k.any (fun t=>r1.1 == t) then (0,(0,j)) else (1,(v,j))):=by
 intro k
 induction k with
 |nil=>intro i v;exact ⟨i,rfl⟩
 |cons x k ih=>
  intro i v
  obtain ⟨j,hj⟩:=ih (i+1) v
  rw [Dx,hj,List.any_cons]
  cases r1.1 == x with
  |true=>exact ⟨i,rfl⟩
  |false=>exact ⟨j,rfl⟩
def Aqs(v:Aq)(n:ByteArray)(found:Bool)(l:List Int):Int:=match Ar2 v.Locals n with
 |none=>5
 |some t=>if found=false then 5 else if l.any (fun x=>t == x) then 0 else 10
theorem Aob(L:Nat)(r:Aj)(n:ByteArray)(found:Bool)(l:List Int)(hr:Ec r.u_env)(hL:maxLen < L)(hl:l.length≤1048576):Hr L r n found l=some (Aqs r.u_env n found l):=by
 have hM:=Bd
 have h2:=hr.2.1.1
 obtain ⟨j,hj⟩:=Ajc L (o2 (Ar2 r.u_env.Locals n)) l l 0 0
 simp only [Uk,Hr,m4,Ji,Gq,Rw,Ji,Gq,aN,aB,Agr L _ n h2 (by omega),Ahk L _ l L (by omega) (by omega),hj,Option.bind_some,Aqs,Kq]
 cases Ar2 r.u_env.Locals n with
 |none=>rfl
 |some t=>
  cases found with
  |false=>rfl
  |true=>cases hb:l.any (fun x=>t == x)<;>simp [o2,hb,H2,S0]
theorem Afy(L:Nat)(r:Aj)(n k:ByteArray)(hr:Ec r.u_env)(hL:maxLen < L):F6 L r n k=some (decide (Gf r.u_env.Site n=k)):=by
 simp only [Yl,F6,aN,aB,Ass L _ n hr.2.2.len hL,Em,Option.bind_some]
def y6(v:Aq):List Ab→Int
 | []=>0
 |x::k=>if Oy v x [1]≠0 then Oy v x [1] else y6 v k
def Rl(v:Aq)(s:Ac)(kind:ByteArray)(l:List Ab):Int:=if Gf v.Site s.Name=kind then y6 v l else 5
theorem Aky(L:Nat)(r:Aj)(a3:List Ab)(a1:Ac)(hr:Ec r.u_env):∀(k:List Ab) (i:Nat) (v:Int),(∀x∈k,Bv x∧maxLen+dE x < L)→∃j,D6 L r a3 a1 k i v=some (bif y6 r.u_env k != 0 then (0,(y6 r.u_env k,j)) else (1,(v,j))):=by
 intro k
 induction k with
 |nil=>intro i v _;exact ⟨i,rfl⟩
 |cons x k ih=>
  intro i v h
  obtain ⟨j,hj⟩:=ih (i+1) v fun y hy=>h y (by simp [hy])
  obtain ⟨h1,h2⟩:=h x (by simp)
  rw [D6,Gg L r x [1] hr h1 h2 (by simp),Option.bind_some,y6,hj]
  by_cases hx:Oy r.u_env x [1]=0
  ·exact ⟨j,by simp [hx]⟩
  ·exact ⟨i,by simp [hx,Um hx]⟩
theorem Sc(L:Nat)(r:Aj)(s:Ac)(kind:ByteArray)(l:List Ab)(hr:Ec r.u_env)(hL:maxLen < L)(hl:l.length≤2)(h:∀x∈l,Bv x∧maxLen+dE x < L):B6 L r s kind l=some (Rl r.u_env s kind l):=by
 have hM:=Bd
 obtain ⟨j,hj⟩:=Aky L r l s hr l 0 0 h
 simp only [u9,J1,He,B6,J1,He,aN,aB,Afy L r _ kind hr hL,Ais L r l s L (by omega) (by omega),hj,Option.bind_some,Rl]
 by_cases hk:Gf r.u_env.Site s.Name=kind
 ·by_cases hz:y6 r.u_env l=0
  ·simp [hk,hz,S0]
  ·simp [hk,Um hz,H2]
 ·simp [hk]
theorem Aoe(L:Nat)(r:Aj)(r1:Int×Bool)(s:Ac)(hr:Ec r.u_env)(he:Bv s.E)(hL:maxLen+dE s.E < L):∀(k:List Al) (i:Nat) (v:Int),∃j,Ez L r r1 s k i v=some (match k.find? (fun x=>decide (x.Name=s.Name)) with|some x=>(0,(Oy r.u_env s.E [x.Type_],j))|none=>(1,(v,j))):=by
 intro k
 induction k with
 |nil=>intro i v;exact ⟨i,rfl⟩
 |cons x k ih=>
  intro i v
  obtain ⟨j,hj⟩:=ih (i+1) v
  rw [Ez,List.find?_cons,Em]
  cases decide (x.Name=s.Name) with
  |true=>exact ⟨i,by simp [Ab.cp_eq,Gg L r s.E [x.Type_] hr he hL (by simp)]⟩
  |false=>exact ⟨j,hj⟩
def Bs4(v:Aq)(s:Ac):Int:=match Ar2 v.Locals s.Name with
 |some t=>Oy v s.E [t]
 |none=>match A6y v.Site.Vars s.Name with
  |some t=>Oy v s.E [t]
  |none=>5
theorem Ao4(L:Nat)(r:Aj)(s:Ac)(hr:Ec r.u_env)(he:Bv s.E)(hL:maxLen+dE s.E < L):P9 L r s=some (Bs4 r.u_env s):=by
 have hM:=Bd
 have h2:=hr.2.1.1
 have h4:=hr.2.2.len.1
 obtain ⟨j,hj⟩:=Aoe L r (o2 (Ar2 r.u_env.Locals s.Name)) s hr he hL r.u_env.Site.Vars 0 0
 have hw:∀t,Bw L r s.E [t]=some (Oy r.u_env s.E [t]):=fun t=>Gg L r s.E [t] hr he hL (by simp)
 simp only [Afq,L1,Iv,P9,L1,Iv,aN,aB,Ab.cp_eq,Agr L _ s.Name h2 (by omega),Akr L r _ s L h4 (by omega),hj,hw,Option.bind_some,Bs4,A6y]
 cases Ar2 r.u_env.Locals s.Name with
 |some t=>rfl
 |none=>
  cases r.u_env.Site.Vars.find? (fun x=>decide (x.Name=s.Name)) with
  |some x=>rfl
  |none=>rfl
def Ap6(v:Aq):List Ab→List Ao→Int
 |x::k,p::ps=>if Oy v x [p.Type_]≠0 then Oy v x [p.Type_] else Ap6 v k ps
 |_,_=>0
def A2v(v:Aq)(ps:List Ao)(s:Ac):Int:=if s.Args.length≠ps.length then 8 else if Ap6 v s.Args ps≠0 then Ap6 v s.Args ps else Oy v s.E [3]
theorem Amf(L:Nat)(r:Aj)(s:Ac)(f:Ai)(hr:Ec r.u_env):∀(k:List Ab) (i:Nat) (v:Int),i+k.length=f.Params.length→(∀x∈k,Bv x∧maxLen+dE x < L)→∃j,Ej L r s f k i v=some (bif Ap6 r.u_env k (f.Params.drop i) != 0 then (0,(Ap6 r.u_env k (f.Params.drop i),j)) else (1,(v,j))):=by
 intro k
 induction k with
 |nil=>intro i v _ _;exact ⟨i,rfl⟩
 |cons x k ih=>
  intro i v hi h
  rw [List.length_cons] at hi
  obtain ⟨j,hj⟩:=ih (i+1) v (by omega) fun y hy=>h y (by simp [hy])
  obtain ⟨h1,h2⟩:=h x (by simp)
  have hlt:i < f.Params.length:=by omega
  rw [Ej,ifp (show (i:Int) < (f.Params.length:Int) by omega),Ix,Gg L r x _ hr h1 h2 (by simp),Option.bind_some,Y8 f.Params i hlt,Ap6,hj]
  generalize f.Params.getD i default=p
  by_cases hx:Oy r.u_env x [p.Type_]=0
  ·exact ⟨j,by simp [hx]⟩
  ·exact ⟨i,by simp [hx,Um hx]⟩
theorem Aaw(L:Nat)(r:Aj)(f:Ai)(s:Ac)(hr:Ec r.u_env)(h:SB L s):Hq L r f s=some (A2v r.u_env f.Params s):=by
 have hM:=Bd
 have hL:=h.fuel
 obtain ⟨b1,b2,b3,b4⟩:=h.de
 have hw:=Gg L r s.E [3] hr h.e b1 (by simp)
 simp only [Acf,K5,H0,Hq,K5,H0,aN,aB,Ab.cp_eq,Aja L r s f L (by omega) (by omega),hw,A2v]
 by_cases hl:s.Args.length=f.Params.length
 ·obtain ⟨j,hj⟩:=Amf L r s f hr s.Args 0 0 (by omega) fun x hx=>⟨h.args x hx,b3 x hx⟩
  rw [List.drop_zero] at hj
  have:((s.Args.length:Int) != (f.Params.length:Int))=false:=by rw [hl];exact bne_self_eq_false _
  simp only [this,cond_false,hj,Option.bind_some,hl,ne_eq,not_true_eq_false,if_false]
  by_cases hz:Ap6 r.u_env s.Args f.Params=0
  ·simp [hz,S0]
  ·simp [Um hz,hz,H2]
 ·have:((s.Args.length:Int) != (f.Params.length:Int))=true:=Aos (by omega)
  simp [this,hl]
theorem A4l(L:Nat)(l:List Aa)(m:Ad)(n:ByteArray):∀(k:List Aa) (i:Nat) (v:Int),Mn L l m n k i v=some (match k.findIdx? (fun x=>x.Name.toList == n.toList) with|some j=>(0,(((i+j:Nat):Int),((i+j:Nat):Int)))|none=>(1,(v,((i+k.length:Nat):Int)))):=by
 intro k
 induction k with
 |nil=>intro i v;rfl
 |cons x k ih=>
  intro i v
  rw [Mn,ih,List.findIdx?_cons]
  cases hc:(fun x=>x.Name.toList == n.toList) x with
  |true=>simp only [hc,cond_true,if_true];rfl
  |false=>
   simp only [hc,cond_false,if_false,Bool.false_eq_true]
   cases k.findIdx? (fun x=>x.Name.toList == n.toList) with
   |some j=>simp [Nat.add_assoc,Nat.add_comm 1]
   |none=>simp [Nat.add_assoc,Nat.add_comm 1]
theorem At4(L:Nat)(l:List Aa)(m:Ad)(n:ByteArray)(hl:l.length≤maxLen)(hL:l.length < L):Y9 L l m n=some (Rq (l.findIdx? (fun x=>decide (x.Name=n)))):=by
 simp only [Y9,Aoo,Agz,Zo,aN,aB,Axg _ _ _ _ _ hl hL,A4l,Em,Option.bind_some]
 cases l.findIdx? (fun x=>decide (x.Name=n)) with
 |none=>rfl
 |some i=>simp [Rq,H2]
def Azs(m:Ad)(n:ByteArray):Int:=Rq (m.Sites.findIdx? fun x=>decide (x.Name=n))
theorem Ast(L:Nat)(m:Ad)(n:ByteArray)(hl:m.Sites.length≤maxLen)(hL:maxLen < L):Wl L m n=some (Azs m n):=by
 simp only [Auo,Zx,Tz,Wl,Zx,Tz,aN,aB,At4 L _ m n hl (by omega),Option.bind_some,Azs]
def Bsm(m:Ad)(a b:ByteArray):Option Bg:=m.Links.find? fun l=>decide (l.From=a) && decide (l.To=b)
theorem A4k(L:Nat)(p:List Bg)(m:Ad)(a b:ByteArray):∀(k:List Bg) (i:Nat) (v:Int),Mm L p m a b k i v=some (match k.findIdx? (fun l=>decide (l.From=a) && decide (l.To=b)) with|some j=>(0,(((i+j:Nat):Int),((i+j:Nat):Int)))|none=>(1,(v,((i+k.length:Nat):Int)))):=by
 intro k
 induction k with
 |nil=>intro i v;rfl
 |cons x k ih=>
  intro i v
  rw [Mm,ih,List.findIdx?_cons,Em,Em,Di]
  cases hc:(decide (x.From=a) && decide (x.To=b)) with
  |true=>simp
  |false=>
   cases k.findIdx? (fun l=>decide (l.From=a) && decide (l.To=b)) with
   |some j=>simp [Nat.add_assoc,Nat.add_comm 1]
   |none=>simp [Nat.add_assoc,Nat.add_comm 1]
theorem Aii{α :Type} [Inhabited α](p: α→Bool)(l:List α):l.find? p=(l.findIdx? p).map fun i=>l.getD i default:=by
 induction l with
 |nil=>rfl
 |cons x l ih=>
  rw [List.find?_cons,List.findIdx?_cons]
  cases p x with
  |true=>rfl
  |false=>
   simp only [ih,Bool.false_eq_true,if_false]
   cases l.findIdx? p<;>simp
theorem Any{α :Type}{p: α→Bool}{l:List α}{i:Nat}(h:l.findIdx? p=some i):i < l.length:=by
 obtain ⟨h1,_⟩:=List.findIdx?_eq_some_iff_getElem.1 h
 exact h1
def A3m(m:Ad)(a b:ByteArray):Int×Bool:=match Bsm m a b with
 |some l=>(l.Delay,true)
 |none=>(0,false)
theorem A56(L:Nat)(m:Ad)(a b:ByteArray)(hl:m.Links.length≤maxLen)(hL:maxLen < L):Ag8 L m a b=some (A3m m a b):=by
 simp only [Aun,Zw,Ty,Ag8,Zw,Ty,Aga,Aon,Agy,Zn,aN,aB,Axf L m.Links m a b L hl (by omega),A4k,Option.bind_some,A3m,Bsm,Aii]
 cases hf:m.Links.findIdx? (fun l=>decide (l.From=a) && decide (l.To=b)) with
 |none=>rfl
 |some i=>
  have hi:=Any hf
  have h1:decide ((i:Int) < 0)=false:=decide_eq_false (by omega)
  simp only [H2,Option.bind_some,Nat.zero_add,h1,cond_false,nn,if_true,Ky hi,Ix,Option.map_some]
end Go.Proofs.YtogleahbpobaiaaGreat.Ev
namespace Go.Proofs.YtogleahbpobaiaaGreat.Ev
open Go An
set_option maxRecDepth 100000
set_option linter.unusedVariables false
set_option linter.unusedSimpArgs false
set_option linter.unnecessarySimpa false
structure MB (L:Nat) (m:Ad) (v:Aq):Prop where
 fuel:maxLen < L
 ev:Ec v
 st:U9 v.Site 1099511627776
 sites:m.Sites.length≤1099511627776
 links:m.Links.length≤1099511627776
 each:∀d∈m.Sites,U9 d 1099511627776
theorem U9.max{s:Aa}(h:U9 s 1099511627776):U9 s maxLen:=h.mono (by rw [Bd];omega)
def Bfa(s:Aa)(n:ByteArray):Option (List Ao):=(s.Routines.find? fun x=>decide (x.Name=n)).map (·.Params)
def A45(v:Aq)(s:Ac):Int:=match Bfa v.Site s.Name with
 |none=>5
 |some ps=>A2v v ps s
def Bfd(m:Ad)(v:Aq)(s:Ac):Int:=match m.Sites.find? (fun x=>decide (x.Name=s.Of)) with
 |none=>5
 |some d=>match Bfa d s.Name with
  |none=>5
  |some ps=>if (A3m m v.Site.Name s.Of).2=true then A2v v ps s else 16
def A6f(m:Ad)(v:Aq)(s:Ac):Int:=
 if s.Op=1 then Bs4 v s
 else if s.Op=2 then Aqs v s.Name (decide (Gf v.Site s.Of=Amd)) [1,3]
 else if s.Op=3∨s.Op=4 then Oy v s.E [2]
 else if s.Op=5 then Oy v s.E [3]
 else if s.Op=6 then Rl v s Hl [s.E,s.F]
 else if s.Op=7 then Rl v s Hl [s.E]
 else if s.Op=8 then Rl v s Im [s.E]
 else if s.Op=9 then Aqs v s.Of (decide (Gf v.Site s.Name=Im)) [1]
 else if s.Op=10 then Rl v s An0 []
 else if s.Op=11 then Rl v s R7 []
 else if s.Op=12 then Rl v s R7 [s.E]
 else if s.Op=13 then Bfd m v s
 else if s.Op=14 then A45 v s
 else if s.Op=15 then (if Gf v.Site s.Name=Afs then Oy v s.E [1,3] else 5)
 else if s.Op=16 then Rl v s Aio [s.E]
 else if s.Op=17 then Rl v s R6 [s.E]
 else 0
theorem y5{α :Type}(l:List α)(p: α→Bool):decide (Rq (l.findIdx? p) < 0)=(l.findIdx? p).isNone:=by
 cases l.findIdx? p with
 |none=>rfl
 |some i=>exact decide_eq_false (by simp [Rq])
theorem Aod(L:Nat)(r:Aj)(s:Ac)(hm:MB L r.u_m r.u_env)(hs:SB L s):Oz L r s=some (Bfd r.u_m r.u_env s):=by
 have hM:=Bd
 have h1:=hm.sites
 have h2:=hm.links
 have hL:=hm.fuel
 simp only [Ul,Oz,aN,aB,Ac.cp_eq,Ast L r.u_m s.Of (by omega) hL,A56 L r.u_m _ _ (show r.u_m.Links.length≤maxLen by omega) hL,Option.bind_some,Bfd,Aii,Azs,y5]
 cases hf:r.u_m.Sites.findIdx? (fun x=>decide (x.Name=s.Of)) with
 |none=>rfl
 |some i=>
  have hi:=Any hf
  have hd:U9 (r.u_m.Sites.getD i default) 1099511627776:=hm.each _ (by rw [Hk _ i hi];exact List.getElem_mem hi)
  simp only [Option.isNone_some,cond_false,Rq,nn,if_true,Ky hi,Ix,Option.map_some,Sb L _ s.Name hd.max.2.2.2.2.2.2.2.2.2 (Nat.lt_of_le_of_lt hd.max.2.2.2.2.2.2.2.2.2 hL),Option.bind_some,Sd,y5,Bfa,Aii]
  cases hg:(r.u_m.Sites.getD i default).Routines.findIdx? (fun x=>decide (x.Name=s.Name)) with
  |none=>rfl
  |some j=>
   have hj:=Any hg
   simp only [Option.isNone_some,cond_false,Rq,nn,if_true,Ky hj,Ix,Option.map_some,Aaw L r _ s hm.ev hs,Option.bind_some]
   cases (A3m r.u_m r.u_env.Site.Name s.Of).2<;>rfl
theorem Ao3(L:Nat)(r:Aj)(s:Ac)(hm:MB L r.u_m r.u_env)(hs:SB L s):K7 L r s=some (A6f r.u_m r.u_env s):=by
 have hM:=Bd
 have hL:=hm.fuel
 have hv:=hm.ev
 obtain ⟨b1,b2,b3,b4⟩:=hs.de
 have w:∀l:List Int,l.length≤2→Bw L r s.E l=some (Oy r.u_env s.E l):=fun l hl=>Gg L r s.E l hv hs.e b1 (by omega)
 have n1:∀k,B6 L r s k [s.E]=some (Rl r.u_env s k [s.E]):=fun k=>Sc L r s k [s.E] hv hL (by simp) fun x hx=>by
  simp only [List.mem_singleton] at hx;subst hx;exact ⟨hs.e,b1⟩
 have n2:∀k,B6 L r s k [s.E,s.F]=some (Rl r.u_env s k [s.E,s.F]):=fun k=>Sc L r s k [s.E,s.F] hv hL (by simp) fun x hx=>by
  simp only [List.mem_cons,List.not_mem_nil,or_false] at hx
  rcases hx with rfl|rfl
  ·exact ⟨hs.e,b1⟩
  ·exact ⟨hs.f,b2⟩
 have n0:∀k,B6 L r s k []=some (Rl r.u_env s k []):=fun k=>Sc L r s k [] hv hL (by simp) fun x hx=>by cases hx
 have q:∀n k,F6 L r n k=some (decide (Gf r.u_env.Site n=k)):=fun n k=>Afy L r n k hv hL
 have i:∀n b l,l.length≤2→Hr L r n b l=some (Aqs r.u_env n b l):=fun n b l hl=>Aob L r n b l hv hL (by omega)
 have hr9:(r.u_env.Site.Routines).length≤maxLen:=hm.st.max.2.2.2.2.2.2.2.2.2
 have hsp:(Option.bind (Fv L r.u_env.Site s.Name) fun r15=>bif decide (r15 < 0) then some 5 else if (0:Int)≤r15 then if r15 < ((r.u_env.Site.Routines.length:Nat):Int) then Option.bind (Hq L r (r.u_env.Site.Routines.getD (Int.toNat r15) default) s) fun r16=>some r16 else none else none)=some (A45 r.u_env s):=by
  simp only [Sb L _ s.Name hr9 (by omega),Option.bind_some,Sd,y5,A45,Bfa,Aii]
  cases hg:r.u_env.Site.Routines.findIdx? (fun x=>decide (x.Name=s.Name)) with
  |none=>rfl
  |some j=>
   have hj:=Any hg
   simp only [Option.isNone_some,cond_false,Rq,nn,if_true,Ky hj,Ix,Option.map_some,Aaw L r _ s hv hs,Option.bind_some]
 simp only [Lz,sx_typing_routine_own_0,Afp,K7,aN,aB,Ac.cp_eq,Ab.cp_eq,Ao4 L r s hv hs.e b1,q,i _ _ [1,3] (by simp),i _ _ [1] (by simp),w [2] (by simp),w [3] (by simp),w [1,3] (by simp),n0,n1,n2,Aod L r s hm hs,hsp,Option.bind_some]
 unfold A6f
 rcases Arh s.Op with h|h|h|h|h|h|h|h|h|h|h|h|h|h|h|h|h|h|h|h
 case inr.inr.inr.inr.inr.inr.inr.inr.inr.inr.inr.inr.inr.inr.inr.inr.inr.inr.inl=>
  have h':s.Op < 1∨18 < s.Op:= .inl h
  simp only [cond_false,Av h' 1 (by decide) (by decide),Av h' 2 (by decide) (by decide),Av h' 3 (by decide) (by decide),Av h' 4 (by decide) (by decide),Av h' 5 (by decide) (by decide),Av h' 6 (by decide) (by decide),Av h' 7 (by decide) (by decide),Av h' 8 (by decide) (by decide),Av h' 9 (by decide) (by decide),Av h' 10 (by decide) (by decide),Av h' 11 (by decide) (by decide),Av h' 12 (by decide) (by decide),Av h' 13 (by decide) (by decide),Av h' 14 (by decide) (by decide),Av h' 15 (by decide) (by decide),Av h' 16 (by decide) (by decide),Av h' 17 (by decide) (by decide)]
  repeat rw [if_neg (by omega)]
 case inr.inr.inr.inr.inr.inr.inr.inr.inr.inr.inr.inr.inr.inr.inr.inr.inr.inr.inr=>
  have h':s.Op < 1∨18 < s.Op:= .inr h
  simp only [cond_false,Av h' 1 (by decide) (by decide),Av h' 2 (by decide) (by decide),Av h' 3 (by decide) (by decide),Av h' 4 (by decide) (by decide),Av h' 5 (by decide) (by decide),Av h' 6 (by decide) (by decide),Av h' 7 (by decide) (by decide),Av h' 8 (by decide) (by decide),Av h' 9 (by decide) (by decide),Av h' 10 (by decide) (by decide),Av h' 11 (by decide) (by decide),Av h' 12 (by decide) (by decide),Av h' 13 (by decide) (by decide),Av h' 14 (by decide) (by decide),Av h' 15 (by decide) (by decide),Av h' 16 (by decide) (by decide),Av h' 17 (by decide) (by decide)]
  repeat rw [if_neg (by omega)]
 all_goals (rw [h];first|rfl|(simp;done)|(simp;split<;>simp_all [Afs]))
theorem Aix(L:Nat)(v:Aq)(e:Ab)(a b:Int)(hv:Ec v)(hs:U9 v.Site 1099511627776)(he:Bv e)(hL:maxLen+dE e < L):Ij L v e a b=some (Oy v e [a,b]):=by
 simp only [Awr,Ij,aN,aB,Ab.cp_eq,Beq he v hv hs L hL,Option.bind_some,Oy,List.any_cons,List.any_nil,Di,Du]
 congr 1
 by_cases h:(Alo v e).2=0
 ·by_cases h1:(Alo v e).1=a
  ·simp [h,h1]
  ·by_cases h2:(Alo v e).1=b
   ·simp [h,h2]
   ·simp [h,h1,h2,Aos h1,Aos h2,beq_false_of_ne]
 ·simp [h,beq_false_of_ne h]
theorem Bm2(v:Aq)(e:Ab)(a:Int):Oy v e [a,a]=Oy v e [a]:=by
 unfold Oy;simp
theorem Aiw(L:Nat)(s:Aa)(n:ByteArray)(h:U9 s 1099511627776)(hL:maxLen < L):Qu L s n=some (Sd s n):=by
 have hM:=Bd
 have h9:=h.2.2.2.2.2.2.2.2.2
 have hf:L2 L (s.Routines.map fun x=>x.Name) n=some (A5v (s.Routines.map fun x=>x.Name) n):=Afx L _ n (by rw [List.length_map];omega) (by rw [List.length_map];omega)
 simp only [Akg,Qu,aN,aB,An7 L s h hL,Option.bind_some]
 rw [ifp (by omega),ifp (by simp only [Iy,List.length_cons,List.length_nil];omega)]
 rw [show (Iy s).getD 9 default=s.Routines.map fun x=>x.Name from rfl,hf,Option.bind_some]
 simp only [A5v,Sd,List.findIdx?_map]
 rfl
theorem Bbh(L:Nat)(n:ByteArray)(m:Ad):∀(k:List Aa) (i:Nat) (v:Int),Rh L n m k i v=some (match k.findIdx? (fun x=>x.Name.toList == n.toList) with|some j=>(0,(((i+j:Nat):Int),((i+j:Nat):Int)))|none=>(1,(v,((i+k.length:Nat):Int)))):=by
 intro k
 induction k with
 |nil=>intro i v;rfl
 |cons x k ih=>
  intro i v
  rw [Rh,ih,List.findIdx?_cons]
  cases hc:(fun x:Aa=>x.Name.toList == n.toList) x with
  |true=>simp only [hc,cond_true,if_true];rfl
  |false=>
   simp only [hc,cond_false,if_false,Bool.false_eq_true]
   cases k.findIdx? (fun x=>x.Name.toList == n.toList) with
   |some j=>simp [Nat.add_assoc,Nat.add_comm 1]
   |none=>simp [Nat.add_assoc,Nat.add_comm 1]
theorem Azl(L:Nat)(m:Ad)(n:ByteArray)(hl:m.Sites.length≤maxLen)(hL:maxLen < L):Vd L m n=some (Azs m n):=by
 simp only [A2l,Afc,Yz,Vd,Afc,Yz,aN,aB,A3u L n m L hl (by omega),Bbh,Em,Option.bind_some,Azs]
 cases m.Sites.findIdx? (fun x=>decide (x.Name=n)) with
 |none=>rfl
 |some i=>simp [Rq,H2]
theorem Bbg(L:Nat)(a b:ByteArray)(m:Ad):∀(k:List Bg) (i:Nat) (v:Int) (w:Bool),i+k.length≤m.Links.length→∃j,Rg L a b m k i v w=some (match k.find? (fun l=>decide (l.From=a) && decide (l.To=b)) with|some l=>(0,(l.Delay,true,j))|none=>(1,(v,w,j))):=by
 intro k
 induction k with
 |nil=>intro i v w _;exact ⟨i,rfl⟩
 |cons x k ih=>
  intro i v w hi
  rw [List.length_cons] at hi
  obtain ⟨j,hj⟩:=ih (i+1) v w (by omega)
  rw [Rg,hj,List.find?_cons,Em,Em,ifp (show (0:Int)≤(i:Int) by omega),ifp (show (i:Int) < (m.Links.length:Int) by omega),Du,Option.bind_some,Di]
  cases (decide (x.From=a) && decide (x.To=b)) with
  |true=>exact ⟨i,rfl⟩
  |false=>exact ⟨j,rfl⟩
theorem Ben(L:Nat)(m:Ad)(a b:ByteArray)(hl:m.Links.length≤maxLen)(hL:maxLen < L):Amz L m a b=some (A3m m a b):=by
 obtain ⟨j,hj⟩:=Bbg L a b m m.Links 0 0 false (by omega)
 simp only [A2k,Afb,Yy,Amz,Afb,Yy,aN,aB,A3t L a b m L hl (by omega),hj,Option.bind_some,A3m,Bsm]
 cases m.Links.find? (fun l=>decide (l.From=a) && decide (l.To=b))<;>rfl
theorem Bbj(L:Nat)(ps:List Ao)(v:Aq)(s:Ac)(hv:Ec v)(hs:U9 v.Site 1099511627776)(h:∀x∈s.Args,Bv x∧maxLen+dE x < L):∀(k:List Ao) (i:Nat) (w:Int),i+k.length=s.Args.length→∃j,Rj L ps v s k i w=some (bif Ap6 v (s.Args.drop i) k != 0 then (0,(Ap6 v (s.Args.drop i) k,j)) else (1,(w,j))):=by
 intro k
 induction k with
 |nil=>
  intro i w hi
  have:s.Args.drop i= []:=List.drop_eq_nil_of_le (by simp at hi;omega)
  exact ⟨i,by rw [this];rfl⟩
 |cons p k ih=>
  intro i w hi
  rw [List.length_cons] at hi
  obtain ⟨j,hj⟩:=ih (i+1) w (by omega)
  have hlt:i < s.Args.length:=by omega
  obtain ⟨h1,h2⟩:=h (s.Args.getD i default) (by rw [Hk _ i hlt];exact List.getElem_mem hlt)
  rw [Rj,ifp (show (i:Int) < (s.Args.length:Int) by omega),Ix,Aix L v _ _ _ hv hs h1 h2,Option.bind_some,Y8 s.Args i hlt,Ap6,hj,Bm2]
  generalize s.Args.getD i default=y
  by_cases hx:Oy v y [p.Type_]=0
  ·exact ⟨j,by simp [hx]⟩
  ·exact ⟨i,by simp [hx,Um hx]⟩
theorem Bes(L:Nat)(v:Aq)(s:Ac)(ps:List Ao)(hv:Ec v)(hs:U9 v.Site 1099511627776)(h:SB L s):Ack L v s ps=some (A2v v ps s):=by
 have hM:=Bd
 have hL:=h.fuel
 obtain ⟨b1,b2,b3,b4⟩:=h.de
 have hw:=Aix L v s.E 3 3 hv hs h.e b1
 simp only [A2o,Afh,Y2,Ack,Afh,Y2,aN,aB,Ab.cp_eq,hw,Bm2,A2v]
 by_cases hl:s.Args.length=ps.length
 ·obtain ⟨j,hj⟩:=Bbj L ps v s hv hs (fun x hx=>⟨h.args x hx,b3 x hx⟩) ps 0 0 (by omega)
  rw [List.drop_zero] at hj
  have:((s.Args.length:Int) != (ps.length:Int))=false:=by rw [hl];exact bne_self_eq_false _
  simp only [this,cond_false,A3y L ps v s L (by omega) (by omega),hj,Option.bind_some,hl,ne_eq,not_true_eq_false,if_false]
  by_cases hz:Ap6 v s.Args ps=0
  ·simp [hz,S0]
  ·simp [Um hz,hz,H2]
 ·have:((s.Args.length:Int) != (ps.length:Int))=true:=Aos (by omega)
  simp [this,hl]
end Go.Proofs.YtogleahbpobaiaaGreat.Ev
