/-  Chapter 14, plainly: statements of the program. -/
import Derived.Test.YtfencmicmnhglaaGreatQA
import Derived.Test.YtfencmicmnhglaaGreatPK
namespace Go.Proofs.YtfencmicmnhglaaGreat.Ev
open Go An
set_option maxRecDepth 100000
set_option linter.unusedVariables false
set_option linter.unusedSimpArgs false
set_option linter.unnecessarySimpa false
def Qe(v:Ar)(e:Ab)(l:List Int):Int:=if (Ane v e).2≠0 then (Ane v e).2 else if l.any (fun t=>(Ane v e).1 == t) then 0 else 10
theorem Amn(L:Nat)(r1:Int×Int)(a2:List Int)(a1:Ab):∀(k:List Int) (i:Nat) (v:Int),∃j,Ej L r1 a2 a1 k i v=some (bif k.any (fun t=>r1.1 == t) then (0,(0,j)) else (1,(v,j))):=by
 intro k
 induction k with
 |nil=>intro i v;exact ⟨i,rfl⟩
 |cons x k ih=>
  intro i v
  obtain ⟨j,hj⟩:=ih (i+1) v
  rw [Ej,hj,List.any_cons]
  cases r1.1 == x with
  |true=>exact ⟨i,rfl⟩
  |false=>exact ⟨j,rfl⟩
theorem Hj(L:Nat)(r:Am)(e:Ab)(l:List Int)(hr:Ep r.u_env)(he:B1 e)(hL:maxLen+dE e < L)(hl:l.length≤1048576):B2 L r e l=some (Qe r.u_env e l):=by
 have hM:=Bd
 obtain ⟨j,hj⟩:=Amn L (Ane r.u_env e) l e l 0 0
 simp only [Abh,Km,Hz,B2,Km,Hz,aN,aB,Ab.cp_eq,A7e he r.u_env hr L hL,Aka L _ l e L (by omega) (by omega),hj,Option.bind_some,Qe]
 by_cases h:(Ane r.u_env e).2=0
 ·cases hb:l.any (fun t=>(Ane r.u_env e).1 == t)<;>simp [h,Hb,Qo]
 ·simp [h,Uy h]
theorem Aks(L:Nat)(r1:Int×Bool)(a2:List Int):∀(k:List Int) (i:Nat) (v:Int),∃j,D8 L r1 a2 k i v=some (bif k.any (fun t=>r1.1 == t) then (0,(0,j)) else (1,(v,j))):=by
 intro k
 induction k with
 |nil=>intro i v;exact ⟨i,rfl⟩
 |cons x k ih=>
  intro i v
  obtain ⟨j,hj⟩:=ih (i+1) v
  rw [D8,hj,List.any_cons]
  cases r1.1 == x with
  |true=>exact ⟨i,rfl⟩
  |false=>exact ⟨j,rfl⟩
def Asi(v:Ar)(n:ByteArray)(found:Bool)(l:List Int):Int:=match Atu v.Locals n with
 |none=>5
 |some t=>if found=false then 5 else if l.any (fun x=>t == x) then 0 else 10
theorem Ap3(L:Nat)(r:Am)(n:ByteArray)(found:Bool)(l:List Int)(hr:Ep r.u_env)(hL:maxLen < L)(hl:l.length≤1048576):H9 L r n found l=some (Asi r.u_env n found l):=by
 have hM:=Bd
 have h2:=hr.2.1.1
 obtain ⟨j,hj⟩:=Aks L (o2 (Atu r.u_env.Locals n)) l l 0 0
 simp only [V0,H9,Aar,J0,Hs,Td,J0,Hs,aN,aB,Ah8 L _ n h2 (by omega),Ai1 L _ l L (by omega) (by omega),hj,Option.bind_some,Asi,Kn]
 cases Atu r.u_env.Locals n with
 |none=>rfl
 |some t=>
  cases found with
  |false=>rfl
  |true=>cases hb:l.any (fun x=>t == x)<;>simp [o2,hb,Hb,Qo]
theorem Ahe(L:Nat)(r:Am)(n k:ByteArray)(hr:Ep r.u_env)(hL:maxLen < L):Gy L r n k=some (decide (Hi r.u_env.Site n=k)):=by
 simp only [Z9,Gy,aN,aB,Aum L _ n hr.2.2.len hL,Ea,Option.bind_some]
def Abs(v:Ar):List Ab→Int
 | []=>0
 |x::k=>if Qe v x [1]≠0 then Qe v x [1] else Abs v k
def S0(v:Ar)(s:Ac)(kind:ByteArray)(l:List Ab):Int:=if Hi v.Site s.Name=kind then Abs v l else 5
theorem Amm(L:Nat)(r:Am)(a3:List Ab)(a1:Ac)(hr:Ep r.u_env):∀(k:List Ab) (i:Nat) (v:Int),(∀x∈k,B1 x∧maxLen+dE x < L)→∃j,Ei L r a3 a1 k i v=some (bif Abs r.u_env k != 0 then (0,(Abs r.u_env k,j)) else (1,(v,j))):=by
 intro k
 induction k with
 |nil=>intro i v _;exact ⟨i,rfl⟩
 |cons x k ih=>
  intro i v h
  obtain ⟨j,hj⟩:=ih (i+1) v fun y hy=>h y (by simp [hy])
  obtain ⟨h1,h2⟩:=h x (by simp)
  rw [Ei,Hj L r x [1] hr h1 h2 (by simp),Option.bind_some,Abs,hj]
  by_cases hx:Qe r.u_env x [1]=0
  ·exact ⟨j,by simp [hx]⟩
  ·exact ⟨i,by simp [hx,Uy hx]⟩
theorem Ts(L:Nat)(r:Am)(s:Ac)(kind:ByteArray)(l:List Ab)(hr:Ep r.u_env)(hL:maxLen < L)(hl:l.length≤2)(h:∀x∈l,B1 x∧maxLen+dE x < L):B9 L r s kind l=some (S0 r.u_env s kind l):=by
 have hM:=Bd
 obtain ⟨j,hj⟩:=Amm L r l s hr l 0 0 h
 simp only [Abg,Kl,Hy,B9,Kl,Hy,aN,aB,Ahe L r _ kind hr hL,Aj9 L r l s L (by omega) (by omega),hj,Option.bind_some,S0]
 by_cases hk:Hi r.u_env.Site s.Name=kind
 ·by_cases hz:Abs r.u_env l=0
  ·simp [hk,hz,Qo]
  ·simp [hk,Uy hz,Hb]
 ·simp [hk]
theorem Ap6(L:Nat)(r:Am)(r1:Int×Bool)(s:Ac)(hr:Ep r.u_env)(he:B1 s.E)(hL:maxLen+dE s.E < L):∀(k:List Al) (i:Nat) (v:Int),∃j,F8 L r r1 s k i v=some (match k.find? (fun x=>decide (x.Name=s.Name)) with|some x=>(0,(Qe r.u_env s.E [x.Type_],j))|none=>(1,(v,j))):=by
 intro k
 induction k with
 |nil=>intro i v;exact ⟨i,rfl⟩
 |cons x k ih=>
  intro i v
  obtain ⟨j,hj⟩:=ih (i+1) v
  rw [F8,List.find?_cons,Ea]
  cases decide (x.Name=s.Name) with
  |true=>exact ⟨i,by simp [Ab.cp_eq,Hj L r s.E [x.Type_] hr he hL (by simp)]⟩
  |false=>exact ⟨j,hj⟩
def Bx9(v:Ar)(s:Ac):Int:=match Atu v.Locals s.Name with
 |some t=>Qe v s.E [t]
 |none=>match A0u v.Site.Vars s.Name with
  |some t=>Qe v s.E [t]
  |none=>5
theorem Aqw(L:Nat)(r:Am)(s:Ac)(hr:Ep r.u_env)(he:B1 s.E)(hL:maxLen+dE s.E < L):Rl L r s=some (Bx9 r.u_env s):=by
 have hM:=Bd
 have h2:=hr.2.1.1
 have h4:=hr.2.2.len.1
 obtain ⟨j,hj⟩:=Ap6 L r (o2 (Atu r.u_env.Locals s.Name)) s hr he hL r.u_env.Site.Vars 0 0
 have hw:∀t,B2 L r s.E [t]=some (Qe r.u_env s.E [t]):=fun t=>Hj L r s.E [t] hr he hL (by simp)
 simp only [Ag2,Mm,I9,Rl,Mm,I9,aN,aB,Ab.cp_eq,Ah8 L _ s.Name h2 (by omega),Amf L r _ s L h4 (by omega),hj,hw,Option.bind_some,Bx9,A0u]
 cases Atu r.u_env.Locals s.Name with
 |some t=>rfl
 |none=>
  cases r.u_env.Site.Vars.find? (fun x=>decide (x.Name=s.Name)) with
  |some x=>rfl
  |none=>rfl
def Arw(v:Ar):List Ab→List Ap→Int
 |x::k,p::ps=>if Qe v x [p.Type_]≠0 then Qe v x [p.Type_] else Arw v k ps
 |_,_=>0
def A5r(v:Ar)(ps:List Ap)(s:Ac):Int:=if s.Args.length≠ps.length then 8 else if Arw v s.Args ps≠0 then Arw v s.Args ps else Qe v s.E [3]
theorem An6(L:Nat)(r:Am)(s:Ac)(f:Ak)(hr:Ep r.u_env):∀(k:List Ab) (i:Nat) (v:Int),i+k.length=f.Params.length→(∀x∈k,B1 x∧maxLen+dE x < L)→∃j,Ez L r s f k i v=some (bif Arw r.u_env k (f.Params.drop i) != 0 then (0,(Arw r.u_env k (f.Params.drop i),j)) else (1,(v,j))):=by
 intro k
 induction k with
 |nil=>intro i v _ _;exact ⟨i,rfl⟩
 |cons x k ih=>
  intro i v hi h
  rw [List.length_cons] at hi
  obtain ⟨j,hj⟩:=ih (i+1) v (by omega) fun y hy=>h y (by simp [hy])
  obtain ⟨h1,h2⟩:=h x (by simp)
  have hlt:i < f.Params.length:=by omega
  rw [Ez,ifp (show (i:Int) < (f.Params.length:Int) by omega),toN,Hj L r x _ hr h1 h2 (by simp),Option.bind_some,Af1 f.Params i hlt,Arw,hj]
  generalize f.Params.getD i default=p
  by_cases hx:Qe r.u_env x [p.Type_]=0
  ·exact ⟨j,by simp [hx]⟩
  ·exact ⟨i,by simp [hx,Uy hx]⟩
theorem Aco(L:Nat)(r:Am)(f:Ak)(s:Ac)(hr:Ep r.u_env)(h:SB L s):H8 L r f s=some (A5r r.u_env f.Params s):=by
 have hM:=Bd
 have hL:=h.fuel
 obtain ⟨b1,b2,b3,b4⟩:=h.de
 have hw:=Hj L r s.E [3] hr h.e b1 (by simp)
 simp only [Ad0,Ls,Ic,H8,Ls,Ic,aN,aB,Ab.cp_eq,Akq L r s f L (by omega) (by omega),hw,A5r]
 by_cases hl:s.Args.length=f.Params.length
 ·obtain ⟨j,hj⟩:=An6 L r s f hr s.Args 0 0 (by omega) fun x hx=>⟨h.args x hx,b3 x hx⟩
  rw [List.drop_zero] at hj
  have:((s.Args.length:Int) != (f.Params.length:Int))=false:=by rw [hl];exact bne_self_eq_false _
  simp only [this,cond_false,hj,Option.bind_some,hl,ne_eq,not_true_eq_false,if_false]
  by_cases hz:Arw r.u_env s.Args f.Params=0
  ·simp [hz,Qo]
  ·simp [Uy hz,hz,Hb]
 ·have:((s.Args.length:Int) != (f.Params.length:Int))=true:=Aqk (by omega)
  simp [this,hl]
theorem A7n(L:Nat)(l:List Aa)(m:Ad)(n:ByteArray):∀(k:List Aa) (i:Nat) (v:Int),M9 L l m n k i v=some (match k.findIdx? (fun x=>x.Name.toList == n.toList) with|some j=>(0,(((i+j:Nat):Int),((i+j:Nat):Int)))|none=>(1,(v,((i+k.length:Nat):Int)))):=by
 intro k
 induction k with
 |nil=>intro i v;rfl
 |cons x k ih=>
  intro i v
  rw [M9,ih,List.findIdx?_cons]
  cases hc:(fun x=>x.Name.toList == n.toList) x with
  |true=>simp only [hc,cond_true,if_true];rfl
  |false=>
   simp only [hc,cond_false,if_false,Bool.false_eq_true]
   cases k.findIdx? (fun x=>x.Name.toList == n.toList) with
   |some j=>simp [Nat.add_assoc,Nat.add_comm 1]
   |none=>simp [Nat.add_assoc,Nat.add_comm 1]
theorem Av5(L:Nat)(l:List Aa)(m:Ad)(n:ByteArray)(hl:l.length≤maxLen)(hL:l.length < L):t8 L l m n=some (Ow (l.findIdx? (fun x=>decide (x.Name=n)))):=by
 simp only [t8,Aqg,w8,aN,aB,Azj _ _ _ _ _ hl hL,A7n,Ea,Option.bind_some]
 cases l.findIdx? (fun x=>decide (x.Name=n)) with
 |none=>rfl
 |some i=>simp [Ow,Hb]
def A12(m:Ad)(n:ByteArray):Int:=Ow (m.Sites.findIdx? fun x=>decide (x.Name=n))
theorem Aun(L:Nat)(m:Ad)(n:ByteArray)(hl:m.Sites.length≤maxLen)(hL:maxLen < L):Yf L m n=some (A12 m n):=by
 simp only [Awn,Vf,Yf,Vf,aN,aB,Av5 L _ m n hl (by omega),Option.bind_some,A12]
def Bxr(m:Ad)(a b:ByteArray):Option Bl:=m.Links.find? fun l=>decide (l.From=a) && decide (l.To=b)
theorem A7m(L:Nat)(p:List Bl)(m:Ad)(a b:ByteArray):∀(k:List Bl) (i:Nat) (v:Int),M8 L p m a b k i v=some (match k.findIdx? (fun l=>decide (l.From=a) && decide (l.To=b)) with|some j=>(0,(((i+j:Nat):Int),((i+j:Nat):Int)))|none=>(1,(v,((i+k.length:Nat):Int)))):=by
 intro k
 induction k with
 |nil=>intro i v;rfl
 |cons x k ih=>
  intro i v
  rw [M8,ih,List.findIdx?_cons,Ea,Ea,D3]
  cases hc:(decide (x.From=a) && decide (x.To=b)) with
  |true=>simp
  |false=>
   cases k.findIdx? (fun l=>decide (l.From=a) && decide (l.To=b)) with
   |some j=>simp [Nat.add_assoc,Nat.add_comm 1]
   |none=>simp [Nat.add_assoc,Nat.add_comm 1]
theorem Ag5{α :Type} [Inhabited α](p: α→Bool)(l:List α):l.find? p=(l.findIdx? p).map fun i=>l.getD i default:=by
 induction l with
 |nil=>rfl
 |cons x l ih=>
  rw [List.find?_cons,List.findIdx?_cons]
  cases p x with
  |true=>rfl
  |false=>
   simp only [ih,Bool.false_eq_true,if_false]
   cases l.findIdx? p<;>simp
theorem Amb{α :Type}{p: α→Bool}{l:List α}{i:Nat}(h:l.findIdx? p=some i):i < l.length:=by
 obtain ⟨h1,_⟩:=List.findIdx?_eq_some_iff_getElem.1 h
 exact h1
def A6j(m:Ad)(a b:ByteArray):Int×Bool:=match Bxr m a b with
 |some l=>(l.Delay,true)
 |none=>(0,false)
theorem A9b(L:Nat)(m:Ad)(a b:ByteArray)(hl:m.Links.length≤maxLen)(hL:maxLen < L):Aim L m a b=some (A6j m a b):=by
 simp only [Awm,Ve,Aim,Ve,Ahs,Aqf,w7,aN,aB,Azi L m.Links m a b L hl (by omega),A7m,Option.bind_some,A6j,Bxr,Ag5]
 cases hf:m.Links.findIdx? (fun l=>decide (l.From=a) && decide (l.To=b)) with
 |none=>rfl
 |some i=>
  have hi:=Amb hf
  have h1:decide ((i:Int) < 0)=false:=decide_eq_false (by omega)
  simp only [Hb,Option.bind_some,Nat.zero_add,h1,cond_false,nn,if_true,Ip hi,toN,Option.map_some]
structure MB (L:Nat) (m:Ad) (v:Ar):Prop where
 fuel:maxLen < L
 ev:Ep v
 st:Wu v.Site 1099511627776
 sites:m.Sites.length≤1099511627776
 links:m.Links.length≤1099511627776
 each:∀d∈m.Sites,Wu d 1099511627776
theorem Wu.max{s:Aa}(h:Wu s 1099511627776):Wu s maxLen:=h.mono (by rw [Bd];omega)
def Bij(s:Aa)(n:ByteArray):Option (List Ap):=(s.Routines.find? fun x=>decide (x.Name=n)).map (·.Params)
def A78(v:Ar)(s:Ac):Int:=match Bij v.Site s.Name with
 |none=>5
 |some ps=>A5r v ps s
def Bin(m:Ad)(v:Ar)(s:Ac):Int:=match m.Sites.find? (fun x=>decide (x.Name=s.Of)) with
 |none=>5
 |some d=>match Bij d s.Name with
  |none=>5
  |some ps=>if (A6j m v.Site.Name s.Of).2=true then A5r v ps s else 16
def A9j(m:Ad)(v:Ar)(s:Ac):Int:=
 if s.Op=1 then Bx9 v s
 else if s.Op=2 then Asi v s.Name (decide (Hi v.Site s.Of=An4)) [1,3]
 else if s.Op=3∨s.Op=4 then Qe v s.E [2]
 else if s.Op=5 then Qe v s.E [3]
 else if s.Op=6 then S0 v s H4 [s.E,s.F]
 else if s.Op=7 then S0 v s H4 [s.E]
 else if s.Op=8 then S0 v s I2 [s.E]
 else if s.Op=9 then Asi v s.Of (decide (Hi v.Site s.Name=I2)) [1]
 else if s.Op=10 then S0 v s Apu []
 else if s.Op=11 then S0 v s Tl []
 else if s.Op=12 then S0 v s Tl [s.E]
 else if s.Op=13 then Bin m v s
 else if s.Op=14 then A78 v s
 else if s.Op=15 then (if Hi v.Site s.Name=Ag7 then Qe v s.E [1,3] else 5)
 else if s.Op=16 then S0 v s Aj6 [s.E]
 else if s.Op=17 then S0 v s Tk [s.E]
 else 0
theorem Abr{α :Type}(l:List α)(p: α→Bool):decide (Ow (l.findIdx? p) < 0)=(l.findIdx? p).isNone:=by
 cases l.findIdx? p with
 |none=>rfl
 |some i=>exact decide_eq_false (by simp [Ow])
theorem Ap5(L:Nat)(r:Am)(s:Ac)(hm:MB L r.u_m r.u_env)(hs:SB L s):Qf L r s=some (Bin r.u_m r.u_env s):=by
 have hM:=Bd
 have h1:=hm.sites
 have h2:=hm.links
 have hL:=hm.fuel
 simp only [V1,Qf,aN,aB,Ac.cp_eq,Aun L r.u_m s.Of (by omega) hL,A9b L r.u_m _ _ (show r.u_m.Links.length≤maxLen by omega) hL,Option.bind_some,Bin,Ag5,A12,Abr]
 cases hf:r.u_m.Sites.findIdx? (fun x=>decide (x.Name=s.Of)) with
 |none=>rfl
 |some i=>
  have hi:=Amb hf
  have hd:Wu (r.u_m.Sites.getD i default) 1099511627776:=hm.each _ (by rw [Gs _ i hi];exact List.getElem_mem hi)
  simp only [Option.isNone_some,cond_false,Ow,nn,if_true,Ip hi,toN,Option.map_some,Tq L _ s.Name hd.max.2.2.2.2.2.2.2.2.2 (Nat.lt_of_le_of_lt hd.max.2.2.2.2.2.2.2.2.2 hL),Option.bind_some,Tt,Abr,Bij,Ag5]
  cases hg:(r.u_m.Sites.getD i default).Routines.findIdx? (fun x=>decide (x.Name=s.Name)) with
  |none=>rfl
  |some j=>
   have hj:=Amb hg
   simp only [Option.isNone_some,cond_false,Ow,nn,if_true,Ip hj,toN,Option.map_some,Aco L r _ s hm.ev hs,Option.bind_some]
   cases (A6j r.u_m r.u_env.Site.Name s.Of).2<;>rfl
theorem Aqv(L:Nat)(r:Am)(s:Ac)(hm:MB L r.u_m r.u_env)(hs:SB L s):Lt L r s=some (A9j r.u_m r.u_env s):=by
 have hM:=Bd
 have hL:=hm.fuel
 have hv:=hm.ev
 obtain ⟨b1,b2,b3,b4⟩:=hs.de
 have w:∀l:List Int,l.length≤2→B2 L r s.E l=some (Qe r.u_env s.E l):=fun l hl=>Hj L r s.E l hv hs.e b1 (by omega)
 have n1:∀k,B9 L r s k [s.E]=some (S0 r.u_env s k [s.E]):=fun k=>Ts L r s k [s.E] hv hL (by simp) fun x hx=>by
  simp only [List.mem_singleton] at hx;subst hx;exact ⟨hs.e,b1⟩
 have n2:∀k,B9 L r s k [s.E,s.F]=some (S0 r.u_env s k [s.E,s.F]):=fun k=>Ts L r s k [s.E,s.F] hv hL (by simp) fun x hx=>by
  simp only [List.mem_cons,List.not_mem_nil,or_false] at hx
  rcases hx with rfl|rfl
  ·exact ⟨hs.e,b1⟩
  ·exact ⟨hs.f,b2⟩
 have n0:∀k,B9 L r s k []=some (S0 r.u_env s k []):=fun k=>Ts L r s k [] hv hL (by simp) fun x hx=>by cases hx
 have q:∀n k,Gy L r n k=some (decide (Hi r.u_env.Site n=k)):=fun n k=>Ahe L r n k hv hL
 have i:∀n b l,l.length≤2→H9 L r n b l=some (Asi r.u_env n b l):=fun n b l hl=>Ap3 L r n b l hv hL (by omega)
 have hr9:(r.u_env.Site.Routines).length≤maxLen:=hm.st.max.2.2.2.2.2.2.2.2.2
 have hsp:(Option.bind (Gm L r.u_env.Site s.Name) fun r15=>bif decide (r15 < 0) then some 5 else if (0:Int)≤r15 then if r15 < ((r.u_env.Site.Routines.length:Nat):Int) then Option.bind (H8 L r (r.u_env.Site.Routines.getD (Int.toNat r15) default) s) fun r16=>some r16 else none else none)=some (A78 r.u_env s):=by
  simp only [Tq L _ s.Name hr9 (by omega),Option.bind_some,Tt,Abr,A78,Bij,Ag5]
  cases hg:r.u_env.Site.Routines.findIdx? (fun x=>decide (x.Name=s.Name)) with
  |none=>rfl
  |some j=>
   have hj:=Amb hg
   simp only [Option.isNone_some,cond_false,Ow,nn,if_true,Ip hj,toN,Option.map_some,Aco L r _ s hv hs,Option.bind_some]
 simp only [Ml,sx_typing_routine_own_0,Ag1,Lt,aN,aB,Ac.cp_eq,Ab.cp_eq,Aqw L r s hv hs.e b1,q,i _ _ [1,3] (by simp),i _ _ [1] (by simp),w [2] (by simp),w [3] (by simp),w [1,3] (by simp),n0,n1,n2,Ap5 L r s hm hs,hsp,Option.bind_some]
 unfold A9j
 rcases As9 s.Op with h|h|h|h|h|h|h|h|h|h|h|h|h|h|h|h|h|h|h|h
 case inr.inr.inr.inr.inr.inr.inr.inr.inr.inr.inr.inr.inr.inr.inr.inr.inr.inr.inl=>
  have h':s.Op < 1∨18 < s.Op:= .inl h
  simp only [cond_false,Ay h' 1 (by decide) (by decide),Ay h' 2 (by decide) (by decide),Ay h' 3 (by decide) (by decide),Ay h' 4 (by decide) (by decide),Ay h' 5 (by decide) (by decide),Ay h' 6 (by decide) (by decide),Ay h' 7 (by decide) (by decide),Ay h' 8 (by decide) (by decide),Ay h' 9 (by decide) (by decide),Ay h' 10 (by decide) (by decide),Ay h' 11 (by decide) (by decide),Ay h' 12 (by decide) (by decide),Ay h' 13 (by decide) (by decide),Ay h' 14 (by decide) (by decide),Ay h' 15 (by decide) (by decide),Ay h' 16 (by decide) (by decide),Ay h' 17 (by decide) (by decide)]
  repeat rw [if_neg (by omega)]
 case inr.inr.inr.inr.inr.inr.inr.inr.inr.inr.inr.inr.inr.inr.inr.inr.inr.inr.inr=>
  have h':s.Op < 1∨18 < s.Op:= .inr h
  simp only [cond_false,Ay h' 1 (by decide) (by decide),Ay h' 2 (by decide) (by decide),Ay h' 3 (by decide) (by decide),Ay h' 4 (by decide) (by decide),Ay h' 5 (by decide) (by decide),Ay h' 6 (by decide) (by decide),Ay h' 7 (by decide) (by decide),Ay h' 8 (by decide) (by decide),Ay h' 9 (by decide) (by decide),Ay h' 10 (by decide) (by decide),Ay h' 11 (by decide) (by decide),Ay h' 12 (by decide) (by decide),Ay h' 13 (by decide) (by decide),Ay h' 14 (by decide) (by decide),Ay h' 15 (by decide) (by decide),Ay h' 16 (by decide) (by decide),Ay h' 17 (by decide) (by decide)]
  repeat rw [if_neg (by omega)]
 all_goals (rw [h];first|rfl|(simp;done)|(simp;split<;>simp_all [Ag7]))
theorem Akc(L:Nat)(v:Ar)(e:Ab)(a b:Int)(hv:Ep v)(hs:Wu v.Site 1099511627776)(he:B1 e)(hL:maxLen+dE e < L):Iy L v e a b=some (Qe v e [a,b]):=by
 simp only [Ays,Iy,aN,aB,Ab.cp_eq,Bhz he v hv hs L hL,Option.bind_some,Qe,List.any_cons,List.any_nil,D3,D5]
 congr 1
 by_cases h:(Ane v e).2=0
 ·by_cases h1:(Ane v e).1=a
  ·simp [h,h1]
  ·by_cases h2:(Ane v e).1=b
   ·simp [h,h2]
   ·simp [h,h1,h2,Aqk h1,Aqk h2,beq_false_of_ne]
 ·simp [h,beq_false_of_ne h]
theorem Bsh(v:Ar)(e:Ab)(a:Int):Qe v e [a,a]=Qe v e [a]:=by
 unfold Qe;simp
theorem Akb(L:Nat)(s:Aa)(n:ByteArray)(h:Wu s 1099511627776)(hL:maxLen < L):Se L s n=some (Tt s n):=by
 have hM:=Bd
 have h9:=h.2.2.2.2.2.2.2.2.2
 have hf:Mn L (s.Routines.map fun x=>x.Name) n=some (A8z (s.Routines.map fun x=>x.Name) n):=Ahd L _ n (by rw [List.length_map];omega) (by rw [List.length_map];omega)
 simp only [Al0,Se,aN,aB,Apz L s h hL,Option.bind_some]
 rw [ifp (by omega),ifp (by simp only [Jc,List.length_cons,List.length_nil];omega)]
 rw [show (Jc s).getD 9 default=s.Routines.map fun x=>x.Name from rfl,hf,Option.bind_some]
 simp only [A8z,Tt,List.findIdx?_map]
 rfl
theorem Bep(L:Nat)(n:ByteArray)(m:Ad):∀(k:List Aa) (i:Nat) (v:Int),Sv L n m k i v=some (match k.findIdx? (fun x=>x.Name.toList == n.toList) with|some j=>(0,(((i+j:Nat):Int),((i+j:Nat):Int)))|none=>(1,(v,((i+k.length:Nat):Int)))):=by
 intro k
 induction k with
 |nil=>intro i v;rfl
 |cons x k ih=>
  intro i v
  rw [Sv,ih,List.findIdx?_cons]
  cases hc:(fun x:Aa=>x.Name.toList == n.toList) x with
  |true=>simp only [hc,cond_true,if_true];rfl
  |false=>
   simp only [hc,cond_false,if_false,Bool.false_eq_true]
   cases k.findIdx? (fun x=>x.Name.toList == n.toList) with
   |some j=>simp [Nat.add_assoc,Nat.add_comm 1]
   |none=>simp [Nat.add_assoc,Nat.add_comm 1]
theorem A1u(L:Nat)(m:Ad)(n:ByteArray)(hl:m.Sites.length≤maxLen)(hL:maxLen < L):Wy L m n=some (A12 m n):=by
 simp only [A5g,n9,Wy,n9,aN,aB,A6u L n m L hl (by omega),Bep,Ea,Option.bind_some,A12]
 cases m.Sites.findIdx? (fun x=>decide (x.Name=n)) with
 |none=>rfl
 |some i=>simp [Ow,Hb]
theorem Beo(L:Nat)(a b:ByteArray)(m:Ad):∀(k:List Bl) (i:Nat) (v:Int) (w:Bool),i+k.length≤m.Links.length→∃j,Su L a b m k i v w=some (match k.find? (fun l=>decide (l.From=a) && decide (l.To=b)) with|some l=>(0,(l.Delay,true,j))|none=>(1,(v,w,j))):=by
 intro k
 induction k with
 |nil=>intro i v w _;exact ⟨i,rfl⟩
 |cons x k ih=>
  intro i v w hi
  rw [List.length_cons] at hi
  obtain ⟨j,hj⟩:=ih (i+1) v w (by omega)
  rw [Su,hj,List.find?_cons,Ea,Ea,ifp (show (0:Int)≤(i:Int) by omega),ifp (show (i:Int) < (m.Links.length:Int) by omega),D5,Option.bind_some,D3]
  cases (decide (x.From=a) && decide (x.To=b)) with
  |true=>exact ⟨i,rfl⟩
  |false=>exact ⟨j,rfl⟩
theorem Bhw(L:Nat)(m:Ad)(a b:ByteArray)(hl:m.Links.length≤maxLen)(hL:maxLen < L):Aos L m a b=some (A6j m a b):=by
 obtain ⟨j,hj⟩:=Beo L a b m m.Links 0 0 false (by omega)
 simp only [A5f,n8,Aos,n8,aN,aB,A6t L a b m L hl (by omega),hj,Option.bind_some,A6j,Bxr]
 cases m.Links.find? (fun l=>decide (l.From=a) && decide (l.To=b))<;>rfl
theorem Ber(L:Nat)(ps:List Ap)(v:Ar)(s:Ac)(hv:Ep v)(hs:Wu v.Site 1099511627776)(h:∀x∈s.Args,B1 x∧maxLen+dE x < L):∀(k:List Ap) (i:Nat) (w:Int),i+k.length=s.Args.length→∃j,Sx L ps v s k i w=some (bif Arw v (s.Args.drop i) k != 0 then (0,(Arw v (s.Args.drop i) k,j)) else (1,(w,j))):=by
 intro k
 induction k with
 |nil=>
  intro i w hi
  have:s.Args.drop i= []:=List.drop_eq_nil_of_le (by simp at hi;omega)
  exact ⟨i,by rw [this];rfl⟩
 |cons p k ih=>
  intro i w hi
  rw [List.length_cons] at hi
  obtain ⟨j,hj⟩:=ih (i+1) w (by omega)
  have hlt:i < s.Args.length:=by omega
  obtain ⟨h1,h2⟩:=h (s.Args.getD i default) (by rw [Gs _ i hlt];exact List.getElem_mem hlt)
  rw [Sx,ifp (show (i:Int) < (s.Args.length:Int) by omega),toN,Akc L v _ _ _ hv hs h1 h2,Option.bind_some,Af1 s.Args i hlt,Arw,hj,Bsh]
  generalize s.Args.getD i default=y
  by_cases hx:Qe v y [p.Type_]=0
  ·exact ⟨j,by simp [hx]⟩
  ·exact ⟨i,by simp [hx,Uy hx]⟩
theorem Bh1(L:Nat)(v:Ar)(s:Ac)(ps:List Ap)(hv:Ep v)(hs:Wu v.Site 1099511627776)(h:SB L s):Ad5 L v s ps=some (A5r v ps s):=by
 have hM:=Bd
 have hL:=h.fuel
 obtain ⟨b1,b2,b3,b4⟩:=h.de
 have hw:=Akc L v s.E 3 3 hv hs h.e b1
 simp only [A5j,Agr,r0,Ad5,Agr,r0,aN,aB,Ab.cp_eq,hw,Bsh,A5r]
 by_cases hl:s.Args.length=ps.length
 ·obtain ⟨j,hj⟩:=Ber L ps v s hv hs (fun x hx=>⟨h.args x hx,b3 x hx⟩) ps 0 0 (by omega)
  rw [List.drop_zero] at hj
  have:((s.Args.length:Int) != (ps.length:Int))=false:=by rw [hl];exact bne_self_eq_false _
  simp only [this,cond_false,A6y L ps v s L (by omega) (by omega),hj,Option.bind_some,hl,ne_eq,not_true_eq_false,if_false]
  by_cases hz:Arw v s.Args ps=0
  ·simp [hz,Qo]
  ·simp [Uy hz,hz,Hb]
 ·have:((s.Args.length:Int) != (ps.length:Int))=true:=Aqk (by omega)
  simp [this,hl]
end Go.Proofs.YtfencmicmnhglaaGreat.Ev
