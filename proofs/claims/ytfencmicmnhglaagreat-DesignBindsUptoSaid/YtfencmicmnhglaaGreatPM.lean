/-  Chapter 14, plainly: statements of the program. -/
import Derived.Test.YtfencmicmnhglaaGreatQA
import Derived.Test.YtfencmicmnhglaaGreatPK
namespace Go.Proofs.YtfencmicmnhglaaGreat.Ev
open Go An
set_option maxRecDepth 100000
set_option linter.unusedVariables false
set_option linter.unusedSimpArgs false
set_option linter.unnecessarySimpa false
def Aal(v:Bf)(e:Ab)(l:List Int):Int:=if (Aqs v e).2≠0 then (Aqs v e).2 else if l.any (fun t=>(Aqs v e).1 == t) then 0 else 10
theorem Ad3(L:Nat)(r1:Int×Int)(a2:List Int)(a1:Ab):∀(k:List Int) (i:Nat) (v:Int),∃j,D6 L r1 a2 a1 k i v=some (bif k.any (fun t=>r1.1 == t) then (0,(0,j)) else (1,(v,j))):=by
 intro k
 induction k with
 |nil=>intro i v;exact ⟨i,rfl⟩
 |cons x k ih=>
  intro i v
  obtain ⟨j,hj⟩:=ih (i+1) v
  rw [D6,hj,List.any_cons]
  cases r1.1 == x with
  |true=>exact ⟨i,rfl⟩
  |false=>exact ⟨j,rfl⟩
theorem Gg(L:Nat)(r:Aj)(e:Ab)(l:List Int)(hr:Ju r.u_env)(he:B9 e)(hL:maxLen+dE e < L)(hl:l.length≤1048576):Bs L r e l=some (Aal r.u_env e l):=by
 have hM:=B4
 obtain ⟨j,hj⟩:=Ad3 L (Aqs r.u_env e) l e l 0 0
 simp only [Yj,Jq,Gy,Bs,Jq,Gy,aN,aB,Ab.cp_eq,Aug he r.u_env hr L hL,Ack L _ l e L (by omega) (by omega),hj,Option.bind_some,Aal]
 by_cases h:(Aqs r.u_env e).2=0
 ·cases hb:l.any (fun t=>(Aqs r.u_env e).1 == t)<;>simp [h,Lx,n8]
 ·simp [h,Zn h]
theorem Acw(L:Nat)(r1:Int×Bool)(a2:List Int):∀(k:List Int) (i:Nat) (v:Int),∃j,Dv L r1 a2 k i v=some (bif k.any (fun t=>r1.1 == t) then (0,(0,j)) else (1,(v,j))):=by
 intro k
 induction k with
 |nil=>intro i v;exact ⟨i,rfl⟩
 |cons x k ih=>
  intro i v
  obtain ⟨j,hj⟩:=ih (i+1) v
  rw [Dv,hj,List.any_cons]
  cases r1.1 == x with
  |true=>exact ⟨i,rfl⟩
  |false=>exact ⟨j,rfl⟩
def A14(v:Bf)(n:ByteArray)(found:Bool)(l:List Int):Int:=match Av2 v.Locals n with
 |none=>5
 |some t=>if found=false then 5 else if l.any (fun x=>t == x) then 0 else 10
theorem Agn(L:Nat)(r:Aj)(n:ByteArray)(found:Bool)(l:List Int)(hr:Ju r.u_env)(hL:maxLen < L)(hl:l.length≤1048576):Hg L r n found l=some (A14 r.u_env n found l):=by
 have hM:=B4
 have h2:=hr.2.1.1
 obtain ⟨j,hj⟩:=Acw L (o2 (Av2 r.u_env.Locals n)) l l 0 0
 simp only [S0,Hg,Xm,I3,Gq,Qc,I3,Gq,aN,aB,Aa8 L _ n h2 (by omega),Abs L _ l L (by omega) (by omega),hj,Option.bind_some,A14,Xo]
 cases Av2 r.u_env.Locals n with
 |none=>rfl
 |some t=>
  cases found with
  |false=>rfl
  |true=>cases hb:l.any (fun x=>t == x)<;>simp [o2,hb,Lx,n8]
theorem Aad(L:Nat)(r:Aj)(n k:ByteArray)(hr:Ju r.u_env)(hL:maxLen < L):F2 L r n k=some (decide (Ait r.u_env.Site n=k)):=by
 simp only [V4,F2,aN,aB,Akp L _ n hr.2.2.len hL,I2,Option.bind_some]
def Axe(v:Bf):List Ab→Int
 | []=>0
 |x::k=>if Aal v x [1]≠0 then Aal v x [1] else Axe v k
def l4(v:Bf)(s:Ac)(kind:ByteArray)(l:List Ab):Int:=if Ait v.Site s.Name=kind then Axe v l else 5
theorem Ad2(L:Nat)(r:Aj)(a3:List Ab)(a1:Ac)(hr:Ju r.u_env):∀(k:List Ab) (i:Nat) (v:Int),(∀x∈k,B9 x∧maxLen+dE x < L)→∃j,D5 L r a3 a1 k i v=some (bif Axe r.u_env k != 0 then (0,(Axe r.u_env k,j)) else (1,(v,j))):=by
 intro k
 induction k with
 |nil=>intro i v _;exact ⟨i,rfl⟩
 |cons x k ih=>
  intro i v h
  obtain ⟨j,hj⟩:=ih (i+1) v fun y hy=>h y (by simp [hy])
  obtain ⟨h1,h2⟩:=h x (by simp)
  rw [D5,Gg L r x [1] hr h1 h2 (by simp),Option.bind_some,Axe,hj]
  by_cases hx:Aal r.u_env x [1]=0
  ·exact ⟨j,by simp [hx]⟩
  ·exact ⟨i,by simp [hx,Zn hx]⟩
theorem Qn(L:Nat)(r:Aj)(s:Ac)(kind:ByteArray)(l:List Ab)(hr:Ju r.u_env)(hL:maxLen < L)(hl:l.length≤2)(h:∀x∈l,B9 x∧maxLen+dE x < L):B1 L r s kind l=some (l4 r.u_env s kind l):=by
 have hM:=B4
 obtain ⟨j,hj⟩:=Ad2 L r l s hr l 0 0 h
 simp only [Yi,Jp,Gx,B1,Jp,Gx,aN,aB,Aad L r _ kind hr hL,Acj L r l s L (by omega) (by omega),hj,Option.bind_some,l4]
 by_cases hk:Ait r.u_env.Site s.Name=kind
 ·by_cases hz:Axe r.u_env l=0
  ·simp [hk,hz,n8]
  ·simp [hk,Zn hz,Lx]
 ·simp [hk]
theorem Agq(L:Nat)(r:Aj)(r1:Int×Bool)(s:Ac)(hr:Ju r.u_env)(he:B9 s.E)(hL:maxLen+dE s.E < L):∀(k:List Ah) (i:Nat) (v:Int),∃j,Er L r r1 s k i v=some (match k.find? (fun x=>decide (x.Name=s.Name)) with|some x=>(0,(Aal r.u_env s.E [x.Type_],j))|none=>(1,(v,j))):=by
 intro k
 induction k with
 |nil=>intro i v;exact ⟨i,rfl⟩
 |cons x k ih=>
  intro i v
  obtain ⟨j,hj⟩:=ih (i+1) v
  rw [Er,List.find?_cons,I2]
  cases decide (x.Name=s.Name) with
  |true=>exact ⟨i,by simp [Ab.cp_eq,Gg L r s.E [x.Type_] hr he hL (by simp)]⟩
  |false=>exact ⟨j,hj⟩
def Bvo(v:Bf)(s:Ac):Int:=match Av2 v.Locals s.Name with
 |some t=>Aal v s.E [t]
 |none=>match Bh9 v.Site.Vars s.Name with
  |some t=>Aal v s.E [t]
  |none=>5
theorem Ahp(L:Nat)(r:Aj)(s:Ac)(hr:Ju r.u_env)(he:B9 s.E)(hL:maxLen+dE s.E < L):Ol L r s=some (Bvo r.u_env s):=by
 have hM:=B4
 have h2:=hr.2.1.1
 have h4:=hr.2.2.len.1
 obtain ⟨j,hj⟩:=Agq L r (o2 (Av2 r.u_env.Locals s.Name)) s hr he hL r.u_env.Site.Vars 0 0
 have hw:∀t,Bs L r s.E [t]=some (Aal r.u_env s.E [t]):=fun t=>Gg L r s.E [t] hr he hL (by simp)
 simp only [w9,K7,Ie,Ol,K7,Ie,aN,aB,Ab.cp_eq,Aa8 L _ s.Name h2 (by omega),Adz L r _ s L h4 (by omega),hj,hw,Option.bind_some,Bvo,Bh9]
 cases Av2 r.u_env.Locals s.Name with
 |some t=>rfl
 |none=>
  cases r.u_env.Site.Vars.find? (fun x=>decide (x.Name=s.Name)) with
  |some x=>rfl
  |none=>rfl
def As8(v:Bf):List Ab→List Ap→Int
 |x::k,p::ps=>if Aal v x [p.Type_]≠0 then Aal v x [p.Type_] else As8 v k ps
 |_,_=>0
def A60(v:Bf)(ps:List Ap)(s:Ac):Int:=if s.Args.length≠ps.length then 8 else if As8 v s.Args ps≠0 then As8 v s.Args ps else Aal v s.E [3]
theorem Ae6(L:Nat)(r:Aj)(s:Ac)(f:Ak)(hr:Ju r.u_env):∀(k:List Ab) (i:Nat) (v:Int),i+k.length=f.Params.length→(∀x∈k,B9 x∧maxLen+dE x < L)→∃j,Ef L r s f k i v=some (bif As8 r.u_env k (f.Params.drop i) != 0 then (0,(As8 r.u_env k (f.Params.drop i),j)) else (1,(v,j))):=by
 intro k
 induction k with
 |nil=>intro i v _ _;exact ⟨i,rfl⟩
 |cons x k ih=>
  intro i v hi h
  rw [List.length_cons] at hi
  obtain ⟨j,hj⟩:=ih (i+1) v (by omega) fun y hy=>h y (by simp [hy])
  obtain ⟨h1,h2⟩:=h x (by simp)
  have hlt:i < f.Params.length:=by omega
  rw [Ef,ifp (show (i:Int) < (f.Params.length:Int) by omega),toN,Gg L r x _ hr h1 h2 (by simp),Option.bind_some,Asj f.Params i hlt,As8,hj]
  generalize f.Params.getD i default=p
  by_cases hx:Aal r.u_env x [p.Type_]=0
  ·exact ⟨j,by simp [hx]⟩
  ·exact ⟨i,by simp [hx,Zn hx]⟩
theorem Y5(L:Nat)(r:Aj)(f:Ak)(s:Ac)(hr:Ju r.u_env)(h:SB L s):Hf L r f s=some (A60 r.u_env f.Params s):=by
 have hM:=B4
 have hL:=h.fuel
 obtain ⟨b1,b2,b3,b4⟩:=h.de
 have hw:=Gg L r s.E [3] hr h.e b1 (by simp)
 simp only [Zq,Kr,Hh,Hf,Kr,Hh,aN,aB,Ab.cp_eq,Acu L r s f L (by omega) (by omega),hw,A60]
 by_cases hl:s.Args.length=f.Params.length
 ·obtain ⟨j,hj⟩:=Ae6 L r s f hr s.Args 0 0 (by omega) fun x hx=>⟨h.args x hx,b3 x hx⟩
  rw [List.drop_zero] at hj
  have:((s.Args.length:Int) != (f.Params.length:Int))=false:=by rw [hl];exact bne_self_eq_false _
  simp only [this,cond_false,hj,Option.bind_some,hl,ne_eq,not_true_eq_false,if_false]
  by_cases hz:As8 r.u_env s.Args f.Params=0
  ·simp [hz,n8]
  ·simp [Zn hz,hz,Lx]
 ·have:((s.Args.length:Int) != (f.Params.length:Int))=true:=Axk (by omega)
  simp [this,hl]
theorem Aur(L:Nat)(l:List Aa)(m:Ad)(n:ByteArray):∀(k:List Aa) (i:Nat) (v:Int),Lt L l m n k i v=some (match k.findIdx? (fun x=>x.Name.toList == n.toList) with|some j=>(0,(((i+j:Nat):Int),((i+j:Nat):Int)))|none=>(1,(v,((i+k.length:Nat):Int)))):=by
 intro k
 induction k with
 |nil=>intro i v;rfl
 |cons x k ih=>
  intro i v
  rw [Lt,ih,List.findIdx?_cons]
  cases hc:(fun x=>x.Name.toList == n.toList) x with
  |true=>simp only [hc,cond_true,if_true];rfl
  |false=>
   simp only [hc,cond_false,if_false,Bool.false_eq_true]
   cases k.findIdx? (fun x=>x.Name.toList == n.toList) with
   |some j=>simp [Nat.add_assoc,Nat.add_comm 1]
   |none=>simp [Nat.add_assoc,Nat.add_comm 1]
theorem Alx(L:Nat)(l:List Aa)(m:Ad)(n:ByteArray)(hl:l.length≤maxLen)(hL:l.length < L):Wn L l m n=some (Nz (l.findIdx? (fun x=>decide (x.Name=n)))):=by
 simp only [Wn,Ag4,W4,aN,aB,Ao9 _ _ _ _ _ hl hL,Aur,I2,Option.bind_some]
 cases l.findIdx? (fun x=>decide (x.Name=n)) with
 |none=>rfl
 |some i=>simp [Nz,Lx]
def A3g(m:Ad)(n:ByteArray):Int:=Nz (m.Sites.findIdx? fun x=>decide (x.Name=n))
theorem Akq(L:Nat)(m:Ad)(n:ByteArray)(hl:m.Sites.length≤maxLen)(hL:maxLen < L):Ud L m n=some (A3g m n):=by
 simp only [Amh,Sh,Ud,Sh,aN,aB,Alx L _ m n hl (by omega),Option.bind_some,A3g]
def Bo0(m:Ad)(a b:ByteArray):Option Be:=m.Links.find? fun l=>decide (l.From=a) && decide (l.To=b)
theorem Auq(L:Nat)(p:List Be)(m:Ad)(a b:ByteArray):∀(k:List Be) (i:Nat) (v:Int),Ls L p m a b k i v=some (match k.findIdx? (fun l=>decide (l.From=a) && decide (l.To=b)) with|some j=>(0,(((i+j:Nat):Int),((i+j:Nat):Int)))|none=>(1,(v,((i+k.length:Nat):Int)))):=by
 intro k
 induction k with
 |nil=>intro i v;rfl
 |cons x k ih=>
  intro i v
  rw [Ls,ih,List.findIdx?_cons,I2,I2,Nx]
  cases hc:(decide (x.From=a) && decide (x.To=b)) with
  |true=>simp
  |false=>
   cases k.findIdx? (fun l=>decide (l.From=a) && decide (l.To=b)) with
   |some j=>simp [Nat.add_assoc,Nat.add_comm 1]
   |none=>simp [Nat.add_assoc,Nat.add_comm 1]
theorem Acd{α :Type} [Inhabited α](p: α→Bool)(l:List α):l.find? p=(l.findIdx? p).map fun i=>l.getD i default:=by
 induction l with
 |nil=>rfl
 |cons x l ih=>
  rw [List.find?_cons,List.findIdx?_cons]
  cases p x with
  |true=>rfl
  |false=>
   simp only [ih,Bool.false_eq_true,if_false]
   cases l.findIdx? p<;>simp
theorem Ais{α :Type}{p: α→Bool}{l:List α}{i:Nat}(h:l.findIdx? p=some i):i < l.length:=by
 obtain ⟨h1,_⟩:=List.findIdx?_eq_some_iff_getElem.1 h
 exact h1
def A91(m:Ad)(a b:ByteArray):Int×Bool:=match Bo0 m a b with
 |some l=>(l.Delay,true)
 |none=>(0,false)
theorem Av8(L:Nat)(m:Ad)(a b:ByteArray)(hl:m.Links.length≤maxLen)(hL:maxLen < L):Abk L m a b=some (A91 m a b):=by
 simp only [Amg,Sg,Abk,Sg,Aaq,Ag3,W3,aN,aB,Ao8 L m.Links m a b L hl (by omega),Auq,Option.bind_some,A91,Bo0,Acd]
 cases hf:m.Links.findIdx? (fun l=>decide (l.From=a) && decide (l.To=b)) with
 |none=>rfl
 |some i=>
  have hi:=Ais hf
  have h1:decide ((i:Int) < 0)=false:=decide_eq_false (by omega)
  simp only [Lx,Option.bind_some,Nat.zero_add,h1,cond_false,nn,if_true,Ru hi,toN,Option.map_some]
structure MB (L:Nat) (m:Ad) (v:Bf):Prop where
 fuel:maxLen < L
 ev:Ju v
 st:Ae2 v.Site 1099511627776
 sites:m.Sites.length≤1099511627776
 links:m.Links.length≤1099511627776
 each:∀d∈m.Sites,Ae2 d 1099511627776
theorem Ae2.max{s:Aa}(h:Ae2 s 1099511627776):Ae2 s maxLen:=h.mono (by rw [B4];omega)
def A97(s:Aa)(n:ByteArray):Option (List Ap):=(s.Routines.find? fun x=>decide (x.Name=n)).map (·.Params)
def A5w(v:Bf)(s:Ac):Int:=match A97 v.Site s.Name with
 |none=>5
 |some ps=>A60 v ps s
def Bg9(m:Ad)(v:Bf)(s:Ac):Int:=match m.Sites.find? (fun x=>decide (x.Name=s.Of)) with
 |none=>5
 |some d=>match A97 d s.Name with
  |none=>5
  |some ps=>if (A91 m v.Site.Name s.Of).2=true then A60 v ps s else 16
def A48(m:Ad)(v:Bf)(s:Ac):Int:=
 if s.Op=1 then Bvo v s
 else if s.Op=2 then A14 v s.Name (decide (Ait v.Site s.Of=Ao2)) [1,3]
 else if s.Op=3∨s.Op=4 then Aal v s.E [2]
 else if s.Op=5 then Aal v s.E [3]
 else if s.Op=6 then l4 v s T3 [s.E,s.F]
 else if s.Op=7 then l4 v s T3 [s.E]
 else if s.Op=8 then l4 v s Ae1 [s.E]
 else if s.Op=9 then A14 v s.Of (decide (Ait v.Site s.Name=Ae1)) [1]
 else if s.Op=10 then l4 v s Azw []
 else if s.Op=11 then l4 v s Ae0 []
 else if s.Op=12 then l4 v s Ae0 [s.E]
 else if s.Op=13 then Bg9 m v s
 else if s.Op=14 then A5w v s
 else if s.Op=15 then (if Ait v.Site s.Name=Anb then Aal v s.E [1,3] else 5)
 else if s.Op=16 then l4 v s At0 [s.E]
 else if s.Op=17 then l4 v s Atz [s.E]
 else 0
theorem Air{α :Type}(l:List α)(p: α→Bool):decide (Nz (l.findIdx? p) < 0)=(l.findIdx? p).isNone:=by
 cases l.findIdx? p with
 |none=>rfl
 |some i=>exact decide_eq_false (by simp [Nz])
theorem Agp(L:Nat)(r:Aj)(s:Ac)(hm:MB L r.u_m r.u_env)(hs:SB L s):Nn L r s=some (Bg9 r.u_m r.u_env s):=by
 have hM:=B4
 have h1:=hm.sites
 have h2:=hm.links
 have hL:=hm.fuel
 simp only [S1,Nn,aN,aB,Ac.cp_eq,Akq L r.u_m s.Of (by omega) hL,Av8 L r.u_m _ _ (show r.u_m.Links.length≤maxLen by omega) hL,Option.bind_some,Bg9,Acd,A3g,Air]
 cases hf:r.u_m.Sites.findIdx? (fun x=>decide (x.Name=s.Of)) with
 |none=>rfl
 |some i=>
  have hi:=Ais hf
  have hd:Ae2 (r.u_m.Sites.getD i default) 1099511627776:=hm.each _ (by rw [Hm _ i hi];exact List.getElem_mem hi)
  simp only [Option.isNone_some,cond_false,Nz,nn,if_true,Ru hi,toN,Option.map_some,Ql L _ s.Name hd.max.2.2.2.2.2.2.2.2.2 (Nat.lt_of_le_of_lt hd.max.2.2.2.2.2.2.2.2.2 hL),Option.bind_some,Aaf,Air,A97,Acd]
  cases hg:(r.u_m.Sites.getD i default).Routines.findIdx? (fun x=>decide (x.Name=s.Name)) with
  |none=>rfl
  |some j=>
   have hj:=Ais hg
   simp only [Option.isNone_some,cond_false,Nz,nn,if_true,Ru hj,toN,Option.map_some,Y5 L r _ s hm.ev hs,Option.bind_some]
   cases (A91 r.u_m r.u_env.Site.Name s.Of).2<;>rfl
theorem Aho(L:Nat)(r:Aj)(s:Ac)(hm:MB L r.u_m r.u_env)(hs:SB L s):Kt L r s=some (A48 r.u_m r.u_env s):=by
 have hM:=B4
 have hL:=hm.fuel
 have hv:=hm.ev
 obtain ⟨b1,b2,b3,b4⟩:=hs.de
 have w:∀l:List Int,l.length≤2→Bs L r s.E l=some (Aal r.u_env s.E l):=fun l hl=>Gg L r s.E l hv hs.e b1 (by omega)
 have n1:∀k,B1 L r s k [s.E]=some (l4 r.u_env s k [s.E]):=fun k=>Qn L r s k [s.E] hv hL (by simp) fun x hx=>by
  simp only [List.mem_singleton] at hx;subst hx;exact ⟨hs.e,b1⟩
 have n2:∀k,B1 L r s k [s.E,s.F]=some (l4 r.u_env s k [s.E,s.F]):=fun k=>Qn L r s k [s.E,s.F] hv hL (by simp) fun x hx=>by
  simp only [List.mem_cons,List.not_mem_nil,or_false] at hx
  rcases hx with rfl|rfl
  ·exact ⟨hs.e,b1⟩
  ·exact ⟨hs.f,b2⟩
 have n0:∀k,B1 L r s k []=some (l4 r.u_env s k []):=fun k=>Qn L r s k [] hv hL (by simp) fun x hx=>by cases hx
 have q:∀n k,F2 L r n k=some (decide (Ait r.u_env.Site n=k)):=fun n k=>Aad L r n k hv hL
 have i:∀n b l,l.length≤2→Hg L r n b l=some (A14 r.u_env n b l):=fun n b l hl=>Agn L r n b l hv hL (by omega)
 have hr9:(r.u_env.Site.Routines).length≤maxLen:=hm.st.max.2.2.2.2.2.2.2.2.2
 have hsp:(Option.bind (E8 L r.u_env.Site s.Name) fun r15=>bif decide (r15 < 0) then some 5 else if (0:Int)≤r15 then if r15 < ((r.u_env.Site.Routines.length:Nat):Int) then Option.bind (Hf L r (r.u_env.Site.Routines.getD (Int.toNat r15) default) s) fun r16=>some r16 else none else none)=some (A5w r.u_env s):=by
  simp only [Ql L _ s.Name hr9 (by omega),Option.bind_some,Aaf,Air,A5w,A97,Acd]
  cases hg:r.u_env.Site.Routines.findIdx? (fun x=>decide (x.Name=s.Name)) with
  |none=>rfl
  |some j=>
   have hj:=Ais hg
   simp only [Option.isNone_some,cond_false,Nz,nn,if_true,Ru hj,toN,Option.map_some,Y5 L r _ s hv hs,Option.bind_some]
 simp only [K6,sx_typing_routine_own_0,w8,Kt,aN,aB,Ac.cp_eq,Ab.cp_eq,Ahp L r s hv hs.e b1,q,i _ _ [1,3] (by simp),i _ _ [1] (by simp),w [2] (by simp),w [3] (by simp),w [1,3] (by simp),n0,n1,n2,Agp L r s hm hs,hsp,Option.bind_some]
 unfold A48
 rcases A3i s.Op with h|h|h|h|h|h|h|h|h|h|h|h|h|h|h|h|h|h|h|h
 case inr.inr.inr.inr.inr.inr.inr.inr.inr.inr.inr.inr.inr.inr.inr.inr.inr.inr.inl=>
  have h':s.Op < 1∨18 < s.Op:= .inl h
  simp only [cond_false,B5 h' 1 (by decide) (by decide),B5 h' 2 (by decide) (by decide),B5 h' 3 (by decide) (by decide),B5 h' 4 (by decide) (by decide),B5 h' 5 (by decide) (by decide),B5 h' 6 (by decide) (by decide),B5 h' 7 (by decide) (by decide),B5 h' 8 (by decide) (by decide),B5 h' 9 (by decide) (by decide),B5 h' 10 (by decide) (by decide),B5 h' 11 (by decide) (by decide),B5 h' 12 (by decide) (by decide),B5 h' 13 (by decide) (by decide),B5 h' 14 (by decide) (by decide),B5 h' 15 (by decide) (by decide),B5 h' 16 (by decide) (by decide),B5 h' 17 (by decide) (by decide)]
  repeat rw [if_neg (by omega)]
 case inr.inr.inr.inr.inr.inr.inr.inr.inr.inr.inr.inr.inr.inr.inr.inr.inr.inr.inr=>
  have h':s.Op < 1∨18 < s.Op:= .inr h
  simp only [cond_false,B5 h' 1 (by decide) (by decide),B5 h' 2 (by decide) (by decide),B5 h' 3 (by decide) (by decide),B5 h' 4 (by decide) (by decide),B5 h' 5 (by decide) (by decide),B5 h' 6 (by decide) (by decide),B5 h' 7 (by decide) (by decide),B5 h' 8 (by decide) (by decide),B5 h' 9 (by decide) (by decide),B5 h' 10 (by decide) (by decide),B5 h' 11 (by decide) (by decide),B5 h' 12 (by decide) (by decide),B5 h' 13 (by decide) (by decide),B5 h' 14 (by decide) (by decide),B5 h' 15 (by decide) (by decide),B5 h' 16 (by decide) (by decide),B5 h' 17 (by decide) (by decide)]
  repeat rw [if_neg (by omega)]
 all_goals (rw [h];first|rfl|(simp;done)|(simp;split<;>simp_all [Anb]))
end Go.Proofs.YtfencmicmnhglaaGreat.Ev
