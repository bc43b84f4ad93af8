/-  Chapter 11, plainly: Check of the reference: its parts. -/
import Derived.Test.YtfencmicmnhglaaGreatCF
import Derived.Test.YtfencmicmnhglaaGreatPO
import Derived.Test.YtfencmicmnhglaaGreatQA
namespace Go.Proofs.YtfencmicmnhglaaGreat.Ev
open Go An
set_option maxRecDepth 100000
set_option linter.unusedVariables false
set_option linter.unusedSimpArgs false
set_option linter.unnecessarySimpa false
theorem A1j{α :Type}(nm: α→ByteArray)(f: α→Int):∀(l:List α) (b:List ByteArray),(V0 nm f b l).1=0→∀x∈l,f x=0
 | [],_=>fun _ x hx=>by cases hx
 |y::k,b=>by
  intro h x hx
  rw [V0] at h
  by_cases hz:fE (Zv b (nm y)) (f y)=0
  ·rw [if_neg (by simp [hz])] at h
   rcases List.mem_cons.1 hx with rfl|hx
   ·exact (Att.1 hz).2
   ·exact A1j nm f k _ h x hx
  ·rw [if_pos (by simpa using hz)] at h
   exact absurd h hz
structure PG (m:Ad):Prop where
 ok:∀p∈m.Params,N1 p.Type_=true∧y6 p.Type_ p.N=true
 nd:(m.Params.map fun x=>x.Name).Nodup
theorem Bwc{tm:Aa→Aw→Int}{m:Ad}(h:Alq tm m=0):PG m:=by
 unfold Alq at h
 have h2:=(Att.1 (Att.1 h).2).1
 obtain ⟨e1,e2⟩:=Bec 32 (fun x:Ah=>x.Name) Zf [] m.Params h2
 have h3:(V0 (fun x:Ah=>x.Name) Zf [] m.Params).1=0:=by
  unfold Qg at h2
  by_cases hm:32 < m.Params.length
  ·rw [if_pos hm] at h2;exact absurd h2 (by show¬((6:Int)=0);decide)
  ·rw [if_neg hm] at h2;exact h2
 refine ⟨fun p hp=> ?_,?_⟩
 ·have h4:=A1j _ _ _ _ h3 p hp
  unfold Zf at h4
  obtain ⟨h5,h6⟩:=Att.1 h4
  exact ⟨(Bh8 (by decide)).1 h5,(Bh8 (by decide)).1 h6⟩
 ·have:=e2 List.nodup_nil
  rw [e1,List.nil_append] at this
  exact this
def Am4(t n:Int):Bool:=if t=2 then (n == 0 || n == 1) else if t=3 then Bx 0 1000000000 n else inZ n
theorem A1u{t n:Int}(h:N1 t=true):Am4 t n=y6 t n:=by
 unfold N1 Bx at h
 rw [Bool.and_eq_true,decide_eq_true_iff,decide_eq_true_iff] at h
 unfold Am4 y6
 by_cases h1:t=1
 ·subst h1;rfl
 ·by_cases h2:t=2
  ·subst h2;rfl
  ·have h3:t=3:=by omega
   subst h3;rfl
def Aqw(p q:List Ah):Prop:=p.map (fun x=>(x.Name,x.Type_))=q.map fun x=>(x.Name,x.Type_)
theorem A2u{p q:List Ah}(h:Aqw p q):p.length=q.length:=by
 have:=congrArg List.length h
 rw [List.length_map,List.length_map] at this
 exact this
def rtT(m:Ad)(i:Nat)(r:Ak):Int:=A54 m (i:Int) (r.Params++r.Locals) r.Body
def Al4(m:Ad):Nat→List Aa→Int
 |_,[]=>0
 |i,d::k=>fE (Aju (rtT m i) d.Routines) (Al4 m (i+1) k)
theorem Bco{m:Ad}(h:MG m)(i:Nat)(r:Ak)(hr:Ku r)(hb:Df r≤1048576)(L:Nat)(hL:Xd≤L):Qb L m (i:Int) (r.Params++r.Locals) r.Body=some (rtT m i r):=by
 have hM:=B4
 obtain ⟨b1,b2,b3⟩:=An5 hb
 exact Arx h.ok h.bk ⟨by rw [List.length_append];omega,fun y hy=>by
  rcases List.mem_append.1 hy with h|h
  ·exact hr.2.1.2 y h
  ·exact hr.2.2.1.2 y h⟩ (i:Int) (show∀y∈r.Body,Cs y from hr.2.2.2.2) L (Azq hL b3)
theorem Ap6{m:Ad}(h:MG m)(i:Nat)(L:Nat)(hL:Xd≤L):∀(k:List Ak) (c:Nat) (v:Int),(∀r∈k,Ku r∧Df r≤1048576)→
  ∃j,I0 L (i:Int) m k c v=some (if Aju (rtT m i) k=0 then (1,(v,j)) else (0,(Aju (rtT m i) k,j))):=by
 intro k
 induction k with
 |nil=>intro c v _;exact ⟨c,rfl⟩
 |cons x k ih=>
  intro c v hk
  obtain ⟨hr,hb⟩:=hk x (by simp)
  obtain ⟨j,hj⟩:=ih (c+1) v fun r hr=>hk r (by simp [hr])
  obtain ⟨b1,b2,b3⟩:=An5 hb
  have hM:=B4
  rw [I0]
  repeat rw [ifp (by omega)]
  rw [Bco h i x hr hb L hL,Option.bind_some,Aju]
  by_cases h0:rtT m i x=0
  ·exact ⟨j,by rw [h0,Xt];exact hj⟩
  ·exact ⟨c,by rw [Ys h0,Zn h0,cond_true,if_neg h0]⟩
theorem MG.routs{m:Ad}(h:MG m){d:Aa}(hd:d∈m.Sites):∀r∈d.Routines,Ku r∧Df r≤1048576:=fun r hr=>⟨(h.site d hd).routs r hr,(h.site d hd).bkR r hr⟩
theorem Ap5{m:Ad}(h:MG m)(L:Nat)(hL:Xd≤L):∀(k:List Aa) (i:Nat) (v:Int),m.Sites.drop i=k→
  ∃j w,Iz L m k i v=some (if Al4 m i k=0 then (1,(w,j)) else (0,(Al4 m i k,j))):=by
 have hl:=Yl hL
 intro k
 induction k with
 |nil=>intro i v _;exact ⟨i,v,rfl⟩
 |cons x k ih=>
  intro i v hk
  obtain ⟨hi,hx,hk'⟩:=N4 hk
  have hm:x∈m.Sites:=by rw [←hx,Hm _ i hi];exact List.getElem_mem hi
  obtain ⟨c,hc⟩:=Ap6 h i L hL x.Routines 0 v (h.routs hm)
  have hlen:=(h.site x hm).ln.2.2.2.2.2.2.2.2.2
  rw [Iz,Alp L (i:Int) m L (by rw [toN,hx];exact hlen) (by rw [toN,hx];exact Nat.lt_of_le_of_lt hlen hl),toN,hx,hc,Option.bind_some,Al4]
  by_cases h0:Aju (rtT m i) x.Routines=0
  ·obtain ⟨j,w,hj⟩:=ih (i+1) v hk'
   exact ⟨j,w,by rw [if_pos h0,n8,h0,Xt];exact hj⟩
  ·exact ⟨i,v,by rw [if_neg h0,Lx,Ys h0,if_neg h0]⟩
theorem Arw{m:Ad}(h:MG m)(L:Nat)(hL:Xd≤L):Ks L m=some (fE (Alq Wh m) (Al4 m 0 m.Sites)):=by
 obtain ⟨j,w,hj⟩:=Ap5 h L hL m.Sites 0 0 rfl
 simp only [Ah4,Tt,Ps,Ks,Tt,Ps,aN,aB,Auc L m h hL,Option.bind_some,Alo L m L h.sites (Nat.lt_of_le_of_lt h.sites (Yl hL)),hj]
 by_cases h0:Alq Wh m=0
 ·simp only [h0,bne_self_eq_false,cond_false,Xt]
  by_cases h1:Al4 m 0 m.Sites=0
  ·rw [if_pos h1,n8,h1]
  ·rw [if_neg h1,Lx]
 ·simp only [Zn h0,cond_true,Ys h0]
def tmE(m:Ad):Int:=fE (Alq Wh m) (Al4 m 0 m.Sites)
theorem Bs2{m:Ad}(h:MG m)(L:Nat)(hL:Xd≤L):Ks L m=some (tmE m):=Arw h L hL
end Go.Proofs.YtfencmicmnhglaaGreat.Ev
