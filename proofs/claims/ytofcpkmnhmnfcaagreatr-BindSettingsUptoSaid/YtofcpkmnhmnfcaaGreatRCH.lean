/-  Chapter 11, plainly: Check of the reference: its parts. -/
import Derived.Test.YtofcpkmnhmnfcaaGreatRQA
import Derived.Test.YtofcpkmnhmnfcaaGreatRCF
import Derived.Test.YtofcpkmnhmnfcaaGreatRPO
namespace Go.Proofs.YtofcpkmnhmnfcaaGreatR.Ev
open Go An
set_option maxRecDepth 100000
set_option linter.unusedVariables false
set_option linter.unusedSimpArgs false
set_option linter.unnecessarySimpa false
theorem A9y{α :Type}(nm: α→ByteArray)(f: α→Int):∀(l:List α) (b:List ByteArray),(Qt nm f b l).1=0→∀x∈l,f x=0
 | [],_=>fun _ x hx=>by cases hx
 |y::k,b=>by
  intro h x hx
  rw [Qt] at h
  by_cases hz:fE (k4 b (nm y)) (f y)=0
  ·rw [if_neg (by simp [hz])] at h
   rcases List.mem_cons.1 hx with rfl|hx
   ·exact (Apk.1 hz).2
   ·exact A9y nm f k _ h x hx
  ·rw [if_pos (by simpa using hz)] at h
   exact absurd h hz
structure PG (m:Ac):Prop where
 ok:∀p∈m.Params,T1 p.Type_=true∧Aeu p.Type_ p.N=true
 nd:(m.Params.map fun x=>x.Name).Nodup
theorem B1d{tm:Aa→Ay→Int}{m:Ac}(h:Ah9 tm m=0):PG m:=by
 unfold Ah9 at h
 have h2:=(Apk.1 (Apk.1 h).2).1
 obtain ⟨e1,e2⟩:=Boo 32 (fun x:Ag=>x.Name) Vo [] m.Params h2
 have h3:(Qt (fun x:Ag=>x.Name) Vo [] m.Params).1=0:=by
  unfold N0 at h2
  by_cases hm:32 < m.Params.length
  ·rw [if_pos hm] at h2;exact absurd h2 (by show¬((6:Int)=0);decide)
  ·rw [if_neg hm] at h2;exact h2
 refine ⟨fun p hp=> ?_,?_⟩
 ·have h4:=A9y _ _ _ _ h3 p hp
  unfold Vo at h4
  obtain ⟨h5,h6⟩:=Apk.1 h4
  exact ⟨(Btv (by decide)).1 h5,(Btv (by decide)).1 h6⟩
 ·have:=e2 List.nodup_nil
  rw [e1,List.nil_append] at this
  exact this
def At1(t n:Int):Bool:=if t=2 then (n == 0 || n == 1) else if t=3 then B1 0 1000000000 n else inZ n
theorem Baa{t n:Int}(h:T1 t=true):At1 t n=Aeu t n:=by
 unfold T1 B1 at h
 rw [Bool.and_eq_true,decide_eq_true_iff,decide_eq_true_iff] at h
 unfold At1 Aeu
 by_cases h1:t=1
 ·subst h1;rfl
 ·by_cases h2:t=2
  ·subst h2;rfl
  ·have h3:t=3:=by omega
   subst h3;rfl
theorem Bzw{p q:List Ag}(h:∀s,Sg p s=Sg q s)(l:List Ao)(d:Aa)(s:ByteArray):A2p ⟨p,l,d⟩ s=A2p ⟨q,l,d⟩ s:=by unfold A2p;simp only [h]
theorem Bzx{p q:List Ag}(h:∀s,Sg p s=Sg q s)(l:List Ao)(d:Aa)(op:Int)(nm:ByteArray)(kids:List Int):Bbe ⟨p,l,d⟩ op nm kids=Bbe ⟨q,l,d⟩ op nm kids:=by unfold Bbe;rw [Bzw h]
mutual
theorem B2c{p q:List Ag}(h:∀s,Sg p s=Sg q s)(l:List Ao)(d:Aa):∀e:Ab,tyE ⟨p,l,d⟩ e=tyE ⟨q,l,d⟩ e
 | .mk op nm n k=>by rw [tyE,tyE,Brt h l d k,Bzx h]
theorem Brt{p q:List Ag}(h:∀s,Sg p s=Sg q s)(l:List Ao)(d:Aa):∀k:List Ab,tyL ⟨p,l,d⟩ k=tyL ⟨q,l,d⟩ k
 | []=>by rw [tyL,tyL]
 |x::k=>by rw [tyL,tyL,B2c h l d x,Brt h l d k]
end
theorem Bzv{p q:List Ag}(h:∀s,Sg p s=Sg q s)(l:List Ao)(d:Aa)(e:Ab):Am8 ⟨p,l,d⟩ e=Am8 ⟨q,l,d⟩ e:=by unfold Am8;rw [B2c h]
theorem Aux{p q:List Ag}(h:∀s,Sg p s=Sg q s)(l:List Ao)(d:Aa)(e:Ab)(t:List Int):Xj ⟨p,l,d⟩ e t=Xj ⟨q,l,d⟩ e t:=by unfold Xj;rw [Bzv h]
theorem Bja{p q:List Ag}(h:∀s,Sg p s=Sg q s)(l:List Ao)(d:Aa):∀k:List Ab,Aqh ⟨p,l,d⟩ k=Aqh ⟨q,l,d⟩ k
 | []=>rfl
 |x::k=>by rw [Aqh,Aqh,Aux h,Bja h l d k]
theorem Brr{p q:List Ag}(h:∀s,Sg p s=Sg q s)(l:List Ao)(d:Aa)(s:Ad)(kd:ByteArray)(k:List Ab):Tz ⟨p,l,d⟩ s kd k=Tz ⟨q,l,d⟩ s kd k:=by unfold Tz;rw [Bja h]
theorem B7t{p q:List Ag}(h:∀s,Sg p s=Sg q s)(l:List Ao)(d:Aa)(s:Ad):Bmv ⟨p,l,d⟩ s=Bmv ⟨q,l,d⟩ s:=by unfold Bmv;simp only [Aux h l d]
theorem Bi8{p q:List Ag}(h:∀s,Sg p s=Sg q s)(l:List Ao)(d:Aa):∀(k:List Ab) (ps:List Ao),Am1 ⟨p,l,d⟩ k ps=Am1 ⟨q,l,d⟩ k ps
 | [],ps=>by cases ps<;>rfl
 |_::_,[]=>rfl
 |x::k,y::ps=>by rw [Am1,Am1,Aux h,Bi8 h l d k ps]
theorem Bi9{p q:List Ag}(h:∀s,Sg p s=Sg q s)(l:List Ao)(d:Aa)(ps:List Ao)(s:Ad):A2c ⟨p,l,d⟩ ps s=A2c ⟨q,l,d⟩ ps s:=by unfold A2c;rw [Bi8 h,Aux h]
theorem B7s{p q:List Ag}(h:∀s,Sg p s=Sg q s)(l:List Ao)(d:Aa)(m m':Ac)(hs:m.Sites=m'.Sites)(hl:m.Links=m'.Links)(s:Ad):A5a m ⟨p,l,d⟩ s=A5a m' ⟨q,l,d⟩ s:=by
 have e1:∀t,Xj ⟨p,l,d⟩ s.E t=Xj ⟨q,l,d⟩ s.E t:=Aux h l d s.E
 have e2:∀kd k,Tz ⟨p,l,d⟩ s kd k=Tz ⟨q,l,d⟩ s kd k:=Brr h l d s
 have e3:A6h m ⟨p,l,d⟩ s=A6h m' ⟨q,l,d⟩ s:=by unfold A6h Ba7 Brg;simp only [hs,hl,Bi9 h l d]
 have e4:Axa ⟨p,l,d⟩ s=Axa ⟨q,l,d⟩ s:=by unfold Axa;simp only [Bi9 h l d]
 have e5:∀n b t,A2v ⟨p,l,d⟩ n b t=A2v ⟨q,l,d⟩ n b t:=fun n b t=>rfl
 unfold A5a
 rw [B7t h,e3,e4]
 simp only [e1,e2,e5]
mutual
theorem Ckp{p q:List Ag}(h:∀s,Sg p s=Sg q s)(l:List Ao)(d:Aa)(m m':Ac)(hs:m.Sites=m'.Sites)(hl:m.Links=m'.Links):∀s:Ad,tyS m ⟨p,l,d⟩ s=tyS m' ⟨q,l,d⟩ s
 | .mk a b c e f g i j x y=>by rw [tyS,tyS,B7s h l d m m' hs hl,Bi7 h l d m m' hs hl x,Bi7 h l d m m' hs hl y]
theorem Bi7{p q:List Ag}(h:∀s,Sg p s=Sg q s)(l:List Ao)(d:Aa)(m m':Ac)(hs:m.Sites=m'.Sites)(hl:m.Links=m'.Links):∀k:List Ad,Ad5 m ⟨p,l,d⟩ k=Ad5 m' ⟨q,l,d⟩ k
 | []=>by rw [Ad5,Ad5]
 |x::k=>by rw [Ad5,Ad5,Ckp h l d m m' hs hl x,Bi7 h l d m m' hs hl k]
end
theorem Brs(m m':Ac)(h:∀s,Sg m.Params s=Sg m'.Params s)(hs:m.Sites=m'.Sites)(hl:m.Links=m'.Links)(i:Int)(lc:List Ao)(l:List Ad):Axd m i lc l=Axd m' i lc l:=by
 unfold Axd
 rw [hs,Bi7 h lc _ m m' hs hl]
def Xv(p q:List Ag):Prop:=p.map (fun x=>(x.Name,x.Type_))=q.map fun x=>(x.Name,x.Type_)
theorem Ba6:∀ {p q:List Ag},Xv p q→∀s,Sg p s=Sg q s
 | [],[],_=>fun _=>rfl
 | [],_::_,h=>by cases h
 |_::_,[],h=>by cases h
 |x::p,y::q,h=>by
  intro s
  unfold Xv at h
  rw [List.map_cons,List.map_cons] at h
  injection h with h1 h2
  injection h1 with h1 h3
  have ih:=Ba6 (p:=p) (q:=q) h2 s
  unfold Sg at ih ⊢
  rw [List.find?_cons,List.find?_cons,h1]
  cases decide (y.Name=s) with
  |true=>exact congrArg some h3
  |false=>exact ih
theorem Ar8{p q:List Ag}(h:Xv p q):(p.map fun x=>x.Name)=q.map fun x=>x.Name:=by
 have:=congrArg (List.map Prod.fst) h
 rw [List.map_map,List.map_map] at this
 exact this
theorem Aua{p q:List Ag}(h:Xv p q):p.length=q.length:=by
 have:=congrArg List.length h
 rw [List.length_map,List.length_map] at this
 exact this
theorem Bor{α :Type}(nm: α→ByteArray)(f: α→Int):∀(l:List α) (b:List ByteArray),(∀x∈l,Ue (nm x)=0∧f x=0)→(b++l.map nm).Nodup→Qt nm f b l=(0,b++l.map nm)
 | [],b,_,_=>by rw [Qt,List.map_nil,List.append_nil]
 |x::k,b,h,hn=>by
  have e:b++(x::k).map nm=b++ [nm x]++k.map nm:=by simp
  obtain ⟨h1,h2⟩:=h x (by simp)
  have h3:nm x∉b:=fun hm=>(List.nodup_append.1 hn).2.2 (nm x) hm (nm x) (by simp) rfl
  have h4:(b.any fun y=>decide (y=nm x))=false:=Bool.eq_false_iff.2 fun hh=>by
   obtain ⟨y,hy,he⟩:=List.any_eq_true.1 hh
   exact h3 (of_decide_eq_true he ▸ hy)
  have h5:fE (k4 b (nm x)) (f x)=0:=by
   unfold k4
   rw [h1,h2,h4];rfl
  rw [Qt,if_neg (by simp [h5]),e]
  exact Bor nm f k _ (fun y hy=>h y (by simp [hy])) (by rw [←e];exact hn)
theorem Bfw{α :Type}(nm: α→ByteArray)(f: α→Int):∀(l:List α) (b:List ByteArray),(Qt nm f b l).1=0→∀x∈l,Ue (nm x)=0
 | [],_=>fun _ x hx=>by cases hx
 |y::k,b=>by
  intro h x hx
  rw [Qt] at h
  by_cases hz:fE (k4 b (nm y)) (f y)=0
  ·rw [if_neg (by simp [hz])] at h
   rcases List.mem_cons.1 hx with rfl|hx
   ·exact (Apk.1 (Apk.1 hz).1).1
   ·exact Bfw nm f k _ h x hx
  ·rw [if_pos (by simpa using hz)] at h
   exact absurd h hz
theorem Bdq{tm:Aa→Ay→Int}{m:Ac}(h:Ah9 tm m=0){ps:List Ag}(hp:Xv ps m.Params)(hf:∀x∈ps,Aeu x.Type_ x.N=true):Ah9 tm ⟨m.Name,ps,m.Sites,m.Links⟩=0:=by
 have hpg:=B1d h
 unfold Ah9 at h ⊢
 obtain ⟨a1,a2⟩:=Apk.1 h
 obtain ⟨a3,a4⟩:=Apk.1 a2
 have a5:Av3 ⟨m.Name,ps,m.Sites,m.Links⟩=Av3 m:=by
  have:∀(s k:List Bj),Ahx ⟨m.Name,ps,m.Sites,m.Links⟩ s k=Ahx m s k:=by
   intro s k
   induction k generalizing s with
   |nil=>rfl
   |cons x k ih=>rw [Ahx,Ahx,ih];rfl
  unfold Av3
  rw [this]
 have hl:¬32 < m.Params.length:=by
  intro hm
  unfold N0 at a3
  rw [if_pos hm] at a3
  exact absurd a3 (by show¬((6:Int)=0);decide)
 have a6:(Qt (fun x:Ag=>x.Name) Vo [] m.Params).1=0:=by
  unfold N0 at a3
  rw [if_neg hl] at a3;exact a3
 refine Apk.2 ⟨a1,Apk.2 ⟨?_,by rw [a5];exact a4⟩⟩
 show (N0 32 (fun x:Ag=>x.Name) Vo [] ps).1=0
 unfold N0
 rw [if_neg (by rw [Aua hp];exact hl)]
 have hn:=Ar8 hp
 rw [Bor _ _ ps [] (fun x hx=> ?_) (by rw [List.nil_append,hn];exact hpg.nd)]
 have hx2:(x.Name,x.Type_)∈m.Params.map fun x=>(x.Name,x.Type_):=by
  rw [←hp];exact List.mem_map.2 ⟨x,hx,rfl⟩
 obtain ⟨y,hy,he⟩:=List.mem_map.1 hx2
 injection he with e1 e2
 refine ⟨by rw [←e1];exact Bfw _ _ _ _ a6 y hy,?_⟩
 unfold Vo
 rw [←e2,(hpg.ok y hy).1,e2,hf x hx]
 rfl
def rtT(m:Ac)(i:Nat)(r:Ap):Int:=Axd m (i:Int) (r.Params++r.Locals) r.Body
def Agh(m:Ac):Nat→List Aa→Int
 |_,[]=>0
 |i,d::k=>fE (Aph (rtT m i) d.Routines) (Agh m (i+1) k)
theorem Bmq{m:Ac}(h:MG m)(i:Nat)(r:Ap)(hr:Lj r)(hb:Ep r≤1048576)(L:Nat)(hL:U5≤L):Rf L m (i:Int) (r.Params++r.Locals) r.Body=some (rtT m i r):=by
 have hM:=Bx
 obtain ⟨b1,b2,b3⟩:=Aoc hb
 exact Azm h.ok h.bk ⟨by rw [List.length_append];omega,fun y hy=>by
  rcases List.mem_append.1 hy with h|h
  ·exact hr.2.1.2 y h
  ·exact hr.2.2.1.2 y h⟩ (i:Int) (show∀y∈r.Body,Ct y from hr.2.2.2.2) L (Az9 hL b3)
theorem Aw3{m:Ac}(h:MG m)(i:Nat)(L:Nat)(hL:U5≤L):∀(k:List Ap) (c:Nat) (v:Int),(∀r∈k,Lj r∧Ep r≤1048576)→
  ∃j,Jm L (i:Int) m k c v=some (if Aph (rtT m i) k=0 then (1,(v,j)) else (0,(Aph (rtT m i) k,j))):=by
 intro k
 induction k with
 |nil=>intro c v _;exact ⟨c,rfl⟩
 |cons x k ih=>
  intro c v hk
  obtain ⟨hr,hb⟩:=hk x (by simp)
  obtain ⟨j,hj⟩:=ih (c+1) v fun r hr=>hk r (by simp [hr])
  obtain ⟨b1,b2,b3⟩:=Aoc hb
  have hM:=Bx
  rw [Jm]
  repeat rw [ifp (by omega)]
  rw [Bmq h i x hr hb L hL,Option.bind_some,Aph]
  by_cases h0:rtT m i x=0
  ·exact ⟨j,by rw [h0,v8];exact hj⟩
  ·exact ⟨c,by rw [Ace h0,ne0 h0,cond_true,if_neg h0]⟩
theorem MG.routs{m:Ac}(h:MG m){d:Aa}(hd:d∈m.Sites):∀r∈d.Routines,Lj r∧Ep r≤1048576:=fun r hr=>⟨(h.site d hd).routs r hr,(h.site d hd).bkR r hr⟩
theorem Aw2{m:Ac}(h:MG m)(L:Nat)(hL:U5≤L):∀(k:List Aa) (i:Nat) (v:Int),m.Sites.drop i=k→
  ∃j w,Jl L m k i v=some (if Agh m i k=0 then (1,(w,j)) else (0,(Agh m i k,j))):=by
 have hl:=Vu hL
 intro k
 induction k with
 |nil=>intro i v _;exact ⟨i,v,rfl⟩
 |cons x k ih=>
  intro i v hk
  obtain ⟨hi,hx,hk'⟩:=Rk hk
  have hm:x∈m.Sites:=by rw [←hx,Iu _ i hi];exact List.getElem_mem hi
  obtain ⟨c,hc⟩:=Aw3 h i L hL x.Routines 0 v (h.routs hm)
  have hlen:=(h.site x hm).ln.2.2.2.2.2.2.2.2.2
  rw [Jl,Asi L (i:Int) m L (by rw [toN,hx];exact hlen) (by rw [toN,hx];exact Nat.lt_of_le_of_lt hlen hl),toN,hx,hc,Option.bind_some,Agh]
  by_cases h0:Aph (rtT m i) x.Routines=0
  ·obtain ⟨j,w,hj⟩:=ih (i+1) v hk'
   exact ⟨j,w,by rw [if_pos h0,Sr,h0,v8];exact hj⟩
  ·exact ⟨i,v,by rw [if_neg h0,Nb,Ace h0,if_neg h0]⟩
theorem Azl{m:Ac}(h:MG m)(L:Nat)(hL:U5≤L):Nw L m=some (fE (Ah9 X2 m) (Agh m 0 m.Sites)):=by
 obtain ⟨j,w,hj⟩:=Aw2 h L hL m.Sites 0 0 rfl
 simp only [Amx,U3,Qd,Nw,U3,Qd,aN,aB,A3h L m h hL,Option.bind_some,Ash L m L h.sites (Nat.lt_of_le_of_lt h.sites (Vu hL)),hj]
 by_cases h0:Ah9 X2 m=0
 ·simp only [h0,bne_self_eq_false,cond_false,v8]
  by_cases h1:Agh m 0 m.Sites=0
  ·rw [if_pos h1,Sr,h1]
  ·rw [if_neg h1,Nb]
 ·simp only [ne0 h0,cond_true,Ace h0]
def tmE(m:Ac):Int:=fE (Ah9 X2 m) (Agh m 0 m.Sites)
theorem Brn{m:Ac}(h:MG m)(L:Nat)(hL:U5≤L):Nw L m=some (tmE m):=Azl h L hL
end Go.Proofs.YtofcpkmnhmnfcaaGreatR.Ev
