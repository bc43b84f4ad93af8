/-  Chapter 16, plainly: the statement on settings (the parameters after Model; the own settings change nothing). -/
import Derived.Test.YtofcpkmnhmnfcaaGreatRQA
import Derived.Test.YtofcpkmnhmnfcaaGreatRSA
import Derived.Test.YtofcpkmnhmnfcaaGreatRDi
namespace Go.Proofs.YtofcpkmnhmnfcaaGreatR.Ev
open Go An
set_option maxRecDepth 100000
set_option linter.unusedVariables false
set_option linter.unusedSimpArgs false
set_option linter.unnecessarySimpa false
theorem B4x(L:Nat):U7 L=some true:=rfl
theorem A8a(L:Nat)(s:Aa):∃b,Abz L s=some b:=by
 simp only [Aml,Abz,aN,aB]
 exact ⟨_,rfl⟩
theorem A8i(L:Nat)(u:Int)(i:Nat)(m:Ac):∀(k:List Ap) (j:Nat) (v:Int),(∀x∈k,∃n,Nt L x.Body=some n)→∃w t,Qm L u (i:Int) m k j v=some (0,(w,t)):=by
 intro k
 induction k with
 |nil=>intro j v _;exact ⟨v,j,rfl⟩
 |cons x k ih=>
  intro j v h
  obtain ⟨n,hn⟩:=h x (by simp)
  rw [Qm,hn,Option.bind_some]
  exact ih (j+1) _ fun y hy=>h y (by simp [hy])
theorem A8h(L:Nat){m:Ac}(h:MG m)(hL:U5≤L):∀(k:List Aa) (i:Nat) (u v:Int),m.Sites.drop i=k→∃t a b c,Ql L m k i u v=some (t,(a,b,c))∧(t=0∨t=1):=by
 have hl:=Vu hL
 intro k
 induction k with
 |nil=>intro i u v _;exact ⟨1,u,v,i,rfl,.inr rfl⟩
 |cons x k ih=>
  intro i u v hk
  obtain ⟨hi,hx,hk'⟩:=Rk hk
  have hm:x∈m.Sites:=by rw [←hx,Iu _ i hi];exact List.getElem_mem hi
  have hsg:=h.site x hm
  have hlen:=hsg.ln.2.2.2.2.2.2.2.2.2
  obtain ⟨b,hb⟩:=A8a L x
  rw [Ql,hb,Option.bind_some]
  cases b with
  |false=>exact ⟨0,_,_,_,rfl,.inl rfl⟩
  |true=>
   obtain ⟨w,t,hw⟩:=A8i L u i m x.Routines 0 (B6 (v+(B6 ((B6 ((B6 (1+(x.Vars.length:Int)))+(x.Starts.length:Int)))+(x.Laws.length:Int))))) fun r hr=>by
    have hro:=hsg.routs r hr
    exact Bbi (show∀y∈r.Body,Ct y from hro.2.2.2.2) L (Az9 hL (Aoc (hsg.bkR r hr)).2.2)
   simp only [Bool.not_true,cond_false]
   rw [A26 L u (i:Int) m L (by rw [toN,hx];exact hlen) (by rw [toN,hx];omega),toN,hx,hw,Option.bind_some,Nb]
   exact ih (i+1) u w hk'
theorem Bbg(L:Nat){m:Ac}(h:MG m)(hL:U5≤L):∃n,Aeb L m=some n:=by
 obtain ⟨t,a,b,c,hj,ht⟩:=A8h L h hL m.Sites 0 0 (B6 ((m.Params.length:Int)+(m.Links.length:Int))) rfl
 simp only [A1t,Xx,Aeb,Xx,aN,aB,A25 L m L h.sites (Nat.lt_of_le_of_lt h.sites (Vu hL)),hj,Option.bind_some]
 rcases ht with rfl|rfl
 ·exact ⟨_,by rw [Nb]⟩
 ·exact ⟨_,by rw [Sr]⟩
theorem Cal(L:Nat)(l:List Ae)(b:Bool)(s:List Ae)(i:Nat)(m:Ac)(r:Ac×Int)(hi:i < m.Params.length):∀(k:List Ae) (c:Nat) (v:Int),∃j,El L l b s (i:Int) m r k c v=some (0,(A6q (m.Params.getD i default).Name v k,j)):=by
 intro k
 induction k with
 |nil=>intro c v;exact ⟨c,rfl⟩
 |cons x k ih=>
  intro c v
  rw [El,ifp (by omega),ifp (by omega),toN,Jo,A6q]
  by_cases h:x.Name=(m.Params.getD i default).Name
  ·obtain ⟨j,hj⟩:=ih (c+1) x.N
   exact ⟨j,by rw [decide_eq_true h,cond_true,if_pos h,hj]⟩
  ·obtain ⟨j,hj⟩:=ih (c+1) v
   exact ⟨j,by rw [decide_eq_false h,cond_false,if_neg h,hj]⟩
theorem Bzk{p q:List Ag}(h:Xv p q)(g:Nat)(hg:g < p.length):(p.getD g default).Name=(q.getD g default).Name∧(p.getD g default).Type_=(q.getD g default).Type_:=by
 have hq:g < q.length:=by rw [←Aua h];exact hg
 have h1:(p.map fun x=>(x.Name,x.Type_))[g]'(by rw [List.length_map];exact hg)=(q.map fun x=>(x.Name,x.Type_))[g]'(by rw [List.length_map];exact hq):=by
  have h2:p.map (fun x=>(x.Name,x.Type_))=q.map fun x=>(x.Name,x.Type_):=h
  simp only [h2]
 rw [List.getElem_map,List.getElem_map] at h1
 rw [Iu p g hg,Iu q g hq]
 exact ⟨congrArg Prod.fst h1,congrArg Prod.snd h1⟩
theorem Bdr{p q:List Ag}(h:Xv p q)(ht:∀x∈q,T1 x.Type_=true):∀x∈p,T1 x.Type_=true:=by
 intro x hx
 have hx2:(x.Name,x.Type_)∈q.map fun x=>(x.Name,x.Type_):=by
  rw [←h];exact List.mem_map.2 ⟨x,hx,rfl⟩
 obtain ⟨y,hy,he⟩:=List.mem_map.1 hx2
 injection he with e1 e2
 rw [←e2];exact ht y hy
theorem Chs(L:Nat)(l:List Ae)(qs:List Ag)(m:Ac)(r:Ac×Int)(hl:l.length≤maxLen)(hL:maxLen < L)(hq:Xv qs m.Params)(hw:∀j,j < m.Params.length→(qs.getD j default).N=A6q (m.Params.getD j default).Name (m.Params.getD j default).N l):
  ∀(k:List Ae) (i:Nat) (v:Bool),(Zp qs).drop i=k→∃j,Ga L l (Zp qs) m r k i v=some (1,(v,j)):=by
 intro k
 induction k with
 |nil=>intro i v _;exact ⟨i,rfl⟩
 |cons x k ih=>
  intro i v h
  obtain ⟨hi,hx,hk⟩:=Rk h
  have hi':i < qs.length:=by simpa [Zp] using hi
  have hip:i < m.Params.length:=by rw [←Aua hq];exact hi'
  rw [A8g qs i hi'] at hx
  subst hx
  obtain ⟨j,hj⟩:=ih (i+1) v hk
  obtain ⟨c,hc⟩:=Cal L l v (Zp qs) i m r hip l 0 (m.Params.getD i default).N
  have hn:=(Bzk hq i hi').1
  rw [Ga,ifp (by omega),toN,Ak0 L l v (Zp qs) (i:Int) m r L hl (by omega),hc,Option.bind_some,Nb,ifp (by omega)]
  refine ⟨j,?_⟩
  simp only [hn,hw i hip,Jo,decide_true,Bool.not_true,cond_false,bne_self_eq_false,hj]
theorem Bb8:∀ {p q:List Ag},Xv p q→Gh Gf p=Gh Gf q
 | [],[],_=>rfl
 | [],_::_,h=>by cases h
 |_::_,[],h=>by cases h
 |x::p,y::q,h=>by
  unfold Xv at h
  rw [List.map_cons,List.map_cons] at h
  injection h with h1 h2
  injection h1 with h1 h3
  rw [Gh,Gh,Bb8 (p:=p) (q:=q) h2]
  unfold Gf
  rw [h1]
theorem But(a:List Ae):∀(k:List Ae) (i:Nat) (ps:List Ag),(∀p∈ps,I0 p)→(∀s∈k,Z1 s)→(Oq a i ps k).1=0→∀p∈(Oq a i ps k).2,I0 p:=by
 intro k
 induction k with
 |nil=>intro i ps hp _ _;exact hp
 |cons x k ih=>
  intro i ps hp hk h
  obtain ⟨g,hg,hl,hf,e⟩:=Ao7 h
  rw [e] at h ⊢
  refine ih _ _ (fun p hpm=> ?_) (fun s hs=>hk s (by simp [hs])) h
  rcases List.mem_or_eq_of_mem_set hpm with h1|h1
  ·exact hp p h1
  ·subst h1
   have h2:=hp (ps.getD g default) (by rw [Iu ps g hl];exact List.getElem_mem hl)
   have h3:=hk x (by simp)
   exact ⟨h2.1,h2.2.1,h3.2⟩
theorem Btl{m m':Ac}(h:∀s,Sg m.Params s=Sg m'.Params s)(hs:m.Sites=m'.Sites)(hl:m.Links=m'.Links):∀(k:List Aa) (i:Nat),Agh m i k=Agh m' i k:=by
 have hr:∀i r,rtT m i r=rtT m' i r:=fun i r=>Brs m m' h hs hl _ _ _
 intro k
 induction k with
 |nil=>intro i;rfl
 |cons d k ih=>
  intro i
  rw [Agh,Agh,ih,show rtT m i=rtT m' i from funext (hr i)]
theorem Av2
  (m:Ac) (l:List Ae) (hm:Z0 m) (hl:l.length≤maxLen∧∀y∈l,Z1 y) (hb:Hw m+(Gh Ve l+1)≤1048576):∃L,Y6 L m l=some true:=by
 have h:MG m:=⟨hm,by omega⟩
 refine ⟨U5,?_⟩
 have hM:=Bx
 have hL:maxLen < U5:=Vu (Nat.le_refl U5)
 have hB:∀(m:Ac) (l:List Ae) (e:Int),Nw U5 m=some e→m.Params.length≤1048576→l.length≤maxLen→M4 U5 m l=some (Aiv m l e):=fun m l e h1 h2 h3=>A4z U5 m l e h1 h2 h3 hL
 have hpl:m.Params.length≤1048576:=by
  have h1:=h.bk
  have h2:m.Params.length≤Gh Gf m.Params:=Hv fun x=>by unfold Gf;omega
  unfold Hw at h1
  omega
 obtain ⟨n,hn⟩:=Bbg U5 h (Nat.le_refl _)
 have h1:=hB m l _ (Brn h U5 (Nat.le_refl _)) hpl hl.1
 simp only [Aej,Ok,Kc,Y6,Ok,Kc,aN,aB,hn,B4x,h1,Option.bind_some]
 cases hbig:(bif decide (n > 3000) then true else decide ((l.length:Int) > 100)) with
 |true=>rfl
 |false=>
  simp only [cond_false]
  by_cases h0:tmE m=0
  ·by_cases hz:(Oq l 0 m.Params l).1=0
   ·have hr:Aiv m l (tmE m)=(⟨m.Name,(Oq l 0 m.Params l).2,m.Sites,m.Links⟩,0):=by unfold Aiv;rw [if_neg (by simpa using h0),if_pos hz]
    have hlk:=Blw l l 0 m.Params hz
    have hpg:PG m:=B1d (by unfold tmE at h0;exact (Apk.1 h0).1)
    have hfit:=Bob l l 0 m.Params (fun p hp=>by rw [Baa (hpg.ok p hp).1];exact (hpg.ok p hp).2) hz
    have hw:=Blx l l 0 m.Params hpg.nd hz
    generalize hqs:(Oq l 0 m.Params l).2=qs at hr hlk hfit hw
    have hty:=Bdr hlk fun p hp=>(hpg.ok p hp).1
    have hfz:∀p∈qs,Aeu p.Type_ p.N=true:=fun p hp=>by rw [←Baa (hty p hp)];exact hfit p hp
    have hOk:∀p∈qs,I0 p:=by rw [←hqs];exact But l l 0 m.Params hm.2.1.2 hl.2 hz
    have hlen:=Aua hlk
    have hx:MG ⟨m.Name,qs,m.Sites,m.Links⟩:=⟨⟨hm.1,⟨by show qs.length≤maxLen;omega,hOk⟩,hm.2.2.1,hm.2.2.2⟩,by
     have h2:=h.bk
     unfold Hw at h2 ⊢
     rw [show Gh Gf qs=Gh Gf m.Params from Bb8 hlk]
     exact h2⟩
    have hnd:(qs.map fun x=>x.Name).Nodup:=by rw [Ar8 hlk];exact hpg.nd
    have htm:tmE ⟨m.Name,qs,m.Sites,m.Links⟩=0:=by
     unfold tmE at h0 ⊢
     obtain ⟨t1,t2⟩:=Apk.1 h0
     refine Apk.2 ⟨Bdq t1 hlk hfz,?_⟩
     rw [Btl (m:=⟨m.Name,qs,m.Sites,m.Links⟩) (m':=m) (Ba6 hlk) rfl rfl]
     exact t2
    have h3:=Aws U5 ⟨m.Name,qs,m.Sites,m.Links⟩ (by show qs.length≤1048576;omega) hL
    have h4:=hB ⟨m.Name,qs,m.Sites,m.Links⟩ (Zp qs) 0 (by rw [Brn hx U5 (Nat.le_refl _),htm]) (by show qs.length≤1048576;omega) (by simp only [Zp,List.length_map];omega)
    have h5:Aiv ⟨m.Name,qs,m.Sites,m.Links⟩ (Zp qs) 0=(⟨m.Name,qs,m.Sites,m.Links⟩,0):=by
     unfold Aiv
     rw [if_neg (by simp)]
     show (if (Oq (Zp qs) 0 qs (Zp qs)).1=0 then _ else _)=_
     rw [Boc hnd hfit (Zp qs) 0 rfl]
     rfl
    have h6:=B0i U5 ⟨m.Name,qs,m.Sites,m.Links⟩ hx (Nat.le_refl _)
    obtain ⟨j,hj⟩:=Chs U5 l qs m (⟨m.Name,qs,m.Sites,m.Links⟩,0) hl.1 hL hlk hw (Zp qs) 0 false rfl
    have e1:(((Zp qs).length:Int) != (m.Params.length:Int))=false:=by simp [Zp,hlen]
    simp only [hr,bne_self_eq_false,cond_false,h3,e1,Option.bind_some,Akz U5 l (Zp qs) m _ U5 (show (Zp qs).length≤maxLen by simp only [Zp,List.length_map];omega) (show (Zp qs).length < U5 by simp only [Zp,List.length_map];omega),hj,Sr,h4,h5,beq_self_eq_true,cond_true,h6]
   ·have hr:Aiv m l (tmE m)=(⟨⟨#[]⟩,[],[],[]⟩,(Oq l 0 m.Params l).1):=by unfold Aiv;rw [if_neg (by simpa using h0),if_neg hz]
    simp only [hr,ne0 hz,cond_true]
    rfl
  ·have hr:Aiv m l (tmE m)=(⟨⟨#[]⟩,[],[],[]⟩,tmE m):=by unfold Aiv;rw [if_pos h0]
   simp only [hr,ne0 h0,cond_true]
   rfl
end Go.Proofs.YtofcpkmnhmnfcaaGreatR.Ev
