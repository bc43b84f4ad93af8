/-  Chapter 11, plainly: Check of the program: laws, sites, models. -/
import Derived.Test.YtfencmicmnhglaaGreatQA
import Derived.Test.YtfencmicmnhglaaGreatCD
namespace Go.Proofs.YtfencmicmnhglaaGreat.Ev
open Go An
set_option maxRecDepth 100000
set_option linter.unusedVariables false
set_option linter.unusedSimpArgs false
set_option linter.unnecessarySimpa false
structure SG (s:Aa):Prop where
 ok:Ck s
 bk:Df s≤1048576
theorem SG.len{s:Aa}(h:SG s):Wu s 1099511627776:=(A6i s).mono (Nat.le_trans h.bk (by decide))
theorem SG.ln{s:Aa}(h:SG s):Wu s maxLen:=h.len.max
theorem SG.vars{s:Aa}(h:SG s):∀x∈s.Vars,Ny x:=by have:=h.ok;unfold Ck at this;exact this.2.1.2
theorem SG.res{s:Aa}(h:SG s):∀x∈s.Resources,S7 x:=by have:=h.ok;unfold Ck at this;exact this.2.2.1.2
theorem SG.stores{s:Aa}(h:SG s):∀x∈s.Stores,Te x:=by have:=h.ok;unfold Ck at this;exact this.2.2.2.1.2
theorem SG.belts{s:Aa}(h:SG s):∀x∈s.Belts,U9 x:=by have:=h.ok;unfold Ck at this;exact this.2.2.2.2.1.2
theorem SG.queues{s:Aa}(h:SG s):∀x∈s.Queues,okS x:=by have:=h.ok;unfold Ck at this;exact this.2.2.2.2.2.1.2
theorem SG.streams{s:Aa}(h:SG s):∀x∈s.Streams,okS x:=by have:=h.ok;unfold Ck at this;exact this.2.2.2.2.2.2.1.2
theorem SG.tallies{s:Aa}(h:SG s):∀x∈s.Tallies,okS x:=by have:=h.ok;unfold Ck at this;exact this.2.2.2.2.2.2.2.1.2
theorem SG.levels{s:Aa}(h:SG s):∀x∈s.Levels,okS x:=by have:=h.ok;unfold Ck at this;exact this.2.2.2.2.2.2.2.2.1.2
theorem SG.counts{s:Aa}(h:SG s):∀x∈s.Counts,okS x:=by have:=h.ok;unfold Ck at this;exact this.2.2.2.2.2.2.2.2.2.1.2
theorem SG.routs{s:Aa}(h:SG s):∀x∈s.Routines,Ia x:=by have:=h.ok;unfold Ck at this;exact this.2.2.2.2.2.2.2.2.2.2.1.2
theorem SG.starts{s:Aa}(h:SG s):s.Starts.length≤maxLen∧∀x∈s.Starts,Aiq x:=by have:=h.ok;unfold Ck at this;exact this.2.2.2.2.2.2.2.2.2.2.2.1
theorem SG.laws{s:Aa}(h:SG s):s.Laws.length≤maxLen∧∀x∈s.Laws,Ad7 x:=by have:=h.ok;unfold Ck at this;exact this.2.2.2.2.2.2.2.2.2.2.2.2
theorem SG.bkR{s:Aa}(h:SG s):∀x∈s.Routines,C7 x≤1048576:=by
 intro x hx
 have h1:=An9 (g:=C7) hx
 have h2:=h.bk
 unfold Df at h2
 omega
theorem SG.bkD{s:Aa}(h:SG s):∀x∈s.Resources,Lk x.Fault≤1048576:=by
 intro x hx
 have h1:=An9 (g:=Du) hx
 have h2:=h.bk
 have h3:Lk x.Fault≤Du x:=by unfold Du;omega
 unfold Df at h2
 omega
theorem Bp9(tm:Av→Int)(l:Ba):A2m tm l=fE (unl (decide (0 < l.Terms.length)) 7) (fE (unl (decide (l.Terms.length≤8)) 6) (fE (Air tm l.Terms) (unl (inZ l.Total) 2))):=rfl
theorem Cb1(L:Nat)(s:Aa)(l:Ba)(hl:Ad7 l)(hs:Wu s maxLen)(hL:maxLen < L)(ks:List ByteArray):
  ∃ks',Qq L l s ks (tr ks) l=some (fE (Wv ks l.Name) (A2m (Ud s) l),ks',tr ks')∧(fE (Wv ks l.Name) (A2m (Ud s) l)=0→ks'=ks++ [l.Name]):=by
 have hM:=Bd
 refine ⟨nx ks l.Name,?_,A83⟩
 have e:Aej L l.Name s ks (tr ks) l l=some (Wv ks l.Name,nx ks l.Name,tr (nx ks l.Name)):=Al9 L l.Name hl.1 hL ks
 have e2:∀a b c d,Aek L l.Terms s a b c d=some (if 8 < l.Terms.length then 6 else Air (Ud s) l.Terms):=fun a b c d=>
  Bl7 (lq:=Qs L l.Terms s a b c d) (bd:=Yi L s) (fun _ _=>rfl) (fun _ _ _ _=>rfl) 8 l.Terms 0 _ (Azl L l.Terms s a b c d L hl.2.1.1 (Nat.lt_of_le_of_lt hl.2.1.1 hL) 0) fun x _=>A9e L s x hs hL
 simp only [Qq,Aqh,Ae2,Afi,Y8,aN,aB,e,e2,Option.bind_some,Bhe,Atn,Bp9]
 by_cases h0:Wv ks l.Name=0
 ·simp only [h0,bne_self_eq_false,cond_false,Rp]
  by_cases h1:l.Terms.length=0
  ·rw [decide_eq_true h1,decide_eq_false (show¬0 < l.Terms.length by omega)];rfl
  ·rw [decide_eq_false h1,decide_eq_true (show 0 < l.Terms.length by omega),cond_false]
   by_cases h2:8 < l.Terms.length
   ·rw [if_pos h2,decide_eq_false (show¬l.Terms.length≤8 by omega)];rfl
   ·rw [if_neg h2,decide_eq_true (show l.Terms.length≤8 by omega)]
    simp only [unl,cond_true,Rp]
    by_cases h3:Air (Ud s) l.Terms=0
    ·simp only [h3,bne_self_eq_false,cond_false,Rp]
     cases inZ l.Total<;>rfl
    ·simp only [Uy h3,cond_true,Mf h3]
 ·simp only [Uy h0,cond_true,Mf h0]
theorem Out.e{X:Option (Int×List ByteArray×List Bool)}{p:Int×List ByteArray}(h:Out X p):∃a b,X=some (p.1,a,b):=by
 obtain ⟨ks,h,_⟩:=h;exact ⟨_,_,h⟩
theorem A9c(L:Nat)(s:Aa)(h:SG s)(hL:maxLen < L):Ain L s=some (Lg 32 (fun l:Ba=>l.Name) (A2m (Ud s)) [] s.Laws).1:=by
 obtain ⟨a,b,e⟩:=Out.e (Abm (nm:=fun l:Ba=>l.Name) (f:=A2m (Ud s)) (lq:=Qr L s.Laws s) (bd:=fun x ks vs=>Qq L x s ks vs x) (fun _ _ _ _=>rfl) (fun _ _ _ _ _ _=>rfl) 32 s.Laws 0 [] _
  (Azk L s.Laws s L h.laws.1 (Nat.lt_of_le_of_lt h.laws.1 hL) 0 [] []) fun x hx ks=>Cb1 L s x (h.laws.2 x hx) h.ln hL ks)
 have e1:Aht L s.Laws s=some ((Lg 32 (fun l:Ba=>l.Name) (A2m (Ud s)) [] s.Laws).1,a,b):=e
 simp only [Awo,Tz,Ain,Tz,aN,aB,e1,Option.bind_some]
theorem Atq(v:Al):U3 v=fE (unl (N0 v.Type_) 1) (unl (Aau v.Type_ v.N) 2):=rfl
theorem Bbv(x:Aq):Awf x=fE (unl (Br 1 1000 x.Room) 2) (unl (Br 1 3 x.Policy) 1):=rfl
theorem Bfg(x:Au):A5p x=unl (Br 1 1000 x.Length && Br 1 1000 x.Step) 2:=rfl
theorem Bqf(s:Aa)(r:Af):Bih s r=fE (unl (Br 0 1000 r.Units) 2) (fE (Awb r) (Bmy s r.Fault)):=rfl
theorem Cgp(L:Nat)(s:Aa)(x:Al)(hx:Ny x)(hL:maxLen < L)(ks:List ByteArray):
  ∃ks',Oi L x s ks (tr ks) x=some (fE (Wv ks x.Name) (U3 x),ks',tr ks')∧(fE (Wv ks x.Name) (U3 x)=0→ks'=ks++ [x.Name]):=by
 refine ⟨nx ks x.Name,?_,A83⟩
 have e:Aen L x.Name s ks (tr ks) x x=some (Wv ks x.Name,nx ks x.Name,tr (nx ks x.Name)):=Al9 L x.Name hx.1 hL ks
 simp only [Oi,Anq,Zg,aN,aB,e,Option.bind_some,Akd,Amk,Atq]
 by_cases h0:Wv ks x.Name=0
 ·simp only [h0,bne_self_eq_false,cond_false,Rp]
  cases N0 x.Type_<;>cases Aau x.Type_ x.N<;>rfl
 ·simp only [Uy h0,cond_true,Mf h0]
theorem Cf8(L:Nat)(s:Aa)(hs:SG s)(x:Af)(hm:x∈s.Resources)(hL:maxLen < L)(ks:List ByteArray):
  ∃ks',Oj L x s ks (tr ks) x=some (fE (Wv ks x.Name) (Bih s x),ks',tr ks')∧(fE (Wv ks x.Name) (Bih s x)=0→ks'=ks++ [x.Name]):=by
 have hx:=hs.res x hm
 refine ⟨nx ks x.Name,?_,A83⟩
 have e:Aep L x.Name s ks (tr ks) x x=some (Wv ks x.Name,nx ks x.Name,tr (nx ks x.Name)):=Al9 L x.Name hx.1 hL ks
 simp only [Oj,Ans,Zh,aN,aB,e,Option.bind_some,Il,Ax6 L x hx.2.2.1.1 hL,Ax5 L s x.Fault hs.ln.2.2.2.2.2.1 (hs.bkD x hm) hL,Bqf]
 by_cases h0:Wv ks x.Name=0
 ·simp only [h0,bne_self_eq_false,cond_false,Rp]
  cases Br 0 1000 x.Units with
  |false=>rfl
  |true=>
   simp only [Bool.not_true,cond_false,unl,cond_true,Rp]
   by_cases h1:Awb x=0
   ·simp only [h1,bne_self_eq_false,cond_false,Rp]
   ·simp only [Uy h1,cond_true,Mf h1]
 ·simp only [Uy h0,cond_true,Mf h0]
theorem By2(L:Nat)(s:Aa)(x:Aq)(hx:Te x)(hL:maxLen < L)(ks:List ByteArray):
  ∃ks',Ok L x s ks (tr ks) x=some (fE (Wv ks x.Name) (Awf x),ks',tr ks')∧(fE (Wv ks x.Name) (Awf x)=0→ks'=ks++ [x.Name]):=by
 refine ⟨nx ks x.Name,?_,A83⟩
 have e:Aer L x.Name s ks (tr ks) x x=some (Wv ks x.Name,nx ks x.Name,tr (nx ks x.Name)):=Al9 L x.Name hx.1 hL ks
 have e2:(decide (x.Policy < 1) || decide (x.Policy > 3))= !Br 1 3 x.Policy:=by
  unfold Br
  by_cases h1:x.Policy < 1
  ·rw [decide_eq_true h1,decide_eq_false (show¬1≤x.Policy by omega)];rfl
  ·rw [decide_eq_false h1,decide_eq_true (show 1≤x.Policy by omega)]
   by_cases h2:x.Policy > 3
   ·rw [decide_eq_true h2,decide_eq_false (show¬x.Policy≤3 by omega)];rfl
   ·rw [decide_eq_false h2,decide_eq_true (show x.Policy≤3 by omega)];rfl
 simp only [Ok,Anu,Zi,aN,aB,e,Option.bind_some,Il,Kn,e2,Bbv]
 by_cases h0:Wv ks x.Name=0
 ·simp only [h0,bne_self_eq_false,cond_false,Rp]
  cases Br 1 1000 x.Room<;>cases Br 1 3 x.Policy<;>rfl
 ·simp only [Uy h0,cond_true,Mf h0]
theorem B0h(L:Nat)(s:Aa)(x:Au)(hx:U9 x)(hL:maxLen < L)(ks:List ByteArray):
  ∃ks',Ol L x s ks (tr ks) x=some (fE (Wv ks x.Name) (A5p x),ks',tr ks')∧(fE (Wv ks x.Name) (A5p x)=0→ks'=ks++ [x.Name]):=by
 refine ⟨nx ks x.Name,?_,A83⟩
 have e:Aet L x.Name s ks (tr ks) x x=some (Wv ks x.Name,nx ks x.Name,tr (nx ks x.Name)):=Al9 L x.Name hx.1 hL ks
 simp only [Ol,Anw,Zj,aN,aB,e,Option.bind_some,Il,Bfg]
 by_cases h0:Wv ks x.Name=0
 ·simp only [h0,bne_self_eq_false,cond_false,Rp]
  cases Br 1 1000 x.Length<;>cases Br 1 1000 x.Step<;>rfl
 ·simp only [Uy h0,cond_true,Mf h0]
theorem B6l(L:Nat)(s:Aa)(hs:SG s)(x:Ak)(hm:x∈s.Routines)(hL:Uf≤L)(ks:List ByteArray):
  ∃ks',On L x s ks (tr ks) x=some (fE (Wv ks x.Name) (Ayd x),ks',tr ks')∧(fE (Wv ks x.Name) (Ayd x)=0→ks'=ks++ [x.Name]):=by
 have hx:=hs.routs x hm
 refine ⟨nx ks x.Name,?_,A83⟩
 have e:Aev L x.Name s ks (tr ks) x x=some (Wv ks x.Name,nx ks x.Name,tr (nx ks x.Name)):=Al9 L x.Name hx.1 (Rm hL) ks
 simp only [On,Anz,Wg,aN,aB,e,Option.bind_some,Az5 L x hx (hs.bkR x hm) hL]
 by_cases h0:Wv ks x.Name=0
 ·simp only [h0,bne_self_eq_false,cond_false,Rp]
 ·simp only [Uy h0,cond_true,Mf h0]
theorem B65(L:Nat)(s:Aa)(x:ByteArray)(hx:okS x)(hL:maxLen < L)(ks:List ByteArray):
  ∃ks',Om L x s ks (tr ks)=some (fE (Wv ks x) 0,ks',tr ks')∧(fE (Wv ks x) 0=0→ks'=ks++ [x]):=by
 refine ⟨nx ks x,?_,A83⟩
 have e:Om L x s ks (tr ks)=some (Wv ks x,nx ks x,tr (nx ks x)):=Al9 L x hx hL ks
 rw [e]
 by_cases h0:Wv ks x=0
 ·rw [h0,Rp]
 ·rw [Mf h0]
theorem Avp{α :Type}{l:List α}{L:Nat}(h:l.length≤maxLen)(hL:maxLen < L):l.length < L+24:=Nat.lt_of_lt_of_le (Nat.lt_of_le_of_lt h hL) (Nat.le_add_right L 24)
theorem Bza(L:Nat)(s:Aa)(h:SG s)(hL:maxLen < L):Out (Aem L s.Vars s) (Lg 32 (fun x:Al=>x.Name) U3 [] s.Vars):=
 Abm (lq:=Qt L s.Vars s) (bd:=fun x ks vs=>Oi L x s ks vs x) (fun _ _ _ _=>rfl) (fun _ _ _ _ _ _=>rfl) 32 s.Vars 0 [] _
  (Azm L s.Vars s (L+24) h.ln.1 (Avp h.ln.1 hL) 0 [] []) fun x hx ks=>Cgp L s x (h.vars x hx) hL ks
theorem B6k(L:Nat)(s:Aa)(h:SG s)(hL:maxLen < L)(ks:List ByteArray):Out (Aeo L s.Resources s ks (tr ks)) (Lg 32 (fun x:Af=>x.Name) (Bih s) ks s.Resources):=
 Abm (lq:=Qu L s.Resources s) (bd:=fun x ks vs=>Oj L x s ks vs x) (fun _ _ _ _=>rfl) (fun _ _ _ _ _ _=>rfl) 32 s.Resources 0 ks _
  (Azn L s.Resources s (L+24) h.ln.2.1 (Avp h.ln.2.1 hL) 0 ks _) fun x hx ks=>Cf8 L s h x hx hL ks
theorem Blf(L:Nat)(s:Aa)(h:SG s)(hL:maxLen < L)(ks:List ByteArray):Out (Aeq L s.Stores s ks (tr ks)) (Lg 32 (fun x:Aq=>x.Name) Awf ks s.Stores):=
 Abm (lq:=Qv L s.Stores s) (bd:=fun x ks vs=>Ok L x s ks vs x) (fun _ _ _ _=>rfl) (fun _ _ _ _ _ _=>rfl) 32 s.Stores 0 ks _
  (Azo L s.Stores s (L+24) h.ln.2.2.1 (Avp h.ln.2.2.1 hL) 0 ks _) fun x hx ks=>By2 L s x (h.stores x hx) hL ks
theorem Bsq(L:Nat)(s:Aa)(h:SG s)(hL:maxLen < L)(ks:List ByteArray):Out (Aes L s.Belts s ks (tr ks)) (Lg 32 (fun x:Au=>x.Name) A5p ks s.Belts):=
 Abm (lq:=Qw L s.Belts s) (bd:=fun x ks vs=>Ol L x s ks vs x) (fun _ _ _ _=>rfl) (fun _ _ _ _ _ _=>rfl) 32 s.Belts 0 ks _
  (Azp L s.Belts s (L+24) h.ln.2.2.2.1 (Avp h.ln.2.2.2.1 hL) 0 ks _) fun x hx ks=>B0h L s x (h.belts x hx) hL ks
theorem Aoa(L:Nat)(s:Aa)(l:List ByteArray)(h1:l.length≤maxLen)(h2:∀x∈l,okS x)(hL:maxLen < L)(ks:List ByteArray):Out (Ks L l s ks (tr ks)) (txE ks l):=
 Abm (lq:=Qx L l s) (bd:=fun x ks vs=>Om L x s ks vs) (fun _ _ _ _=>rfl) (fun _ _ _ _ _ _=>rfl) 32 l 0 ks _
  (Azq L l s (L+24) h1 (Avp h1 hL) 0 ks _) fun x hx ks=>B65 L s x (h2 x hx) hL ks
theorem Btt(L:Nat)(s:Aa)(h:SG s)(hL:Uf≤L)(ks:List ByteArray):Out (Aeu L s.Routines s ks (tr ks)) (Lg 16 (fun x:Ak=>x.Name) Ayd ks s.Routines):=
 Abm (lq:=Qy L s.Routines s) (bd:=fun x ks vs=>On L x s ks vs x) (fun _ _ _ _=>rfl) (fun _ _ _ _ _ _=>rfl) 16 s.Routines 0 ks _
  (Azr L s.Routines s (L+24) h.ln.2.2.2.2.2.2.2.2.2 (Avp h.ln.2.2.2.2.2.2.2.2.2 (Rm hL)) 0 ks _) fun x hx ks=>B6l L s h x hx hL ks
theorem A3d(L:Nat)(s:Aa)(h:SG s)(hL:maxLen < L)(a:List ByteArray)(b:List Bool):Aew L s.Starts s a b=some (Ayh s):=
 Bl7 (lq:=Qz L s.Starts s a b) (bd:=Vs L s) (fun _ _=>rfl) (fun _ _ _ _=>rfl) 32 s.Starts 0 _ (Azs L s.Starts s a b (L+24) h.starts.1 (Avp h.starts.1 hL) 0) fun x hx=>
  A7d L s x h.ln.2.2.2.2.2.2.2.2.2 ((h.starts.2 x hx).2.1.1) hL
theorem Bip(tm:Aa→Av→Int)(s:Aa):Ahi tm s=fE (Apm s).1 (fE (Ayh s) (Lg 32 (fun l:Ba=>l.Name) (A2m (tm s)) [] s.Laws).1):=rfl
theorem Av6(L:Nat)(s:Aa)(h:SG s)(hL:Uf≤L):Gl (Ahi Ud s) (u4 L s):=by
 have hl:=Rm hL
 have g:∀a b:Int,a < b→((a < b)=True):=fun a b h=>eq_true h
 have e0:∀n:Int,0≤n→((0≤n)=True):=fun n h=>eq_true h
 simp only [u4,Aqi,Afk,Ae6,Afl,Ae8,Afm,Afa,Afn,Afc,Afo,Afe,Afp,Aff,Adr,Acy,Ads,Acz,Adt,Ac0,Adu,Ac2,Adv,Wh,aN,aB]
 repeat rw [ifp (by decide)]
 rw [Bip,Apm]
 simp only [A8g]
 refine Ayi (Bza L s h hl) (fun _ _ _ h=>nzE h _ _ _) fun ks=> ?_
 simp only [bne_self_eq_false,cond_false]
 repeat rw [ifp (by decide)]
 refine Ayi (B6k L s h hl ks) (fun _ _ _ h=>nzE h _ _ _) fun ks=> ?_
 simp only [bne_self_eq_false,cond_false]
 repeat rw [ifp (by decide)]
 refine Ayi (Blf L s h hl ks) (fun _ _ _ h=>nzE h _ _ _) fun ks=> ?_
 simp only [bne_self_eq_false,cond_false]
 repeat rw [ifp (by decide)]
 refine Ayi (Bsq L s h hl ks) (fun _ _ _ h=>nzE h _ _ _) fun ks=> ?_
 simp only [bne_self_eq_false,cond_false]
 repeat rw [ifp (by decide)]
 refine Ayi (Aoa L s s.Queues h.ln.2.2.2.2.1 h.queues hl ks) (fun _ _ _ h=>nzE h _ _ _) fun ks=> ?_
 simp only [bne_self_eq_false,cond_false]
 repeat rw [ifp (by decide)]
 refine Ayi (Aoa L s s.Streams h.ln.2.2.2.2.2.1 h.streams hl ks) (fun _ _ _ h=>nzE h _ _ _) fun ks=> ?_
 simp only [bne_self_eq_false,cond_false]
 repeat rw [ifp (by decide)]
 refine Ayi (Aoa L s s.Tallies h.ln.2.2.2.2.2.2.1 h.tallies hl ks) (fun _ _ _ h=>nzE h _ _ _) fun ks=> ?_
 simp only [bne_self_eq_false,cond_false]
 repeat rw [ifp (by decide)]
 refine Ayi (Aoa L s s.Levels h.ln.2.2.2.2.2.2.2.1 h.levels hl ks) (fun _ _ _ h=>nzE h _ _ _) fun ks=> ?_
 simp only [bne_self_eq_false,cond_false]
 repeat rw [ifp (by decide)]
 refine Ayi (Aoa L s s.Counts h.ln.2.2.2.2.2.2.2.2.1 h.counts hl ks) (fun _ _ _ h=>nzE h _ _ _) fun ks=> ?_
 simp only [bne_self_eq_false,cond_false]
 repeat rw [ifp (by decide)]
 refine Coq (Btt L s h hL ks) (fun _ _ _ h=>nzE h _ _ _) fun ks=> ?_
 simp only [bne_self_eq_false,cond_false]
 repeat rw [ifp (by decide)]
 rw [A3d L s h hl,Option.bind_some]
 by_cases h1:Ayh s=0
 ·simp only [h1,bne_self_eq_false,cond_false,Rp]
  repeat rw [ifp (by decide)]
  rw [A9c L s h hl,Option.bind_some]
  by_cases h2:(Lg 32 (fun l:Ba=>l.Name) (A2m (Ud s)) [] s.Laws).1=0
  ·simp only [h2,bne_self_eq_false,cond_false];exact ⟨_,_,rfl⟩
  ·simp only [Uy h2,cond_true];exact ⟨_,_,rfl⟩
 ·simp only [Uy h1,cond_true,Mf h1];exact ⟨_,_,rfl⟩
theorem A9d(L:Nat)(s:Aa)(h:SG s)(hL:Uf≤L):Aio L s=some (Ahi Ud s):=by
 obtain ⟨a,b,e⟩:=Av6 L s h hL
 simp only [Awp,R7,Aio,R7,aN,aB,e,Option.bind_some]
def A96(l:List Bl):List Bt:=l.map fun x=>(⟨x.From,x.To⟩:Bt)
def Bty(seen:List Bl)(x:Bl):Bool:=seen.any fun y=>decide (y.From=x.From) && decide (y.To=x.To)
theorem Bhg(m:Ad)(seen:List Bl)(l:Bl):Bhf m seen l=if (m.Sites.any (fun d=>decide (d.Name=l.From)) && m.Sites.any (fun d=>decide (d.Name=l.To)))=false then 5
 else if l.From=l.To then 1 else if Br 1 1000000000 l.Delay=false then 2 else unl (!Bty seen l) 4:=rfl
theorem B67(seen:List Bl)(x:Bl):((A96 seen).any fun b=>x.From == b.a0 && x.To == b.a1)=Bty seen x:=by
 unfold A96 Bty
 rw [List.any_map]
 congr 1
 funext y
 show (x.From == y.From && x.To == y.To)=_
 rw [Bcs,Bcs]
theorem Biq(m:Ad)(n:ByteArray):decide (A12 m n < 0)= !m.Sites.any fun d=>decide (d.Name=n):=by
 unfold A12
 rw [Abr]
 cases h:m.Sites.findIdx? fun d=>decide (d.Name=n) with
 |none=>rw [Axa h];rfl
 |some i=>rw [Atk h];rfl
theorem B5q(L:Nat)(m:Ad)(x:Bl)(hm:m.Sites.length≤maxLen)(hL:maxLen < L)(seen:List Bl):
  ∃ks',Tj L x m (A96 seen) (tr (A96 seen)) x=some (Bhf m seen x,ks',tr ks')∧(Bhf m seen x=0→ks'=A96 (seen++ [x])):=by
 simp only [Tj,Aee,aN,aB,Aun L m _ hm hL,Il,Option.bind_some,Biq,Ea,D5,Kn,Bhg]
 rw [←B67]
 cases m.Sites.any (fun d=>decide (d.Name=x.From)) with
 |false=>exact ⟨_,rfl,fun h=>absurd (show (5:Int)=0 from h) (by decide)⟩
 |true=>
  cases m.Sites.any (fun d=>decide (d.Name=x.To)) with
  |false=>exact ⟨_,rfl,fun h=>absurd (show (5:Int)=0 from h) (by decide)⟩
  |true=>
   simp only [Bool.not_true,Bool.or_self,cond_false,Bool.and_self,Bool.true_eq_false,if_false]
   by_cases h1:x.From=x.To
   ·rw [decide_eq_true h1,if_pos h1];exact ⟨_,rfl,fun h=>absurd (show (1:Int)=0 from h) (by decide)⟩
   ·rw [decide_eq_false h1,if_neg h1,cond_false]
    cases Br 1 1000000000 x.Delay with
    |false=>exact ⟨_,rfl,fun h=>absurd (show (2:Int)=0 from h) (by decide)⟩
    |true=>
     simp only [Bool.not_true,cond_false,Bool.true_eq_false,if_false]
     cases hf:(A96 seen).findIdx? fun b=>x.From == b.a0 && x.To == b.a1 with
     |some i=>
      rw [Atk hf]
      obtain ⟨h3,_⟩:=List.findIdx?_eq_some_iff_getElem.1 hf
      simp only [fko,By6 h3]
      exact ⟨_,rfl,fun h=>absurd (show (4:Int)=0 from h) (by decide)⟩
     |none=>
      rw [Axa hf]
      simp only [fko]
      rw [Bsd (A96 seen) (⟨x.From,x.To⟩:Bt)]
      exact ⟨_,rfl,fun _=>by unfold A96;rw [List.map_append];rfl⟩
theorem A3j(L:Nat)(l:List Bl)(m:Ad)(hm:m.Sites.length≤maxLen)(hL:maxLen < L):∀(k:List Bl) (i:Nat) (v:Int) (seen:List Bl),
  ∃j a b,I6 L l m k i v (A96 seen) (tr (A96 seen))=some (if Ah3 m seen k=0 then (1,(v,(j,a,b))) else (0,(Ah3 m seen k,(j,a,b)))):=by
 intro k
 induction k with
 |nil=>intro i v seen;exact ⟨i,_,_,rfl⟩
 |cons x k ih=>
  intro i v seen
  obtain ⟨ks',he,hk⟩:=B5q L m x hm hL seen
  rw [I6,he,Option.bind_some,Ah3]
  by_cases h0:Bhf m seen x=0
  ·have:=hk h0;subst this
   obtain ⟨j,a,b,hj⟩:=ih (i+1) v (seen++ [x])
   rw [h0,Rp]
   exact ⟨j,a,b,hj⟩
  ·rw [Mf h0]
   exact ⟨i,ks',tr ks',by simp only [Uy h0,cond_true,if_neg h0]⟩
theorem A7b(L:Nat)(m:Ad)(hm:m.Sites.length≤maxLen)(hl:m.Links.length≤maxLen)(hL:maxLen < L):Afu L m=some (A6k m):=by
 have e32:decide ((m.Links.length:Int) > 32)=decide (32 < m.Links.length):=gtN _ 32
 obtain ⟨j,a,b,hj⟩:=A3j L m.Links m hm hL m.Links 0 0 []
 have hj':I6 L m.Links m m.Links 0 0 [] []=_:=hj
 simp only [At8,T1,Afu,T1,Ael,Anl,Afj,Y9,aN,aB,e32,Axo L m.Links m L hl (Nat.lt_of_le_of_lt hl hL),hj',Option.bind_some,A6k]
 by_cases h:32 < m.Links.length
 ·rw [decide_eq_true h,if_pos h];rfl
 ·rw [decide_eq_false h,if_neg h,cond_false]
  by_cases h0:Ah3 m [] m.Links=0
  ·rw [if_pos h0,Qo,h0];rfl
  ·rw [if_neg h0,Hb];rfl
structure MG (m:Ad):Prop where
 ok:Yj m
 bk:Ih m≤1048576
theorem MG.sites{m:Ad}(h:MG m):m.Sites.length≤maxLen:=h.ok.2.2.1.1
theorem MG.site{m:Ad}(h:MG m):∀d∈m.Sites,SG d:=fun d hd=>⟨h.ok.2.2.1.2 d hd,by have h1:=An9 (g:=Df) hd;have h2:=h.bk;unfold Ih at h2;omega⟩
theorem MG.links{m:Ad}(h:MG m):m.Links.length≤maxLen:=h.ok.2.2.2.1
theorem Cdb(L:Nat)(m:Ad)(x:Al)(hx:Ny x)(hL:maxLen < L)(ks:List ByteArray):
  ∃ks',Oh L x m ks (tr ks) x=some (fE (Wv ks x.Name) (U3 x),ks',tr ks')∧(fE (Wv ks x.Name) (U3 x)=0→ks'=ks++ [x.Name]):=by
 refine ⟨nx ks x.Name,?_,A83⟩
 have e:Aeh L x.Name m ks (tr ks) x x=some (Wv ks x.Name,nx ks x.Name,tr (nx ks x.Name)):=Al9 L x.Name hx.1 hL ks
 simp only [Oh,Ani,Y6,aN,aB,e,Option.bind_some,Akd,Amk,Atq]
 by_cases h0:Wv ks x.Name=0
 ·simp only [h0,bne_self_eq_false,cond_false,Rp]
  cases N0 x.Type_<;>cases Aau x.Type_ x.N<;>rfl
 ·simp only [Uy h0,cond_true,Mf h0]
theorem B6y(L:Nat)(m:Ad)(a:List ByteArray)(b:List Bool)(x:Aa)(hx:SG x)(hL:Uf≤L)(ks:List ByteArray):
  ∃ks',Mi L x m a b ks (tr ks) x=some (fE (Wv ks x.Name) (Ahi Ud x),ks',tr ks')∧(fE (Wv ks x.Name) (Ahi Ud x)=0→ks'=ks++ [x.Name]):=by
 have hn:okS x.Name:=by have:=hx.ok;unfold Ck at this;exact this.1
 refine ⟨nx ks x.Name,?_,A83⟩
 have e:Abq L x.Name m a b ks (tr ks) x x=some (Wv ks x.Name,nx ks x.Name,tr (nx ks x.Name)):=Al9 L x.Name hn (Rm hL) ks
 simp only [Mi,Ald,We,aN,aB,e,Option.bind_some,A9d L x hx hL]
 by_cases h0:Wv ks x.Name=0
 ·simp only [h0,bne_self_eq_false,cond_false,Rp]
 ·simp only [Uy h0,cond_true,Mf h0]
theorem A7a(L:Nat)(m:Ad)(h:MG m)(hL:Uf≤L):Aft L m=some (Acj Ud m):=by
 have hl:=Rm hL
 have hp:=h.ok.2.1
 obtain ⟨a,b,e1⟩:=Out.e (Abm (nm:=fun x:Al=>x.Name) (f:=U3) (lq:=Oo L m.Params m) (bd:=fun x ks vs=>Oh L x m ks vs x) (fun _ _ _ _=>rfl) (fun _ _ _ _ _ _=>rfl) 32 m.Params 0 [] _
  (Axm L m.Params m L hp.1 (Nat.lt_of_le_of_lt hp.1 hl) 0 [] []) fun x hx ks=>Cdb L m x (hp.2 x hx) hl ks)
 have e1':Aeg L m.Params m=some ((Lg 32 (fun x:Al=>x.Name) U3 [] m.Params).1,a,b):=e1
 obtain ⟨c,d,e2⟩:=Out.e (Abm (nm:=fun x:Aa=>x.Name) (f:=Ahi Ud) (lq:=Oq L m.Sites m a b) (bd:=fun x ks vs=>Mi L x m a b ks vs x) (fun _ _ _ _=>rfl) (fun _ _ _ _ _ _=>rfl) 16 m.Sites 0 [] _
  (Axn L m.Sites m a b L h.sites (Nat.lt_of_le_of_lt h.sites hl) 0 [] []) fun x hx ks=>B6y L m a b x (h.site x hx) hL ks)
 have e2':Aei L m.Sites m a b=some ((Lg 16 (fun x:Aa=>x.Name) (Ahi Ud) [] m.Sites).1,c,d):=e2
 simp only [At7,Zo,Y7,Wo,R4,Aft,Zo,Y7,Wo,R4,aN,aB,Xd L m.Name h.ok.1 (Nat.lt_of_le_of_lt h.ok.1 hl),e1',e2',A7b L m h.sites h.links hl,Bhe,Option.bind_some]
 unfold Acj
 by_cases h0:Rw m.Name=0
 ·simp only [h0,bne_self_eq_false,cond_false,Rp]
  by_cases h1:(Lg 32 (fun x:Al=>x.Name) U3 [] m.Params).1=0
  ·simp only [h1,bne_self_eq_false,cond_false,Rp]
   by_cases h2:m.Sites.length=0
   ·rw [decide_eq_true h2,decide_eq_false (show¬0 < m.Sites.length by omega)];rfl
   ·rw [decide_eq_false h2,decide_eq_true (show 0 < m.Sites.length by omega)]
    simp only [unl,cond_true,cond_false,Rp]
    by_cases h3:(Lg 16 (fun d:Aa=>d.Name) (Ahi Ud) [] m.Sites).1=0
    ·simp only [h3,bne_self_eq_false,cond_false,Rp]
    ·simp only [Uy h3,cond_true,Mf h3]
  ·simp only [Uy h1,cond_true,Mf h1]
 ·simp only [Uy h0,cond_true,Mf h0]
end Go.Proofs.YtfencmicmnhglaaGreat.Ev
