/-  Chapter 11, plainly: Check of the program: laws, sites, models. -/
import Derived.Test.YtogleahbpobaiaaGreatQA
import Derived.Test.YtogleahbpobaiaaGreatCD
namespace Go.Proofs.YtogleahbpobaiaaGreat.Ev
open Go An
set_option maxRecDepth 100000
set_option linter.unusedVariables false
set_option linter.unusedSimpArgs false
set_option linter.unnecessarySimpa false
structure SG (s:Aa):Prop where
 ok:B7 s
 bk:Cj s≤1048576
theorem SG.len{s:Aa}(h:SG s):U9 s 1099511627776:=(Aqt s).mono (Nat.le_trans h.bk (by decide))
theorem SG.ln{s:Aa}(h:SG s):U9 s maxLen:=h.len.max
theorem SG.vars{s:Aa}(h:SG s):∀x∈s.Vars,Ng x:=by have:=h.ok;unfold B7 at this;exact this.2.1.2
theorem SG.res{s:Aa}(h:SG s):∀x∈s.Resources,Rr x:=by have:=h.ok;unfold B7 at this;exact this.2.2.1.2
theorem SG.stores{s:Aa}(h:SG s):∀x∈s.Stores,Rx x:=by have:=h.ok;unfold B7 at this;exact this.2.2.2.1.2
theorem SG.belts{s:Aa}(h:SG s):∀x∈s.Belts,Tt x:=by have:=h.ok;unfold B7 at this;exact this.2.2.2.2.1.2
theorem SG.queues{s:Aa}(h:SG s):∀x∈s.Queues,okS x:=by have:=h.ok;unfold B7 at this;exact this.2.2.2.2.2.1.2
theorem SG.streams{s:Aa}(h:SG s):∀x∈s.Streams,okS x:=by have:=h.ok;unfold B7 at this;exact this.2.2.2.2.2.2.1.2
theorem SG.tallies{s:Aa}(h:SG s):∀x∈s.Tallies,okS x:=by have:=h.ok;unfold B7 at this;exact this.2.2.2.2.2.2.2.1.2
theorem SG.levels{s:Aa}(h:SG s):∀x∈s.Levels,okS x:=by have:=h.ok;unfold B7 at this;exact this.2.2.2.2.2.2.2.2.1.2
theorem SG.counts{s:Aa}(h:SG s):∀x∈s.Counts,okS x:=by have:=h.ok;unfold B7 at this;exact this.2.2.2.2.2.2.2.2.2.1.2
theorem SG.routs{s:Aa}(h:SG s):∀x∈s.Routines,Gm x:=by have:=h.ok;unfold B7 at this;exact this.2.2.2.2.2.2.2.2.2.2.1.2
theorem SG.starts{s:Aa}(h:SG s):s.Starts.length≤maxLen∧∀x∈s.Starts,Ahb x:=by have:=h.ok;unfold B7 at this;exact this.2.2.2.2.2.2.2.2.2.2.2.1
theorem SG.laws{s:Aa}(h:SG s):s.Laws.length≤maxLen∧∀x∈s.Laws,Acm x:=by have:=h.ok;unfold B7 at this;exact this.2.2.2.2.2.2.2.2.2.2.2.2
theorem SG.bkR{s:Aa}(h:SG s):∀x∈s.Routines,Cp x≤1048576:=by
 intro x hx
 have h1:=Ai3 (g:=Cp) hx
 have h2:=h.bk
 unfold Cj at h2
 omega
theorem SG.bkD{s:Aa}(h:SG s):∀x∈s.Resources,Ku x.Fault≤1048576:=by
 intro x hx
 have h1:=Ai3 (g:=Dj) hx
 have h2:=h.bk
 have h3:Ku x.Fault≤Dj x:=by unfold Dj;omega
 unfold Cj at h2
 omega
theorem Bln(tm:Au→Int)(l:Ax):A0c tm l=fE (n5 (decide (0 < l.Terms.length)) 7) (fE (n5 (decide (l.Terms.length≤8)) 6) (fE (Ahc tm l.Terms) (n5 (inZ l.Total) 2))):=rfl
theorem B52(L:Nat)(s:Aa)(l:Ax)(hl:Acm l)(hs:U9 s maxLen)(hL:maxLen < L)(ks:List ByteArray):
  ∃ks',O8 L l s ks (tr ks) l=some (fE (Vb ks l.Name) (A0c (S4 s) l),ks',tr ks')∧(fE (Vb ks l.Name) (A0c (S4 s) l)=0→ks'=ks++ [l.Name]):=by
 have hM:=Bd
 refine ⟨nx ks l.Name,?_,A5z⟩
 have e:Ac0 L l.Name s ks (tr ks) l l=some (Vb ks l.Name,nx ks l.Name,tr (nx ks l.Name)):=Ako L l.Name hl.1 hL ks
 have e2:∀a b c d,Ac1 L l.Terms s a b c d=some (if 8 < l.Terms.length then 6 else Ahc (S4 s) l.Terms):=fun a b c d=>
  Bih (lq:=Pq L l.Terms s a b c d) (bd:=Wo L s) (fun _ _=>rfl) (fun _ _ _ _=>rfl) 8 l.Terms 0 _ (Axi L l.Terms s a b c d L hl.2.1.1 (Nat.lt_of_le_of_lt hl.2.1.1 hL) 0) fun x _=>A59 L s x hs hL
 simp only [O8,Aop,Ad2,Adk,Ad3,Xb,aN,aB,e,e2,Option.bind_some,Bzg,Ax3,Bln]
 by_cases h0:Vb ks l.Name=0
 ·simp only [h0,bne_self_eq_false,cond_false,Td]
  by_cases h1:l.Terms.length=0
  ·rw [decide_eq_true h1,decide_eq_false (show¬0 < l.Terms.length by omega)];rfl
  ·rw [decide_eq_false h1,decide_eq_true (show 0 < l.Terms.length by omega),cond_false]
   by_cases h2:8 < l.Terms.length
   ·rw [if_pos h2,decide_eq_false (show¬l.Terms.length≤8 by omega)];rfl
   ·rw [if_neg h2,decide_eq_true (show l.Terms.length≤8 by omega)]
    simp only [n5,cond_true,Td]
    by_cases h3:Ahc (S4 s) l.Terms=0
    ·simp only [h3,bne_self_eq_false,cond_false,Td]
     cases inZ l.Total<;>rfl
    ·simp only [Um h3,cond_true,O4 h3]
 ·simp only [Um h0,cond_true,O4 h0]
theorem Out.e{X:Option (Int×List ByteArray×List Bool)}{p:Int×List ByteArray}(h:Out X p):∃a b,X=some (p.1,a,b):=by
 obtain ⟨ks,h,_⟩:=h;exact ⟨_,_,h⟩
theorem A57(L:Nat)(s:Aa)(h:SG s)(hL:maxLen < L):Ag9 L s=some (La 32 (fun l:Ax=>l.Name) (A0c (S4 s)) [] s.Laws).1:=by
 obtain ⟨a,b,e⟩:=Out.e (w5 (nm:=fun l:Ax=>l.Name) (f:=A0c (S4 s)) (lq:=Ph L s.Laws s) (bd:=fun x ks vs=>O8 L x s ks vs x) (fun _ _ _ _=>rfl) (fun _ _ _ _ _ _=>rfl) 32 s.Laws 0 [] _
  (Axh L s.Laws s L h.laws.1 (Nat.lt_of_le_of_lt h.laws.1 hL) 0 [] []) fun x hx ks=>B52 L s x (h.laws.2 x hx) h.ln hL ks)
 have e1:Agb L s.Laws s=some ((La 32 (fun l:Ax=>l.Name) (A0c (S4 s)) [] s.Laws).1,a,b):=e
 simp only [Aup,Xt,Si,Ag9,Xt,Si,aN,aB,e1,Option.bind_some]
theorem Ary(v:Al):Yp v=fE (n5 (Wg v.Type_) 1) (n5 (Ajv v.Type_ v.N) 2):=rfl
theorem A8m(x:Ap):Aue x=fE (n5 (Bp 1 1000 x.Room) 2) (n5 (Bp 1 3 x.Policy) 1):=rfl
theorem Bcf(x:Ar):A2t x=n5 (Bp 1 1000 x.Length && Bp 1 1000 x.Step) 2:=rfl
theorem Blr(s:Aa)(r:Af):Be8 s r=fE (n5 (Bp 0 1000 r.Units) 2) (fE (Aua r) (Bi6 s r.Fault)):=rfl
theorem Caf(L:Nat)(s:Aa)(x:Al)(hx:Ng x)(hL:maxLen < L)(ks:List ByteArray):
  ∃ks',Nu L x s ks (tr ks) x=some (fE (Vb ks x.Name) (Yp x),ks',tr ks')∧(fE (Vb ks x.Name) (Yp x)=0→ks'=ks++ [x.Name]):=by
 refine ⟨nx ks x.Name,?_,A5z⟩
 have e:Ac4 L x.Name s ks (tr ks) x x=some (Vb ks x.Name,nx ks x.Name,tr (nx ks x.Name)):=Ako L x.Name hx.1 hL ks
 simp only [Nu,Al0,Ad8,Xj,aN,aB,e,Option.bind_some,Aiy,Akw,Ary]
 by_cases h0:Vb ks x.Name=0
 ·simp only [h0,bne_self_eq_false,cond_false,Td]
  cases Wg x.Type_<;>cases Ajv x.Type_ x.N<;>rfl
 ·simp only [Um h0,cond_true,O4 h0]
theorem B9z(L:Nat)(s:Aa)(hs:SG s)(x:Af)(hm:x∈s.Resources)(hL:maxLen < L)(ks:List ByteArray):
  ∃ks',Nv L x s ks (tr ks) x=some (fE (Vb ks x.Name) (Be8 s x),ks',tr ks')∧(fE (Vb ks x.Name) (Be8 s x)=0→ks'=ks++ [x.Name]):=by
 have hx:=hs.res x hm
 refine ⟨nx ks x.Name,?_,A5z⟩
 have e:Ac6 L x.Name s ks (tr ks) x x=some (Vb ks x.Name,nx ks x.Name,tr (nx ks x.Name)):=Ako L x.Name hx.1 hL ks
 simp only [Nv,Al2,Aea,Xk,aN,aB,e,Option.bind_some,H7,Av7 L x hx.2.2.1.1 hL,Av6 L s x.Fault hs.ln.2.2.2.2.2.1 (hs.bkD x hm) hL,Blr]
 by_cases h0:Vb ks x.Name=0
 ·simp only [h0,bne_self_eq_false,cond_false,Td]
  cases Bp 0 1000 x.Units with
  |false=>rfl
  |true=>
   simp only [Bool.not_true,cond_false,n5,cond_true,Td]
   by_cases h1:Aua x=0
   ·simp only [h1,bne_self_eq_false,cond_false,Td]
   ·simp only [Um h1,cond_true,O4 h1]
 ·simp only [Um h0,cond_true,O4 h0]
theorem Bue(L:Nat)(s:Aa)(x:Ap)(hx:Rx x)(hL:maxLen < L)(ks:List ByteArray):
  ∃ks',Nw L x s ks (tr ks) x=some (fE (Vb ks x.Name) (Aue x),ks',tr ks')∧(fE (Vb ks x.Name) (Aue x)=0→ks'=ks++ [x.Name]):=by
 refine ⟨nx ks x.Name,?_,A5z⟩
 have e:Ac8 L x.Name s ks (tr ks) x x=some (Vb ks x.Name,nx ks x.Name,tr (nx ks x.Name)):=Ako L x.Name hx.1 hL ks
 have e2:(decide (x.Policy < 1) || decide (x.Policy > 3))= !Bp 1 3 x.Policy:=by
  unfold Bp
  by_cases h1:x.Policy < 1
  ·rw [decide_eq_true h1,decide_eq_false (show¬1≤x.Policy by omega)];rfl
  ·rw [decide_eq_false h1,decide_eq_true (show 1≤x.Policy by omega)]
   by_cases h2:x.Policy > 3
   ·rw [decide_eq_true h2,decide_eq_false (show¬x.Policy≤3 by omega)];rfl
   ·rw [decide_eq_false h2,decide_eq_true (show x.Policy≤3 by omega)];rfl
 simp only [Nw,Al4,Aec,Xl,aN,aB,e,Option.bind_some,H7,Kq,e2,A8m]
 by_cases h0:Vb ks x.Name=0
 ·simp only [h0,bne_self_eq_false,cond_false,Td]
  cases Bp 1 1000 x.Room<;>cases Bp 1 3 x.Policy<;>rfl
 ·simp only [Um h0,cond_true,O4 h0]
theorem Bv0(L:Nat)(s:Aa)(x:Ar)(hx:Tt x)(hL:maxLen < L)(ks:List ByteArray):
  ∃ks',Nx L x s ks (tr ks) x=some (fE (Vb ks x.Name) (A2t x),ks',tr ks')∧(fE (Vb ks x.Name) (A2t x)=0→ks'=ks++ [x.Name]):=by
 refine ⟨nx ks x.Name,?_,A5z⟩
 have e:Ada L x.Name s ks (tr ks) x x=some (Vb ks x.Name,nx ks x.Name,tr (nx ks x.Name)):=Ako L x.Name hx.1 hL ks
 simp only [Nx,Al6,Aee,Xm,aN,aB,e,Option.bind_some,H7,Bcf]
 by_cases h0:Vb ks x.Name=0
 ·simp only [h0,bne_self_eq_false,cond_false,Td]
  cases Bp 1 1000 x.Length<;>cases Bp 1 1000 x.Step<;>rfl
 ·simp only [Um h0,cond_true,O4 h0]
theorem B0a(L:Nat)(s:Aa)(hs:SG s)(x:Ai)(hm:x∈s.Routines)(hL:m9≤L)(ks:List ByteArray):
  ∃ks',Nz L x s ks (tr ks) x=some (fE (Vb ks x.Name) (Awd x),ks',tr ks')∧(fE (Vb ks x.Name) (Awd x)=0→ks'=ks++ [x.Name]):=by
 have hx:=hs.routs x hm
 refine ⟨nx ks x.Name,?_,A5z⟩
 have e:Adc L x.Name s ks (tr ks) x x=some (Vb ks x.Name,nx ks x.Name,tr (nx ks x.Name)):=Ako L x.Name hx.1 (Ta hL) ks
 simp only [Nz,Al9,Ab8,Uw,aN,aB,e,Option.bind_some,Ax1 L x hx (hs.bkR x hm) hL]
 by_cases h0:Vb ks x.Name=0
 ·simp only [h0,bne_self_eq_false,cond_false,Td]
 ·simp only [Um h0,cond_true,O4 h0]
theorem B0t(L:Nat)(s:Aa)(x:ByteArray)(hx:okS x)(hL:maxLen < L)(ks:List ByteArray):
  ∃ks',Ny L x s ks (tr ks)=some (fE (Vb ks x) 0,ks',tr ks')∧(fE (Vb ks x) 0=0→ks'=ks++ [x]):=by
 refine ⟨nx ks x,?_,A5z⟩
 have e:Ny L x s ks (tr ks)=some (Vb ks x,nx ks x,tr (nx ks x)):=Ako L x hx hL ks
 rw [e]
 by_cases h0:Vb ks x=0
 ·rw [h0,Td]
 ·rw [O4 h0]
theorem Ats{α :Type}{l:List α}{L:Nat}(h:l.length≤maxLen)(hL:maxLen < L):l.length < L+24:=Nat.lt_of_lt_of_le (Nat.lt_of_le_of_lt h hL) (Nat.le_add_right L 24)
theorem Bul(L:Nat)(s:Aa)(h:SG s)(hL:maxLen < L):Out (Ac3 L s.Vars s) (La 32 (fun x:Al=>x.Name) Yp [] s.Vars):=
 w5 (lq:=Pr L s.Vars s) (bd:=fun x ks vs=>Nu L x s ks vs x) (fun _ _ _ _=>rfl) (fun _ _ _ _ _ _=>rfl) 32 s.Vars 0 [] _
  (Axj L s.Vars s (L+24) h.ln.1 (Ats h.ln.1 hL) 0 [] []) fun x hx ks=>Caf L s x (h.vars x hx) hL ks
theorem Bz9(L:Nat)(s:Aa)(h:SG s)(hL:maxLen < L)(ks:List ByteArray):Out (Ac5 L s.Resources s ks (tr ks)) (La 32 (fun x:Af=>x.Name) (Be8 s) ks s.Resources):=
 w5 (lq:=Ps L s.Resources s) (bd:=fun x ks vs=>Nv L x s ks vs x) (fun _ _ _ _=>rfl) (fun _ _ _ _ _ _=>rfl) 32 s.Resources 0 ks _
  (Axk L s.Resources s (L+24) h.ln.2.1 (Ats h.ln.2.1 hL) 0 ks _) fun x hx ks=>B9z L s h x hx hL ks
theorem Bh2(L:Nat)(s:Aa)(h:SG s)(hL:maxLen < L)(ks:List ByteArray):Out (Ac7 L s.Stores s ks (tr ks)) (La 32 (fun x:Ap=>x.Name) Aue ks s.Stores):=
 w5 (lq:=Pt L s.Stores s) (bd:=fun x ks vs=>Nw L x s ks vs x) (fun _ _ _ _=>rfl) (fun _ _ _ _ _ _=>rfl) 32 s.Stores 0 ks _
  (Axl L s.Stores s (L+24) h.ln.2.2.1 (Ats h.ln.2.2.1 hL) 0 ks _) fun x hx ks=>Bue L s x (h.stores x hx) hL ks
theorem Bna(L:Nat)(s:Aa)(h:SG s)(hL:maxLen < L)(ks:List ByteArray):Out (Ac9 L s.Belts s ks (tr ks)) (La 32 (fun x:Ar=>x.Name) A2t ks s.Belts):=
 w5 (lq:=Pu L s.Belts s) (bd:=fun x ks vs=>Nx L x s ks vs x) (fun _ _ _ _=>rfl) (fun _ _ _ _ _ _=>rfl) 32 s.Belts 0 ks _
  (Axm L s.Belts s (L+24) h.ln.2.2.2.1 (Ats h.ln.2.2.2.1 hL) 0 ks _) fun x hx ks=>Bv0 L s x (h.belts x hx) hL ks
theorem Amj(L:Nat)(s:Aa)(l:List ByteArray)(h1:l.length≤maxLen)(h2:∀x∈l,okS x)(hL:maxLen < L)(ks:List ByteArray):Out (J6 L l s ks (tr ks)) (txE ks l):=
 w5 (lq:=Pv L l s) (bd:=fun x ks vs=>Ny L x s ks vs) (fun _ _ _ _=>rfl) (fun _ _ _ _ _ _=>rfl) 32 l 0 ks _
  (Axn L l s (L+24) h1 (Ats h1 hL) 0 ks _) fun x hx ks=>B0t L s x (h2 x hx) hL ks
theorem Boa(L:Nat)(s:Aa)(h:SG s)(hL:m9≤L)(ks:List ByteArray):Out (Adb L s.Routines s ks (tr ks)) (La 16 (fun x:Ai=>x.Name) Awd ks s.Routines):=
 w5 (lq:=Pw L s.Routines s) (bd:=fun x ks vs=>Nz L x s ks vs x) (fun _ _ _ _=>rfl) (fun _ _ _ _ _ _=>rfl) 16 s.Routines 0 ks _
  (Axo L s.Routines s (L+24) h.ln.2.2.2.2.2.2.2.2.2 (Ats h.ln.2.2.2.2.2.2.2.2.2 (Ta hL)) 0 ks _) fun x hx ks=>B0a L s h x hx hL ks
theorem A0z(L:Nat)(s:Aa)(h:SG s)(hL:maxLen < L)(a:List ByteArray)(b:List Bool):Ade L s.Starts s a b=some (Awh s):=
 Bih (lq:=Px L s.Starts s a b) (bd:=Ud L s) (fun _ _=>rfl) (fun _ _ _ _=>rfl) 32 s.Starts 0 _ (Axp L s.Starts s a b (L+24) h.starts.1 (Ats h.starts.1 hL) 0) fun x hx=>
  A4b L s x h.ln.2.2.2.2.2.2.2.2.2 ((h.starts.2 x hx).2.1.1) hL
theorem Bff(tm:Aa→Au→Int)(s:Aa):Af0 tm s=fE (Anr s).1 (fE (Awh s) (La 32 (fun l:Ax=>l.Name) (A0c (tm s)) [] s.Laws).1):=rfl
theorem At5(L:Nat)(s:Aa)(h:SG s)(hL:m9≤L):Gl (Af0 S4 s) (Za L s):=by
 have hl:=Ta hL
 have g:∀a b:Int,a < b→((a < b)=True):=fun a b h=>eq_true h
 have e0:∀n:Int,0≤n→((0≤n)=True):=fun n h=>eq_true h
 simp only [Za,Aoq,Ad9,Ado,Aeb,Adq,Aed,Ads,Aef,Adu,Aeg,Adw,Aeh,Adx,Ab5,Aa6,Ab6,Aa7,Ab7,Aa8,Ab9,Aba,Aca,Ux,aN,aB]
 repeat rw [ifp (by decide)]
 rw [Bff,Anr]
 simp only [A5d]
 refine Awi (Bul L s h hl) (fun _ _ _ h=>nzE h _ _ _) fun ks=> ?_
 simp only [bne_self_eq_false,cond_false]
 repeat rw [ifp (by decide)]
 refine Awi (Bz9 L s h hl ks) (fun _ _ _ h=>nzE h _ _ _) fun ks=> ?_
 simp only [bne_self_eq_false,cond_false]
 repeat rw [ifp (by decide)]
 refine Awi (Bh2 L s h hl ks) (fun _ _ _ h=>nzE h _ _ _) fun ks=> ?_
 simp only [bne_self_eq_false,cond_false]
 repeat rw [ifp (by decide)]
 refine Awi (Bna L s h hl ks) (fun _ _ _ h=>nzE h _ _ _) fun ks=> ?_
 simp only [bne_self_eq_false,cond_false]
 repeat rw [ifp (by decide)]
 refine Awi (Amj L s s.Queues h.ln.2.2.2.2.1 h.queues hl ks) (fun _ _ _ h=>nzE h _ _ _) fun ks=> ?_
 simp only [bne_self_eq_false,cond_false]
 repeat rw [ifp (by decide)]
 refine Awi (Amj L s s.Streams h.ln.2.2.2.2.2.1 h.streams hl ks) (fun _ _ _ h=>nzE h _ _ _) fun ks=> ?_
 simp only [bne_self_eq_false,cond_false]
 repeat rw [ifp (by decide)]
 refine Awi (Amj L s s.Tallies h.ln.2.2.2.2.2.2.1 h.tallies hl ks) (fun _ _ _ h=>nzE h _ _ _) fun ks=> ?_
 simp only [bne_self_eq_false,cond_false]
 repeat rw [ifp (by decide)]
 refine Awi (Amj L s s.Levels h.ln.2.2.2.2.2.2.2.1 h.levels hl ks) (fun _ _ _ h=>nzE h _ _ _) fun ks=> ?_
 simp only [bne_self_eq_false,cond_false]
 repeat rw [ifp (by decide)]
 refine Awi (Amj L s s.Counts h.ln.2.2.2.2.2.2.2.2.1 h.counts hl ks) (fun _ _ _ h=>nzE h _ _ _) fun ks=> ?_
 simp only [bne_self_eq_false,cond_false]
 repeat rw [ifp (by decide)]
 refine Chx (Boa L s h hL ks) (fun _ _ _ h=>nzE h _ _ _) fun ks=> ?_
 simp only [bne_self_eq_false,cond_false]
 repeat rw [ifp (by decide)]
 rw [A0z L s h hl,Option.bind_some]
 by_cases h1:Awh s=0
 ·simp only [h1,bne_self_eq_false,cond_false,Td]
  repeat rw [ifp (by decide)]
  rw [A57 L s h hl,Option.bind_some]
  by_cases h2:(La 32 (fun l:Ax=>l.Name) (A0c (S4 s)) [] s.Laws).1=0
  ·simp only [h2,bne_self_eq_false,cond_false];exact ⟨_,_,rfl⟩
  ·simp only [Um h2,cond_true];exact ⟨_,_,rfl⟩
 ·simp only [Um h1,cond_true,O4 h1];exact ⟨_,_,rfl⟩
theorem A58(L:Nat)(s:Aa)(h:SG s)(hL:m9≤L):Aha L s=some (Af0 S4 s):=by
 obtain ⟨a,b,e⟩:=At5 L s h hL
 simp only [Auq,U4,Qn,Aha,U4,Qn,aN,aB,e,Option.bind_some]
end Go.Proofs.YtogleahbpobaiaaGreat.Ev
namespace Go.Proofs.YtogleahbpobaiaaGreat.Ev
open Go An
set_option maxRecDepth 100000
set_option linter.unusedVariables false
set_option linter.unusedSimpArgs false
set_option linter.unnecessarySimpa false
def A6z(l:List Bg):List Bq:=l.map fun x=>(⟨x.From,x.To⟩:Bq)
def Bof(seen:List Bg)(x:Bg):Bool:=seen.any fun y=>decide (y.From=x.From) && decide (y.To=x.To)
theorem Bea(m:Ad)(seen:List Bg)(l:Bg):Bd9 m seen l=if (m.Sites.any (fun d=>decide (d.Name=l.From)) && m.Sites.any (fun d=>decide (d.Name=l.To)))=false then 5
 else if l.From=l.To then 1 else if Bp 1 1000000000 l.Delay=false then 2 else n5 (!Bof seen l) 4:=rfl
theorem B0v(seen:List Bg)(x:Bg):((A6z seen).any fun b=>x.From == b.a0 && x.To == b.a1)=Bof seen x:=by
 unfold A6z Bof
 rw [List.any_map]
 congr 1
 funext y
 show (x.From == y.From && x.To == y.To)=_
 rw [A9g,A9g]
theorem Bfg(m:Ad)(n:ByteArray):decide (Azs m n < 0)= !m.Sites.any fun d=>decide (d.Name=n):=by
 unfold Azs
 rw [y5]
 cases h:m.Sites.findIdx? fun d=>decide (d.Name=n) with
 |none=>rw [Avb h];rfl
 |some i=>rw [Art h];rfl
theorem Bzh(L:Nat)(m:Ad)(x:Bg)(hm:m.Sites.length≤maxLen)(hL:maxLen < L)(seen:List Bg):
  ∃ks',R5 L x m (A6z seen) (tr (A6z seen)) x=some (Bd9 m seen x,ks',tr ks')∧(Bd9 m seen x=0→ks'=A6z (seen++ [x])):=by
 simp only [R5,Acv,aN,aB,Ast L m _ hm hL,H7,Option.bind_some,Bfg,Em,Du,Kq,Bea]
 rw [←B0v]
 cases m.Sites.any (fun d=>decide (d.Name=x.From)) with
 |false=>exact ⟨_,rfl,fun h=>absurd (show (5:Int)=0 from h) (by decide)⟩
 |true=>
  cases m.Sites.any (fun d=>decide (d.Name=x.To)) with
  |false=>exact ⟨_,rfl,fun h=>absurd (show (5:Int)=0 from h) (by decide)⟩
  |true=>
   simp only [Bool.not_true,Bool.or_self,cond_false,Bool.and_self,Bool.true_eq_false,if_false]
   by_cases h1:x.From=x.To
   ·rw [decide_eq_true h1,if_pos h1];exact ⟨_,rfl,fun h=>absurd (show (1:Int)=0 from h) (by decide)⟩
   ·rw [decide_eq_false h1,if_neg h1,cond_false]
    cases Bp 1 1000000000 x.Delay with
    |false=>exact ⟨_,rfl,fun h=>absurd (show (2:Int)=0 from h) (by decide)⟩
    |true=>
     simp only [Bool.not_true,cond_false,Bool.true_eq_false,if_false]
     cases hf:(A6z seen).findIdx? fun b=>x.From == b.a0 && x.To == b.a1 with
     |some i=>
      rw [Art hf]
      obtain ⟨h3,_⟩:=List.findIdx?_eq_some_iff_getElem.1 hf
      simp only [fko,Bui h3]
      exact ⟨_,rfl,fun h=>absurd (show (4:Int)=0 from h) (by decide)⟩
     |none=>
      rw [Avb hf]
      simp only [fko]
      rw [Bmy (A6z seen) (⟨x.From,x.To⟩:Bq)]
      exact ⟨_,rfl,fun _=>by unfold A6z;rw [List.map_append];rfl⟩
theorem A04(L:Nat)(l:List Bg)(m:Ad)(hm:m.Sites.length≤maxLen)(hL:maxLen < L):∀(k:List Bg) (i:Nat) (v:Int) (seen:List Bg),
  ∃j a b,Ir L l m k i v (A6z seen) (tr (A6z seen))=some (if Agl m seen k=0 then (1,(v,(j,a,b))) else (0,(Agl m seen k,(j,a,b)))):=by
 intro k
 induction k with
 |nil=>intro i v seen;exact ⟨i,_,_,rfl⟩
 |cons x k ih=>
  intro i v seen
  obtain ⟨ks',he,hk⟩:=Bzh L m x hm hL seen
  rw [Ir,he,Option.bind_some,Agl]
  by_cases h0:Bd9 m seen x=0
  ·have:=hk h0;subst this
   obtain ⟨j,a,b,hj⟩:=ih (i+1) v (seen++ [x])
   rw [h0,Td]
   exact ⟨j,a,b,hj⟩
  ·rw [O4 h0]
   exact ⟨i,ks',tr ks',by simp only [Um h0,cond_true,if_neg h0]⟩
theorem A39(L:Nat)(m:Ad)(hm:m.Sites.length≤maxLen)(hl:m.Links.length≤maxLen)(hL:maxLen < L):Aem L m=some (A3n m):=by
 have e32:decide ((m.Links.length:Int) > 32)=decide (32 < m.Links.length):=gtN _ 32
 obtain ⟨j,a,b,hj⟩:=A04 L m.Links m hm hL m.Links 0 0 []
 have hj':Ir L m.Links m m.Links 0 0 [] []=_:=hj
 simp only [Asf,Xv,Sk,Aem,Xv,Sk,Ac2,Alv,Ad4,Xc,aN,aB,e32,Avo L m.Links m L hl (Nat.lt_of_le_of_lt hl hL),hj',Option.bind_some,A3n]
 by_cases h:32 < m.Links.length
 ·rw [decide_eq_true h,if_pos h];rfl
 ·rw [decide_eq_false h,if_neg h,cond_false]
  by_cases h0:Agl m [] m.Links=0
  ·rw [if_pos h0,S0,h0];rfl
  ·rw [if_neg h0,H2];rfl
structure MG (m:Ad):Prop where
 ok:S9 m
 bk:Gb m≤1048576
theorem MG.sites{m:Ad}(h:MG m):m.Sites.length≤maxLen:=h.ok.2.2.1.1
theorem MG.site{m:Ad}(h:MG m):∀d∈m.Sites,SG d:=fun d hd=>⟨h.ok.2.2.1.2 d hd,by have h1:=Ai3 (g:=Cj) hd;have h2:=h.bk;unfold Gb at h2;omega⟩
theorem MG.links{m:Ad}(h:MG m):m.Links.length≤maxLen:=h.ok.2.2.2.1
theorem B7p(L:Nat)(m:Ad)(x:Al)(hx:Ng x)(hL:maxLen < L)(ks:List ByteArray):
  ∃ks',Nt L x m ks (tr ks) x=some (fE (Vb ks x.Name) (Yp x),ks',tr ks')∧(fE (Vb ks x.Name) (Yp x)=0→ks'=ks++ [x.Name]):=by
 refine ⟨nx ks x.Name,?_,A5z⟩
 have e:Acy L x.Name m ks (tr ks) x x=some (Vb ks x.Name,nx ks x.Name,tr (nx ks x.Name)):=Ako L x.Name hx.1 hL ks
 simp only [Nt,Als,Ad1,W9,aN,aB,e,Option.bind_some,Aiy,Akw,Ary]
 by_cases h0:Vb ks x.Name=0
 ·simp only [h0,bne_self_eq_false,cond_false,Td]
  cases Wg x.Type_<;>cases Ajv x.Type_ x.N<;>rfl
 ·simp only [Um h0,cond_true,O4 h0]
theorem B0m(L:Nat)(m:Ad)(a:List ByteArray)(b:List Bool)(x:Aa)(hx:SG x)(hL:m9≤L)(ks:List ByteArray):
  ∃ks',Lv L x m a b ks (tr ks) x=some (fE (Vb ks x.Name) (Af0 S4 x),ks',tr ks')∧(fE (Vb ks x.Name) (Af0 S4 x)=0→ks'=ks++ [x.Name]):=by
 have hn:okS x.Name:=by have:=hx.ok;unfold B7 at this;exact this.1
 refine ⟨nx ks x.Name,?_,A5z⟩
 have e:x0 L x.Name m a b ks (tr ks) x x=some (Vb ks x.Name,nx ks x.Name,tr (nx ks x.Name)):=Ako L x.Name hn (Ta hL) ks
 simp only [Lv,Ajw,Ab3,Uu,aN,aB,e,Option.bind_some,A58 L x hx hL]
 by_cases h0:Vb ks x.Name=0
 ·simp only [h0,bne_self_eq_false,cond_false,Td]
 ·simp only [Um h0,cond_true,O4 h0]
theorem A38(L:Nat)(m:Ad)(h:MG m)(hL:m9≤L):Ael L m=some (Aiu S4 m):=by
 have hl:=Ta hL
 have hp:=h.ok.2.1
 obtain ⟨a,b,e1⟩:=Out.e (w5 (nm:=fun x:Al=>x.Name) (f:=Yp) (lq:=N0 L m.Params m) (bd:=fun x ks vs=>Nt L x m ks vs x) (fun _ _ _ _=>rfl) (fun _ _ _ _ _ _=>rfl) 32 m.Params 0 [] _
  (Avm L m.Params m L hp.1 (Nat.lt_of_le_of_lt hp.1 hl) 0 [] []) fun x hx ks=>B7p L m x (hp.2 x hx) hl ks)
 have e1':Acx L m.Params m=some ((La 32 (fun x:Al=>x.Name) Yp [] m.Params).1,a,b):=e1
 obtain ⟨c,d,e2⟩:=Out.e (w5 (nm:=fun x:Aa=>x.Name) (f:=Af0 S4) (lq:=N1 L m.Sites m a b) (bd:=fun x ks vs=>Lv L x m a b ks vs x) (fun _ _ _ _=>rfl) (fun _ _ _ _ _ _=>rfl) 16 m.Sites 0 [] _
  (Avn L m.Sites m a b L h.sites (Nat.lt_of_le_of_lt h.sites hl) 0 [] []) fun x hx ks=>B0m L m a b x (h.site x hx) hL ks)
 have e2':Acz L m.Sites m a b=some ((La 16 (fun x:Aa=>x.Name) (Af0 S4) [] m.Sites).1,c,d):=e2
 simp only [Ase,Xr,Xa,U1,Qk,Ael,Xr,Xa,U1,Qk,aN,aB,Vq L m.Name h.ok.1 (Nat.lt_of_le_of_lt h.ok.1 hl),e1',e2',A39 L m h.sites h.links hl,Bzg,Option.bind_some]
 unfold Aiu
 by_cases h0:Qg m.Name=0
 ·simp only [h0,bne_self_eq_false,cond_false,Td]
  by_cases h1:(La 32 (fun x:Al=>x.Name) Yp [] m.Params).1=0
  ·simp only [h1,bne_self_eq_false,cond_false,Td]
   by_cases h2:m.Sites.length=0
   ·rw [decide_eq_true h2,decide_eq_false (show¬0 < m.Sites.length by omega)];rfl
   ·rw [decide_eq_false h2,decide_eq_true (show 0 < m.Sites.length by omega)]
    simp only [n5,cond_true,cond_false,Td]
    by_cases h3:(La 16 (fun d:Aa=>d.Name) (Af0 S4) [] m.Sites).1=0
    ·simp only [h3,bne_self_eq_false,cond_false,Td]
    ·simp only [Um h3,cond_true,O4 h3]
  ·simp only [Um h1,cond_true,O4 h1]
 ·simp only [Um h0,cond_true,O4 h0]
end Go.Proofs.YtogleahbpobaiaaGreat.Ev
