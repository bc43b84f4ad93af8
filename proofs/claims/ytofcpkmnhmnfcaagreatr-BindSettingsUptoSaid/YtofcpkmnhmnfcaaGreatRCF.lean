/-  Chapter 11, plainly: Check of the program: laws, sites, models. -/
import Derived.Test.YtofcpkmnhmnfcaaGreatRQA
import Derived.Test.YtofcpkmnhmnfcaaGreatRCD
namespace Go.Proofs.YtofcpkmnhmnfcaaGreatR.Ev
open Go An
set_option maxRecDepth 100000
set_option linter.unusedVariables false
set_option linter.unusedSimpArgs false
set_option linter.unnecessarySimpa false
structure SG (s:Aa):Prop where
 ok:B4 s
 bk:D0 s≤1048576
theorem SG.len{s:Aa}(h:SG s):Ajp s 1099511627776:=(Ba5 s).mono (Nat.le_trans h.bk (by decide))
theorem SG.ln{s:Aa}(h:SG s):Ajp s maxLen:=h.len.max
theorem SG.vars{s:Aa}(h:SG s):∀x∈s.Vars,I0 x:=by have:=h.ok;unfold B4 at this;exact this.2.1.2
theorem SG.res{s:Aa}(h:SG s):∀x∈s.Resources,Qv x:=by have:=h.ok;unfold B4 at this;exact this.2.2.1.2
theorem SG.stores{s:Aa}(h:SG s):∀x∈s.Stores,Rh x:=by have:=h.ok;unfold B4 at this;exact this.2.2.2.1.2
theorem SG.belts{s:Aa}(h:SG s):∀x∈s.Belts,S3 x:=by have:=h.ok;unfold B4 at this;exact this.2.2.2.2.1.2
theorem SG.queues{s:Aa}(h:SG s):∀x∈s.Queues,okS x:=by have:=h.ok;unfold B4 at this;exact this.2.2.2.2.2.1.2
theorem SG.streams{s:Aa}(h:SG s):∀x∈s.Streams,okS x:=by have:=h.ok;unfold B4 at this;exact this.2.2.2.2.2.2.1.2
theorem SG.tallies{s:Aa}(h:SG s):∀x∈s.Tallies,okS x:=by have:=h.ok;unfold B4 at this;exact this.2.2.2.2.2.2.2.1.2
theorem SG.levels{s:Aa}(h:SG s):∀x∈s.Levels,okS x:=by have:=h.ok;unfold B4 at this;exact this.2.2.2.2.2.2.2.2.1.2
theorem SG.counts{s:Aa}(h:SG s):∀x∈s.Counts,okS x:=by have:=h.ok;unfold B4 at this;exact this.2.2.2.2.2.2.2.2.2.1.2
theorem SG.routs{s:Aa}(h:SG s):∀x∈s.Routines,Lj x:=by have:=h.ok;unfold B4 at this;exact this.2.2.2.2.2.2.2.2.2.2.1.2
theorem SG.starts{s:Aa}(h:SG s):s.Starts.length≤maxLen∧∀x∈s.Starts,Adv x:=by have:=h.ok;unfold B4 at this;exact this.2.2.2.2.2.2.2.2.2.2.2.1
theorem SG.laws{s:Aa}(h:SG s):s.Laws.length≤maxLen∧∀x∈s.Laws,Aei x:=by have:=h.ok;unfold B4 at this;exact this.2.2.2.2.2.2.2.2.2.2.2.2
theorem SG.bkR{s:Aa}(h:SG s):∀x∈s.Routines,Ep x≤1048576:=by
 intro x hx
 have h1:=Agi (g:=Ep) hx
 have h2:=h.bk
 unfold D0 at h2
 omega
theorem SG.bkD{s:Aa}(h:SG s):∀x∈s.Resources,Px x.Fault≤1048576:=by
 intro x hx
 have h1:=Agi (g:=F6) hx
 have h2:=h.bk
 have h3:Px x.Fault≤F6 x:=by unfold F6;omega
 unfold D0 at h2
 omega
theorem Bx0(tm:Ay→Int)(l:Az):A73 tm l=fE (unl (decide (0 < l.Terms.length)) 7) (fE (unl (decide (l.Terms.length≤8)) 6) (fE (Aph tm l.Terms) (unl (inZ l.Total) 2))):=rfl
theorem B52(L:Nat)(s:Aa)(l:Az)(hl:Aei l)(hs:Ajp s maxLen)(hL:maxLen < L)(ks:List ByteArray):
  ∃ks',Ox L l s ks (tr ks) l=some (fE (k4 ks l.Name) (A73 (X2 s) l),ks',tr ks')∧(fE (k4 ks l.Name) (A73 (X2 s) l)=0→ks'=ks++ [l.Name]):=by
 have hM:=Bx
 refine ⟨nx ks l.Name,?_,A4y⟩
 have e:w8 L l.Name s ks (tr ks) l l=some (k4 ks l.Name,nx ks l.Name,tr (nx ks l.Name)):=Aht L l.Name hl.1 hL ks
 have e2:∀a b c d,w9 L l.Terms s a b c d=some (if 8 < l.Terms.length then 6 else Aph (X2 s) l.Terms):=fun a b c d=>
  Bfp (lq:=Oz L l.Terms s a b c d) (bd:=Vt L s) (fun _ _=>rfl) (fun _ _ _ _=>rfl) 8 l.Terms 0 _ (Awb L l.Terms s a b c d L hl.2.1.1 (Nat.lt_of_le_of_lt hl.2.1.1 hL) 0) fun x _=>A45 L s x hs hL
 simp only [Ox,Alr,Aal,Aa2,Wl,aN,aB,e,e2,Option.bind_some,B7o,Apc,Bx0]
 by_cases h0:k4 ks l.Name=0
 ·simp only [h0,bne_self_eq_false,cond_false,v8]
  by_cases h1:l.Terms.length=0
  ·rw [decide_eq_true h1,decide_eq_false (show¬0 < l.Terms.length by omega)];rfl
  ·rw [decide_eq_false h1,decide_eq_true (show 0 < l.Terms.length by omega),cond_false]
   by_cases h2:8 < l.Terms.length
   ·rw [if_pos h2,decide_eq_false (show¬l.Terms.length≤8 by omega)];rfl
   ·rw [if_neg h2,decide_eq_true (show l.Terms.length≤8 by omega)]
    simp only [unl,cond_true,v8]
    by_cases h3:Aph (X2 s) l.Terms=0
    ·simp only [h3,bne_self_eq_false,cond_false,v8]
     cases inZ l.Total<;>rfl
    ·simp only [ne0 h3,cond_true,Ace h3]
 ·simp only [ne0 h0,cond_true,Ace h0]
theorem Out.e{X:Option (Int×List ByteArray×List Bool)}{p:Int×List ByteArray}(h:Out X p):∃a b,X=some (p.1,a,b):=by
 obtain ⟨ks,h,_⟩:=h;exact ⟨_,_,h⟩
theorem A43(L:Nat)(s:Aa)(h:SG s)(hL:maxLen < L):Ads L s=some (N0 32 (fun l:Az=>l.Name) (A73 (X2 s)) [] s.Laws).1:=by
 obtain ⟨a,b,e⟩:=Out.e (d7 (nm:=fun l:Az=>l.Name) (f:=A73 (X2 s)) (lq:=Oy L s.Laws s) (bd:=fun x ks vs=>Ox L x s ks vs x) (fun _ _ _ _=>rfl) (fun _ _ _ _ _ _=>rfl) 32 s.Laws 0 [] _
  (Awa L s.Laws s L h.laws.1 (Nat.lt_of_le_of_lt h.laws.1 hL) 0 [] []) fun x hx ks=>B52 L s x (h.laws.2 x hx) h.ln hL ks)
 have e1:Acz L s.Laws s=some ((N0 32 (fun l:Az=>l.Name) (A73 (X2 s)) [] s.Laws).1,a,b):=e
 simp only [Atk,Rw,Ads,Rw,aN,aB,e1,Option.bind_some]
theorem A6p(v:Ag):Vo v=fE (unl (T1 v.Type_) 1) (unl (Aeu v.Type_ v.N) 2):=rfl
theorem Bm4(x:Ar):A4i x=fE (unl (B1 1 1000 x.Room) 2) (unl (B1 1 3 x.Policy) 1):=rfl
theorem Boa(x:Aw):A9r x=unl (B1 1 1000 x.Length && B1 1 1000 x.Step) 2:=rfl
theorem B0j(s:Aa)(r:Ah):Br1 s r=fE (unl (B1 0 1000 r.Units) 2) (fE (A39 r) (Bfz s r.Fault)):=rfl
theorem Cax(L:Nat)(s:Aa)(x:Ag)(hx:I0 x)(hL:maxLen < L)(ks:List ByteArray):
  ∃ks',Nl L x s ks (tr ks) x=some (fE (k4 ks x.Name) (Vo x),ks',tr ks')∧(fE (k4 ks x.Name) (Vo x)=0→ks'=ks++ [x.Name]):=by
 refine ⟨nx ks x.Name,?_,A4y⟩
 have e:y5 L x.Name s ks (tr ks) x x=some (k4 ks x.Name,nx ks x.Name,tr (nx ks x.Name)):=Aht L x.Name hx.1 hL ks
 simp only [Nl,Aja,Wt,aN,aB,e,Option.bind_some,Afm,Aib,A6p]
 by_cases h0:k4 ks x.Name=0
 ·simp only [h0,bne_self_eq_false,cond_false,v8]
  cases T1 x.Type_<;>cases Aeu x.Type_ x.N<;>rfl
 ·simp only [ne0 h0,cond_true,Ace h0]
theorem Cam(L:Nat)(s:Aa)(hs:SG s)(x:Ah)(hm:x∈s.Resources)(hL:maxLen < L)(ks:List ByteArray):
  ∃ks',Nm L x s ks (tr ks) x=some (fE (k4 ks x.Name) (Br1 s x),ks',tr ks')∧(fE (k4 ks x.Name) (Br1 s x)=0→ks'=ks++ [x.Name]):=by
 have hx:=hs.res x hm
 refine ⟨nx ks x.Name,?_,A4y⟩
 have e:y7 L x.Name s ks (tr ks) x x=some (k4 ks x.Name,nx ks x.Name,tr (nx ks x.Name)):=Aht L x.Name hx.1 hL ks
 simp only [Nm,Ajc,Wu,aN,aB,e,Option.bind_some,H1,Auv L x hx.2.2.1.1 hL,Auu L s x.Fault hs.ln.2.2.2.2.2.1 (hs.bkD x hm) hL,B0j]
 by_cases h0:k4 ks x.Name=0
 ·simp only [h0,bne_self_eq_false,cond_false,v8]
  cases B1 0 1000 x.Units with
  |false=>rfl
  |true=>
   simp only [Bool.not_true,cond_false,unl,cond_true,v8]
   by_cases h1:A39 x=0
   ·simp only [h1,bne_self_eq_false,cond_false,v8]
   ·simp only [ne0 h1,cond_true,Ace h1]
 ·simp only [ne0 h0,cond_true,Ace h0]
theorem Btr(L:Nat)(s:Aa)(x:Ar)(hx:Rh x)(hL:maxLen < L)(ks:List ByteArray):
  ∃ks',Nn L x s ks (tr ks) x=some (fE (k4 ks x.Name) (A4i x),ks',tr ks')∧(fE (k4 ks x.Name) (A4i x)=0→ks'=ks++ [x.Name]):=by
 refine ⟨nx ks x.Name,?_,A4y⟩
 have e:y9 L x.Name s ks (tr ks) x x=some (k4 ks x.Name,nx ks x.Name,tr (nx ks x.Name)):=Aht L x.Name hx.1 hL ks
 have e2:(decide (x.Policy < 1) || decide (x.Policy > 3))= !B1 1 3 x.Policy:=by
  unfold B1
  by_cases h1:x.Policy < 1
  ·rw [decide_eq_true h1,decide_eq_false (show¬1≤x.Policy by omega)];rfl
  ·rw [decide_eq_false h1,decide_eq_true (show 1≤x.Policy by omega)]
   by_cases h2:x.Policy > 3
   ·rw [decide_eq_true h2,decide_eq_false (show¬x.Policy≤3 by omega)];rfl
   ·rw [decide_eq_false h2,decide_eq_true (show x.Policy≤3 by omega)];rfl
 simp only [Nn,Aje,Wv,aN,aB,e,Option.bind_some,H1,Zl,e2,Bm4]
 by_cases h0:k4 ks x.Name=0
 ·simp only [h0,bne_self_eq_false,cond_false,v8]
  cases B1 1 1000 x.Room<;>cases B1 1 3 x.Policy<;>rfl
 ·simp only [ne0 h0,cond_true,Ace h0]
theorem Bur(L:Nat)(s:Aa)(x:Aw)(hx:S3 x)(hL:maxLen < L)(ks:List ByteArray):
  ∃ks',No L x s ks (tr ks) x=some (fE (k4 ks x.Name) (A9r x),ks',tr ks')∧(fE (k4 ks x.Name) (A9r x)=0→ks'=ks++ [x.Name]):=by
 refine ⟨nx ks x.Name,?_,A4y⟩
 have e:z7 L x.Name s ks (tr ks) x x=some (k4 ks x.Name,nx ks x.Name,tr (nx ks x.Name)):=Aht L x.Name hx.1 hL ks
 simp only [No,Ajg,Ww,aN,aB,e,Option.bind_some,H1,Boa]
 by_cases h0:k4 ks x.Name=0
 ·simp only [h0,bne_self_eq_false,cond_false,v8]
  cases B1 1 1000 x.Length<;>cases B1 1 1000 x.Step<;>rfl
 ·simp only [ne0 h0,cond_true,Ace h0]
theorem B0l(L:Nat)(s:Aa)(hs:SG s)(x:Ap)(hm:x∈s.Routines)(hL:U5≤L)(ks:List ByteArray):
  ∃ks',Nq L x s ks (tr ks) x=some (fE (k4 ks x.Name) (A6c x),ks',tr ks')∧(fE (k4 ks x.Name) (A6c x)=0→ks'=ks++ [x.Name]):=by
 have hx:=hs.routs x hm
 refine ⟨nx ks x.Name,?_,A4y⟩
 have e:Aaa L x.Name s ks (tr ks) x x=some (k4 ks x.Name,nx ks x.Name,tr (nx ks x.Name)):=Aht L x.Name hx.1 (Vu hL) ks
 simp only [Nq,Ajj,Un,aN,aB,e,Option.bind_some,Awt L x hx (hs.bkR x hm) hL]
 by_cases h0:k4 ks x.Name=0
 ·simp only [h0,bne_self_eq_false,cond_false,v8]
 ·simp only [ne0 h0,cond_true,Ace h0]
theorem B0x(L:Nat)(s:Aa)(x:ByteArray)(hx:okS x)(hL:maxLen < L)(ks:List ByteArray):
  ∃ks',Np L x s ks (tr ks)=some (fE (k4 ks x) 0,ks',tr ks')∧(fE (k4 ks x) 0=0→ks'=ks++ [x]):=by
 refine ⟨nx ks x,?_,A4y⟩
 have e:Np L x s ks (tr ks)=some (k4 ks x,nx ks x,tr (nx ks x)):=Aht L x hx hL ks
 rw [e]
 by_cases h0:k4 ks x=0
 ·rw [h0,v8]
 ·rw [Ace h0]
theorem Ar4{α :Type}{l:List α}{L:Nat}(h:l.length≤maxLen)(hL:maxLen < L):l.length < L+24:=Nat.lt_of_lt_of_le (Nat.lt_of_le_of_lt h hL) (Nat.le_add_right L 24)
theorem Btw(L:Nat)(s:Aa)(h:SG s)(hL:maxLen < L):Out (x9 L s.Vars s) (N0 32 (fun x:Ag=>x.Name) Vo [] s.Vars):=
 d7 (lq:=O0 L s.Vars s) (bd:=fun x ks vs=>Nl L x s ks vs x) (fun _ _ _ _=>rfl) (fun _ _ _ _ _ _=>rfl) 32 s.Vars 0 [] _
  (Awc L s.Vars s (L+24) h.ln.1 (Ar4 h.ln.1 hL) 0 [] []) fun x hx ks=>Cax L s x (h.vars x hx) hL ks
theorem B0k(L:Nat)(s:Aa)(h:SG s)(hL:maxLen < L)(ks:List ByteArray):Out (y6 L s.Resources s ks (tr ks)) (N0 32 (fun x:Ah=>x.Name) (Br1 s) ks s.Resources):=
 d7 (lq:=O1 L s.Resources s) (bd:=fun x ks vs=>Nm L x s ks vs x) (fun _ _ _ _=>rfl) (fun _ _ _ _ _ _=>rfl) 32 s.Resources 0 ks _
  (Awd L s.Resources s (L+24) h.ln.2.1 (Ar4 h.ln.2.1 hL) 0 ks _) fun x hx ks=>Cam L s h x hx hL ks
theorem Bew(L:Nat)(s:Aa)(h:SG s)(hL:maxLen < L)(ks:List ByteArray):Out (y8 L s.Stores s ks (tr ks)) (N0 32 (fun x:Ar=>x.Name) A4i ks s.Stores):=
 d7 (lq:=O2 L s.Stores s) (bd:=fun x ks vs=>Nn L x s ks vs x) (fun _ _ _ _=>rfl) (fun _ _ _ _ _ _=>rfl) 32 s.Stores 0 ks _
  (Awe L s.Stores s (L+24) h.ln.2.2.1 (Ar4 h.ln.2.2.1 hL) 0 ks _) fun x hx ks=>Btr L s x (h.stores x hx) hL ks
theorem Blo(L:Nat)(s:Aa)(h:SG s)(hL:maxLen < L)(ks:List ByteArray):Out (z6 L s.Belts s ks (tr ks)) (N0 32 (fun x:Aw=>x.Name) A9r ks s.Belts):=
 d7 (lq:=O3 L s.Belts s) (bd:=fun x ks vs=>No L x s ks vs x) (fun _ _ _ _=>rfl) (fun _ _ _ _ _ _=>rfl) 32 s.Belts 0 ks _
  (Awf L s.Belts s (L+24) h.ln.2.2.2.1 (Ar4 h.ln.2.2.2.1 hL) 0 ks _) fun x hx ks=>Bur L s x (h.belts x hx) hL ks
theorem Ajv(L:Nat)(s:Aa)(l:List ByteArray)(h1:l.length≤maxLen)(h2:∀x∈l,okS x)(hL:maxLen < L)(ks:List ByteArray):Out (Kj L l s ks (tr ks)) (txE ks l):=
 d7 (lq:=O5 L l s) (bd:=fun x ks vs=>Np L x s ks vs) (fun _ _ _ _=>rfl) (fun _ _ _ _ _ _=>rfl) 32 l 0 ks _
  (Awg L l s (L+24) h1 (Ar4 h1 hL) 0 ks _) fun x hx ks=>B0x L s x (h2 x hx) hL ks
theorem Bmo(L:Nat)(s:Aa)(h:SG s)(hL:U5≤L)(ks:List ByteArray):Out (z8 L s.Routines s ks (tr ks)) (N0 16 (fun x:Ap=>x.Name) A6c ks s.Routines):=
 d7 (lq:=O7 L s.Routines s) (bd:=fun x ks vs=>Nq L x s ks vs x) (fun _ _ _ _=>rfl) (fun _ _ _ _ _ _=>rfl) 16 s.Routines 0 ks _
  (Awh L s.Routines s (L+24) h.ln.2.2.2.2.2.2.2.2.2 (Ar4 h.ln.2.2.2.2.2.2.2.2.2 (Vu hL)) 0 ks _) fun x hx ks=>B0l L s h x hx hL ks
theorem Azk(L:Nat)(s:Aa)(h:SG s)(hL:maxLen < L)(a:List ByteArray)(b:List Bool):Aab L s.Starts s a b=some (A1c s):=
 Bfp (lq:=Ph L s.Starts s a b) (bd:=Tr L s) (fun _ _=>rfl) (fun _ _ _ _=>rfl) 32 s.Starts 0 _ (Awi L s.Starts s a b (L+24) h.starts.1 (Ar4 h.starts.1 hL) 0) fun x hx=>
  A3k L s x h.ln.2.2.2.2.2.2.2.2.2 ((h.starts.2 x hx).2.1.1) hL
theorem Btj(tm:Aa→Ay→Int)(s:Aa):Au4 tm s=fE (Bc9 s).1 (fE (A1c s) (N0 32 (fun l:Az=>l.Name) (A73 (tm s)) [] s.Laws).1):=rfl
theorem Asq(L:Nat)(s:Aa)(h:SG s)(hL:U5≤L):Gl (Au4 X2 s) (Yd L s):=by
 have hl:=Vu hL
 have g:∀a b:Int,a < b→((a < b)=True):=fun a b h=>eq_true h
 have e0:∀n:Int,0≤n→((0≤n)=True):=fun n h=>eq_true h
 simp only [Yd,Als,Aa4,Aap,Aa5,Aar,Aa6,Aat,Aa7,Aav,Aa8,Aax,Aa9,Aay,q8,m4,q9,m5,r0,m6,s7,m8,s8,Uo,aN,aB]
 repeat rw [ifp (by decide)]
 rw [Btj,Bc9]
 simp only [Bey]
 refine Au8 (Btw L s h hl) (fun _ _ _ h=>nzE h _ _ _) fun ks=> ?_
 simp only [bne_self_eq_false,cond_false]
 repeat rw [ifp (by decide)]
 refine Au8 (B0k L s h hl ks) (fun _ _ _ h=>nzE h _ _ _) fun ks=> ?_
 simp only [bne_self_eq_false,cond_false]
 repeat rw [ifp (by decide)]
 refine Au8 (Bew L s h hl ks) (fun _ _ _ h=>nzE h _ _ _) fun ks=> ?_
 simp only [bne_self_eq_false,cond_false]
 repeat rw [ifp (by decide)]
 refine Au8 (Blo L s h hl ks) (fun _ _ _ h=>nzE h _ _ _) fun ks=> ?_
 simp only [bne_self_eq_false,cond_false]
 repeat rw [ifp (by decide)]
 refine Au8 (Ajv L s s.Queues h.ln.2.2.2.2.1 h.queues hl ks) (fun _ _ _ h=>nzE h _ _ _) fun ks=> ?_
 simp only [bne_self_eq_false,cond_false]
 repeat rw [ifp (by decide)]
 refine Au8 (Ajv L s s.Streams h.ln.2.2.2.2.2.1 h.streams hl ks) (fun _ _ _ h=>nzE h _ _ _) fun ks=> ?_
 simp only [bne_self_eq_false,cond_false]
 repeat rw [ifp (by decide)]
 refine Au8 (Ajv L s s.Tallies h.ln.2.2.2.2.2.2.1 h.tallies hl ks) (fun _ _ _ h=>nzE h _ _ _) fun ks=> ?_
 simp only [bne_self_eq_false,cond_false]
 repeat rw [ifp (by decide)]
 refine Au8 (Ajv L s s.Levels h.ln.2.2.2.2.2.2.2.1 h.levels hl ks) (fun _ _ _ h=>nzE h _ _ _) fun ks=> ?_
 simp only [bne_self_eq_false,cond_false]
 repeat rw [ifp (by decide)]
 refine Au8 (Ajv L s s.Counts h.ln.2.2.2.2.2.2.2.2.1 h.counts hl ks) (fun _ _ _ h=>nzE h _ _ _) fun ks=> ?_
 simp only [bne_self_eq_false,cond_false]
 repeat rw [ifp (by decide)]
 refine Cic (Bmo L s h hL ks) (fun _ _ _ h=>nzE h _ _ _) fun ks=> ?_
 simp only [bne_self_eq_false,cond_false]
 repeat rw [ifp (by decide)]
 rw [Azk L s h hl,Option.bind_some]
 by_cases h1:A1c s=0
 ·simp only [h1,bne_self_eq_false,cond_false,v8]
  repeat rw [ifp (by decide)]
  rw [A43 L s h hl,Option.bind_some]
  by_cases h2:(N0 32 (fun l:Az=>l.Name) (A73 (X2 s)) [] s.Laws).1=0
  ·simp only [h2,bne_self_eq_false,cond_false];exact ⟨_,_,rfl⟩
  ·simp only [ne0 h2,cond_true];exact ⟨_,_,rfl⟩
 ·simp only [ne0 h1,cond_true,Ace h1];exact ⟨_,_,rfl⟩
theorem A44(L:Nat)(s:Aa)(h:SG s)(hL:U5≤L):Adt L s=some (Au4 X2 s):=by
 obtain ⟨a,b,e⟩:=Asq L s h hL
 simp only [Atl,Qb,Adt,Qb,aN,aB,e,Option.bind_some]
def A5f(l:List Bj):List Bo:=l.map fun x=>(⟨x.From,x.To⟩:Bo)
def Cas(seen:List Bj)(x:Bj):Bool:=seen.any fun y=>decide (y.From=x.From) && decide (y.To=x.To)
theorem Brf(m:Ac)(seen:List Bj)(l:Bj):Ba8 m seen l=if (m.Sites.any (fun d=>decide (d.Name=l.From)) && m.Sites.any (fun d=>decide (d.Name=l.To)))=false then 5
 else if l.From=l.To then 1 else if B1 1 1000000000 l.Delay=false then 2 else unl (!Cas seen l) 4:=rfl
theorem B01(seen:List Bj)(x:Bj):((A5f seen).any fun b=>x.From == b.a0 && x.To == b.a1)=Cas seen x:=by
 unfold A5f Cas
 rw [List.any_map]
 congr 1
 funext y
 show (x.From == y.From && x.To == y.To)=_
 rw [A7k,A7k]
theorem Btk(m:Ac)(n:ByteArray):decide (Bbx m n < 0)= !m.Sites.any fun d=>decide (d.Name=n):=by
 unfold Bbx
 rw [Ana]
 cases h:m.Sites.findIdx? fun d=>decide (d.Name=n) with
 |none=>rw [A2q h];rfl
 |some i=>rw [Avp h];rfl
theorem Bzl(L:Nat)(m:Ac)(x:Bj)(hm:m.Sites.length≤maxLen)(hL:maxLen < L)(seen:List Bj):
  ∃ks',Rm L x m (A5f seen) (tr (A5f seen)) x=some (Ba8 m seen x,ks',tr ks')∧(Ba8 m seen x=0→ks'=A5f (seen++ [x])):=by
 simp only [Rm,w3,aN,aB,Aqv L m _ hm hL,H1,Option.bind_some,Btk,Jo,Oe,Zl,Brf]
 rw [←B01]
 cases m.Sites.any (fun d=>decide (d.Name=x.From)) with
 |false=>exact ⟨_,rfl,fun h=>absurd (show (5:Int)=0 from h) (by decide)⟩
 |true=>
  cases m.Sites.any (fun d=>decide (d.Name=x.To)) with
  |false=>exact ⟨_,rfl,fun h=>absurd (show (5:Int)=0 from h) (by decide)⟩
  |true=>
   simp only [Bool.not_true,Bool.or_self,cond_false,Bool.and_self,Bool.true_eq_false,if_false]
   by_cases h1:x.From=x.To
   ·rw [decide_eq_true h1,if_pos h1];exact ⟨_,rfl,fun h=>absurd (show (1:Int)=0 from h) (by decide)⟩
   ·rw [decide_eq_false h1,if_neg h1,cond_false]
    cases B1 1 1000000000 x.Delay with
    |false=>exact ⟨_,rfl,fun h=>absurd (show (2:Int)=0 from h) (by decide)⟩
    |true=>
     simp only [Bool.not_true,cond_false,Bool.true_eq_false,if_false]
     cases hf:(A5f seen).findIdx? fun b=>x.From == b.a0 && x.To == b.a1 with
     |some i=>
      rw [Avp hf]
      obtain ⟨h3,_⟩:=List.findIdx?_eq_some_iff_getElem.1 hf
      simp only [fko,Btu h3]
      exact ⟨_,rfl,fun h=>absurd (show (4:Int)=0 from h) (by decide)⟩
     |none=>
      rw [A2q hf]
      simp only [fko]
      rw [Bk8 (A5f seen) (⟨x.From,x.To⟩:Bo)]
      exact ⟨_,rfl,fun _=>by unfold A5f;rw [List.map_append];rfl⟩
theorem Azq(L:Nat)(l:List Bj)(m:Ac)(hm:m.Sites.length≤maxLen)(hL:maxLen < L):∀(k:List Bj) (i:Nat) (v:Int) (seen:List Bj),
  ∃j a b,Io L l m k i v (A5f seen) (tr (A5f seen))=some (if Ahx m seen k=0 then (1,(v,(j,a,b))) else (0,(Ahx m seen k,(j,a,b)))):=by
 intro k
 induction k with
 |nil=>intro i v seen;exact ⟨i,_,_,rfl⟩
 |cons x k ih=>
  intro i v seen
  obtain ⟨ks',he,hk⟩:=Bzl L m x hm hL seen
  rw [Io,he,Option.bind_some,Ahx]
  by_cases h0:Ba8 m seen x=0
  ·have:=hk h0;subst this
   obtain ⟨j,a,b,hj⟩:=ih (i+1) v (seen++ [x])
   rw [h0,v8]
   exact ⟨j,a,b,hj⟩
  ·rw [Ace h0]
   exact ⟨i,ks',tr ks',by simp only [ne0 h0,cond_true,if_neg h0]⟩
theorem A3i(L:Nat)(m:Ac)(hm:m.Sites.length≤maxLen)(hl:m.Links.length≤maxLen)(hL:maxLen < L):Abd L m=some (Av3 m):=by
 have e32:decide ((m.Links.length:Int) > 32)=decide (32 < m.Links.length):=gtN _ 32
 obtain ⟨j,a,b,hj⟩:=Azq L m.Links m hm hL m.Links 0 0 []
 have hj':Io L m.Links m m.Links 0 0 [] []=_:=hj
 simp only [Ap7,Ry,Abd,Ry,x0,Ai5,Aa3,Wm,aN,aB,e32,Aug L m.Links m L hl (Nat.lt_of_le_of_lt hl hL),hj',Option.bind_some,Av3]
 by_cases h:32 < m.Links.length
 ·rw [decide_eq_true h,if_pos h];rfl
 ·rw [decide_eq_false h,if_neg h,cond_false]
  by_cases h0:Ahx m [] m.Links=0
  ·rw [if_pos h0,Sr,h0];rfl
  ·rw [if_neg h0,Nb];rfl
structure MG (m:Ac):Prop where
 ok:Z0 m
 bk:Hw m≤1048576
theorem MG.sites{m:Ac}(h:MG m):m.Sites.length≤maxLen:=h.ok.2.2.1.1
theorem MG.site{m:Ac}(h:MG m):∀d∈m.Sites,SG d:=fun d hd=>⟨h.ok.2.2.1.2 d hd,by have h1:=Agi (g:=D0) hd;have h2:=h.bk;unfold Hw at h2;omega⟩
theorem MG.links{m:Ac}(h:MG m):m.Links.length≤maxLen:=h.ok.2.2.2.1
theorem B7r(L:Nat)(m:Ac)(x:Ag)(hx:I0 x)(hL:maxLen < L)(ks:List ByteArray):
  ∃ks',Nk L x m ks (tr ks) x=some (fE (k4 ks x.Name) (Vo x),ks',tr ks')∧(fE (k4 ks x.Name) (Vo x)=0→ks'=ks++ [x.Name]):=by
 refine ⟨nx ks x.Name,?_,A4y⟩
 have e:w6 L x.Name m ks (tr ks) x x=some (k4 ks x.Name,nx ks x.Name,tr (nx ks x.Name)):=Aht L x.Name hx.1 hL ks
 simp only [Nk,Ai2,Wj,aN,aB,e,Option.bind_some,Afm,Aib,A6p]
 by_cases h0:k4 ks x.Name=0
 ·simp only [h0,bne_self_eq_false,cond_false,v8]
  cases T1 x.Type_<;>cases Aeu x.Type_ x.N<;>rfl
 ·simp only [ne0 h0,cond_true,Ace h0]
theorem B0r(L:Nat)(m:Ac)(a:List ByteArray)(b:List Bool)(x:Aa)(hx:SG x)(hL:U5≤L)(ks:List ByteArray):
  ∃ks',Lr L x m a b ks (tr ks) x=some (fE (k4 ks x.Name) (Au4 X2 x),ks',tr ks')∧(fE (k4 ks x.Name) (Au4 X2 x)=0→ks'=ks++ [x.Name]):=by
 have hn:okS x.Name:=by have:=hx.ok;unfold B4 at this;exact this.1
 refine ⟨nx ks x.Name,?_,A4y⟩
 have e:d9 L x.Name m a b ks (tr ks) x x=some (k4 ks x.Name,nx ks x.Name,tr (nx ks x.Name)):=Aht L x.Name hn (Vu hL) ks
 simp only [Lr,Ag1,Ul,aN,aB,e,Option.bind_some,A44 L x hx hL]
 by_cases h0:k4 ks x.Name=0
 ·simp only [h0,bne_self_eq_false,cond_false,v8]
 ·simp only [ne0 h0,cond_true,Ace h0]
theorem A3h(L:Nat)(m:Ac)(h:MG m)(hL:U5≤L):Abc L m=some (Ah9 X2 m):=by
 have hl:=Vu hL
 have hp:=h.ok.2.1
 obtain ⟨a,b,e1⟩:=Out.e (d7 (nm:=fun x:Ag=>x.Name) (f:=Vo) (lq:=Nr L m.Params m) (bd:=fun x ks vs=>Nk L x m ks vs x) (fun _ _ _ _=>rfl) (fun _ _ _ _ _ _=>rfl) 32 m.Params 0 [] _
  (Aue L m.Params m L hp.1 (Nat.lt_of_le_of_lt hp.1 hl) 0 [] []) fun x hx ks=>B7r L m x (hp.2 x hx) hl ks)
 have e1':w5 L m.Params m=some ((N0 32 (fun x:Ag=>x.Name) Vo [] m.Params).1,a,b):=e1
 obtain ⟨c,d,e2⟩:=Out.e (d7 (nm:=fun x:Aa=>x.Name) (f:=Au4 X2) (lq:=Ns L m.Sites m a b) (bd:=fun x ks vs=>Lr L x m a b ks vs x) (fun _ _ _ _=>rfl) (fun _ _ _ _ _ _=>rfl) 16 m.Sites 0 [] _
  (Auf L m.Sites m a b L h.sites (Nat.lt_of_le_of_lt h.sites hl) 0 [] []) fun x hx ks=>B0r L m a b x (h.site x hx) hL ks)
 have e2':w7 L m.Sites m a b=some ((N0 16 (fun x:Aa=>x.Name) (Au4 X2) [] m.Sites).1,c,d):=e2
 simp only [Ap6,W2,Wk,Uz,P8,Abc,W2,Wk,Uz,P8,aN,aB,Vk L m.Name h.ok.1 (Nat.lt_of_le_of_lt h.ok.1 hl),e1',e2',A3i L m h.sites h.links hl,B7o,Option.bind_some]
 unfold Ah9
 by_cases h0:Ue m.Name=0
 ·simp only [h0,bne_self_eq_false,cond_false,v8]
  by_cases h1:(N0 32 (fun x:Ag=>x.Name) Vo [] m.Params).1=0
  ·simp only [h1,bne_self_eq_false,cond_false,v8]
   by_cases h2:m.Sites.length=0
   ·rw [decide_eq_true h2,decide_eq_false (show¬0 < m.Sites.length by omega)];rfl
   ·rw [decide_eq_false h2,decide_eq_true (show 0 < m.Sites.length by omega)]
    simp only [unl,cond_true,cond_false,v8]
    by_cases h3:(N0 16 (fun d:Aa=>d.Name) (Au4 X2) [] m.Sites).1=0
    ·simp only [h3,bne_self_eq_false,cond_false,v8]
    ·simp only [ne0 h3,cond_true,Ace h3]
  ·simp only [ne0 h1,cond_true,Ace h1]
 ·simp only [ne0 h0,cond_true,Ace h0]
end Go.Proofs.YtofcpkmnhmnfcaaGreatR.Ev
