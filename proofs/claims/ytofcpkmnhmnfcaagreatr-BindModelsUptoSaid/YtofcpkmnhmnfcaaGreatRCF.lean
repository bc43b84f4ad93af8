/-  Chapter 11, plainly: Check of the program: laws, sites, models. -/
import Derived.Test.YtofcpkmnhmnfcaaGreatRQA
import Derived.Test.YtofcpkmnhmnfcaaGreatRCD
namespace Go.Proofs.YtofcpkmnhmnfcaaGreatR.Ev
open Go An
set_option maxRecDepth 100000
set_option linter.unusedVariables false
set_option linter.unusedSimpArgs false
set_option linter.unnecessarySimpa false
structure SG (s:Aa):Prop where
 ok:B6 s
 bk:Ec s≤1048576
theorem SG.len{s:Aa}(h:SG s):Ys s 1099511627776:=(A7u s).mono (Nat.le_trans h.bk (by decide))
theorem SG.ln{s:Aa}(h:SG s):Ys s maxLen:=h.len.max
theorem SG.vars{s:Aa}(h:SG s):∀x∈s.Vars,Jp x:=by have:=h.ok;unfold B6 at this;exact this.2.1.2
theorem SG.res{s:Aa}(h:SG s):∀x∈s.Resources,Uc x:=by have:=h.ok;unfold B6 at this;exact this.2.2.1.2
theorem SG.stores{s:Aa}(h:SG s):∀x∈s.Stores,Uo x:=by have:=h.ok;unfold B6 at this;exact this.2.2.2.1.2
theorem SG.belts{s:Aa}(h:SG s):∀x∈s.Belts,Wg x:=by have:=h.ok;unfold B6 at this;exact this.2.2.2.2.1.2
theorem SG.queues{s:Aa}(h:SG s):∀x∈s.Queues,okS x:=by have:=h.ok;unfold B6 at this;exact this.2.2.2.2.2.1.2
theorem SG.streams{s:Aa}(h:SG s):∀x∈s.Streams,okS x:=by have:=h.ok;unfold B6 at this;exact this.2.2.2.2.2.2.1.2
theorem SG.tallies{s:Aa}(h:SG s):∀x∈s.Tallies,okS x:=by have:=h.ok;unfold B6 at this;exact this.2.2.2.2.2.2.2.1.2
theorem SG.levels{s:Aa}(h:SG s):∀x∈s.Levels,okS x:=by have:=h.ok;unfold B6 at this;exact this.2.2.2.2.2.2.2.2.1.2
theorem SG.counts{s:Aa}(h:SG s):∀x∈s.Counts,okS x:=by have:=h.ok;unfold B6 at this;exact this.2.2.2.2.2.2.2.2.2.1.2
theorem SG.routs{s:Aa}(h:SG s):∀x∈s.Routines,Ii x:=by have:=h.ok;unfold B6 at this;exact this.2.2.2.2.2.2.2.2.2.2.1.2
theorem SG.starts{s:Aa}(h:SG s):s.Starts.length≤maxLen∧∀x∈s.Starts,Ak3 x:=by have:=h.ok;unfold B6 at this;exact this.2.2.2.2.2.2.2.2.2.2.2.1
theorem SG.laws{s:Aa}(h:SG s):s.Laws.length≤maxLen∧∀x∈s.Laws,Af6 x:=by have:=h.ok;unfold B6 at this;exact this.2.2.2.2.2.2.2.2.2.2.2.2
theorem SG.bkR{s:Aa}(h:SG s):∀x∈s.Routines,Dw x≤1048576:=by
 intro x hx
 have h1:=Amy (g:=Dw) hx
 have h2:=h.bk
 unfold Ec at h2
 omega
theorem SG.bkD{s:Aa}(h:SG s):∀x∈s.Resources,L3 x.Fault≤1048576:=by
 intro x hx
 have h1:=Amy (g:=Gs) hx
 have h2:=h.bk
 have h3:L3 x.Fault≤Gs x:=by unfold Gs;omega
 unfold Ec at h2
 omega
theorem Bpo(tm:Ay→Int)(l:A9):A32 tm l=fE (unl (decide (0 < l.Terms.length)) 7) (fE (unl (decide (l.Terms.length≤8)) 6) (fE (Ak6 tm l.Terms) (unl (inZ l.Total) 2))):=rfl
theorem Cce(L:Nat)(s:Aa)(l:A9)(hl:Af6 l)(hs:Ys s maxLen)(hL:maxLen < L)(ks:List ByteArray):
  ∃ks',Rx L l s ks (tr ks) l=some (fE (Yt ks l.Name) (A32 (Vn s) l),ks',tr ks')∧(fE (Yt ks l.Name) (A32 (Vn s) l)=0→ks'=ks++ [l.Name]):=by
 have hM:=Bb
 refine ⟨nx ks l.Name,?_,A95⟩
 have e:Agh L l.Name s ks (tr ks) l l=some (Yt ks l.Name,nx ks l.Name,tr (nx ks l.Name)):=Aoi L l.Name hl.1 hL ks
 have e2:∀a b c d,Agi L l.Terms s a b c d=some (if 8 < l.Terms.length then 6 else Ak6 (Vn s) l.Terms):=fun a b c d=>
  Bl9 (lq:=Rz L l.Terms s a b c d) (bd:=d9 L s) (fun _ _=>rfl) (fun _ _ _ _=>rfl) 8 l.Terms 0 _ (A1b L l.Terms s a b c d L hl.2.1.1 (Nat.lt_of_le_of_lt hl.2.1.1 hL) 0) fun x _=>Bag L s x hs hL
 simp only [Rx,Ask,Ag1,Ahi,t6,aN,aB,e,e2,Option.bind_some,B50,Avb,Bpo]
 by_cases h0:Yt ks l.Name=0
 ·simp only [h0,bne_self_eq_false,cond_false,Vx]
  by_cases h1:l.Terms.length=0
  ·rw [decide_eq_true h1,decide_eq_false (show¬0 < l.Terms.length by omega)];rfl
  ·rw [decide_eq_false h1,decide_eq_true (show 0 < l.Terms.length by omega),cond_false]
   by_cases h2:8 < l.Terms.length
   ·rw [if_pos h2,decide_eq_false (show¬l.Terms.length≤8 by omega)];rfl
   ·rw [if_neg h2,decide_eq_true (show l.Terms.length≤8 by omega)]
    simp only [unl,cond_true,Vx]
    by_cases h3:Ak6 (Vn s) l.Terms=0
    ·simp only [h3,bne_self_eq_false,cond_false,Vx]
     cases inZ l.Total<;>rfl
    ·simp only [Wl h3,cond_true,Rr h3]
 ·simp only [Wl h0,cond_true,Rr h0]
theorem Out.e{X:Option (Int×List ByteArray×List Bool)}{p:Int×List ByteArray}(h:Out X p):∃a b,X=some (p.1,a,b):=by
 obtain ⟨ks,h,_⟩:=h;exact ⟨_,_,h⟩
theorem Bae(L:Nat)(s:Aa)(h:SG s)(hL:maxLen < L):Ak0 L s=some (Lz 32 (fun l:A9=>l.Name) (A32 (Vn s)) [] s.Laws).1:=by
 obtain ⟨a,b,e⟩:=Out.e (Ado (nm:=fun l:A9=>l.Name) (f:=A32 (Vn s)) (lq:=Ry L s.Laws s) (bd:=fun x ks vs=>Rx L x s ks vs x) (fun _ _ _ _=>rfl) (fun _ _ _ _ _ _=>rfl) 32 s.Laws 0 [] _
  (A1a L s.Laws s L h.laws.1 (Nat.lt_of_le_of_lt h.laws.1 hL) 0 [] []) fun x hx ks=>Cce L s x (h.laws.2 x hx) h.ln hL ks)
 have e1:Aj0 L s.Laws s=some ((Lz 32 (fun l:A9=>l.Name) (A32 (Vn s)) [] s.Laws).1,a,b):=e
 simp only [Ayl,U9,Ak0,U9,aN,aB,e1,Option.bind_some]
theorem Ave(v:Ag):V8 v=fE (unl (Oy v.Type_) 1) (unl (Afy v.Type_ v.N) 2):=rfl
theorem Bci(x:Ar):Ax9 x=fE (unl (Bm 1 1000 x.Room) 2) (unl (Bm 1 3 x.Policy) 1):=rfl
theorem Bfr(x:Ax):A66 x=unl (Bm 1 1000 x.Length && Bm 1 1000 x.Step) 2:=rfl
theorem Bps(s:Aa)(r:Ah):Bih s r=fE (unl (Bm 0 1000 r.Units) 2) (fE (Ax5 r) (Bmi s r.Fault)):=rfl
theorem Cg8(L:Nat)(s:Aa)(x:Ag)(hx:Jp x)(hL:maxLen < L)(ks:List ByteArray):
  ∃ks',Pw L x s ks (tr ks) x=some (fE (Yt ks x.Name) (V8 x),ks',tr ks')∧(fE (Yt ks x.Name) (V8 x)=0→ks'=ks++ [x.Name]):=by
 refine ⟨nx ks x.Name,?_,A95⟩
 have e:Agl L x.Name s ks (tr ks) x x=some (Yt ks x.Name,nx ks x.Name,tr (nx ks x.Name)):=Aoi L x.Name hx.1 hL ks
 simp only [Pw,Apy,v5,aN,aB,e,Option.bind_some,Amt,Aot,Ave]
 by_cases h0:Yt ks x.Name=0
 ·simp only [h0,bne_self_eq_false,cond_false,Vx]
  cases Oy x.Type_<;>cases Afy x.Type_ x.N<;>rfl
 ·simp only [Wl h0,cond_true,Rr h0]
theorem Cgx(L:Nat)(s:Aa)(hs:SG s)(x:Ah)(hm:x∈s.Resources)(hL:maxLen < L)(ks:List ByteArray):
  ∃ks',Px L x s ks (tr ks) x=some (fE (Yt ks x.Name) (Bih s x),ks',tr ks')∧(fE (Yt ks x.Name) (Bih s x)=0→ks'=ks++ [x.Name]):=by
 have hx:=hs.res x hm
 refine ⟨nx ks x.Name,?_,A95⟩
 have e:Agn L x.Name s ks (tr ks) x x=some (Yt ks x.Name,nx ks x.Name,tr (nx ks x.Name)):=Aoi L x.Name hx.1 hL ks
 simp only [Px,Ap0,v6,aN,aB,e,Option.bind_some,Iu,Azy L x hx.2.2.1.1 hL,Azx L s x.Fault hs.ln.2.2.2.2.2.1 (hs.bkD x hm) hL,Bps]
 by_cases h0:Yt ks x.Name=0
 ·simp only [h0,bne_self_eq_false,cond_false,Vx]
  cases Bm 0 1000 x.Units with
  |false=>rfl
  |true=>
   simp only [Bool.not_true,cond_false,unl,cond_true,Vx]
   by_cases h1:Ax5 x=0
   ·simp only [h1,bne_self_eq_false,cond_false,Vx]
   ·simp only [Wl h1,cond_true,Rr h1]
 ·simp only [Wl h0,cond_true,Rr h0]
theorem Bzt(L:Nat)(s:Aa)(x:Ar)(hx:Uo x)(hL:maxLen < L)(ks:List ByteArray):
  ∃ks',Py L x s ks (tr ks) x=some (fE (Yt ks x.Name) (Ax9 x),ks',tr ks')∧(fE (Yt ks x.Name) (Ax9 x)=0→ks'=ks++ [x.Name]):=by
 refine ⟨nx ks x.Name,?_,A95⟩
 have e:Agp L x.Name s ks (tr ks) x x=some (Yt ks x.Name,nx ks x.Name,tr (nx ks x.Name)):=Aoi L x.Name hx.1 hL ks
 have e2:(decide (x.Policy < 1) || decide (x.Policy > 3))= !Bm 1 3 x.Policy:=by
  unfold Bm
  by_cases h1:x.Policy < 1
  ·rw [decide_eq_true h1,decide_eq_false (show¬1≤x.Policy by omega)];rfl
  ·rw [decide_eq_false h1,decide_eq_true (show 1≤x.Policy by omega)]
   by_cases h2:x.Policy > 3
   ·rw [decide_eq_true h2,decide_eq_false (show¬x.Policy≤3 by omega)];rfl
   ·rw [decide_eq_false h2,decide_eq_true (show x.Policy≤3 by omega)];rfl
 simp only [Py,Ap2,v7,aN,aB,e,Option.bind_some,Iu,Ly,e2,Bci]
 by_cases h0:Yt ks x.Name=0
 ·simp only [h0,bne_self_eq_false,cond_false,Vx]
  cases Bm 1 1000 x.Room<;>cases Bm 1 3 x.Policy<;>rfl
 ·simp only [Wl h0,cond_true,Rr h0]
theorem B03(L:Nat)(s:Aa)(x:Ax)(hx:Wg x)(hL:maxLen < L)(ks:List ByteArray):
  ∃ks',Pz L x s ks (tr ks) x=some (fE (Yt ks x.Name) (A66 x),ks',tr ks')∧(fE (Yt ks x.Name) (A66 x)=0→ks'=ks++ [x.Name]):=by
 refine ⟨nx ks x.Name,?_,A95⟩
 have e:Agr L x.Name s ks (tr ks) x x=some (Yt ks x.Name,nx ks x.Name,tr (nx ks x.Name)):=Aoi L x.Name hx.1 hL ks
 simp only [Pz,Ap4,v8,aN,aB,e,Option.bind_some,Iu,Bfr]
 by_cases h0:Yt ks x.Name=0
 ·simp only [h0,bne_self_eq_false,cond_false,Vx]
  cases Bm 1 1000 x.Length<;>cases Bm 1 1000 x.Step<;>rfl
 ·simp only [Wl h0,cond_true,Rr h0]
theorem B6u(L:Nat)(s:Aa)(hs:SG s)(x:Am)(hm:x∈s.Routines)(hL:Ti≤L)(ks:List ByteArray):
  ∃ks',P1 L x s ks (tr ks) x=some (fE (Yt ks x.Name) (Az6 x),ks',tr ks')∧(fE (Yt ks x.Name) (Az6 x)=0→ks'=ks++ [x.Name]):=by
 have hx:=hs.routs x hm
 refine ⟨nx ks x.Name,?_,A95⟩
 have e:Agt L x.Name s ks (tr ks) x x=some (Yt ks x.Name,nx ks x.Name,tr (nx ks x.Name)):=Aoi L x.Name hx.1 (Ow hL) ks
 simp only [P1,Ap7,X4,aN,aB,e,Option.bind_some,A1w L x hx (hs.bkR x hm) hL]
 by_cases h0:Yt ks x.Name=0
 ·simp only [h0,bne_self_eq_false,cond_false,Vx]
 ·simp only [Wl h0,cond_true,Rr h0]
theorem B68(L:Nat)(s:Aa)(x:ByteArray)(hx:okS x)(hL:maxLen < L)(ks:List ByteArray):
  ∃ks',P0 L x s ks (tr ks)=some (fE (Yt ks x) 0,ks',tr ks')∧(fE (Yt ks x) 0=0→ks'=ks++ [x]):=by
 refine ⟨nx ks x,?_,A95⟩
 have e:P0 L x s ks (tr ks)=some (Yt ks x,nx ks x,tr (nx ks x)):=Aoi L x hx hL ks
 rw [e]
 by_cases h0:Yt ks x=0
 ·rw [h0,Vx]
 ·rw [Rr h0]
theorem Axd{α :Type}{l:List α}{L:Nat}(h:l.length≤maxLen)(hL:maxLen < L):l.length < L+24:=Nat.lt_of_lt_of_le (Nat.lt_of_le_of_lt h hL) (Nat.le_add_right L 24)
theorem Bz1(L:Nat)(s:Aa)(h:SG s)(hL:maxLen < L):Out (Agk L s.Vars s) (Lz 32 (fun x:Ag=>x.Name) V8 [] s.Vars):=
 Ado (lq:=R1 L s.Vars s) (bd:=fun x ks vs=>Pw L x s ks vs x) (fun _ _ _ _=>rfl) (fun _ _ _ _ _ _=>rfl) 32 s.Vars 0 [] _
  (A1c L s.Vars s (L+24) h.ln.1 (Axd h.ln.1 hL) 0 [] []) fun x hx ks=>Cg8 L s x (h.vars x hx) hL ks
theorem B6t(L:Nat)(s:Aa)(h:SG s)(hL:maxLen < L)(ks:List ByteArray):Out (Agm L s.Resources s ks (tr ks)) (Lz 32 (fun x:Ah=>x.Name) (Bih s) ks s.Resources):=
 Ado (lq:=R2 L s.Resources s) (bd:=fun x ks vs=>Px L x s ks vs x) (fun _ _ _ _=>rfl) (fun _ _ _ _ _ _=>rfl) 32 s.Resources 0 ks _
  (A1d L s.Resources s (L+24) h.ln.2.1 (Axd h.ln.2.1 hL) 0 ks _) fun x hx ks=>Cgx L s h x hx hL ks
theorem Blh(L:Nat)(s:Aa)(h:SG s)(hL:maxLen < L)(ks:List ByteArray):Out (Ago L s.Stores s ks (tr ks)) (Lz 32 (fun x:Ar=>x.Name) Ax9 ks s.Stores):=
 Ado (lq:=R3 L s.Stores s) (bd:=fun x ks vs=>Py L x s ks vs x) (fun _ _ _ _=>rfl) (fun _ _ _ _ _ _=>rfl) 32 s.Stores 0 ks _
  (A1e L s.Stores s (L+24) h.ln.2.2.1 (Axd h.ln.2.2.1 hL) 0 ks _) fun x hx ks=>Bzt L s x (h.stores x hx) hL ks
theorem Br4(L:Nat)(s:Aa)(h:SG s)(hL:maxLen < L)(ks:List ByteArray):Out (Agq L s.Belts s ks (tr ks)) (Lz 32 (fun x:Ax=>x.Name) A66 ks s.Belts):=
 Ado (lq:=R4 L s.Belts s) (bd:=fun x ks vs=>Pz L x s ks vs x) (fun _ _ _ _=>rfl) (fun _ _ _ _ _ _=>rfl) 32 s.Belts 0 ks _
  (A1f L s.Belts s (L+24) h.ln.2.2.2.1 (Axd h.ln.2.2.2.1 hL) 0 ks _) fun x hx ks=>B03 L s x (h.belts x hx) hL ks
theorem Aqf(L:Nat)(s:Aa)(l:List ByteArray)(h1:l.length≤maxLen)(h2:∀x∈l,okS x)(hL:maxLen < L)(ks:List ByteArray):Out (K9 L l s ks (tr ks)) (txE ks l):=
 Ado (lq:=R5 L l s) (bd:=fun x ks vs=>P0 L x s ks vs) (fun _ _ _ _=>rfl) (fun _ _ _ _ _ _=>rfl) 32 l 0 ks _
  (A1g L l s (L+24) h1 (Axd h1 hL) 0 ks _) fun x hx ks=>B68 L s x (h2 x hx) hL ks
theorem Bs9(L:Nat)(s:Aa)(h:SG s)(hL:Ti≤L)(ks:List ByteArray):Out (Ags L s.Routines s ks (tr ks)) (Lz 16 (fun x:Am=>x.Name) Az6 ks s.Routines):=
 Ado (lq:=R6 L s.Routines s) (bd:=fun x ks vs=>P1 L x s ks vs x) (fun _ _ _ _=>rfl) (fun _ _ _ _ _ _=>rfl) 16 s.Routines 0 ks _
  (A1h L s.Routines s (L+24) h.ln.2.2.2.2.2.2.2.2.2 (Axd h.ln.2.2.2.2.2.2.2.2.2 (Ow hL)) 0 ks _) fun x hx ks=>B6u L s h x hx hL ks
theorem A4s(L:Nat)(s:Aa)(h:SG s)(hL:maxLen < L)(a:List ByteArray)(b:List Bool):Agu L s.Starts s a b=some (A0a s):=
 Bl9 (lq:=R7 L s.Starts s a b) (bd:=W6 L s) (fun _ _=>rfl) (fun _ _ _ _=>rfl) 32 s.Starts 0 _ (A1i L s.Starts s a b (L+24) h.starts.1 (Axd h.starts.1 hL) 0) fun x hx=>
  A8r L s x h.ln.2.2.2.2.2.2.2.2.2 ((h.starts.2 x hx).2.1.1) hL
theorem Bio(tm:Aa→Ay→Int)(s:Aa):Ajp tm s=fE (Ari s).1 (fE (A0a s) (Lz 32 (fun l:A9=>l.Name) (A32 (tm s)) [] s.Laws).1):=rfl
theorem Ax0(L:Nat)(s:Aa)(h:SG s)(hL:Ti≤L):Gl (Ajp Vn s) (Abf L s):=by
 have hl:=Ow hL
 have g:∀a b:Int,a < b→((a < b)=True):=fun a b h=>eq_true h
 have e0:∀n:Int,0≤n→((0≤n)=True):=fun n h=>eq_true h
 simp only [Abf,Asl,Ahk,Ag5,Ahl,Ag7,Ahm,Ag9,Ahn,Ahb,Aho,Ahd,Ahp,Ahe,Afo,Aex,Afp,Aey,Afq,Aez,Afr,Ae1,Afs,X5,aN,aB]
 repeat rw [ifp (by decide)]
 rw [Bio,Ari]
 simp only [A9t]
 refine A0b (Bz1 L s h hl) (fun _ _ _ h=>nzE h _ _ _) fun ks=> ?_
 simp only [bne_self_eq_false,cond_false]
 repeat rw [ifp (by decide)]
 refine A0b (B6t L s h hl ks) (fun _ _ _ h=>nzE h _ _ _) fun ks=> ?_
 simp only [bne_self_eq_false,cond_false]
 repeat rw [ifp (by decide)]
 refine A0b (Blh L s h hl ks) (fun _ _ _ h=>nzE h _ _ _) fun ks=> ?_
 simp only [bne_self_eq_false,cond_false]
 repeat rw [ifp (by decide)]
 refine A0b (Br4 L s h hl ks) (fun _ _ _ h=>nzE h _ _ _) fun ks=> ?_
 simp only [bne_self_eq_false,cond_false]
 repeat rw [ifp (by decide)]
 refine A0b (Aqf L s s.Queues h.ln.2.2.2.2.1 h.queues hl ks) (fun _ _ _ h=>nzE h _ _ _) fun ks=> ?_
 simp only [bne_self_eq_false,cond_false]
 repeat rw [ifp (by decide)]
 refine A0b (Aqf L s s.Streams h.ln.2.2.2.2.2.1 h.streams hl ks) (fun _ _ _ h=>nzE h _ _ _) fun ks=> ?_
 simp only [bne_self_eq_false,cond_false]
 repeat rw [ifp (by decide)]
 refine A0b (Aqf L s s.Tallies h.ln.2.2.2.2.2.2.1 h.tallies hl ks) (fun _ _ _ h=>nzE h _ _ _) fun ks=> ?_
 simp only [bne_self_eq_false,cond_false]
 repeat rw [ifp (by decide)]
 refine A0b (Aqf L s s.Levels h.ln.2.2.2.2.2.2.2.1 h.levels hl ks) (fun _ _ _ h=>nzE h _ _ _) fun ks=> ?_
 simp only [bne_self_eq_false,cond_false]
 repeat rw [ifp (by decide)]
 refine A0b (Aqf L s s.Counts h.ln.2.2.2.2.2.2.2.2.1 h.counts hl ks) (fun _ _ _ h=>nzE h _ _ _) fun ks=> ?_
 simp only [bne_self_eq_false,cond_false]
 repeat rw [ifp (by decide)]
 refine Con (Bs9 L s h hL ks) (fun _ _ _ h=>nzE h _ _ _) fun ks=> ?_
 simp only [bne_self_eq_false,cond_false]
 repeat rw [ifp (by decide)]
 rw [A4s L s h hl,Option.bind_some]
 by_cases h1:A0a s=0
 ·simp only [h1,bne_self_eq_false,cond_false,Vx]
  repeat rw [ifp (by decide)]
  rw [Bae L s h hl,Option.bind_some]
  by_cases h2:(Lz 32 (fun l:A9=>l.Name) (A32 (Vn s)) [] s.Laws).1=0
  ·simp only [h2,bne_self_eq_false,cond_false];exact ⟨_,_,rfl⟩
  ·simp only [Wl h2,cond_true];exact ⟨_,_,rfl⟩
 ·simp only [Wl h1,cond_true,Rr h1];exact ⟨_,_,rfl⟩
theorem Baf(L:Nat)(s:Aa)(h:SG s)(hL:Ti≤L):Ak1 L s=some (Ajp Vn s):=by
 obtain ⟨a,b,e⟩:=Ax0 L s h hL
 simp only [Aym,S8,Ak1,S8,aN,aB,e,Option.bind_some]
def Bba(l:List Bk):List Bs:=l.map fun x=>(⟨x.From,x.To⟩:Bs)
def Btf(seen:List Bk)(x:Bk):Bool:=seen.any fun y=>decide (y.From=x.From) && decide (y.To=x.To)
theorem Bhb(m:Ac)(seen:List Bk)(l:Bk):Bha m seen l=if (m.Sites.any (fun d=>decide (d.Name=l.From)) && m.Sites.any (fun d=>decide (d.Name=l.To)))=false then 5
 else if l.From=l.To then 1 else if Bm 1 1000000000 l.Delay=false then 2 else unl (!Btf seen l) 4:=rfl
theorem B7a(seen:List Bk)(x:Bk):((Bba seen).any fun b=>x.From == b.a0 && x.To == b.a1)=Btf seen x:=by
 unfold Bba Btf
 rw [List.any_map]
 congr 1
 funext y
 show (x.From == y.From && x.To == y.To)=_
 rw [Bdc,Bdc]
theorem Bip(m:Ac)(n:ByteArray):decide (A3m m n < 0)= !m.Sites.any fun d=>decide (d.Name=n):=by
 unfold A3m
 rw [Adr]
 cases h:m.Sites.findIdx? fun d=>decide (d.Name=n) with
 |none=>rw [Ay1 h];rfl
 |some i=>rw [Au7 h];rfl
theorem B51(L:Nat)(m:Ac)(x:Bk)(hm:m.Sites.length≤maxLen)(hL:maxLen < L)(seen:List Bk):
  ∃ks',Uu L x m (Bba seen) (tr (Bba seen)) x=some (Bha m seen x,ks',tr ks')∧(Bha m seen x=0→ks'=Bba (seen++ [x])):=by
 simp only [Uu,Agc,aN,aB,Awe L m _ hm hL,Iu,Option.bind_some,Bip,D0,Dt,Ly,Bhb]
 rw [←B7a]
 cases m.Sites.any (fun d=>decide (d.Name=x.From)) with
 |false=>exact ⟨_,rfl,fun h=>absurd (show (5:Int)=0 from h) (by decide)⟩
 |true=>
  cases m.Sites.any (fun d=>decide (d.Name=x.To)) with
  |false=>exact ⟨_,rfl,fun h=>absurd (show (5:Int)=0 from h) (by decide)⟩
  |true=>
   simp only [Bool.not_true,Bool.or_self,cond_false,Bool.and_self,Bool.true_eq_false,if_false]
   by_cases h1:x.From=x.To
   ·rw [decide_eq_true h1,if_pos h1];exact ⟨_,rfl,fun h=>absurd (show (1:Int)=0 from h) (by decide)⟩
   ·rw [decide_eq_false h1,if_neg h1,cond_false]
    cases Bm 1 1000000000 x.Delay with
    |false=>exact ⟨_,rfl,fun h=>absurd (show (2:Int)=0 from h) (by decide)⟩
    |true=>
     simp only [Bool.not_true,cond_false,Bool.true_eq_false,if_false]
     cases hf:(Bba seen).findIdx? fun b=>x.From == b.a0 && x.To == b.a1 with
     |some i=>
      rw [Au7 hf]
      obtain ⟨h3,_⟩:=List.findIdx?_eq_some_iff_getElem.1 hf
      simp only [fko,Bzx h3]
      exact ⟨_,rfl,fun h=>absurd (show (4:Int)=0 from h) (by decide)⟩
     |none=>
      rw [Ay1 hf]
      simp only [fko]
      rw [Bro (Bba seen) (⟨x.From,x.To⟩:Bs)]
      exact ⟨_,rfl,fun _=>by unfold Bba;rw [List.map_append];rfl⟩
theorem A4y(L:Nat)(l:List Bk)(m:Ac)(hm:m.Sites.length≤maxLen)(hL:maxLen < L):∀(k:List Bk) (i:Nat) (v:Int) (seen:List Bk),
  ∃j a b,Je L l m k i v (Bba seen) (tr (Bba seen))=some (if Ake m seen k=0 then (1,(v,(j,a,b))) else (0,(Ake m seen k,(j,a,b)))):=by
 intro k
 induction k with
 |nil=>intro i v seen;exact ⟨i,_,_,rfl⟩
 |cons x k ih=>
  intro i v seen
  obtain ⟨ks',he,hk⟩:=B51 L m x hm hL seen
  rw [Je,he,Option.bind_some,Ake]
  by_cases h0:Bha m seen x=0
  ·have:=hk h0;subst this
   obtain ⟨j,a,b,hj⟩:=ih (i+1) v (seen++ [x])
   rw [h0,Vx]
   exact ⟨j,a,b,hj⟩
  ·rw [Rr h0]
   exact ⟨i,ks',tr ks',by simp only [Wl h0,cond_true,if_neg h0]⟩
theorem A8p(L:Nat)(m:Ac)(hm:m.Sites.length≤maxLen)(hl:m.Links.length≤maxLen)(hL:maxLen < L):Ahv L m=some (A7w m):=by
 have e32:decide ((m.Links.length:Int) > 32)=decide (32 < m.Links.length):=gtN _ 32
 obtain ⟨j,a,b,hj⟩:=A4y L m.Links m hm hL m.Links 0 0 []
 have hj':Je L m.Links m m.Links 0 0 [] []=_:=hj
 simp only [Av0,Vb,Ahv,Vb,Agj,Apt,Ahj,t7,aN,aB,e32,Azf L m.Links m L hl (Nat.lt_of_le_of_lt hl hL),hj',Option.bind_some,A7w]
 by_cases h:32 < m.Links.length
 ·rw [decide_eq_true h,if_pos h];rfl
 ·rw [decide_eq_false h,if_neg h,cond_false]
  by_cases h0:Ake m [] m.Links=0
  ·rw [if_pos h0,Kx,h0];rfl
  ·rw [if_neg h0,Gm];rfl
structure MG (m:Ac):Prop where
 ok:f5 m
 bk:Hr m≤1048576
theorem MG.sites{m:Ac}(h:MG m):m.Sites.length≤maxLen:=h.ok.2.2.1.1
theorem MG.site{m:Ac}(h:MG m):∀d∈m.Sites,SG d:=fun d hd=>⟨h.ok.2.2.1.2 d hd,by have h1:=Amy (g:=Ec) hd;have h2:=h.bk;unfold Hr at h2;omega⟩
theorem MG.links{m:Ac}(h:MG m):m.Links.length≤maxLen:=h.ok.2.2.2.1
theorem Cd5(L:Nat)(m:Ac)(x:Ag)(hx:Jp x)(hL:maxLen < L)(ks:List ByteArray):
  ∃ks',Pv L x m ks (tr ks) x=some (fE (Yt ks x.Name) (V8 x),ks',tr ks')∧(fE (Yt ks x.Name) (V8 x)=0→ks'=ks++ [x.Name]):=by
 refine ⟨nx ks x.Name,?_,A95⟩
 have e:Agf L x.Name m ks (tr ks) x x=some (Yt ks x.Name,nx ks x.Name,tr (nx ks x.Name)):=Aoi L x.Name hx.1 hL ks
 simp only [Pv,Apq,s9,aN,aB,e,Option.bind_some,Amt,Aot,Ave]
 by_cases h0:Yt ks x.Name=0
 ·simp only [h0,bne_self_eq_false,cond_false,Vx]
  cases Oy x.Type_<;>cases Afy x.Type_ x.N<;>rfl
 ·simp only [Wl h0,cond_true,Rr h0]
theorem B61(L:Nat)(m:Ac)(a:List ByteArray)(b:List Bool)(x:Aa)(hx:SG x)(hL:Ti≤L)(ks:List ByteArray):
  ∃ks',M7 L x m a b ks (tr ks) x=some (fE (Yt ks x.Name) (Ajp Vn x),ks',tr ks')∧(fE (Yt ks x.Name) (Ajp Vn x)=0→ks'=ks++ [x.Name]):=by
 have hn:okS x.Name:=by have:=hx.ok;unfold B6 at this;exact this.1
 refine ⟨nx ks x.Name,?_,A95⟩
 have e:Adq L x.Name m a b ks (tr ks) x x=some (Yt ks x.Name,nx ks x.Name,tr (nx ks x.Name)):=Aoi L x.Name hn (Ow hL) ks
 simp only [M7,Ann,X2,aN,aB,e,Option.bind_some,Baf L x hx hL]
 by_cases h0:Yt ks x.Name=0
 ·simp only [h0,bne_self_eq_false,cond_false,Vx]
 ·simp only [Wl h0,cond_true,Rr h0]
theorem A8o(L:Nat)(m:Ac)(h:MG m)(hL:Ti≤L):Ahu L m=some (Aeg Vn m):=by
 have hl:=Ow hL
 have hp:=h.ok.2.1
 obtain ⟨a,b,e1⟩:=Out.e (Ado (nm:=fun x:Ag=>x.Name) (f:=V8) (lq:=P2 L m.Params m) (bd:=fun x ks vs=>Pv L x m ks vs x) (fun _ _ _ _=>rfl) (fun _ _ _ _ _ _=>rfl) 32 m.Params 0 [] _
  (Azd L m.Params m L hp.1 (Nat.lt_of_le_of_lt hp.1 hl) 0 [] []) fun x hx ks=>Cd5 L m x (hp.2 x hx) hl ks)
 have e1':Age L m.Params m=some ((Lz 32 (fun x:Ag=>x.Name) V8 [] m.Params).1,a,b):=e1
 obtain ⟨c,d,e2⟩:=Out.e (Ado (nm:=fun x:Aa=>x.Name) (f:=Ajp Vn) (lq:=P3 L m.Sites m a b) (bd:=fun x ks vs=>M7 L x m a b ks vs x) (fun _ _ _ _=>rfl) (fun _ _ _ _ _ _=>rfl) 16 m.Sites 0 [] _
  (Aze L m.Sites m a b L h.sites (Nat.lt_of_le_of_lt h.sites hl) 0 [] []) fun x hx ks=>B61 L m a b x (h.site x hx) hL ks)
 have e2':Agg L m.Sites m a b=some ((Lz 16 (fun x:Aa=>x.Name) (Ajp Vn) [] m.Sites).1,c,d):=e2
 simp only [Avz,w9,t5,Yk,S5,Ahu,w9,t5,Yk,S5,aN,aB,Zd L m.Name h.ok.1 (Nat.lt_of_le_of_lt h.ok.1 hl),e1',e2',A8p L m h.sites h.links hl,B50,Option.bind_some]
 unfold Aeg
 by_cases h0:Sy m.Name=0
 ·simp only [h0,bne_self_eq_false,cond_false,Vx]
  by_cases h1:(Lz 32 (fun x:Ag=>x.Name) V8 [] m.Params).1=0
  ·simp only [h1,bne_self_eq_false,cond_false,Vx]
   by_cases h2:m.Sites.length=0
   ·rw [decide_eq_true h2,decide_eq_false (show¬0 < m.Sites.length by omega)];rfl
   ·rw [decide_eq_false h2,decide_eq_true (show 0 < m.Sites.length by omega)]
    simp only [unl,cond_true,cond_false,Vx]
    by_cases h3:(Lz 16 (fun d:Aa=>d.Name) (Ajp Vn) [] m.Sites).1=0
    ·simp only [h3,bne_self_eq_false,cond_false,Vx]
    ·simp only [Wl h3,cond_true,Rr h3]
  ·simp only [Wl h1,cond_true,Rr h1]
 ·simp only [Wl h0,cond_true,Rr h0]
end Go.Proofs.YtofcpkmnhmnfcaaGreatR.Ev
