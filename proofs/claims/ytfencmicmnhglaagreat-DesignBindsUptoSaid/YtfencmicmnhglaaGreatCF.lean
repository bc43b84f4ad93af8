/-  Chapter 11, plainly: Check of the program: laws, sites, models. -/
import Derived.Test.YtfencmicmnhglaaGreatQA
import Derived.Test.YtfencmicmnhglaaGreatCD
namespace Go.Proofs.YtfencmicmnhglaaGreat.Ev
open Go An
set_option maxRecDepth 100000
set_option linter.unusedVariables false
set_option linter.unusedSimpArgs false
set_option linter.unnecessarySimpa false
structure SG (s:Aa):Prop where
 ok:B6 s
 bk:C2 s≤1048576
theorem SG.len{s:Aa}(h:SG s):Ae2 s 1099511627776:=(A2s s).mono (Nat.le_trans h.bk (by decide))
theorem SG.ln{s:Aa}(h:SG s):Ae2 s maxLen:=h.len.max
theorem SG.vars{s:Aa}(h:SG s):∀x∈s.Vars,On x:=by have:=h.ok;unfold B6 at this;exact this.2.1.2
theorem SG.res{s:Aa}(h:SG s):∀x∈s.Resources,P7 x:=by have:=h.ok;unfold B6 at this;exact this.2.2.1.2
theorem SG.stores{s:Aa}(h:SG s):∀x∈s.Stores,Qd x:=by have:=h.ok;unfold B6 at this;exact this.2.2.2.1.2
theorem SG.belts{s:Aa}(h:SG s):∀x∈s.Belts,R9 x:=by have:=h.ok;unfold B6 at this;exact this.2.2.2.2.1.2
theorem SG.queues{s:Aa}(h:SG s):∀x∈s.Queues,okS x:=by have:=h.ok;unfold B6 at this;exact this.2.2.2.2.2.1.2
theorem SG.streams{s:Aa}(h:SG s):∀x∈s.Streams,okS x:=by have:=h.ok;unfold B6 at this;exact this.2.2.2.2.2.2.1.2
theorem SG.tallies{s:Aa}(h:SG s):∀x∈s.Tallies,okS x:=by have:=h.ok;unfold B6 at this;exact this.2.2.2.2.2.2.2.1.2
theorem SG.levels{s:Aa}(h:SG s):∀x∈s.Levels,okS x:=by have:=h.ok;unfold B6 at this;exact this.2.2.2.2.2.2.2.2.1.2
theorem SG.counts{s:Aa}(h:SG s):∀x∈s.Counts,okS x:=by have:=h.ok;unfold B6 at this;exact this.2.2.2.2.2.2.2.2.2.1.2
theorem SG.routs{s:Aa}(h:SG s):∀x∈s.Routines,Ku x:=by have:=h.ok;unfold B6 at this;exact this.2.2.2.2.2.2.2.2.2.2.1.2
theorem SG.starts{s:Aa}(h:SG s):s.Starts.length≤maxLen∧∀x∈s.Starts,Abo x:=by have:=h.ok;unfold B6 at this;exact this.2.2.2.2.2.2.2.2.2.2.2.1
theorem SG.laws{s:Aa}(h:SG s):s.Laws.length≤maxLen∧∀x∈s.Laws,Ab0 x:=by have:=h.ok;unfold B6 at this;exact this.2.2.2.2.2.2.2.2.2.2.2.2
theorem SG.bkR{s:Aa}(h:SG s):∀x∈s.Routines,Df x≤1048576:=by
 intro x hx
 have h1:=Ae9 (g:=Df) hx
 have h2:=h.bk
 unfold C2 at h2
 omega
theorem SG.bkD{s:Aa}(h:SG s):∀x∈s.Resources,Oo x.Fault≤1048576:=by
 intro x hx
 have h1:=Ae9 (g:=De) hx
 have h2:=h.bk
 have h3:Oo x.Fault≤De x:=by unfold De;omega
 unfold C2 at h2
 omega
theorem Blc(tm:Aw→Int)(l:A9):Azx tm l=fE (unl (decide (0 < l.Terms.length)) 7) (fE (unl (decide (l.Terms.length≤8)) 6) (fE (Aju tm l.Terms) (unl (inZ l.Total) 2))):=rfl
theorem Br3(L:Nat)(s:Aa)(l:A9)(hl:Ab0 l)(hs:Ae2 s maxLen)(hL:maxLen < L)(ks:List ByteArray):
  ∃ks',N5 L l s ks (tr ks) l=some (fE (Zv ks l.Name) (Azx (Wh s) l),ks',tr ks')∧(fE (Zv ks l.Name) (Azx (Wh s) l)=0→ks'=ks++ [l.Name]):=by
 have hM:=B4
 refine ⟨nx ks l.Name,?_,Av3⟩
 have e:Z7 L l.Name s ks (tr ks) l l=some (Zv ks l.Name,nx ks l.Name,tr (nx ks l.Name)):=Adv L l.Name hl.1 hL ks
 have e2:∀a b c d,Z8 L l.Terms s a b c d=some (if 8 < l.Terms.length then 6 else Aju (Wh s) l.Terms):=fun a b c d=>
  A6u (lq:=N7 L l.Terms s a b c d) (bd:=Ug L s) (fun _ _=>rfl) (fun _ _ _ _=>rfl) 8 l.Terms 0 _ (Apb L l.Terms s a b c d L hl.2.1.1 (Nat.lt_of_le_of_lt hl.2.1.1 hL) 0) fun x _=>Awb L s x hs hL
 simp only [N5,Ag5,l6,p9,U3,aN,aB,e,e2,Option.bind_some,Bgg,Ae4,Blc]
 by_cases h0:Zv ks l.Name=0
 ·simp only [h0,bne_self_eq_false,cond_false,Xt]
  by_cases h1:l.Terms.length=0
  ·rw [decide_eq_true h1,decide_eq_false (show¬0 < l.Terms.length by omega)];rfl
  ·rw [decide_eq_false h1,decide_eq_true (show 0 < l.Terms.length by omega),cond_false]
   by_cases h2:8 < l.Terms.length
   ·rw [if_pos h2,decide_eq_false (show¬l.Terms.length≤8 by omega)];rfl
   ·rw [if_neg h2,decide_eq_true (show l.Terms.length≤8 by omega)]
    simp only [unl,cond_true,Xt]
    by_cases h3:Aju (Wh s) l.Terms=0
    ·simp only [h3,bne_self_eq_false,cond_false,Xt]
     cases inZ l.Total<;>rfl
    ·simp only [Zn h3,cond_true,Ys h3]
 ·simp only [Zn h0,cond_true,Ys h0]
theorem Out.e{X:Option (Int×List ByteArray×List Bool)}{p:Int×List ByteArray}(h:Out X p):∃a b,X=some (p.1,a,b):=by
 obtain ⟨ks,h,_⟩:=h;exact ⟨_,_,h⟩
theorem Av9(L:Nat)(s:Aa)(h:SG s)(hL:maxLen < L):Abl L s=some (Qg 32 (fun l:A9=>l.Name) (Azx (Wh s)) [] s.Laws).1:=by
 obtain ⟨a,b,e⟩:=Out.e (Yp (nm:=fun l:A9=>l.Name) (f:=Azx (Wh s)) (lq:=N6 L s.Laws s) (bd:=fun x ks vs=>N5 L x s ks vs x) (fun _ _ _ _=>rfl) (fun _ _ _ _ _ _=>rfl) 32 s.Laws 0 [] _
  (Apa L s.Laws s L h.laws.1 (Nat.lt_of_le_of_lt h.laws.1 hL) 0 [] []) fun x hx ks=>Br3 L s x (h.laws.2 x hx) h.ln hL ks)
 have e1:Aar L s.Laws s=some ((Qg 32 (fun l:A9=>l.Name) (Azx (Wh s)) [] s.Laws).1,a,b):=e
 simp only [Ami,Qu,Abl,Qu,aN,aB,e1,Option.bind_some]
theorem Ax8(v:Ah):Zf v=fE (unl (N1 v.Type_) 1) (unl (y6 v.Type_ v.N) 2):=rfl
theorem Bcz(x:Am):Avh x=fE (unl (Bx 1 1000 x.Room) 2) (unl (Bx 1 3 x.Policy) 1):=rfl
theorem Bdz(x:Aq):A0z x=unl (Bx 1 1000 x.Length && Bx 1 1000 x.Step) 2:=rfl
theorem Bnc(s:Aa)(r:Ai):Bg4 s r=fE (unl (Bx 0 1000 r.Units) 2) (fE (Au6 r) (A7n s r.Fault)):=rfl
theorem Bvu(L:Nat)(s:Aa)(x:Ah)(hx:On x)(hL:maxLen < L)(ks:List ByteArray):
  ∃ks',Mu L x s ks (tr ks) x=some (fE (Zv ks x.Name) (Zf x),ks',tr ks')∧(fE (Zv ks x.Name) (Zf x)=0→ks'=ks++ [x.Name]):=by
 refine ⟨nx ks x.Name,?_,Av3⟩
 have e:f9 L x.Name s ks (tr ks) x x=some (Zv ks x.Name,nx ks x.Name,tr (nx ks x.Name)):=Adv L x.Name hx.1 hL ks
 simp only [Mu,Aeo,Vb,aN,aB,e,Option.bind_some,Acm,Ad1,Ax8]
 by_cases h0:Zv ks x.Name=0
 ·simp only [h0,bne_self_eq_false,cond_false,Xt]
  cases N1 x.Type_<;>cases y6 x.Type_ x.N<;>rfl
 ·simp only [Zn h0,cond_true,Ys h0]
theorem Bva(L:Nat)(s:Aa)(hs:SG s)(x:Ai)(hm:x∈s.Resources)(hL:maxLen < L)(ks:List ByteArray):
  ∃ks',Mv L x s ks (tr ks) x=some (fE (Zv ks x.Name) (Bg4 s x),ks',tr ks')∧(fE (Zv ks x.Name) (Bg4 s x)=0→ks'=ks++ [x.Name]):=by
 have hx:=hs.res x hm
 refine ⟨nx ks x.Name,?_,Av3⟩
 have e:i9 L x.Name s ks (tr ks) x x=some (Zv ks x.Name,nx ks x.Name,tr (nx ks x.Name)):=Adv L x.Name hx.1 hL ks
 simp only [Mv,Aeq,Vc,aN,aB,e,Option.bind_some,Hs,Anx L x hx.2.2.1.1 hL,Anw L s x.Fault hs.ln.2.2.2.2.2.1 (hs.bkD x hm) hL,Bnc]
 by_cases h0:Zv ks x.Name=0
 ·simp only [h0,bne_self_eq_false,cond_false,Xt]
  cases Bx 0 1000 x.Units with
  |false=>rfl
  |true=>
   simp only [Bool.not_true,cond_false,unl,cond_true,Xt]
   by_cases h1:Au6 x=0
   ·simp only [h1,bne_self_eq_false,cond_false,Xt]
   ·simp only [Zn h1,cond_true,Ys h1]
 ·simp only [Zn h0,cond_true,Ys h0]
theorem Bh0(L:Nat)(s:Aa)(x:Am)(hx:Qd x)(hL:maxLen < L)(ks:List ByteArray):
  ∃ks',Mw L x s ks (tr ks) x=some (fE (Zv ks x.Name) (Avh x),ks',tr ks')∧(fE (Zv ks x.Name) (Avh x)=0→ks'=ks++ [x.Name]):=by
 refine ⟨nx ks x.Name,?_,Av3⟩
 have e:j4 L x.Name s ks (tr ks) x x=some (Zv ks x.Name,nx ks x.Name,tr (nx ks x.Name)):=Adv L x.Name hx.1 hL ks
 have e2:(decide (x.Policy < 1) || decide (x.Policy > 3))= !Bx 1 3 x.Policy:=by
  unfold Bx
  by_cases h1:x.Policy < 1
  ·rw [decide_eq_true h1,decide_eq_false (show¬1≤x.Policy by omega)];rfl
  ·rw [decide_eq_false h1,decide_eq_true (show 1≤x.Policy by omega)]
   by_cases h2:x.Policy > 3
   ·rw [decide_eq_true h2,decide_eq_false (show¬x.Policy≤3 by omega)];rfl
   ·rw [decide_eq_false h2,decide_eq_true (show x.Policy≤3 by omega)];rfl
 simp only [Mw,Aes,Vd,aN,aB,e,Option.bind_some,Hs,Xo,e2,Bcz]
 by_cases h0:Zv ks x.Name=0
 ·simp only [h0,bne_self_eq_false,cond_false,Xt]
  cases Bx 1 1000 x.Room<;>cases Bx 1 3 x.Policy<;>rfl
 ·simp only [Zn h0,cond_true,Ys h0]
theorem Bi3(L:Nat)(s:Aa)(x:Aq)(hx:R9 x)(hL:maxLen < L)(ks:List ByteArray):
  ∃ks',Mx L x s ks (tr ks) x=some (fE (Zv ks x.Name) (A0z x),ks',tr ks')∧(fE (Zv ks x.Name) (A0z x)=0→ks'=ks++ [x.Name]):=by
 refine ⟨nx ks x.Name,?_,Av3⟩
 have e:j6 L x.Name s ks (tr ks) x x=some (Zv ks x.Name,nx ks x.Name,tr (nx ks x.Name)):=Adv L x.Name hx.1 hL ks
 simp only [Mx,Aeu,Ve,aN,aB,e,Option.bind_some,Hs,Bdz]
 by_cases h0:Zv ks x.Name=0
 ·simp only [h0,bne_self_eq_false,cond_false,Xt]
  cases Bx 1 1000 x.Length<;>cases Bx 1 1000 x.Step<;>rfl
 ·simp only [Zn h0,cond_true,Ys h0]
theorem Bne(L:Nat)(s:Aa)(hs:SG s)(x:Ak)(hm:x∈s.Routines)(hL:Xd≤L)(ks:List ByteArray):
  ∃ks',Mz L x s ks (tr ks) x=some (fE (Zv ks x.Name) (Axs x),ks',tr ks')∧(fE (Zv ks x.Name) (Axs x)=0→ks'=ks++ [x.Name]):=by
 have hx:=hs.routs x hm
 refine ⟨nx ks x.Name,?_,Av3⟩
 have e:j8 L x.Name s ks (tr ks) x x=some (Zv ks x.Name,nx ks x.Name,tr (nx ks x.Name)):=Adv L x.Name hx.1 (Yl hL) ks
 simp only [Mz,Aex,Tg,aN,aB,e,Option.bind_some,Apu L x hx (hs.bkR x hm) hL]
 by_cases h0:Zv ks x.Name=0
 ·simp only [h0,bne_self_eq_false,cond_false,Xt]
 ·simp only [Zn h0,cond_true,Ys h0]
theorem Bnx(L:Nat)(s:Aa)(x:ByteArray)(hx:okS x)(hL:maxLen < L)(ks:List ByteArray):
  ∃ks',My L x s ks (tr ks)=some (fE (Zv ks x) 0,ks',tr ks')∧(fE (Zv ks x) 0=0→ks'=ks++ [x]):=by
 refine ⟨nx ks x,?_,Av3⟩
 have e:My L x s ks (tr ks)=some (Zv ks x,nx ks x,tr (nx ks x)):=Adv L x hx hL ks
 rw [e]
 by_cases h0:Zv ks x=0
 ·rw [h0,Xt]
 ·rw [Ys h0]
theorem Alg{α :Type}{l:List α}{L:Nat}(h:l.length≤maxLen)(hL:maxLen < L):l.length < L+24:=Nat.lt_of_lt_of_le (Nat.lt_of_le_of_lt h hL) (Nat.le_add_right L 24)
theorem Bia(L:Nat)(s:Aa)(h:SG s)(hL:maxLen < L):Out (f7 L s.Vars s) (Qg 32 (fun x:Ah=>x.Name) Zf [] s.Vars):=
 Yp (lq:=N8 L s.Vars s) (bd:=fun x ks vs=>Mu L x s ks vs x) (fun _ _ _ _=>rfl) (fun _ _ _ _ _ _=>rfl) 32 s.Vars 0 [] _
  (Apc L s.Vars s (L+24) h.ln.1 (Alg h.ln.1 hL) 0 [] []) fun x hx ks=>Bvu L s x (h.vars x hx) hL ks
theorem Bnd(L:Nat)(s:Aa)(h:SG s)(hL:maxLen < L)(ks:List ByteArray):Out (i8 L s.Resources s ks (tr ks)) (Qg 32 (fun x:Ai=>x.Name) (Bg4 s) ks s.Resources):=
 Yp (lq:=N9 L s.Resources s) (bd:=fun x ks vs=>Mv L x s ks vs x) (fun _ _ _ _=>rfl) (fun _ _ _ _ _ _=>rfl) 32 s.Resources 0 ks _
  (Apd L s.Resources s (L+24) h.ln.2.1 (Alg h.ln.2.1 hL) 0 ks _) fun x hx ks=>Bva L s h x hx hL ks
theorem A56(L:Nat)(s:Aa)(h:SG s)(hL:maxLen < L)(ks:List ByteArray):Out (j3 L s.Stores s ks (tr ks)) (Qg 32 (fun x:Am=>x.Name) Avh ks s.Stores):=
 Yp (lq:=Oa L s.Stores s) (bd:=fun x ks vs=>Mw L x s ks vs x) (fun _ _ _ _=>rfl) (fun _ _ _ _ _ _=>rfl) 32 s.Stores 0 ks _
  (Ape L s.Stores s (L+24) h.ln.2.2.1 (Alg h.ln.2.2.1 hL) 0 ks _) fun x hx ks=>Bh0 L s x (h.stores x hx) hL ks
theorem Bbq(L:Nat)(s:Aa)(h:SG s)(hL:maxLen < L)(ks:List ByteArray):Out (j5 L s.Belts s ks (tr ks)) (Qg 32 (fun x:Aq=>x.Name) A0z ks s.Belts):=
 Yp (lq:=Ob L s.Belts s) (bd:=fun x ks vs=>Mx L x s ks vs x) (fun _ _ _ _=>rfl) (fun _ _ _ _ _ _=>rfl) 32 s.Belts 0 ks _
  (Apf L s.Belts s (L+24) h.ln.2.2.2.1 (Alg h.ln.2.2.2.1 hL) 0 ks _) fun x hx ks=>Bi3 L s x (h.belts x hx) hL ks
theorem Afa(L:Nat)(s:Aa)(l:List ByteArray)(h1:l.length≤maxLen)(h2:∀x∈l,okS x)(hL:maxLen < L)(ks:List ByteArray):Out (Jx L l s ks (tr ks)) (txE ks l):=
 Yp (lq:=Oc L l s) (bd:=fun x ks vs=>My L x s ks vs) (fun _ _ _ _=>rfl) (fun _ _ _ _ _ _=>rfl) 32 l 0 ks _
  (Apg L l s (L+24) h1 (Alg h1 hL) 0 ks _) fun x hx ks=>Bnx L s x (h2 x hx) hL ks
theorem Bcm(L:Nat)(s:Aa)(h:SG s)(hL:Xd≤L)(ks:List ByteArray):Out (j7 L s.Routines s ks (tr ks)) (Qg 16 (fun x:Ak=>x.Name) Axs ks s.Routines):=
 Yp (lq:=Od L s.Routines s) (bd:=fun x ks vs=>Mz L x s ks vs x) (fun _ _ _ _=>rfl) (fun _ _ _ _ _ _=>rfl) 16 s.Routines 0 ks _
  (Aph L s.Routines s (L+24) h.ln.2.2.2.2.2.2.2.2.2 (Alg h.ln.2.2.2.2.2.2.2.2.2 (Yl hL)) 0 ks _) fun x hx ks=>Bne L s h x hx hL ks
theorem Arv(L:Nat)(s:Aa)(h:SG s)(hL:maxLen < L)(a:List ByteArray)(b:List Bool):j9 L s.Starts s a b=some (Asx s):=
 A6u (lq:=Oe L s.Starts s a b) (bd:=Sv L s) (fun _ _=>rfl) (fun _ _ _ _=>rfl) 32 s.Starts 0 _ (Api L s.Starts s a b (L+24) h.starts.1 (Alg h.starts.1 hL) 0) fun x hx=>
  Auf L s x h.ln.2.2.2.2.2.2.2.2.2 ((h.starts.2 x hx).2.1.1) hL
theorem Bht(tm:Aa→Aw→Int)(s:Aa):An7 tm s=fE (A4k s).1 (fE (Asx s) (Qg 32 (fun l:A9=>l.Name) (Azx (tm s)) [] s.Laws).1):=rfl
theorem Aly(L:Nat)(s:Aa)(h:SG s)(hL:Xd≤L):Gl (An7 Wh s) (Wo L s):=by
 have hl:=Yl hL
 have g:∀a b:Int,a < b→((a < b)=True):=fun a b h=>eq_true h
 have e0:∀n:Int,0≤n→((0≤n)=True):=fun n h=>eq_true h
 simp only [Wo,Ag6,s7,m0,s8,m4,s9,m6,t5,m8,t6,n5,t7,n6,Zi,Y7,Zj,Y8,Zk,Y9,Zl,Zb,Zm,Th,aN,aB]
 repeat rw [ifp (by decide)]
 rw [Bht,A4k]
 simp only [A58]
 refine Aob (Bia L s h hl) (fun _ _ _ h=>nzE h _ _ _) fun ks=> ?_
 simp only [bne_self_eq_false,cond_false]
 repeat rw [ifp (by decide)]
 refine Aob (Bnd L s h hl ks) (fun _ _ _ h=>nzE h _ _ _) fun ks=> ?_
 simp only [bne_self_eq_false,cond_false]
 repeat rw [ifp (by decide)]
 refine Aob (A56 L s h hl ks) (fun _ _ _ h=>nzE h _ _ _) fun ks=> ?_
 simp only [bne_self_eq_false,cond_false]
 repeat rw [ifp (by decide)]
 refine Aob (Bbq L s h hl ks) (fun _ _ _ h=>nzE h _ _ _) fun ks=> ?_
 simp only [bne_self_eq_false,cond_false]
 repeat rw [ifp (by decide)]
 refine Aob (Afa L s s.Queues h.ln.2.2.2.2.1 h.queues hl ks) (fun _ _ _ h=>nzE h _ _ _) fun ks=> ?_
 simp only [bne_self_eq_false,cond_false]
 repeat rw [ifp (by decide)]
 refine Aob (Afa L s s.Streams h.ln.2.2.2.2.2.1 h.streams hl ks) (fun _ _ _ h=>nzE h _ _ _) fun ks=> ?_
 simp only [bne_self_eq_false,cond_false]
 repeat rw [ifp (by decide)]
 refine Aob (Afa L s s.Tallies h.ln.2.2.2.2.2.2.1 h.tallies hl ks) (fun _ _ _ h=>nzE h _ _ _) fun ks=> ?_
 simp only [bne_self_eq_false,cond_false]
 repeat rw [ifp (by decide)]
 refine Aob (Afa L s s.Levels h.ln.2.2.2.2.2.2.2.1 h.levels hl ks) (fun _ _ _ h=>nzE h _ _ _) fun ks=> ?_
 simp only [bne_self_eq_false,cond_false]
 repeat rw [ifp (by decide)]
 refine Aob (Afa L s s.Counts h.ln.2.2.2.2.2.2.2.2.1 h.counts hl ks) (fun _ _ _ h=>nzE h _ _ _) fun ks=> ?_
 simp only [bne_self_eq_false,cond_false]
 repeat rw [ifp (by decide)]
 refine B17 (Bcm L s h hL ks) (fun _ _ _ h=>nzE h _ _ _) fun ks=> ?_
 simp only [bne_self_eq_false,cond_false]
 repeat rw [ifp (by decide)]
 rw [Arv L s h hl,Option.bind_some]
 by_cases h1:Asx s=0
 ·simp only [h1,bne_self_eq_false,cond_false,Xt]
  repeat rw [ifp (by decide)]
  rw [Av9 L s h hl,Option.bind_some]
  by_cases h2:(Qg 32 (fun l:A9=>l.Name) (Azx (Wh s)) [] s.Laws).1=0
  ·simp only [h2,bne_self_eq_false,cond_false];exact ⟨_,_,rfl⟩
  ·simp only [Zn h2,cond_true];exact ⟨_,_,rfl⟩
 ·simp only [Zn h1,cond_true,Ys h1];exact ⟨_,_,rfl⟩
theorem Awa(L:Nat)(s:Aa)(h:SG s)(hL:Xd≤L):Abm L s=some (An7 Wh s):=by
 obtain ⟨a,b,e⟩:=Aly L s h hL
 simp only [Amj,Pq,Abm,Pq,aN,aB,e,Option.bind_some]
def Awl(l:List Be):List Bk:=l.map fun x=>(⟨x.From,x.To⟩:Bk)
def Bvm(seen:List Be)(x:Be):Bool:=seen.any fun y=>decide (y.From=x.From) && decide (y.To=x.To)
theorem Bgk(m:Ad)(seen:List Be)(l:Be):A2v m seen l=if (m.Sites.any (fun d=>decide (d.Name=l.From)) && m.Sites.any (fun d=>decide (d.Name=l.To)))=false then 5
 else if l.From=l.To then 1 else if Bx 1 1000000000 l.Delay=false then 2 else unl (!Bvm seen l) 4:=rfl
theorem Bn0(seen:List Be)(x:Be):((Awl seen).any fun b=>x.From == b.a0 && x.To == b.a1)=Bvm seen x:=by
 unfold Awl Bvm
 rw [List.any_map]
 congr 1
 funext y
 show (x.From == y.From && x.To == y.To)=_
 rw [Ay1,Ay1]
theorem Bhu(m:Ad)(n:ByteArray):decide (A3g m n < 0)= !m.Sites.any fun d=>decide (d.Name=n):=by
 unfold A3g
 rw [Air]
 cases h:m.Sites.findIdx? fun d=>decide (d.Name=n) with
 |none=>rw [Atw h];rfl
 |some i=>rw [Aoq h];rfl
theorem Bmd(L:Nat)(m:Ad)(x:Be)(hm:m.Sites.length≤maxLen)(hL:maxLen < L)(seen:List Be):
  ∃ks',Qi L x m (Awl seen) (tr (Awl seen)) x=some (A2v m seen x,ks',tr ks')∧(A2v m seen x=0→ks'=Awl (seen++ [x])):=by
 simp only [Qi,Z2,aN,aB,Akq L m _ hm hL,Hs,Option.bind_some,Bhu,I2,Ot,Xo,Bgk]
 rw [←Bn0]
 cases m.Sites.any (fun d=>decide (d.Name=x.From)) with
 |false=>exact ⟨_,rfl,fun h=>absurd (show (5:Int)=0 from h) (by decide)⟩
 |true=>
  cases m.Sites.any (fun d=>decide (d.Name=x.To)) with
  |false=>exact ⟨_,rfl,fun h=>absurd (show (5:Int)=0 from h) (by decide)⟩
  |true=>
   simp only [Bool.not_true,Bool.or_self,cond_false,Bool.and_self,Bool.true_eq_false,if_false]
   by_cases h1:x.From=x.To
   ·rw [decide_eq_true h1,if_pos h1];exact ⟨_,rfl,fun h=>absurd (show (1:Int)=0 from h) (by decide)⟩
   ·rw [decide_eq_false h1,if_neg h1,cond_false]
    cases Bx 1 1000000000 x.Delay with
    |false=>exact ⟨_,rfl,fun h=>absurd (show (2:Int)=0 from h) (by decide)⟩
    |true=>
     simp only [Bool.not_true,cond_false,Bool.true_eq_false,if_false]
     cases hf:(Awl seen).findIdx? fun b=>x.From == b.a0 && x.To == b.a1 with
     |some i=>
      rw [Aoq hf]
      obtain ⟨h3,_⟩:=List.findIdx?_eq_some_iff_getElem.1 hf
      simp only [fko,Bh7 h3]
      exact ⟨_,rfl,fun h=>absurd (show (4:Int)=0 from h) (by decide)⟩
     |none=>
      rw [Atw hf]
      simp only [fko]
      rw [Bbg (Awl seen) (⟨x.From,x.To⟩:Bk)]
      exact ⟨_,rfl,fun _=>by unfold Awl;rw [List.map_append];rfl⟩
theorem Ar1(L:Nat)(l:List Be)(m:Ad)(hm:m.Sites.length≤maxLen)(hL:maxLen < L):∀(k:List Be) (i:Nat) (v:Int) (seen:List Be),
  ∃j a b,Ia L l m k i v (Awl seen) (tr (Awl seen))=some (if Ao3 m seen k=0 then (1,(v,(j,a,b))) else (0,(Ao3 m seen k,(j,a,b)))):=by
 intro k
 induction k with
 |nil=>intro i v seen;exact ⟨i,_,_,rfl⟩
 |cons x k ih=>
  intro i v seen
  obtain ⟨ks',he,hk⟩:=Bmd L m x hm hL seen
  rw [Ia,he,Option.bind_some,Ao3]
  by_cases h0:A2v m seen x=0
  ·have:=hk h0;subst this
   obtain ⟨j,a,b,hj⟩:=ih (i+1) v (seen++ [x])
   rw [h0,Xt]
   exact ⟨j,a,b,hj⟩
  ·rw [Ys h0]
   exact ⟨i,ks',tr ks',by simp only [Zn h0,cond_true,if_neg h0]⟩
theorem Aud(L:Nat)(m:Ad)(hm:m.Sites.length≤maxLen)(hl:m.Links.length≤maxLen)(hL:maxLen < L):u4 L m=some (A41 m):=by
 have e32:decide ((m.Links.length:Int) > 32)=decide (32 < m.Links.length):=gtN _ 32
 obtain ⟨j,a,b,hj⟩:=Ar1 L m.Links m hm hL m.Links 0 0 []
 have hj':Ia L m.Links m m.Links 0 0 [] []=_:=hj
 simp only [Akd,Qw,u4,Qw,Z9,Aej,r0,U4,aN,aB,e32,Anh L m.Links m L hl (Nat.lt_of_le_of_lt hl hL),hj',Option.bind_some,A41]
 by_cases h:32 < m.Links.length
 ·rw [decide_eq_true h,if_pos h];rfl
 ·rw [decide_eq_false h,if_neg h,cond_false]
  by_cases h0:Ao3 m [] m.Links=0
  ·rw [if_pos h0,n8,h0];rfl
  ·rw [if_neg h0,Lx];rfl
structure MG (m:Ad):Prop where
 ok:Yb m
 bk:Hl m≤1048576
theorem MG.sites{m:Ad}(h:MG m):m.Sites.length≤maxLen:=h.ok.2.2.1.1
theorem MG.site{m:Ad}(h:MG m):∀d∈m.Sites,SG d:=fun d hd=>⟨h.ok.2.2.1.2 d hd,by have h1:=Ae9 (g:=C2) hd;have h2:=h.bk;unfold Hl at h2;omega⟩
theorem MG.links{m:Ad}(h:MG m):m.Links.length≤maxLen:=h.ok.2.2.2.1
theorem Bs5(L:Nat)(m:Ad)(x:Ah)(hx:On x)(hL:maxLen < L)(ks:List ByteArray):
  ∃ks',Mt L x m ks (tr ks) x=some (fE (Zv ks x.Name) (Zf x),ks',tr ks')∧(fE (Zv ks x.Name) (Zf x)=0→ks'=ks++ [x.Name]):=by
 refine ⟨nx ks x.Name,?_,Av3⟩
 have e:Z5 L x.Name m ks (tr ks) x x=some (Zv ks x.Name,nx ks x.Name,tr (nx ks x.Name)):=Adv L x.Name hx.1 hL ks
 simp only [Mt,Aeg,U1,aN,aB,e,Option.bind_some,Acm,Ad1,Ax8]
 by_cases h0:Zv ks x.Name=0
 ·simp only [h0,bne_self_eq_false,cond_false,Xt]
  cases N1 x.Type_<;>cases y6 x.Type_ x.N<;>rfl
 ·simp only [Zn h0,cond_true,Ys h0]
theorem Bnr(L:Nat)(m:Ad)(a:List ByteArray)(b:List Bool)(x:Aa)(hx:SG x)(hL:Xd≤L)(ks:List ByteArray):
  ∃ks',K2 L x m a b ks (tr ks) x=some (fE (Zv ks x.Name) (An7 Wh x),ks',tr ks')∧(fE (Zv ks x.Name) (An7 Wh x)=0→ks'=ks++ [x.Name]):=by
 have hn:okS x.Name:=by have:=hx.ok;unfold B6 at this;exact this.1
 refine ⟨nx ks x.Name,?_,Av3⟩
 have e:Yu L x.Name m a b ks (tr ks) x x=some (Zv ks x.Name,nx ks x.Name,tr (nx ks x.Name)):=Adv L x.Name hn (Yl hL) ks
 simp only [K2,Ac8,Te,aN,aB,e,Option.bind_some,Awa L x hx hL]
 by_cases h0:Zv ks x.Name=0
 ·simp only [h0,bne_self_eq_false,cond_false,Xt]
 ·simp only [Zn h0,cond_true,Ys h0]
theorem Auc(L:Nat)(m:Ad)(h:MG m)(hL:Xd≤L):u3 L m=some (Alq Wh m):=by
 have hl:=Yl hL
 have hp:=h.ok.2.1
 obtain ⟨a,b,e1⟩:=Out.e (Yp (nm:=fun x:Ah=>x.Name) (f:=Zf) (lq:=M3 L m.Params m) (bd:=fun x ks vs=>Mt L x m ks vs x) (fun _ _ _ _=>rfl) (fun _ _ _ _ _ _=>rfl) 32 m.Params 0 [] _
  (Anf L m.Params m L hp.1 (Nat.lt_of_le_of_lt hp.1 hl) 0 [] []) fun x hx ks=>Bs5 L m x (hp.2 x hx) hl ks)
 have e1':Z4 L m.Params m=some ((Qg 32 (fun x:Ah=>x.Name) Zf [] m.Params).1,a,b):=e1
 obtain ⟨c,d,e2⟩:=Out.e (Yp (nm:=fun x:Aa=>x.Name) (f:=An7 Wh) (lq:=M4 L m.Sites m a b) (bd:=fun x ks vs=>K2 L x m a b ks vs x) (fun _ _ _ _=>rfl) (fun _ _ _ _ _ _=>rfl) 16 m.Sites 0 [] _
  (Ang L m.Sites m a b L h.sites (Nat.lt_of_le_of_lt h.sites hl) 0 [] []) fun x hx ks=>Bnr L m a b x (h.site x hx) hL ks)
 have e2':Z6 L m.Sites m a b=some ((Qg 16 (fun x:Aa=>x.Name) (An7 Wh) [] m.Sites).1,c,d):=e2
 simp only [Akc,Vk,U2,Tp,O7,u3,Vk,U2,Tp,O7,aN,aB,T5 L m.Name h.ok.1 (Nat.lt_of_le_of_lt h.ok.1 hl),e1',e2',Aud L m h.sites h.links hl,Bgg,Option.bind_some]
 unfold Alq
 by_cases h0:V1 m.Name=0
 ·simp only [h0,bne_self_eq_false,cond_false,Xt]
  by_cases h1:(Qg 32 (fun x:Ah=>x.Name) Zf [] m.Params).1=0
  ·simp only [h1,bne_self_eq_false,cond_false,Xt]
   by_cases h2:m.Sites.length=0
   ·rw [decide_eq_true h2,decide_eq_false (show¬0 < m.Sites.length by omega)];rfl
   ·rw [decide_eq_false h2,decide_eq_true (show 0 < m.Sites.length by omega)]
    simp only [unl,cond_true,cond_false,Xt]
    by_cases h3:(Qg 16 (fun d:Aa=>d.Name) (An7 Wh) [] m.Sites).1=0
    ·simp only [h3,bne_self_eq_false,cond_false,Xt]
    ·simp only [Zn h3,cond_true,Ys h3]
  ·simp only [Zn h1,cond_true,Ys h1]
 ·simp only [Zn h0,cond_true,Ys h0]
end Go.Proofs.YtfencmicmnhglaaGreat.Ev
