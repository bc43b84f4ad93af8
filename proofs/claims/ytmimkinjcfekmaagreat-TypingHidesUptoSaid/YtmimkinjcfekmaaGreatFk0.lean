/-  What an operation reads and writes. -/
import Derived.Test.YtmimkinjcfekmaaGreatFj
namespace Go.Proofs.YtmimkinjcfekmaaGreat.Ev
open Go Go.RowKit
set_option linter.unusedVariables false
set_option linter.unusedSimpArgs false
set_option linter.unnecessarySimpa false
def aOf:Operand→Option Nat
 | .tmp a=>some a
 |_=>none
def At(p:PV)(b:Nat):Prop:=(∃off,p= .loc b off)∨∃sz i off,p= .el b sz i off
section
variable {P:Program} {C:Av} {X:Tc} {ban:List Nat}
theorem Hg.congr{f:Nat}{args:List PV}{ob ob':List (Nat×List PV)}{r:PV}{o':List (Nat×List PV)}(h:Hg P f args ob r o')(h1:∀d,Bp [] ob' d=Bp [] ob d)(h2:∀d,Ag d (ob'.map Prod.fst)=Ag d (ob.map Prod.fst)):
  Hg P f args ob' r o':=by
 intro κ H w0 w N M β O D vs hO hD hS hl hr
 refine Calls.mono (h H w0 w N M β O D vs (fun d=>by rw [hO,h1]) (fun d=>by rw [hD,h2]) hS hl hr) ?_
 rintro e w' ⟨v,M',β',he,hS'⟩
 refine ⟨v,M',β',he,?_⟩
 have e1:Bp [] (o'++ob')=Bp [] (o'++ob):=funext fun d=>by rw [Ik,Ik,h1]
 have e2:(fun d=>Ag d ((o'++ob').map Prod.fst))=fun d=>Ag d ((o'++ob).map Prod.fst):=funext fun d=>by rw [List.map_append,List.map_append,J9,J9,h2]
 rw [e1,e2];exact hS'
theorem Hg.norm{f:Nat}{args:List PV}{ob:List (Nat×List PV)}{r:PV}{o':List (Nat×List PV)}(h:Hg P f args ob r o'):Hg P f args ob r (Ml o'):=by
 intro κ H w0 w N M β O D vs hO hD hS hl hr
 refine Calls.mono (h H w0 w N M β O D vs hO hD hS hl hr) ?_
 rintro e w' ⟨v,M',β',he,hS'⟩
 refine ⟨v,M',β',he,?_⟩
 have e1:Bp [] (Ml o'++ob)=Bp [] (o'++ob):=funext fun d=>by rw [Ik,Ik,i4];simp only [V9]
 have e2:(fun d=>Ag d ((Ml o'++ob).map Prod.fst))=fun d=>Ag d ((o'++ob).map Prod.fst):=funext fun d=>by rw [List.map_append,List.map_append,J9,J9,Aao]
 rw [e1,e2];exact hS'
structure Aa8 (ban:List Nat) (o:K) (d:Option Nat) (st st':St):Prop where
 opd:∀x∈o.opds,st'.opd x=st.opd x
 obj:o.heapy=true→o.isLoad=false→∀b,(o.isStore=true∨Ag b ban=true)→(∀a,o.addr=some a→At (st.get a) b)→st'.obj b=st.obj b
 vob:o.isLoad=true→∀b,Ag b ban=true→(∀a,o.addr=some a→At (st.get a) b)→st'.vobj b=st.vobj b
 key:o.makes=true→∀s,d=some s→Ag (st.base+s) (st.ob.map Prod.fst)=true→Ag (st.base+s) (st'.ob.map Prod.fst)=true
 sel:∀o',o= .scal o'→∀cs b,o'.op≠ .select cs b
 base:st'.base=st.base
 wild:o.wild=true→(∀b,st'.obj b=st.obj b)∧∀b,Ag b (st'.ob.map Prod.fst)=Ag b (st.ob.map Prod.fst)
theorem Yi{st st':St} :∀(ps:List (Nat×Nat×Operand)) (cells:List PV) (k:List PV→Prop),(∀x∈ps.map (fun p=>p.2.2),st'.opd x=st.opd x)→Oo st cells ps k→Oo st' cells ps k:=by
 intro ps
 induction ps with
 |nil=>intro cells k _ h;exact h
 |cons p ps ih=>
  obtain ⟨off,sz,x⟩:=p
  intro cells k hx h
  have h1:st'.opd x=st.opd x:=hx x (by simp)
  simp only [Oo] at h ⊢
  rw [h1]
  cases g1:Ir (st.opd x).cells sz<;>cases g2:Jt (st.opd x).cells<;>cases g3:G5 cells (off+sz)<;>simp only [g1,g2,g3] at h ⊢ <;>first
   |exact h.elim
   |exact ih _ _ (fun y hy=>hx y (by simp only [List.map_cons];exact List.mem_cons_of_mem _ hy)) h
theorem Yb{st st':St}(sz:Nat):∀(ps:List Operand) (k:List (List PV)→Prop),(∀x∈ps,st'.opd x=st.opd x)→Ng st sz ps k→Ng st' sz ps k:=by
 intro ps
 induction ps with
 |nil=>intro k _ h;exact h
 |cons x ps ih=>
  intro k hx h
  have h1:st'.opd x=st.opd x:=hx x (by simp)
  simp only [Ng] at h ⊢
  rw [h1]
  cases g1:Ir (st.opd x).cells sz<;>cases g2:Jt (st.opd x).cells<;>simp only [g1,g2] at h ⊢ <;>first
   |exact h.elim
   |exact ih _ (fun y hy=>hx y (List.mem_cons_of_mem _ hy)) h
theorem Ws{st st':St} :∀(l:List Operand),(∀x∈l,st'.opd x=st.opd x)→K7 st' l=K7 st l:=by
 intro l
 induction l with
 |nil=>intro _;rfl
 |cons x l ih=>
  intro h
  simp only [K7]
  rw [h x (by simp),ih (fun y hy=>h y (List.mem_cons_of_mem _ hy))]
theorem W8{st st':St} :∀(l:List Operand),(∀x∈l,st'.opd x=st.opd x)→Jq st' ban l=Jq st ban l:=by
 intro l
 induction l with
 |nil=>intro _;rfl
 |cons x l ih=>
  intro h
  have h1:=ih (fun y hy=>h y (List.mem_cons_of_mem _ hy))
  cases ban with
  |nil=>rfl
  |cons c r=>
   simp only [Jq]
   rw [h x (by simp)]
   cases hq:st.opd x<;>first|exact h1|(simp only [h1])
theorem f9{st:St} :∀(l:List Operand),Jq st ban l=true→∀x∈l,∀b off,st.opd x= .loc b off→Ag b ban=true:=by
 intro l
 induction l with
 |nil=>intro _ x hx;cases hx
 |cons y l ih=>
  intro h x hx b off hb
  cases hban:ban with
  |nil=>rfl
  |cons c r=>
   rw [hban] at h
   simp only [Jq] at h
   rcases List.mem_cons.1 hx with e|e
   ·subst e
    rw [hb] at h
    simp only at h
    cases g:Ag b (c::r) with
    |true=>rfl
    |false=>rw [g] at h;cases h
   ·have hl:Jq st (c::r) l=true:=by
     cases hy:st.opd y with
     |loc b' off'=>
      rw [hy] at h
      simp only at h
      cases g:Ag b' (c::r) with
      |true=>rw [g] at h;exact h
      |false=>rw [g] at h;cases h
     |_=>rw [hy] at h;exact h
    rw [←hban] at hl ⊢
    exact ih hl x e b off hb
theorem Ld{st st':St}{d:Int}{x:Option Operand}(h:∀y∈i6 x,st'.opd y=st.opd y):st'.bnd d x=st.bnd d x:=by
 cases x with
 |none=>rfl
 |some y=>simp only [St.bnd];rw [h y (by simp [i6])]
theorem Ke{st:St}{x:Operand}{b off:Nat}(hq:st.opd x= .loc b off){o:K}(ho:o.addr=aOf x):∀a,o.addr=some a→At (st.get a) b:=by
 intro a ha
 cases x with
 |tmp t=>rw [ho] at ha;injection ha with ha;subst ha;exact .inl ⟨off,hq⟩
 |_=>rw [ho] at ha;cases ha
theorem P3{st:St}{x:Operand}{b sz i off:Nat}(hq:st.opd x= .el b sz i off){o:K}(ho:o.addr=aOf x):∀a,o.addr=some a→At (st.get a) b:=by
 intro a ha
 cases x with
 |tmp t=>rw [ho] at ha;injection ha with ha;subst ha;exact .inr ⟨sz,i,off,hq⟩
 |_=>rw [ho] at ha;cases ha
theorem m5(p:PV):p.view.pure0=p.pure0:=by cases p<;>rfl
theorem Po:∀l:List PV,Dg (l.map PV.view)=Dg l
 | []=>rfl
 |p::l=>by
  have:=Po l
  cases p<;>first|exact this|rfl
theorem Aa0{O O':Nat→List PV}{b off:Nat}(h:(O' b).map PV.view=(O b).map PV.view):U0 O' (.loc b off)=U0 O (.loc b off):=by
 have e:∀l:List PV,((l.map PV.view).map PV.pure0)=l.map PV.pure0:=fun l=>by
  rw [List.map_map];exact List.map_congr_left fun p _=>m5 p
 have d:((O' b).drop off).map PV.view=((O b).drop off).map PV.view:=by rw [List.map_drop,List.map_drop,h]
 have h1:Dg ((O' b).drop off)=Dg ((O b).drop off):=by rw [←Po,d,Po]
 have h2:((O' b).drop off).map PV.pure0=((O b).drop off).map PV.pure0:=by rw [←e,d,e]
 simp only [U0,h1,h2]
theorem Mg{o:K}{d:Option Nat}{st st':St}(hA:Aa8 ban o d st st'){k:Ap→Prop}(h:Ad P (Cv P) (Cs P) ban o d st k):Ad P (Cv P) (Cs P) ban o d st' k:=by
 have ad:∀(x:Operand) (o:K),(o= .loadT x∨(∃g sz,o= .load g sz x)∨(∃sz y,o= .store sz x y)∨∃s,o= .storeT x s)→o.addr=aOf x:=by
  intro x o ho
  rcases ho with rfl|⟨g,sz,rfl⟩|⟨sz,y,rfl⟩|⟨s,rfl⟩<;>cases x<;>rfl
 cases o with
 |move x=>simp only [Ad,Ac] at h ⊢;rw [hA.opd x (by simp [K.opds])];exact h
 |nilsl e=>exact h
 |take s=>
  simp only [Ad,Ac] at h ⊢
  have:st'.get s=st.get s:=hA.opd (.tmp s) (by simp [K.opds])
  rw [this];exact h
 |pick c x y=>
  simp only [Ad,Ac] at h ⊢
  rw [hA.opd c (by simp [K.opds]),hA.opd x (by simp [K.opds]),hA.opd y (by simp [K.opds])];exact h
 |alloc z=>
  simp only [Ad,Ac] at h ⊢
  cases d with
  |none=>exact h
  |some s=>
   simp only at h ⊢
   rw [hA.base]
   cases g1:Ag (st.base+s) (st.ob.map Prod.fst) with
   |false=>rw [g1] at h;exact h.elim
   |true=>rw [g1] at h;rw [hA.key rfl s rfl g1];exact h
 |box x=>
  simp only [Ad,Ac] at h ⊢
  rw [hA.opd x (by simp [K.opds])]
  cases d with
  |none=>exact h
  |some s=>
   simp only at h ⊢
   rw [hA.base]
   cases g1:Ag (st.base+s) (st.ob.map Prod.fst) with
   |false=>rw [g1] at h;exact h.elim
   |true=>rw [g1] at h;rw [hA.key rfl s rfl g1];exact h
 |build z parts=>simp only [Ad,Ac] at h ⊢;exact Yi _ _ _ (fun x hx=>hA.opd x hx) h
 |bslice e sz parts=>simp only [Ad,Ac] at h ⊢;exact Yb _ _ _ (fun x hx=>hA.opd x hx) h
 |load g sz x=>
  simp only [Ad,Ac] at h ⊢
  rw [hA.opd x (by simp [K.opds])]
  cases hq:st.opd x with
  |loc b off=>
   rw [hq] at h
   simp only at h ⊢
   cases g1:Ag b ban with
   |false=>rw [g1] at h;exact h.elim
   |true=>rw [g1] at h;rw [hA.vob rfl b g1 (Ke hq (ad x _ (.inr (.inl ⟨_,_,rfl⟩))))];exact h
  |el b sz' i off=>
   rw [hq] at h
   simp only at h ⊢
   cases g1:Ag b ban with
   |false=>rw [g1] at h;exact h.elim
   |true=>rw [g1] at h;rw [hA.vob rfl b g1 (P3 hq (ad x _ (.inr (.inl ⟨_,_,rfl⟩))))];exact h
  |_=>rw [hq] at h;exact h
 |loadT x=>
  simp only [Ad,Ac] at h ⊢
  rw [hA.opd x (by simp [K.opds])]
  cases hq:st.opd x with
  |loc b off=>
   rw [hq] at h
   cases d with
   |none=>exact h
   |some d=>
    dsimp only at h ⊢
    rw [hA.obj rfl rfl b (.inl rfl) (Ke hq (ad x _ (.inl rfl)))];exact h
  |_=>rw [hq] at h;exact h
 |store sz x y=>
  simp only [Ad,Ac] at h ⊢
  rw [hA.opd x (by simp [K.opds]),hA.opd y (by simp [K.opds])]
  cases hq:st.opd x with
  |loc b off=>
   rw [hq] at h
   dsimp only at h ⊢
   rw [hA.obj rfl rfl b (.inl rfl) (Ke hq (ad x _ (.inr (.inr (.inl ⟨_,_,rfl⟩)))))];exact h
  |el b sz' i off=>
   rw [hq] at h
   simp only at h ⊢
   rw [hA.obj rfl rfl b (.inl rfl) (P3 hq (ad x _ (.inr (.inr (.inl ⟨_,_,rfl⟩)))))];exact h
  |_=>rw [hq] at h;exact h
 |storeT x s=>
  simp only [Ad,Ac] at h ⊢
  have hs:st'.get s=st.get s:=hA.opd (.tmp s) (by simp [K.opds])
  rw [hA.opd x (by simp [K.opds]),hs]
  cases hq:st.opd x with
  |loc b off=>
   rw [hq] at h
   dsimp only at h ⊢
   rw [hA.obj rfl rfl b (.inl rfl) (Ke hq (ad x _ (.inr (.inr (.inr ⟨_,rfl⟩)))))];exact h
  |el b sz' i off=>
   rw [hq] at h
   simp only at h ⊢
   rw [hA.obj rfl rfl b (.inl rfl) (P3 hq (ad x _ (.inr (.inr (.inr ⟨_,rfl⟩)))))];exact h
  |_=>rw [hq] at h;exact h
 |scal o=>
  simp only [Ad,Wh] at h ⊢
  rw [Ws o.op.operands.toList (fun x hx=>hA.opd x hx)]
  have:execOp st'.valOf o=execOp st.valOf o:=execOp_congr o (hA.sel o rfl) (fun x hx=>by
   have:=hA.opd x (by simpa [K.opds] using hx)
   simp only [St.valOf,this])
  rw [this];exact h
 |bin2 tag x y=>simp only [Ad,Ac,Rq] at h ⊢;rw [hA.opd x (by simp [K.opds]),hA.opd y (by simp [K.opds])];exact h
 |eqA neg ts x y=>simp only [Ad,Ac] at h ⊢;rw [hA.opd x (by simp [K.opds]),hA.opd y (by simp [K.opds])];exact h
 |field off x=>simp only [Ad,Ac] at h ⊢;rw [hA.opd x (by simp [K.opds])];exact h
 |index sz x i=>simp only [Ad,Ac] at h ⊢;rw [hA.opd x (by simp [K.opds]),hA.opd i (by simp [K.opds])];exact h
 |len x=>simp only [Ad,Ac] at h ⊢;rw [hA.opd x (by simp [K.opds])];exact h
 |cap x=>simp only [Ad,Ac] at h ⊢;rw [hA.opd x (by simp [K.opds])];exact h
 |app e sz by_ s x=>
  simp only [Ad,Ac] at h ⊢
  have:st'.get s=st.get s:=hA.opd (.tmp s) (by simp [K.opds])
  rw [hA.opd x (by simp [K.opds]),this];exact h
 |clone cm e sz by_ s x=>
  simp only [Ad,Ac] at h ⊢
  have hs':st'.get s=st.get s:=hA.opd (.tmp s) (by simp [K.opds])
  rw [hA.opd x (by simp [K.opds]),hs',hA.base]
  cases d with
  |none=>exact h
  |some d=>
   cases hn:LX.nil e with
   |none=>rw [hn] at h;exact h
   |some n=>
    rw [hn] at h
    dsimp only at h ⊢
    cases g1:Ag (st.base+d) (st.ob.map Prod.fst) with
    |true=>rw [g1] at h;rw [hA.key rfl d rfl g1];exact h
    |false=>rw [g1] at h;exact h.elim
 |call f args=>
  simp only [Ad,Ac] at h ⊢
  rw [W8 args (fun x hx=>hA.opd x hx)]
  cases g1:Jq st ban args with
  |false=>rw [g1] at h;exact h.elim
  |true=>
   rw [g1] at h
   have:args.map (fun x=>U0 st'.obj (st'.opd x))=args.map (fun x=>U0 st.obj (st.opd x)):=by
    apply List.map_congr_left
    intro x hx
    rw [hA.opd x hx]
    cases hq:st.opd x with
    |loc b off=>exact Aa0 (hA.vob rfl b (f9 _ g1 x hx b off hq) (fun a ha=>by cases ha))
    |_=>rfl
   rw [this];exact h
 |icall f args=>
  simp only [Ad,Ac] at h ⊢
  obtain ⟨w1,w2⟩:=hA.wild rfl
  obtain ⟨hc,r,o',hI,hk⟩:=h
  have:args.map (fun x=>(st'.opd x).view)=args.map (fun x=>(st.opd x).view):=List.map_congr_left fun x hx=>by rw [hA.opd x hx]
  rw [this]
  exact ⟨hc,r,o',hI.congr w1 w2,hk⟩
 |callv x args=>
  simp only [Ad,Ac] at h ⊢
  obtain ⟨w1,w2⟩:=hA.wild rfl
  have:args.map (fun x=>(st'.opd x).view)=args.map (fun x=>(st.opd x).view):=List.map_congr_left fun y hy=>by rw [hA.opd y (by simp [K.opds,hy])]
  rw [this,hA.opd x (by simp [K.opds])]
  split at h
  ·obtain ⟨hc,r,o',hI,hk⟩:=h
   exact ⟨hc,r,o',hI.congr w1 w2,hk⟩
  ·exact h.elim
 |mkfn f n caps=>
  simp only [Ad,Ac] at h ⊢
  have:caps.map (fun x=>(st'.opd x).view)=caps.map (fun x=>(st.opd x).view):=List.map_congr_left fun x hx=>by rw [hA.opd x hx]
  rw [this];exact h
 |extract x i=>simp only [Ad,Ac] at h ⊢;rw [hA.opd x (by simp [K.opds])];exact h
 |nil x=>simp only [Ad,Ac] at h ⊢;rw [hA.opd x (by simp [K.opds])];exact h
 |mksl e sz by_ z n=>
  simp only [Ad,Ac] at h ⊢
  rw [hA.opd n (by simp [K.opds]),hA.base]
  cases d with
  |none=>exact h
  |some s=>
   cases g1:Ag (st.base+s) (st.ob.map Prod.fst) with
   |true=>
    have g2:=hA.key rfl s rfl g1
    split at h
    ·rename_i s' m hs hv
     injection hs with hs
     subst hs
     rw [g2]
     rw [g1] at h
     exact h
    ·exact h.elim
   |false=>
    split at h
    ·rename_i s' m hs hv
     injection hs with hs
     subst hs
     rw [g1] at h
     split at h
     ·split at h
      ·rename_i e _;cases e
      ·exact h.elim
     ·split at h
      ·rename_i e _;cases e
      ·exact h.elim
    ·exact h.elim
 |mkcap e sz by_ n=>simp only [Ad,Ac] at h ⊢;rw [hA.opd n (by simp [K.opds])];exact h
 |slc sz x lo hi mx=>
  simp only [Ad,Ac] at h ⊢
  have e1:∀d,st'.bnd d lo=st.bnd d lo:=fun d=>Ld fun y hy=>hA.opd y (by simp [K.opds,hy])
  have e2:∀d,st'.bnd d hi=st.bnd d hi:=fun d=>Ld fun y hy=>hA.opd y (by simp [K.opds,hy])
  have e3:∀d,st'.bnd d mx=st.bnd d mx:=fun d=>Ld fun y hy=>hA.opd y (by simp [K.opds,hy])
  rw [hA.opd x (by simp [K.opds])]
  simp only [e1,e2,e3];exact h
 |sstr x lo hi=>
  simp only [Ad,Ac] at h ⊢
  have e1:∀d,st'.bnd d lo=st.bnd d lo:=fun d=>Ld fun y hy=>hA.opd y (by simp [K.opds,hy])
  have e2:∀d,st'.bnd d hi=st.bnd d hi:=fun d=>Ld fun y hy=>hA.opd y (by simp [K.opds,hy])
  rw [hA.opd x (by simp [K.opds])]
  simp only [e1,e2];exact h
 |mkmap gk gv ks vs=>
  simp only [Ad,Ac] at h ⊢
  cases d with
  |none=>exact h
  |some s=>
   simp only at h ⊢
   rw [hA.base]
   cases g1:Ag (st.base+s) (st.ob.map Prod.fst) with
   |false=>rw [g1] at h;exact h.elim
   |true=>rw [g1] at h;rw [hA.key rfl s rfl g1];exact h
 |lookup gq ts ok g z m q=>
  simp only [Ad,Ac] at h ⊢
  rw [hA.opd m (by simp [K.opds]),hA.opd q (by simp [K.opds])]
  cases hq:st.opd m with
  |mp b=>
   rw [hq] at h
   simp only at h ⊢
   cases g1:Ag b ban with
   |false=>rw [g1] at h;exact h.elim
   |true=>rw [g1] at h;rw [hA.obj rfl rfl b (.inr g1) (fun a ha=>by cases ha)];exact h
  |_=>rw [hq] at h;exact h
 |mapup gq ts m q v=>
  simp only [Ad,Ac] at h ⊢
  rw [hA.opd m (by simp [K.opds]),hA.opd q (by simp [K.opds]),hA.opd v (by simp [K.opds])]
  cases hq:st.opd m with
  |mp b=>
   rw [hq] at h
   dsimp only at h ⊢
   rw [hA.obj rfl rfl b (.inl rfl) (fun a ha=>by cases ha)];exact h
  |_=>rw [hq] at h;exact h
 |del m q=>exact h
 |aidx off sz g x=>simp only [Ad,Ac] at h ⊢;rw [hA.opd x (by simp [K.opds])];exact h
 |stop=>exact h
def x0(o:K)(d:Option Nat)(st:St)(b:Nat):Prop:=(o.isStore=true∧∀a,o.addr=some a→At (st.get a) b)∨(o.makes=true∧∃s,d=some s∧b=st.base+s)
theorem Wj{o:K}{d:Option Nat}{st:St}{δ :Ap}(h:Ad P (Cv P) (Cs P) ban o d st (fun δ'=> δ'= δ)):
  (∀s∈δ.s.map Prod.fst,s∈B5.writes ⟨d,none,o⟩)∧(∀b∈δ.o.map Prod.fst,x0 o d st b):=by
 have put:∀(p:PV),dput d p= δ→(∀s∈δ.s.map Prod.fst,s∈B5.writes ⟨d,none,o⟩)∧(∀b∈δ.o.map Prod.fst,x0 o d st b):=by
  intro p e
  subst e
  cases d with
  |none=>exact ⟨fun s hs=>by simp [dput] at hs,fun b hb=>by simp [dput] at hb⟩
  |some x=>exact ⟨fun s hs=>by simp [dput] at hs;simp [B5.writes,hs],fun b hb=>by simp [dput] at hb⟩
 have ad:∀(x:Operand) (o:K),(o= .loadT x∨(∃g sz,o= .load g sz x)∨(∃sz y,o= .store sz x y)∨∃s,o= .storeT x s)→o.addr=aOf x:=by
  intro x o ho
  rcases ho with rfl|⟨g,sz,rfl⟩|⟨sz,y,rfl⟩|⟨s,rfl⟩<;>cases x<;>rfl
 cases o with
 |move x=>exact put _ h
 |nilsl e=>
  simp only [Ad,Ac] at h
  split at h
  ·subst h;exact ⟨fun y hy=>by simpa [B5.writes] using hy,fun b hb=>by simp at hb⟩
  ·exact h.elim
 |take s=>
  cases d with
  |none=>exact h.elim
  |some x=>subst h;exact ⟨fun y hy=>by simpa [B5.writes] using hy,fun b hb=>by simp at hb⟩
 |pick c x y=>
  simp only [Ad,Ac] at h
  split at h
  ·rename_i t _
   cases t<;>exact put _ h
  ·exact h.elim
 |alloc z=>
  simp only [Ad,Ac] at h
  cases d with
  |none=>exact h.elim
  |some s=>
   simp only at h
   split at h
   ·subst h
    exact ⟨fun y hy=>by simpa [B5.writes] using hy,fun b hb=>by simp at hb;subst hb;exact .inr ⟨rfl,s,rfl,rfl⟩⟩
   ·exact h.elim
 |box x=>
  simp only [Ad,Ac] at h
  cases d with
  |none=>exact h.elim
  |some s=>
   simp only at h
   split at h
   ·subst h
    exact ⟨fun y hy=>by simpa [B5.writes] using hy,fun b hb=>by simp at hb;subst hb;exact .inr ⟨rfl,s,rfl,rfl⟩⟩
   ·exact h.elim
 |build z parts=>
  simp only [Ad,Ac] at h
  obtain ⟨l,h1,_⟩:=T3 st _ _ _ h
  exact put _ h1
 |bslice e sz parts=>
  simp only [Ad,Ac] at h
  obtain ⟨l,h1,_⟩:=Tw st _ _ _ h
  split at h1
  ·split at h1
   ·exact put _ h1
   ·exact h1.elim
  ·exact put _ h1
 |load g sz x=>
  simp only [Ad,Ac] at h
  split at h
  ·split at h
   ·exact put _ h
   ·exact h.elim
  ·split at h
   ·exact put _ h
   ·exact h.elim
  ·split at h
   ·split at h
    ·exact put _ h
    ·exact h.elim
   ·exact h.elim
  ·exact h.elim
 |loadT x=>
  simp only [Ad,Ac] at h
  split at h
  ·rename_i b off d' hq
   split at h
   ·subst h
    exact ⟨fun y hy=>by simpa [B5.writes] using hy,fun b' hb=>by simp at hb;subst hb;exact .inl ⟨rfl,Ke hq (ad x _ (.inl rfl))⟩⟩
   ·exact h.elim
  ·exact h.elim
 |store sz x y=>
  simp only [Ad,Ac] at h
  split at h
  ·rename_i b off hq
   split at h
   ·subst h
    exact ⟨fun y hy=>by simp at hy,fun b' hb=>by simp at hb;subst hb;exact .inl ⟨rfl,Ke hq (ad x _ (.inr (.inr (.inl ⟨_,_,rfl⟩))))⟩⟩
   ·exact h.elim
  ·rename_i b sz' i off hq
   split at h
   ·split at h
    ·subst h
     exact ⟨fun y hy=>by simp at hy,fun b' hb=>by simp at hb;subst hb;exact .inl ⟨rfl,P3 hq (ad x _ (.inr (.inr (.inl ⟨_,_,rfl⟩))))⟩⟩
    ·exact h.elim
   ·exact h.elim
  ·exact h.elim
 |storeT x s=>
  simp only [Ad,Ac] at h
  split at h
  ·rename_i b off hq
   split at h
   ·subst h
    exact ⟨fun y hy=>by simp at hy;simp [B5.writes,hy],fun b' hb=>by simp at hb;subst hb;exact .inl ⟨rfl,Ke hq (ad x _ (.inr (.inr (.inr ⟨_,rfl⟩))))⟩⟩
   ·exact h.elim
  ·rename_i b sz' i off hq
   split at h
   ·split at h
    ·subst h
     exact ⟨fun y hy=>by simp at hy;simp [B5.writes,hy],fun b' hb=>by simp at hb;subst hb;exact .inl ⟨rfl,P3 hq (ad x _ (.inr (.inr (.inr ⟨_,rfl⟩))))⟩⟩
    ·exact h.elim
   ·exact h.elim
  ·exact h.elim
 |scal o=>
  simp only [Ad,Wh] at h
  cases g1:K7 st o.op.operands.toList with
  |false=>rw [g1] at h;exact h.elim
  |true=>
   rw [g1] at h
   obtain ⟨n,h1,_⟩:=Qy _ _ h
   cases n with
   |value v=>
    simp only at h1
    cases g2:Rx v with
    |false=>rw [g2] at h1;exact h1.elim
    |true=>rw [g2] at h1;exact put _ h1
   |_=>exact h1.elim
 |bin2 tag x y=>
  simp only [Ad,Ac] at h
  split at h
  ·split at h
   ·rename_i c r _
    cases c with
    |true=>exact put _ h
    |false=>exact h.elim
   ·exact h.elim
  ·unfold Rq at h
   split at h
   ·split at h
    ·simp only [Ac] at h
     exact put _ h.2
    ·simp only [Ac] at h
     exact put _ h.2
    ·exact h.elim
   ·exact h.elim
  ·exact h.elim
 |eqA neg ts x y=>
  simp only [Ad,Ac] at h
  split at h
  ·split at h
   ·cases neg<;>exact put _ h
   ·exact h.elim
  ·exact h.elim
 |field off x=>
  simp only [Ad,Ac] at h
  split at h<;>first|exact h.elim|exact put _ h
 |index sz x i=>
  simp only [Ad,Ac] at h
  split at h
  ·split at h<;>first|exact h.elim|exact put _ h.2.2
  ·split at h
   ·split at h
    ·exact put _ h.2.2
    ·exact h.elim
   ·exact h.elim
  ·exact h.elim
 |len x=>
  simp only [Ad,Ac] at h
  split at h
  ·exact put _ h
  ·exact put _ h
  ·split at h
   ·exact put _ h
   ·exact h.elim
 |cap x=>
  simp only [Ad,Ac] at h
  split at h
  ·exact put _ h
  ·exact h.elim
 |app e sz by_ s x=>
  simp only [Ad,Ac] at h
  cases d with
  |none=>exact h.elim
  |some d=>
   simp only at h
   split at h
   ·split at h
    ·have h':=h.2.2
     subst h'
     exact ⟨fun y hy=>by simpa [B5.writes] using hy,fun b hb=>by simp at hb⟩
    ·exact h.elim
   ·split at h
    ·subst h
     exact ⟨fun y hy=>by simpa [B5.writes] using hy,fun b hb=>by simp at hb⟩
    ·exact h.elim
   ·split at h
    ·have h':=h.2.2
     subst h'
     exact ⟨fun y hy=>by simp at hy;simp [B5.writes,hy],fun b hb=>by simp at hb⟩
    ·exact h.elim
   ·exact h.elim
 |clone cm e sz by_ s x=>
  simp only [Ad,Ac] at h
  split at h
  ·rename_i d n _
   split at h
   ·split at h
    ·rename_i own q _
     split at h
     ·cases hb:Nat.beq q.len 0 with
      |true=>
       rw [hb] at h
       have h':_= δ :=h
       subst h'
       exact ⟨fun y hy=>by simpa [B5.writes] using hy,fun b hb=>by simp at hb⟩
      |false=>
       rw [hb] at h
       have h':=h.2.2
       subst h'
       exact ⟨fun y hy=>by simpa [B5.writes] using hy,fun b hb=>by simp at hb;subst hb;exact .inr ⟨rfl,d,rfl,rfl⟩⟩
     ·exact h.elim
    ·exact h.elim
   ·exact h.elim
  ·exact h.elim
 |call f args=>
  simp only [Ad,Ac] at h
  split at h
  ·obtain ⟨r,_,h2⟩:=h;exact put _ h2
  ·exact h.elim
 |icall f args=>
  simp only [Ad,Ac] at h
  obtain ⟨_,r,o',_,h2⟩:=h
  refine ⟨fun s hs=> ?_,fun b _=> .inl ⟨rfl,fun a ha=>by cases ha⟩⟩
  have: δ.s=(dput d r).s:=by rw [←h2]
  rw [this] at hs
  cases d with
  |none=>simp [dput] at hs
  |some x=>simp [dput] at hs;simp [B5.writes,hs]
 |callv x args=>
  simp only [Ad,Ac] at h
  split at h
  ·obtain ⟨_,r,o',_,h2⟩:=h
   refine ⟨fun s hs=> ?_,fun b _=> .inl ⟨rfl,fun a ha=>by cases ha⟩⟩
   have: δ.s=(dput d r).s:=by rw [←h2]
   rw [this] at hs
   cases d with
   |none=>simp [dput] at hs
   |some x=>simp [dput] at hs;simp [B5.writes,hs]
  ·exact h.elim
 |mkfn f n caps=>exact put _ h
 |extract x i=>
  simp only [Ad,Ac] at h
  split at h
  ·split at h
   ·exact put _ h
   ·exact h.elim
  ·exact h.elim
 |nil x=>
  simp only [Ad,Ac] at h
  split at h<;>first|exact h.elim|exact put _ h
 |mksl e sz by_ z n=>
  simp only [Ad,Ac] at h
  split at h
  ·rename_i s m hv
   split at h
   ·split at h
    ·subst h
     exact ⟨fun y hy=>by simpa [B5.writes] using hy,fun b hb=>by simp at hb;subst hb;exact .inr ⟨rfl,s,rfl,rfl⟩⟩
    ·exact h.elim
   ·split at h
    ·split at h
     ·have h':=h.2.2.2
      subst h'
      exact ⟨fun y hy=>by simpa [B5.writes] using hy,fun b hb=>by simp at hb;subst hb;exact .inr ⟨rfl,s,rfl,rfl⟩⟩
     ·exact h.elim
    ·exact h.elim
  ·exact h.elim
 |mkcap e sz by_ n=>
  simp only [Ad,Ac] at h
  split at h
  ·split at h
   ·have h':=h.2.2.2
    subst h'
    exact ⟨fun y hy=>by simpa [B5.writes] using hy,fun b hb=>by simp at hb⟩
   ·exact h.elim
  ·exact h.elim
 |slc sz x lo hi mx=>
  simp only [Ad,Ac] at h
  split at h
  ·split at h
   ·split at h
    ·split at h
     ·exact put _ h.2.2.2.2
     ·exact h.elim
    ·exact h.elim
   ·exact h.elim
  ·exact h.elim
 |sstr x lo hi=>
  simp only [Ad,Ac] at h
  split at h
  ·split at h
   ·split at h
    ·exact put _ h.2.2.2
    ·exact h.elim
   ·exact h.elim
  ·exact h.elim
 |mkmap gk gv ks vs=>
  simp only [Ad,Ac] at h
  cases d with
  |none=>exact h.elim
  |some s=>
   simp only at h
   split at h
   ·subst h
    exact ⟨fun y hy=>by simpa [B5.writes] using hy,fun b hb=>by simp at hb;subst hb;exact .inr ⟨rfl,s,rfl,rfl⟩⟩
   ·exact h.elim
 |lookup gq ts ok g z m q=>
  simp only [Ad,Ac] at h
  split at h
  ·split at h
   ·split at h
    ·rename_i r _ _ _
     cases r<;>exact put _ h
    ·exact h.elim
   ·exact h.elim
  ·exact h.elim
 |mapup gq ts m q v=>
  have fin:∀(b:Nat) (l:List PV),(⟨[],[(b,l)]⟩:Ap)= δ→(∀s∈δ.s.map Prod.fst,s∈B5.writes ⟨d,none,.mapup gq ts m q v⟩)∧(∀b∈δ.o.map Prod.fst,x0 (.mapup gq ts m q v) d st b):=by
   intro b l e
   subst e
   exact ⟨fun y hy=>by simp at hy,fun b' hb=> .inl ⟨rfl,fun a ha=>by cases ha⟩⟩
  simp only [Ad,Ac] at h
  split at h
  ·split at h
   ·split at h
    ·rename_i r c _ _ _
     cases r with
     |none=>
      simp only [fk] at h
      split at h
      ·exact fin _ _ h
      ·exact h.elim
     |some i=>
      simp only [fk] at h
      split at h
      ·exact fin _ _ h
      ·exact h.elim
    ·exact h.elim
   ·exact h.elim
  ·exact h.elim
 |del m q=>exact h.elim
 |aidx off sz g x=>
  simp only [Ad,Ac] at h
  split at h
  ·split at h
   ·exact put _ h
   ·exact h.elim
  ·exact h.elim
 |stop=>exact h.elim
end
end Go.Proofs.YtmimkinjcfekmaaGreat.Ev
