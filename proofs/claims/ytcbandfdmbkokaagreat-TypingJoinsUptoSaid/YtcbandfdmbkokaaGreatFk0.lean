/-  What an operation reads and writes. -/
import Derived.Test.YtcbandfdmbkokaaGreatFj
namespace Go.Proofs.YtcbandfdmbkokaaGreat.Ev
open Go Go.RowKit
set_option linter.unusedVariables false
set_option linter.unusedSimpArgs false
set_option linter.unnecessarySimpa false
def aOf:Operand→Option Nat
 | .tmp a=>some a
 |_=>none
def At(p:PV)(b:Nat):Prop:=(∃off,p= .loc b off)∨∃sz i off,p= .el b sz i off
section
variable {P:Program} {C:Bi} {X:Inl} {ban:List Nat}
theorem Uj.congr{f:Nat}{args:List PV}{ob ob':List (Nat×List PV)}{r:PV}{o':List (Nat×List PV)}(h:Uj P f args ob r o')(h1:∀d,Hr [] ob' d=Hr [] ob d)(h2:∀d,B7 d (ob'.map Prod.fst)=B7 d (ob.map Prod.fst)):
  Uj P f args ob' r o':=by
 intro κ H w0 w N M β O D vs hO hD hS hl hr
 refine Calls.mono (h H w0 w N M β O D vs (fun d=>by rw [hO,h1]) (fun d=>by rw [hD,h2]) hS hl hr) ?_
 rintro e w' ⟨v,M',β',he,hS'⟩
 refine ⟨v,M',β',he,?_⟩
 have e1:Hr [] (o'++ob')=Hr [] (o'++ob):=funext fun d=>by rw [Va,Va,h1]
 have e2:(fun d=>B7 d ((o'++ob').map Prod.fst))=fun d=>B7 d ((o'++ob).map Prod.fst):=funext fun d=>by rw [List.map_append,List.map_append,X1,X1,h2]
 rw [e1,e2];exact hS'
theorem Uj.norm{f:Nat}{args:List PV}{ob:List (Nat×List PV)}{r:PV}{o':List (Nat×List PV)}(h:Uj P f args ob r o'):Uj P f args ob r (Aaa o'):=by
 intro κ H w0 w N M β O D vs hO hD hS hl hr
 refine Calls.mono (h H w0 w N M β O D vs hO hD hS hl hr) ?_
 rintro e w' ⟨v,M',β',he,hS'⟩
 refine ⟨v,M',β',he,?_⟩
 have e1:Hr [] (Aaa o'++ob)=Hr [] (o'++ob):=funext fun d=>by rw [Va,Va,Ayi];simp only [Aqa]
 have e2:(fun d=>B7 d ((Aaa o'++ob).map Prod.fst))=fun d=>B7 d ((o'++ob).map Prod.fst):=funext fun d=>by rw [List.map_append,List.map_append,X1,X1,A2b]
 rw [e1,e2];exact hS'
structure A2u (ban:List Nat) (o:K) (d:Option Nat) (st st':St):Prop where
 opd:∀x∈o.opds,st'.opd x=st.opd x
 obj:o.heapy=true→o.isLoad=false→∀b,(o.isStore=true∨B7 b ban=true)→(∀a,o.addr=some a→At (st.get a) b)→st'.obj b=st.obj b
 vob:o.isLoad=true→∀b,B7 b ban=true→(∀a,o.addr=some a→At (st.get a) b)→st'.vobj b=st.vobj b
 key:o.makes=true→∀s,d=some s→B7 (st.base+s) (st.ob.map Prod.fst)=true→B7 (st.base+s) (st'.ob.map Prod.fst)=true
 sel:∀o',o= .scal o'→∀cs b,o'.op≠ .select cs b
 base:st'.base=st.base
 wild:o.wild=true→(∀b,st'.obj b=st.obj b)∧∀b,B7 b (st'.ob.map Prod.fst)=B7 b (st.ob.map Prod.fst)
theorem Av8{st st':St} :∀(ps:List (Nat×Nat×Operand)) (cells:List PV) (k:List PV→Prop),(∀x∈ps.map (fun p=>p.2.2),st'.opd x=st.opd x)→Acx st cells ps k→Acx st' cells ps k:=by
 intro ps
 induction ps with
 |nil=>intro cells k _ h;exact h
 |cons p ps ih=>
  obtain ⟨off,sz,x⟩:=p
  intro cells k hx h
  have h1:st'.opd x=st.opd x:=hx x (by simp)
  simp only [Acx] at h ⊢
  rw [h1]
  cases g1:Wv (st.opd x).cells sz<;>cases g2:Xz (st.opd x).cells<;>cases g3:T4 cells (off+sz)<;>simp only [g1,g2,g3] at h ⊢ <;>first
   |exact h.elim
   |exact ih _ _ (fun y hy=>hx y (by simp only [List.map_cons];exact List.mem_cons_of_mem _ hy)) h
theorem Av2{st st':St}(sz:Nat):∀(ps:List Operand) (k:List (List PV)→Prop),(∀x∈ps,st'.opd x=st.opd x)→Aa6 st sz ps k→Aa6 st' sz ps k:=by
 intro ps
 induction ps with
 |nil=>intro k _ h;exact h
 |cons x ps ih=>
  intro k hx h
  have h1:st'.opd x=st.opd x:=hx x (by simp)
  simp only [Aa6] at h ⊢
  rw [h1]
  cases g1:Wv (st.opd x).cells sz<;>cases g2:Xz (st.opd x).cells<;>simp only [g1,g2] at h ⊢ <;>first
   |exact h.elim
   |exact ih _ (fun y hy=>hx y (List.mem_cons_of_mem _ hy)) h
theorem Ar2{st st':St} :∀(l:List Operand),(∀x∈l,st'.opd x=st.opd x)→Z0 st' l=Z0 st l:=by
 intro l
 induction l with
 |nil=>intro _;rfl
 |cons x l ih=>
  intro h
  simp only [Z0]
  rw [h x (by simp),ih (fun y hy=>h y (List.mem_cons_of_mem _ hy))]
theorem As8{st st':St} :∀(l:List Operand),(∀x∈l,st'.opd x=st.opd x)→W7 st' ban l=W7 st ban l:=by
 intro l
 induction l with
 |nil=>intro _;rfl
 |cons x l ih=>
  intro h
  have h1:=ih (fun y hy=>h y (List.mem_cons_of_mem _ hy))
  cases ban with
  |nil=>rfl
  |cons c r=>
   simp only [W7]
   rw [h x (by simp)]
   cases hq:st.opd x<;>first|exact h1|(simp only [h1])
theorem Ayh{st:St} :∀(l:List Operand),W7 st ban l=true→∀x∈l,∀b off,st.opd x= .loc b off→B7 b ban=true:=by
 intro l
 induction l with
 |nil=>intro _ x hx;cases hx
 |cons y l ih=>
  intro h x hx b off hb
  cases hban:ban with
  |nil=>rfl
  |cons c r=>
   rw [hban] at h
   simp only [W7] at h
   rcases List.mem_cons.1 hx with e|e
   ·subst e
    rw [hb] at h
    simp only at h
    cases g:B7 b (c::r) with
    |true=>rfl
    |false=>rw [g] at h;cases h
   ·have hl:W7 st (c::r) l=true:=by
     cases hy:st.opd y with
     |loc b' off'=>
      rw [hy] at h
      simp only at h
      cases g:B7 b' (c::r) with
      |true=>rw [g] at h;exact h
      |false=>rw [g] at h;cases h
     |_=>rw [hy] at h;exact h
    rw [←hban] at hl ⊢
    exact ih hl x e b off hb
theorem i8{st st':St}{d:Int}{x:Option Operand}(h:∀y∈Ayk x,st'.opd y=st.opd y):st'.bnd d x=st.bnd d x:=by
 cases x with
 |none=>rfl
 |some y=>simp only [St.bnd];rw [h y (by simp [Ayk])]
theorem Yc{st:St}{x:Operand}{b off:Nat}(hq:st.opd x= .loc b off){o:K}(ho:o.addr=aOf x):∀a,o.addr=some a→At (st.get a) b:=by
 intro a ha
 cases x with
 |tmp t=>rw [ho] at ha;injection ha with ha;subst ha;exact .inl ⟨off,hq⟩
 |_=>rw [ho] at ha;cases ha
theorem Aed{st:St}{x:Operand}{b sz i off:Nat}(hq:st.opd x= .el b sz i off){o:K}(ho:o.addr=aOf x):∀a,o.addr=some a→At (st.get a) b:=by
 intro a ha
 cases x with
 |tmp t=>rw [ho] at ha;injection ha with ha;subst ha;exact .inr ⟨sz,i,off,hq⟩
 |_=>rw [ho] at ha;cases ha
theorem w7{o:K}{d:Option Nat}{st st':St}(hA:A2u ban o d st st'){k:Cy→Prop}(h:Bv P (Mp P) (L3 P) ban o d st k):Bv P (Mp P) (L3 P) ban o d st' k:=by
 have ad:∀(x:Operand) (o:K),(o= .loadT x∨(∃g sz,o= .load g sz x)∨(∃sz y,o= .store sz x y)∨∃s,o= .storeT x s)→o.addr=aOf x:=by
  intro x o ho
  rcases ho with rfl|⟨g,sz,rfl⟩|⟨sz,y,rfl⟩|⟨s,rfl⟩<;>cases x<;>rfl
 cases o with
 |move x=>simp only [Bv,Bt] at h ⊢;rw [hA.opd x (by simp [K.opds])];exact h
 |nilsl e=>exact h
 |take s=>
  simp only [Bv,Bt] at h ⊢
  have:st'.get s=st.get s:=hA.opd (.tmp s) (by simp [K.opds])
  rw [this];exact h
 |pick c x y=>
  simp only [Bv,Bt] at h ⊢
  rw [hA.opd c (by simp [K.opds]),hA.opd x (by simp [K.opds]),hA.opd y (by simp [K.opds])];exact h
 |alloc z=>
  simp only [Bv,Bt] at h ⊢
  cases d with
  |none=>exact h
  |some s=>
   simp only at h ⊢
   rw [hA.base]
   cases g1:B7 (st.base+s) (st.ob.map Prod.fst) with
   |false=>rw [g1] at h;exact h.elim
   |true=>rw [g1] at h;rw [hA.key rfl s rfl g1];exact h
 |box x=>
  simp only [Bv,Bt] at h ⊢
  rw [hA.opd x (by simp [K.opds])]
  cases d with
  |none=>exact h
  |some s=>
   simp only at h ⊢
   rw [hA.base]
   cases g1:B7 (st.base+s) (st.ob.map Prod.fst) with
   |false=>rw [g1] at h;exact h.elim
   |true=>rw [g1] at h;rw [hA.key rfl s rfl g1];exact h
 |build z parts=>simp only [Bv,Bt] at h ⊢;exact Av8 _ _ _ (fun x hx=>hA.opd x hx) h
 |bslice e sz parts=>simp only [Bv,Bt] at h ⊢;exact Av2 _ _ _ (fun x hx=>hA.opd x hx) h
 |load g sz x=>
  simp only [Bv,Bt] at h ⊢
  rw [hA.opd x (by simp [K.opds])]
  cases hq:st.opd x with
  |loc b off=>
   rw [hq] at h
   simp only at h ⊢
   cases g1:B7 b ban with
   |false=>rw [g1] at h;exact h.elim
   |true=>rw [g1] at h;rw [hA.vob rfl b g1 (Yc hq (ad x _ (.inr (.inl ⟨_,_,rfl⟩))))];exact h
  |el b sz' i off=>
   rw [hq] at h
   simp only at h ⊢
   cases g1:B7 b ban with
   |false=>rw [g1] at h;exact h.elim
   |true=>rw [g1] at h;rw [hA.vob rfl b g1 (Aed hq (ad x _ (.inr (.inl ⟨_,_,rfl⟩))))];exact h
  |_=>rw [hq] at h;exact h
 |loadT x=>
  simp only [Bv,Bt] at h ⊢
  rw [hA.opd x (by simp [K.opds])]
  cases hq:st.opd x with
  |loc b off=>
   rw [hq] at h
   cases d with
   |none=>exact h
   |some d=>
    dsimp only at h ⊢
    rw [hA.obj rfl rfl b (.inl rfl) (Yc hq (ad x _ (.inl rfl)))];exact h
  |_=>rw [hq] at h;exact h
 |store sz x y=>
  simp only [Bv,Bt] at h ⊢
  rw [hA.opd x (by simp [K.opds]),hA.opd y (by simp [K.opds])]
  cases hq:st.opd x with
  |loc b off=>
   rw [hq] at h
   dsimp only at h ⊢
   rw [hA.obj rfl rfl b (.inl rfl) (Yc hq (ad x _ (.inr (.inr (.inl ⟨_,_,rfl⟩)))))];exact h
  |el b sz' i off=>
   rw [hq] at h
   simp only at h ⊢
   rw [hA.obj rfl rfl b (.inl rfl) (Aed hq (ad x _ (.inr (.inr (.inl ⟨_,_,rfl⟩)))))];exact h
  |_=>rw [hq] at h;exact h
 |storeT x s=>
  simp only [Bv,Bt] at h ⊢
  have hs:st'.get s=st.get s:=hA.opd (.tmp s) (by simp [K.opds])
  rw [hA.opd x (by simp [K.opds]),hs]
  cases hq:st.opd x with
  |loc b off=>
   rw [hq] at h
   dsimp only at h ⊢
   rw [hA.obj rfl rfl b (.inl rfl) (Yc hq (ad x _ (.inr (.inr (.inr ⟨_,rfl⟩)))))];exact h
  |el b sz' i off=>
   rw [hq] at h
   simp only at h ⊢
   rw [hA.obj rfl rfl b (.inl rfl) (Aed hq (ad x _ (.inr (.inr (.inr ⟨_,rfl⟩)))))];exact h
  |_=>rw [hq] at h;exact h
 |scal o=>
  simp only [Bv,Aqn] at h ⊢
  rw [Ar2 o.op.operands.toList (fun x hx=>hA.opd x hx)]
  have:execOp st'.valOf o=execOp st.valOf o:=execOp_congr o (hA.sel o rfl) (fun x hx=>by
   have:=hA.opd x (by simpa [K.opds] using hx)
   simp only [St.valOf,this])
  rw [this];exact h
 |bin2 tag x y=>simp only [Bv,Bt] at h ⊢;rw [hA.opd x (by simp [K.opds]),hA.opd y (by simp [K.opds])];exact h
 |eqA neg ts x y=>simp only [Bv,Bt] at h ⊢;rw [hA.opd x (by simp [K.opds]),hA.opd y (by simp [K.opds])];exact h
 |field off x=>simp only [Bv,Bt] at h ⊢;rw [hA.opd x (by simp [K.opds])];exact h
 |index sz x i=>simp only [Bv,Bt] at h ⊢;rw [hA.opd x (by simp [K.opds]),hA.opd i (by simp [K.opds])];exact h
 |len x=>simp only [Bv,Bt] at h ⊢;rw [hA.opd x (by simp [K.opds])];exact h
 |cap x=>simp only [Bv,Bt] at h ⊢;rw [hA.opd x (by simp [K.opds])];exact h
 |app e sz by_ s x=>
  simp only [Bv,Bt] at h ⊢
  have:st'.get s=st.get s:=hA.opd (.tmp s) (by simp [K.opds])
  rw [hA.opd x (by simp [K.opds]),this];exact h
 |call f args=>
  simp only [Bv,Bt] at h ⊢
  rw [As8 args (fun x hx=>hA.opd x hx)]
  cases g1:W7 st ban args with
  |false=>rw [g1] at h;exact h.elim
  |true=>
   rw [g1] at h
   have:args.map (fun x=>Aux st'.obj (st'.opd x))=args.map (fun x=>Aux st.obj (st.opd x)):=by
    apply List.map_congr_left
    intro x hx
    rw [hA.opd x hx]
    cases hq:st.opd x with
    |loc b off=>simp only [Aux];rw [hA.obj rfl rfl b (.inr (Ayh _ g1 x hx b off hq)) (fun a ha=>by cases ha)]
    |_=>rfl
   rw [this];exact h
 |icall f args=>
  simp only [Bv,Bt] at h ⊢
  obtain ⟨w1,w2⟩:=hA.wild rfl
  obtain ⟨hc,r,o',hI,hk⟩:=h
  have:args.map (fun x=>(st'.opd x).view)=args.map (fun x=>(st.opd x).view):=List.map_congr_left fun x hx=>by rw [hA.opd x hx]
  rw [this]
  exact ⟨hc,r,o',hI.congr w1 w2,hk⟩
 |callv x args=>
  simp only [Bv,Bt] at h ⊢
  obtain ⟨w1,w2⟩:=hA.wild rfl
  have:args.map (fun x=>(st'.opd x).view)=args.map (fun x=>(st.opd x).view):=List.map_congr_left fun y hy=>by rw [hA.opd y (by simp [K.opds,hy])]
  rw [this,hA.opd x (by simp [K.opds])]
  split at h
  ·obtain ⟨hc,r,o',hI,hk⟩:=h
   exact ⟨hc,r,o',hI.congr w1 w2,hk⟩
  ·exact h.elim
 |mkfn f n caps=>
  simp only [Bv,Bt] at h ⊢
  have:caps.map (fun x=>(st'.opd x).view)=caps.map (fun x=>(st.opd x).view):=List.map_congr_left fun x hx=>by rw [hA.opd x hx]
  rw [this];exact h
 |extract x i=>simp only [Bv,Bt] at h ⊢;rw [hA.opd x (by simp [K.opds])];exact h
 |nil x=>simp only [Bv,Bt] at h ⊢;rw [hA.opd x (by simp [K.opds])];exact h
 |mksl e sz by_ z n=>
  simp only [Bv,Bt] at h ⊢
  rw [hA.opd n (by simp [K.opds]),hA.base]
  cases d with
  |none=>exact h
  |some s=>
   cases g1:B7 (st.base+s) (st.ob.map Prod.fst) with
   |true=>
    have g2:=hA.key rfl s rfl g1
    split at h
    ·rename_i s' m hs hv
     injection hs with hs
     subst hs
     rw [g2]
     rw [g1] at h
     exact h
    ·exact h.elim
   |false=>
    split at h
    ·rename_i s' m hs hv
     injection hs with hs
     subst hs
     rw [g1] at h
     split at h
     ·split at h
      ·rename_i e _;cases e
      ·exact h.elim
     ·split at h
      ·rename_i e _;cases e
      ·exact h.elim
    ·exact h.elim
 |mkcap e sz by_ n=>simp only [Bv,Bt] at h ⊢;rw [hA.opd n (by simp [K.opds])];exact h
 |slc sz x lo hi mx=>
  simp only [Bv,Bt] at h ⊢
  have e1:∀d,st'.bnd d lo=st.bnd d lo:=fun d=>i8 fun y hy=>hA.opd y (by simp [K.opds,hy])
  have e2:∀d,st'.bnd d hi=st.bnd d hi:=fun d=>i8 fun y hy=>hA.opd y (by simp [K.opds,hy])
  have e3:∀d,st'.bnd d mx=st.bnd d mx:=fun d=>i8 fun y hy=>hA.opd y (by simp [K.opds,hy])
  rw [hA.opd x (by simp [K.opds])]
  simp only [e1,e2,e3];exact h
 |sstr x lo hi=>
  simp only [Bv,Bt] at h ⊢
  have e1:∀d,st'.bnd d lo=st.bnd d lo:=fun d=>i8 fun y hy=>hA.opd y (by simp [K.opds,hy])
  have e2:∀d,st'.bnd d hi=st.bnd d hi:=fun d=>i8 fun y hy=>hA.opd y (by simp [K.opds,hy])
  rw [hA.opd x (by simp [K.opds])]
  simp only [e1,e2];exact h
 |mkmap gk gv ks vs=>
  simp only [Bv,Bt] at h ⊢
  cases d with
  |none=>exact h
  |some s=>
   simp only at h ⊢
   rw [hA.base]
   cases g1:B7 (st.base+s) (st.ob.map Prod.fst) with
   |false=>rw [g1] at h;exact h.elim
   |true=>rw [g1] at h;rw [hA.key rfl s rfl g1];exact h
 |lookup gq ts ok g z m q=>
  simp only [Bv,Bt] at h ⊢
  rw [hA.opd m (by simp [K.opds]),hA.opd q (by simp [K.opds])]
  cases hq:st.opd m with
  |mp b=>
   rw [hq] at h
   simp only at h ⊢
   cases g1:B7 b ban with
   |false=>rw [g1] at h;exact h.elim
   |true=>rw [g1] at h;rw [hA.obj rfl rfl b (.inr g1) (fun a ha=>by cases ha)];exact h
  |_=>rw [hq] at h;exact h
 |mapup gq ts m q v=>
  simp only [Bv,Bt] at h ⊢
  rw [hA.opd m (by simp [K.opds]),hA.opd q (by simp [K.opds]),hA.opd v (by simp [K.opds])]
  cases hq:st.opd m with
  |mp b=>
   rw [hq] at h
   dsimp only at h ⊢
   rw [hA.obj rfl rfl b (.inl rfl) (fun a ha=>by cases ha)];exact h
  |_=>rw [hq] at h;exact h
 |del m q=>exact h
 |aidx off sz g x=>simp only [Bv,Bt] at h ⊢;rw [hA.opd x (by simp [K.opds])];exact h
 |stop=>exact h
def A04(o:K)(d:Option Nat)(st:St)(b:Nat):Prop:=(o.isStore=true∧∀a,o.addr=some a→At (st.get a) b)∨(o.makes=true∧∃s,d=some s∧b=st.base+s)
theorem Aqq{o:K}{d:Option Nat}{st:St}{δ :Cy}(h:Bv P (Mp P) (L3 P) ban o d st (fun δ'=> δ'= δ)):
  (∀s∈δ.s.map Prod.fst,s∈Jv.writes ⟨d,none,o⟩)∧(∀b∈δ.o.map Prod.fst,A04 o d st b):=by
 have put:∀(p:PV),dput d p= δ→(∀s∈δ.s.map Prod.fst,s∈Jv.writes ⟨d,none,o⟩)∧(∀b∈δ.o.map Prod.fst,A04 o d st b):=by
  intro p e
  subst e
  cases d with
  |none=>exact ⟨fun s hs=>by simp [dput] at hs,fun b hb=>by simp [dput] at hb⟩
  |some x=>exact ⟨fun s hs=>by simp [dput] at hs;simp [Jv.writes,hs],fun b hb=>by simp [dput] at hb⟩
 have ad:∀(x:Operand) (o:K),(o= .loadT x∨(∃g sz,o= .load g sz x)∨(∃sz y,o= .store sz x y)∨∃s,o= .storeT x s)→o.addr=aOf x:=by
  intro x o ho
  rcases ho with rfl|⟨g,sz,rfl⟩|⟨sz,y,rfl⟩|⟨s,rfl⟩<;>cases x<;>rfl
 cases o with
 |move x=>exact put _ h
 |nilsl e=>
  simp only [Bv,Bt] at h
  split at h
  ·subst h;exact ⟨fun y hy=>by simpa [Jv.writes] using hy,fun b hb=>by simp at hb⟩
  ·exact h.elim
 |take s=>
  cases d with
  |none=>exact h.elim
  |some x=>subst h;exact ⟨fun y hy=>by simpa [Jv.writes] using hy,fun b hb=>by simp at hb⟩
 |pick c x y=>
  simp only [Bv,Bt] at h
  split at h
  ·rename_i t _
   cases t<;>exact put _ h
  ·exact h.elim
 |alloc z=>
  simp only [Bv,Bt] at h
  cases d with
  |none=>exact h.elim
  |some s=>
   simp only at h
   split at h
   ·subst h
    exact ⟨fun y hy=>by simpa [Jv.writes] using hy,fun b hb=>by simp at hb;subst hb;exact .inr ⟨rfl,s,rfl,rfl⟩⟩
   ·exact h.elim
 |box x=>
  simp only [Bv,Bt] at h
  cases d with
  |none=>exact h.elim
  |some s=>
   simp only at h
   split at h
   ·subst h
    exact ⟨fun y hy=>by simpa [Jv.writes] using hy,fun b hb=>by simp at hb;subst hb;exact .inr ⟨rfl,s,rfl,rfl⟩⟩
   ·exact h.elim
 |build z parts=>
  simp only [Bv,Bt] at h
  obtain ⟨l,h1,_⟩:=Alj st _ _ _ h
  exact put _ h1
 |bslice e sz parts=>
  simp only [Bv,Bt] at h
  obtain ⟨l,h1,_⟩:=Alf st _ _ _ h
  split at h1
  ·split at h1
   ·exact put _ h1
   ·exact h1.elim
  ·exact put _ h1
 |load g sz x=>
  simp only [Bv,Bt] at h
  split at h
  ·split at h
   ·exact put _ h
   ·exact h.elim
  ·split at h
   ·exact put _ h
   ·exact h.elim
  ·split at h
   ·split at h
    ·exact put _ h
    ·exact h.elim
   ·exact h.elim
  ·exact h.elim
 |loadT x=>
  simp only [Bv,Bt] at h
  split at h
  ·rename_i b off d' hq
   split at h
   ·subst h
    exact ⟨fun y hy=>by simpa [Jv.writes] using hy,fun b' hb=>by simp at hb;subst hb;exact .inl ⟨rfl,Yc hq (ad x _ (.inl rfl))⟩⟩
   ·exact h.elim
  ·exact h.elim
 |store sz x y=>
  simp only [Bv,Bt] at h
  split at h
  ·rename_i b off hq
   split at h
   ·subst h
    exact ⟨fun y hy=>by simp at hy,fun b' hb=>by simp at hb;subst hb;exact .inl ⟨rfl,Yc hq (ad x _ (.inr (.inr (.inl ⟨_,_,rfl⟩))))⟩⟩
   ·exact h.elim
  ·rename_i b sz' i off hq
   split at h
   ·split at h
    ·subst h
     exact ⟨fun y hy=>by simp at hy,fun b' hb=>by simp at hb;subst hb;exact .inl ⟨rfl,Aed hq (ad x _ (.inr (.inr (.inl ⟨_,_,rfl⟩))))⟩⟩
    ·exact h.elim
   ·exact h.elim
  ·exact h.elim
 |storeT x s=>
  simp only [Bv,Bt] at h
  split at h
  ·rename_i b off hq
   split at h
   ·subst h
    exact ⟨fun y hy=>by simp at hy;simp [Jv.writes,hy],fun b' hb=>by simp at hb;subst hb;exact .inl ⟨rfl,Yc hq (ad x _ (.inr (.inr (.inr ⟨_,rfl⟩))))⟩⟩
   ·exact h.elim
  ·rename_i b sz' i off hq
   split at h
   ·split at h
    ·subst h
     exact ⟨fun y hy=>by simp at hy;simp [Jv.writes,hy],fun b' hb=>by simp at hb;subst hb;exact .inl ⟨rfl,Aed hq (ad x _ (.inr (.inr (.inr ⟨_,rfl⟩))))⟩⟩
    ·exact h.elim
   ·exact h.elim
  ·exact h.elim
 |scal o=>
  simp only [Bv,Aqn] at h
  cases g1:Z0 st o.op.operands.toList with
  |false=>rw [g1] at h;exact h.elim
  |true=>
   rw [g1] at h
   obtain ⟨n,h1,_⟩:=Afl _ _ h
   cases n with
   |value v=>
    simp only at h1
    cases g2:Ahd v with
    |false=>rw [g2] at h1;exact h1.elim
    |true=>rw [g2] at h1;exact put _ h1
   |_=>exact h1.elim
 |bin2 tag x y=>
  simp only [Bv,Bt] at h
  split at h
  ·split at h
   ·rename_i c r _
    cases c with
    |true=>exact put _ h
    |false=>exact h.elim
   ·exact h.elim
  ·exact h.elim
 |eqA neg ts x y=>
  simp only [Bv,Bt] at h
  split at h
  ·split at h
   ·cases neg<;>exact put _ h
   ·exact h.elim
  ·exact h.elim
 |field off x=>
  simp only [Bv,Bt] at h
  split at h<;>first|exact h.elim|exact put _ h
 |index sz x i=>
  simp only [Bv,Bt] at h
  split at h
  ·split at h<;>first|exact h.elim|exact put _ h.2.2
  ·split at h
   ·split at h
    ·exact put _ h.2.2
    ·exact h.elim
   ·exact h.elim
  ·exact h.elim
 |len x=>
  simp only [Bv,Bt] at h
  split at h
  ·exact put _ h
  ·exact put _ h
  ·split at h
   ·exact put _ h
   ·exact h.elim
 |cap x=>
  simp only [Bv,Bt] at h
  split at h
  ·exact put _ h
  ·exact h.elim
 |app e sz by_ s x=>
  simp only [Bv,Bt] at h
  cases d with
  |none=>exact h.elim
  |some d=>
   simp only at h
   split at h
   ·split at h
    ·have h':=h.2.2
     subst h'
     exact ⟨fun y hy=>by simpa [Jv.writes] using hy,fun b hb=>by simp at hb⟩
    ·exact h.elim
   ·split at h
    ·subst h
     exact ⟨fun y hy=>by simpa [Jv.writes] using hy,fun b hb=>by simp at hb⟩
    ·exact h.elim
   ·split at h
    ·have h':=h.2.2
     subst h'
     exact ⟨fun y hy=>by simp at hy;simp [Jv.writes,hy],fun b hb=>by simp at hb⟩
    ·exact h.elim
   ·exact h.elim
 |call f args=>
  simp only [Bv,Bt] at h
  split at h
  ·obtain ⟨r,_,h2⟩:=h;exact put _ h2
  ·exact h.elim
 |icall f args=>
  simp only [Bv,Bt] at h
  obtain ⟨_,r,o',_,h2⟩:=h
  refine ⟨fun s hs=> ?_,fun b _=> .inl ⟨rfl,fun a ha=>by cases ha⟩⟩
  have: δ.s=(dput d r).s:=by rw [←h2]
  rw [this] at hs
  cases d with
  |none=>simp [dput] at hs
  |some x=>simp [dput] at hs;simp [Jv.writes,hs]
 |callv x args=>
  simp only [Bv,Bt] at h
  split at h
  ·obtain ⟨_,r,o',_,h2⟩:=h
   refine ⟨fun s hs=> ?_,fun b _=> .inl ⟨rfl,fun a ha=>by cases ha⟩⟩
   have: δ.s=(dput d r).s:=by rw [←h2]
   rw [this] at hs
   cases d with
   |none=>simp [dput] at hs
   |some x=>simp [dput] at hs;simp [Jv.writes,hs]
  ·exact h.elim
 |mkfn f n caps=>exact put _ h
 |extract x i=>
  simp only [Bv,Bt] at h
  split at h
  ·split at h
   ·exact put _ h
   ·exact h.elim
  ·exact h.elim
 |nil x=>
  simp only [Bv,Bt] at h
  split at h<;>first|exact h.elim|exact put _ h
 |mksl e sz by_ z n=>
  simp only [Bv,Bt] at h
  split at h
  ·rename_i s m hv
   split at h
   ·split at h
    ·subst h
     exact ⟨fun y hy=>by simpa [Jv.writes] using hy,fun b hb=>by simp at hb;subst hb;exact .inr ⟨rfl,s,rfl,rfl⟩⟩
    ·exact h.elim
   ·split at h
    ·split at h
     ·have h':=h.2.2.2
      subst h'
      exact ⟨fun y hy=>by simpa [Jv.writes] using hy,fun b hb=>by simp at hb;subst hb;exact .inr ⟨rfl,s,rfl,rfl⟩⟩
     ·exact h.elim
    ·exact h.elim
  ·exact h.elim
 |mkcap e sz by_ n=>
  simp only [Bv,Bt] at h
  split at h
  ·split at h
   ·have h':=h.2.2.2
    subst h'
    exact ⟨fun y hy=>by simpa [Jv.writes] using hy,fun b hb=>by simp at hb⟩
   ·exact h.elim
  ·exact h.elim
 |slc sz x lo hi mx=>
  simp only [Bv,Bt] at h
  split at h
  ·split at h
   ·split at h
    ·split at h
     ·exact put _ h.2.2.2.2
     ·exact h.elim
    ·exact h.elim
   ·exact h.elim
  ·exact h.elim
 |sstr x lo hi=>
  simp only [Bv,Bt] at h
  split at h
  ·split at h
   ·split at h
    ·exact put _ h.2.2.2
    ·exact h.elim
   ·exact h.elim
  ·exact h.elim
 |mkmap gk gv ks vs=>
  simp only [Bv,Bt] at h
  cases d with
  |none=>exact h.elim
  |some s=>
   simp only at h
   split at h
   ·subst h
    exact ⟨fun y hy=>by simpa [Jv.writes] using hy,fun b hb=>by simp at hb;subst hb;exact .inr ⟨rfl,s,rfl,rfl⟩⟩
   ·exact h.elim
 |lookup gq ts ok g z m q=>
  simp only [Bv,Bt] at h
  split at h
  ·split at h
   ·split at h
    ·rename_i r _ _ _
     cases r<;>exact put _ h
    ·exact h.elim
   ·exact h.elim
  ·exact h.elim
 |mapup gq ts m q v=>
  have fin:∀(b:Nat) (l:List PV),(⟨[],[(b,l)]⟩:Cy)= δ→(∀s∈δ.s.map Prod.fst,s∈Jv.writes ⟨d,none,.mapup gq ts m q v⟩)∧(∀b∈δ.o.map Prod.fst,A04 (.mapup gq ts m q v) d st b):=by
   intro b l e
   subst e
   exact ⟨fun y hy=>by simp at hy,fun b' hb=> .inl ⟨rfl,fun a ha=>by cases ha⟩⟩
  simp only [Bv,Bt] at h
  split at h
  ·split at h
   ·split at h
    ·rename_i r c _ _ _
     cases r with
     |none=>
      simp only [fk] at h
      split at h
      ·exact fin _ _ h
      ·exact h.elim
     |some i=>
      simp only [fk] at h
      split at h
      ·exact fin _ _ h
      ·exact h.elim
    ·exact h.elim
   ·exact h.elim
  ·exact h.elim
 |del m q=>exact h.elim
 |aidx off sz g x=>
  simp only [Bv,Bt] at h
  split at h
  ·split at h
   ·exact put _ h
   ·exact h.elim
  ·exact h.elim
 |stop=>exact h.elim
end
end Go.Proofs.YtcbandfdmbkokaaGreat.Ev
