/-  Regions: in the order of the text, or in any order. -/
import Derived.Test.YtmimkinjcfekmaaGreatFk0
namespace Go.Proofs.YtmimkinjcfekmaaGreat.Ev
open Go Go.RowKit
set_option linter.unusedVariables false
set_option linter.unusedSimpArgs false
set_option linter.unnecessarySimpa false
structure Du (s t:St):Prop where
 base:s.base=t.base
 get:∀x,s.get x=t.get x
 obj:∀d,s.obj d=t.obj d
 key:∀d,Ag d (s.ob.map Prod.fst)=Ag d (t.ob.map Prod.fst)
theorem Du.refl(s:St):Du s s:=⟨rfl,fun _=>rfl,fun _=>rfl,fun _=>rfl⟩
theorem Du.symm{s t:St}(h:Du s t):Du t s:=⟨h.base.symm,fun x=>(h.get x).symm,fun d=>(h.obj d).symm,fun d=>(h.key d).symm⟩
theorem Du.trans{s t u:St}(h:Du s t)(h':Du t u):Du s u:=⟨h.base.trans h'.base,fun x=>(h.get x).trans (h'.get x),fun d=>(h.obj d).trans (h'.obj d),fun d=>(h.key d).trans (h'.key d)⟩
theorem Hb(st:St)(δ :Ap)(s:Nat):(st.app δ).get s=if s∈δ.s.map Prod.fst then Bp .any δ.s s else st.get s:=Ik _ _ _ _
theorem Ic(st:St)(δ :Ap)(s:Nat):(st.app δ).obj s=if s∈δ.o.map Prod.fst then Bp [] δ.o s else st.obj s:=(Uf _ _ _).trans (Ik _ _ _ _)
theorem I5(st:St)(δ :Ap)(s:Nat):Ag s ((st.app δ).ob.map Prod.fst)=(Ag s (δ.o.map Prod.fst) && Ag s (st.ob.map Prod.fst)):=by
 rw [←J9,←List.map_append];exact Xd _ _ _
theorem Du.app{s t:St}(h:Du s t)(δ :Ap):Du (s.app δ) (t.app δ):=
 ⟨h.base,fun x=>by rw [Hb,Hb,h.get],fun x=>by rw [Ic,Ic,h.obj],fun x=>by rw [I5,I5,h.key]⟩
section
variable {ι :Type} {cx: ι→PV×Value} {P:Program} {C:Av} {X:Tc} {ban:List Nat} {w0 w:World} {N M:It} {β :Ha} {nt:Nat} {st:St} {a:Act}
theorem SR.equiv{st':St}(h:SR cx w0 N nt st a w M β)(he:Du st st'):SR cx w0 N nt st' a w M β :=by
 have e1:st'.obj=st.obj:=funext fun d=>(he.obj d).symm
 have e2:(fun d=>Ag d (st'.ob.map Prod.fst))=fun d=>Ag d (st.ob.map Prod.fst):=funext fun d=>(he.key d).symm
 have e3:hold cx st' a=hold cx st a:=funext fun k=>by
  cases k with
  |inl s=>simp only [hold];rw [he.get]
  |inr i=>rfl
 refine ⟨h.defs,h.nt,?_⟩
 rw [e1,e2,e3];exact h.sh
theorem Du.opd{s t:St}(h:Du s t)(x:Operand):t.opd x=s.opd x:=by
 cases x with
 |tmp n=>exact (h.get n).symm
 |_=>rfl
theorem Du.agree{s t:St}(h:Du s t)(o:K)(d:Option Nat)(hsel:∀o',o= .scal o'→∀cs b,o'.op≠ .select cs b):Aa8 ban o d s t:=
 ⟨fun x _=>h.opd x,fun _ _ b _ _=>(h.obj b).symm,fun _ b _ _=>by unfold St.vobj;rw [h.obj b],fun _ s _ hs=>by rw [←h.key];exact hs,hsel,h.base.symm,fun _=>⟨fun b=>(h.obj b).symm,fun b=>(h.key b).symm⟩⟩
def Gs(P:Program)(ban:List Nat)(eo:B5)(st:St)(δ :Ap):Prop:=match eo.g with
 |none=>Ad P (Cv P) (Cs P) ban eo.k eo.dst st (fun δ'=> δ'= δ)
 |some (s,want)=>(∃t,st.get s= .val (.bool t)∧(t=want→Ad P (Cv P) (Cs P) ban eo.k eo.dst st (fun δ'=> δ'= δ))∧(t≠want→δ =dput eo.dst (.tup [])))∨(st.get s= .tup []∧δ =dput eo.dst (.tup []))
inductive Wq (P:Program) (ban:List Nat):List B5→St→List Ap→St→Prop
 |nil (st:St):Wq P ban [] st [] st
 |cons (eo:B5) (l:List B5) (st st':St) (δ :Ap) (δs:List Ap) (h:Gs P ban eo st δ) (hr:Wq P ban l (st.app δ) δs st'):Wq P ban (eo::l) st (δ :: δs) st'
theorem Acx{st:St}{s:Nat}{p:PV}(h:st.get s=p):Du (st.put s p) st:=
 ⟨rfl,fun x=>by
  have:(st.put s p).get x=if s=x then p else st.get x:=Bi _ _ _ _ _
  rw [this]
  by_cases e:s=x
  ·subst e;rw [if_pos rfl,h]
  ·rw [if_neg e],fun _=>rfl,fun _=>rfl⟩
theorem Vy(hC:Bu P C)(hX:Gu P X):∀(l:List B5) (st st0:St) (k:St→Prop),(∀eo∈l,∀o',eo.k= .scal o'→∀cs b,o'.op≠ .select cs b)→Du st st0→E7 P C X ban l st k→
  ∃δs st1 st',Wq P ban l st0 δs st1∧Du st' st1∧k st':=by
 intro l
 induction l with
 |nil=>intro st st0 k _ he h;exact ⟨[],st0,st,.nil _,he,h⟩
 |cons eo l ih=>
  intro st st0 k hsel he h
  have hsel1:=hsel eo (by simp)
  have hsel2:∀eo∈l,∀o',eo.k= .scal o'→∀cs b,o'.op≠ .select cs b:=fun e hm=>hsel e (List.mem_cons_of_mem _ hm)
  have run1:∀(su:St),Du su st0→Ad P C X ban eo.k eo.dst su (fun δ =>E7 P C X ban l (su.app δ) k)→
    ∃δ,Ad P (Cv P) (Cs P) ban eo.k eo.dst st0 (fun δ'=> δ'= δ)∧∃δs st1 st',Wq P ban l (st0.app δ) δs st1∧Du st' st1∧k st':=by
   intro su hu hs
   obtain ⟨δ,h1,h2⟩:=N4 hC hX _ _ _ _ hs
   exact ⟨δ,Mg (hu.agree _ _ hsel1) (h2 (fun δ'=> δ'= δ) rfl),ih _ _ _ hsel2 (hu.app δ) h1⟩
  simp only [E7] at h
  cases hg:eo.g with
  |none=>
   rw [hg] at h
   obtain ⟨δ,h1,δs,st1,st',h2,h3,h4⟩:=run1 st he h
   exact ⟨δ :: δs,st1,st',.cons eo l st0 st1 δ δs (by unfold Gs;rw [hg];exact h1) h2,h3,h4⟩
  |some sw=>
   obtain ⟨s,want⟩:=sw
   rw [hg] at h
   simp only at h
   cases hq:st.get s with
   |val v=>
    rw [hq] at h
    cases v with
    |bool t=>
     have hq0:st0.get s= .val (.bool t):=by rw [←he.get,hq]
     have hu:Du (st.put s (.val (.bool t))) st0:=(Acx hq).trans he
     have skip:E7 P C X ban l ((st.put s (.val (.bool t))).app (dput eo.dst (.tup []))) k→t≠want→
       ∃δs st1 st',Wq P ban (eo::l) st0 δs st1∧Du st' st1∧k st':=by
      intro hs hne
      obtain ⟨δs,st1,st',h2,h3,h4⟩:=ih _ (st0.app (dput eo.dst (.tup []))) _ hsel2 (hu.app _) hs
      exact ⟨_:: δs,st1,st',.cons eo l st0 st1 _ δs (by unfold Gs;rw [hg];exact .inl ⟨t,hq0,fun e=>absurd e hne,fun _=>rfl⟩) h2,h3,h4⟩
     have take:Ad P C X ban eo.k eo.dst (st.put s (.val (.bool t))) (fun δ =>E7 P C X ban l ((st.put s (.val (.bool t))).app δ) k)→t=want→
       ∃δs st1 st',Wq P ban (eo::l) st0 δs st1∧Du st' st1∧k st':=by
      intro hs heq
      obtain ⟨δ,h1,δs,st1,st',h2,h3,h4⟩:=run1 _ hu hs
      exact ⟨δ :: δs,st1,st',.cons eo l st0 st1 δ δs (by unfold Gs;rw [hg];exact .inl ⟨t,hq0,fun _=>h1,fun e=>absurd heq e⟩) h2,h3,h4⟩
     cases t<;>cases want<;>simp only [br] at h<;>first|exact take h rfl|exact skip h (by decide)
    |_=>exact h.elim
   |tup l0=>
    rw [hq] at h
    cases l0 with
    |nil=>
     have hq0:st0.get s= .tup []:=by rw [←he.get,hq]
     obtain ⟨δs,st1,st',h2,h3,h4⟩:=ih _ (st0.app (dput eo.dst (.tup []))) _ hsel2 (he.app _) h
     exact ⟨_:: δs,st1,st',.cons eo l st0 st1 _ δs (by unfold Gs;rw [hg];exact .inr ⟨hq0,rfl⟩) h2,h3,h4⟩
    |cons _ _=>exact h.elim
   |_=>rw [hq] at h;exact h.elim
def Ec:List Ap→(Nat→Bool)→St→St
 | [],_,st=>st
 | δ ::r,m,st=>Ec r (fun i=>m (i+1)) (if m 0 then st.app δ else st)
theorem Aa1:∀(δs:List Ap) (m m':Nat→Bool) (st:St),(∀i,i < δs.length→m i=m' i)→Ec δs m st=Ec δs m' st:=by
 intro δs
 induction δs with
 |nil=>intro m m' st _;rfl
 |cons δ r ih=>
  intro m m' st h
  simp only [Ec]
  rw [h 0 (by simp)]
  exact ih _ _ _ (fun i hi=>h (i+1) (by simp;omega))
theorem Nu:∀(δs:List Ap) (m:Nat→Bool) (st:St),(∀i,i < δs.length→m i=false)→Ec δs m st=st:=by
 intro δs
 induction δs with
 |nil=>intro m st _;rfl
 |cons δ r ih=>
  intro m st h
  simp only [Ec]
  rw [h 0 (by simp)]
  exact ih _ _ (fun i hi=>h (i+1) (by simp;omega))
theorem Wq.length{l:List B5}{st st':St}{δs:List Ap}(h:Wq P ban l st δs st'): δs.length=l.length:=by
 induction h with
 |nil=>rfl
 |cons eo l st st' δ δs _ _ ih=>simp [ih]
theorem Wq.at{l:List B5}{st st':St}{δs:List Ap}(h:Wq P ban l st δs st'):∀(i:Nat) (eo:B5) (δ :Ap),l[i]? =some eo→δs[i]? =some δ→Gs P ban eo (Ec δs (fun j=>decide (j < i)) st) δ :=by
 induction h with
 |nil=>intro i eo δ h;simp at h
 |cons eo l st st' δ δs h1 _ ih=>
  intro i e d he hd
  cases i with
  |zero=>
   simp at he hd
   subst he;subst hd
   have:Ec (δ :: δs) (fun j=>decide (j < 0)) st=st:=Nu _ _ _ (fun i _=>by simp)
   rw [this];exact h1
  |succ i=>
   have:=ih i e d (by simpa using he) (by simpa using hd)
   simp only [Ec]
   simpa using this
theorem Wq.last{l:List B5}{st st':St}{δs:List Ap}(h:Wq P ban l st δs st'):st'=Ec δs (fun _=>true) st:=by
 induction h with
 |nil=>rfl
 |cons eo l st st' δ δs _ _ ih=>simp only [Ec];exact ih
theorem Xr:∀(δs:List Ap) (m m':Nat→Bool) (st st':St) (s:Nat),st.get s=st'.get s→(∀(i:Nat) (δ :Ap),δs[i]? =some δ→s∈δ.s.map Prod.fst→m i=m' i)→
  (Ec δs m st).get s=(Ec δs m' st').get s:=by
 intro δs
 induction δs with
 |nil=>intro m m' st st' s h _;exact h
 |cons δ r ih=>
  intro m m' st st' s h hm
  simp only [Ec]
  refine ih _ _ _ _ s ?_ (fun i δ' hi hs=>hm (i+1) δ' (by simpa using hi) hs)
  by_cases hs:s∈δ.s.map Prod.fst
  ·rw [hm 0 δ rfl hs]
   cases m' 0
   ·exact h
   ·simp only [if_true];rw [Hb,Hb,if_pos hs,if_pos hs]
  ·have e1:∀(b:Bool) (st:St),(if b then st.app δ else st).get s=st.get s:=fun b st=>by
    cases b
    ·rfl
    ·simp only [if_true];rw [Hb,if_neg hs]
   rw [e1,e1];exact h
theorem Q7:∀(δs:List Ap) (m m':Nat→Bool) (st st':St) (s:Nat),st.obj s=st'.obj s→(∀(i:Nat) (δ :Ap),δs[i]? =some δ→s∈δ.o.map Prod.fst→m i=m' i)→
  (Ec δs m st).obj s=(Ec δs m' st').obj s:=by
 intro δs
 induction δs with
 |nil=>intro m m' st st' s h _;exact h
 |cons δ r ih=>
  intro m m' st st' s h hm
  simp only [Ec]
  refine ih _ _ _ _ s ?_ (fun i δ' hi hs=>hm (i+1) δ' (by simpa using hi) hs)
  by_cases hs:s∈δ.o.map Prod.fst
  ·rw [hm 0 δ rfl hs]
   cases m' 0
   ·exact h
   ·simp only [if_true];rw [Ic,Ic,if_pos hs,if_pos hs]
  ·have e1:∀(b:Bool) (st:St),(if b then st.app δ else st).obj s=st.obj s:=fun b st=>by
    cases b
    ·rfl
    ·simp only [if_true];rw [Ic,if_neg hs]
   rw [e1,e1];exact h
theorem v6:∀(δs:List Ap) (m m':Nat→Bool) (st st':St) (s:Nat),Ag s (st.ob.map Prod.fst)=Ag s (st'.ob.map Prod.fst)→(∀(i:Nat) (δ :Ap),δs[i]? =some δ→s∈δ.o.map Prod.fst→m i=m' i)→
  Ag s ((Ec δs m st).ob.map Prod.fst)=Ag s ((Ec δs m' st').ob.map Prod.fst):=by
 intro δs
 induction δs with
 |nil=>intro m m' st st' s h _;exact h
 |cons δ r ih=>
  intro m m' st st' s h hm
  simp only [Ec]
  refine ih _ _ _ _ s ?_ (fun i δ' hi hs=>hm (i+1) δ' (by simpa using hi) hs)
  by_cases hs:s∈δ.o.map Prod.fst
  ·rw [hm 0 δ rfl hs]
   cases m' 0
   ·exact h
   ·simp only [if_true];rw [I5,I5,h]
  ·have e0:Ag s (δ.o.map Prod.fst)=true:=(Am _ _).2 hs
   have e1:∀(b:Bool) (st:St),Ag s ((if b then st.app δ else st).ob.map Prod.fst)=Ag s (st.ob.map Prod.fst):=fun b st=>by
    cases b
    ·rfl
    ·simp only [if_true];rw [I5,e0,Bool.true_and]
   rw [e1,e1];exact h
theorem Adr:∀(δs:List Ap) (m:Nat→Bool) (st:St) (k:Nat) (δ :Ap) (a:Nat),δs[k]? =some δ→m k=true→a∈δ.s.map Prod.fst→
  (∀(j:Nat) (δ':Ap),j≠k→δs[j]? =some δ'→a∉δ'.s.map Prod.fst)→(Ec δs m st).get a=Bp .any δ.s a:=by
 intro δs
 induction δs with
 |nil=>intro m st k δ a h;simp at h
 |cons δ0 r ih=>
  intro m st k δ a h hm ha hn
  simp only [Ec]
  cases k with
  |zero=>
   simp at h
   subst h
   rw [hm]
   simp only [if_true]
   rw [Xr r _ (fun _=>false) (st.app δ0) (st.app δ0) a rfl (fun i δ' hi hs=>absurd hs (hn (i+1) δ' (by omega) (by simpa using hi))),Nu _ _ _ (fun _ _=>rfl),Hb,if_pos ha]
  |succ k=>exact ih _ _ k δ a (by simpa using h) hm ha (fun j δ' hj hδ =>hn (j+1) δ' (by omega) (by simpa using hδ))
theorem Zk:∀(δs:List Ap) (m:Nat→Bool) (st:St) (b:Nat),
  ((∀(k:Nat) (δ :Ap),m k=true→δs[k]? =some δ→b∉δ.o.map Prod.fst)∧(Ec δs m st).obj b=st.obj b)∨
  ∃k δ,m k=true∧δs[k]? =some δ∧b∈δ.o.map Prod.fst∧(∀(j:Nat) (δ':Ap),k < j→m j=true→δs[j]? =some δ'→b∉δ'.o.map Prod.fst)∧(Ec δs m st).obj b=Bp [] δ.o b:=by
 intro δs
 induction δs with
 |nil=>intro m st b;exact .inl ⟨fun k δ _ h=>by simp at h,rfl⟩
 |cons δ0 r ih=>
  intro m st b
  simp only [Ec]
  rcases ih (fun i=>m (i+1)) (if m 0 then st.app δ0 else st) b with ⟨h1,h2⟩|⟨k,δ,h1,h2,h3,h4,h5⟩
  ·by_cases hb:m 0=true∧b∈δ0.o.map Prod.fst
   ·refine .inr ⟨0,δ0,hb.1,rfl,hb.2,fun j δ' hj hm hδ => ?_,?_⟩
    ·cases j with
     |zero=>omega
     |succ j=>exact h1 j δ' hm (by simpa using hδ)
    ·rw [h2,hb.1]
     simp only [if_true]
     rw [Ic,if_pos hb.2]
   ·refine .inl ⟨fun k δ hm hδ => ?_,?_⟩
    ·cases k with
     |zero=>simp at hδ;subst hδ;exact fun h=>hb ⟨hm,h⟩
     |succ k=>exact h1 k δ hm (by simpa using hδ)
    ·rw [h2]
     cases hm:m 0 with
     |false=>rfl
     |true=>
      simp only [if_true]
      rw [Ic,if_neg (fun h=>hb ⟨hm,h⟩)]
  ·refine .inr ⟨k+1,δ,h1,by simpa using h2,h3,fun j δ' hj hm hδ => ?_,h5⟩
   cases j with
   |zero=>omega
   |succ j=>exact h4 j δ' (by omega) hm (by simpa using hδ)
theorem Wi{δs:List Ap}{st:St}{b:Nat}(T:Nat→Bool)(hT:∀(k:Nat) (δ :Ap),T k=true→δs[k]? =some δ→b∈δ.o.map Prod.fst→(Bp [] δ.o b).map PV.view=(Ec δs (fun j=>decide (j < k)) st).vobj b):
  ∀(n:Nat) (m:Nat→Bool),(∀k,m k=true→(δs[k]?).isSome=true→k < n)→
   (∀(k j:Nat) (δ δ':Ap),T k=true→m k=true→δs[k]? =some δ→b∈δ.o.map Prod.fst→T j=false→δs[j]? =some δ'→b∈δ'.o.map Prod.fst→j < k→m j=true)→
   (Ec δs m st).vobj b=(Ec δs (fun j=>m j && !T j) st).vobj b:=by
 intro n
 induction n using Nat.strongRecOn with
 |ind n ih=>
  intro m hn hc
  rcases Zk δs m st b with ⟨h1,h2⟩|⟨k,δ,h1,h2,h3,h4,h5⟩
  ·unfold St.vobj
   rw [Q7 δs (fun j=>m j && !T j) (fun _=>false) st st b rfl (fun i δ hi hb=> ?_),Nu _ _ _ (fun _ _=>rfl),h2]
   cases hm:m i with
   |false=>rfl
   |true=>exact absurd hb (h1 i δ hm hi)
  ·cases hk:T k with
   |false=>
    rcases Zk δs (fun j=>m j && !T j) st b with ⟨g1,g2⟩|⟨k',δ',g1,g2,g3,g4,g5⟩
    ·exact absurd h3 (g1 k δ (by simp [h1,hk]) h2)
    ·have e:k'=k:=by
      rcases Nat.lt_trichotomy k k' with h|h|h
      ·simp only [Bool.and_eq_true] at g1
       exact absurd g3 (h4 k' δ' h g1.1 g2)
      ·exact h.symm
      ·exact absurd h3 (g4 k δ h (by simp [h1,hk]) h2)
     subst e
     rw [h2] at g2
     injection g2 with g2
     subst g2
     unfold St.vobj
     rw [h5,g5]
   |true=>
    have hkn:=hn k h1 (by rw [h2];rfl)
    have hsub:∀(j:Nat) (δ':Ap),T j=false→δs[j]? =some δ'→b∈δ'.o.map Prod.fst→(decide (j < k))=m j:=by
     intro j δ' hj hδ hb
     by_cases hlt:j < k
     ·rw [hc k j δ δ' hk h1 h2 h3 hj hδ hb hlt];simp [hlt]
     ·cases hm:m j with
      |false=>simp [hlt]
      |true=>
       have hne:j≠k:=by rintro rfl;rw [hk] at hj;cases hj
       exact absurd hb (h4 j δ' (by omega) hm hδ)
    have e1:=ih k hkn (fun j=>decide (j < k)) (fun j hj _=>by simpa using hj) (fun k' j _ _ _ hk' _ _ _ _ _ hj=>by
     have:=of_decide_eq_true hk'
     exact decide_eq_true (by omega))
    have e2:(Ec δs m st).vobj b=(Ec δs (fun j=>decide (j < k)) st).vobj b:=by
     rw [←hT k δ hk h2 h3]
     unfold St.vobj
     rw [h5]
    rw [e2,e1]
    unfold St.vobj
    rw [Q7 δs _ (fun j=>m j && !T j) st st b rfl (fun i δ' hi hb=> ?_)]
    cases hti:T i with
    |true=>simp
    |false=>simp only [Bool.not_false,Bool.and_true];exact hsub i δ' hti hi hb
theorem Aax(l:List PV):∀(off:Nat),(Da l off [(Ew l off).view]).map PV.view=l.map PV.view:=by
 have vv:∀p:PV,p.view.view=p.view:=fun p=>by cases p<;>rfl
 induction l with
 |nil=>intro off;rfl
 |cons p l ih=>
  intro off
  cases off with
  |zero=>
   have:Da (p::l) 0 [(Ew (p::l) 0).view]=p.view::l:=by cases l<;>rfl
   rw [this];simp [vv]
  |succ n=>
   have:Da (p::l) (n+1) [(Ew (p::l) (n+1)).view]=p::Da l n [(Ew l n).view]:=rfl
   rw [this];simp [ih n]
theorem i7{eo:B5}{st:St}{δ :Ap}(h:Gs P ban eo st δ)(hk:eo.k.isTake=true):∀b∈δ.o.map Prod.fst,(Bp [] δ.o b).map PV.view=st.vobj b:=by
 obtain ⟨d,g,k⟩:=eo
 cases k with
 |loadT x=>
  have main:Ad P (Cv P) (Cs P) ban (.loadT x) d st (fun δ'=> δ'= δ)→∀b∈δ.o.map Prod.fst,(Bp [] δ.o b).map PV.view=st.vobj b:=by
   intro h b hb
   simp only [Ad,Ac] at h
   split at h
   ·rename_i b' off d' hq
    split at h
    ·subst h
     simp at hb
     subst hb
     simp only [Bp,Nat.beq_refl]
     exact Aax _ _
    ·exact h.elim
   ·exact h.elim
  have skip: δ =dput d (.tup [])→∀b∈δ.o.map Prod.fst,(Bp [] δ.o b).map PV.view=st.vobj b:=by
   intro e b hb
   subst e
   cases d<;>simp [dput] at hb
  unfold Gs at h
  cases g with
  |none=>exact main h
  |some sw=>
   obtain ⟨s,want⟩:=sw
   rcases h with ⟨t,_,h1,h2⟩|⟨_,h2⟩
   ·by_cases e:t=want
    ·exact main (h1 e)
    ·exact skip (h2 e)
   ·exact skip h2
 |_=>cases hk
theorem Acv{eo:B5}{st:St}{δ :Ap}{a:Nat}(h:Gs P ban eo st δ)(hk:eo.mkAt a=true):a∈δ.s.map Prod.fst∧Bp .any δ.s a= .loc (st.base+a) 0:=by
 obtain ⟨d,g,k⟩:=eo
 unfold B5.mkAt at hk
 cases k with
 |alloc z=>
  cases g with
  |some _=>cases hk
  |none=>
   cases d with
   |none=>cases hk
   |some d=>
    have e:=Ar hk
    subst e
    simp only [Gs,Ad,Ac] at h
    split at h
    ·subst h;exact ⟨by simp,by simp [Bp]⟩
    ·exact h.elim
 |box x=>
  cases g with
  |some _=>cases hk
  |none=>
   cases d with
   |none=>cases hk
   |some d=>
    have e:=Ar hk
    subst e
    simp only [Gs,Ad,Ac] at h
    split at h
    ·subst h;exact ⟨by simp,by simp [Bp]⟩
    ·exact h.elim
 |_=>cases hk
def Ad3(x y:Ap):Prop:=(∀s,s∈x.s.map Prod.fst→s∉y.s.map Prod.fst)∧(∀s,s∈x.o.map Prod.fst→s∉y.o.map Prod.fst)
theorem Abd(st:St)(x y:Ap)(h:Ad3 x y):Du ((st.app x).app y) ((st.app y).app x):=by
 refine ⟨rfl,fun s=> ?_,fun s=> ?_,fun s=> ?_⟩
 ·rw [Hb,Hb,Hb,Hb]
  by_cases h1:s∈x.s.map Prod.fst
  ·rw [if_neg (h.1 s h1),if_pos h1,if_pos h1]
  ·rw [if_neg h1,if_neg h1]
 ·rw [Ic,Ic,Ic,Ic]
  by_cases h1:s∈x.o.map Prod.fst
  ·rw [if_neg (h.2 s h1),if_pos h1,if_pos h1]
  ·rw [if_neg h1,if_neg h1]
 ·rw [I5,I5,I5,I5]
  cases Ag s (y.o.map Prod.fst)<;>cases Ag s (x.o.map Prod.fst)<;>simp
theorem Aht:∀(δs:List Ap) (m:Nat→Bool) (st st':St),Du st st'→Du (Ec δs m st) (Ec δs m st'):=by
 intro δs
 induction δs with
 |nil=>intro m st st' h;exact h
 |cons δ r ih=>
  intro m st st' h
  simp only [Ec]
  refine ih _ _ _ ?_
  cases m 0
  ·exact h
  ·exact h.app δ
theorem Ae9:∀(δs:List Ap) (m:Nat→Bool) (st:St) (δ :Ap),(∀(i:Nat) (δ':Ap),m i=true→δs[i]? =some δ'→Ad3 δ δ')→Du (Ec δs m (st.app δ)) ((Ec δs m st).app δ):=by
 intro δs
 induction δs with
 |nil=>intro m st δ _;exact .refl _
 |cons δ' r ih=>
  intro m st δ h
  simp only [Ec]
  have hr:∀(i:Nat) (d:Ap),m (i+1)=true→r[i]? =some d→Ad3 δ d:=fun i d hi hd=>h (i+1) d hi (by simpa using hd)
  cases hm:m 0 with
  |false=>exact ih _ _ _ hr
  |true=>
   simp only [if_true]
   exact (Aht r _ _ _ (Abd st δ δ' (h 0 δ' hm rfl))).trans (ih _ _ _ hr)
theorem Ads:∀(δs:List Ap) (m:Nat→Bool) (i:Nat) (st:St) (δ :Ap),δs[i]? =some δ→m i=false→(∀(j:Nat) (δ':Ap),i < j→m j=true→δs[j]? =some δ'→Ad3 δ δ')→
  Du (Ec δs (fun j=>if j=i then true else m j) st) ((Ec δs m st).app δ):=by
 intro δs
 induction δs with
 |nil=>intro m i st δ h;simp at h
 |cons δ0 r ih=>
  intro m i st δ h hm hd
  cases i with
  |zero=>
   simp at h
   subst h
   simp only [Ec,hm,if_true]
   have:(fun j=>if j+1=0 then true else m (j+1))=fun j=>m (j+1):=funext fun j=>by simp
   rw [this]
   exact Ae9 r _ st δ0 (fun i δ' hi hδ =>hd (i+1) δ' (by omega) hi (by simpa using hδ))
  |succ i=>
   simp only [Ec]
   have e0:(if 0=i+1 then true else m 0)=m 0:=by simp
   have e1:(fun j=>if j+1=i+1 then true else m (j+1))=fun j=>if j=i then true else m (j+1):=funext fun j=>by simp
   simp only [e0,e1]
   exact ih _ i _ δ (by simpa using h) hm (fun j δ' hj hmj hδ =>hd (j+1) δ' (by omega) hmj (by simpa using hδ))
theorem Ul{eo:B5}{st:St}{δ :Ap}(h:Gs P ban eo st δ):(∀s∈δ.s.map Prod.fst,s∈eo.writes)∧(∀b∈δ.o.map Prod.fst,x0 eo.k eo.dst st b):=by
 obtain ⟨d,g,k⟩:=eo
 unfold Gs at h
 cases g with
 |none=>exact Wj h
 |some sw=>
  obtain ⟨s,want⟩:=sw
  have skip: δ =dput d (.tup [])→(∀s'∈δ.s.map Prod.fst,s'∈(B5.mk d (some (s,want)) k).writes)∧(∀b∈δ.o.map Prod.fst,x0 k d st b):=by
   intro e
   subst e
   cases d with
   |none=>exact ⟨fun s hs=>by simp [dput] at hs,fun b hb=>by simp [dput] at hb⟩
   |some x=>exact ⟨fun s hs=>by simp [dput] at hs;simp [B5.writes,hs],fun b hb=>by simp [dput] at hb⟩
  rcases h with ⟨t,_,h1,h2⟩|⟨_,h2⟩
  ·by_cases e:t=want
   ·exact Wj (h1 e)
   ·exact skip (h2 e)
  ·exact skip h2
end
end Go.Proofs.YtmimkinjcfekmaaGreat.Ev
