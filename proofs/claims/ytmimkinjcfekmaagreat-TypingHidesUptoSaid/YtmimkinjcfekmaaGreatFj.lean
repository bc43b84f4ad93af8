/-  Operations one behind the other. -/
import Derived.Test.YtmimkinjcfekmaaGreatFi
namespace Go.Proofs.YtmimkinjcfekmaaGreat.Ev
open Go Go.RowKit
set_option linter.unusedVariables false
set_option linter.unusedSimpArgs false
set_option linter.unnecessarySimpa false
def Bu(P:Program)(C:Av):Prop:=∀f args k,C f args k→∃r,Holds P f args r∧k r
def Gu(P:Program)(X:Tc):Prop:=∀f args ob k,X f args ob k→Cs P f args ob k
section
variable {P:Program} {C:Av} {X:Tc} {ban:List Nat}
theorem T3(st:St):∀(ps:List (Nat×Nat×Operand)) (cells:List PV) (k:List PV→Prop),Oo st cells ps k→∃l,k l∧∀k':List PV→Prop,k' l→Oo st cells ps k':=by
 intro ps
 induction ps with
 |nil=>intro cells k h;exact ⟨cells,h,fun k' h'=>h'⟩
 |cons p ps ih=>
  obtain ⟨off,sz,x⟩:=p
  intro cells k h
  simp only [Oo] at h ⊢
  cases g1:Ir (st.opd x).cells sz<;>cases g2:Jt (st.opd x).cells<;>cases g3:G5 cells (off+sz)<;>simp only [g1,g2,g3] at h ⊢ <;>first|exact h.elim|exact ih _ _ h
theorem Tw(st:St)(sz:Nat):∀(ps:List Operand) (k:List (List PV)→Prop),Ng st sz ps k→∃l,k l∧∀k':List (List PV)→Prop,k' l→Ng st sz ps k':=by
 intro ps
 induction ps with
 |nil=>intro k h;exact ⟨[],h,fun k' h'=>h'⟩
 |cons x ps ih=>
  intro k h
  simp only [Ng] at h ⊢
  cases g1:Ir (st.opd x).cells sz<;>cases g2:Jt (st.opd x).cells<;>simp only [g1,g2] at h ⊢ <;>first
   |exact h.elim
   |(obtain ⟨l,h1,h2⟩:=ih _ h;exact ⟨_,h1,fun k' hk=>h2 (fun l=>k' ((st.opd x).cells.map PV.view::l)) hk⟩)
theorem Qy{α :Type} :∀(s:Sem α) (k: α→Prop),Qx P s k→∃x,k x∧∀k': α→Prop,k' x→Qx P s k':=by
 intro s
 induction s with
 |pure a=>intro k h;exact ⟨a,h,fun k' h'=>h'⟩
 |program f ih=>intro k h;exact ih P k h
 |_=>intro k h;exact h.elim
theorem N4(hC:Bu P C)(hX:Gu P X)(o:K)(d:Option Nat)(st:St)(k:Ap→Prop)(h:Ad P C X ban o d st k):∃δ,k δ∧∀k':Ap→Prop,k' δ→Ad P (Cv P) (Cs P) ban o d st k':=by
 have one:∀(δ :Ap),k δ→∃δ,k δ∧∀k':Ap→Prop,k' δ→k' δ :=fun δ h=>⟨δ,h,fun k' h'=>h'⟩
 cases o with
 |move x=>exact ⟨_,h,fun k' h'=>h'⟩
 |nilsl e=>
  simp only [Ad,Ac] at h ⊢
  split at h
  ·exact ⟨_,h,fun k' h'=>h'⟩
  ·exact h.elim
 |take s=>cases d with
  |none=>exact h.elim
  |some d=>exact ⟨_,h,fun k' h'=>h'⟩
 |pick c x y=>
  simp only [Ad,Ac] at h ⊢
  split at h
  ·rename_i t hq
   cases t<;>exact ⟨_,h,fun k' h'=>h'⟩
  ·exact h.elim
 |alloc z=>
  simp only [Ad,Ac] at h ⊢
  cases d with
  |none=>exact h.elim
  |some s=>
   simp only at h ⊢
   split at h
   ·rename_i g1;exact ⟨_,h,fun k' h'=>h'⟩
   ·exact h.elim
 |box x=>
  simp only [Ad,Ac] at h ⊢
  cases d with
  |none=>exact h.elim
  |some s=>
   simp only at h ⊢
   split at h
   ·rename_i g1 g2;exact ⟨_,h,fun k' h'=>h'⟩
   ·exact h.elim
 |build z parts=>
  simp only [Ad,Ac] at h ⊢
  obtain ⟨l,h1,h2⟩:=T3 st _ _ _ h
  exact ⟨_,h1,fun k' hk=>h2 (fun l=>k' (dput d (.agg l))) hk⟩
 |bslice e sz parts=>
  simp only [Ad,Ac] at h ⊢
  obtain ⟨l,h1,h2⟩:=Tw st _ _ _ h
  have:∃δ,k δ∧∀k':Ap→Prop,k' δ→(match LX.lit e l with
    |some x=>match Nat.beq x.sz sz with
     |true=>k' (dput d (.lst true x))
     |false=>False
    |none=>k' (dput d (.sl true e sz l))):=by
   cases hl:LX.lit e l with
   |none=>rw [hl] at h1;exact ⟨_,h1,fun k' h'=>h'⟩
   |some x=>
    rw [hl] at h1
    simp only at h1 ⊢
    cases hb:Nat.beq x.sz sz with
    |false=>rw [hb] at h1;exact h1.elim
    |true=>rw [hb] at h1;exact ⟨_,h1,fun k' h'=>h'⟩
  obtain ⟨δ,h3,h4⟩:=this
  exact ⟨δ,h3,fun k' hk=>h2 _ (h4 k' hk)⟩
 |load g sz x=>
  simp only [Ad,Ac] at h ⊢
  split at h
  ·rename_i b off hq
   split at h
   ·exact ⟨_,h,fun k' h'=>h'⟩
   ·exact h.elim
  ·split at h
   ·exact ⟨_,h,fun k' h'=>h'⟩
   ·exact h.elim
  ·rename_i b sz' i off hq
   split at h
   ·rename_i y g1 g2
    split at h
    ·exact ⟨_,h,fun k' h'=>h'⟩
    ·exact h.elim
   ·exact h.elim
  ·exact h.elim
 |loadT x=>
  simp only [Ad,Ac] at h ⊢
  split at h
  ·split at h
   ·exact ⟨_,h,fun k' h'=>h'⟩
   ·exact h.elim
  ·exact h.elim
 |store sz x y=>
  simp only [Ad,Ac] at h ⊢
  split at h
  ·split at h
   ·exact ⟨_,h,fun k' h'=>h'⟩
   ·exact h.elim
  ·split at h
   ·split at h
    ·exact ⟨_,h,fun k' h'=>h'⟩
    ·exact h.elim
   ·exact h.elim
  ·exact h.elim
 |storeT x s=>
  simp only [Ad,Ac] at h ⊢
  split at h
  ·split at h
   ·exact ⟨_,h,fun k' h'=>h'⟩
   ·exact h.elim
  ·split at h
   ·split at h
    ·exact ⟨_,h,fun k' h'=>h'⟩
    ·exact h.elim
   ·exact h.elim
  ·exact h.elim
 |scal o=>
  simp only [Ad,Wh] at h ⊢
  cases g1:K7 st o.op.operands.toList with
  |false=>rw [g1] at h;exact h.elim
  |true=>
   simp only [g1] at h ⊢
   obtain ⟨n,h1,h2⟩:=Qy _ _ h
   cases n with
   |value v=>
    simp only at h1
    cases g2:Rx v with
    |false=>rw [g2] at h1;exact h1.elim
    |true=>
     simp only [g2] at h1
     exact ⟨_,h1,fun k' hk=>h2 _ (by simp only [g2];exact hk)⟩
   |_=>exact h1.elim
 |bin2 tag x y=>
  simp only [Ad,Ac] at h ⊢
  split at h
  ·split at h
   ·rename_i c r hb
    cases c with
    |true=>exact ⟨_,h,fun k' h'=>h'⟩
    |false=>exact h.elim
   ·exact h.elim
  ·unfold Rq at h ⊢
   split at h
   ·split at h
    ·simp only [Ac] at h ⊢
     exact ⟨_,h.2,fun k' h'=>⟨h.1,h'⟩⟩
    ·simp only [Ac] at h ⊢
     exact ⟨_,h.2,fun k' h'=>⟨h.1,h'⟩⟩
    ·exact h.elim
   ·exact h.elim
  ·exact h.elim
 |eqA neg ts x y=>
  simp only [Ad,Ac] at h ⊢
  split at h
  ·split at h
   ·cases neg<;>exact ⟨_,h,fun k' h'=>h'⟩
   ·exact h.elim
  ·exact h.elim
 |field off x=>
  simp only [Ad,Ac] at h ⊢
  split at h<;>first|exact h.elim|exact ⟨_,h,fun k' h'=>h'⟩
 |index sz x i=>
  simp only [Ad,Ac] at h ⊢
  split at h
  ·split at h<;>first|exact h.elim|exact ⟨_,h.2.2,fun k' h'=>⟨h.1,h.2.1,h'⟩⟩
  ·split at h
   ·split at h
    ·exact ⟨_,h.2.2,fun k' h'=>⟨h.1,h.2.1,h'⟩⟩
    ·exact h.elim
   ·exact h.elim
  ·exact h.elim
 |len x=>
  simp only [Ad,Ac] at h ⊢
  split at h
  ·exact ⟨_,h,fun k' h'=>h'⟩
  ·exact ⟨_,h,fun k' h'=>h'⟩
  ·split at h
   ·exact ⟨_,h,fun k' h'=>h'⟩
   ·exact h.elim
 |cap x=>
  simp only [Ad,Ac] at h ⊢
  split at h
  ·exact ⟨_,h,fun k' h'=>h'⟩
  ·exact h.elim
 |app e sz by_ s x=>
  simp only [Ad,Ac] at h ⊢
  cases d with
  |none=>exact h.elim
  |some d=>
   simp only at h ⊢
   split at h
   ·split at h
    ·exact ⟨_,h.2.2,fun k' hk=>⟨h.1,h.2.1,hk⟩⟩
    ·exact h.elim
   ·split at h
    ·exact ⟨_,h,fun k' h'=>h'⟩
    ·exact h.elim
   ·split at h
    ·exact ⟨_,h.2.2,fun k' hk=>⟨h.1,h.2.1,hk⟩⟩
    ·exact h.elim
   ·exact h.elim
 |clone cm e sz by_ s x=>
  simp only [Ad,Ac] at h ⊢
  split at h
  ·split at h
   ·split at h
    ·rename_i own q _
     split at h
     ·cases hb:Nat.beq q.len 0 with
      |true=>rw [hb] at h;exact ⟨_,h,fun k' h'=>h'⟩
      |false=>rw [hb] at h;exact ⟨_,h.2.2,fun k' hk=>⟨h.1,h.2.1,hk⟩⟩
     ·exact h.elim
    ·exact h.elim
   ·exact h.elim
  ·exact h.elim
 |call f args=>
  simp only [Ad,Ac] at h ⊢
  cases g1:Jq st ban args with
  |false=>rw [g1] at h;exact h.elim
  |true=>
   simp only [g1] at h ⊢
   obtain ⟨r,h1,h2⟩:=hC _ _ _ h
   exact ⟨_,h2,fun k' hk=>⟨r,h1,hk⟩⟩
 |icall f args=>
  simp only [Ad,Ac] at h ⊢
  obtain ⟨hc,r,o',h1,h2⟩:=hX _ _ _ _ h
  exact ⟨_,h2,fun k' hk=>⟨hc,r,o',h1,hk⟩⟩
 |callv x args=>
  simp only [Ad,Ac] at h ⊢
  split at h
  ·obtain ⟨hc,r,o',h1,h2⟩:=hX _ _ _ _ h
   exact ⟨_,h2,fun k' hk=>⟨hc,r,o',h1,hk⟩⟩
  ·exact h.elim
 |mkfn f n caps=>exact ⟨_,h,fun k' h'=>h'⟩
 |extract x i=>
  simp only [Ad,Ac] at h ⊢
  split at h
  ·split at h
   ·exact ⟨_,h,fun k' h'=>h'⟩
   ·exact h.elim
  ·exact h.elim
 |nil x=>
  simp only [Ad,Ac] at h ⊢
  split at h<;>first|exact h.elim|exact ⟨_,h,fun k' h'=>h'⟩
 |mksl e sz by_ z n=>
  simp only [Ad,Ac] at h ⊢
  split at h
  ·split at h
   ·split at h
    ·exact ⟨_,h,fun k' h'=>h'⟩
    ·exact h.elim
   ·split at h
    ·split at h
     ·exact ⟨_,h.2.2.2,fun k' hk=>⟨h.1,h.2.1,h.2.2.1,hk⟩⟩
     ·exact h.elim
    ·exact h.elim
  ·exact h.elim
 |mkcap e sz by_ n=>
  simp only [Ad,Ac] at h ⊢
  split at h
  ·split at h
   ·exact ⟨_,h.2.2.2,fun k' hk=>⟨h.1,h.2.1,h.2.2.1,hk⟩⟩
   ·exact h.elim
  ·exact h.elim
 |slc sz x lo hi mx=>
  simp only [Ad,Ac] at h ⊢
  split at h
  ·split at h
   ·split at h
    ·split at h
     ·exact ⟨_,h.2.2.2.2,fun k' hk=>⟨h.1,h.2.1,h.2.2.1,h.2.2.2.1,hk⟩⟩
     ·exact h.elim
    ·exact h.elim
   ·exact h.elim
  ·exact h.elim
 |sstr x lo hi=>
  simp only [Ad,Ac] at h ⊢
  split at h
  ·split at h
   ·split at h
    ·exact ⟨_,h.2.2.2,fun k' hk=>⟨h.1,h.2.1,h.2.2.1,hk⟩⟩
    ·exact h.elim
   ·exact h.elim
  ·exact h.elim
 |mkmap gk gv ks vs=>
  simp only [Ad,Ac] at h ⊢
  cases d with
  |none=>exact h.elim
  |some s=>
   simp only at h ⊢
   split at h
   ·exact ⟨_,h,fun k' h'=>h'⟩
   ·exact h.elim
 |lookup gq ts ok g z m q=>
  simp only [Ad,Ac] at h ⊢
  split at h
  ·split at h
   ·split at h
    ·rename_i r _ _ _
     cases r<;>exact ⟨_,h,fun k' h'=>h'⟩
    ·exact h.elim
   ·exact h.elim
  ·exact h.elim
 |mapup gq ts m q v=>
  simp only [Ad,Ac] at h ⊢
  split at h
  ·split at h
   ·split at h
    ·rename_i r c _ _ _
     cases r with
     |none=>
      simp only [fk] at h ⊢
      split at h
      ·exact ⟨_,h,fun k' h'=>h'⟩
      ·exact h.elim
     |some i=>
      simp only [fk] at h ⊢
      split at h
      ·exact ⟨_,h,fun k' h'=>h'⟩
      ·exact h.elim
    ·exact h.elim
   ·exact h.elim
  ·exact h.elim
 |del m q=>exact h.elim
 |aidx off sz g x=>
  simp only [Ad,Ac] at h ⊢
  split at h
  ·split at h
   ·exact ⟨_,h,fun k' h'=>h'⟩
   ·exact h.elim
  ·exact h.elim
 |stop=>exact h.elim
end
end Go.Proofs.YtmimkinjcfekmaaGreat.Ev
