/-  Regions, code, functions. -/
import Derived.Test.YtmimkinjcfekmaaGreatFk
namespace Go.Proofs.YtmimkinjcfekmaaGreat.Ev
open Go Go.RowKit
set_option linter.unusedVariables false
set_option linter.unusedSimpArgs false
set_option linter.unnecessarySimpa false
section
variable {ι :Type} {cx: ι→PV×Value} {P:Program} {C:Av} {X:Tc} {inl:Nat→Bool} {once:Nat} {ban:List Nat} {w0 w:World} {N M:It} {β :Ha} {nt:Nat} {st:St} {a:Act}
theorem Re{os:Array Oper} :∀(l:List Oper) (es:List B5),X3 P inl once os l=some es→es.length=l.length∧
  ∀(i:Nat) (o:Oper),l[i]? =some o→∃eo,es[i]? =some eo∧N5 P inl once o=eo.k∧eo.dst=o.dst∧Oz os o.guard=some eo.g:=by
 intro l
 induction l with
 |nil=>intro es h;simp [X3] at h;subst h;exact ⟨rfl,fun i o h=>by simp at h⟩
 |cons o l ih=>
  intro es h
  simp only [X3] at h
  cases h2:Oz os o.guard with
  |none=>rw [h2] at h;cases h
  |some g=>
   cases h3:X3 P inl once os l with
   |none=>rw [h2,h3] at h;cases h
   |some es'=>
    rw [h2,h3] at h
    injection h with h
    subst h
    obtain ⟨e1,e2⟩:=ih es' h3
    refine ⟨by simp [e1],fun i o' hi=> ?_⟩
    cases i with
    |zero=>simp at hi;subst hi;exact ⟨_,rfl,rfl,rfl,h2⟩
    |succ i=>exact e2 i o' (by simpa using hi)
theorem n3{o:Oper}{k:K}(h:N5 P inl once o=k):∀o',k= .scal o'→∀cs b,o'.op≠ .select cs b:=by
 intro o' hk cs b hb
 subst hk
 have nk:∀x ty k,Aal P x ty k= .scal o'→k= .scal o':=by
  intro x ty k h
  unfold Aal at h
  split at h
  ·cases h
  ·exact h
 have key:o'=o:=by
  obtain ⟨dst,op,type,pos,after,guard⟩:=o
  unfold N5 at h
  split at h
  ·have:=nk _ _ _ h
   unfold V6 at this
   split at this
   ·split at this<;>cases this
   ·cases this
  ·have:=nk _ _ _ h
   unfold Wo at this
   split at this<;>cases this
  all_goals try (unfold Y2 at h)
  all_goals try (unfold m0 at h)
  all_goals (repeat' (split at h))
  all_goals first|(injection h with h;exact h.symm)|(cases h;done)|skip
 subst key
 unfold N5 at h
 rw [hb] at h
 cases h
theorem Sc:∀(l:List B5),Nf nt l=true→∀eo∈l,∀x,eo.dst=some x→x < nt:=by
 intro l
 induction l with
 |nil=>intro _ eo h;cases h
 |cons e l ih=>
  intro h eo hm x hx
  simp only [Nf] at h
  have h2:Nf nt l=true∧(∀x,e.dst=some x→x < nt):=by
   cases hd:e.dst with
   |none=>rw [hd] at h;exact ⟨h,fun x hx=>by cases hx⟩
   |some d=>
    rw [hd] at h
    simp only at h
    cases hb:Nat.blt d nt with
    |false=>rw [hb] at h;cases h
    |true=>
     rw [hb] at h
     exact ⟨h,fun x hx=>by injection hx with hx;subst hx;exact Nat.le_of_ble_eq_true hb⟩
  rcases List.mem_cons.1 hm with e1|e1
  ·subst e1;exact h2.2 x hx
  ·exact ih h2.1 eo e1 x hx
theorem Sl{os:Array Oper}{o:Oper}{eo:B5}{δ :Ap}(h:SR cx w0 N nt st a w M β)(hs:Gs P ban eo st δ)(hc:N5 P inl once o=eo.k)(hdst:eo.dst=o.dst)
  (hg:Oz os o.guard=some eo.g) (hd:∀x,o.dst=some x→x < nt) {K:Act→World→Prop} {Q:Exit→Act→World→Prop}
  (hK:∀a' w' M' β',SR cx w0 N nt (st.app δ) a' w' M' β'→K a' w'):
  if Region.wanted o (yielded os a.tmps)=true then o.wp P a w K Q else K (a.put o.dst undef) w:=by
 unfold Gs at hs
 cases hog:o.guard with
 |none=>
  rw [hog] at hg
  simp only [Oz,Option.some.injEq] at hg
  rw [←hg] at hs
  have hw:Region.wanted o (yielded os a.tmps)=true:=by simp [Region.wanted,hog]
  rw [if_pos hw]
  rw [hdst] at hs
  rw [←hc] at hs
  exact U5 h hd hs K Q hK
 |some jw=>
  obtain ⟨j,want⟩:=jw
  rw [hog] at hg
  simp only [Oz] at hg
  cases hj:(os[j]?).bind (·.dst) with
  |none=>rw [hj] at hg;cases hg
  |some s=>
   rw [hj] at hg
   simp only [Option.some.injEq] at hg
   rw [←hg] at hs
   simp only at hs
   rcases hs with ⟨t,h1,h2,h3⟩|⟨h1,h3⟩
   rotate_left
   ·have hreg:=h.reg s
    rw [h1] at hreg
    have hv:a.tmps.getD s undef=undef:=by
     generalize a.tmps.getD s undef=u at hreg ⊢
     cases hreg with
     |row p s hs=>cases hs
     |tup l cs hl hr=>
      have:cs= []:=List.eq_nil_of_length_eq_zero (by simpa using hl.symm)
      subst this;rfl
    have hy:yielded os a.tmps j=none:=by
     unfold yielded
     rw [hj]
     cases hx:a.tmps[s]? with
     |none=>simp [hx]
     |some u=>
      rw [Array.getD_eq_getD_getElem?,hx] at hv
      simp at hv
      subst hv
      simp [hx,undef]
    have hw:¬Region.wanted o (yielded os a.tmps)=true:=by simp [Region.wanted,hog,hy]
    rw [if_neg hw]
    rw [hdst] at h3
    subst h3
    exact hK _ _ _ _ (h.dput o.dst (.tup []) undef hd (.tup [] [] rfl (fun i p v hp=>by simp at hp)) (Dh rfl))
   have hreg:=h.reg s
   rw [h1] at hreg
   have hv:=hreg.val_eq
   have hy:yielded os a.tmps j=some t:=by
    unfold yielded
    rw [hj]
    have:a.tmps[s]? =some (.bool t):=by
     cases hx:a.tmps[s]? with
     |none=>
      rw [Array.getD_eq_getD_getElem?,hx] at hv
      simp [undef] at hv
     |some u=>
      rw [Array.getD_eq_getD_getElem?,hx] at hv
      simpa using hv
    simp [this]
   by_cases e:t=want
   ·have hw:Region.wanted o (yielded os a.tmps)=true:=by simp [Region.wanted,hog,hy,e]
    rw [if_pos hw]
    have hs':=h2 e
    rw [hdst] at hs'
    rw [←hc] at hs'
    exact U5 h hd hs' K Q hK
   ·have hw:¬Region.wanted o (yielded os a.tmps)=true:=by simp [Region.wanted,hog,hy,e]
    rw [if_neg hw]
    have hδ :=h3 e
    rw [hdst] at hδ
    subst hδ
    exact hK _ _ _ _ (h.dput o.dst (.tup []) undef hd (.tup [] [] rfl (fun i p v hp=>by simp at hp)) (Dh rfl))
inductive Reach (os:List Oper):Nat→Nat→Prop
 |one (j:Nat) (o:Oper) (i:Nat) (ho:os[j]? =some o) (hi:i∈J0 o):Reach os j i
 |more (j:Nat) (o:Oper) (e i:Nat) (ho:os[j]? =some o) (he:e∈J0 o) (hr:Reach os e i):Reach os j i
theorem Y4(acc:List Nat):∀(l:List Nat) (i:Nat),Nat.testBit (Ud acc l) i=true→∃e∈l,i=e∨Nat.testBit (acc.getD e 0) i=true:=by
 intro l
 induction l with
 |nil=>intro i h;simp [Ud] at h
 |cons e l ih=>
  intro i h
  simp only [Ud,Nat.testBit_or,Bool.or_eq_true] at h
  rcases h with (h|h)|h
  ·refine ⟨e,by simp,.inl ?_⟩
   rw [Nat.one_shiftLeft,Nat.testBit_two_pow] at h
   simp at h
   omega
  ·exact ⟨e,by simp,.inr h⟩
  ·obtain ⟨e',h1,h2⟩:=ih i h
   exact ⟨e',List.mem_cons_of_mem _ h1,h2⟩
theorem x9(os:List Oper):∀(l:List Oper) (acc:List Nat),(∀k o,l[k]? =some o→os[acc.length+k]? =some o)→
  (∀j i,Nat.testBit (acc.getD j 0) i=true→Reach os j i)→∀j i,Nat.testBit ((Ad9 l acc).getD j 0) i=true→Reach os j i:=by
 intro l
 induction l with
 |nil=>intro acc _ h;exact h
 |cons o l ih=>
  intro acc hl h
  simp only [Ad9]
  refine ih _ (fun k o' hk=> ?_) (fun j i hb=> ?_)
  ·have:=hl (k+1) o' (by simpa using hk)
   rw [List.length_append,List.length_singleton,Nat.add_assoc,Nat.add_comm 1 k];exact this
  ·have ho:os[acc.length]? =some o:=by have:=hl 0 o rfl;simpa using this
   rcases Nat.lt_trichotomy j acc.length with h1|h1|h1
   ·rw [List.getD_eq_getElem?_getD,List.getElem?_append_left h1,←List.getD_eq_getElem?_getD] at hb
    exact h j i hb
   ·subst h1
    rw [List.getD_eq_getElem?_getD,List.getElem?_append_right (Nat.le_refl _)] at hb
    simp at hb
    obtain ⟨e,he,hor⟩:=Y4 acc _ i hb
    rcases hor with rfl|hor
    ·exact .one _ o _ ho he
    ·exact .more _ o e i ho he (h e i hor)
   ·rw [List.getD_eq_getElem?_getD,List.getElem?_append_right (by omega),List.getElem?_eq_none (by simp;omega)] at hb
    simp at hb
theorem L1{n:Nat}{p:Nat→Bool}(h:Ev.below n p=true):∀i,i < n→p i=true:=by
 induction n with
 |zero=>intro i hi;omega
 |succ n ih=>
  simp only [Ev.below] at h
  cases hp:p n with
  |false=>rw [hp] at h;cases h
  |true=>
   rw [hp] at h
   intro i hi
   by_cases e:i=n
   ·subst e;exact hp
   ·exact ih h i (by omega)
theorem X2{p:Nat→Bool} :∀ {n:Nat},Ev.below n p=false→∃k,k < n∧p k=false:=by
 intro n
 induction n with
 |zero=>intro h;cases h
 |succ n ih=>
  intro h
  simp only [Ev.below] at h
  cases hp:p n with
  |false=>exact ⟨n,by omega,hp⟩
  |true=>
   rw [hp] at h
   obtain ⟨k,h1,h2⟩:=ih h
   exact ⟨k,by omega,h2⟩
theorem Sv(j:Nat):∀(l:List Nat),L5 j l=true→∀e∈l,e < j:=by
 intro l
 induction l with
 |nil=>intro _ e h;cases h
 |cons x l ih=>
  intro h e he
  simp only [L5] at h
  cases hb:Nat.blt x j with
  |false=>rw [hb] at h;cases h
  |true=>
   rw [hb] at h
   rcases List.mem_cons.1 he with e1|e1
   ·subst e1;exact Nat.le_of_ble_eq_true hb
   ·exact ih h e e1
theorem Y6{o:Oper}{e:Edge}(he:e∈o.after)(hb:Region.binds .any e=true):e.on∈J0 o:=
 List.mem_map.2 ⟨e,List.mem_filter.2 ⟨by simpa using he,hb⟩,rfl⟩
theorem Ya{o:Oper}{i:Nat}(h:i∈J0 o):∃e∈o.after,Region.binds .any e=true∧e.on=i:=by
 obtain ⟨e,he,rfl⟩:=List.mem_map.1 h
 obtain ⟨h1,h2⟩:=List.mem_filter.1 he
 exact ⟨e,by simpa using h1,h2,rfl⟩
theorem Rp(x y:List Nat):Nl x y=true↔∃s,s∈x∧s∈y:=by
 simp only [Nl,List.any_eq_true]
 constructor
 ·rintro ⟨s,h1,t,h2,h3⟩
  have:=Ar h3
  subst this
  exact ⟨s,h1,h2⟩
 ·rintro ⟨s,h1,h2⟩
  exact ⟨s,h1,s,h2,Nat.beq_refl s⟩
theorem E6{ap:List (Nat×Nat)}{fx fy:Bool}{x y:B5}(h:Hs ap fx x fy y=false):(∀s,s∈x.writes→s∉y.reads)∧(∀s,s∈x.writes→s∉y.writes)∧(∀s,s∈x.reads→s∉y.writes)∧
  (x.k.isStore=true→y.k.heapy=true→Ij ap x y=true∨Tv fx x.k fy y.k=true)∧(x.k.heapy=true→y.k.isStore=true→Ij ap x y=true∨Tv fx x.k fy y.k=true):=by
 simp only [Hs,Bool.or_eq_false_iff] at h
 obtain ⟨⟨⟨h1,h2⟩,h3⟩,h4⟩:=h
 have no:∀a b,Nl a b=false→∀s,s∈a→s∉b:=fun a b hm s ha hb=>by
  rw [(Rp a b).2 ⟨s,ha,hb⟩] at hm;cases hm
 refine ⟨no _ _ h1,no _ _ h2,no _ _ h3,fun g1 g2=> ?_,fun g1 g2=> ?_⟩
 ·rw [g1,g2] at h4
  cases hf:Ij ap x y with
  |true=>exact .inl rfl
  |false=>rw [hf] at h4;simp at h4;exact .inr h4
 ·rw [g1,g2] at h4
  cases hf:Ij ap x y with
  |true=>exact .inl rfl
  |false=>rw [hf] at h4;simp at h4;exact .inr h4
theorem z8{fx fy:Bool}{x y:K}(h:Tv fx x fy y=true):x.isLoad=true∨y.isLoad=true:=by
 simp only [Tv,Bool.or_eq_true,Bool.and_eq_true] at h
 rcases h with h|h
 ·exact .inr h.2
 ·exact .inl h.1
theorem Aaa(fx fy:Bool)(x y:K):Tv fx x fy y=Tv fy y fx x:=by
 unfold Tv
 cases x.isTake<;>cases y.isTake<;>cases x.isLoad<;>cases y.isLoad<;>cases fx<;>cases fy<;>rfl
theorem Cr{k:K}(h:k.isStore=true):k.isLoad=false:=by cases k<;>first|rfl|cases h
theorem Il{k:K}(h:k.makes=true):k.isLoad=false:=by cases k<;>first|rfl|cases h
theorem Zt{k:K}(h:k.wild=true):k.isLoad=false:=by cases k<;>first|rfl|cases h
theorem Jd{ap:List (Nat×Nat)}{fx fy:Bool}{x y:B5}(h:Ij ap x y=true∨Tv fx x.k fy y.k=true)(h1:x.k.isLoad=false)(h2:y.k.isLoad=false):Ij ap x y=true:=by
 rcases h with h|h
 ·exact h
 ·rcases z8 h with h|h
  ·rw [h1] at h;cases h
  ·rw [h2] at h;cases h
theorem Jf{k:K}(h:k.makes=true):k.heapy=true:=by cases k<;>first|rfl|cases h
theorem Nv{k:K}(h:k.isStore=true):k.heapy=true:=by cases k<;>first|rfl|cases h
theorem Aas{eo:B5}{x:Operand}(hx:x∈eo.k.opds){t:Nat}(ht:x= .tmp t):t∈eo.reads:=by
 subst ht
 have:∀(l:List Operand),.tmp t∈l→t∈Jv l:=by
  intro l
  induction l with
  |nil=>intro h;cases h
  |cons y l ih=>
   intro h
   rcases List.mem_cons.1 h with e|e
   ·subst e;simp [Jv]
   ·cases y<;>simp only [Jv]<;>first|exact List.mem_cons_of_mem _ (ih e)|exact ih e
 simp only [B5.reads,List.mem_append]
 exact .inl (this _ hx)
end
end Go.Proofs.YtmimkinjcfekmaaGreat.Ev
