/-  Regions in any order; code; functions. -/
import Derived.Test.YtmimkinjcfekmaaGreatFl
namespace Go.Proofs.YtmimkinjcfekmaaGreat.Ev
open Go Go.RowKit
set_option linter.unusedVariables false
set_option linter.unusedSimpArgs false
set_option linter.unnecessarySimpa false
section
variable {ι :Type} {cx: ι→PV×Value} {P:Program} {C:Av} {X:Tc} {inl:Nat→Bool} {once:Nat} {ban:List Nat} {w0 w:World} {N M:It} {β :Ha} {nt:Nat} {st:St} {a:Act}
def D3(listed:Array Bool):Nat→Bool:=fun i=>listed.getD i false
theorem SR.weak{st':St}(h:SR cx w0 N nt st a w M β)(hg:∀x,st'.get x=st.get x∨st'.get x= .any)(ho:∀d,st'.obj d=st.obj d)(hk:∀d,Ag d (st'.ob.map Prod.fst)=Ag d (st.ob.map Prod.fst)):SR cx w0 N nt st' a w M β :=by
 refine ⟨h.defs,h.nt,h.sh.perm (fun k=> ?_) (fun d b n hd=>by rw [ho];exact (h.sh.box d b n hd).2.2) (fun d hd=>h.sh.dom d (by rw [←hk];exact hd)) some (fun key s v hw=>⟨key,rfl,?_⟩) (fun k k' j h1 h2=>by injection h1 with h1;injection h2 with h2;rw [h1,h2])⟩
 ·cases k with
  |inl s=>
   rcases hg s with e|e
   ·show Al _ _ _ _ (st'.get s) _
    rw [e];exact h.sh.reg (.inl s)
   ·show Al _ _ _ _ (st'.get s) _
    rw [e];exact .any _
  |inr i=>exact h.sh.reg (.inr i)
 ·cases key with
  |slot k=>
   cases k with
   |inl t=>
    obtain ⟨h1,h2,h3⟩:=hw
    simp only [hold] at h1
    rcases hg t with e|e
    ·rw [e] at h1;exact ⟨h1,h2,h3⟩
    ·rw [e] at h1;cases h1
   |inr i=>exact hw
  |cell d i=>
   obtain ⟨b,n,p,h1,h2,h3⟩:=hw
   rw [ho] at h2
   exact ⟨b,n,p,h1,h2,h3⟩
def Ahz(P:Program)(inl:Nat→Bool)(once nt:Nat)(os:Array Oper)(i:Nat)(eo:B5):Prop:=
 ∃o,os[i]? =some o∧N5 P inl once o=eo.k∧eo.dst=o.dst∧Oz os o.guard=some eo.g∧∀x,o.dst=some x→x < nt
theorem We{os:Array Oper}{l:List B5}{δs:List Ap}{st':St}(hr:Wq P ban l st δs st'){Q:Exit→Act→World→Prop} :∀(i k:Nat),i+k=os.size→l.length≤k→
  (∀j eo,l[j]? =some eo→Ahz P inl once nt os (i+j) eo)→∀(a:Act) (w:World) (M:It) (β :Ha),SR cx w0 N nt st a w M β→
  (∀a' w' M' β',SR cx w0 N nt st' a' w' M' β'→wpOps P os Q (List.range' (i+l.length) (k - l.length)) a' w')→wpOps P os Q (List.range' i k) a w:=by
 induction hr with
 |nil st=>intro i k _ _ _ a w M β h hQ;exact hQ _ _ _ _ h
 |cons eo l st st' δ δs h1 _ ih=>
  intro i k hi hk hh a w M β h hQ
  cases k with
  |zero=>simp at hk
  |succ k=>
   obtain ⟨o,ho,g2,g3,g4,hdst⟩:=hh 0 eo rfl
   rw [Nat.add_zero] at ho
   have key:=Sl (os:=os) (K:=wpOps P os Q (List.range' (i+1) k)) (Q:=Q) h h1 g2 g3 g4 hdst (fun a' w' M' β' h'=>
    ih (i+1) k (by omega) (by simp at hk;omega) (fun j e hj=>by have:=hh (j+1) e (by simpa using hj);rwa [show i+(j+1)=i+1+j by omega] at this) a' w' M' β' h' (fun a' w' M' β' h'=>by
     have:=hQ a' w' M' β' h'
     simp only [List.length_cons] at this
     rwa [show i+(l.length+1)=i+1+l.length by omega,show k+1 - (l.length+1)=k - l.length by omega] at this))
   rw [List.range'_succ]
   simp only [wpOps,ho]
   by_cases hw:Region.wanted o (yielded os a.tmps)=true
   ·rw [if_pos hw] at key ⊢;exact .inl key
   ·rw [if_neg hw] at key ⊢;exact key
theorem j4{k:K}(h:k.quiet=true):k.isStore=false∧k.makes=false:=by cases k<;>first|exact ⟨rfl,rfl⟩|cases h
theorem Xh{eo:B5}(h:eo.k.quiet=true):∀s∈eo.writes,eo.dst=some s:=by
 intro s hs
 obtain ⟨d,g,k⟩:=eo
 cases k<;>first|cases h|skip
 all_goals (cases d with
  |none=>simp [B5.writes] at hs
  |some d=>simp [B5.writes] at hs;subst hs;rfl)
theorem Aav{l:List B5}{δs:List Ap}{st':St}(hr:Wq P ban l st δs st'):(∀eo∈l,eo.k.quiet=true)→st'.ob=st.ob∧st'.base=st.base∧∀x,x∉(U8 l).map Prod.fst→st'.get x=st.get x:=by
 induction hr with
 |nil st=>intro _;exact ⟨rfl,rfl,fun _ _=>rfl⟩
 |cons eo l st st' δ δs h1 _ ih=>
  intro hq
  obtain ⟨i1,i2,i3⟩:=ih (fun e he=>hq e (List.mem_cons_of_mem _ he))
  have hqe:=hq eo (by simp)
  obtain ⟨f1,f2⟩:=Ul h1
  obtain ⟨q1,q2⟩:=j4 hqe
  have ho: δ.o= []:=by
   cases hd: δ.o with
   |nil=>rfl
   |cons x r=>
    rcases f2 x.1 (by rw [hd];simp) with f|f
    ·rw [q1] at f;cases f.1
    ·rw [q2] at f;cases f.1
  have hob:(st.app δ).ob=st.ob:=by simp [St.app,ho,Aep]
  refine ⟨i1.trans hob,i2,fun x hx=> ?_⟩
  have hx2:x∉(U8 l).map Prod.fst:=fun h=>hx (by unfold U8;cases eo.dst<;>simp_all)
  rw [i3 x hx2,Hb,if_neg]
  intro hm
  have:=Xh hqe x (f1 x hm)
  apply hx
  unfold U8
  rw [this]
  simp
theorem y5(l:List B5)(x:Nat):Bp .any (U8 l) x= .any:=by
 induction l with
 |nil=>rfl
 |cons eo l ih=>
  unfold U8
  cases eo.dst with
  |none=>exact ih
  |some d=>simp only;rw [Bi,ih];split<;>rfl
theorem Adq{l:List B5}{δs:List Ap}{st':St}(hr:Wq P ban l st δs st')(hq:∀eo∈l,eo.k.quiet=true){pd:Nat}{v:Bool}(hv:st'.get pd= .val (.bool v))(h:SR cx w0 N nt st' a w M β):SR cx w0 N nt (stJ st l pd v) a w M β :=by
 obtain ⟨i1,i2,i3⟩:=Aav hr hq
 refine h.weak (fun x=> ?_) (fun d=> ?_) (fun d=> ?_)
 ·unfold stJ
  rw [Hb]
  simp only [List.map_cons,List.mem_cons]
  by_cases e:x=pd
  ·subst e
   rw [if_pos (.inl rfl),Bi,if_pos rfl,hv];exact .inl rfl
  ·by_cases e2:x∈(U8 l).map Prod.fst
   ·rw [if_pos (.inr e2),Bi,if_neg (fun h=>e h.symm),y5];exact .inr rfl
   ·rw [if_neg (fun h=>h.elim e e2)];exact .inl (i3 x e2).symm
 ·show Bp [] (([]:List (Nat×List PV))++st.ob) d=Bp [] st'.ob d
  rw [i1];rfl
 ·show Ag d ((([]:List (Nat×List PV))++st.ob).map Prod.fst)=_
  rw [i1];rfl
inductive Sr (P:Program):List B5→St→St→Prop
 |nil (st:St):Sr P [] st st
 |cons (eo:B5) (l:List B5) (st st':St) (δ :Ap) (h:Gs P [] eo st δ) (hr:Sr P l (st.app δ) st'):Sr P (eo::l) st st'
 |join (B r:List B5) (st:St) (δs:List Ap) (st1 st':St) (pd:Nat) (v:Bool) (hB:Wq P [] B st δs st1) (hq:∀eo∈B,eo.k.quiet=true) (hv:st1.get pd= .val (.bool v)) (hr:Sr P r (stJ st B pd v) st'):Sr P (B++r) st st'
theorem Zi{s:Nat} :∀ {l B r:List B5} {pd:Nat},Pq s l=some (B,pd,r)→l=B++r∧∀eo∈B,eo.k.quiet=true:=by
 intro l
 induction l with
 |nil=>intro B r pd h;cases h
 |cons eo l ih=>
  intro B r pd h
  unfold Pq at h
  cases hq:eo.k.quiet with
  |false=>rw [hq] at h;cases h
  |true=>
   rw [hq] at h
   cases hg:eo.g with
   |some g=>
    rw [hg] at h
    simp only at h
    cases hs:Pq s l with
    |none=>rw [hs] at h;cases h
    |some x=>
     obtain ⟨B',pd',r'⟩:=x
     rw [hs] at h
     simp only [Option.some.injEq,Prod.mk.injEq] at h
     obtain ⟨rfl,rfl,rfl⟩:=h
     obtain ⟨e1,e2⟩:=ih hs
     exact ⟨by rw [e1];rfl,fun e he=>by
      rcases List.mem_cons.1 he with rfl|h
      ·exact hq
      ·exact e2 e h⟩
   |none=>
    rw [hg] at h
    simp only at h
    split at h
    ·split at h
     ·simp only [Option.some.injEq,Prod.mk.injEq] at h
      obtain ⟨rfl,rfl,rfl⟩:=h
      exact ⟨rfl,fun e he=>by simp at he;subst he;exact hq⟩
     ·cases h
    ·cases h
theorem Aaf(hC:Bu P C)(hX:Gu P X):∀(n:Nat) (l:List B5) (st st0:St) (k:St→Prop),(∀eo∈l,∀o',eo.k= .scal o'→∀cs b,o'.op≠ .select cs b)→Du st st0→Er P C X n l st k→
  ∃st1 st',Sr P l st0 st1∧Du st' st1∧k st':=by
 intro n
 induction n with
 |zero=>
  intro l st st0 k hsel he h
  cases l with
  |nil=>exact ⟨st0,st,.nil _,he,h⟩
  |cons _ _=>exact h.elim
 |succ n ih=>
  intro l st st0 k hsel he h
  cases l with
  |nil=>exact ⟨st0,st,.nil _,he,h⟩
  |cons eo l=>
   have hsel1:=hsel eo (by simp)
   have hsel2:∀eo∈l,∀o',eo.k= .scal o'→∀cs b,o'.op≠ .select cs b:=fun e hm=>hsel e (List.mem_cons_of_mem _ hm)
   have run1:∀(su:St),Du su st0→Ad P C X [] eo.k eo.dst su (fun δ =>Er P C X n l (su.app δ) k)→
     ∃δ,Ad P (Cv P) (Cs P) [] eo.k eo.dst st0 (fun δ'=> δ'= δ)∧∃st1 st',Sr P l (st0.app δ) st1∧Du st' st1∧k st':=by
    intro su hu hs
    obtain ⟨δ,h1,h2⟩:=N4 hC hX _ _ _ _ hs
    exact ⟨δ,Mg (hu.agree _ _ hsel1) (h2 (fun δ'=> δ'= δ) rfl),ih _ _ _ _ hsel2 (hu.app δ) h1⟩
   simp only [Er] at h
   cases hg:eo.g with
   |none=>
    rw [hg] at h
    obtain ⟨δ,h1,st1,st',h2,h3,h4⟩:=run1 st he h
    exact ⟨st1,st',.cons eo l st0 st1 δ (by unfold Gs;rw [hg];exact h1) h2,h3,h4⟩
   |some sw=>
    obtain ⟨s,want⟩:=sw
    rw [hg] at h
    simp only at h
    cases hq:st.get s with
    |val v=>
     rw [hq] at h
     cases v with
     |bool t=>
      simp only at h
      have hq0:st0.get s= .val (.bool t):=by rw [←he.get,hq]
      have hu:Du (st.put s (.val (.bool t))) st0:=(Acx hq).trans he
      cases hsp:Pq s (eo::l) with
      |some x=>
       obtain ⟨B,pd,r'⟩:=x
       rw [hsp] at h
       obtain ⟨e1,e2⟩:=Zi hsp
       simp only [jn] at h
       have go:∀su,Du su st0→E7 P C X [] B su (Sj pd (fun b=>Er P C X n r' (stJ st B pd b) k))→∃st1 st',Sr P (eo::l) st0 st1∧Du st' st1∧k st':=by
        intro su hsu hs
        have hselB:∀eo∈B,∀o',eo.k= .scal o'→∀cs b,o'.op≠ .select cs b:=fun e hm=>hsel e (by rw [e1];exact List.mem_append_left _ hm)
        have hselr:∀eo∈r',∀o',eo.k= .scal o'→∀cs b,o'.op≠ .select cs b:=fun e hm=>hsel e (by rw [e1];exact List.mem_append_right _ hm)
        obtain ⟨δs,s1,s',h1,h2,h3⟩:=Vy hC hX B su st0 _ hselB hsu hs
        unfold Sj at h3
        split at h3
        ·rename_i b hb
         obtain ⟨st1,st',h4,h5,h6⟩:=ih r' (stJ st B pd b) (stJ st0 B pd b) k hselr (he.app _) h3
         refine ⟨st1,st',?_,h5,h6⟩
         rw [e1]
         exact .join B r' st0 δs s1 st1 pd b h1 e2 (by rw [←h2.get,hb]) h4
        ·exact h3.elim
       cases t<;>simp only [br] at h
       ·exact go _ hu h
       ·exact go _ hu h
      |none=>
       rw [hsp] at h
       have skip:Er P C X n l ((st.put s (.val (.bool t))).app (dput eo.dst (.tup []))) k→t≠want→
         ∃st1 st',Sr P (eo::l) st0 st1∧Du st' st1∧k st':=by
        intro hs hne
        obtain ⟨st1,st',h2,h3,h4⟩:=ih _ _ (st0.app (dput eo.dst (.tup []))) _ hsel2 (hu.app _) hs
        exact ⟨st1,st',.cons eo l st0 st1 _ (by unfold Gs;rw [hg];exact .inl ⟨t,hq0,fun e=>absurd e hne,fun _=>rfl⟩) h2,h3,h4⟩
       have take:Ad P C X [] eo.k eo.dst (st.put s (.val (.bool t))) (fun δ =>Er P C X n l ((st.put s (.val (.bool t))).app δ) k)→t=want→
         ∃st1 st',Sr P (eo::l) st0 st1∧Du st' st1∧k st':=by
        intro hs heq
        obtain ⟨δ,h1,st1,st',h2,h3,h4⟩:=run1 _ hu hs
        exact ⟨st1,st',.cons eo l st0 st1 δ (by unfold Gs;rw [hg];exact .inl ⟨t,hq0,fun _=>h1,fun e=>absurd heq e⟩) h2,h3,h4⟩
       cases t<;>cases want<;>simp only [br] at h<;>first|exact take h rfl|exact skip h (by decide)
     |_=>exact h.elim
    |tup l0=>
     rw [hq] at h
     cases l0 with
     |nil=>
      have hq0:st0.get s= .tup []:=by rw [←he.get,hq]
      obtain ⟨st1,st',h2,h3,h4⟩:=ih _ _ (st0.app (dput eo.dst (.tup []))) _ hsel2 (he.app _) h
      exact ⟨st1,st',.cons eo l st0 st1 _ (by unfold Gs;rw [hg];exact .inr ⟨hq0,rfl⟩) h2,h3,h4⟩
     |cons _ _=>exact h.elim
    |_=>rw [hq] at h;exact h.elim
theorem j8{os:Array Oper}{l:List B5}{st':St}(hr:Sr P l st st'){Q:Exit→Act→World→Prop} :∀(i k:Nat),i+k=os.size→l.length≤k→
  (∀j eo,l[j]? =some eo→Ahz P inl once nt os (i+j) eo)→∀(a:Act) (w:World) (M:It) (β :Ha),SR cx w0 N nt st a w M β→
  (∀a' w' M' β',SR cx w0 N nt st' a' w' M' β'→wpOps P os Q (List.range' (i+l.length) (k - l.length)) a' w')→wpOps P os Q (List.range' i k) a w:=by
 induction hr with
 |nil st=>intro i k _ _ _ a w M β h hQ;exact hQ _ _ _ _ h
 |cons eo l st st' δ h1 _ ih=>
  intro i k hi hk hh a w M β h hQ
  refine We (inl:=inl) (once:=once) (Wq.cons eo [] st (st.app δ) δ [] h1 (.nil _)) i k hi (by simp at hk ⊢;omega) (fun j e hj=> ?_) a w M β h (fun a' w' M' β' h'=> ?_)
  ·cases j with
   |zero=>simp at hj;subst hj;exact hh 0 eo rfl
   |succ j=>simp at hj
  ·refine ih (i+1) (k - 1) (by simp at hk;omega) (by simp at hk;omega) (fun j e hj=>by have:=hh (j+1) e (by simpa using hj);rwa [show i+(j+1)=i+1+j by omega] at this) a' w' M' β' h' (fun a' w' M' β' h'=> ?_)
   have:=hQ a' w' M' β' h'
   simp only [List.length_cons] at this
   rwa [show i+(l.length+1)=i+1+l.length by omega,show k - (l.length+1)=k - 1 - l.length by omega] at this
 |join B r st δs st1 st' pd v hB hq hv _ ih=>
  intro i k hi hk hh a w M β h hQ
  simp only [List.length_append] at hk hQ
  refine We (inl:=inl) (once:=once) hB i k hi (by omega) (fun j e hj=>hh j e (by rw [List.getElem?_append_left (List.getElem?_eq_some_iff.1 hj).1];exact hj)) a w M β h (fun a' w' M' β' h'=> ?_)
  refine ih (i+B.length) (k - B.length) (by omega) (by omega) (fun j e hj=> ?_) a' w' M' β' (Adq hB hq hv h') (fun a' w' M' β' h'=> ?_)
  ·have:=hh (B.length+j) e (by rw [List.getElem?_append_right (by omega)];simpa using hj)
   rwa [show i+(B.length+j)=i+B.length+j by omega] at this
  ·have:=hQ a' w' M' β' h'
   rwa [show i+(B.length+r.length)=i+B.length+r.length by omega,show k - (B.length+r.length)=k - B.length - r.length by omega] at this
theorem Nk:∀(l:List B5) (eo:B5) (d:Nat),eo∈l→eo.k.makes=true→eo.dst=some d→d∈Jr l:=by
 intro l
 induction l with
 |nil=>intro eo d h;cases h
 |cons e l ih=>
  intro eo d hm hk hd
  simp only [Jr]
  rcases List.mem_cons.1 hm with e1|e1
  ·subst e1;rw [hk,hd];simp
  ·have:=ih eo d e1 hk hd
   cases h1:e.k.makes<;>cases h2:e.dst<;>simp only [h1,h2]<;>first|exact this|exact List.mem_cons_of_mem _ this
theorem Qe{a b:Nat} :∀ {ap:List (Nat×Nat)},Kw a b ap=true→∃c d,(c,d)∈ap∧((a=c∧b=d)∨(a=d∧b=c))
 | [],h=>by simp [Kw] at h
 |(c,d)::r,h=>by
  simp only [Kw,Bool.or_eq_true,Bool.and_eq_true] at h
  rcases h with (h|h)|h
  ·exact ⟨c,d,by simp,.inl ⟨Ar h.1,Ar h.2⟩⟩
  ·exact ⟨c,d,by simp,.inr ⟨Ar h.1,Ar h.2⟩⟩
  ·obtain ⟨c',d',h1,h2⟩:=Qe h
   exact ⟨c',d',List.mem_cons_of_mem _ h1,h2⟩
theorem Qf(a b:Nat):∀(ap:List (Nat×Nat)),Kw a b ap=Kw b a ap
 | []=>rfl
 |(c,d)::r=>by
  simp only [Kw,Qf a b r]
  cases Nat.beq a c<;>cases Nat.beq b d<;>cases Nat.beq a d<;>cases Nat.beq b c<;>rfl
theorem T6(ap:List (Nat×Nat))(x y:B5):Ij ap x y=Ij ap y x:=by
 unfold Ij
 cases x.k.addr<;>cases y.k.addr<;>simp [Qf]
theorem P4:∀ {ap:List (Nat×Nat)},Lx st ap=true→∀a b,(a,b)∈ap→∃d o d' o',st.get a= .loc d o∧st.get b= .loc d' o'∧d≠d'
 | [],_,_,_,h=>by cases h
 |(c,e)::r,h,a,b,hm=>by
  simp only [Lx] at h
  split at h
  ·rename_i d o d' o' h1 h2
   cases hb:Nat.beq d d' with
   |true=>rw [hb] at h;cases h
   |false=>
    rw [hb] at h
    rcases List.mem_cons.1 hm with e'|e'
    ·injection e' with e1 e2
     subst e1;subst e2
     exact ⟨d,o,d',o',h1,h2,fun e=>by subst e;simp at hb⟩
    ·exact P4 h a b e'
  ·cases h
theorem Nx{a:Nat} :∀ {l:List B5},Ek a l=true→∀e∈l,a∉e.writes
 | [],_,_,h=>by cases h
 |x::r,h,e,hm=>by
  simp only [Ek] at h
  cases hn:Ag a x.writes with
  |false=>rw [hn] at h;cases h
  |true=>
   rw [hn] at h
   rcases List.mem_cons.1 hm with e'|e'
   ·subst e';exact (Am _ _).1 hn
   ·exact Nx h e e'
theorem Lc{l:List B5} :∀ {ap:List (Nat×Nat)},Kv l ap=true→∀a b,(a,b)∈ap→Ek a l=true∧Ek b l=true
 | [],_,_,_,h=>by cases h
 |(c,e)::r,h,a,b,hm=>by
  simp only [Kv,Bool.and_eq_true] at h
  rcases List.mem_cons.1 hm with e'|e'
  ·injection e' with e1 e2
   subst e1;subst e2
   exact h.1
  ·exact Lc h.2 a b e'
theorem Jj:∀(δs:List Ap) (m:Nat→Bool) (st:St),(Ec δs m st).base=st.base:=by
 intro δs
 induction δs with
 |nil=>intro m st;rfl
 |cons δ r ih=>
  intro m st
  simp only [Ec]
  rw [ih]
  cases m 0<;>rfl
theorem Tj{d o b:Nat}(h:At (.loc d o) b):d=b:=by
 rcases h with ⟨off,h⟩|⟨sz,i,off,h⟩
 ·injection h
 ·cases h
theorem Z3{ap:List (Nat×Nat)}(hap:Lx st ap=true){os:Array Oper}{l:List B5}{δs:List Ap}{st':St}(hr:Wq P ((Jr l).map (st.base+ ·)) l st δs st')(hco:X3 P inl once os os.toList=some l)(hds:Nf nt l=true)
  (hok0:O1 ap os.toList l=true) {Q:Exit→Act→World→Prop} (hQ:∀a' w' M' β',SR cx w0 N nt st' a' w' M' β'→Q .normal a' w'):
  ∀(fuel:Nat) (listed:Array Bool),listed.size=os.size→((List.range os.size).filter fun i=> !listed.getD i false).length=fuel→
   (∀(j:Nat) (o:Oper),os[j]? =some o→listed.getD j false=true→∀e∈J0 o,listed.getD e false=true)→
   ∀(a:Act) (w:World) (M:It) (β :Ha),SR cx w0 N nt (Ec δs (D3 listed) st) a w M β→wpAny P .any os Q fuel listed a w:=by
 simp only [O1,Bool.and_eq_true] at hok0
 obtain ⟨hau,hok⟩:=hok0
 obtain ⟨hlen,hsp⟩:=Re _ _ hco
 have hlen': δs.length=os.size:=by rw [hr.length,hlen];simp
 have hll:l.length=os.size:=by rw [hlen];simp
 have hpair:∀i j,i < j→j < os.size→∀x y,l[i]? =some x→l[j]? =some y→Hs ap (Ax l i) x (Ax l j) y=true→Reach os.toList j i:=by
  intro i j hij hj x y hx hy hc
  have h1:=L1 hok j (by simpa using hj)
  simp only [Bool.and_eq_true] at h1
  have h2:=L1 h1.1 i hij
  simp only [Acw,hx,hy,hc] at h2
  exact x9 os.toList os.toList [] (fun k o hk=>by simpa using hk) (fun j i hb=>by simp at hb) j i h2
 have hedge:∀j (o:Oper),os[j]? =some o→∀e∈J0 o,e < j:=by
  intro j o ho e he
  have hj:j < os.size:=(Array.getElem?_eq_some_iff.1 ho).1
  have h1:=L1 hok j (by simpa using hj)
  simp only [Bool.and_eq_true] at h1
  have h2:=h1.2
  rw [show os.toList[j]? =some o by simpa using ho] at h2
  exact Sv j _ h2 e he
 intro fuel
 induction fuel with
 |zero=>
  intro listed hs hc hcl a w M β h
  have hall:∀i,i < os.size→listed.getD i false=true:=by
   intro i hi
   have h0:=List.eq_nil_of_length_eq_zero hc
   cases hb:listed.getD i false with
   |true=>rfl
   |false=>
    have:i∈(List.range os.size).filter fun i=> !listed.getD i false:=List.mem_filter.2 ⟨by simpa using hi,by simp [hb]⟩
    rw [h0] at this;cases this
  have e:Ec δs (D3 listed) st=st':=by
   rw [hr.last]
   exact Aa1 _ _ _ _ (fun j hj=>hall j (by omega))
  rw [e] at h
  refine ⟨?_,hQ _ _ _ _ h⟩
  apply List.eq_nil_iff_forall_not_mem.2
  intro i hi
  obtain ⟨h1,o,ho,_⟩:=mem_ready.1 hi
  have hio:i < os.size:=(Array.getElem?_eq_some_iff.1 ho).1
  have:=hall i hio
  rw [Array.getD_eq_getD_getElem?] at this h1
  rw [Array.getElem?_eq_getElem (by omega)] at this h1
  simp at this h1
  rw [this] at h1;cases h1
 |succ fuel ih=>
  intro listed hs hc hcl a w M β h
  refine ⟨fun hn=> ?_,fun i hi=> ?_⟩
  ·
   exfalso
   have hex:∃i,i < os.size∧listed.getD i false=false:=by
    have hne:((List.range os.size).filter fun i=> !listed.getD i false)≠ []:=by intro e;rw [e] at hc;simp at hc
    obtain ⟨i,hi⟩:=List.exists_mem_of_ne_nil _ hne
    obtain ⟨h1,h2⟩:=List.mem_filter.1 hi
    exact ⟨i,by simpa using h1,by simpa using h2⟩
   have least:∀n,(∃i,i < n∧i < os.size∧listed.getD i false=false)→∃i,i < os.size∧listed.getD i false=false∧∀j,j < i→listed.getD j false=true:=by
    intro n
    induction n with
    |zero=>rintro ⟨i,h1,_⟩;omega
    |succ n ihn=>
     rintro ⟨i,h1,h2,h3⟩
     by_cases hl:∃j,j < n∧j < os.size∧listed.getD j false=false
     ·exact ihn hl
     ·refine ⟨i,h2,h3,fun j hj=> ?_⟩
      cases hb:listed.getD j false with
      |true=>rfl
      |false=>exact absurd ⟨j,by omega,by omega,hb⟩ hl
   obtain ⟨i0,hi0,hi0'⟩:=hex
   obtain ⟨i,h1,h2,h3⟩:=least os.size ⟨i0,hi0,hi0,hi0'⟩
   have ho:os[i]? =some os[i]:=Array.getElem?_eq_getElem h1
   have:i∈Region.ready .any os listed:=mem_ready.2 ⟨by
    rw [Array.getD_eq_getD_getElem?] at h2 ⊢
    rw [Array.getElem?_eq_getElem (by omega)] at h2 ⊢
    simpa using h2,_,ho,fun e he hb=>h3 _ (hedge i _ ho _ (Y6 he hb))⟩
   rw [hn] at this;cases this
  ·obtain ⟨h1,o,ho,hall⟩:=mem_ready.1 hi
   have hio:i < os.size:=(Array.getElem?_eq_some_iff.1 ho).1
   have hun:listed.getD i false=false:=by
    rw [Array.getD_eq_getD_getElem?] at h1 ⊢
    rw [Array.getElem?_eq_getElem (by omega)] at h1 ⊢
    simpa using h1
   have hdep:∀e∈J0 o,listed.getD e false=true:=fun e he=>by
    obtain ⟨ed,q1,q2,rfl⟩:=Ya he
    exact hall ed q1 q2
   have reach:∀j k,Reach os.toList j k→listed.getD j false=true→listed.getD k false=true:=by
    intro j k hrk
    induction hrk with
    |one j o i ho hi=>intro hj;exact hcl j o (by simpa using ho) hj i hi
    |more j o e i ho he _ ih2=>intro hj;exact ih2 (hcl j o (by simpa using ho) hj e he)
   have reachI:∀k,Reach os.toList i k→listed.getD k false=true:=by
    intro k hrk
    cases hrk with
    |one _ o' _ ho' hi'=>
     have:o'=o:=by rw [show os.toList[i]? =some o by simpa using ho] at ho';injection ho' with ho';exact ho'.symm
     subst this;exact hdep k hi'
    |more _ o' e _ ho' he' hr'=>
     have:o'=o:=by rw [show os.toList[i]? =some o by simpa using ho] at ho';injection ho' with ho';exact ho'.symm
     subst this;exact reach e k hr' (hdep e he')
   obtain ⟨eo,g1,g2,g3,g4⟩:=hsp i o (by simpa using ho)
   have hd: δs[i]? =some (δs[i]'(by omega)):=List.getElem?_eq_getElem (by omega)
   have hos:=hr.at i eo _ g1 hd
   have foot:∀(j:Nat) (δ :Ap),δs[j]? =some δ→∃ej:B5,l[j]? =some ej∧(∀s∈δ.s.map Prod.fst,s∈ej.writes)∧(∀b∈δ.o.map Prod.fst,x0 ej.k ej.dst (Ec δs (fun i=>decide (i < j)) st) b):=by
    intro j δ hj
    have hjl:j < l.length:=by have:=(List.getElem?_eq_some_iff.1 hj).1;omega
    have hej:l[j]? =some (l[j]):=List.getElem?_eq_getElem hjl
    exact ⟨_,hej,Ul (hr.at j _ δ hej hj)⟩
   have same:∀(j:Nat) (ej:B5),l[j]? =some ej→(Hs ap (Ax l j) ej (Ax l i) eo=true∨Hs ap (Ax l i) eo (Ax l j) ej=true)→(j=i→False)→(decide (j < i))=D3 listed j:=by
    intro j ej hej hcl' hne
    have hj:j < os.size:=by have:=(List.getElem?_eq_some_iff.1 hej).1;omega
    have hsym:Hs ap (Ax l j) ej (Ax l i) eo=true∧Hs ap (Ax l i) eo (Ax l j) ej=true:=by
     have e:Hs ap (Ax l j) ej (Ax l i) eo=Hs ap (Ax l i) eo (Ax l j) ej:=by
      have m:∀a b,Nl a b=Nl b a:=fun a b=>by
       rw [Bool.eq_iff_iff,Rp,Rp]
       exact ⟨fun ⟨s,x,y⟩=>⟨s,y,x⟩,fun ⟨s,x,y⟩=>⟨s,y,x⟩⟩
      simp only [Hs]
      rw [m ej.writes eo.reads,m ej.writes eo.writes,m ej.reads eo.writes,T6 ap ej eo,Aaa (Ax l j) (Ax l i)]
      cases Tv (Ax l i) eo.k (Ax l j) ej.k<;>cases Nl eo.reads ej.writes<;>cases Nl eo.writes ej.writes<;>cases Nl eo.writes ej.reads<;>cases ej.k.isStore<;>cases eo.k.heapy<;>cases ej.k.heapy<;>cases eo.k.isStore<;>cases Ij ap eo ej<;>rfl
     rcases hcl' with h|h
     ·exact ⟨h,by rw [←e];exact h⟩
     ·exact ⟨by rw [e];exact h,h⟩
    by_cases hlt:j < i
    ·have:=reachI j (hpair j i hlt hio _ _ hej g1 hsym.1)
     simp only [hlt,decide_true,D3];exact this.symm
    ·have hne':j≠i:=hne
     have hlt':i < j:=by omega
     have hR:=hpair i j hlt' hj _ _ g1 hej hsym.2
     have:D3 listed j=false:=by
      cases hb:D3 listed j with
      |false=>rfl
      |true=>have:=reach j i hR hb;rw [hun] at this;cases this
     simp only [hlt,decide_false];exact this.symm
   have atI:(decide (i < i))=D3 listed i:=by simp only [Nat.lt_irrefl,decide_false,D3];exact hun.symm
   have clashW:∀(j:Nat) (ej:B5) (s:Nat),s∈ej.writes→s∈eo.reads→Hs ap (Ax l j) ej (Ax l i) eo=true:=fun j ej s h1 h2=>by
    cases hc':Hs ap (Ax l j) ej (Ax l i) eo with
    |true=>rfl
    |false=>exact absurd h2 ((E6 hc').1 s h1)
   have hget:∀s,s∈eo.reads→(Ec δs (D3 listed) st).get s=(Ec δs (fun j=>decide (j < i)) st).get s:=by
    intro s hs
    refine Xr _ _ _ _ _ s rfl (fun j δ hj hsj=> ?_)
    obtain ⟨ej,hej,f1,_⟩:=foot j δ hj
    by_cases e:j=i
    ·subst e;exact atI.symm
    ·exact (same j ej hej (.inl (clashW j ej s (f1 s hsj) hs)) e).symm
   have hopd:∀x∈eo.k.opds,(Ec δs (D3 listed) st).opd x=(Ec δs (fun j=>decide (j < i)) st).opd x:=by
    intro x hx
    cases x with
    |tmp t=>exact hget t (Aas hx rfl)
    |_=>rfl
   have noFreed2:∀(i:Nat) (eo:B5) (j:Nat) (ej:B5) (b:Nat),l[i]? =some eo→l[j]? =some ej→Ij ap ej eo=true→(∀a,ej.k.addr=some a→At ((Ec δs (fun i=>decide (i < j)) st).get a) b)→
     (∀a,eo.k.addr=some a→At ((Ec δs (fun j=>decide (j < i)) st).get a) b)→False:=by
    intro i eo j ej b _ hej hf h1 h2
    unfold Ij at hf
    cases ha1:ej.k.addr with
    |none=>rw [ha1] at hf;cases hf
    |some a1=>
     cases ha2:eo.k.addr with
     |none=>rw [ha1,ha2] at hf;cases hf
     |some a2=>
      rw [ha1,ha2] at hf
      obtain ⟨c,d,hm,hcd⟩:=Qe hf
      obtain ⟨d1,o1,d2,o2,e1,e2,hne⟩:=P4 hap c d hm
      obtain ⟨u1,u2⟩:=Lc hau c d hm
      have keepS:∀(m:Nat→Bool) (s:Nat),Ek s l=true→(Ec δs m st).get s=st.get s:=by
       intro m s hu
       have:(Ec δs m st).get s=(Ec δs (fun _=>false) st).get s:=Xr _ _ _ _ _ s rfl (fun k δ hk hs=>by
        obtain ⟨ek,hek,f1,_⟩:=foot k δ hk
        exact absurd (f1 s hs) (Nx hu ek (List.mem_of_getElem? hek)))
       rw [this,Nu _ _ _ (fun _ _=>rfl)]
      have q1:=h1 a1 ha1
      have q2:=h2 a2 ha2
      rcases hcd with ⟨rfl,rfl⟩|⟨rfl,rfl⟩
      ·rw [keepS _ _ u1,e1] at q1
       rw [keepS _ _ u2,e2] at q2
       exact hne ((Tj q1).trans (Tj q2).symm)
      ·rw [keepS _ _ u2,e2] at q1
       rw [keepS _ _ u1,e1] at q2
       exact hne ((Tj q2).trans (Tj q1).symm)
   have noFreed:∀(j:Nat) (ej:B5) (b:Nat),l[j]? =some ej→Ij ap ej eo=true→(∀a,ej.k.addr=some a→At ((Ec δs (fun i=>decide (i < j)) st).get a) b)→
     (∀a,eo.k.addr=some a→At ((Ec δs (fun j=>decide (j < i)) st).get a) b)→False:=fun j ej b=>noFreed2 i eo j ej b g1
   have hvob:eo.k.isLoad=true→∀b,Ag b ((Jr l).map (st.base+ ·))=true→(∀a,eo.k.addr=some a→At ((Ec δs (fun j=>decide (j < i)) st).get a) b)→(Ec δs (D3 listed) st).vobj b=(Ec δs (fun j=>decide (j < i)) st).vobj b:=by
    intro hl b hb hta
    have touch:∀(j:Nat) (δ :Ap),δs[j]? =some δ→b∈δ.o.map Prod.fst→∃ej,l[j]? =some ej∧ej.k.isStore=true∧∀a,ej.k.addr=some a→At ((Ec δs (fun i=>decide (i < j)) st).get a) b:=by
     intro j δ hj hbj
     obtain ⟨ej,hej,_,f2⟩:=foot j δ hj
     rcases f2 b hbj with f|⟨f,fs,fd,fb⟩
     ·exact ⟨ej,hej,f⟩
     ·exfalso
      rw [Am] at hb
      rw [Jj] at fb
      exact hb (List.mem_map.2 ⟨fs,Nk l ej fs (List.mem_of_getElem? hej) f fd,fb.symm⟩)
    have nofresh:∀(j:Nat) (δ :Ap),δs[j]? =some δ→b∈δ.o.map Prod.fst→Ax l j=false:=by
     intro j δ hj hbj
     obtain ⟨ej,hej,hst,hat⟩:=touch j δ hj hbj
     cases hf:Ax l j with
     |false=>rfl
     |true=>
      exfalso
      unfold Ax at hf
      rw [hej] at hf
      simp only [Bool.and_eq_true] at hf
      obtain ⟨_,hf⟩:=hf
      cases ha:ej.k.addr with
      |none=>rw [ha] at hf;cases hf
      |some a=>
       rw [ha] at hf
       simp only [Bool.not_eq_true'] at hf
       obtain ⟨k,hk,hkk⟩:=X2 hf
       simp only [Bool.not_eq_false'] at hkk
       have hkl:k < l.length:=by have:=(List.getElem?_eq_some_iff.1 hej).1;omega
       have hek:l[k]? =some l[k]:=List.getElem?_eq_getElem hkl
       rw [hek] at hkk
       simp only [Bool.and_eq_true] at hkk
       obtain ⟨m1,m2⟩:=hkk
       have hdk: δs[k]? =some (δs[k]'(by omega)):=List.getElem?_eq_getElem (by omega)
       obtain ⟨n1,n2⟩:=Acv (hr.at k _ _ hek hdk) m1
       rw [Jj] at n2
       have hg:=Adr δs (fun i=>decide (i < j)) st k _ a hdk (decide_eq_true hk) n1 (fun j' δ' hne hδ' hin=>by
        obtain ⟨e',he',f1,_⟩:=foot j' δ' hδ'
        have:=L1 m2 j' ((List.getElem?_eq_some_iff.1 he').1)
        rw [he'] at this
        simp only [Bool.or_eq_true] at this
        rcases this with h1|h1
        ·exact hne (Ar h1)
        ·rw [Am] at h1;exact h1 (f1 a hin))
       have:=hat a ha
       rw [hg,n2] at this
       have hbb:=Tj this
       rw [Am] at hb
       refine hb (List.mem_map.2 ⟨a,Nk l l[k] a (List.getElem_mem hkl) ?_ ?_,hbb⟩)
       ·cases hq:l[k].k<;>simp only [B5.mkAt,hq] at m1<;>first|rfl|cases m1
       ·unfold B5.mkAt at m1
        split at m1
        ·rename_i hd;rw [hd,Ar m1]
        ·rename_i hd;rw [hd,Ar m1]
        ·cases m1
    let T:Nat→Bool:=fun j=>match l[j]? with|some e=>e.k.isTake|none=>false
    have hT:∀(k:Nat) (δ :Ap),T k=true→δs[k]? =some δ→b∈δ.o.map Prod.fst→(Bp [] δ.o b).map PV.view=(Ec δs (fun j=>decide (j < k)) st).vobj b:=by
     intro k δ hk hδ hbk
     obtain ⟨ek,hek,_,_⟩:=foot k δ hδ
     have hk':ek.k.isTake=true:=by simp only [T,hek] at hk;exact hk
     exact i7 (hr.at k ek δ hek hδ) hk' b hbk
    have bound:∀(m:Nat→Bool) (k:Nat),m k=true→(δs[k]?).isSome=true→k < δs.length:=by
     intro m k _ h
     cases hq: δs[k]? with
     |none=>rw [hq] at h;cases h
     |some _=>exact (List.getElem?_eq_some_iff.1 hq).1
    have c1:=Wi T hT δs.length (D3 listed) (bound _) (fun k j δ δ' hTk hmk hδ hbk hTj hδ' hbj hjk=>by
     obtain ⟨ek,hek,hsk,hak⟩:=touch k δ hδ hbk
     obtain ⟨ej,hej,hsj,haj⟩:=touch j δ' hδ' hbj
     have hks:k < os.size:=by have:=(List.getElem?_eq_some_iff.1 hek).1;omega
     cases hc':Hs ap (Ax l j) ej (Ax l k) ek with
     |true=>exact reach k j (hpair j k hjk hks _ _ hej hek hc') hmk
     |false=>
      exfalso
      obtain ⟨_,_,_,q1,_⟩:=E6 hc'
      have hfr:=Jd (q1 hsj (Nv hsk)) (Cr hsj) (Cr hsk)
      exact noFreed2 k ek j ej b hek hej hfr haj hak)
    have c2:=Wi T hT δs.length (fun j=>decide (j < i)) (bound _) (fun k j δ δ' hTk hmk hδ hbk hTj hδ' hbj hjk=>by
     have:=of_decide_eq_true hmk
     exact decide_eq_true (by omega))
    rw [c1,c2]
    unfold St.vobj
    rw [Q7 δs (fun j=>D3 listed j && !T j) (fun j=>decide (j < i) && !T j) st st b rfl (fun j δ hj hbj=> ?_)]
    cases hTj:T j with
    |true=>simp
    |false=>
     simp only [Bool.not_false,Bool.and_true]
     obtain ⟨ej,hej,hsj,haj⟩:=touch j δ hj hbj
     by_cases e:j=i
     ·subst e;exact atI.symm
     ·refine (same j ej hej ?_ e).symm
      cases hc':Hs ap (Ax l j) ej (Ax l i) eo with
      |true=>exact .inl rfl
      |false=>
       exfalso
       obtain ⟨_,_,_,q1,_⟩:=E6 hc'
       have hh:eo.k.heapy=true:=by cases hk:eo.k<;>rw [hk] at hl<;>first|rfl|cases hl
       rcases q1 hsj hh with hq|hq
       ·exact noFreed j ej b hej hq haj hta
       ·have hnf:=nofresh j δ hj hbj
        have hnt:ej.k.isTake=false:=by simp only [T,hej] at hTj;exact hTj
        have hnl:=Cr hsj
        rw [hnf] at hq
        simp [Tv,hnt,hnl] at hq
   have hobj:eo.k.heapy=true→eo.k.isLoad=false→∀b,(eo.k.isStore=true∨Ag b ((Jr l).map (st.base+ ·))=true)→(∀a,eo.k.addr=some a→At ((Ec δs (fun j=>decide (j < i)) st).get a) b)→(Ec δs (D3 listed) st).obj b=(Ec δs (fun j=>decide (j < i)) st).obj b:=by
    intro hh hnl b hb hta
    refine Q7 _ _ _ _ _ b rfl (fun j δ hj hbj=> ?_)
    obtain ⟨ej,hej,_,f2⟩:=foot j δ hj
    by_cases e:j=i
    ·subst e;exact atI.symm
    ·refine (same j ej hej ?_ e).symm
     cases hc':Hs ap (Ax l j) ej (Ax l i) eo with
     |true=>exact .inl rfl
     |false=>
      exfalso
      obtain ⟨_,_,_,q1,q2⟩:=E6 hc'
      rcases f2 b hbj with f|⟨f,fs,fd,fb⟩
      ·exact noFreed j ej b hej (Jd (q1 f.1 hh) (Cr f.1) hnl) f.2 hta
      ·rcases hb with hb|hb
       ·have:=Jd (q2 (Jf f) hb) (Il f) hnl
        unfold Ij at this
        have hn:ej.k.addr=none:=by cases hk:ej.k<;>rw [hk] at f<;>first|rfl|cases f
        rw [hn] at this;cases this
       ·rw [Am] at hb
        rw [Jj] at fb
        exact hb (List.mem_map.2 ⟨fs,Nk l ej fs (List.mem_of_getElem? hej) f fd,fb.symm⟩)
   have hkey:eo.k.makes=true→∀s,eo.dst=some s→Ag ((Ec δs (fun j=>decide (j < i)) st).base+s) ((Ec δs (fun j=>decide (j < i)) st).ob.map Prod.fst)=true→Ag ((Ec δs (fun j=>decide (j < i)) st).base+s) ((Ec δs (D3 listed) st).ob.map Prod.fst)=true:=by
    intro hk s hs hn
    rw [Jj] at hn ⊢
    rw [v6 δs (D3 listed) (fun j=>decide (j < i)) st st (st.base+s) rfl (fun j δ hj hbj=> ?_)]
    ·exact hn
    ·obtain ⟨ej,hej,_,f2⟩:=foot j δ hj
     by_cases e:j=i
     ·subst e;exact atI.symm
     ·refine (same j ej hej ?_ e).symm
      cases hc':Hs ap (Ax l j) ej (Ax l i) eo with
      |true=>exact .inl rfl
      |false=>
       exfalso
       obtain ⟨_,w2,_,q1,q2⟩:=E6 hc'
       rcases f2 (st.base+s) hbj with f|⟨f,fs,fd,fb⟩
       ·have:=Jd (q1 f.1 (Jf hk)) (Cr f.1) (Il hk)
        unfold Ij at this
        have hn:eo.k.addr=none:=by cases hk':eo.k<;>rw [hk'] at hk<;>first|rfl|cases hk
        rw [hn] at this
        cases hz:ej.k.addr<;>rw [hz] at this<;>cases this
       ·rw [Jj] at fb
        have e':s=fs:=by omega
        refine w2 s ?_ ?_
        ·simp [B5.writes,fd,e']
        ·simp [B5.writes,hs]
   have hwild:eo.k.wild=true→(∀b,(Ec δs (D3 listed) st).obj b=(Ec δs (fun j=>decide (j < i)) st).obj b)∧∀b,Ag b ((Ec δs (D3 listed) st).ob.map Prod.fst)=Ag b ((Ec δs (fun j=>decide (j < i)) st).ob.map Prod.fst):=by
    intro hw
    have hst:eo.k.isStore=true:=by cases hk:eo.k<;>rw [hk] at hw<;>first|rfl|cases hw
    have had:eo.k.addr=none:=by cases hk:eo.k<;>rw [hk] at hw<;>first|rfl|cases hw
    have cl:∀(j:Nat) (δ :Ap) (b:Nat),δs[j]? =some δ→b∈δ.o.map Prod.fst→D3 listed j=decide (j < i):=by
     intro j δ b hj hbj
     obtain ⟨ej,hej,_,f2⟩:=foot j δ hj
     by_cases e:j=i
     ·subst e;exact atI.symm
     ·refine (same j ej hej ?_ e).symm
      cases hc':Hs ap (Ax l j) ej (Ax l i) eo with
      |true=>exact .inl rfl
      |false=>
       exfalso
       obtain ⟨_,_,_,q1,q2⟩:=E6 hc'
       have hh:ej.k.heapy=true∧ej.k.isLoad=false:=by
        rcases f2 b hbj with f|⟨f,_⟩
        ·exact ⟨Nv f.1,Cr f.1⟩
        ·exact ⟨Jf f,Il f⟩
       have:=Jd (q2 hh.1 hst) hh.2 (Zt hw)
       unfold Ij at this
       rw [had] at this
       cases hz:ej.k.addr<;>rw [hz] at this<;>cases this
    exact ⟨fun b=>Q7 _ _ _ _ _ b rfl (fun j δ hj hbj=>cl j δ b hj hbj),fun b=>v6 _ _ _ _ _ b rfl (fun j δ hj hbj=>cl j δ b hj hbj)⟩
   have hos':Gs P ((Jr l).map (st.base+ ·)) eo (Ec δs (D3 listed) st) (δs[i]'(by omega)):=by
    have hA:Aa8 ((Jr l).map (st.base+ ·)) eo.k eo.dst (Ec δs (fun j=>decide (j < i)) st) (Ec δs (D3 listed) st):=⟨hopd,hobj,hvob,hkey,n3 g2,by rw [Jj,Jj],hwild⟩
    unfold Gs at hos ⊢
    cases hg:eo.g with
    |none=>rw [hg] at hos;exact Mg hA hos
    |some sw=>
     obtain ⟨s,want⟩:=sw
     rw [hg] at hos
     rcases hos with ⟨t,q1,q2,q3⟩|⟨q1,q3⟩
     ·exact .inl ⟨t,by rw [hget s (by simp [B5.reads,hg])];exact q1,fun e=>Mg hA (q2 e),q3⟩
     ·exact .inr ⟨by rw [hget s (by simp [B5.reads,hg])];exact q1,q3⟩
   have hdst:∀x,o.dst=some x→x < nt:=fun x hx=>Sc l hds eo (List.mem_of_getElem? g1) x (by rw [g3];exact hx)
   have hset:∀j,(listed.setIfInBounds i true).getD j false=if j=i then true else listed.getD j false:=by
    intro j
    rw [Array.getD_eq_getD_getElem?,Array.getD_eq_getD_getElem?,Array.getElem?_setIfInBounds]
    by_cases e:i=j
    ·subst e;simp [hs,hio]
    ·rw [if_neg e,if_neg (fun e'=>e e'.symm)]
   have key:=Sl (os:=os) (K:=wpAny P .any os Q fuel (listed.setIfInBounds i true)) (Q:=Q) h hos' g2 g3 g4 hdst (fun a' w' M' β' h'=>by
    refine ih _ (by simp [hs]) ?_ ?_ a' w' M' β' (h'.equiv ?_)
    ·have hmem:i∈List.range os.size:=by simpa using hio
     have e1:((List.range os.size).filter fun j=> !(listed.setIfInBounds i true).getD j false)=((List.range os.size).filter fun j=> !listed.getD j false).filter fun j=>decide (j≠i):=by
      rw [List.filter_filter]
      apply List.filter_congr
      intro j _
      rw [hset]
      by_cases e:j=i
      ·simp [e]
      ·simp [e]
     rw [e1]
     have e2:((List.range os.size).filter fun j=> !listed.getD j false).filter (fun j=>decide (j≠i))=((List.range os.size).filter fun j=> !listed.getD j false).erase i:=by
      rw [List.Nodup.erase_eq_filter (List.Pairwise.filter _ List.nodup_range)]
      apply List.filter_congr
      intro j _
      by_cases e:j=i<;>simp [e]
     rw [e2,List.length_erase_of_mem (List.mem_filter.2 ⟨hmem,by simp [hun]⟩),hc];rfl
    ·intro j oj hoj hj e he
     rw [hset] at hj ⊢
     by_cases e1:e=i
     ·rw [if_pos e1]
     ·rw [if_neg e1]
      by_cases e2:j=i
      ·subst e2
       rw [ho] at hoj;injection hoj with hoj;subst hoj
       exact hdep e he
      ·rw [if_neg e2] at hj
       exact hcl j oj hoj hj e he
    ·have:=Ads δs (D3 listed) i st _ hd hun (fun j δ' hj hm hδ'=>by
      obtain ⟨ej,hej,f1,f2⟩:=foot j δ' hδ'
      obtain ⟨ei,hei,f3,f4⟩:=foot i _ hd
      have:ei=eo:=by rw [g1] at hei;injection hei with hei;exact hei.symm
      subst this
      have hjs:j < os.size:=by have:=(List.getElem?_eq_some_iff.1 hej).1;omega
      have nc:Hs ap (Ax l i) ei (Ax l j) ej=false:=by
       cases hc':Hs ap (Ax l i) ei (Ax l j) ej with
       |false=>rfl
       |true=>
        have:=reach j i (hpair i j hj hjs _ _ g1 hej hc') hm
        rw [hun] at this;cases this
      obtain ⟨_,w2,_,q1,q2⟩:=E6 nc
      refine ⟨fun s hs'=>fun hs2=>w2 s (f3 s hs') (f1 s hs2),fun b hb hb2=> ?_⟩
      rcases f4 b hb with f|⟨f,fs,fd,fb⟩
      ·rcases f2 b hb2 with f'|⟨f',fs',fd',fb'⟩
       ·have:=Jd (q1 f.1 (Nv f'.1)) (Cr f.1) (Cr f'.1)
        rw [T6] at this
        exact noFreed j ej b hej this f'.2 f.2
       ·have:=Jd (q1 f.1 (Jf f')) (Cr f.1) (Il f')
        unfold Ij at this
        have hn:ej.k.addr=none:=by cases hk:ej.k<;>rw [hk] at f'<;>first|rfl|cases f'
        rw [hn] at this
        cases hz:ei.k.addr<;>rw [hz] at this<;>cases this
      ·rcases f2 b hb2 with f'|⟨f',fs',fd',fb'⟩
       ·have:=Jd (q2 (Jf f) f'.1) (Il f) (Cr f'.1)
        unfold Ij at this
        have hn:ei.k.addr=none:=by cases hk:ei.k<;>rw [hk] at f<;>first|rfl|cases f
        rw [hn] at this;cases this
       ·rw [Jj] at fb fb'
        have e':fs'=fs:=by omega
        exact w2 fs (by simp [B5.writes,fd]) (by simp [B5.writes,fd',e']))
     have e:(fun j=>if j=i then true else D3 listed j)=D3 (listed.setIfInBounds i true):=funext fun j=>by
      simp only [D3];rw [hset]
     rw [e] at this
     exact this.symm)
   unfold wpOp
   simp only [ho]
   by_cases hw:Region.wanted o (yielded os a.tmps)=true
   ·rw [if_pos hw] at key ⊢;exact .inl key
   ·rw [if_neg hw] at key ⊢;exact key
end
end Go.Proofs.YtmimkinjcfekmaaGreat.Ev
