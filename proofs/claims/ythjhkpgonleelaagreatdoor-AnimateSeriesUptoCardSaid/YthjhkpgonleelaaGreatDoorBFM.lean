/-  Regions in any order; code; functions. -/
import Derived.Test.YthjhkpgonleelaaGreatDoorBFJ
namespace Go.Proofs.YthjhkpgonleelaaGreatDoor.Ev
open Go Go.RowKit
set_option linter.unusedVariables false
set_option linter.unusedSimpArgs false
set_option linter.unnecessarySimpa false
section
variable {ι :Type} {cx: ι→PV×Value} {P:Program} {C:Bt} {X:Inl} {inl:Nat→Bool} {once:Nat} {ban:List Nat} {w0:E9} {w:World} {N M:Px} {β :N0} {nt:Nat} {st:St} {a:Act}
def Nh(listed:Array Bool):Nat→Bool:=fun i=>listed.getD i false
theorem SR.weak{st':St}(h:SR cx w0 N nt st a w M β)(hg:∀x,st'.get x=st.get x∨st'.get x= .any)(ho:∀d,st'.obj d=st.obj d)(hk:∀d,A9 d (st'.ob.map Prod.fst)=A9 d (st.ob.map Prod.fst)):SR cx w0 N nt st' a w M β :=by
 refine ⟨h.defs,h.nt,h.sh.perm (fun k=> ?_) (fun d b n hd=>by rw [ho];exact (h.sh.box d b n hd).2.2) (fun d hd=>h.sh.dom d (by rw [←hk];exact hd)) some (fun key s v hw=>⟨key,rfl,?_⟩) (fun k k' j h1 h2=>by injection h1 with h1;injection h2 with h2;rw [h1,h2])⟩
 ·cases k with
  |inl s=>
   rcases hg s with e|e
   ·show B1 _ _ _ _ (st'.get s) _
    rw [e];exact h.sh.reg (.inl s)
   ·show B1 _ _ _ _ (st'.get s) _
    rw [e];exact .any _
  |inr i=>exact h.sh.reg (.inr i)
 ·cases key with
  |slot k=>
   cases k with
   |inl t=>
    obtain ⟨h1,h2,h3⟩:=hw
    simp only [hold] at h1
    rcases hg t with e|e
    ·rw [e] at h1;exact ⟨h1,h2,h3⟩
    ·rw [e] at h1;cases h1
   |inr i=>exact hw
  |cell d i=>
   obtain ⟨b,n,p,h1,h2,h3⟩:=hw
   rw [ho] at h2
   exact ⟨b,n,p,h1,h2,h3⟩
def Bef(P:Program)(inl:Nat→Bool)(once nt:Nat)(os:Array Oper)(i:Nat)(eo:Gm):Prop:=
 ∃o,os[i]? =some o∧cOp P inl once o=eo.k∧eo.dst=o.dst∧Afb os o.guard=some eo.g∧∀x,o.dst=some x→x < nt
theorem Aph{os:Array Oper}{l:List Gm}{δs:List Cm}{st':St}(hr:Run P ban l st δs st'){Q:Exit→Act→World→Prop} :∀(i k:Nat),i+k=os.size→l.length≤k→
  (∀j eo,l[j]? =some eo→Bef P inl once nt os (i+j) eo)→∀(a:Act) (w:World) (M:Px) (β :N0),SR cx w0 N nt st a w M β→
  (∀a' w' M' β',SR cx w0 N nt st' a' w' M' β'→wpOps P os Q (List.range' (i+l.length) (k - l.length)) a' w')→wpOps P os Q (List.range' i k) a w:=by
 induction hr with
 |nil st=>intro i k _ _ _ a w M β h hQ;exact hQ _ _ _ _ h
 |cons eo l st st' δ δs h1 _ ih=>
  intro i k hi hk hh a w M β h hQ
  cases k with
  |zero=>simp at hk
  |succ k=>
   obtain ⟨o,ho,g2,g3,g4,hdst⟩:=hh 0 eo rfl
   rw [Nat.add_zero] at ho
   have key:=Akf (os:=os) (K:=wpOps P os Q (List.range' (i+1) k)) (Q:=Q) h h1 g2 g3 g4 hdst (fun a' w' M' β' h'=>
    ih (i+1) k (by omega) (by simp at hk;omega) (fun j e hj=>by have:=hh (j+1) e (by simpa using hj);rwa [show i+(j+1)=i+1+j by omega] at this) a' w' M' β' h' (fun a' w' M' β' h'=>by
     have:=hQ a' w' M' β' h'
     simp only [List.length_cons] at this
     rwa [show i+(l.length+1)=i+1+l.length by omega,show k+1 - (l.length+1)=k - l.length by omega] at this))
   rw [List.range'_succ]
   simp only [wpOps,ho]
   by_cases hw:Region.wanted o (yielded os a.tmps)=true
   ·rw [if_pos hw] at key ⊢;exact .inl key
   ·rw [if_neg hw] at key ⊢;exact key
theorem Aw9{k:K}(h:k.quiet=true):k.isStore=false∧k.makes=false:=by cases k<;>first|exact ⟨rfl,rfl⟩|cases h
theorem Arw{eo:Gm}(h:eo.k.quiet=true):∀s∈eo.writes,eo.dst=some s:=by
 intro s hs
 obtain ⟨d,g,k⟩:=eo
 cases k<;>first|cases h|skip
 all_goals (cases d with
  |none=>simp [Gm.writes] at hs
  |some d=>simp [Gm.writes] at hs;subst hs;rfl)
theorem A3w{l:List Gm}{δs:List Cm}{st':St}(hr:Run P ban l st δs st'):(∀eo∈l,eo.k.quiet=true)→st'.ob=st.ob∧st'.base=st.base∧∀x,x∉(Anv l).map Prod.fst→st'.get x=st.get x:=by
 induction hr with
 |nil st=>intro _;exact ⟨rfl,rfl,fun _ _=>rfl⟩
 |cons eo l st st' δ δs h1 _ ih=>
  intro hq
  obtain ⟨i1,i2,i3⟩:=ih (fun e he=>hq e (List.mem_cons_of_mem _ he))
  have hqe:=hq eo (by simp)
  obtain ⟨f1,f2⟩:=Ams h1
  obtain ⟨q1,q2⟩:=Aw9 hqe
  have ho: δ.o= []:=by
   cases hd: δ.o with
   |nil=>rfl
   |cons x r=>
    rcases f2 x.1 (by rw [hd];simp) with f|f
    ·rw [q1] at f;cases f.1
    ·rw [q2] at f;cases f.1
  have hob:(st.app δ).ob=st.ob:=by simp [St.app,ho,Bbw]
  refine ⟨i1.trans hob,i2,fun x hx=> ?_⟩
  have hx2:x∉(Anv l).map Prod.fst:=fun h=>hx (by unfold Anv;cases eo.dst<;>simp_all)
  rw [i3 x hx2,Sh,if_neg]
  intro hm
  have:=Arw hqe x (f1 x hm)
  apply hx
  unfold Anv
  rw [this]
  simp
theorem A2m(l:List Gm)(x:Nat):Db .any (Anv l) x= .any:=by
 induction l with
 |nil=>rfl
 |cons eo l ih=>
  unfold Anv
  cases eo.dst with
  |none=>exact ih
  |some d=>simp only;rw [C2,ih];split<;>rfl
theorem A8c{l:List Gm}{δs:List Cm}{st':St}(hr:Run P ban l st δs st')(hq:∀eo∈l,eo.k.quiet=true){pd:Nat}{v:Bool}(hv:st'.get pd= .val (.bool v))(h:SR cx w0 N nt st' a w M β):SR cx w0 N nt (stJ st l pd v) a w M β :=by
 obtain ⟨i1,i2,i3⟩:=A3w hr hq
 refine h.weak (fun x=> ?_) (fun d=> ?_) (fun d=> ?_)
 ·unfold stJ
  rw [Sh]
  simp only [List.map_cons,List.mem_cons]
  by_cases e:x=pd
  ·subst e
   rw [if_pos (.inl rfl),C2,if_pos rfl,hv];exact .inl rfl
  ·by_cases e2:x∈(Anv l).map Prod.fst
   ·rw [if_pos (.inr e2),C2,if_neg (fun h=>e h.symm),A2m];exact .inr rfl
   ·rw [if_neg (fun h=>h.elim e e2)];exact .inl (i3 x e2).symm
 ·show Db [] (([]:List (Nat×List PV))++st.ob) d=Db [] st'.ob d
  rw [i1];rfl
 ·show A9 d ((([]:List (Nat×List PV))++st.ob).map Prod.fst)=_
  rw [i1];rfl
inductive Akm (P:Program):List Gm→St→St→Prop
 |nil (st:St):Akm P [] st st
 |cons (eo:Gm) (l:List Gm) (st st':St) (δ :Cm) (h:Rv P [] eo st δ) (hr:Akm P l (st.app δ) st'):Akm P (eo::l) st st'
 |join (B r:List Gm) (st:St) (δs:List Cm) (st1 st':St) (pd:Nat) (v:Bool) (hB:Run P [] B st δs st1) (hq:∀eo∈B,eo.k.quiet=true) (hv:st1.get pd= .val (.bool v)) (hr:Akm P r (stJ st B pd v) st'):Akm P (B++r) st st'
theorem Au5{s:Nat} :∀ {l B r:List Gm} {pd:Nat},Af3 s l=some (B,pd,r)→l=B++r∧∀eo∈B,eo.k.quiet=true:=by
 intro l
 induction l with
 |nil=>intro B r pd h;cases h
 |cons eo l ih=>
  intro B r pd h
  unfold Af3 at h
  cases hq:eo.k.quiet with
  |false=>rw [hq] at h;cases h
  |true=>
   rw [hq] at h
   cases hg:eo.g with
   |some g=>
    rw [hg] at h
    simp only at h
    cases hs:Af3 s l with
    |none=>rw [hs] at h;cases h
    |some x=>
     obtain ⟨B',pd',r'⟩:=x
     rw [hs] at h
     simp only [Option.some.injEq,Prod.mk.injEq] at h
     obtain ⟨rfl,rfl,rfl⟩:=h
     obtain ⟨e1,e2⟩:=ih hs
     exact ⟨by rw [e1];rfl,fun e he=>by
      rcases List.mem_cons.1 he with rfl|h
      ·exact hq
      ·exact e2 e h⟩
   |none=>
    rw [hg] at h
    simp only at h
    split at h
    ·split at h
     ·simp only [Option.some.injEq,Prod.mk.injEq] at h
      obtain ⟨rfl,rfl,rfl⟩:=h
      exact ⟨rfl,fun e he=>by simp at he;subst he;exact hq⟩
     ·cases h
    ·cases h
theorem Aie(hC:Ed P C)(hX:Mj P X):∀(n:Nat) (l:List Gm) (st st0:St) (k:St→Prop),(∀eo∈l,∀o',eo.k= .scal o'→∀cs b,o'.op≠ .select cs b)→Mk st st0→Jc P C X n l st k→
  ∃st1 st',Akm P l st0 st1∧Mk st' st1∧k st':=by
 intro n
 induction n with
 |zero=>
  intro l st st0 k hsel he h
  cases l with
  |nil=>exact ⟨st0,st,.nil _,he,h⟩
  |cons _ _=>exact h.elim
 |succ n ih=>
  intro l st st0 k hsel he h
  cases l with
  |nil=>exact ⟨st0,st,.nil _,he,h⟩
  |cons eo l=>
   have hsel1:=hsel eo (by simp)
   have hsel2:∀eo∈l,∀o',eo.k= .scal o'→∀cs b,o'.op≠ .select cs b:=fun e hm=>hsel e (List.mem_cons_of_mem _ hm)
   have run1:∀(su:St),Mk su st0→Bb P C X [] eo.k eo.dst su (fun δ =>Jc P C X n l (su.app δ) k)→
     ∃δ,Bb P (Gn P) (Gf P) [] eo.k eo.dst st0 (fun δ'=> δ'= δ)∧∃st1 st',Akm P l (st0.app δ) st1∧Mk st' st1∧k st':=by
    intro su hu hs
    obtain ⟨δ,h1,h2⟩:=Aed hC hX _ _ _ _ hs
    exact ⟨δ,Ace (hu.agree _ _ hsel1) (h2 (fun δ'=> δ'= δ) rfl),ih _ _ _ _ hsel2 (hu.app δ) h1⟩
   simp only [Jc] at h
   cases hg:eo.g with
   |none=>
    rw [hg] at h
    obtain ⟨δ,h1,st1,st',h2,h3,h4⟩:=run1 st he h
    exact ⟨st1,st',.cons eo l st0 st1 δ (by unfold Rv;rw [hg];exact h1) h2,h3,h4⟩
   |some sw=>
    obtain ⟨s,want⟩:=sw
    rw [hg] at h
    simp only at h
    cases hq:st.get s with
    |val v=>
     rw [hq] at h
     cases v with
     |bool t=>
      simp only at h
      have hq0:st0.get s= .val (.bool t):=by rw [←he.get,hq]
      have hu:Mk (st.put s (.val (.bool t))) st0:=(A7d hq).trans he
      cases hsp:Af3 s (eo::l) with
      |some x=>
       obtain ⟨B,pd,r'⟩:=x
       rw [hsp] at h
       obtain ⟨e1,e2⟩:=Au5 hsp
       simp only [jn] at h
       have go:∀su,Mk su st0→P4 P C X [] B su (Akc pd (fun b=>Jc P C X n r' (stJ st B pd b) k))→∃st1 st',Akm P (eo::l) st0 st1∧Mk st' st1∧k st':=by
        intro su hsu hs
        have hselB:∀eo∈B,∀o',eo.k= .scal o'→∀cs b,o'.op≠ .select cs b:=fun e hm=>hsel e (by rw [e1];exact List.mem_append_left _ hm)
        have hselr:∀eo∈r',∀o',eo.k= .scal o'→∀cs b,o'.op≠ .select cs b:=fun e hm=>hsel e (by rw [e1];exact List.mem_append_right _ hm)
        obtain ⟨δs,s1,s',h1,h2,h3⟩:=Aow hC hX B su st0 _ hselB hsu hs
        unfold Akc at h3
        split at h3
        ·rename_i b hb
         obtain ⟨st1,st',h4,h5,h6⟩:=ih r' (stJ st B pd b) (stJ st0 B pd b) k hselr (he.app _) h3
         refine ⟨st1,st',?_,h5,h6⟩
         rw [e1]
         exact .join B r' st0 δs s1 st1 pd b h1 e2 (by rw [←h2.get,hb]) h4
        ·exact h3.elim
       cases t<;>simp only [br] at h
       ·exact go _ hu h
       ·exact go _ hu h
      |none=>
       rw [hsp] at h
       have skip:Jc P C X n l ((st.put s (.val (.bool t))).app (dput eo.dst (.tup []))) k→t≠want→
         ∃st1 st',Akm P (eo::l) st0 st1∧Mk st' st1∧k st':=by
        intro hs hne
        obtain ⟨st1,st',h2,h3,h4⟩:=ih _ _ (st0.app (dput eo.dst (.tup []))) _ hsel2 (hu.app _) hs
        exact ⟨st1,st',.cons eo l st0 st1 _ (by unfold Rv;rw [hg];exact .inl ⟨t,hq0,fun e=>absurd e hne,fun _=>rfl⟩) h2,h3,h4⟩
       have take:Bb P C X [] eo.k eo.dst (st.put s (.val (.bool t))) (fun δ =>Jc P C X n l ((st.put s (.val (.bool t))).app δ) k)→t=want→
         ∃st1 st',Akm P (eo::l) st0 st1∧Mk st' st1∧k st':=by
        intro hs heq
        obtain ⟨δ,h1,st1,st',h2,h3,h4⟩:=run1 _ hu hs
        exact ⟨st1,st',.cons eo l st0 st1 δ (by unfold Rv;rw [hg];exact .inl ⟨t,hq0,fun _=>h1,fun e=>absurd heq e⟩) h2,h3,h4⟩
       cases t<;>cases want<;>simp only [br] at h<;>first|exact take h rfl|exact skip h (by decide)
     |_=>exact h.elim
    |tup l0=>
     rw [hq] at h
     cases l0 with
     |nil=>
      have hq0:st0.get s= .tup []:=by rw [←he.get,hq]
      obtain ⟨st1,st',h2,h3,h4⟩:=ih _ _ (st0.app (dput eo.dst (.tup []))) _ hsel2 (he.app _) h
      exact ⟨st1,st',.cons eo l st0 st1 _ (by unfold Rv;rw [hg];exact .inr ⟨hq0,rfl⟩) h2,h3,h4⟩
     |cons _ _=>exact h.elim
    |_=>rw [hq] at h;exact h.elim
theorem Af0{os:Array Oper}{l:List Gm}{st':St}(hr:Akm P l st st'){Q:Exit→Act→World→Prop} :∀(i k:Nat),i+k=os.size→l.length≤k→
  (∀j eo,l[j]? =some eo→Bef P inl once nt os (i+j) eo)→∀(a:Act) (w:World) (M:Px) (β :N0),SR cx w0 N nt st a w M β→
  (∀a' w' M' β',SR cx w0 N nt st' a' w' M' β'→wpOps P os Q (List.range' (i+l.length) (k - l.length)) a' w')→wpOps P os Q (List.range' i k) a w:=by
 induction hr with
 |nil st=>intro i k _ _ _ a w M β h hQ;exact hQ _ _ _ _ h
 |cons eo l st st' δ h1 _ ih=>
  intro i k hi hk hh a w M β h hQ
  refine Aph (inl:=inl) (once:=once) (Run.cons eo [] st (st.app δ) δ [] h1 (.nil _)) i k hi (by simp at hk ⊢;omega) (fun j e hj=> ?_) a w M β h (fun a' w' M' β' h'=> ?_)
  ·cases j with
   |zero=>simp at hj;subst hj;exact hh 0 eo rfl
   |succ j=>simp at hj
  ·refine ih (i+1) (k - 1) (by simp at hk;omega) (by simp at hk;omega) (fun j e hj=>by have:=hh (j+1) e (by simpa using hj);rwa [show i+(j+1)=i+1+j by omega] at this) a' w' M' β' h' (fun a' w' M' β' h'=> ?_)
   have:=hQ a' w' M' β' h'
   simp only [List.length_cons] at this
   rwa [show i+(l.length+1)=i+1+l.length by omega,show k - (l.length+1)=k - 1 - l.length by omega] at this
 |join B r st δs st1 st' pd v hB hq hv _ ih=>
  intro i k hi hk hh a w M β h hQ
  simp only [List.length_append] at hk hQ
  refine Aph (inl:=inl) (once:=once) hB i k hi (by omega) (fun j e hj=>hh j e (by rw [List.getElem?_append_left (List.getElem?_eq_some_iff.1 hj).1];exact hj)) a w M β h (fun a' w' M' β' h'=> ?_)
  refine ih (i+B.length) (k - B.length) (by omega) (by omega) (fun j e hj=> ?_) a' w' M' β' (A8c hB hq hv h') (fun a' w' M' β' h'=> ?_)
  ·have:=hh (B.length+j) e (by rw [List.getElem?_append_right (by omega)];simpa using hj)
   rwa [show i+(B.length+j)=i+B.length+j by omega] at this
  ·have:=hQ a' w' M' β' h'
   rwa [show i+(B.length+r.length)=i+B.length+r.length by omega,show k - (B.length+r.length)=k - B.length - r.length by omega] at this
theorem Ado:∀(l:List Gm) (eo:Gm) (d:Nat),eo∈l→eo.k.makes=true→eo.dst=some d→d∈Yq l:=by
 intro l
 induction l with
 |nil=>intro eo d h;cases h
 |cons e l ih=>
  intro eo d hm hk hd
  simp only [Yq]
  rcases List.mem_cons.1 hm with e1|e1
  ·subst e1;rw [hk,hd];simp
  ·have:=ih eo d e1 hk hd
   cases h1:e.k.makes<;>cases h2:e.dst<;>simp only [h1,h2]<;>first|exact this|exact List.mem_cons_of_mem _ this
theorem Ag6{a b:Nat} :∀ {ap:List (Nat×Nat)},l9 a b ap=true→∃c d,(c,d)∈ap∧((a=c∧b=d)∨(a=d∧b=c))
 | [],h=>by simp [l9] at h
 |(c,d)::r,h=>by
  simp only [l9,Bool.or_eq_true,Bool.and_eq_true] at h
  rcases h with (h|h)|h
  ·exact ⟨c,d,by simp,.inl ⟨Ck h.1,Ck h.2⟩⟩
  ·exact ⟨c,d,by simp,.inr ⟨Ck h.1,Ck h.2⟩⟩
  ·obtain ⟨c',d',h1,h2⟩:=Ag6 h
   exact ⟨c',d',List.mem_cons_of_mem _ h1,h2⟩
theorem Ag7(a b:Nat):∀(ap:List (Nat×Nat)),l9 a b ap=l9 b a ap
 | []=>rfl
 |(c,d)::r=>by
  simp only [l9,Ag7 a b r]
  cases Nat.beq a c<;>cases Nat.beq b d<;>cases Nat.beq a d<;>cases Nat.beq b c<;>rfl
theorem Amb(ap:List (Nat×Nat))(x y:Gm):Uh ap x y=Uh ap y x:=by
 unfold Uh
 cases x.k.addr<;>cases y.k.addr<;>simp [Ag7]
theorem Agu:∀ {ap:List (Nat×Nat)},Abn st ap=true→∀a b,(a,b)∈ap→∃d o d' o',st.get a= .loc d o∧st.get b= .loc d' o'∧d≠d'
 | [],_,_,_,h=>by cases h
 |(c,e)::r,h,a,b,hm=>by
  simp only [Abn] at h
  split at h
  ·rename_i d o d' o' h1 h2
   cases hb:Nat.beq d d' with
   |true=>rw [hb] at h;cases h
   |false=>
    rw [hb] at h
    rcases List.mem_cons.1 hm with e'|e'
    ·injection e' with e1 e2
     subst e1;subst e2
     exact ⟨d,o,d',o',h1,h2,fun e=>by subst e;simp at hb⟩
    ·exact Agu h a b e'
  ·cases h
theorem Ad3{a:Nat} :∀ {l:List Gm},Ow a l=true→∀e∈l,a∉e.writes
 | [],_,_,h=>by cases h
 |x::r,h,e,hm=>by
  simp only [Ow] at h
  cases hn:A9 a x.writes with
  |false=>rw [hn] at h;cases h
  |true=>
   rw [hn] at h
   rcases List.mem_cons.1 hm with e'|e'
   ·subst e';exact (Bq _ _).1 hn
   ·exact Ad3 h e e'
theorem z8{l:List Gm} :∀ {ap:List (Nat×Nat)},k6 l ap=true→∀a b,(a,b)∈ap→Ow a l=true∧Ow b l=true
 | [],_,_,_,h=>by cases h
 |(c,e)::r,h,a,b,hm=>by
  simp only [k6,Bool.and_eq_true] at h
  rcases List.mem_cons.1 hm with e'|e'
  ·injection e' with e1 e2
   subst e1;subst e2
   exact h.1
  ·exact z8 h.2 a b e'
theorem X2:∀(δs:List Cm) (m:Nat→Bool) (st:St),(Nz δs m st).base=st.base:=by
 intro δs
 induction δs with
 |nil=>intro m st;rfl
 |cons δ r ih=>
  intro m st
  simp only [Nz]
  rw [ih]
  cases m 0<;>rfl
theorem Alg{d o b:Nat}(h:At (.loc d o) b):d=b:=by
 rcases h with ⟨off,h⟩|⟨sz,i,off,h⟩
 ·injection h
 ·cases h
theorem Av9{ap:List (Nat×Nat)}(hap:Abn st ap=true){os:Array Oper}{l:List Gm}{δs:List Cm}{st':St}(hr:Run P ((Yq l).map (st.base+ ·)) l st δs st')(hco:Agx P inl once os os.toList=some l)(hds:Vo nt l=true)
  (hok0:Afe ap os.toList l=true) {Q:Exit→Act→World→Prop} (hQ:∀a' w' M' β',SR cx w0 N nt st' a' w' M' β'→Q .normal a' w'):
  ∀(fuel:Nat) (listed:Array Bool),listed.size=os.size→((List.range os.size).filter fun i=> !listed.getD i false).length=fuel→
   (∀(j:Nat) (o:Oper),os[j]? =some o→listed.getD j false=true→∀e∈Y9 o,listed.getD e false=true)→
   ∀(a:Act) (w:World) (M:Px) (β :N0),SR cx w0 N nt (Nz δs (Nh listed) st) a w M β→wpAny P .any os Q fuel listed a w:=by
 simp only [Afe,Bool.and_eq_true] at hok0
 obtain ⟨hau,hok⟩:=hok0
 obtain ⟨hlen,hsp⟩:=Vm _ _ hco
 have hlen': δs.length=os.size:=by rw [hr.length,hlen];simp
 have hll:l.length=os.size:=by rw [hlen];simp
 have hpair:∀i j,i < j→j < os.size→∀x y,l[i]? =some x→l[j]? =some y→Tp ap (Cy l i) x (Cy l j) y=true→Reach os.toList j i:=by
  intro i j hij hj x y hx hy hc
  have h1:=Abp hok j (by simpa using hj)
  simp only [Bool.and_eq_true] at h1
  have h2:=Abp h1.1 i hij
  simp only [A7a,hx,hy,hc] at h2
  exact A2l os.toList os.toList [] (fun k o hk=>by simpa using hk) (fun j i hb=>by simp at hb) j i h2
 have hedge:∀j (o:Oper),os[j]? =some o→∀e∈Y9 o,e < j:=by
  intro j o ho e he
  have hj:j < os.size:=(Array.getElem?_eq_some_iff.1 ho).1
  have h1:=Abp hok j (by simpa using hj)
  simp only [Bool.and_eq_true] at h1
  have h2:=h1.2
  rw [show os.toList[j]? =some o by simpa using ho] at h2
  exact Akr j _ h2 e he
 intro fuel
 induction fuel with
 |zero=>
  intro listed hs hc hcl a w M β h
  have hall:∀i,i < os.size→listed.getD i false=true:=by
   intro i hi
   have h0:=List.eq_nil_of_length_eq_zero hc
   cases hb:listed.getD i false with
   |true=>rfl
   |false=>
    have:i∈(List.range os.size).filter fun i=> !listed.getD i false:=List.mem_filter.2 ⟨by simpa using hi,by simp [hb]⟩
    rw [h0] at this;cases this
  have e:Nz δs (Nh listed) st=st':=by
   rw [hr.last]
   exact A34 _ _ _ _ (fun j hj=>hall j (by omega))
  rw [e] at h
  refine ⟨?_,hQ _ _ _ _ h⟩
  apply List.eq_nil_iff_forall_not_mem.2
  intro i hi
  obtain ⟨h1,o,ho,_⟩:=mem_ready.1 hi
  have hio:i < os.size:=(Array.getElem?_eq_some_iff.1 ho).1
  have:=hall i hio
  rw [Array.getD_eq_getD_getElem?] at this h1
  rw [Array.getElem?_eq_getElem (by omega)] at this h1
  simp at this h1
  rw [this] at h1;cases h1
 |succ fuel ih=>
  intro listed hs hc hcl a w M β h
  refine ⟨fun hn=> ?_,fun i hi=> ?_⟩
  ·
   exfalso
   have hex:∃i,i < os.size∧listed.getD i false=false:=by
    have hne:((List.range os.size).filter fun i=> !listed.getD i false)≠ []:=by intro e;rw [e] at hc;simp at hc
    obtain ⟨i,hi⟩:=List.exists_mem_of_ne_nil _ hne
    obtain ⟨h1,h2⟩:=List.mem_filter.1 hi
    exact ⟨i,by simpa using h1,by simpa using h2⟩
   have least:∀n,(∃i,i < n∧i < os.size∧listed.getD i false=false)→∃i,i < os.size∧listed.getD i false=false∧∀j,j < i→listed.getD j false=true:=by
    intro n
    induction n with
    |zero=>rintro ⟨i,h1,_⟩;omega
    |succ n ihn=>
     rintro ⟨i,h1,h2,h3⟩
     by_cases hl:∃j,j < n∧j < os.size∧listed.getD j false=false
     ·exact ihn hl
     ·refine ⟨i,h2,h3,fun j hj=> ?_⟩
      cases hb:listed.getD j false with
      |true=>rfl
      |false=>exact absurd ⟨j,by omega,by omega,hb⟩ hl
   obtain ⟨i0,hi0,hi0'⟩:=hex
   obtain ⟨i,h1,h2,h3⟩:=least os.size ⟨i0,hi0,hi0,hi0'⟩
   have ho:os[i]? =some os[i]:=Array.getElem?_eq_getElem h1
   have:i∈Region.ready .any os listed:=mem_ready.2 ⟨by
    rw [Array.getD_eq_getD_getElem?] at h2 ⊢
    rw [Array.getElem?_eq_getElem (by omega)] at h2 ⊢
    simpa using h2,_,ho,fun e he hb=>h3 _ (hedge i _ ho _ (Aui he hb))⟩
   rw [hn] at this;cases this
  ·obtain ⟨h1,o,ho,hall⟩:=mem_ready.1 hi
   have hio:i < os.size:=(Array.getElem?_eq_some_iff.1 ho).1
   have hun:listed.getD i false=false:=by
    rw [Array.getD_eq_getD_getElem?] at h1 ⊢
    rw [Array.getElem?_eq_getElem (by omega)] at h1 ⊢
    simpa using h1
   have hdep:∀e∈Y9 o,listed.getD e false=true:=fun e he=>by
    obtain ⟨ed,q1,q2,rfl⟩:=As6 he
    exact hall ed q1 q2
   have reach:∀j k,Reach os.toList j k→listed.getD j false=true→listed.getD k false=true:=by
    intro j k hrk
    induction hrk with
    |one j o i ho hi=>intro hj;exact hcl j o (by simpa using ho) hj i hi
    |more j o e i ho he _ ih2=>intro hj;exact ih2 (hcl j o (by simpa using ho) hj e he)
   have reachI:∀k,Reach os.toList i k→listed.getD k false=true:=by
    intro k hrk
    cases hrk with
    |one _ o' _ ho' hi'=>
     have:o'=o:=by rw [show os.toList[i]? =some o by simpa using ho] at ho';injection ho' with ho';exact ho'.symm
     subst this;exact hdep k hi'
    |more _ o' e _ ho' he' hr'=>
     have:o'=o:=by rw [show os.toList[i]? =some o by simpa using ho] at ho';injection ho' with ho';exact ho'.symm
     subst this;exact reach e k hr' (hdep e he')
   obtain ⟨eo,g1,g2,g3,g4⟩:=hsp i o (by simpa using ho)
   have hd: δs[i]? =some (δs[i]'(by omega)):=List.getElem?_eq_getElem (by omega)
   have hos:=hr.at i eo _ g1 hd
   have foot:∀(j:Nat) (δ :Cm),δs[j]? =some δ→∃ej:Gm,l[j]? =some ej∧(∀s∈δ.s.map Prod.fst,s∈ej.writes)∧(∀b∈δ.o.map Prod.fst,A2h ej.k ej.dst (Nz δs (fun i=>decide (i < j)) st) b):=by
    intro j δ hj
    have hjl:j < l.length:=by have:=(List.getElem?_eq_some_iff.1 hj).1;omega
    have hej:l[j]? =some (l[j]):=List.getElem?_eq_getElem hjl
    exact ⟨_,hej,Ams (hr.at j _ δ hej hj)⟩
   have same:∀(j:Nat) (ej:Gm),l[j]? =some ej→(Tp ap (Cy l j) ej (Cy l i) eo=true∨Tp ap (Cy l i) eo (Cy l j) ej=true)→(j=i→False)→(decide (j < i))=Nh listed j:=by
    intro j ej hej hcl' hne
    have hj:j < os.size:=by have:=(List.getElem?_eq_some_iff.1 hej).1;omega
    have hsym:Tp ap (Cy l j) ej (Cy l i) eo=true∧Tp ap (Cy l i) eo (Cy l j) ej=true:=by
     have e:Tp ap (Cy l j) ej (Cy l i) eo=Tp ap (Cy l i) eo (Cy l j) ej:=by
      have m:∀a b,Adp a b=Adp b a:=fun a b=>by
       rw [Bool.eq_iff_iff,Ajc,Ajc]
       exact ⟨fun ⟨s,x,y⟩=>⟨s,y,x⟩,fun ⟨s,x,y⟩=>⟨s,y,x⟩⟩
      simp only [Tp]
      rw [m ej.writes eo.reads,m ej.writes eo.writes,m ej.reads eo.writes,Amb ap ej eo,A24 (Cy l j) (Cy l i)]
      cases Alx (Cy l i) eo.k (Cy l j) ej.k<;>cases Adp eo.reads ej.writes<;>cases Adp eo.writes ej.writes<;>cases Adp eo.writes ej.reads<;>cases ej.k.isStore<;>cases eo.k.heapy<;>cases ej.k.heapy<;>cases eo.k.isStore<;>cases Uh ap eo ej<;>rfl
     rcases hcl' with h|h
     ·exact ⟨h,by rw [←e];exact h⟩
     ·exact ⟨by rw [e];exact h,h⟩
    by_cases hlt:j < i
    ·have:=reachI j (hpair j i hlt hio _ _ hej g1 hsym.1)
     simp only [hlt,decide_true,Nh];exact this.symm
    ·have hne':j≠i:=hne
     have hlt':i < j:=by omega
     have hR:=hpair i j hlt' hj _ _ g1 hej hsym.2
     have:Nh listed j=false:=by
      cases hb:Nh listed j with
      |false=>rfl
      |true=>have:=reach j i hR hb;rw [hun] at this;cases this
     simp only [hlt,decide_false];exact this.symm
   have atI:(decide (i < i))=Nh listed i:=by simp only [Nat.lt_irrefl,decide_false,Nh];exact hun.symm
   have clashW:∀(j:Nat) (ej:Gm) (s:Nat),s∈ej.writes→s∈eo.reads→Tp ap (Cy l j) ej (Cy l i) eo=true:=fun j ej s h1 h2=>by
    cases hc':Tp ap (Cy l j) ej (Cy l i) eo with
    |true=>rfl
    |false=>exact absurd h2 ((P2 hc').1 s h1)
   have hget:∀s,s∈eo.reads→(Nz δs (Nh listed) st).get s=(Nz δs (fun j=>decide (j < i)) st).get s:=by
    intro s hs
    refine Asb _ _ _ _ _ s rfl (fun j δ hj hsj=> ?_)
    obtain ⟨ej,hej,f1,_⟩:=foot j δ hj
    by_cases e:j=i
    ·subst e;exact atI.symm
    ·exact (same j ej hej (.inl (clashW j ej s (f1 s hsj) hs)) e).symm
   have hopd:∀x∈eo.k.opds,(Nz δs (Nh listed) st).opd x=(Nz δs (fun j=>decide (j < i)) st).opd x:=by
    intro x hx
    cases x with
    |tmp t=>exact hget t (A3k hx rfl)
    |_=>rfl
   have noFreed2:∀(i:Nat) (eo:Gm) (j:Nat) (ej:Gm) (b:Nat),l[i]? =some eo→l[j]? =some ej→Uh ap ej eo=true→(∀a,ej.k.addr=some a→At ((Nz δs (fun i=>decide (i < j)) st).get a) b)→
     (∀a,eo.k.addr=some a→At ((Nz δs (fun j=>decide (j < i)) st).get a) b)→False:=by
    intro i eo j ej b _ hej hf h1 h2
    unfold Uh at hf
    cases ha1:ej.k.addr with
    |none=>rw [ha1] at hf;cases hf
    |some a1=>
     cases ha2:eo.k.addr with
     |none=>rw [ha1,ha2] at hf;cases hf
     |some a2=>
      rw [ha1,ha2] at hf
      obtain ⟨c,d,hm,hcd⟩:=Ag6 hf
      obtain ⟨d1,o1,d2,o2,e1,e2,hne⟩:=Agu hap c d hm
      obtain ⟨u1,u2⟩:=z8 hau c d hm
      have keepS:∀(m:Nat→Bool) (s:Nat),Ow s l=true→(Nz δs m st).get s=st.get s:=by
       intro m s hu
       have:(Nz δs m st).get s=(Nz δs (fun _=>false) st).get s:=Asb _ _ _ _ _ s rfl (fun k δ hk hs=>by
        obtain ⟨ek,hek,f1,_⟩:=foot k δ hk
        exact absurd (f1 s hs) (Ad3 hu ek (List.mem_of_getElem? hek)))
       rw [this,Ad0 _ _ _ (fun _ _=>rfl)]
      have q1:=h1 a1 ha1
      have q2:=h2 a2 ha2
      rcases hcd with ⟨rfl,rfl⟩|⟨rfl,rfl⟩
      ·rw [keepS _ _ u1,e1] at q1
       rw [keepS _ _ u2,e2] at q2
       exact hne ((Alg q1).trans (Alg q2).symm)
      ·rw [keepS _ _ u2,e2] at q1
       rw [keepS _ _ u1,e1] at q2
       exact hne ((Alg q2).trans (Alg q1).symm)
   have noFreed:∀(j:Nat) (ej:Gm) (b:Nat),l[j]? =some ej→Uh ap ej eo=true→(∀a,ej.k.addr=some a→At ((Nz δs (fun i=>decide (i < j)) st).get a) b)→
     (∀a,eo.k.addr=some a→At ((Nz δs (fun j=>decide (j < i)) st).get a) b)→False:=fun j ej b=>noFreed2 i eo j ej b g1
   have hvob:eo.k.isLoad=true→∀b,A9 b ((Yq l).map (st.base+ ·))=true→(∀a,eo.k.addr=some a→At ((Nz δs (fun j=>decide (j < i)) st).get a) b)→(Nz δs (Nh listed) st).vobj b=(Nz δs (fun j=>decide (j < i)) st).vobj b:=by
    intro hl b hb hta
    have touch:∀(j:Nat) (δ :Cm),δs[j]? =some δ→b∈δ.o.map Prod.fst→∃ej,l[j]? =some ej∧ej.k.isStore=true∧∀a,ej.k.addr=some a→At ((Nz δs (fun i=>decide (i < j)) st).get a) b:=by
     intro j δ hj hbj
     obtain ⟨ej,hej,_,f2⟩:=foot j δ hj
     rcases f2 b hbj with f|⟨f,fs,fd,fb⟩
     ·exact ⟨ej,hej,f⟩
     ·exfalso
      rw [Bq] at hb
      rw [X2] at fb
      exact hb (List.mem_map.2 ⟨fs,Ado l ej fs (List.mem_of_getElem? hej) f fd,fb.symm⟩)
    have nofresh:∀(j:Nat) (δ :Cm),δs[j]? =some δ→b∈δ.o.map Prod.fst→Cy l j=false:=by
     intro j δ hj hbj
     obtain ⟨ej,hej,hst,hat⟩:=touch j δ hj hbj
     cases hf:Cy l j with
     |false=>rfl
     |true=>
      exfalso
      unfold Cy at hf
      rw [hej] at hf
      simp only [Bool.and_eq_true] at hf
      obtain ⟨_,hf⟩:=hf
      cases ha:ej.k.addr with
      |none=>rw [ha] at hf;cases hf
      |some a=>
       rw [ha] at hf
       simp only [Bool.not_eq_true'] at hf
       obtain ⟨k,hk,hkk⟩:=Asv hf
       simp only [Bool.not_eq_false'] at hkk
       have hkl:k < l.length:=by have:=(List.getElem?_eq_some_iff.1 hej).1;omega
       have hek:l[k]? =some l[k]:=List.getElem?_eq_getElem hkl
       rw [hek] at hkk
       simp only [Bool.and_eq_true] at hkk
       obtain ⟨m1,m2⟩:=hkk
       have hdk: δs[k]? =some (δs[k]'(by omega)):=List.getElem?_eq_getElem (by omega)
       obtain ⟨n1,n2⟩:=A69 (hr.at k _ _ hek hdk) m1
       rw [X2] at n2
       have hg:=A8d δs (fun i=>decide (i < j)) st k _ a hdk (decide_eq_true hk) n1 (fun j' δ' hne hδ' hin=>by
        obtain ⟨e',he',f1,_⟩:=foot j' δ' hδ'
        have:=Abp m2 j' ((List.getElem?_eq_some_iff.1 he').1)
        rw [he'] at this
        simp only [Bool.or_eq_true] at this
        rcases this with h1|h1
        ·exact hne (Ck h1)
        ·rw [Bq] at h1;exact h1 (f1 a hin))
       have:=hat a ha
       rw [hg,n2] at this
       have hbb:=Alg this
       rw [Bq] at hb
       refine hb (List.mem_map.2 ⟨a,Ado l l[k] a (List.getElem_mem hkl) ?_ ?_,hbb⟩)
       ·cases hq:l[k].k<;>simp only [Gm.mkAt,hq] at m1<;>first|rfl|cases m1
       ·unfold Gm.mkAt at m1
        split at m1
        ·rename_i hd;rw [hd,Ck m1]
        ·rename_i hd;rw [hd,Ck m1]
        ·cases m1
    let T:Nat→Bool:=fun j=>match l[j]? with|some e=>e.k.isTake|none=>false
    have hT:∀(k:Nat) (δ :Cm),T k=true→δs[k]? =some δ→b∈δ.o.map Prod.fst→(Db [] δ.o b).map PV.view=(Nz δs (fun j=>decide (j < k)) st).vobj b:=by
     intro k δ hk hδ hbk
     obtain ⟨ek,hek,_,_⟩:=foot k δ hδ
     have hk':ek.k.isTake=true:=by simp only [T,hek] at hk;exact hk
     exact Aw4 (hr.at k ek δ hek hδ) hk' b hbk
    have bound:∀(m:Nat→Bool) (k:Nat),m k=true→(δs[k]?).isSome=true→k < δs.length:=by
     intro m k _ h
     cases hq: δs[k]? with
     |none=>rw [hq] at h;cases h
     |some _=>exact (List.getElem?_eq_some_iff.1 hq).1
    have c1:=Apl T hT δs.length (Nh listed) (bound _) (fun k j δ δ' hTk hmk hδ hbk hTj hδ' hbj hjk=>by
     obtain ⟨ek,hek,hsk,hak⟩:=touch k δ hδ hbk
     obtain ⟨ej,hej,hsj,haj⟩:=touch j δ' hδ' hbj
     have hks:k < os.size:=by have:=(List.getElem?_eq_some_iff.1 hek).1;omega
     cases hc':Tp ap (Cy l j) ej (Cy l k) ek with
     |true=>exact reach k j (hpair j k hjk hks _ _ hej hek hc') hmk
     |false=>
      exfalso
      obtain ⟨_,_,_,q1,_⟩:=P2 hc'
      have hfr:=Xo (q1 hsj (Ad1 hsk)) (H3 hsj) (H3 hsk)
      exact noFreed2 k ek j ej b hek hej hfr haj hak)
    have c2:=Apl T hT δs.length (fun j=>decide (j < i)) (bound _) (fun k j δ δ' hTk hmk hδ hbk hTj hδ' hbj hjk=>by
     have:=of_decide_eq_true hmk
     exact decide_eq_true (by omega))
    rw [c1,c2]
    unfold St.vobj
    rw [Ah0 δs (fun j=>Nh listed j && !T j) (fun j=>decide (j < i) && !T j) st st b rfl (fun j δ hj hbj=> ?_)]
    cases hTj:T j with
    |true=>simp
    |false=>
     simp only [Bool.not_false,Bool.and_true]
     obtain ⟨ej,hej,hsj,haj⟩:=touch j δ hj hbj
     by_cases e:j=i
     ·subst e;exact atI.symm
     ·refine (same j ej hej ?_ e).symm
      cases hc':Tp ap (Cy l j) ej (Cy l i) eo with
      |true=>exact .inl rfl
      |false=>
       exfalso
       obtain ⟨_,_,_,q1,_⟩:=P2 hc'
       have hh:eo.k.heapy=true:=by cases hk:eo.k<;>rw [hk] at hl<;>first|rfl|cases hl
       rcases q1 hsj hh with hq|hq
       ·exact noFreed j ej b hej hq haj hta
       ·have hnf:=nofresh j δ hj hbj
        have hnt:ej.k.isTake=false:=by simp only [T,hej] at hTj;exact hTj
        have hnl:=H3 hsj
        rw [hnf] at hq
        simp [Alx,hnt,hnl] at hq
   have hobj:eo.k.heapy=true→eo.k.isLoad=false→∀b,(eo.k.isStore=true∨A9 b ((Yq l).map (st.base+ ·))=true)→(∀a,eo.k.addr=some a→At ((Nz δs (fun j=>decide (j < i)) st).get a) b)→(Nz δs (Nh listed) st).obj b=(Nz δs (fun j=>decide (j < i)) st).obj b:=by
    intro hh hnl b hb hta
    refine Ah0 _ _ _ _ _ b rfl (fun j δ hj hbj=> ?_)
    obtain ⟨ej,hej,_,f2⟩:=foot j δ hj
    by_cases e:j=i
    ·subst e;exact atI.symm
    ·refine (same j ej hej ?_ e).symm
     cases hc':Tp ap (Cy l j) ej (Cy l i) eo with
     |true=>exact .inl rfl
     |false=>
      exfalso
      obtain ⟨_,_,_,q1,q2⟩:=P2 hc'
      rcases f2 b hbj with f|⟨f,fs,fd,fb⟩
      ·exact noFreed j ej b hej (Xo (q1 f.1 hh) (H3 f.1) hnl) f.2 hta
      ·rcases hb with hb|hb
       ·have:=Xo (q2 (Xt f) hb) (Um f) hnl
        unfold Uh at this
        have hn:ej.k.addr=none:=by cases hk:ej.k<;>rw [hk] at f<;>first|rfl|cases f
        rw [hn] at this;cases this
       ·rw [Bq] at hb
        rw [X2] at fb
        exact hb (List.mem_map.2 ⟨fs,Ado l ej fs (List.mem_of_getElem? hej) f fd,fb.symm⟩)
   have hkey:eo.k.makes=true→∀s,eo.dst=some s→A9 ((Nz δs (fun j=>decide (j < i)) st).base+s) ((Nz δs (fun j=>decide (j < i)) st).ob.map Prod.fst)=true→A9 ((Nz δs (fun j=>decide (j < i)) st).base+s) ((Nz δs (Nh listed) st).ob.map Prod.fst)=true:=by
    intro hk s hs hn
    rw [X2] at hn ⊢
    rw [A2b δs (Nh listed) (fun j=>decide (j < i)) st st (st.base+s) rfl (fun j δ hj hbj=> ?_)]
    ·exact hn
    ·obtain ⟨ej,hej,_,f2⟩:=foot j δ hj
     by_cases e:j=i
     ·subst e;exact atI.symm
     ·refine (same j ej hej ?_ e).symm
      cases hc':Tp ap (Cy l j) ej (Cy l i) eo with
      |true=>exact .inl rfl
      |false=>
       exfalso
       obtain ⟨_,w2,_,q1,q2⟩:=P2 hc'
       rcases f2 (st.base+s) hbj with f|⟨f,fs,fd,fb⟩
       ·have:=Xo (q1 f.1 (Xt hk)) (H3 f.1) (Um hk)
        unfold Uh at this
        have hn:eo.k.addr=none:=by cases hk':eo.k<;>rw [hk'] at hk<;>first|rfl|cases hk
        rw [hn] at this
        cases hz:ej.k.addr<;>rw [hz] at this<;>cases this
       ·rw [X2] at fb
        have e':s=fs:=by omega
        refine w2 s ?_ ?_
        ·simp [Gm.writes,fd,e']
        ·simp [Gm.writes,hs]
   have hwild:eo.k.wild=true→(∀b,(Nz δs (Nh listed) st).obj b=(Nz δs (fun j=>decide (j < i)) st).obj b)∧∀b,A9 b ((Nz δs (Nh listed) st).ob.map Prod.fst)=A9 b ((Nz δs (fun j=>decide (j < i)) st).ob.map Prod.fst):=by
    intro hw
    have hst:eo.k.isStore=true:=by cases hk:eo.k<;>rw [hk] at hw<;>first|rfl|cases hw
    have had:eo.k.addr=none:=by cases hk:eo.k<;>rw [hk] at hw<;>first|rfl|cases hw
    have cl:∀(j:Nat) (δ :Cm) (b:Nat),δs[j]? =some δ→b∈δ.o.map Prod.fst→Nh listed j=decide (j < i):=by
     intro j δ b hj hbj
     obtain ⟨ej,hej,_,f2⟩:=foot j δ hj
     by_cases e:j=i
     ·subst e;exact atI.symm
     ·refine (same j ej hej ?_ e).symm
      cases hc':Tp ap (Cy l j) ej (Cy l i) eo with
      |true=>exact .inl rfl
      |false=>
       exfalso
       obtain ⟨_,_,_,q1,q2⟩:=P2 hc'
       have hh:ej.k.heapy=true∧ej.k.isLoad=false:=by
        rcases f2 b hbj with f|⟨f,_⟩
        ·exact ⟨Ad1 f.1,H3 f.1⟩
        ·exact ⟨Xt f,Um f⟩
       have:=Xo (q2 hh.1 hst) hh.2 (Avh hw)
       unfold Uh at this
       rw [had] at this
       cases hz:ej.k.addr<;>rw [hz] at this<;>cases this
    exact ⟨fun b=>Ah0 _ _ _ _ _ b rfl (fun j δ hj hbj=>cl j δ b hj hbj),fun b=>A2b _ _ _ _ _ b rfl (fun j δ hj hbj=>cl j δ b hj hbj)⟩
   have hos':Rv P ((Yq l).map (st.base+ ·)) eo (Nz δs (Nh listed) st) (δs[i]'(by omega)):=by
    have hA:A4e ((Yq l).map (st.base+ ·)) eo.k eo.dst (Nz δs (fun j=>decide (j < i)) st) (Nz δs (Nh listed) st):=⟨hopd,hobj,hvob,hkey,Aqs g2,by rw [X2,X2],hwild⟩
    unfold Rv at hos ⊢
    cases hg:eo.g with
    |none=>rw [hg] at hos;exact Ace hA hos
    |some sw=>
     obtain ⟨s,want⟩:=sw
     rw [hg] at hos
     rcases hos with ⟨t,q1,q2,q3⟩|⟨q1,q3⟩
     ·exact .inl ⟨t,by rw [hget s (by simp [Gm.reads,hg])];exact q1,fun e=>Ace hA (q2 e),q3⟩
     ·exact .inr ⟨by rw [hget s (by simp [Gm.reads,hg])];exact q1,q3⟩
   have hdst:∀x,o.dst=some x→x < nt:=fun x hx=>Adg l hds eo (List.mem_of_getElem? g1) x (by rw [g3];exact hx)
   have hset:∀j,(listed.setIfInBounds i true).getD j false=if j=i then true else listed.getD j false:=by
    intro j
    rw [Array.getD_eq_getD_getElem?,Array.getD_eq_getD_getElem?,Array.getElem?_setIfInBounds]
    by_cases e:i=j
    ·subst e;simp [hs,hio]
    ·rw [if_neg e,if_neg (fun e'=>e e'.symm)]
   have key:=Akf (os:=os) (K:=wpAny P .any os Q fuel (listed.setIfInBounds i true)) (Q:=Q) h hos' g2 g3 g4 hdst (fun a' w' M' β' h'=>by
    refine ih _ (by simp [hs]) ?_ ?_ a' w' M' β' (h'.equiv ?_)
    ·have hmem:i∈List.range os.size:=by simpa using hio
     have e1:((List.range os.size).filter fun j=> !(listed.setIfInBounds i true).getD j false)=((List.range os.size).filter fun j=> !listed.getD j false).filter fun j=>decide (j≠i):=by
      rw [List.filter_filter]
      apply List.filter_congr
      intro j _
      rw [hset]
      by_cases e:j=i
      ·simp [e]
      ·simp [e]
     rw [e1]
     have e2:((List.range os.size).filter fun j=> !listed.getD j false).filter (fun j=>decide (j≠i))=((List.range os.size).filter fun j=> !listed.getD j false).erase i:=by
      rw [List.Nodup.erase_eq_filter (List.Pairwise.filter _ List.nodup_range)]
      apply List.filter_congr
      intro j _
      by_cases e:j=i<;>simp [e]
     rw [e2,List.length_erase_of_mem (List.mem_filter.2 ⟨hmem,by simp [hun]⟩),hc];rfl
    ·intro j oj hoj hj e he
     rw [hset] at hj ⊢
     by_cases e1:e=i
     ·rw [if_pos e1]
     ·rw [if_neg e1]
      by_cases e2:j=i
      ·subst e2
       rw [ho] at hoj;injection hoj with hoj;subst hoj
       exact hdep e he
      ·rw [if_neg e2] at hj
       exact hcl j oj hoj hj e he
    ·have:=A8e δs (Nh listed) i st _ hd hun (fun j δ' hj hm hδ'=>by
      obtain ⟨ej,hej,f1,f2⟩:=foot j δ' hδ'
      obtain ⟨ei,hei,f3,f4⟩:=foot i _ hd
      have:ei=eo:=by rw [g1] at hei;injection hei with hei;exact hei.symm
      subst this
      have hjs:j < os.size:=by have:=(List.getElem?_eq_some_iff.1 hej).1;omega
      have nc:Tp ap (Cy l i) ei (Cy l j) ej=false:=by
       cases hc':Tp ap (Cy l i) ei (Cy l j) ej with
       |false=>rfl
       |true=>
        have:=reach j i (hpair i j hj hjs _ _ g1 hej hc') hm
        rw [hun] at this;cases this
      obtain ⟨_,w2,_,q1,q2⟩:=P2 nc
      refine ⟨fun s hs'=>fun hs2=>w2 s (f3 s hs') (f1 s hs2),fun b hb hb2=> ?_⟩
      rcases f4 b hb with f|⟨f,fs,fd,fb⟩
      ·rcases f2 b hb2 with f'|⟨f',fs',fd',fb'⟩
       ·have:=Xo (q1 f.1 (Ad1 f'.1)) (H3 f.1) (H3 f'.1)
        rw [Amb] at this
        exact noFreed j ej b hej this f'.2 f.2
       ·have:=Xo (q1 f.1 (Xt f')) (H3 f.1) (Um f')
        unfold Uh at this
        have hn:ej.k.addr=none:=by cases hk:ej.k<;>rw [hk] at f'<;>first|rfl|cases f'
        rw [hn] at this
        cases hz:ei.k.addr<;>rw [hz] at this<;>cases this
      ·rcases f2 b hb2 with f'|⟨f',fs',fd',fb'⟩
       ·have:=Xo (q2 (Xt f) f'.1) (Um f) (H3 f'.1)
        unfold Uh at this
        have hn:ei.k.addr=none:=by cases hk:ei.k<;>rw [hk] at f<;>first|rfl|cases f
        rw [hn] at this;cases this
       ·rw [X2] at fb fb'
        have e':fs'=fs:=by omega
        exact w2 fs (by simp [Gm.writes,fd]) (by simp [Gm.writes,fd',e']))
     have e:(fun j=>if j=i then true else Nh listed j)=Nh (listed.setIfInBounds i true):=funext fun j=>by
      simp only [Nh];rw [hset]
     rw [e] at this
     exact this.symm)
   unfold wpOp
   simp only [ho]
   by_cases hw:Region.wanted o (yielded os a.tmps)=true
   ·rw [if_pos hw] at key ⊢;exact .inl key
   ·rw [if_neg hw] at key ⊢;exact key
end
end Go.Proofs.YthjhkpgonleelaaGreatDoor.Ev
namespace Go.Proofs.YthjhkpgonleelaaGreatDoor.Ev
open Go Go.RowKit
set_option linter.unusedVariables false
set_option linter.unusedSimpArgs false
set_option linter.unnecessarySimpa false
theorem R8{f:PV→Bool} :∀ {l:List PV},Ast f l=true→∀p∈l,f p=true
 | [],_,p,h=>by cases h
 |q::l,h,p,hp=>by
  simp only [Ast] at h
  cases hq:f q with
  |false=>rw [hq] at h;cases h
  |true=>
   rw [hq] at h
   rcases List.mem_cons.1 hp with rfl|hp
   ·exact hq
   ·exact R8 h p hp
theorem Aj5{p:PV}(h:p.cellOK=true):p.flat=true:=by
 cases p<;>first|rfl|cases h
theorem Afc{p:PV}(h:p.cellOK=true):∀s,p.sv=some s→s.own=false:=by
 intro s hs
 cases p with
 |lst own x=>
  cases own with
  |false=>injection hs with hs;subst hs;rfl
  |true=>cases h
 |sl own e sz es=>cases h
 |_=>cases hs
theorem Ajf:∀ {l:List PV},okC l=true→plain l=true
 | [],_=>rfl
 |p::l,h=>by
  have h1:=R8 h p (by simp)
  have h2:okC l=true:=by
   simp only [okC,Ast,h1] at h
   exact h
  have h3:=Ajf h2
  cases p<;>first|exact h3|cases h1
section
variable {w w':World} {M M':Px} {β β':N0} {B B':Nat→Prop}
theorem B1.fx1{p:PV}{v:Value}(h:B1 w M β B p v)(hf:p.fx1=true):B1 w M β' B' p v:=by
 cases p with
 |agg l=>
  cases h with
  |row p s hs=>cases hs
  |agg l cs hl h1 hr=>
   exact .agg l cs hl h1 fun i p v hp hv=>(hr i p v hp hv).flat (R8 hf p (List.mem_of_getElem? hp))
 |_=>exact h.flat hf
theorem B1.fx{p:PV}{v:Value}(h:B1 w M β B p v)(hf:p.fx=true):B1 w M β' B' p v:=by
 cases p with
 |tup l=>
  cases h with
  |row p s hs=>cases hs
  |tup l cs hl hr=>
   exact .tup l cs hl fun i p v hp hv=>(hr i p v hp hv).fx1 (R8 hf p (List.mem_of_getElem? hp))
 |_=>exact h.fx1 hf
theorem B1.cross{p:PV}{v:Value}(h:B1 w M β B p v):B1 w M β' B' p.cross v:=by
 cases p with
 |agg l=>
  cases h with
  |row p s hs=>cases hs
  |agg l cs hl h1 hr=>
   refine .agg _ cs (by rw [List.length_map,hl]) h1 (fun i q u hq hu=> ?_)
   rw [List.getElem?_map] at hq
   obtain ⟨p,hp,rfl⟩:=Option.map_eq_some_iff.1 hq
   exact (hr i p u hp hu).pure0
 |_=>exact h.pure0
end
theorem Ky.cellsOf{w w':World}{M M':Px}{β β':N0}{B B':Nat→Prop}{b n n':Nat}{l:List PV}(h:Ky w M β B b n l)(hf:∀p∈l,p.flat=true)(hp:plain l=true)(hh:w'.heap[b]? =w.heap[b]?)
  (hR:∀p v,p.flat=true→B1 w M β B p v→B1 w' M' β' B' p v):Ky w' M' β' B' b n' l:=by
 obtain ⟨cs,t,q1,q2,q3⟩:=Np h hp
 exact .cells l cs t (by rw [hh];exact q1) q2 (fun i p v hp hv=>⟨hR _ _ (hf p (List.mem_of_getElem? hp)) (q3 i p v hp hv).1,(q3 i p v hp hv).2⟩)
theorem Awn{P:Program}{f:Nat}{cells cells':List PV}{ps:List PV}{r:PV}{o':List (Nat×List PV)}(hI:L3 P f (.loc 0 0::ps.map PV.cross) [(0,cells)] r o')(hlo:Db [] (o'++ [(0,cells)]) 0=cells')
  (hcc:okC cells=true) (hcc':okC cells'=true) (hr':r.fx=true)
  (d:Nat) (ob:List (Nat×List PV)) (hd:Db [] ob d=cells) (hdk:A9 d (ob.map Prod.fst)=false):L3 P f (.loc d 0::ps) ob r [(d,cells')]:=by
 have hc:∀p∈cells,p.flat=true:=fun p h=>Aj5 (R8 hcc p h)
 have ho:∀p∈cells,∀s,p.sv=some s→s.own=false:=fun p h=>Afc (R8 hcc p h)
 have hp:=Ajf hcc
 have hc':∀p∈cells',p.flat=true:=fun p h=>Aj5 (R8 hcc' p h)
 have ho':∀p∈cells',∀s,p.sv=some s→s.own=false:=fun p h=>Afc (R8 hcc' p h)
 have hp':=Ajf hcc'
 intro κ H w0 w N M β O D vs hO hD hS hl hr
 match vs,hl with
 |v0::vs,hl=>
 obtain ⟨bd,n,hβ,hv0⟩:=u6 (hr 0 _ v0 rfl rfl)
 subst hv0
 obtain ⟨hb1,hb2,hb3⟩:=hS.box d bd n hβ
 have hbw:bd < w.heap.size:=hS.mlt bd 0 hb2
 rw [hO,hd] at hb3
 let B':E9:=⟨w,fun b=>b < w.heap.size∧b≠bd,fun b h=>h.1⟩
 let β0:N0:=fun x=>if x=0 then some (bd,n) else none
 have hβ0:∀x b m,β0 x=some (b,m)→x=0∧b=bd∧m=n:=fun x b m h=>by
  simp only [β0] at h
  by_cases e:x=0
  ·rw [if_pos e] at h;injection h with h;injection h with h1 h2;exact ⟨e,h1.symm,h2.symm⟩
  ·rw [if_neg e] at h;cases h
 have hnoown:∀(key:R7 Unit) s v,¬X5 (fun _:Unit=>(PV.loc 0 0,Value.pointer (some ⟨bd,0,none⟩))) (Db [] [(0,cells)]) w β0 key s v:=by
  intro key s v h
  cases key with
  |slot k=>cases h.1
  |cell x i=>
   obtain ⟨b,m,p,h1,h2,h3,h4,_⟩:=h
   obtain ⟨rfl,_,_⟩:=hβ0 x b m h1
   have:Db [] [(0,cells)] 0=cells:=rfl
   rw [this] at h2
   rw [ho p (List.mem_of_getElem? h2) s h3] at h4
   cases h4
 have S0:SH (fun _:Unit=>(PV.loc 0 0,Value.pointer (some ⟨bd,0,none⟩))) B' M (Db [] [(0,cells)]) (fun x=>A9 x ([(0,cells)].map Prod.fst)) w M β0:=by
  refine ⟨Bel.of w B' rfl,⟨fun _ _=>rfl,hS.mN.gl.to hS.bel hS.mN.eq B' rfl fun b hb=>⟨hS.bel.lt hb,fun e=>hb1 (by rw [←e];exact hb)⟩⟩,hS.mlt,fun x b m hx=> ?_,fun x y b m m' hx hy=> ?_,fun x hx=> ?_,fun _=> .loc 0 0 bd n (if_pos rfl),fun key s v h=>absurd h (hnoown key s v),fun key _ s _ v _ _ h=>absurd h (hnoown key s v),fun key s v _ _ _ h=>absurd h (hnoown key s v)⟩
  ·obtain ⟨rfl,rfl,rfl⟩:=hβ0 x b m hx
   exact ⟨fun h=>h.2 rfl,hb2,hb3.cellsOf hc hp rfl (fun p v hf h=>h.flat hf)⟩
  ·rw [(hβ0 x b m hx).1,(hβ0 y b m' hy).1]
  ·simp only [β0]
   by_cases e:x=0
   ·subst e;simp [A9] at hx
   ·rw [if_neg e]
 refine Calls.mono (hI _ B' w M M β0 _ _ (.pointer (some ⟨bd,0,none⟩)::vs) (fun _=>rfl) (fun _=>rfl) S0 (by simpa using hl) (fun i p v h1 h2=> ?_)) ?_
 ·cases i with
  |zero=>injection h1 with h1;injection h2 with h2;subst h1;subst h2;exact .loc 0 0 bd n (if_pos rfl)
  |succ i=>
   have h1:(ps.map PV.cross)[i]? =some p:=h1
   rw [List.getElem?_map] at h1
   obtain ⟨q,hq,rfl⟩:=Option.map_eq_some_iff.1 h1
   exact (hr (i+1) q v hq h2).cross
 rintro e w' ⟨v,M',β',rfl,S1⟩
 obtain ⟨b2,n2,hb',hv2⟩:=u6 (S1.reg (some ()))
 have hbb:b2=bd:=by injection hv2 with hv2;injection hv2 with hv2;injection hv2 with hv2;exact hv2.symm
 subst hbb
 have hMM:∀b,b < w.heap.size→M' b=M b:=fun b hb=>by
  by_cases e:b=b2
  ·subst e;rw [hb2];exact (S1.box 0 b n2 hb').2.1
  ·exact S1.mN b ⟨hb,e⟩
 have hhh:∀b,b < w.heap.size→b≠b2→w'.heap[b]? =w.heap[b]? :=fun b hb e=>S1.bel.block b ⟨hb,e⟩
 have hwr:∀b,w0.old b→b < w.heap.size∧b≠b2:=fun b hb=>⟨hS.bel.lt hb,fun e=>hb1 (by rw [←e];exact hb)⟩
 have hE:Ext w M w' M':=fun x u hi hx=>by
  have hxl:=l5 hx
  have hne:x.block≠b2:=fun e=>by have:=hi 0 (by rw [e];exact hb2);omega
  exact ⟨fun m hm=>hi m (by rw [←hMM _ hxl];exact hm),by rw [World.cell?_of_block (w:=w) (hhh _ hxl hne)];exact hx⟩
 have hR:∀p u,B1 w M β w0.old p u→B1 w' M' β w0.old p u:=fun p u h=>h.ext hE (fun x hx=>World.cell?_of_block (w:=w) (hhh _ (hwr _ hx).1 (hwr _ hx).2)) (fun _ _ h=>h)
 have hO1:Db [] ([(d,cells')]++ob) d=cells':=by simp [Db]
 have hO2:∀x,x≠d→Db [] ([(d,cells')]++ob) x=O x:=fun x hx=>by
  rw [hO]
  have:Nat.beq d x=false:=by
   cases hb:Nat.beq d x with
   |false=>rfl
   |true=>exact absurd (Nat.eq_of_beq_eq_true hb).symm hx
  simp [Db,this]
 have hOwn:∀key s u,X5 H (Db [] ([(d,cells')]++ob)) w' β key s u→X5 H O w β key s u:=by
  intro key s u h
  cases key with
  |slot k=>exact h
  |cell x i=>
   obtain ⟨b,m,p,h1,h2,h3,h4,h5⟩:=h
   by_cases e:x=d
   ·subst e
    rw [hO1] at h2
    rw [ho' p (List.mem_of_getElem? h2) s h3] at h4
    cases h4
   ·rw [hO2 x e] at h2
    have hbl:=hS.mlt b 0 (hS.box x b m h1).2.1
    have hne:b≠b2:=fun e'=>e (hS.inj x d b m n h1 (by rw [e'];exact hβ))
    exact ⟨b,m,p,h1,h2,h3,h4,by rw [←World.cell?_of_block (w:=w) (a:=⟨b,i,none⟩) (hhh b hbl hne)];exact h5⟩
 have htk:∀key s u,X5 H O w β key s u→∀g,tb u=some g→g < w.heap.size∧g≠b2:=fun key s u h g hg=>by
  obtain ⟨_,k,hk⟩:=(hS.tok key s u h).lt hg
  exact ⟨hS.mlt g k hk,fun e=>hS.tokbox key s u g d n h hg (by rw [e];exact hβ)⟩
 have SB:SH H w0 N (Db [] ([(d,cells')]++ob)) (fun x=>A9 x (([(d,cells')]++ob).map Prod.fst)) w' M' β :=by
  refine ⟨⟨S1.bel.os.trans hS.bel.os,S1.bel.tape.trans hS.bel.tape,S1.bel.output.trans hS.bel.output,Nat.le_trans hS.bel.size S1.bel.size,fun b hb=>(hhh b (hwr b hb).1 (hwr b hb).2).trans (hS.bel.block b hb)⟩,
   ⟨fun b hb=>(hMM b (hwr b hb).1).trans (hS.mN b hb),hS.mN.gl⟩,S1.mlt,fun x b m hx=> ?_,hS.inj,fun x hx=> ?_,fun k=>hR _ _ (hS.reg k),fun key s u h=> ?_,fun key key' s s' u u' g h h'=>hS.tokne key key' s s' u u' g (hOwn _ _ _ h) (hOwn _ _ _ h'),fun key s u g x m h=>hS.tokbox key s u g x m (hOwn _ _ _ h)⟩
  ·obtain ⟨k1,k2,k3⟩:=hS.box x b m hx
   have hbl:=hS.mlt b 0 k2
   by_cases e:x=d
   ·subst e
    rw [hβ] at hx
    injection hx with hx
    injection hx with hx1 hx2
    subst hx1;subst hx2
    obtain ⟨_,j2,j3⟩:=S1.box 0 b2 n2 hb'
    rw [hlo] at j3
    exact ⟨k1,j2,by rw [hO1];exact j3.cellsOf hc' hp' rfl (fun p v hf h=>h.flat hf)⟩
   ·have hne:b≠b2:=fun e'=>e (hS.inj x d b m n hx (by rw [e'];exact hβ))
    exact ⟨k1,by rw [hMM b hbl];exact k2,by rw [hO2 x e];exact k3.ext (hhh b hbl hne) hR⟩
  ·rw [List.map_append,Tq,Bool.and_eq_true] at hx
   exact hS.dom x (by rw [hD];exact hx.2)
  ·have ht:=hS.tok key s u (hOwn _ _ _ h)
   exact ht.ext (fun g hg=>⟨hhh g (htk key s u (hOwn _ _ _ h) g hg).1 (htk key s u (hOwn _ _ _ h) g hg).2,hMM g (htk key s u (hOwn _ _ _ h) g hg).1⟩)
 refine ⟨v,M',β,rfl,SB.cons r v ((S1.reg none).fx hr') (fun s h1 h2=> ?_)⟩
 have hOn:X5 (Mt (r,v) (fun _:Unit=>(PV.loc 0 0,Value.pointer (some ⟨b2,0,none⟩)))) (Db [] (o'++ [(0,cells)])) w' β' (.slot none) s v:=⟨h1,h2,rfl⟩
 have ht:=S1.tok _ s v hOn
 have hg:∀g,tb v=some g→¬g < w.heap.size:=fun g hg h=>by
  have h3:=(ht.lt hg).1
  have h4:=S1.tokbox _ s v g 0 n2 hOn hg
  exact h3 ⟨h,fun e=>h4 (by rw [e];exact hb')⟩
 refine ⟨?_,fun key s' v' g h3 h4 h5=> ?_,fun g x m h3 h4=> ?_⟩
 ·rcases ht with h|⟨g,c,cur,q1,q2,q3⟩
  ·exact .inl h
  ·exact .inr ⟨g,c,cur,q1,fun h=>hg g (by rw [q1];rfl) (hwr g h).1,q3⟩
 ·exact hg g h4 (htk key s' v' (hOwn _ _ _ h3) g h5).1
 ·exact hg g h3 (hS.mlt g 0 (hS.box x g m h4).2.1)
end Go.Proofs.YthjhkpgonleelaaGreatDoor.Ev
namespace Go.Proofs.YthjhkpgonleelaaGreatDoor.Ev
open Go Go.RowKit
set_option linter.unusedVariables false
set_option linter.unusedSimpArgs false
set_option linter.unnecessarySimpa false
inductive E8 (S:Nat→Prop):PV→Prop
 |any:E8 S .any
 |val (v:Value):E8 S (.val v)
 |lst (own:Bool) (x:LX):E8 S (.lst own x)
 |agg (l:List PV) (h:∀(i:Nat) (p:PV),l[i]? =some p→E8 S p):E8 S (.agg l)
 |tup (l:List PV) (h:∀(i:Nat) (p:PV),l[i]? =some p→E8 S p):E8 S (.tup l)
 |ref (l:List PV) (h:∀(i:Nat) (p:PV),l[i]? =some p→E8 S p):E8 S (.ref l)
 |clo (f n:Nat) (l:List PV) (h:∀(i:Nat) (p:PV),l[i]? =some p→E8 S p):E8 S (.clo f n l)
 |sl (own:Bool) (e sz:Nat) (es:List (List PV)) (h:∀(i j:Nat) (p:PV),i < es.length→(es.getD i [])[j]? =some p→E8 S p):E8 S (.sl own e sz es)
 |loc (d off:Nat) (h:S d):E8 S (.loc d off)
 |el (d sz i off:Nat) (h:S d):E8 S (.el d sz i off)
 |vw (c:Bool) (d e sz n:Nat) (h:S d):E8 S (.vw c d e sz n)
 |mp (d:Nat) (h:S d):E8 S (.mp d)
section
variable {w:World} {M:Px} {β :N0} {B:Nat→Prop}
theorem Afl{l:List PV}{cs:List Value}(hl:l.length=cs.length){i:Nat}{p:PV}(h:l[i]? =some p):∃v,cs[i]? =some v:=
 ⟨_,List.getElem?_eq_getElem (by have:=(List.getElem?_eq_some_iff.1 h).1;omega)⟩
theorem B1.locs{p:PV}{v:Value}(h:B1 w M β B p v):E8 (fun d=>∃x,β d=some x) p:=by
 induction h with
 |any v=>exact .any
 |val v h=>exact .val v
 |agg l cs hl h1 hr ih=>exact .agg l (fun i p hp=>let ⟨v,hv⟩:=Afl hl hp;ih i p v hp hv)
 |tup l cs hl hr ih=>exact .tup l (fun i p hp=>let ⟨v,hv⟩:=Afl hl hp;ih i p v hp hv)
 |row p s hs a c vs hc hsz ha hm hr ih=>
  cases p with
  |sl own e sz es=>
   injection hs with hs;subst hs
   exact .sl own e sz es (fun i j p hi hp=>ih i j p hi hp)
  |lst own x=>exact .lst own x
  |_=>cases hs
 |loc d off b n h=>exact .loc d off ⟨_,h⟩
 |el d sz i off b n h hi=>exact .el d sz i off ⟨_,h⟩
 |vw cf d e sz n b c h hc=>exact .vw cf d e sz n ⟨_,h⟩
 |mp d b n h=>exact .mp d ⟨_,h⟩
 |clo f n l cs hl hr ih=>exact .clo f n l (fun i p hp=>let ⟨v,hv⟩:=Afl hl hp;ih i p v hp hv)
 |ref l ad vs hm hr ih=>exact .ref l (fun i p hp=>ih i p hp)
theorem B1.cutL{S:Nat→Prop}{D:Nat→Bool}(hSD:∀d,S d→D d=false){p:PV}{v:Value}(h:B1 w M β B p v)(hl:E8 S p):B1 w M (β.cut D) B p v:=by
 induction h with
 |any v=>exact .any v
 |val v h=>exact .val v h
 |agg l cs hl' h1 hr ih=>cases hl with|agg l hq=>exact .agg l cs hl' h1 (fun i p v hp hv=>ih i p v hp hv (hq i p hp))
 |tup l cs hl' hr ih=>cases hl with|tup l hq=>exact .tup l cs hl' (fun i p v hp hv=>ih i p v hp hv (hq i p hp))
 |row p s hs a c vs hc hsz ha hm hr ih=>
  cases hl with
  |sl own e sz es hq=>
   injection hs with hs;subst hs
   exact .row _ _ rfl a c vs hc hsz ha hm (fun i j p hi hp=>ih i j p hi hp (hq i j p hi hp))
  |lst own x=>exact (B1.row (β := β) (B:=B) _ s hs a c vs hc hsz ha hm hr).flat rfl
  |_=>cases hs
 |loc d off b n h=>cases hl with|loc d off hq=>exact .loc d off b n (by rw [N0.cut_eq (hSD d hq)];exact h)
 |el d sz i off b n h hi=>cases hl with|el d sz i off hq=>exact .el d sz i off b n (by rw [N0.cut_eq (hSD d hq)];exact h) hi
 |vw cf d e sz n b c h hc=>cases hl with|vw c d e sz n hq=>exact .vw cf d e sz n b _ (by rw [N0.cut_eq (hSD d hq)];exact h) hc
 |mp d b n h=>cases hl with|mp d hq=>exact .mp d b n (by rw [N0.cut_eq (hSD d hq)];exact h)
 |clo f n l cs hl' hr ih=>cases hl with|clo f n l hq=>exact .clo f n l cs hl' (fun i p v hp hv=>ih i p v hp hv (hq i p hp))
 |ref l ad vs hm hr ih=>cases hl with|ref l hq=>exact .ref l ad vs hm (fun i p hp=>ih i p hp (hq i p hp))
end
section
variable {ι :Type} {cx: ι→PV×Value} {P:Program} {C:Bt} {X:Inl} {inl:Nat→Bool} {w0:E9} {w:World} {N M:Px} {β :N0} {nt:Nat} {st:St} {a:Act}
theorem A26{B:Nat→Prop}{b n:Nat}{l:List PV}{D:Nat→Bool}(h:Ky w M β B b n l):Ky w M (β.cut D) B b n (l.map fun p=>p.clean D):=by
 cases h with
 |cells l cs t q1 q2 q3=>
  refine .cells _ cs t q1 (by rw [List.length_map];exact q2) (fun i q v hq hv=> ?_)
  rw [List.getElem?_map] at hq
  cases hp:l[i]? with
  |none=>rw [hp] at hq;cases hq
  |some p=>
   rw [hp] at hq
   injection hq with hq
   subst hq
   exact ⟨(q3 i p v hp hv).1.clean,(q3 i p v hp hv).2⟩
 |arr x cs t q1 q2 q3 q4=>exact .arr x cs t q1 q2 q3 (fun i j p v hi hp hv=>⟨(q4 i j p v hi hp hv).1.flat (LX.row_flat x i p (List.mem_of_getElem? hp)),(q4 i j p v hi hp hv).2⟩)
 |map gk gv ks vs es clock q1 q2 q3 q4 q5=>
  have fl:∀(g:Bool) (x:LX) (i:Nat) (v:Value),B1 w M β B (X6 g (x.row i)) v→B1 w M (β.cut D) B (X6 g (x.row i)) v:=by
   intro g x i v hr
   cases g with
   |true=>
    have hr':B1 w M β B (.agg (x.row i)) v:=hr
    clear hr
    cases hr' with
    |row p s hs=>cases hs
    |agg l cs hl h1 hr=>exact .agg _ cs hl h1 (fun j p u hp hu=>(hr j p u hp hu).flat (LX.row_flat x i p (List.mem_of_getElem? hp)))
   |false=>
    have hf:=LX.row_flat x i
    generalize x.row i=l at hr hf
    match l,hr,hf with
    | [],_,_=>exact .any v
    | [p],hr,hf=>
     have hp:=hf p (by simp)
     have:p.view.flat=true:=by cases p<;>first|rfl|cases hp
     exact B1.flat hr this
    |_::_::_,_,_=>exact .any v
  exact .map gk gv ks vs es clock q1 q2 q3 (fun i e he=>⟨fl _ _ _ _ (q4 i e he).1,fl _ _ _ _ (q4 i e he).2⟩) q5
 |mapE gk gv ks vs es clock q1 q2 q3 q4 q5=>
  have fl:∀(g:Bool) (x:LX) (i:Nat) (v:Value),B1 w M β B (X6 g (x.row i)) v→B1 w M (β.cut D) B (X6 g (x.row i)) v:=by
   intro g x i v hr
   cases g with
   |true=>
    have hr':B1 w M β B (.agg (x.row i)) v:=hr
    clear hr
    cases hr' with
    |row p s hs=>cases hs
    |agg l cs hl h1 hr=>exact .agg _ cs hl h1 (fun j p u hp hu=>(hr j p u hp hu).flat (LX.row_flat x i p (List.mem_of_getElem? hp)))
   |false=>
    have hf:=LX.row_flat x i
    generalize x.row i=l at hr hf
    match l,hr,hf with
    | [],_,_=>exact .any v
    | [p],hr,hf=>
     have hp:=hf p (by simp)
     have:p.view.flat=true:=by cases p<;>first|rfl|cases hp
     exact B1.flat hr this
    |_::_::_,_,_=>exact .any v
  exact .mapE gk gv ks vs es clock q1 q2 q3 (fun i e he=>⟨fl _ _ _ _ (q4 i e he).1,fl _ _ _ _ (q4 i e he).2⟩) q5
theorem Aua(keys live:List Nat):∀key s v,X5 (hold cx (Ev.keep keys live st) a) (Ev.keep keys live st).obj w (β.cut fun d=>A9 d live) key s v→X5 (hold cx st a) st.obj w β key s v:=by
 have hg:∀s,(Ev.keep keys live st).get s=if s∈keys then (st.get s).clean (fun d=>A9 d live) else .any:=fun s=>Ov _ _ _
 have ho:∀d,(Ev.keep keys live st).obj d=if d∈live then (st.obj d).map (fun p=>p.clean fun d=>A9 d live) else []:=fun d=>Ov _ _ _
 intro key s v ho'
 cases key with
 |slot k=>
  cases k with
  |inl t=>
   obtain ⟨h1,h2,h3⟩:=ho'
   simp only [hold] at h1
   rw [hg] at h1
   split at h1
   ·exact ⟨As4 h1,h2,h3⟩
   ·cases h1
  |inr i=>exact ho'
 |cell d i=>
  obtain ⟨b,n,p,h1,h2,h3,h4,h5⟩:=ho'
  obtain ⟨q1,q2⟩:=N0.cut_some h1
  rw [ho] at h2
  split at h2
  ·rw [List.getElem?_map] at h2
   cases hp:(st.obj d)[i]? with
   |none=>rw [hp] at h2;cases h2
   |some p'=>
    rw [hp] at h2
    injection h2 with h2
    subst h2
    exact ⟨b,n,p',q1,hp,As4 h3,h4,h5⟩
  ·simp at h2
theorem SR.keep{S:Nat→Prop}(hcx:∀i,E8 S (cx i).1)(keys live:List Nat)(hS:∀d,S d→A9 d live=false)(h:SR cx w0 N nt st a w M β):SR cx w0 N nt (keep keys live st) a w M (β.cut fun d=>A9 d live):=by
 have hg:∀s,(Ev.keep keys live st).get s=if s∈keys then (st.get s).clean (fun d=>A9 d live) else .any:=fun s=>Ov _ _ _
 have ho:∀d,(Ev.keep keys live st).obj d=if d∈live then (st.obj d).map (fun p=>p.clean fun d=>A9 d live) else []:=fun d=>Ov _ _ _
 have hk:(Ev.keep keys live st).ob.map Prod.fst=live:=by
  show (live.map fun d=>(d,_)).map Prod.fst=live
  rw [List.map_map]
  exact List.map_id' live
 refine ⟨h.defs,h.nt,?_⟩
 have hown:=Aua (cx:=cx) (w:=w) (β := β) (st:=st) (a:=a) keys live
 have H:=h.sh
 refine ⟨H.bel,H.mN,H.mlt,?_,?_,?_,?_,?_,?_,?_⟩
 ·intro d b n hd
  obtain ⟨q1,q2⟩:=N0.cut_some hd
  obtain ⟨r1,r2,r3⟩:=H.box d b n q1
  refine ⟨r1,r2,?_⟩
  rw [ho,if_pos (by
   have:¬A9 d live=true:=by rw [q2];simp
   rw [Bq] at this
   exact Classical.not_not.1 this)]
  exact A26 r3
 ·intro d d' b n n' hd hd';exact H.inj d d' b n n' (N0.cut_some hd).1 (N0.cut_some hd').1
 ·intro d hd
  rw [hk] at hd
  unfold N0.cut
  simp only [hd,if_true]
 ·intro k
  cases k with
  |inl s=>
   simp only [hold]
   rw [hg]
   split
   ·exact (h.reg s).clean
   ·exact .any _
  |inr i=>exact (H.reg (.inr i)).cutL hS (hcx i)
 ·intro key s v ho';exact H.tok key s v (hown _ _ _ ho')
 ·intro key key' s s' v v' g h1 h2;exact H.tokne key key' s s' v v' g (hown _ _ _ h1) (hown _ _ _ h2)
 ·intro key s v g d n h1 hg' hd;exact H.tokbox key s v g d n (hown _ _ _ h1) hg' (N0.cut_some hd).1
def A29:Ex→Exit
 | .normal=> .normal
 | .exit i=> .exit i
 | .ret=> .ret
def x9(S:Nat→Prop)(st:St):Prop:=∀d,S d→A9 d (st.ob.map Prod.fst)=false∧d < st.base
theorem Ag4{S:Nat→Prop}{st:St}(h:x9 S st)(δ :Cm):x9 S (st.app δ):=fun d hd=>⟨by rw [Qo,(h d hd).1,Bool.and_false],(h d hd).2⟩
theorem A99{S:Nat→Prop} :∀(δs:List Cm) (m:Nat→Bool) (st:St),x9 S st→x9 S (Nz δs m st):=by
 intro δs
 induction δs with
 |nil=>intro m st h;exact h
 |cons δ r ih=>
  intro m st h
  simp only [Nz]
  refine ih _ _ ?_
  cases m 0
  ·exact h
  ·exact Ag4 h δ
theorem Amc{S:Nat→Prop}{l:List Gm}{st st':St}(h:Akm P l st st'):x9 S st→x9 S st':=by
 induction h with
 |nil=>exact fun h=>h
 |cons eo l st st' δ _ _ ih=>exact fun h=>ih (Ag4 h δ)
 |join B r st δs st1 st' pd v _ _ _ _ ih=>exact fun h=>ih (Ag4 h _)
theorem Adl{S:Nat→Prop}{s t:St}(h:x9 S s)(he:Mk s t):x9 S t:=fun d hd=>⟨by rw [←he.key];exact (h d hd).1,by rw [←he.base];exact (h d hd).2⟩
theorem Atk(st:St)(live:List Nat):∀(keys:List Nat) (s:Nat),Db .any (frF st live keys) s=if s∈keys then (st.get s).clean (fun d=>A9 d live) else .any
 | [],s=>by simp [frF,Db]
 |x::r,s=>by
  have ih:=Atk st live r s
  have go:∀p:PV,(st.get x).clean (fun d=>A9 d live)=p→Db PV.any ((x,p)::frF st live r) s=if s∈x::r then (st.get s).clean (fun d=>A9 d live) else .any:=by
   intro p hp
   rw [C2,ih]
   by_cases e:x=s
   ·subst e;simp [hp]
   ·have:¬s=x:=fun h=>e h.symm
    simp [e,this]
  have anyc:(st.get x).clean (fun d=>A9 d live)= .any→Db .any (frF st live r) s=if s∈x::r then (st.get s).clean (fun d=>A9 d live) else .any:=by
   intro hp
   rw [ih]
   by_cases e:s=x
   ·subst e;simp [hp]
   ·simp [e]
  simp only [frF]
  split
  ·rename_i h;exact anyc h
  ·rename_i h;exact go _ rfl
theorem Xq(keys live:List Nat)(st:St):Mk (A08 keys live st) (Ev.keep keys live st):=by
 refine ⟨rfl,fun s=> ?_,fun d=>rfl,fun d=>rfl⟩
 show Db PV.any (frF st live keys) s=Db PV.any (keys.map fun s=>(s,(st.get s).clean fun d=>A9 d live)) s
 rw [Atk,Ov]
theorem SR.refine(h:SR cx w0 N nt st a w M β)(t:Nat)(p:PV)(hr:B1 w M β w0.old p (a.tmps.getD t undef))(hn:∀s,p.sv=some s→s.own=false):SR cx w0 N nt (st.app ⟨[(t,p)],[]⟩) a w M β :=by
 have hg:∀s,(st.app ⟨[(t,p)],[]⟩).get s=if t=s then p else st.get s:=fun s=>J1 st t s p
 refine ⟨h.defs,h.nt,h.sh.hold (fun k=> ?_) (fun k=>match k with| .inl s=>if t=s then none else some (.inl s)| .inr i=>some (.inr i)) (fun k s h1 h2=> ?_) (fun k k' j h1 h2=> ?_)⟩
 ·cases k with
  |inl s=>
   simp only [hold]
   rw [hg]
   by_cases e:t=s
   ·rw [if_pos e,←e];exact hr
   ·rw [if_neg e];exact h.sh.reg (.inl s)
  |inr i=>exact h.sh.reg (.inr i)
 ·cases k with
  |inl s'=>
   simp only [hold] at h1
   rw [hg] at h1
   by_cases e:t=s'
   ·rw [if_pos e] at h1;rw [hn _ h1] at h2;cases h2
   ·rw [if_neg e] at h1
    exact ⟨.inl s',by simp only;rw [if_neg e],h1,rfl⟩
  |inr i=>exact ⟨.inr i,rfl,h1,rfl⟩
 ·cases k with
  |inl s=>
   simp only at h1
   by_cases e:t=s
   ·rw [if_pos e] at h1;cases h1
   ·rw [if_neg e] at h1
    injection h1 with h1
    subst h1
    cases k' with
    |inl s'=>
     simp only at h2
     by_cases e:t=s'
     ·rw [if_pos e] at h2;cases h2
     ·rw [if_neg e] at h2;injection h2 with h2;exact h2.symm
    |inr i=>cases h2
  |inr i=>
   injection h1 with h1
   subst h1
   cases k' with
   |inl s'=>
    simp only at h2
    by_cases e:t=s'
    ·rw [if_pos e] at h2;cases h2
    ·rw [if_neg e] at h2;cases h2
   |inr i=>injection h2 with h2;exact h2.symm
theorem Am7(b:Nat):∀(l:List Nat) (d:Nat),d∈Ab9 b l↔d∈l∧d≠b
 | [],d=>by simp [Ab9]
 |x::r,d=>by
  have ih:=Am7 b r d
  unfold Ab9
  cases hb:Nat.beq x b with
  |true=>
   have e:=Ck hb
   subst e
   simp only [ih,List.mem_cons]
   exact ⟨fun h=>⟨.inr h.1,h.2⟩,fun h=>⟨h.1.resolve_left h.2,h.2⟩⟩
  |false=>
   have e:x≠b:=fun e=>by subst e;simp at hb
   simp only [List.mem_cons,ih]
   exact ⟨fun h=>h.elim (fun h=>⟨.inl h,fun e'=>e (by rw [←h,e'])⟩) (fun h=>⟨.inr h.1,h.2⟩),fun h=>h.1.elim .inl (fun h'=> .inr ⟨h',h.2⟩)⟩
theorem SR.frz1{S:Nat→Prop}(hcx:∀i,E8 S (cx i).1)(h:SR cx w0 N nt st a w M β)(hs:x9 S st)(t:Nat):∃M' β',SR cx w0 N nt (st.frz1 t) a w M' β'∧x9 S (st.frz1 t):=by
 unfold St.frz1
 split
 ·rename_i b e sz n hg
  split
  ·rename_i y ho hb
   have hb:=Nat.le_of_ble_eq_true hb
   have hreg:=h.reg t
   rw [hg] at hreg
   obtain ⟨bb,c,hβ,hc,hv⟩:=A2e hreg
   obtain ⟨hb1,hb2,hb3⟩:=h.sh.box b bb n hβ
   obtain ⟨cs,ty,q1,q2,q3,q4⟩:=Aqm hb3 ho
   have hlive:∀d,S d→A9 d (Ab9 b (Cj st))=false:=fun d hd=>by
    obtain ⟨k1,k2⟩:=hs d hd
    cases hn:A9 d (Ab9 b (Cj st)) with
    |false=>rfl
    |true=>
     have h1:=(Bq _ _).1 hn
     have h2:A9 d (st.ob.map Prod.fst)=true:=(Bq _ _).2 (fun hm=>h1 ((Am7 _ _ _).2 ⟨(Ri _ _).2 hm,fun e=>by omega⟩))
     rw [h2] at k1;cases k1
   have hk:=h.keep hcx (st.fr.map Prod.fst) (Ab9 b (Cj st)) hlive
   have hbx:∀x m,(β.cut fun d=>A9 d (Ab9 b (Cj st))) x≠some (bb,m):=fun x m hx=>by
    obtain ⟨h1,h2⟩:=N0.cut_some hx
    have:=h.sh.inj x b bb m n h1 hβ
    subst this
    have:A9 x (Ab9 x (Cj st))=true:=(Bq _ _).2 (fun hm=>((Am7 _ _ _).1 hm).2 rfl)
    rw [this] at h2;cases h2
   obtain ⟨hS,hE⟩:=hk.sh.fixed bb (n*y.sz) hb2 hbx (fun key s v ho' hg'=>h.sh.tokbox key s v bb b n (Aua _ _ key s v ho') hg' hβ) hb1
   have hk2:SR cx w0 N nt (Ev.keep (st.fr.map Prod.fst) (Ab9 b (Cj st)) st) a w _ _:=⟨hk.defs,hk.nt,hS⟩
   refine ⟨_,_,(hk2.equiv (Xq _ _ _).symm).refine t (.lst false y) ?_ (fun s hs=>by injection hs with hs;subst hs;rfl),?_⟩
   ·rw [hv]
    refine Y5 (s:=⟨false,y.e,y.sz,y.len,y.row⟩) rfl q2.symm q1 hc (fun i _=>LX.row_len _ _) (fun j hj m hm=> ?_) (fun i j q hi hq=> ?_)
    ·simp only [if_true] at hm
     injection hm with hm
     have:j < n*y.sz:=hj
     show j < m
     omega
    ·have hj:j < y.sz:=by have:=(List.getElem?_eq_some_iff.1 hq).1;rw [LX.row_len] at this;exact this
     have hi':i < n:=hi
     have hm:(i+1)*y.sz≤n*y.sz:=Nat.mul_le_mul_right _ hi'
     rw [Nat.add_mul,Nat.one_mul] at hm
     have hv':cs[i*y.sz+j]? =some (cs[i*y.sz+j]'(by omega)):=Array.getElem?_eq_getElem (by omega)
     obtain ⟨r1,r2⟩:=q4 i j q _ hi hq hv'
     have hfl:q.flat=true:=LX.row_flat _ _ _ (List.mem_of_getElem? hq)
     exact ⟨_,hv',hE _ _ (r1.flat hfl),r2⟩
   ·have hk3:x9 S (Ev.keep (st.fr.map Prod.fst) (Ab9 b (Cj st)) st):=by
     intro d hd
     refine ⟨?_,(hs d hd).2⟩
     have e:(Ev.keep (st.fr.map Prod.fst) (Ab9 b (Cj st)) st).ob.map Prod.fst=Ab9 b (Cj st):=by
      show ((Ab9 b (Cj st)).map fun d=>(d,_)).map Prod.fst=Ab9 b (Cj st)
      rw [List.map_map]
      exact List.map_id' _
     rw [e];exact hlive d hd
    exact Ag4 (Adl hk3 (Xq _ _ _).symm) _
  ·exact ⟨M,β,h,hs⟩
 ·exact ⟨M,β,h,hs⟩
theorem SR.frzL{S:Nat→Prop}(hcx:∀i,E8 S (cx i).1):∀(ts:List Nat) {st:St} {M:Px} {β :N0},SR cx w0 N nt st a w M β→x9 S st→∃M' β',SR cx w0 N nt (st.frzL ts) a w M' β'∧x9 S (st.frzL ts)
 | [],st,M,β,h,hs=>⟨M,β,h,hs⟩
 |t::r,st,M,β,h,hs=>by
  obtain ⟨M',β',h',hs'⟩:=h.frz1 hcx hs t
  exact SR.frzL hcx r h' hs'
theorem Auh:∀ {ob:List (Nat×List PV)} {d:Nat},A9 d (ob.map Prod.fst)=false→d < Ake ob
 | [],d,h=>by cases h
 |(x,l)::r,d,h=>by
  simp only [List.map_cons,A9] at h
  unfold Ake
  cases hb:Nat.beq x d with
  |true=>
   have e:=Ck hb
   subst e
   cases hl:Nat.ble (Ake r) x with
   |true=>simp
   |false=>
    simp only
    rcases Nat.lt_or_ge x (Ake r) with h1|h1
    ·exact h1
    ·rw [Nat.ble_eq_true_of_le h1] at hl;cases hl
  |false=>
   rw [hb] at h
   have ih:=Auh (ob:=r) h
   cases hl:Nat.ble (Ake r) x with
   |true=>have:=Nat.le_of_ble_eq_true hl;simp only;omega
   |false=>exact ih
theorem Ao7{ob:List (Nat×List PV)}{d:Nat}(h:A9 d (ob.map Prod.fst)=false):d < Adq ob:=by have:=Auh h;unfold Adq;omega
end
end Go.Proofs.YthjhkpgonleelaaGreatDoor.Ev
