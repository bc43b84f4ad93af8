/-  Regions in any order; code; functions. -/
import Derived.Test.YtgacplpjamkieaaGreatHFJ
set_option linter.unusedVariables false
set_option linter.unusedSimpArgs false
set_option linter.unnecessarySimpa false
namespace Go.Proofs.YtgacplpjamkieaaGreat.Ev
open Go Go.RowKit
section
variable {ι :Type} {cx: ι->PV×Value} {P:Program} {C:Ba} {X:Inl} {inl:Nat->Bool} {once:Nat} {ban:List Nat} {w0:D7} {w:World} {N M:Jw} {β :Kh} {nt:Nat} {st:St} {a:Act}
def Kg(listed:Array Bool):Nat->Bool:=λi=>listed.getD i false
theorem SR.weak{st':St}(h:SR cx w0 N nt st a w M β)(hg:∀x,st'.get x=st.get x\/st'.get x=.any)(ho:∀d,st'.obj d=st.obj d)(hk:∀d,Ar d (st'.ob.map Prod.fst)=Ar d (st.ob.map Prod.fst)):SR cx w0 N nt st' a w M β :=by
 refine⟨h.defs,h.nt,h.sh.perm (λk=>?_) (λd b n hd=>by rw[ho];exact(h.sh.box d b n hd).2.2) (λd hd=>h.sh.dom d (by rw[<-hk];exact hd)) some (λkey s v hw=>⟨key,rfl,?_⟩) (λk k' j h1 h2=>by injection h1 with h1;injection h2 with h2;rw[h1,h2]) (λd _ _ _ e=>by rw[ho];exact e)⟩
 ·cases k with
  |inl s=>
   rcases hg s with e|e
   ·show Bk _ _ _ _ (st'.get s) _
    rw[e];exact h.sh.reg (.inl s)
   ·show Bk _ _ _ _ (st'.get s) _
    rw[e];exact .any _
  |inr i=>exact h.sh.reg (.inr i)
 ·cases key with
  |slot k=>
   cases k with
   |inl t=>
    obtain⟨h1,h2,h3⟩:=hw;simp only[hold]at h1 h3;rcases hg t with e|e
    ·rw[e]at h1 h3;exact⟨h1,h2,h3⟩
    ·rw[e]at h1;cases h1
   |inr i=>exact hw
  |cell d i=>
   obtain⟨b,n,p,h1,h2,h3⟩:=hw;rw[ho]at h2;exact⟨b,n,p,h1,h2,h3⟩
def Bfn(P:Program)(inl:Nat->Bool)(once nt:Nat)(os:Array Oper)(i:Nat)(eo:Ek):Prop:=
 ∃o,os[i]? =some o/\cOp P inl once o=eo.k/\eo.dst=o.dst/\Ail os o.guard=some eo.g/\∀x,o.dst=some x->x<nt
theorem Aun{os:Array Oper}{l:List Ek}{δs:List B2}{st':St}(hr:Run P ban l st δs st'){Q:Exit->Act->World->Prop} :∀(i k:Nat),i+k=os.size->l.length<=k->
  (∀j eo,l[j]? =some eo->Bfn P inl once nt os (i+j) eo)->∀(a:Act) (w:World) (M:Jw) (β :Kh),SR cx w0 N nt st a w M β->
  (∀a' w' M' β',SR cx w0 N nt st' a' w' M' β'->wpOps P os Q (List.range' (i+l.length) (k-l.length)) a' w')->wpOps P os Q (List.range' i k) a w:=by
 induction hr with
 |nil st=>intro i k _ _ _ a w M β h hQ;exact hQ _ _ _ _ h
 |cons eo l st st' δ δs h1 _ ih=>
  intro i k hi hk hh a w M β h hQ;cases k with
  |zero=>simp at hk
  |succ k=>
   obtain⟨o,ho,g2,g3,g4,hdst⟩:=hh 0 eo rfl;rw[Nat.add_zero]at ho;have key:=Aoc (os:=os) (K:=wpOps P os Q (List.range' (i+1) k)) (Q:=Q) h h1 g2 g3 g4 hdst (λa' w' M' β' h'=>
    ih (i+1) k (by omega) (by simp at hk;omega) (λj e hj=>by have:=hh (j+1) e (by simpa using hj);rwa[show i+(j+1)=i+1+j by omega]at this) a' w' M' β' h' (λa' w' M' β' h'=>by
     have:=hQ a' w' M' β' h';simp only[List.length_cons]at this;rwa[show i+(l.length+1)=i+1+l.length by omega,show k+1-(l.length+1)=k-l.length by omega]at this))
   rw[List.range'_succ];simp only[wpOps,ho];by_cases hw:Region.wanted o (yielded os a.tmps)=true
   ·rw[if_pos hw]at key ⊢;exact .inl key
   ·rw[if_neg hw]at key ⊢;exact key
theorem A1g{k:K}(h:k.quiet=true):k.bD=false/\k.makes=false:=by cases k<;>first|exact⟨rfl,rfl⟩|cases h
theorem Aws{eo:Ek}(h:eo.k.quiet=true):∀s∈eo.writes,eo.dst=some s:=by
 intro s hs;obtain⟨d,g,k⟩:=eo;cases k<;>first|cases h|skip
 all_goals (cases d with
  |none=>simp[Ek.writes]at hs
  |some d=>simp[Ek.writes]at hs;subst hs;rfl)
theorem A4z{l:List Ek}{δs:List B2}{st':St}(hr:Run P ban l st δs st'):(∀eo∈l,eo.k.quiet=true)->st'.ob=st.ob/\st'.base=st.base/\∀x,x∉(As3 l).map Prod.fst->st'.get x=st.get x:=by
 induction hr with
 |nil st=>intro _;exact⟨rfl,rfl,λ_ _=>rfl⟩
 |cons eo l st st' δ δs h1 _ ih=>
  intro hq;obtain⟨i1,i2,i3⟩:=ih (λe he=>hq e (List.mem_cons_of_mem _ he));have hqe:=hq eo (by simp);obtain⟨f1,f2⟩:=Asb h1;obtain⟨q1,q2⟩:=A1g hqe;have ho: δ.o= []:=by
   cases hd: δ.o with
   |nil=>rfl
   |cons x r=>
    rcases f2 x.1 (by rw[hd];simp)with f|f
    ·rw[q1]at f;cases f.1
    ·rw[q2]at f;cases f.1
  have hob:(st.app δ).ob=st.ob:=by simp[St.app,ho,Awc]
  refine⟨i1.trans hob,i2,λx hx=>?_⟩;have hx2:x∉(As3 l).map Prod.fst:=λh=>hx (by unfold As3;cases eo.dst<;>simp_all);rw[i3 x hx2,Pr,if_neg];intro hm;have:=Aws hqe x (f1 x hm);apply hx;unfold As3;rw[this];simp
theorem A3x(l:List Ek)(x:Nat):B4 .any (As3 l) x=.any:=by
 induction l with
 |nil=>rfl
 |cons eo l ih=>
  unfold As3;cases eo.dst with
  |none=>exact ih
  |some d=>simp only;rw[B3,ih];split<;>rfl
theorem A75{l:List Ek}{δs:List B2}{st':St}(hr:Run P ban l st δs st')(hq:∀eo∈l,eo.k.quiet=true){pd:Nat}{v:Bool}(hv:st'.get pd=.val (.bool v))(h:SR cx w0 N nt st' a w M β):SR cx w0 N nt (stJ st l pd v) a w M β :=by
 obtain⟨i1,i2,i3⟩:=A4z hr hq;refine h.weak (λx=>?_) (λd=>?_) (λd=>?_)
 ·unfold stJ;rw[Pr];simp only[List.map_cons,List.mem_cons];by_cases e:x=pd
  ·subst e;rw[if_pos (.inl rfl),B3,if_pos rfl,hv];exact .inl rfl
  ·by_cases e2:x∈(As3 l).map Prod.fst
   ·rw[if_pos (.inr e2),B3,if_neg (λh=>e h.symm),A3x];exact .inr rfl
   ·rw[if_neg (λh=>h.elim e e2)];exact .inl (i3 x e2).symm
 ·show B4 [] (([]:List (Nat×List PV))++st.ob) d=B4 [] st'.ob d
  rw[i1];rfl
 ·show Ar d ((([]:List (Nat×List PV))++st.ob).map Prod.fst)=_
  rw[i1];rfl
inductive Aok (P:Program):List Ek->St->St->Prop
 |nil (st:St):Aok P [] st st
 |cons (eo:Ek) (l:List Ek) (st st':St) (δ :B2) (h:Og P [] eo st δ) (hr:Aok P l (st.app δ) st'):Aok P (eo::l) st st'
 |join (B r:List Ek) (st:St) (δs:List B2) (st1 st':St) (pd:Nat) (v:Bool) (hB:Run P [] B st δs st1) (hq:∀eo∈B,eo.k.quiet=true) (hv:st1.get pd=.val (.bool v)) (hr:Aok P r (stJ st B pd v) st'):Aok P (B++r) st st'
theorem Azt{s:Nat} :∀ {l B r:List Ek} {pd:Nat},Ai4 s l=some (B,pd,r)->l=B++r/\∀eo∈B,eo.k.quiet=true:=by
 intro l
 induction l with
 |nil=>intro B r pd h;cases h
 |cons eo l ih=>
  intro B r pd h;unfold Ai4 at h;cases hq:eo.k.quiet with
  |false=>rw[hq]at h;cases h
  |true=>
   rw[hq]at h;cases hg:eo.g with
   |some g=>
    rw[hg]at h;simp only at h;cases hs:Ai4 s l with
    |none=>rw[hs]at h;cases h
    |some x=>
     obtain⟨B',pd',r'⟩:=x;rw[hs]at h;simp only[Option.some.injEq,Prod.mk.injEq]at h;obtain⟨rfl,rfl,rfl⟩:=h;obtain⟨e1,e2⟩:=ih hs;exact⟨by rw[e1];rfl,λe he=>by
      rcases List.mem_cons.1 he with rfl|h
      ·exact hq
      ·exact e2 e h⟩
   |none=>
    rw[hg]at h;simp only at h;split at h
    ·split at h
     ·simp only[Option.some.injEq,Prod.mk.injEq]at h;obtain⟨rfl,rfl,rfl⟩:=h;exact⟨rfl,λe he=>by simp at he;subst he;exact hq⟩
     ·cases h
    ·cases h
theorem Alo(hC:B8 P C)(hX:Jb P X):∀(n:Nat) (l:List Ek) (st st0:St) (k:St->Prop),(∀eo∈l,∀o',eo.k=.dB o'->∀cs b,o'.op≠ .select cs b)->Km st st0->I2 P C X n l st k->
  ∃st1 st',Aok P l st0 st1/\Km st' st1/\k st':=by
 intro n
 induction n with
 |zero=>
  intro l st st0 k hsel he h;cases l with
  |nil=>exact⟨st0,st,.nil _,he,h⟩
  |cons _ _=>exact h.elim
 |succ n ih=>
  intro l st st0 k hsel he h;cases l with
  |nil=>exact⟨st0,st,.nil _,he,h⟩
  |cons eo l=>
   have hsel1:=hsel eo (by simp);have hsel2:∀eo∈l,∀o',eo.k=.dB o'->∀cs b,o'.op≠ .select cs b:=λe hm=>hsel e (List.mem_cons_of_mem _ hm);have run1:∀(su:St),Km su st0->Ax P C X [] eo.k eo.dst su (λδ =>I2 P C X n l (su.app δ) k)->
     ∃δ,Ax P (Ej P) (Eg P) [] eo.k eo.dst st0 (λδ'=> δ'= δ)/\∃st1 st',Aok P l (st0.app δ) st1/\Km st' st1/\k st':=by
    intro su hu hs;obtain⟨δ,h1,h2⟩:=Ahb hC hX _ _ _ _ hs;exact⟨δ,Ado (hu.agree _ _ hsel1) (h2 (λδ'=> δ'= δ) rfl),ih _ _ _ _ hsel2 (hu.app δ) h1⟩
   simp only[I2]at h;cases hg:eo.g with
   |none=>
    rw[hg]at h;obtain⟨δ,h1,st1,st',h2,h3,h4⟩:=run1 st he h;exact⟨st1,st',.cons eo l st0 st1 δ (by unfold Og;rw[hg];exact h1) h2,h3,h4⟩
   |some sw=>
    obtain⟨s,want⟩:=sw;rw[hg]at h;simp only at h;cases hq:st.get s with
    |val v=>
     rw[hq]at h;cases v with
     |bool t=>
      simp only at h;have hq0:st0.get s=.val (.bool t):=by rw[<-he.get,hq]
      have hu:Km (st.put s (.val (.bool t))) st0:=(A7n hq).trans he;cases hsp:Ai4 s (eo::l) with
      |some x=>
       obtain⟨B,pd,r'⟩:=x;rw[hsp]at h;obtain⟨e1,e2⟩:=Azt hsp;simp only[jn]at h;have go:∀su,Km su st0->M4 P C X [] B su (An7 pd (λb=>I2 P C X n r' (stJ st B pd b) k))->∃st1 st',Aok P (eo::l) st0 st1/\Km st' st1/\k st':=by
        intro su hsu hs;have hselB:∀eo∈B,∀o',eo.k=.dB o'->∀cs b,o'.op≠ .select cs b:=λe hm=>hsel e (by rw[e1];exact List.mem_append_left _ hm);have hselr:∀eo∈r',∀o',eo.k=.dB o'->∀cs b,o'.op≠ .select cs b:=λe hm=>hsel e (by rw[e1];exact List.mem_append_right _ hm);obtain⟨δs,s1,s',h1,h2,h3⟩:=At1 hC hX B su st0 _ hselB hsu hs;unfold An7 at h3;split at h3
        ·rename_i b hb;obtain⟨st1,st',h4,h5,h6⟩:=ih r' (stJ st B pd b) (stJ st0 B pd b) k hselr (he.app _) h3;refine⟨st1,st',?_,h5,h6⟩;rw[e1];exact .join B r' st0 δs s1 st1 pd b h1 e2 (by rw[<-h2.get,hb]) h4
        ·exact h3.elim
       cases t<;>simp only[br]at h
       ·exact go _ hu h
       ·exact go _ hu h
      |none=>
       rw[hsp]at h;have skip:I2 P C X n l ((st.put s (.val (.bool t))).app (dput eo.dst (.aY []))) k->t≠want->
         ∃st1 st',Aok P (eo::l) st0 st1/\Km st' st1/\k st':=by
        intro hs hne;obtain⟨st1,st',h2,h3,h4⟩:=ih _ _ (st0.app (dput eo.dst (.aY []))) _ hsel2 (hu.app _) hs;exact⟨st1,st',.cons eo l st0 st1 _ (by unfold Og;rw[hg];exact .inl ⟨t,hq0,λe=>absurd e hne,λ_=>rfl⟩) h2,h3,h4⟩
       have take:Ax P C X [] eo.k eo.dst (st.put s (.val (.bool t))) (λδ =>I2 P C X n l ((st.put s (.val (.bool t))).app δ) k)->t=want->
         ∃st1 st',Aok P (eo::l) st0 st1/\Km st' st1/\k st':=by
        intro hs heq;obtain⟨δ,h1,st1,st',h2,h3,h4⟩:=run1 _ hu hs;exact⟨st1,st',.cons eo l st0 st1 δ (by unfold Og;rw[hg];exact .inl ⟨t,hq0,λ_=>h1,λe=>absurd heq e⟩) h2,h3,h4⟩
       cases t<;>cases want<;>simp only[br]at h<;>first|exact take h rfl|exact skip h (by decide)
     |_=>exact h.elim
    |aY l0=>
     rw[hq]at h;cases l0 with
     |nil=>
      have hq0:st0.get s=.aY []:=by rw[<-he.get,hq]
      obtain⟨st1,st',h2,h3,h4⟩:=ih _ _ (st0.app (dput eo.dst (.aY []))) _ hsel2 (he.app _) h;exact⟨st1,st',.cons eo l st0 st1 _ (by unfold Og;rw[hg];exact .inr ⟨hq0,rfl⟩) h2,h3,h4⟩
     |cons _ _=>exact h.elim
    |_=>rw[hq]at h;exact h.elim
theorem Ai1{os:Array Oper}{l:List Ek}{st':St}(hr:Aok P l st st'){Q:Exit->Act->World->Prop} :∀(i k:Nat),i+k=os.size->l.length<=k->
  (∀j eo,l[j]? =some eo->Bfn P inl once nt os (i+j) eo)->∀(a:Act) (w:World) (M:Jw) (β :Kh),SR cx w0 N nt st a w M β->
  (∀a' w' M' β',SR cx w0 N nt st' a' w' M' β'->wpOps P os Q (List.range' (i+l.length) (k-l.length)) a' w')->wpOps P os Q (List.range' i k) a w:=by
 induction hr with
 |nil st=>intro i k _ _ _ a w M β h hQ;exact hQ _ _ _ _ h
 |cons eo l st st' δ h1 _ ih=>
  intro i k hi hk hh a w M β h hQ;refine Aun (inl:=inl) (once:=once) (Run.cons eo [] st (st.app δ) δ [] h1 (.nil _)) i k hi (by simp at hk ⊢;omega) (λj e hj=>?_) a w M β h (λa' w' M' β' h'=>?_)
  ·cases j with
   |zero=>simp at hj;subst hj;exact hh 0 eo rfl
   |succ j=>simp at hj
  ·refine ih (i+1) (k-1) (by simp at hk;omega) (by simp at hk;omega) (λj e hj=>by have:=hh (j+1) e (by simpa using hj);rwa[show i+(j+1)=i+1+j by omega]at this) a' w' M' β' h' (λa' w' M' β' h'=>?_);have:=hQ a' w' M' β' h';simp only[List.length_cons]at this;rwa[show i+(l.length+1)=i+1+l.length by omega,show k-(l.length+1)=k-1-l.length by omega]at this
 |join B r st δs st1 st' pd v hB hq hv _ ih=>
  intro i k hi hk hh a w M β h hQ;simp only[List.length_append]at hk hQ;refine Aun (inl:=inl) (once:=once) hB i k hi (by omega) (λj e hj=>hh j e (by rw[List.getElem?_append_left (List.getElem?_eq_some_iff.1 hj).1];exact hj)) a w M β h (λa' w' M' β' h'=>?_);refine ih (i+B.length) (k-B.length) (by omega) (by omega) (λj e hj=>?_) a' w' M' β' (A75 hB hq hv h') (λa' w' M' β' h'=>?_)
  ·have:=hh (B.length+j) e (by rw[List.getElem?_append_right (by omega)];simpa using hj);rwa[show i+(B.length+j)=i+B.length+j by omega]at this
  ·have:=hQ a' w' M' β' h';rwa[show i+(B.length+r.length)=i+B.length+r.length by omega,show k-(B.length+r.length)=k-B.length-r.length by omega]at this
theorem Agf:∀(l:List Ek) (eo:Ek) (d:Nat),eo∈l->eo.k.makes=true->eo.dst=some d->d∈Tq l:=by
 intro l
 induction l with
 |nil=>intro eo d h;cases h
 |cons e l ih=>
  intro eo d hm hk hd;simp only[Tq];rcases List.mem_cons.1 hm with e1|e1
  ·subst e1;rw[hk,hd];simp
  ·have:=ih eo d e1 hk hd;cases h1:e.k.makes<;>cases h2:e.dst<;>simp only[h1,h2]<;>first|exact this|exact List.mem_cons_of_mem _ this
theorem Aka{a b:Nat} :∀ {ap:List (Nat×Nat)},Zf a b ap=true->∃c d,(c,d)∈ap/\((a=c/\b=d)\/(a=d/\b=c))
 | [],h=>by simp[Zf]at h
 |(c,d)::r,h=>by
  simp only[Zf,Bool.or_eq_true,Bool.and_eq_true]at h;rcases h with(h|h)|h
  ·exact⟨c,d,by simp,.inl ⟨B1 h.1,B1 h.2⟩⟩
  ·exact⟨c,d,by simp,.inr ⟨B1 h.1,B1 h.2⟩⟩
  ·obtain⟨c',d',h1,h2⟩:=Aka h;exact⟨c',d',List.mem_cons_of_mem _ h1,h2⟩
theorem Akb(a b:Nat):∀(ap:List (Nat×Nat)),Zf a b ap=Zf b a ap
 | []=>rfl
 |(c,d)::r=>by
  simp only[Zf,Akb a b r];cases Nat.beq a c<;>cases Nat.beq b d<;>cases Nat.beq a d<;>cases Nat.beq b c<;>rfl
theorem Ark(ap:List (Nat×Nat))(x y:Ek):Rv ap x y=Rv ap y x:=by
 unfold Rv;cases x.k.addr<;>cases y.k.addr<;>simp[Akb]
theorem Aju:∀ {ap:List (Nat×Nat)},Ac2 st ap=true->∀a b,(a,b)∈ap->∃d o d' o',st.get a=.loc d o/\st.get b=.loc d' o'/\d≠d'
 | [],_,_,_,h=>by cases h
 |(c,e)::r,h,a,b,hm=>by
  simp only[Ac2]at h;split at h
  ·rename_i d o d' o' h1 h2;cases hb:Nat.beq d d' with
   |true=>rw[hb]at h;cases h
   |false=>
    rw[hb]at h;rcases List.mem_cons.1 hm with e'|e'
    ·injection e' with e1 e2
     subst e1;subst e2
     exact⟨d,o,d',o',h1,h2,λe=>by subst e;simp at hb⟩
    ·exact Aju h a b e'
  ·cases h
theorem Agw{a:Nat} :∀ {l:List Ek},L8 a l=true->∀e∈l,a∉e.writes
 | [],_,_,h=>by cases h
 |x::r,h,e,hm=>by
  simp only[L8]at h;cases hn:Ar a x.writes with
  |false=>rw[hn]at h;cases h
  |true=>
   rw[hn]at h;rcases List.mem_cons.1 hm with e'|e'
   ·subst e';exact(Be _ _).1 hn
   ·exact Agw h e e'
theorem m8{l:List Ek} :∀ {ap:List (Nat×Nat)},Y8 l ap=true->∀a b,(a,b)∈ap->L8 a l=true/\L8 b l=true
 | [],_,_,_,h=>by cases h
 |(c,e)::r,h,a,b,hm=>by
  simp only[Y8,Bool.and_eq_true]at h;rcases List.mem_cons.1 hm with e'|e'
  ·injection e' with e1 e2
   subst e1;subst e2
   exact h.1
  ·exact m8 h.2 a b e'
theorem J5:∀(δs:List B2) (m:Nat->Bool) (st:St),(Ki δs m st).base=st.base:=by
 intro δs
 induction δs with
 |nil=>intro m st;rfl
 |cons δ r ih=>
  intro m st;simp only[Ki];rw[ih];cases m 0<;>rfl
theorem Aql{d o b:Nat}(h:At (.loc d o) b):d=b:=by
 rcases h with⟨off,h⟩|⟨sz,i,off,h⟩
 ·injection h
 ·cases h
theorem A0i{ap:List (Nat×Nat)}(hap:Ac2 st ap=true){os:Array Oper}{l:List Ek}{δs:List B2}{st':St}(hr:Run P ((Tq l).map (st.base+ ·)) l st δs st')(hco:Ajy P inl once os os.toList=some l)(hds:Ti nt l=true)
  (hok0:Aim ap os.toList l=true){Q:Exit->Act->World->Prop}(hQ:∀a' w' M' β',SR cx w0 N nt st' a' w' M' β'->Q .normal a' w'):
  ∀(fuel:Nat) (listed:Array Bool),listed.size=os.size->((List.range os.size).filter λi=> !listed.getD i false).length=fuel->
   (∀(j:Nat) (o:Oper),os[j]? =some o->listed.getD j false=true->∀e∈Wr o,listed.getD e false=true)->
   ∀(a:Act) (w:World) (M:Jw) (β :Kh),SR cx w0 N nt (Ki δs (Kg listed) st) a w M β->wpAny P .any os Q fuel listed a w:=by
 simp only[Aim,Bool.and_eq_true]at hok0;obtain⟨hau,hok⟩:=hok0;obtain⟨hlen,hsp⟩:=Tf _ _ hco;have hlen': δs.length=os.size:=by rw[hr.length,hlen];simp
 have hll:l.length=os.size:=by rw[hlen];simp
 have hpair:∀i j,i<j->j<os.size->∀x y,l[i]? =some x->l[j]? =some y->O4 ap (Ce l i) x (Ce l j) y=true->Reach os.toList j i:=by
  intro i j hij hj x y hx hy hc;have h1:=Ac3 hok j (by simpa using hj);simp only[Bool.and_eq_true]at h1;have h2:=Ac3 h1.1 i hij;simp only[A7l,hx,hy,hc]at h2;exact A3w os.toList os.toList [] (λk o hk=>by simpa using hk) (λj i hb=>by simp at hb) j i h2
 have hedge:∀j (o:Oper),os[j]? =some o->∀e∈Wr o,e<j:=by
  intro j o ho e he;have hj:j<os.size:=(Array.getElem?_eq_some_iff.1 ho).1;have h1:=Ac3 hok j (by simpa using hj);simp only[Bool.and_eq_true]at h1;have h2:=h1.2;rw[show os.toList[j]? =some o by simpa using ho]at h2;exact Aos j _ h2 e he
 intro fuel
 induction fuel with
 |zero=>
  intro listed hs hc hcl a w M β h;have hall:∀i,i<os.size->listed.getD i false=true:=by
   intro i hi;have h0:=List.eq_nil_of_length_eq_zero hc;cases hb:listed.getD i false with
   |true=>rfl
   |false=>
    have:i∈(List.range os.size).filter λi=> !listed.getD i false:=List.mem_filter.2 ⟨by simpa using hi,by simp[hb]⟩;rw[h0]at this;cases this
  have e:Ki δs (Kg listed) st=st':=by
   rw[hr.last];exact A47 _ _ _ _ (λj hj=>hall j (by omega))
  rw[e]at h;refine⟨?_,hQ _ _ _ _ h⟩;apply List.eq_nil_iff_forall_not_mem.2;intro i hi;obtain⟨h1,o,ho,_⟩:=mem_ready.1 hi;have hio:i<os.size:=(Array.getElem?_eq_some_iff.1 ho).1;have:=hall i hio;rw[Array.getD_eq_getD_getElem?]at this h1;rw[Array.getElem?_eq_getElem (by omega)]at this h1;simp at this h1;rw[this]at h1;cases h1
 |succ fuel ih=>
  intro listed hs hc hcl a w M β h;refine⟨λhn=>?_,λi hi=>?_⟩
  ·
   exfalso;have hex:∃i,i<os.size/\listed.getD i false=false:=by
    have hne:((List.range os.size).filter λi=> !listed.getD i false)≠ []:=by intro e;rw[e]at hc;simp at hc
    obtain⟨i,hi⟩:=List.exists_mem_of_ne_nil _ hne;obtain⟨h1,h2⟩:=List.mem_filter.1 hi;exact⟨i,by simpa using h1,by simpa using h2⟩
   have least:∀n,(∃i,i<n/\i<os.size/\listed.getD i false=false)->∃i,i<os.size/\listed.getD i false=false/\∀j,j<i->listed.getD j false=true:=by
    intro n
    induction n with
    |zero=>rintro ⟨i,h1,_⟩;omega
    |succ n ihn=>
     rintro ⟨i,h1,h2,h3⟩
     by_cases hl:∃j,j<n/\j<os.size/\listed.getD j false=false
     ·exact ihn hl
     ·refine⟨i,h2,h3,λj hj=>?_⟩;cases hb:listed.getD j false with
      |true=>rfl
      |false=>exact absurd ⟨j,by omega,by omega,hb⟩ hl
   obtain⟨i0,hi0,hi0'⟩:=hex;obtain⟨i,h1,h2,h3⟩:=least os.size ⟨i0,hi0,hi0,hi0'⟩;have ho:os[i]? =some os[i]:=Array.getElem?_eq_getElem h1;have:i∈Region.ready .any os listed:=mem_ready.2 ⟨by
    rw[Array.getD_eq_getD_getElem?]at h2 ⊢;rw[Array.getElem?_eq_getElem (by omega)]at h2 ⊢;simpa using h2,_,ho,λe he hb=>h3 _ (hedge i _ ho _ (Ay1 he hb))⟩
   rw[hn]at this;cases this
  ·obtain⟨h1,o,ho,hall⟩:=mem_ready.1 hi;have hio:i<os.size:=(Array.getElem?_eq_some_iff.1 ho).1;have hun:listed.getD i false=false:=by
    rw[Array.getD_eq_getD_getElem?]at h1 ⊢;rw[Array.getElem?_eq_getElem (by omega)]at h1 ⊢;simpa using h1
   have hdep:∀e∈Wr o,listed.getD e false=true:=λe he=>by
    obtain⟨ed,q1,q2,rfl⟩:=Ax1 he;exact hall ed q1 q2
   have reach:∀j k,Reach os.toList j k->listed.getD j false=true->listed.getD k false=true:=by
    intro j k hrk
    induction hrk with
    |one j o i ho hi=>intro hj;exact hcl j o (by simpa using ho) hj i hi
    |more j o e i ho he _ ih2=>intro hj;exact ih2 (hcl j o (by simpa using ho) hj e he)
   have reachI:∀k,Reach os.toList i k->listed.getD k false=true:=by
    intro k hrk;cases hrk with
    |one _ o' _ ho' hi'=>
     have:o'=o:=by rw[show os.toList[i]? =some o by simpa using ho]at ho';injection ho' with ho';exact ho'.symm
     subst this;exact hdep k hi'
    |more _ o' e _ ho' he' hr'=>
     have:o'=o:=by rw[show os.toList[i]? =some o by simpa using ho]at ho';injection ho' with ho';exact ho'.symm
     subst this;exact reach e k hr' (hdep e he')
   obtain⟨eo,g1,g2,g3,g4⟩:=hsp i o (by simpa using ho);have hd: δs[i]? =some (δs[i]'(by omega)):=List.getElem?_eq_getElem (by omega);have hos:=hr.at i eo _ g1 hd;have foot:∀(j:Nat) (δ :B2),δs[j]? =some δ->∃ej:Ek,l[j]? =some ej/\(∀s∈δ.s.map Prod.fst,s∈ej.writes)/\(∀b∈δ.o.map Prod.fst,A3o ((Tq l).map (st.base+ ·)) ej.k ej.dst (Ki δs (λi=>decide (i<j)) st) b):=by
    intro j δ hj;have hjl:j<l.length:=by have:=(List.getElem?_eq_some_iff.1 hj).1;omega
    have hej:l[j]? =some (l[j]):=List.getElem?_eq_getElem hjl;exact⟨_,hej,Asb (hr.at j _ δ hej hj)⟩
   have same:∀(j:Nat) (ej:Ek),l[j]? =some ej->(O4 ap (Ce l j) ej (Ce l i) eo=true\/O4 ap (Ce l i) eo (Ce l j) ej=true)->(j=i->False)->(decide (j<i))=Kg listed j:=by
    intro j ej hej hcl' hne;have hj:j<os.size:=by have:=(List.getElem?_eq_some_iff.1 hej).1;omega
    have hsym:O4 ap (Ce l j) ej (Ce l i) eo=true/\O4 ap (Ce l i) eo (Ce l j) ej=true:=by
     have e:O4 ap (Ce l j) ej (Ce l i) eo=O4 ap (Ce l i) eo (Ce l j) ej:=by
      have m:∀a b,Agg a b=Agg b a:=λa b=>by
       rw[Bool.eq_iff_iff,Amj,Amj];exact⟨λ⟨s,x,y⟩=>⟨s,y,x⟩,λ⟨s,x,y⟩=>⟨s,y,x⟩⟩
      simp only[O4];rw[m ej.writes eo.reads,m ej.writes eo.writes,m ej.reads eo.writes,Ark ap ej eo,A36 (Ce l j) (Ce l i),A7w ej.k eo.k];cases scm eo.k ej.k<;>cases Aq3 (Ce l i) eo.k (Ce l j) ej.k<;>cases Agg eo.reads ej.writes<;>cases Agg eo.writes ej.writes<;>cases Agg eo.writes ej.reads<;>cases ej.k.bD<;>cases eo.k.dX<;>cases ej.k.dX<;>cases eo.k.bD<;>cases Rv ap eo ej<;>rfl
     rcases hcl' with h|h
     ·exact⟨h,by rw[<-e];exact h⟩
     ·exact⟨by rw[e];exact h,h⟩
    by_cases hlt:j<i
    ·have:=reachI j (hpair j i hlt hio _ _ hej g1 hsym.1);simp only[hlt,decide_true,Kg];exact this.symm
    ·have hne':j≠i:=hne;have hlt':i<j:=by omega
     have hR:=hpair i j hlt' hj _ _ g1 hej hsym.2;have:Kg listed j=false:=by
      cases hb:Kg listed j with
      |false=>rfl
      |true=>have:=reach j i hR hb;rw[hun]at this;cases this
     simp only[hlt,decide_false];exact this.symm
   have atI:(decide (i<i))=Kg listed i:=by simp only[Nat.lt_irrefl,decide_false,Kg];exact hun.symm
   have clashW:∀(j:Nat) (ej:Ek) (s:Nat),s∈ej.writes->s∈eo.reads->O4 ap (Ce l j) ej (Ce l i) eo=true:=λj ej s h1 h2=>by
    cases hc':O4 ap (Ce l j) ej (Ce l i) eo with
    |true=>rfl
    |false=>exact absurd h2 ((K5 hc').1 s h1)
   have hget:∀s,s∈eo.reads->(Ki δs (Kg listed) st).get s=(Ki δs (λj=>decide (j<i)) st).get s:=by
    intro s hs;refine Aw7 _ _ _ _ _ s rfl (λj δ hj hsj=>?_);obtain⟨ej,hej,f1,_⟩:=foot j δ hj;by_cases e:j=i
    ·subst e;exact atI.symm
    ·exact(same j ej hej (.inl (clashW j ej s (f1 s hsj) hs)) e).symm
   have hopd:∀x∈eo.k.bC,(Ki δs (Kg listed) st).aM x=(Ki δs (λj=>decide (j<i)) st).aM x:=by
    intro x hx;cases x with
    |tmp t=>exact hget t (A4s hx rfl)
    |_=>rfl
   have noFreed2:∀(i:Nat) (eo:Ek) (j:Nat) (ej:Ek) (b:Nat),l[i]? =some eo->l[j]? =some ej->Rv ap ej eo=true->(∀a,ej.k.addr=some a->At ((Ki δs (λi=>decide (i<j)) st).get a) b)->
     (∀a,eo.k.addr=some a->At ((Ki δs (λj=>decide (j<i)) st).get a) b)->False:=by
    intro i eo j ej b _ hej hf h1 h2;unfold Rv at hf;cases ha1:ej.k.addr with
    |none=>rw[ha1]at hf;cases hf
    |some a1=>
     cases ha2:eo.k.addr with
     |none=>rw[ha1,ha2]at hf;cases hf
     |some a2=>
      rw[ha1,ha2]at hf;obtain⟨c,d,hm,hcd⟩:=Aka hf;obtain⟨d1,o1,d2,o2,e1,e2,hne⟩:=Aju hap c d hm;obtain⟨u1,u2⟩:=m8 hau c d hm;have keepS:∀(m:Nat->Bool) (s:Nat),L8 s l=true->(Ki δs m st).get s=st.get s:=by
       intro m s hu;have:(Ki δs m st).get s=(Ki δs (λ_=>false) st).get s:=Aw7 _ _ _ _ _ s rfl (λk δ hk hs=>by
        obtain⟨ek,hek,f1,_⟩:=foot k δ hk;exact absurd (f1 s hs) (Agw hu ek (List.mem_of_getElem? hek)))
       rw[this,Agr _ _ _ (λ_ _=>rfl)]
      have q1:=h1 a1 ha1;have q2:=h2 a2 ha2;rcases hcd with⟨rfl,rfl⟩|⟨rfl,rfl⟩
      ·rw[keepS _ _ u1,e1]at q1;rw[keepS _ _ u2,e2]at q2;exact hne ((Aql q1).trans (Aql q2).symm)
      ·rw[keepS _ _ u2,e2]at q1;rw[keepS _ _ u1,e1]at q2;exact hne ((Aql q2).trans (Aql q1).symm)
   have noFreed:∀(j:Nat) (ej:Ek) (b:Nat),l[j]? =some ej->Rv ap ej eo=true->(∀a,ej.k.addr=some a->At ((Ki δs (λi=>decide (i<j)) st).get a) b)->
     (∀a,eo.k.addr=some a->At ((Ki δs (λj=>decide (j<i)) st).get a) b)->False:=λj ej b=>noFreed2 i eo j ej b g1
   have hvob:eo.k.isLoad=true->∀b,Ar b ((Tq l).map (st.base+ ·))=true->(eo.k.near=true->(Ki δs (λj=>decide (j<i)) st).base<=b)->(∀a,eo.k.addr=some a->At ((Ki δs (λj=>decide (j<i)) st).get a) b)->(Ki δs (Kg listed) st).vobj b=(Ki δs (λj=>decide (j<i)) st).vobj b:=by
    intro hl b hb hnear hta;have touch:∀(j:Nat) (δ :B2),δs[j]? =some δ->b∈δ.o.map Prod.fst->∃ej,l[j]? =some ej/\ej.k.bD=true/\(∀a,ej.k.addr=some a->At ((Ki δs (λi=>decide (i<j)) st).get a) b)/\(ej.k.eG=true->b<(Ki δs (λi=>decide (i<j)) st).base):=by
     intro j δ hj hbj;obtain⟨ej,hej,_,f2⟩:=foot j δ hj;rcases f2 b hbj with f|⟨f,fs,fd,fb⟩
     ·exact⟨ej,hej,f.1,f.2.1,f.2.2⟩
     ·exfalso;rw[Be]at hb;rw[J5]at fb;exact hb (List.mem_map.2 ⟨fs,Agf l ej fs (List.mem_of_getElem? hej) f fd,fb.symm⟩)
    have nofresh:∀(j:Nat) (δ :B2),δs[j]? =some δ->b∈δ.o.map Prod.fst->Ce l j=false:=by
     intro j δ hj hbj;obtain⟨ej,hej,hst,hat,_⟩:=touch j δ hj hbj;cases hf:Ce l j with
     |false=>rfl
     |true=>
      exfalso;unfold Ce at hf;rw[hej]at hf;simp only[Bool.and_eq_true]at hf;obtain⟨_,hf⟩:=hf;cases ha:ej.k.addr with
      |none=>rw[ha]at hf;cases hf
      |some a=>
       rw[ha]at hf;simp only[Bool.not_eq_true']at hf;obtain⟨k,hk,hkk⟩:=Axw hf;simp only[Bool.not_eq_false']at hkk;have hkl:k<l.length:=by have:=(List.getElem?_eq_some_iff.1 hej).1;omega
       have hek:l[k]? =some l[k]:=List.getElem?_eq_getElem hkl;rw[hek]at hkk;simp only[Bool.and_eq_true]at hkk;obtain⟨m1,m2⟩:=hkk;have hdk: δs[k]? =some (δs[k]'(by omega)):=List.getElem?_eq_getElem (by omega);obtain⟨n1,n2⟩:=A7k (hr.at k _ _ hek hdk) m1;rw[J5]at n2;have hg:=A76 δs (λi=>decide (i<j)) st k _ a hdk (decide_eq_true hk) n1 (λj' δ' hne hδ' hin=>by
        obtain⟨e',he',f1,_⟩:=foot j' δ' hδ';have:=Ac3 m2 j' ((List.getElem?_eq_some_iff.1 he').1);rw[he']at this;simp only[Bool.or_eq_true]at this;rcases this with h1|h1
        ·exact hne (B1 h1)
        ·rw[Be]at h1;exact h1 (f1 a hin))
       have:=hat a ha;rw[hg,n2]at this;have hbb:=Aql this;rw[Be]at hb;refine hb (List.mem_map.2 ⟨a,Agf l l[k] a (List.getElem_mem hkl) ?_ ?_,hbb⟩)
       ·cases hq:l[k].k<;>simp only[Ek.mkAt,hq]at m1<;>first|rfl|cases m1
       ·unfold Ek.mkAt at m1;split at m1
        ·rename_i hd;rw[hd,B1 m1]
        ·rename_i hd;rw[hd,B1 m1]
        ·cases m1
    let T:Nat->Bool:=λj=>match l[j]? with|some e=>e.k.dR|none=>false
    have hT:∀(k:Nat) (δ :B2),T k=true->δs[k]? =some δ->b∈δ.o.map Prod.fst->(B4 [] δ.o b).map PV.view=(Ki δs (λj=>decide (j<k)) st).vobj b:=by
     intro k δ hk hδ hbk;obtain⟨ek,hek,_,_⟩:=foot k δ hδ;have hk':ek.k.dR=true:=by simp only[T,hek]at hk;exact hk
     exact A1c (hr.at k ek δ hek hδ) hk' b hbk
    have bound:∀(m:Nat->Bool) (k:Nat),m k=true->(δs[k]?).isSome=true->k<δs.length:=by
     intro m k _ h;cases hq: δs[k]? with
     |none=>rw[hq]at h;cases h
     |some _=>exact(List.getElem?_eq_some_iff.1 hq).1
    have c1:=Aus T hT δs.length (Kg listed) (bound _) (λk j δ δ' hTk hmk hδ hbk hTj hδ' hbj hjk=>by
     obtain⟨ek,hek,hsk,hak,_⟩:=touch k δ hδ hbk;obtain⟨ej,hej,hsj,haj,_⟩:=touch j δ' hδ' hbj;have hks:k<os.size:=by have:=(List.getElem?_eq_some_iff.1 hek).1;omega
     cases hc':O4 ap (Ce l j) ej (Ce l k) ek with
     |true=>exact reach k j (hpair j k hjk hks _ _ hej hek hc') hmk
     |false=>
      exfalso;obtain⟨_,_,_,q1,_⟩:=K5 hc';have hfr:=Rw (q1 hsj (Z2 hsk)) (Ana hsj hsk) (Es hsj) (Es hsk);exact noFreed2 k ek j ej b hek hej hfr haj hak)
    have c2:=Aus T hT δs.length (λj=>decide (j<i)) (bound _) (λk j δ δ' hTk hmk hδ hbk hTj hδ' hbj hjk=>by
     have:=of_decide_eq_true hmk;exact decide_eq_true (by omega))
    rw[c1,c2];unfold St.vobj;rw[Ak8 δs (λj=>Kg listed j && !T j) (λj=>decide (j<i) && !T j) st st b rfl (λj δ hj hbj=>?_)];cases hTj:T j with
    |true=>simp
    |false=>
     simp only[Bool.not_false,Bool.and_true];obtain⟨ej,hej,hsj,haj,hfar⟩:=touch j δ hj hbj;by_cases e:j=i
     ·subst e;exact atI.symm
     ·refine(same j ej hej ?_ e).symm;cases hc':O4 ap (Ce l j) ej (Ce l i) eo with
      |true=>exact .inl rfl
      |false=>
       exfalso;obtain⟨_,_,_,q1,_⟩:=K5 hc';have hh:eo.k.dX=true:=by cases hk:eo.k<;>rw[hk]at hl<;>first|rfl|cases hl
       rcases q1 hsj hh with(hq|hq)|hq
       rotate_left 2
       ·rcases Ai3 hq with⟨g1',g2⟩|⟨g2,_⟩
        ·have h1:=hfar g1';have h2:=hnear (A7d g2 hl);rw[J5]at h1 h2;omega
        ·rw[A4m hl]at g2;cases g2
       ·exact noFreed j ej b hej hq haj hta
       ·have hnf:=nofresh j δ hj hbj;have hnt:ej.k.dR=false:=by simp only[T,hej]at hTj;exact hTj
        have hnl:=Es hsj;rw[hnf]at hq;simp[Aq3,hnt,hnl]at hq
   have hobj:eo.k.dX=true->eo.k.isLoad=false->(eo.k.makes=false\/eo.k.bD=true)->∀b,((eo.k.bD=true/\(eo.k.eG=true->b<(Ki δs (λj=>decide (j<i)) st).base))\/Ar b ((Tq l).map (st.base+ ·))=true)->(∀a,eo.k.addr=some a->At ((Ki δs (λj=>decide (j<i)) st).get a) b)->(Ki δs (Kg listed) st).obj b=(Ki δs (λj=>decide (j<i)) st).obj b:=by
    intro hh hnl hmk b hb hta;refine Ak8 _ _ _ _ _ b rfl (λj δ hj hbj=>?_);obtain⟨ej,hej,_,f2⟩:=foot j δ hj;by_cases e:j=i
    ·subst e;exact atI.symm
    ·refine(same j ej hej ?_ e).symm;cases hc':O4 ap (Ce l j) ej (Ce l i) eo with
     |true=>exact .inl rfl
     |false=>
      exfalso;obtain⟨_,_,_,q1,q2⟩:=K5 hc';rcases f2 b hbj with f|⟨f,fs,fd,fb⟩
      ·refine noFreed j ej b hej (Rw (q1 f.1 hh) ?_ (Es f.1) hnl) f.2.1 hta;cases hs:scm ej.k eo.k with
       |false=>rfl
       |true=>
        exfalso;rcases Ai3 hs with⟨_,g2⟩|⟨_,g3⟩
        ·obtain⟨g2,g3⟩:=Bjq g2 hnl;rcases hmk with hmk|hmk
         ·rw[hmk]at g2;cases g2
         ·rw[hmk]at g3;cases g3
        ·rw[Zj f.1]at g3;cases g3
      ·rcases hb with hb|hb
       ·have:=Rw (q2 (U2 f) hb.1) (by
         cases hs:scm ej.k eo.k with
         |false=>rfl
         |true=>
          exfalso;rcases Ai3 hs with⟨g1',_⟩|⟨g1',_⟩
          ·rw[(Abo g1').1]at f;cases f
          ·have h1:=hb.2 g1';rw[J5]at h1 fb;omega) (Sa f) hnl
        unfold Rv at this;have hn:ej.k.addr=none:=by cases hk:ej.k<;>rw[hk]at f<;>first|rfl|cases f
        rw[hn]at this;cases this
       ·rw[Be]at hb;rw[J5]at fb;exact hb (List.mem_map.2 ⟨fs,Agf l ej fs (List.mem_of_getElem? hej) f fd,fb.symm⟩)
   have hkey:eo.k.makes=true->∀s,eo.dst=some s->Ar ((Ki δs (λj=>decide (j<i)) st).base+s) ((Ki δs (λj=>decide (j<i)) st).ob.map Prod.fst)=true->Ar ((Ki δs (λj=>decide (j<i)) st).base+s) ((Ki δs (Kg listed) st).ob.map Prod.fst)=true:=by
    intro hk s hs hn;rw[J5]at hn ⊢;rw[Aw8 δs (Kg listed) (λj=>decide (j<i)) st st (st.base+s) rfl (λj δ hj hbj=>?_)]
    ·exact hn
    ·obtain⟨ej,hej,_,f2⟩:=foot j δ hj;by_cases e:j=i
     ·subst e;exact atI.symm
     ·refine(same j ej hej ?_ e).symm;cases hc':O4 ap (Ce l j) ej (Ce l i) eo with
      |true=>exact .inl rfl
      |false=>
       exfalso;obtain⟨_,w2,_,q1,q2⟩:=K5 hc';rcases f2 (st.base+s) hbj with f|⟨f,fs,fd,fb⟩
       ·have hsc:scm ej.k eo.k=false:=by
         cases hs':scm ej.k eo.k with
         |false=>rfl
         |true=>
          exfalso;rcases Ai3 hs' with⟨g1',_⟩|⟨g1',_⟩
          ·have:=f.2.2 g1';rw[J5]at this;omega
          ·rw[(Abo g1').1]at hk;cases hk
        have:=Rw (q1 f.1 (U2 hk)) hsc (Es f.1) (Sa hk);unfold Rv at this;have hn:eo.k.addr=none:=by cases hk':eo.k<;>rw[hk']at hk<;>first|rfl|cases hk
        rw[hn]at this;cases hz:ej.k.addr<;>rw[hz]at this<;>cases this
       ·rw[J5]at fb;have e':s=fs:=by omega
        refine w2 s ?_ ?_
        ·simp[Ek.writes,fd,e']
        ·simp[Ek.writes,hs]
   have hscn:eo.k.eG=true->∀b,b<(Ki δs (λj=>decide (j<i)) st).base->(∀a,eo.k.addr=some a->At ((Ki δs (λj=>decide (j<i)) st).get a) b)->Ar b ((Ki δs (Kg listed) st).ob.map Prod.fst)=Ar b ((Ki δs (λj=>decide (j<i)) st).ob.map Prod.fst):=by
    intro hsc b hb hta;refine Aw8 δs (Kg listed) (λj=>decide (j<i)) st st b rfl (λj δ hj hbj=>?_);obtain⟨ej,hej,_,f2⟩:=foot j δ hj;by_cases e:j=i
    ·subst e;exact atI.symm
    ·refine(same j ej hej ?_ e).symm;cases hc':O4 ap (Ce l j) ej (Ce l i) eo with
     |true=>exact .inl rfl
     |false=>
      exfalso;obtain⟨_,_,_,q1,q2⟩:=K5 hc';have hst:=(Abo hsc).2;rcases f2 b hbj with f|⟨f,fs,fd,fb⟩
      ·exact noFreed j ej b hej (Rw (q1 f.1 (Z2 hst)) (Ana f.1 hst) (Es f.1) (Es hst)) f.2.1 hta
      ·rw[J5]at hb fb;omega
   have hwild:eo.k.gB=true->(∀b,(Ki δs (Kg listed) st).obj b=(Ki δs (λj=>decide (j<i)) st).obj b)/\∀b,Ar b ((Ki δs (Kg listed) st).ob.map Prod.fst)=Ar b ((Ki δs (λj=>decide (j<i)) st).ob.map Prod.fst):=by
    intro hw;have hst:eo.k.bD=true:=by cases hk:eo.k<;>rw[hk]at hw<;>first|rfl|cases hw
    have had:eo.k.addr=none:=by cases hk:eo.k<;>rw[hk]at hw<;>first|rfl|cases hw
    have cl:∀(j:Nat) (δ :B2) (b:Nat),δs[j]? =some δ->b∈δ.o.map Prod.fst->Kg listed j=decide (j<i):=by
     intro j δ b hj hbj;obtain⟨ej,hej,_,f2⟩:=foot j δ hj;by_cases e:j=i
     ·subst e;exact atI.symm
     ·refine(same j ej hej ?_ e).symm;cases hc':O4 ap (Ce l j) ej (Ce l i) eo with
      |true=>exact .inl rfl
      |false=>
       exfalso;obtain⟨_,_,_,q1,q2⟩:=K5 hc';have hh:ej.k.dX=true/\ej.k.isLoad=false:=by
        rcases f2 b hbj with f|⟨f,_⟩
        ·exact⟨Z2 f.1,Es f.1⟩
        ·exact⟨U2 f,Sa f⟩
       have hsc:scm ej.k eo.k=false:=by
        cases hs':scm ej.k eo.k with
        |false=>rfl
        |true=>
         exfalso;rcases Ai3 hs' with⟨_,g3⟩|⟨g1',_⟩
         ·rw[Zj hst]at g3;cases g3
         ·cases hk:eo.k<;>rw[hk]at hw g1'<;>first|(cases g1';done)|(cases hw;done)
       have:=Rw (q2 hh.1 hst) hsc hh.2 (Az5 hw);unfold Rv at this;rw[had]at this;cases hz:ej.k.addr<;>rw[hz]at this<;>cases this
    exact⟨λb=>Ak8 _ _ _ _ _ b rfl (λj δ hj hbj=>cl j δ b hj hbj),λb=>Aw8 _ _ _ _ _ b rfl (λj δ hj hbj=>cl j δ b hj hbj)⟩
   have hos':Og P ((Tq l).map (st.base+ ·)) eo (Ki δs (Kg listed) st) (δs[i]'(by omega)):=by
    have hA:A5l ((Tq l).map (st.base+ ·)) eo.k eo.dst (Ki δs (λj=>decide (j<i)) st) (Ki δs (Kg listed) st):=⟨hopd,hobj,hvob,hkey,Avk g2,by rw[J5,J5],hscn,hwild⟩;unfold Og at hos ⊢;cases hg:eo.g with
    |none=>rw[hg]at hos;exact Ado hA hos
    |some sw=>
     obtain⟨s,want⟩:=sw;rw[hg]at hos;rcases hos with⟨t,q1,q2,q3⟩|⟨q1,q3⟩
     ·exact .inl ⟨t,by rw[hget s (by simp[Ek.reads,hg])];exact q1,λe=>Ado hA (q2 e),q3⟩
     ·exact .inr ⟨by rw[hget s (by simp[Ek.reads,hg])];exact q1,q3⟩
   have hdst:∀x,o.dst=some x->x<nt:=λx hx=>Af6 l hds eo (List.mem_of_getElem? g1) x (by rw[g3];exact hx);have hset:∀j,(listed.setIfInBounds i true).getD j false=if j=i then true else listed.getD j false:=by
    intro j;rw[Array.getD_eq_getD_getElem?,Array.getD_eq_getD_getElem?,Array.getElem?_setIfInBounds];by_cases e:i=j
    ·subst e;simp[hs,hio]
    ·rw[if_neg e,if_neg (λe'=>e e'.symm)]
   have key:=Aoc (os:=os) (K:=wpAny P .any os Q fuel (listed.setIfInBounds i true)) (Q:=Q) h hos' g2 g3 g4 hdst (λa' w' M' β' h'=>by
    refine ih _ (by simp[hs]) ?_ ?_ a' w' M' β' (h'.equiv ?_)
    ·have hmem:i∈List.range os.size:=by simpa using hio
     have e1:((List.range os.size).filter λj=> !(listed.setIfInBounds i true).getD j false)=((List.range os.size).filter λj=> !listed.getD j false).filter λj=>decide (j≠i):=by
      rw[List.filter_filter];apply List.filter_congr;intro j _;rw[hset];by_cases e:j=i
      ·simp[e]
      ·simp[e]
     rw[e1];have e2:((List.range os.size).filter λj=> !listed.getD j false).filter (λj=>decide (j≠i))=((List.range os.size).filter λj=> !listed.getD j false).erase i:=by
      rw[List.Nodup.erase_eq_filter (List.Pairwise.filter _ List.nodup_range)];apply List.filter_congr;intro j _;by_cases e:j=i<;>simp[e]
     rw[e2,List.length_erase_of_mem (List.mem_filter.2 ⟨hmem,by simp[hun]⟩),hc];rfl
    ·intro j oj hoj hj e he;rw[hset]at hj ⊢;by_cases e1:e=i
     ·rw[if_pos e1]
     ·rw[if_neg e1];by_cases e2:j=i
      ·subst e2;rw[ho]at hoj;injection hoj with hoj;subst hoj
       exact hdep e he
      ·rw[if_neg e2]at hj;exact hcl j oj hoj hj e he
    ·have:=A77 δs (Kg listed) i st _ hd hun (λj δ' hj hm hδ'=>by
      obtain⟨ej,hej,f1,f2⟩:=foot j δ' hδ';obtain⟨ei,hei,f3,f4⟩:=foot i _ hd;have:ei=eo:=by rw[g1]at hei;injection hei with hei;exact hei.symm
      subst this;have hjs:j<os.size:=by have:=(List.getElem?_eq_some_iff.1 hej).1;omega
      have nc:O4 ap (Ce l i) ei (Ce l j) ej=false:=by
       cases hc':O4 ap (Ce l i) ei (Ce l j) ej with
       |false=>rfl
       |true=>
        have:=reach j i (hpair i j hj hjs _ _ g1 hej hc') hm;rw[hun]at this;cases this
      obtain⟨_,w2,_,q1,q2⟩:=K5 nc;refine⟨λs hs'=>λhs2=>w2 s (f3 s hs') (f1 s hs2),λb hb hb2=>?_⟩;rcases f4 b hb with f|⟨f,fs,fd,fb⟩
      ·rcases f2 b hb2 with f'|⟨f',fs',fd',fb'⟩
       ·have:=Rw (q1 f.1 (Z2 f'.1)) (Ana f.1 f'.1) (Es f.1) (Es f'.1);rw[Ark]at this;exact noFreed j ej b hej this f'.2.1 f.2.1
       ·have hsc:scm ei.k ej.k=false:=by
         cases hs':scm ei.k ej.k with
         |false=>rfl
         |true=>
          exfalso;rcases Ai3 hs' with⟨g1',_⟩|⟨g1',_⟩
          ·have:=f.2.2 g1';rw[J5]at fb' this;omega
          ·rw[(Abo g1').1]at f';cases f'
        have:=Rw (q1 f.1 (U2 f')) hsc (Es f.1) (Sa f');unfold Rv at this;have hn:ej.k.addr=none:=by cases hk:ej.k<;>rw[hk]at f'<;>first|rfl|cases f'
        rw[hn]at this;cases hz:ei.k.addr<;>rw[hz]at this<;>cases this
      ·rcases f2 b hb2 with f'|⟨f',fs',fd',fb'⟩
       ·have hsc:scm ei.k ej.k=false:=by
         cases hs':scm ei.k ej.k with
         |false=>rfl
         |true=>
          exfalso;rcases Ai3 hs' with⟨g1',_⟩|⟨g1',_⟩
          ·rw[(Abo g1').1]at f;cases f
          ·have:=f'.2.2 g1';rw[J5]at fb this;omega
        have:=Rw (q2 (U2 f) f'.1) hsc (Sa f) (Es f'.1);unfold Rv at this;have hn:ei.k.addr=none:=by cases hk:ei.k<;>rw[hk]at f<;>first|rfl|cases f
        rw[hn]at this;cases this
       ·rw[J5]at fb fb';have e':fs'=fs:=by omega
        exact w2 fs (by simp[Ek.writes,fd]) (by simp[Ek.writes,fd',e']))
     have e:(λj=>if j=i then true else Kg listed j)=Kg (listed.setIfInBounds i true):=funext λj=>by
      simp only[Kg];rw[hset]
     rw[e]at this;exact this.symm)
   unfold wpOp;simp only[ho];by_cases hw:Region.wanted o (yielded os a.tmps)=true
   ·rw[if_pos hw]at key ⊢;exact .inl key
   ·rw[if_neg hw]at key ⊢;exact key
end
end Go.Proofs.YtgacplpjamkieaaGreat.Ev
namespace Go.Proofs.YtgacplpjamkieaaGreat.Ev
open Go Go.RowKit
inductive Dr (S:Nat->Prop):PV->Prop
 |any:Dr S .any
 |val (v:Value):Dr S (.val v)
 |aO (own:Bool) (x:LX):Dr S (.aO own x)
 |agg (l:List PV) (h:∀(i:Nat) (p:PV),l[i]? =some p->Dr S p):Dr S (.agg l)
 |aY (l:List PV) (h:∀(i:Nat) (p:PV),l[i]? =some p->Dr S p):Dr S (.aY l)
 |ref (l:List PV) (h:∀(i:Nat) (p:PV),l[i]? =some p->Dr S p):Dr S (.ref l)
 |bA (f n:Nat) (l:List PV) (h:∀(i:Nat) (p:PV),l[i]? =some p->Dr S p):Dr S (.bA f n l)
 |sl (own:Bool) (e sz:Nat) (es:List (List PV)) (h:∀(i j:Nat) (p:PV),i<es.length->(es.getD i [])[j]? =some p->Dr S p):Dr S (.sl own e sz es)
 |loc (d off:Nat) (h:S d):Dr S (.loc d off)
 |el (d sz i off:Nat) (h:S d):Dr S (.el d sz i off)
 |vw (c:Bool) (d e sz n:Nat) (h:S d):Dr S (.vw c d e sz n)
 |mp (d:Nat) (h:S d):Dr S (.mp d)
section
variable {w:World} {M:Jw} {β :Kh} {B:Nat->Prop}
theorem Air{l:List PV}{cs:List Value}(hl:l.length=cs.length){i:Nat}{p:PV}(h:l[i]? =some p):∃v,cs[i]? =some v:=
 ⟨_,List.getElem?_eq_getElem (by have:=(List.getElem?_eq_some_iff.1 h).1;omega)⟩
theorem Bk.locs{p:PV}{v:Value}(h:Bk w M β B p v):Dr (λd=>∃x,β d=some x) p:=by
 induction h with
 |any v=>exact .any
 |val v h=>exact .val v
 |agg l cs hl h1 hr ih=>exact .agg l (λi p hp=>let ⟨v,hv⟩:=Air hl hp;ih i p v hp hv)
 |aY l cs hl hr ih=>exact .aY l (λi p hp=>let ⟨v,hv⟩:=Air hl hp;ih i p v hp hv)
 |row p s hs a c vs hc hsz ha hm hr ih=>
  cases p with
  |sl own e sz es=>
   injection hs with hs;subst hs
   exact .sl own e sz es (λi j p hi hp=>ih i j p hi hp)
  |aO own x=>exact .aO own x
  |_=>cases hs
 |loc d off b n h=>exact .loc d off ⟨_,h⟩
 |el d sz i off b n h hi=>exact .el d sz i off ⟨_,h⟩
 |vw cf d e sz n b c h hc h2=>exact .vw cf d e sz n ⟨_,h⟩
 |mp d b n h=>exact .mp d ⟨_,h⟩
 |bA f n l cs hl hr ih=>exact .bA f n l (λi p hp=>let ⟨v,hv⟩:=Air hl hp;ih i p v hp hv)
 |ref l ad vs hm hr ih=>exact .ref l (λi p hp=>ih i p hp)
theorem Bk.cutL{S:Nat->Prop}{D:Nat->Bool}(hSD:∀d,S d->D d=false){p:PV}{v:Value}(h:Bk w M β B p v)(hl:Dr S p):Bk w M (β.cut D) B p v:=by
 induction h with
 |any v=>exact .any v
 |val v h=>exact .val v h
 |agg l cs hl' h1 hr ih=>cases hl with|agg l hq=>exact .agg l cs hl' h1 (λi p v hp hv=>ih i p v hp hv (hq i p hp))
 |aY l cs hl' hr ih=>cases hl with|aY l hq=>exact .aY l cs hl' (λi p v hp hv=>ih i p v hp hv (hq i p hp))
 |row p s hs a c vs hc hsz ha hm hr ih=>
  cases hl with
  |sl own e sz es hq=>
   injection hs with hs;subst hs
   exact .row _ _ rfl a c vs hc hsz ha hm (λi j p hi hp=>ih i j p hi hp (hq i j p hi hp))
  |aO own x=>exact(Bk.row (β := β) (B:=B) _ s hs a c vs hc hsz ha hm hr).flat rfl
  |_=>cases hs
 |loc d off b n h=>cases hl with|loc d off hq=>exact .loc d off b n (by rw[Kh.cut_eq (hSD d hq)];exact h)
 |el d sz i off b n h hi=>cases hl with|el d sz i off hq=>exact .el d sz i off b n (by rw[Kh.cut_eq (hSD d hq)];exact h) hi
 |vw cf d e sz n b c h hc h2=>cases hl with|vw c d e sz n hq=>exact .vw cf d e sz n b _ (by rw[Kh.cut_eq (hSD d hq)];exact h) hc h2
 |mp d b n h=>cases hl with|mp d hq=>exact .mp d b n (by rw[Kh.cut_eq (hSD d hq)];exact h)
 |bA f n l cs hl' hr ih=>cases hl with|bA f n l hq=>exact .bA f n l cs hl' (λi p v hp hv=>ih i p v hp hv (hq i p hp))
 |ref l ad vs hm hr ih=>cases hl with|ref l hq=>exact .ref l ad vs hm (λi p hp=>ih i p hp (hq i p hp))
end
section
variable {ι :Type} {cx: ι->PV×Value} {P:Program} {C:Ba} {X:Inl} {inl:Nat->Bool} {w0:D7} {w:World} {N M:Jw} {β :Kh} {nt:Nat} {st:St} {a:Act}
theorem A38{B:Nat->Prop}{b n:Nat}{l:List PV}{D:Nat->Bool}(h:Jr w M β B b n l):Jr w M (β.cut D) B b n (l.map λp=>p.clean D):=by
 cases h with
 |cells l cs t q1 q2 q3=>
  refine .cells _ cs t q1 (by rw[List.length_map];exact q2) (λi q v hq hv=>?_);rw[List.getElem?_map]at hq;cases hp:l[i]? with
  |none=>rw[hp]at hq;cases hq
  |some p=>
   rw[hp]at hq;injection hq with hq
   subst hq;exact⟨(q3 i p v hp hv).1.clean,(q3 i p v hp hv).2⟩
 |arr x cs t q1 q2 q3 q4=>exact .arr x cs t q1 q2 q3 (λi j p v hi hp hv=>⟨(q4 i j p v hi hp hv).1.flat (LX.row_flat x i p (List.mem_of_getElem? hp)),(q4 i j p v hi hp hv).2⟩)
 |map gk gv ks vs es clock q1 q2 q3 q4 q5=>
  have fl:∀(g:Bool) (x:LX) (i:Nat) (v:Value),Bk w M β B (V2 g (x.row i)) v->Bk w M (β.cut D) B (V2 g (x.row i)) v:=by
   intro g x i v hr;cases g with
   |true=>
    have hr':Bk w M β B (.agg (x.row i)) v:=hr;clear hr;cases hr' with
    |row p s hs=>cases hs
    |agg l cs hl h1 hr=>exact .agg _ cs hl h1 (λj p u hp hu=>(hr j p u hp hu).flat (LX.row_flat x i p (List.mem_of_getElem? hp)))
   |false=>
    have hf:=LX.row_flat x i;generalize x.row i=l at hr hf
    match l,hr,hf with
    | [],_,_=>exact .any v
    | [p],hr,hf=>
     have hp:=hf p (by simp);have:p.view.flat=true:=by cases p<;>first|rfl|cases hp
     exact Bk.flat hr this
    |_::_::_,_,_=>exact .any v
  exact .map gk gv ks vs es clock q1 q2 q3 (λi e he=>⟨fl _ _ _ _ (q4 i e he).1,fl _ _ _ _ (q4 i e he).2⟩) q5
 |bV gk gv ks vs es clock q1 q2 q3 q4 q5=>
  have fl:∀(g:Bool) (x:LX) (i:Nat) (v:Value),Bk w M β B (V2 g (x.row i)) v->Bk w M (β.cut D) B (V2 g (x.row i)) v:=by
   intro g x i v hr;cases g with
   |true=>
    have hr':Bk w M β B (.agg (x.row i)) v:=hr;clear hr;cases hr' with
    |row p s hs=>cases hs
    |agg l cs hl h1 hr=>exact .agg _ cs hl h1 (λj p u hp hu=>(hr j p u hp hu).flat (LX.row_flat x i p (List.mem_of_getElem? hp)))
   |false=>
    have hf:=LX.row_flat x i;generalize x.row i=l at hr hf
    match l,hr,hf with
    | [],_,_=>exact .any v
    | [p],hr,hf=>
     have hp:=hf p (by simp);have:p.view.flat=true:=by cases p<;>first|rfl|cases hp
     exact Bk.flat hr this
    |_::_::_,_,_=>exact .any v
  exact .bV gk gv ks vs es clock q1 q2 q3 (λi e he=>⟨fl _ _ _ _ (q4 i e he).1,fl _ _ _ _ (q4 i e he).2⟩) q5
theorem Ayp(keys live:List Nat):∀key s v,P5 (hold cx (Ev.keep keys live st) a) (Ev.keep keys live st).obj w (β.cut λd=>Ar d live) key s v->P5 (hold cx st a) st.obj w β key s v:=by
 have hg:∀s,(Ev.keep keys live st).get s=if s∈keys then(st.get s).clean (λd=>Ar d live)else .any:=λs=>Ks _ _ _
 have ho:∀d,(Ev.keep keys live st).obj d=if d∈live then(st.obj d).map (λp=>p.clean λd=>Ar d live) else[]:=λd=>Ks _ _ _
 intro key s v ho';cases key with
 |slot k=>
  cases k with
  |inl t=>
   obtain⟨h1,h2,h3⟩:=ho';simp only[hold]at h1 h3;rw[hg]at h1 h3;by_cases hm:t∈keys
   ·rw[if_pos hm]at h1 h3;rcases Atv (p:=st.get t) (D:=λd=>Ar d live)with e|e
    ·rw[e]at h1 h3;exact⟨h1,h2,h3⟩
    ·rw[e]at h1;cases h1
   ·rw[if_neg hm]at h1;cases h1
  |inr i=>exact ho'
 |cell d i=>
  obtain⟨b,n,p,h1,h2,h3,h4,h5⟩:=ho';obtain⟨q1,q2⟩:=Kh.cut_some h1;rw[ho]at h2;split at h2
  ·rw[List.getElem?_map]at h2;cases hp:(st.obj d)[i]? with
   |none=>rw[hp]at h2;cases h2
   |some p'=>
    rw[hp]at h2;injection h2 with h2
    subst h2;exact⟨b,n,p',q1,hp,A56 h3,h4,h5⟩
  ·simp at h2
theorem SR.keep{S:Nat->Prop}(hcx:∀i,Dr S (cx i).1)(keys live:List Nat)(hS:∀d,S d->Ar d live=false)(h:SR cx w0 N nt st a w M β):SR cx w0 N nt (keep keys live st) a w M (β.cut λd=>Ar d live):=by
 have hg:∀s,(Ev.keep keys live st).get s=if s∈keys then(st.get s).clean (λd=>Ar d live)else .any:=λs=>Ks _ _ _
 have ho:∀d,(Ev.keep keys live st).obj d=if d∈live then(st.obj d).map (λp=>p.clean λd=>Ar d live) else[]:=λd=>Ks _ _ _
 have hk:(Ev.keep keys live st).ob.map Prod.fst=live:=by
  show(live.map λd=>(d,_)).map Prod.fst=live
  rw[List.map_map];exact List.map_id' live
 refine⟨h.defs,h.nt,?_⟩;have hown:=Ayp (cx:=cx) (w:=w) (β := β) (st:=st) (a:=a) keys live;have H:=h.sh;refine⟨H.bS,H.mN,H.mlt,?_,?_,?_,?_,?_,?_,?_⟩
 ·intro d b n hd;obtain⟨q1,q2⟩:=Kh.cut_some hd;obtain⟨r1,r2,r3⟩:=H.box d b n q1;refine⟨r1,r2,?_⟩;rw[ho,if_pos (by
   have:¬Ar d live=true:=by rw[q2];simp
   rw[Be]at this;exact Classical.not_not.1 this)]
  exact A38 r3
 ·have hz:∀d,st.obj d= []->(Ev.keep keys live st).obj d= []:=λd e=>by
   rw[ho,e];split<;>rfl
  intro d d' b n n' hd hd';exact(H.inj d d' b n n' (Kh.cut_some hd).1 (Kh.cut_some hd').1).imp id (Or.imp (hz d) (hz d'))
 ·intro d hd;rw[hk]at hd;unfold Kh.cut;simp only[hd,if_true]
 ·intro k;cases k with
  |inl s=>
   simp only[hold];rw[hg];split
   ·exact(h.reg s).clean
   ·exact .any _
  |inr i=>exact(H.reg (.inr i)).cutL hS (hcx i)
 ·intro key s v ho';exact H.tok key s v (hown _ _ _ ho')
 ·intro key key' s s' v v' g h1 h2;exact H.bX key key' s s' v v' g (hown _ _ _ h1) (hown _ _ _ h2)
 ·intro key s v g d n h1 hg' hd;exact H.bH key s v g d n (hown _ _ _ h1) hg' (Kh.cut_some hd).1
def A4e:Ex->Exit
 | .normal=>.normal
 | .exit i=>.exit i
 | .ret=>.ret
def Ub(S:Nat->Prop)(st:St):Prop:=∀d,S d->Ar d (st.ob.map Prod.fst)=false/\d<st.base
theorem Ag7{S:Nat->Prop}{st:St}(h:Ub S st)(δ :B2):Ub S (st.app δ):=λd hd=>⟨by rw[Nj,(h d hd).1,Bool.and_false],(h d hd).2⟩
theorem Bbb{S:Nat->Prop} :∀(δs:List B2) (m:Nat->Bool) (st:St),Ub S st->Ub S (Ki δs m st):=by
 intro δs
 induction δs with
 |nil=>intro m st h;exact h
 |cons δ r ih=>
  intro m st h;simp only[Ki];refine ih _ _ ?_;cases m 0
  ·exact h
  ·exact Ag7 h δ
theorem Arl{S:Nat->Prop}{l:List Ek}{st st':St}(h:Aok P l st st'):Ub S st->Ub S st':=by
 induction h with
 |nil=>exact λh=>h
 |cons eo l st st' δ _ _ ih=>exact λh=>ih (Ag7 h δ)
 |join B r st δs st1 st' pd v _ _ _ _ ih=>exact λh=>ih (Ag7 h _)
theorem Af9{S:Nat->Prop}{s t:St}(h:Ub S s)(he:Km s t):Ub S t:=λd hd=>⟨by rw[<-he.key];exact(h d hd).1,by rw[<-he.base];exact(h d hd).2⟩
theorem Amd{S:Nat->Prop}{st:St}(hs:Ub S st):∀d,S d->Ar d (B9 st)=false:=λd hd=>by
 obtain⟨h1,h2⟩:=hs d hd;cases hn:Ar d (B9 st) with
 |false=>rfl
 |true=>
  have hm:d∈st.ob.map Prod.fst:=by
   by_cases h:d∈st.ob.map Prod.fst
   ·exact h
   ·rw[(Be _ _).2 h]at h1;cases h1
  exact absurd ((N9 _ _).2 hm) ((Be _ _).1 hn)
theorem Ayw{S:Nat->Prop}{st:St}(hs:Ub S st)(keys:List Nat):Ub S (Ev.keep keys (B9 st) st):=λd hd=>by
 have e:(Ev.keep keys (B9 st) st).ob.map Prod.fst=B9 st:=by
  show((B9 st).map λd=>(d,_)).map Prod.fst=B9 st
  rw[List.map_map];exact List.map_id' (B9 st)
 rw[e];exact⟨Amd hs d hd,(hs d hd).2⟩
theorem A2p{S:Nat->Prop}{st:St}(hs:Ub S st)(keys:List Nat):∀d,S d->Ar d (gcK keys st)=false:=λd hd=>by
 obtain⟨h1,h2⟩:=hs d hd;cases hn:Ar d (gcK keys st) with
 |false=>rfl
 |true=>
  have hm:d∈st.ob.map Prod.fst:=by
   by_cases h:d∈st.ob.map Prod.fst
   ·exact h
   ·rw[(Be _ _).2 h]at h1;cases h1
  exact absurd (Ba1 ((N9 _ _).2 hm) h2) ((Be _ _).1 hn)
theorem Ayf{S:Nat->Prop}{st:St}(hs:Ub S st)(keys:List Nat):∀d,S d->Ar d (gcU keys st)=false:=λd hd=>by
 obtain⟨h1,h2⟩:=hs d hd;cases hn:Ar d (gcU keys st) with
 |false=>rfl
 |true=>
  have hm:d∈st.ob.map Prod.fst:=by
   by_cases h:d∈st.ob.map Prod.fst
   ·exact h
   ·rw[(Be _ _).2 h]at h1;cases h1
  exact absurd (Avy ((N9 _ _).2 hm) h2) ((Be _ _).1 hn)
theorem Ba2{S:Nat->Prop}{st:St}(hs:Ub S st)(keys:List Nat):Ub S (Ev.keep keys (gcU keys st) st):=λd hd=>by
 have e:(Ev.keep keys (gcU keys st) st).ob.map Prod.fst=gcU keys st:=by
  show((gcU keys st).map λd=>(d,_)).map Prod.fst=gcU keys st
  rw[List.map_map];exact List.map_id' (gcU keys st)
 rw[e];exact⟨Ayf hs keys d hd,(hs d hd).2⟩
theorem Aye(st:St)(live:List Nat):∀(keys:List Nat) (s:Nat),B4 .any (frF st live keys) s=if s∈keys then(st.get s).clean (λd=>Ar d live)else .any
 | [],s=>by simp[frF,B4]
 |x::r,s=>by
  have ih:=Aye st live r s;have go:∀p:PV,(st.get x).clean (λd=>Ar d live)=p->B4 PV.any ((x,p)::frF st live r) s=if s∈x::r then(st.get s).clean (λd=>Ar d live)else .any:=by
   intro p hp;rw[B3,ih];by_cases e:x=s
   ·subst e;simp[hp]
   ·have:¬s=x:=λh=>e h.symm;simp[e,this]
  have anyc:(st.get x).clean (λd=>Ar d live)=.any->B4 .any (frF st live r) s=if s∈x::r then(st.get s).clean (λd=>Ar d live)else .any:=by
   intro hp;rw[ih];by_cases e:s=x
   ·subst e;simp[hp]
   ·simp[e]
  simp only[frF];split
  ·rename_i h;exact anyc h
  ·rename_i h;exact go _ rfl
theorem O7(keys live:List Nat)(st:St):Km (Aga keys live st) (Ev.keep keys live st):=by
 refine⟨rfl,λs=>?_,λd=>rfl,λd=>rfl⟩;show B4 PV.any (frF st live keys) s=B4 PV.any (keys.map λs=>(s,(st.get s).clean λd=>Ar d live)) s
 rw[Aye,Ks]
theorem SR.refine(h:SR cx w0 N nt st a w M β)(t:Nat)(p:PV)(hr:Bk w M β w0.old p (a.tmps.getD t undef))(hn:∀s,p.dQ=some s->s.own=false):SR cx w0 N nt (st.app ⟨[(t,p)],[]⟩) a w M β :=by
 have hg:∀s,(st.app ⟨[(t,p)],[]⟩).get s=if t=s then p else st.get s:=λs=>Gc st t s p
 refine⟨h.defs,h.nt,h.sh.hold (λk=>?_) (λk=>match k with| .inl s=>if t=s then none else some (.inl s)| .inr i=>some (.inr i)) (λk s h1 h2=>?_) (λk k' j h1 h2=>?_)⟩
 ·cases k with
  |inl s=>
   simp only[hold];rw[hg];by_cases e:t=s
   ·rw[if_pos e,<-e];exact hr
   ·rw[if_neg e];exact h.sh.reg (.inl s)
  |inr i=>exact h.sh.reg (.inr i)
 ·cases k with
  |inl s'=>
   simp only[hold]at h1;rw[hg]at h1;by_cases e:t=s'
   ·rw[if_pos e]at h1;rw[hn _ h1]at h2;cases h2
   ·rw[if_neg e]at h1;exact⟨.inl s',by simp only;rw[if_neg e],h1,by simp only[hold];rw[hg,if_neg e]⟩
  |inr i=>exact⟨.inr i,rfl,h1,rfl⟩
 ·cases k with
  |inl s=>
   simp only at h1;by_cases e:t=s
   ·rw[if_pos e]at h1;cases h1
   ·rw[if_neg e]at h1;injection h1 with h1
    subst h1;cases k' with
    |inl s'=>
     simp only at h2;by_cases e:t=s'
     ·rw[if_pos e]at h2;cases h2
     ·rw[if_neg e]at h2;injection h2 with h2;exact h2.symm
    |inr i=>cases h2
  |inr i=>
   injection h1 with h1
   subst h1;cases k' with
   |inl s'=>
    simp only at h2;by_cases e:t=s'
    ·rw[if_pos e]at h2;cases h2
    ·rw[if_neg e]at h2;cases h2
   |inr i=>injection h2 with h2;exact h2.symm
theorem Ak0(b:Nat):∀(l:List Nat) (d:Nat),d∈Nb b l↔d∈l/\d≠b
 | [],d=>by simp[Nb]
 |x::r,d=>by
  have ih:=Ak0 b r d;unfold Nb;cases hb:Nat.beq x b with
  |true=>
   have e:=B1 hb;subst e;simp only[ih,List.mem_cons];exact⟨λh=>⟨.inr h.1,h.2⟩,λh=>⟨h.1.resolve_left h.2,h.2⟩⟩
  |false=>
   have e:x≠b:=λe=>by subst e;simp at hb
   simp only[List.mem_cons,ih];exact⟨λh=>h.elim (λh=>⟨.inl h,λe'=>e (by rw[<-h,e'])⟩) (λh=>⟨.inr h.1,h.2⟩),λh=>h.1.elim .inl (λh'=>.inr ⟨h',h.2⟩)⟩
theorem SR.frzCore{S:Nat->Prop}(hcx:∀i,Dr S (cx i).1)(h:SR cx w0 N nt st a w M β)(hs:Ub S st){b e sz n:Nat}{y:LX}{u:Value}(hreg:Bk w M β w0.old (.vw false b e sz n) u)(ho:st.obj b= [.bG y])(hb:st.base<=b)
  (hvd:Agi st.base st.ob=true):∃M' β',SR cx w0 N nt (Aga (st.fr.map Prod.fst) (N4 st (Nb b (B9 st))) st) a w M' β'/\Ub S (Aga (st.fr.map Prod.fst) (N4 st (Nb b (B9 st))) st)/\Bk w M' β' w0.old (.aO false y) u/\
   ∀x,Ar x (N4 st (Nb b (B9 st)))=false->β' x= β x:=by
 obtain⟨bb,c,hβ,hc,hv⟩:=A3m hreg;obtain⟨hb1,hb2,hb3⟩:=h.sh.box b bb n hβ;obtain⟨cs,ty,q1,q2,q3,q4⟩:=Aqz hb3 ho;have hlive:∀d,S d->Ar d (N4 st (Nb b (B9 st)))=false:=λd hd=>by
  obtain⟨k1,k2⟩:=hs d hd;cases hn:Ar d (N4 st (Nb b (B9 st))) with
  |false=>rfl
  |true=>
   have h1:=(Be _ _).1 hn;have k3:st.obj d≠ []:=λe=>by have:=An9 hvd k1 e;omega
   have h2:Ar d (st.ob.map Prod.fst)=true:=(Be _ _).2 (λhm=>h1 ((Ak1 _ _ _).2 ⟨(Ak0 _ _ _).2 ⟨(N9 _ _).2 hm,λe=>by omega⟩,k3⟩));rw[h2]at k1;cases k1
 have hk:=h.keep hcx (st.fr.map Prod.fst) (N4 st (Nb b (B9 st))) hlive;have hbx:∀x m,(β.cut λd=>Ar d (N4 st (Nb b (B9 st)))) x≠some (bb,m):=λx m hx=>by
  obtain⟨h1,h2⟩:=Kh.cut_some hx;have:Ar x (N4 st (Nb b (B9 st)))=true:=(Be _ _).2 (λhm=>by
   obtain⟨m1,m2⟩:=(Ak1 _ _ _).1 hm;rcases h.sh.inj x b bb m n h1 hβ with q|q|q
   ·exact((Ak0 _ _ _).1 m1).2 q
   ·exact m2 q
   ·rw[ho]at q;cases q)
  rw[this]at h2;cases h2
 obtain⟨hS,hE⟩:=hk.sh.fixed bb (n*y.sz) hb2 hbx (λkey s v ho' hg'=>h.sh.bH key s v bb b n (Ayp _ _ key s v ho') hg' hβ) hb1;have hk2:SR cx w0 N nt (Ev.keep (st.fr.map Prod.fst) (N4 st (Nb b (B9 st))) st) a w _ _:=⟨hk.defs,hk.nt,hS⟩;refine⟨_,_,hk2.equiv (O7 _ _ _).symm,?_,?_,λx hx=>Kh.cut_eq hx⟩
 rotate_left
 ·rw[hv];refine Wo (s:=⟨false,y.e,y.sz,y.len,y.row⟩) rfl q2.symm q1 hc (λi _=>LX.row_len _ _) (λj hj m hm=>?_) (λi j q hi hq=>?_)
  ·simp only[if_true]at hm;injection hm with hm
   have:j<n*y.sz:=hj;show j<m
   omega
  ·have hj:j<y.sz:=by have:=(List.getElem?_eq_some_iff.1 hq).1;rw[LX.row_len]at this;exact this
   have hi':i<n:=hi;have hm:(i+1)*y.sz<=n*y.sz:=Nat.mul_le_mul_right _ hi';rw[Nat.add_mul,Nat.one_mul]at hm;have hv':cs[i*y.sz+j]? =some (cs[i*y.sz+j]'(by omega)):=Array.getElem?_eq_getElem (by omega);obtain⟨r1,r2⟩:=q4 i j q _ hi hq hv';have hfl:q.flat=true:=LX.row_flat _ _ _ (List.mem_of_getElem? hq);exact⟨_,hv',hE _ _ (r1.flat hfl),r2⟩
 ·have hk3:Ub S (Ev.keep (st.fr.map Prod.fst) (N4 st (Nb b (B9 st))) st):=by
   intro d hd;refine⟨?_,(hs d hd).2⟩;have e:(Ev.keep (st.fr.map Prod.fst) (N4 st (Nb b (B9 st))) st).ob.map Prod.fst=N4 st (Nb b (B9 st)):=by
    show((N4 st (Nb b (B9 st))).map λd=>(d,_)).map Prod.fst=N4 st (Nb b (B9 st))
    rw[List.map_map];exact List.map_id' _
   rw[e];exact hlive d hd
  exact Af9 hk3 (O7 _ _ _).symm
theorem SR.frz0{S:Nat->Prop}(hcx:∀i,Dr S (cx i).1)(h:SR cx w0 N nt st a w M β)(hs:Ub S st)(t:Nat):∃M' β',SR cx w0 N nt (st.frz0 t) a w M' β'/\Ub S (st.frz0 t):=by
 unfold St.frz0;split
 ·rename_i b e sz n hg;split
  ·rename_i y ho hb;split
   rotate_left
   ·exact⟨M,β,h,hs⟩
   rename_i hvd;have hreg:=h.reg t;rw[hg]at hreg;obtain⟨M',β',h1,h2,h3,_⟩:=h.frzCore hcx hs hreg ho (Nat.le_of_ble_eq_true hb) hvd;exact⟨M',β',h1.refine t (.aO false y) h3 (λs hs=>by injection hs with hs;subst hs;rfl),Ag7 h2 _⟩
  ·exact⟨M,β,h,hs⟩
 ·exact⟨M,β,h,hs⟩
theorem SR.setC(h:SR cx w0 N nt st a w M β)(d i:Nat)(y:LX){bd nd:Nat}(hβ : β d=some (bd,nd))(hpl:Er (st.obj d)=true)(hi:i<(st.obj d).length)
  (hr:∀cs t u,w.heap[bd]? =some (.cells cs t (0,0))->cs[i]? =some u->Bk w M β w0.old (.aO false y) u/\u.oneCell'=true):SR cx w0 N nt (st.setC d i (.aO false y)) a w M β :=by
 have hO:∀x,(st.setC d i (.aO false y)).obj x=if d=x then Hy (st.obj d) i [.aO false y]else st.obj x:=λx=>B3 _ _ _ _ _
 have hlen:i+1<=(st.obj d).length:=hi;refine⟨h.defs,h.nt,?_⟩;refine h.sh.perm (λk=>h.sh.reg k) (λx b n hx=>?_) (λx hx=>h.sh.dom x ?_) some (λkey s v hk=>⟨key,rfl,?_⟩) (λk k' j h1 h2=>by injection h1 with h1;injection h2 with h2;rw[h1,h2]) (λx b n hx e=>?_)
 ·have hbx:=(h.sh.box x b n hx).2.2;rw[hO];by_cases e:d=x
  ·rw[if_pos e];subst e;rw[hβ]at hx;injection hx with hx
   injection hx with hx1 hx2
   subst hx1;subst hx2
   obtain⟨cs,t,q1,q2,q3⟩:=F4 hbx hpl;refine .cells _ cs t q1 (by rw[I5];exact q2) (λk p v hp hv=>?_);rw[Ix hlen]at hp;by_cases hk:k=i
   ·rw[if_pos hk]at hp;injection hp with hp
    subst hp;subst hk
    exact hr cs t v q1 hv
   ·rw[if_neg hk]at hp;exact q3 k p v hp hv
  ·rw[if_neg e];exact hbx
 ·have hx':=(Be _ _).1 hx;exact(Be _ _).2 (λhm=>hx' (List.mem_cons_of_mem _ hm))
 ·cases key with
  |slot k=>exact hk
  |cell x k=>
   obtain⟨b,n,p,h1,h2,h3,h4,h5⟩:=hk;rw[hO]at h2;by_cases e:d=x
   ·rw[if_pos e,Ix hlen]at h2;by_cases hk:k=i
    ·rw[if_pos hk]at h2;injection h2 with h2
     subst h2;injection h3 with h3
     subst h3;cases h4
    ·rw[if_neg hk]at h2;subst e;exact⟨b,n,p,h1,h2,h3,h4,h5⟩
   ·rw[if_neg e]at h2;exact⟨b,n,p,h1,h2,h3,h4,h5⟩
 ·rw[hO];by_cases q:d=x
  ·subst q;rw[e]at hi;simp at hi
  ·rw[if_neg q];exact e
theorem SR.frzC1{S:Nat->Prop}(hcx:∀i,Dr S (cx i).1)(h:SR cx w0 N nt st a w M β)(hs:Ub S st)(s i:Nat):∃M' β',SR cx w0 N nt (st.frzC1 s i) a w M' β'/\Ub S (st.frzC1 s i):=by
 unfold St.frzC1;split
 ·rename_i d hg;split
  ·rename_i b e sz n hq;split
   ·rename_i y ho hb hpl;split
    rotate_left
    ·exact⟨M,β,h,hs⟩
    rename_i hvd;have hreg:=h.reg s;rw[hg]at hreg;obtain⟨bd,nd,hβ,hv⟩:=Vh hreg;have hget:=Ayj (l:=st.obj d) (i:=i) (by rw[hq];rfl);rw[hq]at hget;have hi:=(List.getElem?_eq_some_iff.1 hget).1;obtain⟨cs,t,q1,q2,q3⟩:=F4 (h.sh.box d bd nd hβ).2.2 hpl;have hcu:cs[i]? =some (cs[i]'(by omega)):=Array.getElem?_eq_getElem (by omega);obtain⟨r1,r2⟩:=q3 i _ _ hget hcu;obtain⟨M',β',h1,h2,h3,h4⟩:=h.frzCore hcx hs r1 ho (Nat.le_of_ble_eq_true hb) hvd;have hdb:d≠b:=λe=>by
     rw[e,ho]at hpl;cases hpl
    have hne:st.obj d≠ []:=λe=>by rw[e]at hi;simp at hi
    have hdk:Ar d (N4 st (Nb b (B9 st)))=false:=by
     cases hn:Ar d (N4 st (Nb b (B9 st))) with
     |false=>rfl
     |true=>
      have k1:=(Be _ _).1 hn;have k2:Ar d (st.ob.map Prod.fst)=true:=(Be _ _).2 (λhm=>k1 ((Ak1 _ _ _).2 ⟨(Ak0 _ _ _).2 ⟨(N9 _ _).2 hm,hdb⟩,hne⟩));have:=h.sh.dom d k2;rw[this]at hβ;cases hβ
    have hmem:d∈N4 st (Nb b (B9 st)):=by
     have:¬Ar d (N4 st (Nb b (B9 st)))=true:=by rw[hdk];simp
     rw[Be]at this;exact Classical.not_not.1 this
    have hO:(Aga (st.fr.map Prod.fst) (N4 st (Nb b (B9 st))) st).obj d=(st.obj d).map λp=>p.clean λx=>Ar x (N4 st (Nb b (B9 st))):=by
     have e1:(Aga (st.fr.map Prod.fst) (N4 st (Nb b (B9 st))) st).obj d=(Ev.keep (st.fr.map Prod.fst) (N4 st (Nb b (B9 st))) st).obj d:=(O7 _ _ _).obj d;rw[e1];have:=Ks (d:=([]:List PV)) (λd=>(st.obj d).map λp=>p.clean λx=>Ar x (N4 st (Nb b (B9 st)))) (N4 st (Nb b (B9 st))) d;rw[if_pos hmem]at this;exact this
    refine⟨M',β',h1.setC d i y (by rw[h4 d hdk];exact hβ) ?_ ?_ (λcs' t' u hh hu=>?_),Ag7 h2 _⟩
    ·rw[hO];have go:∀l:List PV,Er l=true->Er (l.map λp=>p.clean λx=>Ar x (N4 st (Nb b (B9 st))))=true:=by
      intro l
      induction l with
      |nil=>intro _;rfl
      |cons p l ih=>
       intro hp;have hp2:Er l=true:=by cases p<;>first|cases hp|exact hp
       rcases Atv (p:=p) (D:=λx=>Ar x (N4 st (Nb b (B9 st))))with e|e
       ·show Er (p.clean _::_)=true
        rw[e];cases p<;>first|cases hp|exact ih hp2
       ·show Er (p.clean _::_)=true
        rw[e];exact ih hp2
     exact go _ hpl
    ·rw[hO,List.length_map];exact hi
    ·rw[q1]at hh;injection hh with hh
     injection hh with hh1 hh2
     subst hh1;rw[hcu]at hu;injection hu with hu
     subst hu;exact⟨h3,r2⟩
   ·exact⟨M,β,h,hs⟩
  ·exact⟨M,β,h,hs⟩
 ·exact⟨M,β,h,hs⟩
theorem SR.frzCL{S:Nat->Prop}(hcx:∀i,Dr S (cx i).1)(s:Nat):∀(l:List Nat) {st:St} {M:Jw} {β :Kh},SR cx w0 N nt st a w M β->Ub S st->∃M' β',SR cx w0 N nt (st.frzCL s l) a w M' β'/\Ub S (st.frzCL s l)
 | [],st,M,β,h,hs=>⟨M,β,h,hs⟩
 |i::r,st,M,β,h,hs=>by
  obtain⟨M',β',h',hs'⟩:=h.frzC1 hcx hs s i;exact SR.frzCL hcx s r h' hs'
theorem SR.frz1{S:Nat->Prop}(hcx:∀i,Dr S (cx i).1)(h:SR cx w0 N nt st a w M β)(hs:Ub S st)(t:Nat):∃M' β',SR cx w0 N nt (st.frz1 t) a w M' β'/\Ub S (st.frz1 t):=by
 unfold St.frz1;split
 ·split
  ·exact SR.frzCL hcx _ _ h hs
  ·exact⟨M,β,h,hs⟩
 ·exact h.frz0 hcx hs t
theorem SR.frzL{S:Nat->Prop}(hcx:∀i,Dr S (cx i).1):∀(ts:List Nat) {st:St} {M:Jw} {β :Kh},SR cx w0 N nt st a w M β->Ub S st->∃M' β',SR cx w0 N nt (st.frzL ts) a w M' β'/\Ub S (st.frzL ts)
 | [],st,M,β,h,hs=>⟨M,β,h,hs⟩
 |t::r,st,M,β,h,hs=>by
  obtain⟨M',β',h',hs'⟩:=h.frz1 hcx hs t;exact SR.frzL hcx r h' hs'
theorem Ay0:∀ {ob:List (Nat×List PV)} {d:Nat},Ar d (ob.map Prod.fst)=false->d<An8 ob
 | [],d,h=>by cases h
 |(x,l)::r,d,h=>by
  simp only[List.map_cons,Ar]at h;unfold An8;cases hb:Nat.beq x d with
  |true=>
   have e:=B1 hb;subst e;cases hl:Nat.ble (An8 r) x with
   |true=>simp
   |false=>
    simp only;rcases Nat.lt_or_ge x (An8 r)with h1|h1
    ·exact h1
    ·rw[Nat.ble_eq_true_of_le h1]at hl;cases hl
  |false=>
   rw[hb]at h;have ih:=Ay0 (ob:=r) h;cases hl:Nat.ble (An8 r) x with
   |true=>have:=Nat.le_of_ble_eq_true hl;simp only;omega
   |false=>exact ih
theorem Aue{ob:List (Nat×List PV)}{d:Nat}(h:Ar d (ob.map Prod.fst)=false):d<V3 ob:=by have:=Ay0 h;unfold V3;omega
end
end Go.Proofs.YtgacplpjamkieaaGreat.Ev
