/-  Regions in any order; code; functions. -/
import Derived.Test.YthjhkpgonleelaaGreatDoorLFJ
set_option linter.unusedVariables false
set_option linter.unusedSimpArgs false
set_option linter.unnecessarySimpa false
namespace Go.Proofs.YthjhkpgonleelaaGreatDoor.Ev
open Go Go.RowKit
section
variable {ι :Type} {cx: ι->PV×Value} {P:Program} {C:Bc} {X:Inl} {inl:Nat->Bool} {once:Nat} {ban:List Nat} {w0:Gs} {w:World} {N M:T7} {β :Sk} {nt:Nat} {st:St} {a:Act}
def Rp(listed:Array Bool):Nat->Bool:=λi=>listed.getD i false
theorem SR.weak{st':St}(h:SR cx w0 N nt st a w M β)(hg:∀x,st'.get x=st.get x\/st'.get x=.any)(ho:∀d,st'.obj d=st.obj d)(hk:∀d,Ay d (st'.ob.map Prod.fst)=Ay d (st.ob.map Prod.fst)):SR cx w0 N nt st' a w M β :=by
 refine⟨h.defs,h.nt,h.sh.perm (λk=>?_) (λd b n hd=>by rw[ho];exact(h.sh.box d b n hd).2.2) (λd hd=>h.sh.dom d (by rw[<-hk];exact hd)) some (λkey s v hw=>⟨key,rfl,?_⟩) (λk k' j h1 h2=>by injection h1 with h1;injection h2 with h2;rw[h1,h2])⟩
 ·cases k with
  |inl s=>
   rcases hg s with e|e
   ·show B2 _ _ _ _ (st'.get s) _
    rw[e];exact h.sh.reg (.inl s)
   ·show B2 _ _ _ _ (st'.get s) _
    rw[e];exact .any _
  |inr i=>exact h.sh.reg (.inr i)
 ·cases key with
  |slot k=>
   cases k with
   |inl t=>
    obtain⟨h1,h2,h3⟩:=hw;simp only[hold]at h1;rcases hg t with e|e
    ·rw[e]at h1;exact⟨h1,h2,h3⟩
    ·rw[e]at h1;cases h1
   |inr i=>exact hw
  |cell d i=>
   obtain⟨b,n,p,h1,h2,h3⟩:=hw;rw[ho]at h2;exact⟨b,n,p,h1,h2,h3⟩
def Bx2(P:Program)(inl:Nat->Bool)(once nt:Nat)(os:Array Oper)(i:Nat)(eo:Hm):Prop:=
 ∃o,os[i]? =some o/\cOp P inl once o=eo.k/\eo.dst=o.dst/\Atp os o.guard=some eo.g/\∀x,o.dst=some x->x<nt
theorem A8h{os:Array Oper}{l:List Hm}{δs:List Co}{st':St}(hr:Run P ban l st δs st'){Q:Exit->Act->World->Prop} :∀(i k:Nat),i+k=os.size->l.length<=k->
  (∀j eo,l[j]? =some eo->Bx2 P inl once nt os (i+j) eo)->∀(a:Act) (w:World) (M:T7) (β :Sk),SR cx w0 N nt st a w M β->
  (∀a' w' M' β',SR cx w0 N nt st' a' w' M' β'->wpOps P os Q (List.range' (i+l.length) (k-l.length)) a' w')->wpOps P os Q (List.range' i k) a w:=by
 induction hr with
 |nil st=>intro i k _ _ _ a w M β h hQ;exact hQ _ _ _ _ h
 |cons eo l st st' δ δs h1 _ ih=>
  intro i k hi hk hh a w M β h hQ;cases k with
  |zero=>simp at hk
  |succ k=>
   obtain⟨o,ho,g2,g3,g4,hdst⟩:=hh 0 eo rfl;rw[Nat.add_zero]at ho;have key:=A0j (os:=os) (K:=wpOps P os Q (List.range' (i+1) k)) (Q:=Q) h h1 g2 g3 g4 hdst (λa' w' M' β' h'=>
    ih (i+1) k (by omega) (by simp at hk;omega) (λj e hj=>by have:=hh (j+1) e (by simpa using hj);rwa[show i+(j+1)=i+1+j by omega]at this) a' w' M' β' h' (λa' w' M' β' h'=>by
     have:=hQ a' w' M' β' h';simp only[List.length_cons]at this;rwa[show i+(l.length+1)=i+1+l.length by omega,show k+1-(l.length+1)=k-l.length by omega]at this))
   rw[List.range'_succ];simp only[wpOps,ho];by_cases hw:Region.wanted o (yielded os a.tmps)=true
   ·rw[if_pos hw]at key ⊢;exact .inl key
   ·rw[if_neg hw]at key ⊢;exact key
theorem Bgv{k:K}(h:k.quiet=true):k.dJ=false/\k.makes=false:=by cases k<;>first|exact⟨rfl,rfl⟩|cases h
theorem Ba1{eo:Hm}(h:eo.k.quiet=true):∀s∈eo.writes,eo.dst=some s:=by
 intro s hs;obtain⟨d,g,k⟩:=eo;cases k<;>first|cases h|skip
 all_goals (cases d with
  |none=>simp[Hm.writes]at hs
  |some d=>simp[Hm.writes]at hs;subst hs;rfl)
theorem Bkx{l:List Hm}{δs:List Co}{st':St}(hr:Run P ban l st δs st'):(∀eo∈l,eo.k.quiet=true)->st'.ob=st.ob/\st'.base=st.base/\∀x,x∉(A55 l).map Prod.fst->st'.get x=st.get x:=by
 induction hr with
 |nil st=>intro _;exact⟨rfl,rfl,λ_ _=>rfl⟩
 |cons eo l st st' δ δs h1 _ ih=>
  intro hq;obtain⟨i1,i2,i3⟩:=ih (λe he=>hq e (List.mem_cons_of_mem _ he));have hqe:=hq eo (by simp);obtain⟨f1,f2⟩:=A42 h1;obtain⟨q1,q2⟩:=Bgv hqe;have ho: δ.o= []:=by
   cases hd: δ.o with
   |nil=>rfl
   |cons x r=>
    rcases f2 x.1 (by rw[hd];simp)with f|f
    ·rw[q1]at f;cases f.1
    ·rw[q2]at f;cases f.1
  have hob:(st.app δ).ob=st.ob:=by simp[St.app,ho,Buy]
  refine⟨i1.trans hob,i2,λx hx=>?_⟩;have hx2:x∉(A55 l).map Prod.fst:=λh=>hx (by unfold A55;cases eo.dst<;>simp_all);rw[i3 x hx2,Xc,if_neg];intro hm;have:=Ba1 hqe x (f1 x hm);apply hx;unfold A55;rw[this];simp
theorem Bjq(l:List Hm)(x:Nat):Dn .any (A55 l) x=.any:=by
 induction l with
 |nil=>rfl
 |cons eo l ih=>
  unfold A55;cases eo.dst with
  |none=>exact ih
  |some d=>simp only;rw[Dc,ih];split<;>rfl
theorem Bof{l:List Hm}{δs:List Co}{st':St}(hr:Run P ban l st δs st')(hq:∀eo∈l,eo.k.quiet=true){pd:Nat}{v:Bool}(hv:st'.get pd=.val (.bool v))(h:SR cx w0 N nt st' a w M β):SR cx w0 N nt (stJ st l pd v) a w M β :=by
 obtain⟨i1,i2,i3⟩:=Bkx hr hq;refine h.weak (λx=>?_) (λd=>?_) (λd=>?_)
 ·unfold stJ;rw[Xc];simp only[List.map_cons,List.mem_cons];by_cases e:x=pd
  ·subst e;rw[if_pos (.inl rfl),Dc,if_pos rfl,hv];exact .inl rfl
  ·by_cases e2:x∈(A55 l).map Prod.fst
   ·rw[if_pos (.inr e2),Dc,if_neg (λh=>e h.symm),Bjq];exact .inr rfl
   ·rw[if_neg (λh=>h.elim e e2)];exact .inl (i3 x e2).symm
 ·show Dn [] (([]:List (Nat×List PV))++st.ob) d=Dn [] st'.ob d
  rw[i1];rfl
 ·show Ay d ((([]:List (Nat×List PV))++st.ob).map Prod.fst)=_
  rw[i1];rfl
inductive A0q (P:Program):List Hm->St->St->Prop
 |nil (st:St):A0q P [] st st
 |cons (eo:Hm) (l:List Hm) (st st':St) (δ :Co) (h:Wo P [] eo st δ) (hr:A0q P l (st.app δ) st'):A0q P (eo::l) st st'
 |join (B r:List Hm) (st:St) (δs:List Co) (st1 st':St) (pd:Nat) (v:Bool) (hB:Run P [] B st δs st1) (hq:∀eo∈B,eo.k.quiet=true) (hv:st1.get pd=.val (.bool v)) (hr:A0q P r (stJ st B pd v) st'):A0q P (B++r) st st'
theorem Bew{s:Nat} :∀ {l B r:List Hm} {pd:Nat},Auk s l=some (B,pd,r)->l=B++r/\∀eo∈B,eo.k.quiet=true:=by
 intro l
 induction l with
 |nil=>intro B r pd h;cases h
 |cons eo l ih=>
  intro B r pd h;unfold Auk at h;cases hq:eo.k.quiet with
  |false=>rw[hq]at h;cases h
  |true=>
   rw[hq]at h;cases hg:eo.g with
   |some g=>
    rw[hg]at h;simp only at h;cases hs:Auk s l with
    |none=>rw[hs]at h;cases h
    |some x=>
     obtain⟨B',pd',r'⟩:=x;rw[hs]at h;simp only[Option.some.injEq,Prod.mk.injEq]at h;obtain⟨rfl,rfl,rfl⟩:=h;obtain⟨e1,e2⟩:=ih hs;exact⟨by rw[e1];rfl,λe he=>by
      rcases List.mem_cons.1 he with rfl|h
      ·exact hq
      ·exact e2 e h⟩
   |none=>
    rw[hg]at h;simp only at h;split at h
    ·split at h
     ·simp only[Option.some.injEq,Prod.mk.injEq]at h;obtain⟨rfl,rfl,rfl⟩:=h;exact⟨rfl,λe he=>by simp at he;subst he;exact hq⟩
     ·cases h
    ·cases h
theorem Axj(hC:Dl P C)(hX:Qk P X):∀(n:Nat) (l:List Hm) (st st0:St) (k:St->Prop),(∀eo∈l,∀o',eo.k=.eY o'->∀cs b,o'.op≠ .select cs b)->Ql st st0->J3 P C X n l st k->
  ∃st1 st',A0q P l st0 st1/\Ql st' st1/\k st':=by
 intro n
 induction n with
 |zero=>
  intro l st st0 k hsel he h;cases l with
  |nil=>exact⟨st0,st,.nil _,he,h⟩
  |cons _ _=>exact h.elim
 |succ n ih=>
  intro l st st0 k hsel he h;cases l with
  |nil=>exact⟨st0,st,.nil _,he,h⟩
  |cons eo l=>
   have hsel1:=hsel eo (by simp);have hsel2:∀eo∈l,∀o',eo.k=.eY o'->∀cs b,o'.op≠ .select cs b:=λe hm=>hsel e (List.mem_cons_of_mem _ hm);have run1:∀(su:St),Ql su st0->Ba P C X [] eo.k eo.dst su (λδ =>J3 P C X n l (su.app δ) k)->
     ∃δ,Ba P (H0 P) (Hr P) [] eo.k eo.dst st0 (λδ'=> δ'= δ)/\∃st1 st',A0q P l (st0.app δ) st1/\Ql st' st1/\k st':=by
    intro su hu hs;obtain⟨δ,h1,h2⟩:=Asa hC hX _ _ _ _ hs;exact⟨δ,Aoy (hu.agree _ _ hsel1) (h2 (λδ'=> δ'= δ) rfl),ih _ _ _ _ hsel2 (hu.app δ) h1⟩
   simp only[J3]at h;cases hg:eo.g with
   |none=>
    rw[hg]at h;obtain⟨δ,h1,st1,st',h2,h3,h4⟩:=run1 st he h;exact⟨st1,st',.cons eo l st0 st1 δ (by unfold Wo;rw[hg];exact h1) h2,h3,h4⟩
   |some sw=>
    obtain⟨s,want⟩:=sw;rw[hg]at h;simp only at h;cases hq:st.get s with
    |val v=>
     rw[hq]at h;cases v with
     |bool t=>
      simp only at h;have hq0:st0.get s=.val (.bool t):=by rw[<-he.get,hq]
      have hu:Ql (st.put s (.val (.bool t))) st0:=(Bny hq).trans he;cases hsp:Auk s (eo::l) with
      |some x=>
       obtain⟨B,pd,r'⟩:=x;rw[hsp]at h;obtain⟨e1,e2⟩:=Bew hsp;simp only[jn]at h;have go:∀su,Ql su st0->So P C X [] B su (A0e pd (λb=>J3 P C X n r' (stJ st B pd b) k))->∃st1 st',A0q P (eo::l) st0 st1/\Ql st' st1/\k st':=by
        intro su hsu hs;have hselB:∀eo∈B,∀o',eo.k=.eY o'->∀cs b,o'.op≠ .select cs b:=λe hm=>hsel e (by rw[e1];exact List.mem_append_left _ hm);have hselr:∀eo∈r',∀o',eo.k=.eY o'->∀cs b,o'.op≠ .select cs b:=λe hm=>hsel e (by rw[e1];exact List.mem_append_right _ hm);obtain⟨δs,s1,s',h1,h2,h3⟩:=A7u hC hX B su st0 _ hselB hsu hs;unfold A0e at h3;split at h3
        ·rename_i b hb;obtain⟨st1,st',h4,h5,h6⟩:=ih r' (stJ st B pd b) (stJ st0 B pd b) k hselr (he.app _) h3;refine⟨st1,st',?_,h5,h6⟩;rw[e1];exact .join B r' st0 δs s1 st1 pd b h1 e2 (by rw[<-h2.get,hb]) h4
        ·exact h3.elim
       cases t<;>simp only[br]at h
       ·exact go _ hu h
       ·exact go _ hu h
      |none=>
       rw[hsp]at h;have skip:J3 P C X n l ((st.put s (.val (.bool t))).app (dput eo.dst (.bY []))) k->t≠want->
         ∃st1 st',A0q P (eo::l) st0 st1/\Ql st' st1/\k st':=by
        intro hs hne;obtain⟨st1,st',h2,h3,h4⟩:=ih _ _ (st0.app (dput eo.dst (.bY []))) _ hsel2 (hu.app _) hs;exact⟨st1,st',.cons eo l st0 st1 _ (by unfold Wo;rw[hg];exact .inl ⟨t,hq0,λe=>absurd e hne,λ_=>rfl⟩) h2,h3,h4⟩
       have take:Ba P C X [] eo.k eo.dst (st.put s (.val (.bool t))) (λδ =>J3 P C X n l ((st.put s (.val (.bool t))).app δ) k)->t=want->
         ∃st1 st',A0q P (eo::l) st0 st1/\Ql st' st1/\k st':=by
        intro hs heq;obtain⟨δ,h1,st1,st',h2,h3,h4⟩:=run1 _ hu hs;exact⟨st1,st',.cons eo l st0 st1 δ (by unfold Wo;rw[hg];exact .inl ⟨t,hq0,λ_=>h1,λe=>absurd heq e⟩) h2,h3,h4⟩
       cases t<;>cases want<;>simp only[br]at h<;>first|exact take h rfl|exact skip h (by decide)
     |_=>exact h.elim
    |bY l0=>
     rw[hq]at h;cases l0 with
     |nil=>
      have hq0:st0.get s=.bY []:=by rw[<-he.get,hq]
      obtain⟨st1,st',h2,h3,h4⟩:=ih _ _ (st0.app (dput eo.dst (.bY []))) _ hsel2 (he.app _) h;exact⟨st1,st',.cons eo l st0 st1 _ (by unfold Wo;rw[hg];exact .inr ⟨hq0,rfl⟩) h2,h3,h4⟩
     |cons _ _=>exact h.elim
    |_=>rw[hq]at h;exact h.elim
theorem Auh{os:Array Oper}{l:List Hm}{st':St}(hr:A0q P l st st'){Q:Exit->Act->World->Prop} :∀(i k:Nat),i+k=os.size->l.length<=k->
  (∀j eo,l[j]? =some eo->Bx2 P inl once nt os (i+j) eo)->∀(a:Act) (w:World) (M:T7) (β :Sk),SR cx w0 N nt st a w M β->
  (∀a' w' M' β',SR cx w0 N nt st' a' w' M' β'->wpOps P os Q (List.range' (i+l.length) (k-l.length)) a' w')->wpOps P os Q (List.range' i k) a w:=by
 induction hr with
 |nil st=>intro i k _ _ _ a w M β h hQ;exact hQ _ _ _ _ h
 |cons eo l st st' δ h1 _ ih=>
  intro i k hi hk hh a w M β h hQ;refine A8h (inl:=inl) (once:=once) (Run.cons eo [] st (st.app δ) δ [] h1 (.nil _)) i k hi (by simp at hk ⊢;omega) (λj e hj=>?_) a w M β h (λa' w' M' β' h'=>?_)
  ·cases j with
   |zero=>simp at hj;subst hj;exact hh 0 eo rfl
   |succ j=>simp at hj
  ·refine ih (i+1) (k-1) (by simp at hk;omega) (by simp at hk;omega) (λj e hj=>by have:=hh (j+1) e (by simpa using hj);rwa[show i+(j+1)=i+1+j by omega]at this) a' w' M' β' h' (λa' w' M' β' h'=>?_);have:=hQ a' w' M' β' h';simp only[List.length_cons]at this;rwa[show i+(l.length+1)=i+1+l.length by omega,show k-(l.length+1)=k-1-l.length by omega]at this
 |join B r st δs st1 st' pd v hB hq hv _ ih=>
  intro i k hi hk hh a w M β h hQ;simp only[List.length_append]at hk hQ;refine A8h (inl:=inl) (once:=once) hB i k hi (by omega) (λj e hj=>hh j e (by rw[List.getElem?_append_left (List.getElem?_eq_some_iff.1 hj).1];exact hj)) a w M β h (λa' w' M' β' h'=>?_);refine ih (i+B.length) (k-B.length) (by omega) (by omega) (λj e hj=>?_) a' w' M' β' (Bof hB hq hv h') (λa' w' M' β' h'=>?_)
  ·have:=hh (B.length+j) e (by rw[List.getElem?_append_right (by omega)];simpa using hj);rwa[show i+(B.length+j)=i+B.length+j by omega]at this
  ·have:=hQ a' w' M' β' h';rwa[show i+(B.length+r.length)=i+B.length+r.length by omega,show k-(B.length+r.length)=k-B.length-r.length by omega]at this
theorem Arg:∀(l:List Hm) (eo:Hm) (d:Nat),eo∈l->eo.k.makes=true->eo.dst=some d->d∈Aft l:=by
 intro l
 induction l with
 |nil=>intro eo d h;cases h
 |cons e l ih=>
  intro eo d hm hk hd;simp only[Aft];rcases List.mem_cons.1 hm with e1|e1
  ·subst e1;rw[hk,hd];simp
  ·have:=ih eo d e1 hk hd;cases h1:e.k.makes<;>cases h2:e.dst<;>simp only[h1,h2]<;>first|exact this|exact List.mem_cons_of_mem _ this
theorem Avt{a b:Nat} :∀ {ap:List (Nat×Nat)},Ajd a b ap=true->∃c d,(c,d)∈ap/\((a=c/\b=d)\/(a=d/\b=c))
 | [],h=>by simp[Ajd]at h
 |(c,d)::r,h=>by
  simp only[Ajd,Bool.or_eq_true,Bool.and_eq_true]at h;rcases h with(h|h)|h
  ·exact⟨c,d,by simp,.inl ⟨Cn h.1,Cn h.2⟩⟩
  ·exact⟨c,d,by simp,.inr ⟨Cn h.1,Cn h.2⟩⟩
  ·obtain⟨c',d',h1,h2⟩:=Avt h;exact⟨c',d',List.mem_cons_of_mem _ h1,h2⟩
theorem Avu(a b:Nat):∀(ap:List (Nat×Nat)),Ajd a b ap=Ajd b a ap
 | []=>rfl
 |(c,d)::r=>by
  simp only[Ajd,Avu a b r];cases Nat.beq a c<;>cases Nat.beq b d<;>cases Nat.beq a d<;>cases Nat.beq b c<;>rfl
theorem A3y(ap:List (Nat×Nat))(x y:Hm):Zx ap x y=Zx ap y x:=by
 unfold Zx;cases x.k.addr<;>cases y.k.addr<;>simp[Avu]
theorem Avc:∀ {ap:List (Nat×Nat)},An4 st ap=true->∀a b,(a,b)∈ap->∃d o d' o',st.get a=.loc d o/\st.get b=.loc d' o'/\d≠d'
 | [],_,_,_,h=>by cases h
 |(c,e)::r,h,a,b,hm=>by
  simp only[An4]at h;split at h
  ·rename_i d o d' o' h1 h2;cases hb:Nat.beq d d' with
   |true=>rw[hb]at h;cases h
   |false=>
    rw[hb]at h;rcases List.mem_cons.1 hm with e'|e'
    ·injection e' with e1 e2
     subst e1;subst e2
     exact⟨d,o,d',o',h1,h2,λe=>by subst e;simp at hb⟩
    ·exact Avc h a b e'
  ·cases h
theorem Ar0{a:Nat} :∀ {l:List Hm},S7 a l=true->∀e∈l,a∉e.writes
 | [],_,_,h=>by cases h
 |x::r,h,e,hm=>by
  simp only[S7]at h;cases hn:Ay a x.writes with
  |false=>rw[hn]at h;cases h
  |true=>
   rw[hn]at h;rcases List.mem_cons.1 hm with e'|e'
   ·subst e';exact(Bw _ _).1 hn
   ·exact Ar0 h e e'
theorem Alj{l:List Hm} :∀ {ap:List (Nat×Nat)},Ai4 l ap=true->∀a b,(a,b)∈ap->S7 a l=true/\S7 b l=true
 | [],_,_,_,h=>by cases h
 |(c,e)::r,h,a,b,hm=>by
  simp only[Ai4,Bool.and_eq_true]at h;rcases List.mem_cons.1 hm with e'|e'
  ·injection e' with e1 e2
   subst e1;subst e2
   exact h.1
  ·exact Alj h.2 a b e'
theorem Ae3:∀(δs:List Co) (m:Nat->Bool) (st:St),(Si δs m st).base=st.base:=by
 intro δs
 induction δs with
 |nil=>intro m st;rfl
 |cons δ r ih=>
  intro m st;simp only[Si];rw[ih];cases m 0<;>rfl
theorem A2k{d o b:Nat}(h:At (.loc d o) b):d=b:=by
 rcases h with⟨off,h⟩|⟨sz,i,off,h⟩
 ·injection h
 ·cases h
theorem Bfq{ap:List (Nat×Nat)}(hap:An4 st ap=true){os:Array Oper}{l:List Hm}{δs:List Co}{st':St}(hr:Run P ((Aft l).map (st.base+ ·)) l st δs st')(hco:Avh P inl once os os.toList=some l)(hds:Abp nt l=true)
  (hok0:Atr ap os.toList l=true){Q:Exit->Act->World->Prop}(hQ:∀a' w' M' β',SR cx w0 N nt st' a' w' M' β'->Q .normal a' w'):
  ∀(fuel:Nat) (listed:Array Bool),listed.size=os.size->((List.range os.size).filter λi=> !listed.getD i false).length=fuel->
   (∀(j:Nat) (o:Oper),os[j]? =some o->listed.getD j false=true->∀e∈Agn o,listed.getD e false=true)->
   ∀(a:Act) (w:World) (M:T7) (β :Sk),SR cx w0 N nt (Si δs (Rp listed) st) a w M β->wpAny P .any os Q fuel listed a w:=by
 simp only[Atr,Bool.and_eq_true]at hok0;obtain⟨hau,hok⟩:=hok0;obtain⟨hlen,hsp⟩:=Abn _ _ hco;have hlen': δs.length=os.size:=by rw[hr.length,hlen];simp
 have hll:l.length=os.size:=by rw[hlen];simp
 have hpair:∀i j,i<j->j<os.size->∀x y,l[i]? =some x->l[j]? =some y->Y8 ap (C6 l i) x (C6 l j) y=true->Reach os.toList j i:=by
  intro i j hij hj x y hx hy hc;have h1:=An6 hok j (by simpa using hj);simp only[Bool.and_eq_true]at h1;have h2:=An6 h1.1 i hij;simp only[Bnu,hx,hy,hc]at h2;exact Bjp os.toList os.toList [] (λk o hk=>by simpa using hk) (λj i hb=>by simp at hb) j i h2
 have hedge:∀j (o:Oper),os[j]? =some o->∀e∈Agn o,e<j:=by
  intro j o ho e he;have hj:j<os.size:=(Array.getElem?_eq_some_iff.1 ho).1;have h1:=An6 hok j (by simpa using hj);simp only[Bool.and_eq_true]at h1;have h2:=h1.2;rw[show os.toList[j]? =some o by simpa using ho]at h2;exact A0w j _ h2 e he
 intro fuel
 induction fuel with
 |zero=>
  intro listed hs hc hcl a w M β h;have hall:∀i,i<os.size->listed.getD i false=true:=by
   intro i hi;have h0:=List.eq_nil_of_length_eq_zero hc;cases hb:listed.getD i false with
   |true=>rfl
   |false=>
    have:i∈(List.range os.size).filter λi=> !listed.getD i false:=List.mem_filter.2 ⟨by simpa using hi,by simp[hb]⟩;rw[h0]at this;cases this
  have e:Si δs (Rp listed) st=st':=by
   rw[hr.last];exact Bk5 _ _ _ _ (λj hj=>hall j (by omega))
  rw[e]at h;refine⟨?_,hQ _ _ _ _ h⟩;apply List.eq_nil_iff_forall_not_mem.2;intro i hi;obtain⟨h1,o,ho,_⟩:=mem_ready.1 hi;have hio:i<os.size:=(Array.getElem?_eq_some_iff.1 ho).1;have:=hall i hio;rw[Array.getD_eq_getD_getElem?]at this h1;rw[Array.getElem?_eq_getElem (by omega)]at this h1;simp at this h1;rw[this]at h1;cases h1
 |succ fuel ih=>
  intro listed hs hc hcl a w M β h;refine⟨λhn=>?_,λi hi=>?_⟩
  ·
   exfalso;have hex:∃i,i<os.size/\listed.getD i false=false:=by
    have hne:((List.range os.size).filter λi=> !listed.getD i false)≠ []:=by intro e;rw[e]at hc;simp at hc
    obtain⟨i,hi⟩:=List.exists_mem_of_ne_nil _ hne;obtain⟨h1,h2⟩:=List.mem_filter.1 hi;exact⟨i,by simpa using h1,by simpa using h2⟩
   have least:∀n,(∃i,i<n/\i<os.size/\listed.getD i false=false)->∃i,i<os.size/\listed.getD i false=false/\∀j,j<i->listed.getD j false=true:=by
    intro n
    induction n with
    |zero=>rintro ⟨i,h1,_⟩;omega
    |succ n ihn=>
     rintro ⟨i,h1,h2,h3⟩
     by_cases hl:∃j,j<n/\j<os.size/\listed.getD j false=false
     ·exact ihn hl
     ·refine⟨i,h2,h3,λj hj=>?_⟩;cases hb:listed.getD j false with
      |true=>rfl
      |false=>exact absurd ⟨j,by omega,by omega,hb⟩ hl
   obtain⟨i0,hi0,hi0'⟩:=hex;obtain⟨i,h1,h2,h3⟩:=least os.size ⟨i0,hi0,hi0,hi0'⟩;have ho:os[i]? =some os[i]:=Array.getElem?_eq_getElem h1;have:i∈Region.ready .any os listed:=mem_ready.2 ⟨by
    rw[Array.getD_eq_getD_getElem?]at h2 ⊢;rw[Array.getElem?_eq_getElem (by omega)]at h2 ⊢;simpa using h2,_,ho,λe he hb=>h3 _ (hedge i _ ho _ (Bdj he hb))⟩
   rw[hn]at this;cases this
  ·obtain⟨h1,o,ho,hall⟩:=mem_ready.1 hi;have hio:i<os.size:=(Array.getElem?_eq_some_iff.1 ho).1;have hun:listed.getD i false=false:=by
    rw[Array.getD_eq_getD_getElem?]at h1 ⊢;rw[Array.getElem?_eq_getElem (by omega)]at h1 ⊢;simpa using h1
   have hdep:∀e∈Agn o,listed.getD e false=true:=λe he=>by
    obtain⟨ed,q1,q2,rfl⟩:=Bck he;exact hall ed q1 q2
   have reach:∀j k,Reach os.toList j k->listed.getD j false=true->listed.getD k false=true:=by
    intro j k hrk
    induction hrk with
    |one j o i ho hi=>intro hj;exact hcl j o (by simpa using ho) hj i hi
    |more j o e i ho he _ ih2=>intro hj;exact ih2 (hcl j o (by simpa using ho) hj e he)
   have reachI:∀k,Reach os.toList i k->listed.getD k false=true:=by
    intro k hrk;cases hrk with
    |one _ o' _ ho' hi'=>
     have:o'=o:=by rw[show os.toList[i]? =some o by simpa using ho]at ho';injection ho' with ho';exact ho'.symm
     subst this;exact hdep k hi'
    |more _ o' e _ ho' he' hr'=>
     have:o'=o:=by rw[show os.toList[i]? =some o by simpa using ho]at ho';injection ho' with ho';exact ho'.symm
     subst this;exact reach e k hr' (hdep e he')
   obtain⟨eo,g1,g2,g3,g4⟩:=hsp i o (by simpa using ho);have hd: δs[i]? =some (δs[i]'(by omega)):=List.getElem?_eq_getElem (by omega);have hos:=hr.at i eo _ g1 hd;have foot:∀(j:Nat) (δ :Co),δs[j]? =some δ->∃ej:Hm,l[j]? =some ej/\(∀s∈δ.s.map Prod.fst,s∈ej.writes)/\(∀b∈δ.o.map Prod.fst,Bjj ej.k ej.dst (Si δs (λi=>decide (i<j)) st) b):=by
    intro j δ hj;have hjl:j<l.length:=by have:=(List.getElem?_eq_some_iff.1 hj).1;omega
    have hej:l[j]? =some (l[j]):=List.getElem?_eq_getElem hjl;exact⟨_,hej,A42 (hr.at j _ δ hej hj)⟩
   have same:∀(j:Nat) (ej:Hm),l[j]? =some ej->(Y8 ap (C6 l j) ej (C6 l i) eo=true\/Y8 ap (C6 l i) eo (C6 l j) ej=true)->(j=i->False)->(decide (j<i))=Rp listed j:=by
    intro j ej hej hcl' hne;have hj:j<os.size:=by have:=(List.getElem?_eq_some_iff.1 hej).1;omega
    have hsym:Y8 ap (C6 l j) ej (C6 l i) eo=true/\Y8 ap (C6 l i) eo (C6 l j) ej=true:=by
     have e:Y8 ap (C6 l j) ej (C6 l i) eo=Y8 ap (C6 l i) eo (C6 l j) ej:=by
      have m:∀a b,Arh a b=Arh b a:=λa b=>by
       rw[Bool.eq_iff_iff,Ayk,Ayk];exact⟨λ⟨s,x,y⟩=>⟨s,y,x⟩,λ⟨s,x,y⟩=>⟨s,y,x⟩⟩
      simp only[Y8];rw[m ej.writes eo.reads,m ej.writes eo.writes,m ej.reads eo.writes,A3y ap ej eo,Bj1 (C6 l j) (C6 l i)];cases A3j (C6 l i) eo.k (C6 l j) ej.k<;>cases Arh eo.reads ej.writes<;>cases Arh eo.writes ej.writes<;>cases Arh eo.writes ej.reads<;>cases ej.k.dJ<;>cases eo.k.fG<;>cases ej.k.fG<;>cases eo.k.dJ<;>cases Zx ap eo ej<;>rfl
     rcases hcl' with h|h
     ·exact⟨h,by rw[<-e];exact h⟩
     ·exact⟨by rw[e];exact h,h⟩
    by_cases hlt:j<i
    ·have:=reachI j (hpair j i hlt hio _ _ hej g1 hsym.1);simp only[hlt,decide_true,Rp];exact this.symm
    ·have hne':j≠i:=hne;have hlt':i<j:=by omega
     have hR:=hpair i j hlt' hj _ _ g1 hej hsym.2;have:Rp listed j=false:=by
      cases hb:Rp listed j with
      |false=>rfl
      |true=>have:=reach j i hR hb;rw[hun]at this;cases this
     simp only[hlt,decide_false];exact this.symm
   have atI:(decide (i<i))=Rp listed i:=by simp only[Nat.lt_irrefl,decide_false,Rp];exact hun.symm
   have clashW:∀(j:Nat) (ej:Hm) (s:Nat),s∈ej.writes->s∈eo.reads->Y8 ap (C6 l j) ej (C6 l i) eo=true:=λj ej s h1 h2=>by
    cases hc':Y8 ap (C6 l j) ej (C6 l i) eo with
    |true=>rfl
    |false=>exact absurd h2 ((Uu hc').1 s h1)
   have hget:∀s,s∈eo.reads->(Si δs (Rp listed) st).get s=(Si δs (λj=>decide (j<i)) st).get s:=by
    intro s hs;refine Bbf _ _ _ _ _ s rfl (λj δ hj hsj=>?_);obtain⟨ej,hej,f1,_⟩:=foot j δ hj;by_cases e:j=i
    ·subst e;exact atI.symm
    ·exact(same j ej hej (.inl (clashW j ej s (f1 s hsj) hs)) e).symm
   have hopd:∀x∈eo.k.cK,(Si δs (Rp listed) st).aT x=(Si δs (λj=>decide (j<i)) st).aT x:=by
    intro x hx;cases x with
    |tmp t=>exact hget t (Bkl hx rfl)
    |_=>rfl
   have noFreed2:∀(i:Nat) (eo:Hm) (j:Nat) (ej:Hm) (b:Nat),l[i]? =some eo->l[j]? =some ej->Zx ap ej eo=true->(∀a,ej.k.addr=some a->At ((Si δs (λi=>decide (i<j)) st).get a) b)->
     (∀a,eo.k.addr=some a->At ((Si δs (λj=>decide (j<i)) st).get a) b)->False:=by
    intro i eo j ej b _ hej hf h1 h2;unfold Zx at hf;cases ha1:ej.k.addr with
    |none=>rw[ha1]at hf;cases hf
    |some a1=>
     cases ha2:eo.k.addr with
     |none=>rw[ha1,ha2]at hf;cases hf
     |some a2=>
      rw[ha1,ha2]at hf;obtain⟨c,d,hm,hcd⟩:=Avt hf;obtain⟨d1,o1,d2,o2,e1,e2,hne⟩:=Avc hap c d hm;obtain⟨u1,u2⟩:=Alj hau c d hm;have keepS:∀(m:Nat->Bool) (s:Nat),S7 s l=true->(Si δs m st).get s=st.get s:=by
       intro m s hu;have:(Si δs m st).get s=(Si δs (λ_=>false) st).get s:=Bbf _ _ _ _ _ s rfl (λk δ hk hs=>by
        obtain⟨ek,hek,f1,_⟩:=foot k δ hk;exact absurd (f1 s hs) (Ar0 hu ek (List.mem_of_getElem? hek)))
       rw[this,Aru _ _ _ (λ_ _=>rfl)]
      have q1:=h1 a1 ha1;have q2:=h2 a2 ha2;rcases hcd with⟨rfl,rfl⟩|⟨rfl,rfl⟩
      ·rw[keepS _ _ u1,e1]at q1;rw[keepS _ _ u2,e2]at q2;exact hne ((A2k q1).trans (A2k q2).symm)
      ·rw[keepS _ _ u2,e2]at q1;rw[keepS _ _ u1,e1]at q2;exact hne ((A2k q2).trans (A2k q1).symm)
   have noFreed:∀(j:Nat) (ej:Hm) (b:Nat),l[j]? =some ej->Zx ap ej eo=true->(∀a,ej.k.addr=some a->At ((Si δs (λi=>decide (i<j)) st).get a) b)->
     (∀a,eo.k.addr=some a->At ((Si δs (λj=>decide (j<i)) st).get a) b)->False:=λj ej b=>noFreed2 i eo j ej b g1
   have hvob:eo.k.isLoad=true->∀b,Ay b ((Aft l).map (st.base+ ·))=true->(∀a,eo.k.addr=some a->At ((Si δs (λj=>decide (j<i)) st).get a) b)->(Si δs (Rp listed) st).vobj b=(Si δs (λj=>decide (j<i)) st).vobj b:=by
    intro hl b hb hta;have touch:∀(j:Nat) (δ :Co),δs[j]? =some δ->b∈δ.o.map Prod.fst->∃ej,l[j]? =some ej/\ej.k.dJ=true/\∀a,ej.k.addr=some a->At ((Si δs (λi=>decide (i<j)) st).get a) b:=by
     intro j δ hj hbj;obtain⟨ej,hej,_,f2⟩:=foot j δ hj;rcases f2 b hbj with f|⟨f,fs,fd,fb⟩
     ·exact⟨ej,hej,f⟩
     ·exfalso;rw[Bw]at hb;rw[Ae3]at fb;exact hb (List.mem_map.2 ⟨fs,Arg l ej fs (List.mem_of_getElem? hej) f fd,fb.symm⟩)
    have nofresh:∀(j:Nat) (δ :Co),δs[j]? =some δ->b∈δ.o.map Prod.fst->C6 l j=false:=by
     intro j δ hj hbj;obtain⟨ej,hej,hst,hat⟩:=touch j δ hj hbj;cases hf:C6 l j with
     |false=>rfl
     |true=>
      exfalso;unfold C6 at hf;rw[hej]at hf;simp only[Bool.and_eq_true]at hf;obtain⟨_,hf⟩:=hf;cases ha:ej.k.addr with
      |none=>rw[ha]at hf;cases hf
      |some a=>
       rw[ha]at hf;simp only[Bool.not_eq_true']at hf;obtain⟨k,hk,hkk⟩:=Bb8 hf;simp only[Bool.not_eq_false']at hkk;have hkl:k<l.length:=by have:=(List.getElem?_eq_some_iff.1 hej).1;omega
       have hek:l[k]? =some l[k]:=List.getElem?_eq_getElem hkl;rw[hek]at hkk;simp only[Bool.and_eq_true]at hkk;obtain⟨m1,m2⟩:=hkk;have hdk: δs[k]? =some (δs[k]'(by omega)):=List.getElem?_eq_getElem (by omega);obtain⟨n1,n2⟩:=Bnt (hr.at k _ _ hek hdk) m1;rw[Ae3]at n2;have hg:=Bog δs (λi=>decide (i<j)) st k _ a hdk (decide_eq_true hk) n1 (λj' δ' hne hδ' hin=>by
        obtain⟨e',he',f1,_⟩:=foot j' δ' hδ';have:=An6 m2 j' ((List.getElem?_eq_some_iff.1 he').1);rw[he']at this;simp only[Bool.or_eq_true]at this;rcases this with h1|h1
        ·exact hne (Cn h1)
        ·rw[Bw]at h1;exact h1 (f1 a hin))
       have:=hat a ha;rw[hg,n2]at this;have hbb:=A2k this;rw[Bw]at hb;refine hb (List.mem_map.2 ⟨a,Arg l l[k] a (List.getElem_mem hkl) ?_ ?_,hbb⟩)
       ·cases hq:l[k].k<;>simp only[Hm.mkAt,hq]at m1<;>first|rfl|cases m1
       ·unfold Hm.mkAt at m1;split at m1
        ·rename_i hd;rw[hd,Cn m1]
        ·rename_i hd;rw[hd,Cn m1]
        ·cases m1
    let T:Nat->Bool:=λj=>match l[j]? with|some e=>e.k.fD|none=>false
    have hT:∀(k:Nat) (δ :Co),T k=true->δs[k]? =some δ->b∈δ.o.map Prod.fst->(Dn [] δ.o b).map PV.view=(Si δs (λj=>decide (j<k)) st).vobj b:=by
     intro k δ hk hδ hbk;obtain⟨ek,hek,_,_⟩:=foot k δ hδ;have hk':ek.k.fD=true:=by simp only[T,hek]at hk;exact hk
     exact Bgn (hr.at k ek δ hek hδ) hk' b hbk
    have bound:∀(m:Nat->Bool) (k:Nat),m k=true->(δs[k]?).isSome=true->k<δs.length:=by
     intro m k _ h;cases hq: δs[k]? with
     |none=>rw[hq]at h;cases h
     |some _=>exact(List.getElem?_eq_some_iff.1 hq).1
    have c1:=A8n T hT δs.length (Rp listed) (bound _) (λk j δ δ' hTk hmk hδ hbk hTj hδ' hbj hjk=>by
     obtain⟨ek,hek,hsk,hak⟩:=touch k δ hδ hbk;obtain⟨ej,hej,hsj,haj⟩:=touch j δ' hδ' hbj;have hks:k<os.size:=by have:=(List.getElem?_eq_some_iff.1 hek).1;omega
     cases hc':Y8 ap (C6 l j) ej (C6 l k) ek with
     |true=>exact reach k j (hpair j k hjk hks _ _ hej hek hc') hmk
     |false=>
      exfalso;obtain⟨_,_,_,q1,_⟩:=Uu hc';have hfr:=Aeo (q1 hsj (Arv hsk)) (Ji hsj) (Ji hsk);exact noFreed2 k ek j ej b hek hej hfr haj hak)
    have c2:=A8n T hT δs.length (λj=>decide (j<i)) (bound _) (λk j δ δ' hTk hmk hδ hbk hTj hδ' hbj hjk=>by
     have:=of_decide_eq_true hmk;exact decide_eq_true (by omega))
    rw[c1,c2];unfold St.vobj;rw[Awq δs (λj=>Rp listed j && !T j) (λj=>decide (j<i) && !T j) st st b rfl (λj δ hj hbj=>?_)];cases hTj:T j with
    |true=>simp
    |false=>
     simp only[Bool.not_false,Bool.and_true];obtain⟨ej,hej,hsj,haj⟩:=touch j δ hj hbj;by_cases e:j=i
     ·subst e;exact atI.symm
     ·refine(same j ej hej ?_ e).symm;cases hc':Y8 ap (C6 l j) ej (C6 l i) eo with
      |true=>exact .inl rfl
      |false=>
       exfalso;obtain⟨_,_,_,q1,_⟩:=Uu hc';have hh:eo.k.fG=true:=by cases hk:eo.k<;>rw[hk]at hl<;>first|rfl|cases hl
       rcases q1 hsj hh with hq|hq
       ·exact noFreed j ej b hej hq haj hta
       ·have hnf:=nofresh j δ hj hbj;have hnt:ej.k.fD=false:=by simp only[T,hej]at hTj;exact hTj
        have hnl:=Ji hsj;rw[hnf]at hq;simp[A3j,hnt,hnl]at hq
   have hobj:eo.k.fG=true->eo.k.isLoad=false->∀b,(eo.k.dJ=true\/Ay b ((Aft l).map (st.base+ ·))=true)->(∀a,eo.k.addr=some a->At ((Si δs (λj=>decide (j<i)) st).get a) b)->(Si δs (Rp listed) st).obj b=(Si δs (λj=>decide (j<i)) st).obj b:=by
    intro hh hnl b hb hta;refine Awq _ _ _ _ _ b rfl (λj δ hj hbj=>?_);obtain⟨ej,hej,_,f2⟩:=foot j δ hj;by_cases e:j=i
    ·subst e;exact atI.symm
    ·refine(same j ej hej ?_ e).symm;cases hc':Y8 ap (C6 l j) ej (C6 l i) eo with
     |true=>exact .inl rfl
     |false=>
      exfalso;obtain⟨_,_,_,q1,q2⟩:=Uu hc';rcases f2 b hbj with f|⟨f,fs,fd,fb⟩
      ·exact noFreed j ej b hej (Aeo (q1 f.1 hh) (Ji f.1) hnl) f.2 hta
      ·rcases hb with hb|hb
       ·have:=Aeo (q2 (Aet f) hb) (j7 f) hnl;unfold Zx at this;have hn:ej.k.addr=none:=by cases hk:ej.k<;>rw[hk]at f<;>first|rfl|cases f
        rw[hn]at this;cases this
       ·rw[Bw]at hb;rw[Ae3]at fb;exact hb (List.mem_map.2 ⟨fs,Arg l ej fs (List.mem_of_getElem? hej) f fd,fb.symm⟩)
   have hkey:eo.k.makes=true->∀s,eo.dst=some s->Ay ((Si δs (λj=>decide (j<i)) st).base+s) ((Si δs (λj=>decide (j<i)) st).ob.map Prod.fst)=true->Ay ((Si δs (λj=>decide (j<i)) st).base+s) ((Si δs (Rp listed) st).ob.map Prod.fst)=true:=by
    intro hk s hs hn;rw[Ae3]at hn ⊢;rw[Bjc δs (Rp listed) (λj=>decide (j<i)) st st (st.base+s) rfl (λj δ hj hbj=>?_)]
    ·exact hn
    ·obtain⟨ej,hej,_,f2⟩:=foot j δ hj;by_cases e:j=i
     ·subst e;exact atI.symm
     ·refine(same j ej hej ?_ e).symm;cases hc':Y8 ap (C6 l j) ej (C6 l i) eo with
      |true=>exact .inl rfl
      |false=>
       exfalso;obtain⟨_,w2,_,q1,q2⟩:=Uu hc';rcases f2 (st.base+s) hbj with f|⟨f,fs,fd,fb⟩
       ·have:=Aeo (q1 f.1 (Aet hk)) (Ji f.1) (j7 hk);unfold Zx at this;have hn:eo.k.addr=none:=by cases hk':eo.k<;>rw[hk']at hk<;>first|rfl|cases hk
        rw[hn]at this;cases hz:ej.k.addr<;>rw[hz]at this<;>cases this
       ·rw[Ae3]at fb;have e':s=fs:=by omega
        refine w2 s ?_ ?_
        ·simp[Hm.writes,fd,e']
        ·simp[Hm.writes,hs]
   have hwild:eo.k.gQ=true->(∀b,(Si δs (Rp listed) st).obj b=(Si δs (λj=>decide (j<i)) st).obj b)/\∀b,Ay b ((Si δs (Rp listed) st).ob.map Prod.fst)=Ay b ((Si δs (λj=>decide (j<i)) st).ob.map Prod.fst):=by
    intro hw;have hst:eo.k.dJ=true:=by cases hk:eo.k<;>rw[hk]at hw<;>first|rfl|cases hw
    have had:eo.k.addr=none:=by cases hk:eo.k<;>rw[hk]at hw<;>first|rfl|cases hw
    have cl:∀(j:Nat) (δ :Co) (b:Nat),δs[j]? =some δ->b∈δ.o.map Prod.fst->Rp listed j=decide (j<i):=by
     intro j δ b hj hbj;obtain⟨ej,hej,_,f2⟩:=foot j δ hj;by_cases e:j=i
     ·subst e;exact atI.symm
     ·refine(same j ej hej ?_ e).symm;cases hc':Y8 ap (C6 l j) ej (C6 l i) eo with
      |true=>exact .inl rfl
      |false=>
       exfalso;obtain⟨_,_,_,q1,q2⟩:=Uu hc';have hh:ej.k.fG=true/\ej.k.isLoad=false:=by
        rcases f2 b hbj with f|⟨f,_⟩
        ·exact⟨Arv f.1,Ji f.1⟩
        ·exact⟨Aet f,j7 f⟩
       have:=Aeo (q2 hh.1 hst) hh.2 (Be8 hw);unfold Zx at this;rw[had]at this;cases hz:ej.k.addr<;>rw[hz]at this<;>cases this
    exact⟨λb=>Awq _ _ _ _ _ b rfl (λj δ hj hbj=>cl j δ b hj hbj),λb=>Bjc _ _ _ _ _ b rfl (λj δ hj hbj=>cl j δ b hj hbj)⟩
   have hos':Wo P ((Aft l).map (st.base+ ·)) eo (Si δs (Rp listed) st) (δs[i]'(by omega)):=by
    have hA:Bli ((Aft l).map (st.base+ ·)) eo.k eo.dst (Si δs (λj=>decide (j<i)) st) (Si δs (Rp listed) st):=⟨hopd,hobj,hvob,hkey,A9f g2,by rw[Ae3,Ae3],hwild⟩;unfold Wo at hos ⊢;cases hg:eo.g with
    |none=>rw[hg]at hos;exact Aoy hA hos
    |some sw=>
     obtain⟨s,want⟩:=sw;rw[hg]at hos;rcases hos with⟨t,q1,q2,q3⟩|⟨q1,q3⟩
     ·exact .inl ⟨t,by rw[hget s (by simp[Hm.reads,hg])];exact q1,λe=>Aoy hA (q2 e),q3⟩
     ·exact .inr ⟨by rw[hget s (by simp[Hm.reads,hg])];exact q1,q3⟩
   have hdst:∀x,o.dst=some x->x<nt:=λx hx=>Aq8 l hds eo (List.mem_of_getElem? g1) x (by rw[g3];exact hx);have hset:∀j,(listed.setIfInBounds i true).getD j false=if j=i then true else listed.getD j false:=by
    intro j;rw[Array.getD_eq_getD_getElem?,Array.getD_eq_getD_getElem?,Array.getElem?_setIfInBounds];by_cases e:i=j
    ·subst e;simp[hs,hio]
    ·rw[if_neg e,if_neg (λe'=>e e'.symm)]
   have key:=A0j (os:=os) (K:=wpAny P .any os Q fuel (listed.setIfInBounds i true)) (Q:=Q) h hos' g2 g3 g4 hdst (λa' w' M' β' h'=>by
    refine ih _ (by simp[hs]) ?_ ?_ a' w' M' β' (h'.equiv ?_)
    ·have hmem:i∈List.range os.size:=by simpa using hio
     have e1:((List.range os.size).filter λj=> !(listed.setIfInBounds i true).getD j false)=((List.range os.size).filter λj=> !listed.getD j false).filter λj=>decide (j≠i):=by
      rw[List.filter_filter];apply List.filter_congr;intro j _;rw[hset];by_cases e:j=i
      ·simp[e]
      ·simp[e]
     rw[e1];have e2:((List.range os.size).filter λj=> !listed.getD j false).filter (λj=>decide (j≠i))=((List.range os.size).filter λj=> !listed.getD j false).erase i:=by
      rw[List.Nodup.erase_eq_filter (List.Pairwise.filter _ List.nodup_range)];apply List.filter_congr;intro j _;by_cases e:j=i<;>simp[e]
     rw[e2,List.length_erase_of_mem (List.mem_filter.2 ⟨hmem,by simp[hun]⟩),hc];rfl
    ·intro j oj hoj hj e he;rw[hset]at hj ⊢;by_cases e1:e=i
     ·rw[if_pos e1]
     ·rw[if_neg e1];by_cases e2:j=i
      ·subst e2;rw[ho]at hoj;injection hoj with hoj;subst hoj
       exact hdep e he
      ·rw[if_neg e2]at hj;exact hcl j oj hoj hj e he
    ·have:=Boh δs (Rp listed) i st _ hd hun (λj δ' hj hm hδ'=>by
      obtain⟨ej,hej,f1,f2⟩:=foot j δ' hδ';obtain⟨ei,hei,f3,f4⟩:=foot i _ hd;have:ei=eo:=by rw[g1]at hei;injection hei with hei;exact hei.symm
      subst this;have hjs:j<os.size:=by have:=(List.getElem?_eq_some_iff.1 hej).1;omega
      have nc:Y8 ap (C6 l i) ei (C6 l j) ej=false:=by
       cases hc':Y8 ap (C6 l i) ei (C6 l j) ej with
       |false=>rfl
       |true=>
        have:=reach j i (hpair i j hj hjs _ _ g1 hej hc') hm;rw[hun]at this;cases this
      obtain⟨_,w2,_,q1,q2⟩:=Uu nc;refine⟨λs hs'=>λhs2=>w2 s (f3 s hs') (f1 s hs2),λb hb hb2=>?_⟩;rcases f4 b hb with f|⟨f,fs,fd,fb⟩
      ·rcases f2 b hb2 with f'|⟨f',fs',fd',fb'⟩
       ·have:=Aeo (q1 f.1 (Arv f'.1)) (Ji f.1) (Ji f'.1);rw[A3y]at this;exact noFreed j ej b hej this f'.2 f.2
       ·have:=Aeo (q1 f.1 (Aet f')) (Ji f.1) (j7 f');unfold Zx at this;have hn:ej.k.addr=none:=by cases hk:ej.k<;>rw[hk]at f'<;>first|rfl|cases f'
        rw[hn]at this;cases hz:ei.k.addr<;>rw[hz]at this<;>cases this
      ·rcases f2 b hb2 with f'|⟨f',fs',fd',fb'⟩
       ·have:=Aeo (q2 (Aet f) f'.1) (j7 f) (Ji f'.1);unfold Zx at this;have hn:ei.k.addr=none:=by cases hk:ei.k<;>rw[hk]at f<;>first|rfl|cases f
        rw[hn]at this;cases this
       ·rw[Ae3]at fb fb';have e':fs'=fs:=by omega
        exact w2 fs (by simp[Hm.writes,fd]) (by simp[Hm.writes,fd',e']))
     have e:(λj=>if j=i then true else Rp listed j)=Rp (listed.setIfInBounds i true):=funext λj=>by
      simp only[Rp];rw[hset]
     rw[e]at this;exact this.symm)
   unfold wpOp;simp only[ho];by_cases hw:Region.wanted o (yielded os a.tmps)=true
   ·rw[if_pos hw]at key ⊢;exact .inl key
   ·rw[if_neg hw]at key ⊢;exact key
end
end Go.Proofs.YthjhkpgonleelaaGreatDoor.Ev
namespace Go.Proofs.YthjhkpgonleelaaGreatDoor.Ev
open Go Go.RowKit
theorem W4{f:PV->Bool} :∀ {l:List PV},Bb5 f l=true->∀p∈l,f p=true
 | [],_,p,h=>by cases h
 |q::l,h,p,hp=>by
  simp only[Bb5]at h;cases hq:f q with
  |false=>rw[hq]at h;cases h
  |true=>
   rw[hq]at h;rcases List.mem_cons.1 hp with rfl|hp
   ·exact hq
   ·exact W4 h p hp
theorem Az5{p:PV}(h:p.gK=true):p.flat=true:=by
 cases p<;>first|rfl|cases h
theorem Atq{p:PV}(h:p.gK=true):∀s,p.sv=some s->s.own=false:=by
 intro s hs;cases p with
 |bA own x=>
  cases own with
  |false=>injection hs with hs;subst hs;rfl
  |true=>cases h
 |sl own e sz es=>cases h
 |_=>cases hs
theorem Ayp:∀ {l:List PV},okC l=true->plain l=true
 | [],_=>rfl
 |p::l,h=>by
  have h1:=W4 h p (by simp);have h2:okC l=true:=by
   simp only[okC,Bb5,h1]at h;exact h
  have h3:=Ayp h2;cases p<;>first|exact h3|cases h1
section
variable {w w':World} {M M':T7} {β β':Sk} {B B':Nat->Prop}
theorem B2.iA{p:PV}{v:Value}(h:B2 w M β B p v)(hf:p.iA=true):B2 w M β' B' p v:=by
 cases p with
 |agg l=>
  cases h with
  |row p s hs=>cases hs
  |agg l cs hl h1 hr=>
   exact .agg l cs hl h1 λi p v hp hv=>(hr i p v hp hv).flat (W4 hf p (List.mem_of_getElem? hp))
 |_=>exact h.flat hf
theorem B2.fx{p:PV}{v:Value}(h:B2 w M β B p v)(hf:p.fx=true):B2 w M β' B' p v:=by
 cases p with
 |bY l=>
  cases h with
  |row p s hs=>cases hs
  |bY l cs hl hr=>
   exact .bY l cs hl λi p v hp hv=>(hr i p v hp hv).iA (W4 hf p (List.mem_of_getElem? hp))
 |_=>exact h.iA hf
theorem B2.cross{p:PV}{v:Value}(h:B2 w M β B p v):B2 w M β' B' p.cross v:=by
 cases p with
 |agg l=>
  cases h with
  |row p s hs=>cases hs
  |agg l cs hl h1 hr=>
   refine .agg _ cs (by rw[List.length_map,hl]) h1 (λi q u hq hu=>?_);rw[List.getElem?_map]at hq;obtain⟨p,hp,rfl⟩:=Option.map_eq_some_iff.1 hq;exact(hr i p u hp hu).pure0
 |_=>exact h.pure0
end
theorem Nm.cellsOf{w w':World}{M M':T7}{β β':Sk}{B B':Nat->Prop}{b n n':Nat}{l:List PV}(h:Nm w M β B b n l)(hf:∀p∈l,p.flat=true)(hp:plain l=true)(hh:w'.heap[b]? =w.heap[b]?)
  (hR:∀p v,p.flat=true->B2 w M β B p v->B2 w' M' β' B' p v):Nm w' M' β' B' b n' l:=by
 obtain⟨cs,t,q1,q2,q3⟩:=Rz h hp;exact .cells l cs t (by rw[hh];exact q1) q2 (λi p v hp hv=>⟨hR _ _ (hf p (List.mem_of_getElem? hp)) (q3 i p v hp hv).1,(q3 i p v hp hv).2⟩)
theorem Bf4{P:Program}{f:Nat}{cells cells':List PV}{ps:List PV}{r:PV}{o':List (Nat×List PV)}(hI:O9 P f (.loc 0 0::ps.map PV.cross) [(0,cells)] r o')(hlo:Dn [] (o'++ [(0,cells)]) 0=cells')
  (hcc:okC cells=true)(hcc':okC cells'=true)(hr':r.fx=true)
  (d:Nat)(ob:List (Nat×List PV))(hd:Dn [] ob d=cells)(hdk:Ay d (ob.map Prod.fst)=false):O9 P f (.loc d 0::ps) ob r [(d,cells')]:=by
 have hc:∀p∈cells,p.flat=true:=λp h=>Az5 (W4 hcc p h);have ho:∀p∈cells,∀s,p.sv=some s->s.own=false:=λp h=>Atq (W4 hcc p h);have hp:=Ayp hcc;have hc':∀p∈cells',p.flat=true:=λp h=>Az5 (W4 hcc' p h);have ho':∀p∈cells',∀s,p.sv=some s->s.own=false:=λp h=>Atq (W4 hcc' p h);have hp':=Ayp hcc';intro κ H w0 w N M β O D vs hO hD hS hl hr
 match vs,hl with
 |v0::vs,hl=>
 obtain⟨bd,n,hβ,hv0⟩:=Ako (hr 0 _ v0 rfl rfl);subst hv0;obtain⟨hb1,hb2,hb3⟩:=hS.box d bd n hβ;have hbw:bd<w.heap.size:=hS.mlt bd 0 hb2;rw[hO,hd]at hb3
 let B':Gs:=⟨w,λb=>b<w.heap.size/\b≠bd,λb h=>h.1⟩
 let β0:Sk:=λx=>if x=0 then some (bd,n)else none
 have hβ0:∀x b m,β0 x=some (b,m)->x=0/\b=bd/\m=n:=λx b m h=>by
  simp only[β0]at h;by_cases e:x=0
  ·rw[if_pos e]at h;injection h with h;injection h with h1 h2;exact⟨e,h1.symm,h2.symm⟩
  ·rw[if_neg e]at h;cases h
 have hnoown:∀(key:W2 Unit) s v,¬Own (λ_:Unit=>(PV.loc 0 0,Value.pointer (some ⟨bd,0,none⟩))) (Dn [] [(0,cells)]) w β0 key s v:=by
  intro key s v h;cases key with
  |slot k=>cases h.1
  |cell x i=>
   obtain⟨b,m,p,h1,h2,h3,h4,_⟩:=h;obtain⟨rfl,_,_⟩:=hβ0 x b m h1;have:Dn [] [(0,cells)] 0=cells:=rfl;rw[this]at h2;rw[ho p (List.mem_of_getElem? h2) s h3]at h4;cases h4
 have S0:SH (λ_:Unit=>(PV.loc 0 0,Value.pointer (some ⟨bd,0,none⟩))) B' M (Dn [] [(0,cells)]) (λx=>Ay x ([(0,cells)].map Prod.fst)) w M β0:=by
  refine⟨Bel.of w B' rfl,⟨λ_ _=>rfl,hS.mN.gl.to hS.dR hS.mN.eq B' rfl λb hb=>⟨hS.dR.lt hb,λe=>hb1 (by rw[<-e];exact hb)⟩⟩,hS.mlt,λx b m hx=>?_,λx y b m m' hx hy=>?_,λx hx=>?_,λ_=>.loc 0 0 bd n (if_pos rfl),λkey s v h=>absurd h (hnoown key s v),λkey _ s _ v _ _ h=>absurd h (hnoown key s v),λkey s v _ _ _ h=>absurd h (hnoown key s v)⟩
  ·obtain⟨rfl,rfl,rfl⟩:=hβ0 x b m hx;exact⟨λh=>h.2 rfl,hb2,hb3.cellsOf hc hp rfl (λp v hf h=>h.flat hf)⟩
  ·rw[(hβ0 x b m hx).1,(hβ0 y b m' hy).1]
  ·simp only[β0];by_cases e:x=0
   ·subst e;simp[Ay]at hx
   ·rw[if_neg e]
 refine Calls.mono (hI _ B' w M M β0 _ _ (.pointer (some ⟨bd,0,none⟩)::vs) (λ_=>rfl) (λ_=>rfl) S0 (by simpa using hl) (λi p v h1 h2=>?_)) ?_
 ·cases i with
  |zero=>injection h1 with h1;injection h2 with h2;subst h1;subst h2;exact .loc 0 0 bd n (if_pos rfl)
  |succ i=>
   have h1:(ps.map PV.cross)[i]? =some p:=h1;rw[List.getElem?_map]at h1;obtain⟨q,hq,rfl⟩:=Option.map_eq_some_iff.1 h1;exact(hr (i+1) q v hq h2).cross
 rintro e w' ⟨v,M',β',rfl,S1⟩
 obtain⟨b2,n2,hb',hv2⟩:=Ako (S1.reg (some ()));have hbb:b2=bd:=by injection hv2 with hv2;injection hv2 with hv2;injection hv2 with hv2;exact hv2.symm
 subst hbb;have hMM:∀b,b<w.heap.size->M' b=M b:=λb hb=>by
  by_cases e:b=b2
  ·subst e;rw[hb2];exact(S1.box 0 b n2 hb').2.1
  ·exact S1.mN b ⟨hb,e⟩
 have hhh:∀b,b<w.heap.size->b≠b2->w'.heap[b]? =w.heap[b]? :=λb hb e=>S1.dR.block b ⟨hb,e⟩;have hwr:∀b,w0.old b->b<w.heap.size/\b≠b2:=λb hb=>⟨hS.dR.lt hb,λe=>hb1 (by rw[<-e];exact hb)⟩;have hE:Ext w M w' M':=λx u hi hx=>by
  have hxl:=Ai6 hx;have hne:x.block≠b2:=λe=>by have:=hi 0 (by rw[e];exact hb2);omega
  exact⟨λm hm=>hi m (by rw[<-hMM _ hxl];exact hm),by rw[World.cell?_of_block (w:=w) (hhh _ hxl hne)];exact hx⟩
 have hR:∀p u,B2 w M β w0.old p u->B2 w' M' β w0.old p u:=λp u h=>h.ext hE (λx hx=>World.cell?_of_block (w:=w) (hhh _ (hwr _ hx).1 (hwr _ hx).2)) (λ_ _ h=>h);have hO1:Dn [] ([(d,cells')]++ob) d=cells':=by simp[Dn]
 have hO2:∀x,x≠d->Dn [] ([(d,cells')]++ob) x=O x:=λx hx=>by
  rw[hO];have:Nat.beq d x=false:=by
   cases hb:Nat.beq d x with
   |false=>rfl
   |true=>exact absurd (Nat.eq_of_beq_eq_true hb).symm hx
  simp[Dn,this]
 have hOwn:∀key s u,Own H (Dn [] ([(d,cells')]++ob)) w' β key s u->Own H O w β key s u:=by
  intro key s u h;cases key with
  |slot k=>exact h
  |cell x i=>
   obtain⟨b,m,p,h1,h2,h3,h4,h5⟩:=h;by_cases e:x=d
   ·subst e;rw[hO1]at h2;rw[ho' p (List.mem_of_getElem? h2) s h3]at h4;cases h4
   ·rw[hO2 x e]at h2;have hbl:=hS.mlt b 0 (hS.box x b m h1).2.1;have hne:b≠b2:=λe'=>e (hS.inj x d b m n h1 (by rw[e'];exact hβ));exact⟨b,m,p,h1,h2,h3,h4,by rw[<-World.cell?_of_block (w:=w) (a:=⟨b,i,none⟩) (hhh b hbl hne)];exact h5⟩
 have htk:∀key s u,Own H O w β key s u->∀g,tb u=some g->g<w.heap.size/\g≠b2:=λkey s u h g hg=>by
  obtain⟨_,k,hk⟩:=(hS.tok key s u h).lt hg;exact⟨hS.mlt g k hk,λe=>hS.dK key s u g d n h hg (by rw[e];exact hβ)⟩
 have SB:SH H w0 N (Dn [] ([(d,cells')]++ob)) (λx=>Ay x (([(d,cells')]++ob).map Prod.fst)) w' M' β :=by
  refine⟨⟨S1.dR.os.trans hS.dR.os,S1.dR.tape.trans hS.dR.tape,S1.dR.output.trans hS.dR.output,Nat.le_trans hS.dR.size S1.dR.size,λb hb=>(hhh b (hwr b hb).1 (hwr b hb).2).trans (hS.dR.block b hb)⟩,
   ⟨λb hb=>(hMM b (hwr b hb).1).trans (hS.mN b hb),hS.mN.gl⟩,S1.mlt,λx b m hx=>?_,hS.inj,λx hx=>?_,λk=>hR _ _ (hS.reg k),λkey s u h=>?_,λkey key' s s' u u' g h h'=>hS.eT key key' s s' u u' g (hOwn _ _ _ h) (hOwn _ _ _ h'),λkey s u g x m h=>hS.dK key s u g x m (hOwn _ _ _ h)⟩
  ·obtain⟨k1,k2,k3⟩:=hS.box x b m hx;have hbl:=hS.mlt b 0 k2;by_cases e:x=d
   ·subst e;rw[hβ]at hx;injection hx with hx
    injection hx with hx1 hx2
    subst hx1;subst hx2
    obtain⟨_,j2,j3⟩:=S1.box 0 b2 n2 hb';rw[hlo]at j3;exact⟨k1,j2,by rw[hO1];exact j3.cellsOf hc' hp' rfl (λp v hf h=>h.flat hf)⟩
   ·have hne:b≠b2:=λe'=>e (hS.inj x d b m n hx (by rw[e'];exact hβ));exact⟨k1,by rw[hMM b hbl];exact k2,by rw[hO2 x e];exact k3.ext (hhh b hbl hne) hR⟩
  ·rw[List.map_append,Y9,Bool.and_eq_true]at hx;exact hS.dom x (by rw[hD];exact hx.2)
  ·have ht:=hS.tok key s u (hOwn _ _ _ h);exact ht.ext (λg hg=>⟨hhh g (htk key s u (hOwn _ _ _ h) g hg).1 (htk key s u (hOwn _ _ _ h) g hg).2,hMM g (htk key s u (hOwn _ _ _ h) g hg).1⟩)
 refine⟨v,M',β,rfl,SB.cons r v ((S1.reg none).fx hr') (λs h1 h2=>?_)⟩;have hOn:Own (Qw (r,v) (λ_:Unit=>(PV.loc 0 0,Value.pointer (some ⟨b2,0,none⟩)))) (Dn [] (o'++ [(0,cells)])) w' β' (.slot none) s v:=⟨h1,h2,rfl⟩;have ht:=S1.tok _ s v hOn;have hg:∀g,tb v=some g->¬g<w.heap.size:=λg hg h=>by
  have h3:=(ht.lt hg).1;have h4:=S1.dK _ s v g 0 n2 hOn hg;exact h3 ⟨h,λe=>h4 (by rw[e];exact hb')⟩
 refine⟨?_,λkey s' v' g h3 h4 h5=>?_,λg x m h3 h4=>?_⟩
 ·rcases ht with h|⟨g,c,cur,q1,q2,q3⟩
  ·exact .inl h
  ·exact .inr ⟨g,c,cur,q1,λh=>hg g (by rw[q1];rfl) (hwr g h).1,q3⟩
 ·exact hg g h4 (htk key s' v' (hOwn _ _ _ h3) g h5).1
 ·exact hg g h3 (hS.mlt g 0 (hS.box x g m h4).2.1)
end Go.Proofs.YthjhkpgonleelaaGreatDoor.Ev
namespace Go.Proofs.YthjhkpgonleelaaGreatDoor.Ev
open Go Go.RowKit
inductive Gt (S:Nat->Prop):PV->Prop
 |any:Gt S .any
 |val (v:Value):Gt S (.val v)
 |bA (own:Bool) (x:LX):Gt S (.bA own x)
 |agg (l:List PV) (h:∀(i:Nat) (p:PV),l[i]? =some p->Gt S p):Gt S (.agg l)
 |bY (l:List PV) (h:∀(i:Nat) (p:PV),l[i]? =some p->Gt S p):Gt S (.bY l)
 |ref (l:List PV) (h:∀(i:Nat) (p:PV),l[i]? =some p->Gt S p):Gt S (.ref l)
 |bI (f n:Nat) (l:List PV) (h:∀(i:Nat) (p:PV),l[i]? =some p->Gt S p):Gt S (.bI f n l)
 |sl (own:Bool) (e sz:Nat) (es:List (List PV)) (h:∀(i j:Nat) (p:PV),i<es.length->(es.getD i [])[j]? =some p->Gt S p):Gt S (.sl own e sz es)
 |loc (d off:Nat) (h:S d):Gt S (.loc d off)
 |el (d sz i off:Nat) (h:S d):Gt S (.el d sz i off)
 |vw (c:Bool) (d e sz n:Nat) (h:S d):Gt S (.vw c d e sz n)
 |mp (d:Nat) (h:S d):Gt S (.mp d)
section
variable {w:World} {M:T7} {β :Sk} {B:Nat->Prop}
theorem Atz{l:List PV}{cs:List Value}(hl:l.length=cs.length){i:Nat}{p:PV}(h:l[i]? =some p):∃v,cs[i]? =some v:=
 ⟨_,List.getElem?_eq_getElem (by have:=(List.getElem?_eq_some_iff.1 h).1;omega)⟩
theorem B2.locs{p:PV}{v:Value}(h:B2 w M β B p v):Gt (λd=>∃x,β d=some x) p:=by
 induction h with
 |any v=>exact .any
 |val v h=>exact .val v
 |agg l cs hl h1 hr ih=>exact .agg l (λi p hp=>let ⟨v,hv⟩:=Atz hl hp;ih i p v hp hv)
 |bY l cs hl hr ih=>exact .bY l (λi p hp=>let ⟨v,hv⟩:=Atz hl hp;ih i p v hp hv)
 |row p s hs a c vs hc hsz ha hm hr ih=>
  cases p with
  |sl own e sz es=>
   injection hs with hs;subst hs
   exact .sl own e sz es (λi j p hi hp=>ih i j p hi hp)
  |bA own x=>exact .bA own x
  |_=>cases hs
 |loc d off b n h=>exact .loc d off ⟨_,h⟩
 |el d sz i off b n h hi=>exact .el d sz i off ⟨_,h⟩
 |vw cf d e sz n b c h hc=>exact .vw cf d e sz n ⟨_,h⟩
 |mp d b n h=>exact .mp d ⟨_,h⟩
 |bI f n l cs hl hr ih=>exact .bI f n l (λi p hp=>let ⟨v,hv⟩:=Atz hl hp;ih i p v hp hv)
 |ref l ad vs hm hr ih=>exact .ref l (λi p hp=>ih i p hp)
theorem B2.cutL{S:Nat->Prop}{D:Nat->Bool}(hSD:∀d,S d->D d=false){p:PV}{v:Value}(h:B2 w M β B p v)(hl:Gt S p):B2 w M (β.cut D) B p v:=by
 induction h with
 |any v=>exact .any v
 |val v h=>exact .val v h
 |agg l cs hl' h1 hr ih=>cases hl with|agg l hq=>exact .agg l cs hl' h1 (λi p v hp hv=>ih i p v hp hv (hq i p hp))
 |bY l cs hl' hr ih=>cases hl with|bY l hq=>exact .bY l cs hl' (λi p v hp hv=>ih i p v hp hv (hq i p hp))
 |row p s hs a c vs hc hsz ha hm hr ih=>
  cases hl with
  |sl own e sz es hq=>
   injection hs with hs;subst hs
   exact .row _ _ rfl a c vs hc hsz ha hm (λi j p hi hp=>ih i j p hi hp (hq i j p hi hp))
  |bA own x=>exact(B2.row (β := β) (B:=B) _ s hs a c vs hc hsz ha hm hr).flat rfl
  |_=>cases hs
 |loc d off b n h=>cases hl with|loc d off hq=>exact .loc d off b n (by rw[Sk.cut_eq (hSD d hq)];exact h)
 |el d sz i off b n h hi=>cases hl with|el d sz i off hq=>exact .el d sz i off b n (by rw[Sk.cut_eq (hSD d hq)];exact h) hi
 |vw cf d e sz n b c h hc=>cases hl with|vw c d e sz n hq=>exact .vw cf d e sz n b _ (by rw[Sk.cut_eq (hSD d hq)];exact h) hc
 |mp d b n h=>cases hl with|mp d hq=>exact .mp d b n (by rw[Sk.cut_eq (hSD d hq)];exact h)
 |bI f n l cs hl' hr ih=>cases hl with|bI f n l hq=>exact .bI f n l cs hl' (λi p v hp hv=>ih i p v hp hv (hq i p hp))
 |ref l ad vs hm hr ih=>cases hl with|ref l hq=>exact .ref l ad vs hm (λi p hp=>ih i p hp (hq i p hp))
end
section
variable {ι :Type} {cx: ι->PV×Value} {P:Program} {C:Bc} {X:Inl} {inl:Nat->Bool} {w0:Gs} {w:World} {N M:T7} {β :Sk} {nt:Nat} {st:St} {a:Act}
theorem Bj4{B:Nat->Prop}{b n:Nat}{l:List PV}{D:Nat->Bool}(h:Nm w M β B b n l):Nm w M (β.cut D) B b n (l.map λp=>p.clean D):=by
 cases h with
 |cells l cs t q1 q2 q3=>
  refine .cells _ cs t q1 (by rw[List.length_map];exact q2) (λi q v hq hv=>?_);rw[List.getElem?_map]at hq;cases hp:l[i]? with
  |none=>rw[hp]at hq;cases hq
  |some p=>
   rw[hp]at hq;injection hq with hq
   subst hq;exact⟨(q3 i p v hp hv).1.clean,(q3 i p v hp hv).2⟩
 |arr x cs t q1 q2 q3 q4=>exact .arr x cs t q1 q2 q3 (λi j p v hi hp hv=>⟨(q4 i j p v hi hp hv).1.flat (LX.row_flat x i p (List.mem_of_getElem? hp)),(q4 i j p v hi hp hv).2⟩)
 |map gk gv ks vs es clock q1 q2 q3 q4 q5=>
  have fl:∀(g:Bool) (x:LX) (i:Nat) (v:Value),B2 w M β B (mkP g (x.row i)) v->B2 w M (β.cut D) B (mkP g (x.row i)) v:=by
   intro g x i v hr;cases g with
   |true=>
    have hr':B2 w M β B (.agg (x.row i)) v:=hr;clear hr;cases hr' with
    |row p s hs=>cases hs
    |agg l cs hl h1 hr=>exact .agg _ cs hl h1 (λj p u hp hu=>(hr j p u hp hu).flat (LX.row_flat x i p (List.mem_of_getElem? hp)))
   |false=>
    have hf:=LX.row_flat x i;generalize x.row i=l at hr hf
    match l,hr,hf with
    | [],_,_=>exact .any v
    | [p],hr,hf=>
     have hp:=hf p (by simp);have:p.view.flat=true:=by cases p<;>first|rfl|cases hp
     exact B2.flat hr this
    |_::_::_,_,_=>exact .any v
  exact .map gk gv ks vs es clock q1 q2 q3 (λi e he=>⟨fl _ _ _ _ (q4 i e he).1,fl _ _ _ _ (q4 i e he).2⟩) q5
 |dG gk gv ks vs es clock q1 q2 q3 q4 q5=>
  have fl:∀(g:Bool) (x:LX) (i:Nat) (v:Value),B2 w M β B (mkP g (x.row i)) v->B2 w M (β.cut D) B (mkP g (x.row i)) v:=by
   intro g x i v hr;cases g with
   |true=>
    have hr':B2 w M β B (.agg (x.row i)) v:=hr;clear hr;cases hr' with
    |row p s hs=>cases hs
    |agg l cs hl h1 hr=>exact .agg _ cs hl h1 (λj p u hp hu=>(hr j p u hp hu).flat (LX.row_flat x i p (List.mem_of_getElem? hp)))
   |false=>
    have hf:=LX.row_flat x i;generalize x.row i=l at hr hf
    match l,hr,hf with
    | [],_,_=>exact .any v
    | [p],hr,hf=>
     have hp:=hf p (by simp);have:p.view.flat=true:=by cases p<;>first|rfl|cases hp
     exact B2.flat hr this
    |_::_::_,_,_=>exact .any v
  exact .dG gk gv ks vs es clock q1 q2 q3 (λi e he=>⟨fl _ _ _ _ (q4 i e he).1,fl _ _ _ _ (q4 i e he).2⟩) q5
theorem Bc8(keys live:List Nat):∀key s v,Own (hold cx (Ev.keep keys live st) a) (Ev.keep keys live st).obj w (β.cut λd=>Ay d live) key s v->Own (hold cx st a) st.obj w β key s v:=by
 have hg:∀s,(Ev.keep keys live st).get s=if s∈keys then(st.get s).clean (λd=>Ay d live)else .any:=λs=>S3 _ _ _
 have ho:∀d,(Ev.keep keys live st).obj d=if d∈live then(st.obj d).map (λp=>p.clean λd=>Ay d live) else[]:=λd=>S3 _ _ _
 intro key s v ho';cases key with
 |slot k=>
  cases k with
  |inl t=>
   obtain⟨h1,h2,h3⟩:=ho';simp only[hold]at h1;rw[hg]at h1;split at h1
   ·exact⟨Bce h1,h2,h3⟩
   ·cases h1
  |inr i=>exact ho'
 |cell d i=>
  obtain⟨b,n,p,h1,h2,h3,h4,h5⟩:=ho';obtain⟨q1,q2⟩:=Sk.cut_some h1;rw[ho]at h2;split at h2
  ·rw[List.getElem?_map]at h2;cases hp:(st.obj d)[i]? with
   |none=>rw[hp]at h2;cases h2
   |some p'=>
    rw[hp]at h2;injection h2 with h2
    subst h2;exact⟨b,n,p',q1,hp,Bce h3,h4,h5⟩
  ·simp at h2
theorem SR.keep{S:Nat->Prop}(hcx:∀i,Gt S (cx i).1)(keys live:List Nat)(hS:∀d,S d->Ay d live=false)(h:SR cx w0 N nt st a w M β):SR cx w0 N nt (keep keys live st) a w M (β.cut λd=>Ay d live):=by
 have hg:∀s,(Ev.keep keys live st).get s=if s∈keys then(st.get s).clean (λd=>Ay d live)else .any:=λs=>S3 _ _ _
 have ho:∀d,(Ev.keep keys live st).obj d=if d∈live then(st.obj d).map (λp=>p.clean λd=>Ay d live) else[]:=λd=>S3 _ _ _
 have hk:(Ev.keep keys live st).ob.map Prod.fst=live:=by
  show(live.map λd=>(d,_)).map Prod.fst=live
  rw[List.map_map];exact List.map_id' live
 refine⟨h.defs,h.nt,?_⟩;have hown:=Bc8 (cx:=cx) (w:=w) (β := β) (st:=st) (a:=a) keys live;have H:=h.sh;refine⟨H.dR,H.mN,H.mlt,?_,?_,?_,?_,?_,?_,?_⟩
 ·intro d b n hd;obtain⟨q1,q2⟩:=Sk.cut_some hd;obtain⟨r1,r2,r3⟩:=H.box d b n q1;refine⟨r1,r2,?_⟩;rw[ho,if_pos (by
   have:¬Ay d live=true:=by rw[q2];simp
   rw[Bw]at this;exact Classical.not_not.1 this)]
  exact Bj4 r3
 ·intro d d' b n n' hd hd';exact H.inj d d' b n n' (Sk.cut_some hd).1 (Sk.cut_some hd').1
 ·intro d hd;rw[hk]at hd;unfold Sk.cut;simp only[hd,if_true]
 ·intro k;cases k with
  |inl s=>
   simp only[hold];rw[hg];split
   ·exact(h.reg s).clean
   ·exact .any _
  |inr i=>exact(H.reg (.inr i)).cutL hS (hcx i)
 ·intro key s v ho';exact H.tok key s v (hown _ _ _ ho')
 ·intro key key' s s' v v' g h1 h2;exact H.eT key key' s s' v v' g (hown _ _ _ h1) (hown _ _ _ h2)
 ·intro key s v g d n h1 hg' hd;exact H.dK key s v g d n (hown _ _ _ h1) hg' (Sk.cut_some hd).1
def Bj7:Ex->Exit
 | .normal=>.normal
 | .exit i=>.exit i
 | .ret=>.ret
def Has(S:Nat->Prop)(st:St):Prop:=∀d,S d->Ay d (st.ob.map Prod.fst)=false/\d<st.base
theorem Avp{S:Nat->Prop}{st:St}(h:Has S st)(δ :Co):Has S (st.app δ):=λd hd=>⟨by rw[Vc,(h d hd).1,Bool.and_false],(h d hd).2⟩
theorem Bst{S:Nat->Prop} :∀(δs:List Co) (m:Nat->Bool) (st:St),Has S st->Has S (Si δs m st):=by
 intro δs
 induction δs with
 |nil=>intro m st h;exact h
 |cons δ r ih=>
  intro m st h;simp only[Si];refine ih _ _ ?_;cases m 0
  ·exact h
  ·exact Avp h δ
theorem A3z{S:Nat->Prop}{l:List Hm}{st st':St}(h:A0q P l st st'):Has S st->Has S st':=by
 induction h with
 |nil=>exact λh=>h
 |cons eo l st st' δ _ _ ih=>exact λh=>ih (Avp h δ)
 |join B r st δs st1 st' pd v _ _ _ _ ih=>exact λh=>ih (Avp h _)
theorem Arc{S:Nat->Prop}{s t:St}(h:Has S s)(he:Ql s t):Has S t:=λd hd=>⟨by rw[<-he.key];exact(h d hd).1,by rw[<-he.base];exact(h d hd).2⟩
theorem Axz{S:Nat->Prop}{st:St}(hs:Has S st):∀d,S d->Ay d (Cs st)=false:=λd hd=>by
 obtain⟨h1,h2⟩:=hs d hd;cases hn:Ay d (Cs st) with
 |false=>rfl
 |true=>
  have hm:d∈st.ob.map Prod.fst:=by
   by_cases h:d∈st.ob.map Prod.fst
   ·exact h
   ·rw[(Bw _ _).2 h]at h1;cases h1
  exact absurd ((Zb _ _).2 hm) ((Bw _ _).1 hn)
theorem Bdf{S:Nat->Prop}{st:St}(hs:Has S st)(keys:List Nat):Has S (Ev.keep keys (Cs st) st):=λd hd=>by
 have e:(Ev.keep keys (Cs st) st).ob.map Prod.fst=Cs st:=by
  show((Cs st).map λd=>(d,_)).map Prod.fst=Cs st
  rw[List.map_map];exact List.map_id' (Cs st)
 rw[e];exact⟨Axz hs d hd,(hs d hd).2⟩
theorem Bik{S:Nat->Prop}{st:St}(hs:Has S st)(keys:List Nat):∀d,S d->Ay d (gcK keys st)=false:=λd hd=>by
 obtain⟨h1,h2⟩:=hs d hd;cases hn:Ay d (gcK keys st) with
 |false=>rfl
 |true=>
  have hm:d∈st.ob.map Prod.fst:=by
   by_cases h:d∈st.ob.map Prod.fst
   ·exact h
   ·rw[(Bw _ _).2 h]at h1;cases h1
  exact absurd (Br8 ((Zb _ _).2 hm) h2) ((Bw _ _).1 hn)
theorem Bc0(st:St)(live:List Nat):∀(keys:List Nat) (s:Nat),Dn .any (frF st live keys) s=if s∈keys then(st.get s).clean (λd=>Ay d live)else .any
 | [],s=>by simp[frF,Dn]
 |x::r,s=>by
  have ih:=Bc0 st live r s;have go:∀p:PV,(st.get x).clean (λd=>Ay d live)=p->Dn PV.any ((x,p)::frF st live r) s=if s∈x::r then(st.get s).clean (λd=>Ay d live)else .any:=by
   intro p hp;rw[Dc,ih];by_cases e:x=s
   ·subst e;simp[hp]
   ·have:¬s=x:=λh=>e h.symm;simp[e,this]
  have anyc:(st.get x).clean (λd=>Ay d live)=.any->Dn .any (frF st live r) s=if s∈x::r then(st.get s).clean (λd=>Ay d live)else .any:=by
   intro hp;rw[ih];by_cases e:s=x
   ·subst e;simp[hp]
   ·simp[e]
  simp only[frF];split
  ·rename_i h;exact anyc h
  ·rename_i h;exact go _ rfl
theorem Zz(keys live:List Nat)(st:St):Ql (A70 keys live st) (Ev.keep keys live st):=by
 refine⟨rfl,λs=>?_,λd=>rfl,λd=>rfl⟩;show Dn PV.any (frF st live keys) s=Dn PV.any (keys.map λs=>(s,(st.get s).clean λd=>Ay d live)) s
 rw[Bc0,S3]
theorem SR.refine(h:SR cx w0 N nt st a w M β)(t:Nat)(p:PV)(hr:B2 w M β w0.old p (a.tmps.getD t undef))(hn:∀s,p.sv=some s->s.own=false):SR cx w0 N nt (st.app ⟨[(t,p)],[]⟩) a w M β :=by
 have hg:∀s,(st.app ⟨[(t,p)],[]⟩).get s=if t=s then p else st.get s:=λs=>Lp st t s p
 refine⟨h.defs,h.nt,h.sh.hold (λk=>?_) (λk=>match k with| .inl s=>if t=s then none else some (.inl s)| .inr i=>some (.inr i)) (λk s h1 h2=>?_) (λk k' j h1 h2=>?_)⟩
 ·cases k with
  |inl s=>
   simp only[hold];rw[hg];by_cases e:t=s
   ·rw[if_pos e,<-e];exact hr
   ·rw[if_neg e];exact h.sh.reg (.inl s)
  |inr i=>exact h.sh.reg (.inr i)
 ·cases k with
  |inl s'=>
   simp only[hold]at h1;rw[hg]at h1;by_cases e:t=s'
   ·rw[if_pos e]at h1;rw[hn _ h1]at h2;cases h2
   ·rw[if_neg e]at h1;exact⟨.inl s',by simp only;rw[if_neg e],h1,rfl⟩
  |inr i=>exact⟨.inr i,rfl,h1,rfl⟩
 ·cases k with
  |inl s=>
   simp only at h1;by_cases e:t=s
   ·rw[if_pos e]at h1;cases h1
   ·rw[if_neg e]at h1;injection h1 with h1
    subst h1;cases k' with
    |inl s'=>
     simp only at h2;by_cases e:t=s'
     ·rw[if_pos e]at h2;cases h2
     ·rw[if_neg e]at h2;injection h2 with h2;exact h2.symm
    |inr i=>cases h2
  |inr i=>
   injection h1 with h1
   subst h1;cases k' with
   |inl s'=>
    simp only at h2;by_cases e:t=s'
    ·rw[if_pos e]at h2;cases h2
    ·rw[if_neg e]at h2;cases h2
   |inr i=>injection h2 with h2;exact h2.symm
theorem A5h(b:Nat):∀(l:List Nat) (d:Nat),d∈Aot b l↔d∈l/\d≠b
 | [],d=>by simp[Aot]
 |x::r,d=>by
  have ih:=A5h b r d;unfold Aot;cases hb:Nat.beq x b with
  |true=>
   have e:=Cn hb;subst e;simp only[ih,List.mem_cons];exact⟨λh=>⟨.inr h.1,h.2⟩,λh=>⟨h.1.resolve_left h.2,h.2⟩⟩
  |false=>
   have e:x≠b:=λe=>by subst e;simp at hb
   simp only[List.mem_cons,ih];exact⟨λh=>h.elim (λh=>⟨.inl h,λe'=>e (by rw[<-h,e'])⟩) (λh=>⟨.inr h.1,h.2⟩),λh=>h.1.elim .inl (λh'=>.inr ⟨h',h.2⟩)⟩
theorem SR.frz1{S:Nat->Prop}(hcx:∀i,Gt S (cx i).1)(h:SR cx w0 N nt st a w M β)(hs:Has S st)(t:Nat):∃M' β',SR cx w0 N nt (st.frz1 t) a w M' β'/\Has S (st.frz1 t):=by
 unfold St.frz1;split
 ·rename_i b e sz n hg;split
  ·rename_i y ho hb;have hb:=Nat.le_of_ble_eq_true hb;have hreg:=h.reg t;rw[hg]at hreg;obtain⟨bb,c,hβ,hc,hv⟩:=Bjf hreg;obtain⟨hb1,hb2,hb3⟩:=h.sh.box b bb n hβ;obtain⟨cs,ty,q1,q2,q3,q4⟩:=A89 hb3 ho;have hlive:∀d,S d->Ay d (Aot b (Cs st))=false:=λd hd=>by
    obtain⟨k1,k2⟩:=hs d hd;cases hn:Ay d (Aot b (Cs st)) with
    |false=>rfl
    |true=>
     have h1:=(Bw _ _).1 hn;have h2:Ay d (st.ob.map Prod.fst)=true:=(Bw _ _).2 (λhm=>h1 ((A5h _ _ _).2 ⟨(Zb _ _).2 hm,λe=>by omega⟩));rw[h2]at k1;cases k1
   have hk:=h.keep hcx (st.fr.map Prod.fst) (Aot b (Cs st)) hlive;have hbx:∀x m,(β.cut λd=>Ay d (Aot b (Cs st))) x≠some (bb,m):=λx m hx=>by
    obtain⟨h1,h2⟩:=Sk.cut_some hx;have:=h.sh.inj x b bb m n h1 hβ;subst this;have:Ay x (Aot x (Cs st))=true:=(Bw _ _).2 (λhm=>((A5h _ _ _).1 hm).2 rfl);rw[this]at h2;cases h2
   obtain⟨hS,hE⟩:=hk.sh.fixed bb (n*y.sz) hb2 hbx (λkey s v ho' hg'=>h.sh.dK key s v bb b n (Bc8 _ _ key s v ho') hg' hβ) hb1;have hk2:SR cx w0 N nt (Ev.keep (st.fr.map Prod.fst) (Aot b (Cs st)) st) a w _ _:=⟨hk.defs,hk.nt,hS⟩;refine⟨_,_,(hk2.equiv (Zz _ _ _).symm).refine t (.bA false y) ?_ (λs hs=>by injection hs with hs;subst hs;rfl),?_⟩
   ·rw[hv];refine Agl (s:=⟨false,y.e,y.sz,y.len,y.row⟩) rfl q2.symm q1 hc (λi _=>LX.row_len _ _) (λj hj m hm=>?_) (λi j q hi hq=>?_)
    ·simp only[if_true]at hm;injection hm with hm
     have:j<n*y.sz:=hj;show j<m
     omega
    ·have hj:j<y.sz:=by have:=(List.getElem?_eq_some_iff.1 hq).1;rw[LX.row_len]at this;exact this
     have hi':i<n:=hi;have hm:(i+1)*y.sz<=n*y.sz:=Nat.mul_le_mul_right _ hi';rw[Nat.add_mul,Nat.one_mul]at hm;have hv':cs[i*y.sz+j]? =some (cs[i*y.sz+j]'(by omega)):=Array.getElem?_eq_getElem (by omega);obtain⟨r1,r2⟩:=q4 i j q _ hi hq hv';have hfl:q.flat=true:=LX.row_flat _ _ _ (List.mem_of_getElem? hq);exact⟨_,hv',hE _ _ (r1.flat hfl),r2⟩
   ·have hk3:Has S (Ev.keep (st.fr.map Prod.fst) (Aot b (Cs st)) st):=by
     intro d hd;refine⟨?_,(hs d hd).2⟩;have e:(Ev.keep (st.fr.map Prod.fst) (Aot b (Cs st)) st).ob.map Prod.fst=Aot b (Cs st):=by
      show((Aot b (Cs st)).map λd=>(d,_)).map Prod.fst=Aot b (Cs st)
      rw[List.map_map];exact List.map_id' _
     rw[e];exact hlive d hd
    exact Avp (Arc hk3 (Zz _ _ _).symm) _
  ·exact⟨M,β,h,hs⟩
 ·exact⟨M,β,h,hs⟩
theorem SR.frzL{S:Nat->Prop}(hcx:∀i,Gt S (cx i).1):∀(ts:List Nat) {st:St} {M:T7} {β :Sk},SR cx w0 N nt st a w M β->Has S st->∃M' β',SR cx w0 N nt (st.frzL ts) a w M' β'/\Has S (st.frzL ts)
 | [],st,M,β,h,hs=>⟨M,β,h,hs⟩
 |t::r,st,M,β,h,hs=>by
  obtain⟨M',β',h',hs'⟩:=h.frz1 hcx hs t;exact SR.frzL hcx r h' hs'
theorem Bdi:∀ {ob:List (Nat×List PV)} {d:Nat},Ay d (ob.map Prod.fst)=false->d<A0h ob
 | [],d,h=>by cases h
 |(x,l)::r,d,h=>by
  simp only[List.map_cons,Ay]at h;unfold A0h;cases hb:Nat.beq x d with
  |true=>
   have e:=Cn hb;subst e;cases hl:Nat.ble (A0h r) x with
   |true=>simp
   |false=>
    simp only;rcases Nat.lt_or_ge x (A0h r)with h1|h1
    ·exact h1
    ·rw[Nat.ble_eq_true_of_le h1]at hl;cases hl
  |false=>
   rw[hb]at h;have ih:=Bdi (ob:=r) h;cases hl:Nat.ble (A0h r) x with
   |true=>have:=Nat.le_of_ble_eq_true hl;simp only;omega
   |false=>exact ih
theorem A77{ob:List (Nat×List PV)}{d:Nat}(h:Ay d (ob.map Prod.fst)=false):d<Arj ob:=by have:=Bdi h;unfold Arj;omega
end
end Go.Proofs.YthjhkpgonleelaaGreatDoor.Ev
