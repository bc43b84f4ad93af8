/-  Operations one behind the other. -/
import Derived.Test.YtgacplpjamkieaaGreatHFI
set_option linter.unusedVariables false
set_option linter.unusedSimpArgs false
set_option linter.unnecessarySimpa false
namespace Go.Proofs.YtgacplpjamkieaaGreat.Ev
open Go Go.RowKit
def B8(P:Program)(C:Ba):Prop:=∀f args k,C f args k->∃r,HoldsC P f args r/\k r
def Jb(P:Program)(X:Inl):Prop:=∀f args ob k,X f args ob k->Eg P f args ob k
section
variable {P:Program} {C:Ba} {X:Inl} {ban:List Nat}
theorem Arf(st:St):∀(ps:List (Nat×Nat×Operand)) (cells:List PV) (k:List PV->Prop),Ah0 st cells ps k->∃l,k l/\∀k':List PV->Prop,k' l->Ah0 st cells ps k':=by
 intro ps
 induction ps with
 |nil=>intro cells k h;exact⟨cells,h,λk' h'=>h'⟩
 |cons p ps ih=>
  obtain⟨off,sz,x⟩:=p;intro cells k h;simp only[Ah0]at h ⊢;cases g1:Qm (st.aM x).cells sz<;>cases g2:Sx (st.aM x).cells<;>cases g3:Mj cells (off+sz)<;>simp only[g1,g2,g3]at h ⊢ <;>first|exact h.elim|exact ih _ _ h
theorem Ac8(st:St)(sz:Nat):∀(ps:List Operand) (k:List (List PV)->Prop),Wh st sz ps k->∃l,k l/\∀k':List (List PV)->Prop,k' l->Wh st sz ps k':=by
 intro ps
 induction ps with
 |nil=>intro k h;exact⟨[],h,λk' h'=>h'⟩
 |cons x ps ih=>
  intro k h;simp only[Wh]at h ⊢;cases g1:Qm (st.aM x).cells sz<;>cases g2:Sx (st.aM x).cells<;>simp only[g1,g2]at h ⊢ <;>first
   |exact h.elim
   |(obtain⟨l,h1,h2⟩:=ih _ h;exact⟨_,h1,λk' hk=>h2 (λl=>k' ((st.aM x).cells.map PV.view::l)) hk⟩)
theorem Akw{α :Type} :∀(s:Sem α) (k: α->Prop),Akv P s k->∃x,k x/\∀k': α->Prop,k' x->Akv P s k':=by
 intro s
 induction s with
 |pure a=>intro k h;exact⟨a,h,λk' h'=>h'⟩
 |program f ih=>intro k h;exact ih P k h
 |_=>intro k h;exact h.elim
theorem Ahb(hC:B8 P C)(hX:Jb P X)(o:K)(d:Option Nat)(st:St)(k:B2->Prop)(h:Ax P C X ban o d st k):∃δ,k δ/\∀k':B2->Prop,k' δ->Ax P (Ej P) (Eg P) ban o d st k':=by
 have one:∀(δ :B2),k δ->∃δ,k δ/\∀k':B2->Prop,k' δ->k' δ :=λδ h=>⟨δ,h,λk' h'=>h'⟩;cases o with
 |move x=>exact⟨_,h,λk' h'=>h'⟩
 |fH e=>
  simp only[Ax,Au]at h ⊢;split at h
  ·exact⟨_,h,λk' h'=>h'⟩
  ·exact h.elim
 |take s=>cases d with
  |none=>exact h.elim
  |some d=>exact⟨_,h,λk' h'=>h'⟩
 |pick c x y=>
  simp only[Ax,Au]at h ⊢;split at h
  ·rename_i t hq;cases t<;>exact⟨_,h,λk' h'=>h'⟩
  ·exact h.elim
 |alloc z=>
  simp only[Ax,Au]at h ⊢;cases d with
  |none=>exact h.elim
  |some s=>
   simp only at h ⊢;split at h
   ·rename_i g1;exact⟨_,h,λk' h'=>h'⟩
   ·exact h.elim
 |box x=>
  simp only[Ax,Au]at h ⊢;cases d with
  |none=>exact h.elim
  |some s=>
   simp only at h ⊢;split at h
   ·rename_i g1 g2;exact⟨_,h,λk' h'=>h'⟩
   ·exact h.elim
 |build z parts=>
  simp only[Ax,Au]at h ⊢;obtain⟨l,h1,h2⟩:=Arf st _ _ _ h;exact⟨_,h1,λk' hk=>h2 (λl=>k' (dput d (.agg l))) hk⟩
 |eB e sz parts=>
  simp only[Ax,Au]at h ⊢;obtain⟨l,h1,h2⟩:=Ac8 st _ _ _ h;have:∃δ,k δ/\∀k':B2->Prop,k' δ->(match LX.lit e l with
    |some x=>match Nat.beq x.sz sz with
     |true=>k' (dput d (.aO true x))
     |false=>False
    |none=>k' (dput d (.sl true e sz l))):=by
   cases hl:LX.lit e l with
   |none=>rw[hl]at h1;exact⟨_,h1,λk' h'=>h'⟩
   |some x=>
    rw[hl]at h1;simp only at h1 ⊢;cases hb:Nat.beq x.sz sz with
    |false=>rw[hb]at h1;exact h1.elim
    |true=>rw[hb]at h1;exact⟨_,h1,λk' h'=>h'⟩
  obtain⟨δ,h3,h4⟩:=this;exact⟨δ,h3,λk' hk=>h2 _ (h4 k' hk)⟩
 |load g sz x=>
  simp only[Ax,Au]at h ⊢;split at h
  ·rename_i b off hq;split at h
   ·exact⟨_,h,λk' h'=>h'⟩
   ·exact h.elim
  ·split at h
   ·exact⟨_,h,λk' h'=>h'⟩
   ·exact h.elim
  ·rename_i b sz' i off hq;split at h
   ·rename_i y g1 g2;split at h
    ·exact⟨_,h,λk' h'=>h'⟩
    ·exact h.elim
   ·exact h.elim
  ·exact h.elim
 |loadT x=>
  simp only[Ax,Au]at h ⊢;split at h
  ·split at h
   ·exact⟨_,h,λk' h'=>h'⟩
   ·exact h.elim
  ·exact h.elim
 |store sz x y=>
  simp only[Ax,Au]at h ⊢;split at h
  ·split at h
   ·exact⟨_,h,λk' h'=>h'⟩
   ·exact h.elim
  ·split at h
   ·split at h
    ·exact⟨_,h,λk' h'=>h'⟩
    ·exact h.elim
   ·exact h.elim
  ·exact h.elim
 |storeT x s=>
  simp only[Ax,Au]at h ⊢;split at h
  ·split at h
   ·exact⟨_,h,λk' h'=>h'⟩
   ·exact h.elim
  ·split at h
   ·split at h
    ·exact⟨_,h,λk' h'=>h'⟩
    ·exact h.elim
   ·exact h.elim
  ·exact h.elim
 |dB o=>
  simp only[Ax,Aup]at h ⊢;cases g1:g7 st o.op.operands.toList with
  |false=>rw[g1]at h;exact h.elim
  |true=>
   simp only[g1]at h ⊢;obtain⟨n,h1,h2⟩:=Akw _ _ h;cases n with
   |value v=>
    simp only at h1;cases g2:Ams v with
    |false=>rw[g2]at h1;exact h1.elim
    |true=>
     simp only[g2]at h1;exact⟨_,h1,λk' hk=>h2 _ (by simp only[g2];exact hk)⟩
   |_=>exact h1.elim
 |bY tag x y=>
  simp only[Ax,Au]at h ⊢;split at h
  ·split at h
   ·rename_i c r hb;cases c with
    |true=>exact⟨_,h,λk' h'=>h'⟩
    |false=>exact h.elim
   ·exact h.elim
  ·unfold Amk at h ⊢;split at h
   ·split at h
    ·simp only[Au]at h ⊢;exact⟨_,h.2,λk' h'=>⟨h.1,h'⟩⟩
    ·simp only[Au]at h ⊢;exact⟨_,h.2,λk' h'=>⟨h.1,h'⟩⟩
    ·exact h.elim
   ·exact h.elim
  ·exact h.elim
 |gM neg ts x y=>
  simp only[Ax,Au]at h ⊢;split at h
  ·split at h
   ·cases neg<;>exact⟨_,h,λk' h'=>h'⟩
   ·exact h.elim
  ·exact h.elim
 |field off x=>
  simp only[Ax,Au]at h ⊢;split at h<;>first|exact h.elim|exact⟨_,h,λk' h'=>h'⟩
 |index sz x i=>
  simp only[Ax,Au]at h ⊢;split at h
  ·split at h<;>first|exact h.elim|exact⟨_,h.2.2,λk' h'=>⟨h.1,h.2.1,h'⟩⟩
  ·split at h
   ·split at h
    ·exact⟨_,h.2.2,λk' h'=>⟨h.1,h.2.1,h'⟩⟩
    ·exact h.elim
   ·exact h.elim
  ·exact h.elim
 |len x=>
  simp only[Ax,Au]at h ⊢;split at h
  ·exact⟨_,h,λk' h'=>h'⟩
  ·exact⟨_,h,λk' h'=>h'⟩
  ·split at h
   ·exact⟨_,h,λk' h'=>h'⟩
   ·exact h.elim
 |cap x=>
  simp only[Ax,Au]at h ⊢;split at h
  ·exact⟨_,h,λk' h'=>h'⟩
  ·exact h.elim
 |app e sz by_ s x=>
  simp only[Ax,Au]at h ⊢;cases d with
  |none=>exact h.elim
  |some d=>
   simp only at h ⊢;split at h
   ·split at h
    ·exact⟨_,h.2.2,λk' hk=>⟨h.1,h.2.1,hk⟩⟩
    ·exact h.elim
   ·split at h
    ·exact⟨_,h,λk' h'=>h'⟩
    ·exact h.elim
   ·split at h
    ·exact⟨_,h.2.2,λk' hk=>⟨h.1,h.2.1,hk⟩⟩
    ·exact h.elim
   ·exact h.elim
 |clone cm e sz by_ s x=>
  simp only[Ax,Au]at h ⊢;split at h
  ·split at h
   ·split at h
    ·rename_i own q _;split at h
     ·cases hb:Nat.beq q.len 0 with
      |true=>rw[hb]at h;exact⟨_,h,λk' h'=>h'⟩
      |false=>rw[hb]at h;exact⟨_,h.2.2,λk' hk=>⟨h.1,h.2.1,hk⟩⟩
     ·exact h.elim
    ·exact h.elim
   ·exact h.elim
  ·exact h.elim
 |call f args=>
  simp only[Ax,Au]at h ⊢;cases g1:Vi st ban args with
  |false=>rw[g1]at h;exact h.elim
  |true=>
   simp only[g1]at h ⊢;obtain⟨r,h1,h2⟩:=hC _ _ _ h;exact⟨_,h2,λk' hk=>⟨r,h1,hk⟩⟩
 |eY f args=>
  simp only[Ax,Au]at h ⊢;obtain⟨hc,r,o',h1,h2⟩:=hX _ _ _ _ h;exact⟨_,h2,λk' hk=>⟨hc,r,o',h1,hk⟩⟩
 |eZ x args=>
  simp only[Ax,Au]at h ⊢;split at h
  ·obtain⟨hc,r,o',h1,h2⟩:=hX _ _ _ _ h;exact⟨_,h2,λk' hk=>⟨hc,r,o',h1,hk⟩⟩
  ·exact h.elim
 |gI f n caps=>exact⟨_,h,λk' h'=>h'⟩
 |extract x i=>
  simp only[Ax,Au]at h ⊢;split at h
  ·split at h
   ·exact⟨_,h,λk' h'=>h'⟩
   ·exact h.elim
  ·exact h.elim
 |nil x=>
  simp only[Ax,Au]at h ⊢;split at h<;>first|exact h.elim|exact⟨_,h,λk' h'=>h'⟩
 |fQ e sz by_ z n=>
  simp only[Ax,Au]at h ⊢;split at h
  ·split at h
   ·split at h
    ·exact⟨_,h,λk' h'=>h'⟩
    ·exact h.elim
   ·split at h
    ·split at h
     ·exact⟨_,h.2.2.2,λk' hk=>⟨h.1,h.2.1,h.2.2.1,hk⟩⟩
     ·exact h.elim
    ·exact h.elim
  ·exact h.elim
 |fK e sz by_ n=>
  simp only[Ax,Au]at h ⊢;split at h
  ·split at h
   ·exact⟨_,h.2.2.2,λk' hk=>⟨h.1,h.2.1,h.2.2.1,hk⟩⟩
   ·exact h.elim
  ·exact h.elim
 |gU sz x lo hi mx=>
  simp only[Ax,Au,Aj5]at h ⊢;split at h
  ·split at h
   ·split at h
    ·split at h
     ·exact⟨_,h.2.2.2.2.2,λk' hk=>⟨h.1,h.2.1,h.2.2.1,h.2.2.2.1,h.2.2.2.2.1,hk⟩⟩
     ·exact h.elim
    ·exact h.elim
   ·exact h.elim
  ·exact h.elim
 |fZ x lo hi=>
  simp only[Ax,Au]at h ⊢;split at h
  ·split at h
   ·split at h
    ·exact⟨_,h.2.2.2,λk' hk=>⟨h.1,h.2.1,h.2.2.1,hk⟩⟩
    ·exact h.elim
   ·exact h.elim
  ·exact h.elim
 |fC gk gv ks vs=>
  simp only[Ax,Au]at h ⊢;cases d with
  |none=>exact h.elim
  |some s=>
   simp only at h ⊢;split at h
   ·exact⟨_,h,λk' h'=>h'⟩
   ·exact h.elim
 |lookup gq ts ok g z m q=>
  simp only[Ax,Au]at h ⊢;split at h
  ·split at h
   ·split at h
    ·rename_i r _ _ _;cases r<;>exact⟨_,h,λk' h'=>h'⟩
    ·exact h.elim
   ·exact h.elim
  ·exact h.elim
 |eT gq ts m q v=>
  simp only[Ax,Au]at h ⊢;split at h
  ·split at h
   ·split at h
    ·rename_i r c _ _ _;cases r with
     |none=>
      simp only[fk]at h ⊢;split at h
      ·exact⟨_,h,λk' h'=>h'⟩
      ·exact h.elim
     |some i=>
      simp only[fk]at h ⊢;split at h
      ·exact⟨_,h,λk' h'=>h'⟩
      ·exact h.elim
    ·exact h.elim
   ·exact h.elim
  ·exact h.elim
 |del gq ts m q=>
  simp only[Ax,Au]at h ⊢;split at h
  ·split at h
   ·split at h
    ·rename_i r _ _;cases r with
     |none=>exact⟨_,h,λk' h'=>h'⟩
     |some i=>
      simp only[fk]at h ⊢;split at h
      ·exact⟨_,h,λk' h'=>h'⟩
      ·exact h.elim
    ·exact h.elim
   ·exact h.elim
  ·exact h.elim
 |fF f args=>
  simp only[Ax,Au]at h ⊢;cases g1:Ru st args with
  |false=>rw[g1]at h;exact h.elim
  |true=>
   simp only[g1]at h ⊢;obtain⟨hc,r,o',h1,h2⟩:=hX _ _ _ _ h;unfold A4u at h2;split at h2
   ·rename_i hf;exact⟨_,h2,λk' hk=>⟨hc,r,[],h1,by show A4u r [] _;unfold A4u;rw[hf];exact hk⟩⟩
   ·exact h2.elim
 |gF x=>
  simp only[Ax,Au]at h ⊢;split at h
  ·split at h
   ·exact⟨_,h,λk' h'=>h'⟩
   ·exact h.elim
  ·exact⟨_,h,λk' h'=>h'⟩
  ·exact h.elim
 |dN f args s=>
  simp only[Ax,Au]at h ⊢;cases g1:Akt s args with
  |false=>rw[g1]at h;exact h.elim
  |true=>
   simp only[g1]at h ⊢;obtain⟨hc,r,o',h1,h2⟩:=hX _ _ _ _ h;exact⟨_,h2,λk' hk=>⟨hc,r,o',h1,hk⟩⟩
 |dJ s=>
  simp only[Ax]at h ⊢;split at h
  ·exact⟨_,h,λk' h'=>h'⟩
  ·exact⟨_,h,λk' h'=>h'⟩
  ·exact h.elim
 |dV r sz a x=>
  simp only[Ax,Au]at h ⊢;split at h
  ·split at h
   ·exact⟨_,h,λk' h'=>h'⟩
   ·exact h.elim
  ·exact h.elim
 |eF near r g sz x=>
  simp only[Ax,Au]at h ⊢;split at h
  ·split at h
   ·exact⟨_,h,λk' h'=>h'⟩
   ·exact h.elim
  ·exact h.elim
 |eP f args=>
  simp only[Ax]at h ⊢;split at h
  ·rename_i s r0;split at h
   ·rename_i hl
    try simp only[hl]
    simp only[stK]at h ⊢;split at h
    ·rename_i d0 ps hps;split at h
     ·rename_i g1 g2 g3;obtain⟨r,h1,h2⟩:=hC _ _ _ h;split at h2
      ·rename_i r1 l;refine⟨_,h2,λk' hk=>?_⟩
       try simp only[hps,g1,g2,g3]
       exact⟨_,h1,hk⟩
      ·exact h2.elim
     ·exact h.elim
    ·exact h.elim
   ·exact h.elim
  ·exact h.elim
 |fU cm e sz parts=>
  simp only[Ax,Au]at h ⊢;cases d with
  |none=>exact h.elim
  |some d=>
   simp only at h ⊢;cases g1:Ar (st.base+d) (st.ob.map Prod.fst) with
   |false=>rw[g1]at h;exact h.elim
   |true=>
    rw[g1]at h;simp only at h ⊢;obtain⟨l,h1,h2⟩:=Ac8 st _ _ _ h;cases cm with
    |true=>exact⟨_,h1,λk' hk=>h2 (λl=>k' _) hk⟩
    |false=>
     simp only at h1;split at h1
     ·rename_i x hx;split at h1
      ·rename_i hb;exact⟨_,h1,λk' hk=>h2 _ (by simp only[hx,hb];exact hk)⟩
      ·exact h1.elim
     ·exact h1.elim
 |fM cm e sz by_ s x=>
  simp only[Ax,Au]at h ⊢;cases d with
  |none=>exact h.elim
  |some d=>
   simp only at h ⊢;split at h
   ·split at h
    ·split at h
     ·exact⟨_,h.2.2,λk' hk=>⟨h.1,h.2.1,hk⟩⟩
     ·exact h.elim
    ·exact h.elim
   ·exact h.elim
 |ext sub x y c=>
  simp only[Ax,Au]at h ⊢;split at h
  ·exact⟨_,h.2,λk' hk=>⟨h.1,hk⟩⟩
  ·exact h.elim
 |gL off sz g x=>
  simp only[Ax,Au]at h ⊢;split at h
  ·split at h
   ·exact⟨_,h,λk' h'=>h'⟩
   ·exact h.elim
  ·exact h.elim
 |stop=>exact h.elim
end
end Go.Proofs.YtgacplpjamkieaaGreat.Ev
namespace Go.Proofs.YtgacplpjamkieaaGreat.Ev
open Go Go.RowKit
def aOf:Operand->Option Nat
 | .tmp a=>some a
 |_=>none
def At(p:PV)(b:Nat):Prop:=(∃off,p=.loc b off)\/∃sz i off,p=.el b sz i off
section
variable {P:Program} {C:Ba} {X:Inl} {ban:List Nat}
theorem Ah1{st st':St} :∀(args:List Operand),(∀x∈args,st'.aM x=st.aM x)->Ru st' args=Ru st args
 | [],_=>rfl
 |x::r,h=>by
  simp only[Ru,h x (by simp)];rw[Ah1 r λy hy=>h y (by simp[hy])]
theorem Eo.congr{f:Nat}{args:List PV}{ob ob':List (Nat×List PV)}{r:PV}{o':List (Nat×List PV)}(h:Eo P f args ob r o')(h1:∀d,B4 [] ob' d=B4 [] ob d)(h2:∀d,Ar d (ob'.map Prod.fst)=Ar d (ob.map Prod.fst)):
  Eo P f args ob' r o':=by
 intro κ H w0 w N M β O D vs hO hD hS hl hr;refine Calls.mono (h H w0 w N M β O D vs (λd=>by rw[hO,h1]) (λd=>by rw[hD,h2]) hS hl hr) ?_
 rintro e w' ⟨v,M',β',he,hS'⟩
 refine⟨v,M',β',he,?_⟩;have e1:B4 [] (o'++ob')=B4 [] (o'++ob):=funext λd=>by rw[Gk,Gk,h1]
 have e2:(λd=>Ar d ((o'++ob').map Prod.fst))=λd=>Ar d ((o'++ob).map Prod.fst):=funext λd=>by rw[List.map_append,List.map_append,H1,H1,h2]
 rw[e1,e2];exact hS'
theorem Eo.norm{f:Nat}{args:List PV}{ob:List (Nat×List PV)}{r:PV}{o':List (Nat×List PV)}(h:Eo P f args ob r o'):Eo P f args ob r (S9 o'):=by
 intro κ H w0 w N M β O D vs hO hD hS hl hr;refine Calls.mono (h H w0 w N M β O D vs hO hD hS hl hr) ?_
 rintro e w' ⟨v,M',β',he,hS'⟩
 refine⟨v,M',β',he,?_⟩;have e1:B4 [] (S9 o'++ob)=B4 [] (o'++ob):=funext λd=>by rw[Gk,Gk,Aiv];simp only[Ag9]
 have e2:(λd=>Ar d ((S9 o'++ob).map Prod.fst))=λd=>Ar d ((o'++ob).map Prod.fst):=funext λd=>by rw[List.map_append,List.map_append,H1,H1,Amm]
 rw[e1,e2];exact hS'
theorem Vc.congr{f:Nat}{args:List PV}{ob ob':List (Nat×List PV)}{r:PV}{o':List (Nat×List PV)}(h:Vc P f args ob r o')(h1:∀d,B4 [] ob' d=B4 [] ob d)(h2:∀d,Ar d (ob'.map Prod.fst)=Ar d (ob.map Prod.fst)):
  Vc P f args ob' r o':=by
 intro κ H w0 w N M β O D vs hO hD hS hl;refine Calls.mono (h H w0 w N M β O D vs (λd=>by rw[hO,h1]) (λd=>by rw[hD,h2]) hS hl) ?_
 rintro e w' ⟨v,M',β',he,hS'⟩
 refine⟨v,M',β',he,?_⟩;have e1:B4 [] (o'++ob')=B4 [] (o'++ob):=funext λd=>by rw[Gk,Gk,h1]
 have e2:(λd=>Ar d ((o'++ob').map Prod.fst))=λd=>Ar d ((o'++ob).map Prod.fst):=funext λd=>by rw[List.map_append,List.map_append,H1,H1,h2]
 rw[e1,e2];exact hS'
theorem Vc.norm{f:Nat}{args:List PV}{ob:List (Nat×List PV)}{r:PV}{o':List (Nat×List PV)}(h:Vc P f args ob r o'):Vc P f args ob r (S9 o'):=by
 intro κ H w0 w N M β O D vs hO hD hS hl;refine Calls.mono (h H w0 w N M β O D vs hO hD hS hl) ?_
 rintro e w' ⟨v,M',β',he,hS'⟩
 refine⟨v,M',β',he,?_⟩;have e1:B4 [] (S9 o'++ob)=B4 [] (o'++ob):=funext λd=>by rw[Gk,Gk,Aiv];simp only[Ag9]
 have e2:(λd=>Ar d ((S9 o'++ob).map Prod.fst))=λd=>Ar d ((o'++ob).map Prod.fst):=funext λd=>by rw[List.map_append,List.map_append,H1,H1,Amm]
 rw[e1,e2];exact hS'
theorem At.of_loc{b off:Nat} :At (.loc b off) b:=.inl ⟨_,rfl⟩
structure A5l (ban:List Nat) (o:K) (d:Option Nat) (st st':St):Prop where
 aM:∀x∈o.bC,st'.aM x=st.aM x
 obj:o.dX=true->o.isLoad=false->(o.makes=false\/o.bD=true)->∀b,((o.bD=true/\(o.eG=true->b<st.base))\/Ar b ban=true)->(∀a,o.addr=some a->At (st.get a) b)->st'.obj b=st.obj b
 gX:o.isLoad=true->∀b,Ar b ban=true->(o.near=true->st.base<=b)->(∀a,o.addr=some a->At (st.get a) b)->st'.vobj b=st.vobj b
 key:o.makes=true->∀s,d=some s->Ar (st.base+s) (st.ob.map Prod.fst)=true->Ar (st.base+s) (st'.ob.map Prod.fst)=true
 sel:∀o',o=.dB o'->∀cs b,o'.op≠ .select cs b
 base:st'.base=st.base
 scn:o.eG=true->∀b,b<st.base->(∀a,o.addr=some a->At (st.get a) b)->Ar b (st'.ob.map Prod.fst)=Ar b (st.ob.map Prod.fst)
 gB:o.gB=true->(∀b,st'.obj b=st.obj b)/\∀b,Ar b (st'.ob.map Prod.fst)=Ar b (st.ob.map Prod.fst)
theorem Ayb{st st':St} :∀(ps:List (Nat×Nat×Operand)) (cells:List PV) (k:List PV->Prop),(∀x∈ps.map (λp=>p.2.2),st'.aM x=st.aM x)->Ah0 st cells ps k->Ah0 st' cells ps k:=by
 intro ps
 induction ps with
 |nil=>intro cells k _ h;exact h
 |cons p ps ih=>
  obtain⟨off,sz,x⟩:=p;intro cells k hx h;have h1:st'.aM x=st.aM x:=hx x (by simp);simp only[Ah0]at h ⊢;rw[h1];cases g1:Qm (st.aM x).cells sz<;>cases g2:Sx (st.aM x).cells<;>cases g3:Mj cells (off+sz)<;>simp only[g1,g2,g3]at h ⊢ <;>first
   |exact h.elim
   |exact ih _ _ (λy hy=>hx y (by simp only[List.map_cons];exact List.mem_cons_of_mem _ hy)) h
theorem Any{st st':St}(sz:Nat):∀(ps:List Operand) (k:List (List PV)->Prop),(∀x∈ps,st'.aM x=st.aM x)->Wh st sz ps k->Wh st' sz ps k:=by
 intro ps
 induction ps with
 |nil=>intro k _ h;exact h
 |cons x ps ih=>
  intro k hx h;have h1:st'.aM x=st.aM x:=hx x (by simp);simp only[Wh]at h ⊢;rw[h1];cases g1:Qm (st.aM x).cells sz<;>cases g2:Sx (st.aM x).cells<;>simp only[g1,g2]at h ⊢ <;>first
   |exact h.elim
   |exact ih _ (λy hy=>hx y (List.mem_cons_of_mem _ hy)) h
theorem Avg{st st':St} :∀(l:List Operand),(∀x∈l,st'.aM x=st.aM x)->g7 st' l=g7 st l:=by
 intro l
 induction l with
 |nil=>intro _;rfl
 |cons x l ih=>
  intro h;simp only[g7];rw[h x (by simp),ih (λy hy=>h y (List.mem_cons_of_mem _ hy))]
theorem Av5{st st':St} :∀(l:List Operand),(∀x∈l,st'.aM x=st.aM x)->Vi st' ban l=Vi st ban l:=by
 intro l
 induction l with
 |nil=>intro _;rfl
 |cons x l ih=>
  intro h;have h1:=ih (λy hy=>h y (List.mem_cons_of_mem _ hy));cases ban with
  |nil=>rfl
  |cons c r=>
   simp only[Vi];rw[h x (by simp)];cases hq:st.aM x<;>first|exact h1|(simp only[h1])
theorem A06{st:St} :∀(l:List Operand),Vi st ban l=true->∀x∈l,∀b off,st.aM x=.loc b off->Ar b ban=true:=by
 intro l
 induction l with
 |nil=>intro _ x hx;cases hx
 |cons y l ih=>
  intro h x hx b off hb;cases hban:ban with
  |nil=>rfl
  |cons c r=>
   rw[hban]at h;simp only[Vi]at h;rcases List.mem_cons.1 hx with e|e
   ·subst e;rw[hb]at h;simp only at h;cases g:Ar b (c::r) with
    |true=>rfl
    |false=>rw[g]at h;cases h
   ·have hl:Vi st (c::r) l=true:=by
     cases hy:st.aM y with
     |loc b' off'=>
      rw[hy]at h;simp only at h;cases g:Ar b' (c::r) with
      |true=>rw[g]at h;exact h
      |false=>rw[g]at h;cases h
     |_=>rw[hy]at h;exact h
    rw[<-hban]at hl ⊢;exact ih hl x e b off hb
theorem m9{st st':St}{d:Int}{x:Option Operand}(h:∀y∈A1b x,st'.aM y=st.aM y):st'.bnd d x=st.bnd d x:=by
 cases x with
 |none=>rfl
 |some y=>simp only[St.bnd];rw[h y (by simp[A1b])]
theorem Xf{st:St}{x:Operand}{b off:Nat}(hq:st.aM x=.loc b off){o:K}(ho:o.addr=aOf x):∀a,o.addr=some a->At (st.get a) b:=by
 intro a ha;cases x with
 |tmp t=>rw[ho]at ha;injection ha with ha;subst ha;exact .inl ⟨off,hq⟩
 |_=>rw[ho]at ha;cases ha
theorem Ajt{st:St}{x:Operand}{b sz i off:Nat}(hq:st.aM x=.el b sz i off){o:K}(ho:o.addr=aOf x):∀a,o.addr=some a->At (st.get a) b:=by
 intro a ha;cases x with
 |tmp t=>rw[ho]at ha;injection ha with ha;subst ha;exact .inr ⟨sz,i,off,hq⟩
 |_=>rw[ho]at ha;cases ha
theorem A16(p:PV):p.view.pure0=p.pure0:=by
 cases p with
 |aY l=>cases l<;>rfl
 |_=>rfl
theorem Ai0:∀l:List PV,Er (l.map PV.view)=Er l
 | []=>rfl
 |p::l=>by
  have:=Ai0 l;cases p with
  |aY k=>cases k<;>exact this
  |_=>first|exact this|rfl
theorem A44{O O':Nat->List PV}{b off:Nat}(h:(O' b).map PV.view=(O b).map PV.view):Ahk O' (.loc b off)=Ahk O (.loc b off):=by
 have e:∀l:List PV,((l.map PV.view).map PV.pure0)=l.map PV.pure0:=λl=>by
  rw[List.map_map];exact List.map_congr_left λp _=>A16 p
 have d:((O' b).drop off).map PV.view=((O b).drop off).map PV.view:=by rw[List.map_drop,List.map_drop,h]
 have h1:Er ((O' b).drop off)=Er ((O b).drop off):=by rw[<-Ai0,d,Ai0]
 have h2:((O' b).drop off).map PV.pure0=((O b).drop off).map PV.pure0:=by rw[<-e,d,e]
 simp only[Ahk,h1,h2]
theorem Ado{o:K}{d:Option Nat}{st st':St}(hA:A5l ban o d st st'){k:B2->Prop}(h:Ax P (Ej P) (Eg P) ban o d st k):Ax P (Ej P) (Eg P) ban o d st' k:=by
 have ad:∀(x:Operand) (o:K),(o=.loadT x\/(∃g sz,o=.load g sz x)\/(∃sz y,o=.store sz x y)\/∃s,o=.storeT x s)->o.addr=aOf x:=by
  intro x o ho;rcases ho with rfl|⟨g,sz,rfl⟩|⟨sz,y,rfl⟩|⟨s,rfl⟩<;>cases x<;>rfl
 cases o with
 |move x=>simp only[Ax,Au]at h ⊢;rw[hA.aM x (by simp[K.bC])];exact h
 |fH e=>exact h
 |take s=>
  simp only[Ax,Au]at h ⊢;have:st'.get s=st.get s:=hA.aM (.tmp s) (by simp[K.bC]);rw[this];exact h
 |pick c x y=>
  simp only[Ax,Au]at h ⊢;rw[hA.aM c (by simp[K.bC]),hA.aM x (by simp[K.bC]),hA.aM y (by simp[K.bC])];exact h
 |alloc z=>
  simp only[Ax,Au]at h ⊢;cases d with
  |none=>exact h
  |some s=>
   simp only at h ⊢;rw[hA.base];cases g1:Ar (st.base+s) (st.ob.map Prod.fst) with
   |false=>rw[g1]at h;exact h.elim
   |true=>rw[g1]at h;rw[hA.key rfl s rfl g1];exact h
 |box x=>
  simp only[Ax,Au]at h ⊢;rw[hA.aM x (by simp[K.bC])];cases d with
  |none=>exact h
  |some s=>
   simp only at h ⊢;rw[hA.base];cases g1:Ar (st.base+s) (st.ob.map Prod.fst) with
   |false=>rw[g1]at h;exact h.elim
   |true=>rw[g1]at h;rw[hA.key rfl s rfl g1];exact h
 |build z parts=>simp only[Ax,Au]at h ⊢;exact Ayb _ _ _ (λx hx=>hA.aM x hx) h
 |eB e sz parts=>simp only[Ax,Au]at h ⊢;exact Any _ _ _ (λx hx=>hA.aM x hx) h
 |load g sz x=>
  simp only[Ax,Au]at h ⊢;rw[hA.aM x (by simp[K.bC])];cases hq:st.aM x with
  |loc b off=>
   rw[hq]at h;simp only at h ⊢;cases g1:Ar b ban with
   |false=>rw[g1]at h;exact h.elim
   |true=>rw[g1]at h;rw[hA.gX rfl b g1 (λh=>by cases h) (Xf hq (ad x _ (.inr (.inl ⟨_,_,rfl⟩))))];exact h
  |el b sz' i off=>
   rw[hq]at h;simp only at h ⊢;cases g1:Ar b ban with
   |false=>rw[g1]at h;exact h.elim
   |true=>rw[g1]at h;rw[hA.gX rfl b g1 (λh=>by cases h) (Ajt hq (ad x _ (.inr (.inl ⟨_,_,rfl⟩))))];exact h
  |_=>rw[hq]at h;exact h
 |loadT x=>
  simp only[Ax,Au]at h ⊢;rw[hA.aM x (by simp[K.bC])];cases hq:st.aM x with
  |loc b off=>
   rw[hq]at h;cases d with
   |none=>exact h
   |some d=>
    dsimp only at h ⊢;rw[hA.obj rfl rfl (.inl rfl) b (.inl ⟨rfl,λh=>by cases h⟩) (Xf hq (ad x _ (.inl rfl)))];exact h
  |_=>rw[hq]at h;exact h
 |store sz x y=>
  simp only[Ax,Au]at h ⊢;rw[hA.aM x (by simp[K.bC]),hA.aM y (by simp[K.bC])];cases hq:st.aM x with
  |loc b off=>
   rw[hq]at h;dsimp only at h ⊢;rw[hA.obj rfl rfl (.inl rfl) b (.inl ⟨rfl,λh=>by cases h⟩) (Xf hq (ad x _ (.inr (.inr (.inl ⟨_,_,rfl⟩)))))];exact h
  |el b sz' i off=>
   rw[hq]at h;simp only at h ⊢;rw[hA.obj rfl rfl (.inl rfl) b (.inl ⟨rfl,λh=>by cases h⟩) (Ajt hq (ad x _ (.inr (.inr (.inl ⟨_,_,rfl⟩)))))];exact h
  |_=>rw[hq]at h;exact h
 |storeT x s=>
  simp only[Ax,Au]at h ⊢;have hs:st'.get s=st.get s:=hA.aM (.tmp s) (by simp[K.bC]);rw[hA.aM x (by simp[K.bC]),hs];cases hq:st.aM x with
  |loc b off=>
   rw[hq]at h;dsimp only at h ⊢;rw[hA.obj rfl rfl (.inl rfl) b (.inl ⟨rfl,λh=>by cases h⟩) (Xf hq (ad x _ (.inr (.inr (.inr ⟨_,rfl⟩)))))];exact h
  |el b sz' i off=>
   rw[hq]at h;simp only at h ⊢;rw[hA.obj rfl rfl (.inl rfl) b (.inl ⟨rfl,λh=>by cases h⟩) (Ajt hq (ad x _ (.inr (.inr (.inr ⟨_,rfl⟩)))))];exact h
  |_=>rw[hq]at h;exact h
 |dB o=>
  simp only[Ax,Aup]at h ⊢;rw[Avg o.op.operands.toList (λx hx=>hA.aM x hx)];have:execOp st'.valOf o=execOp st.valOf o:=execOp_congr o (hA.sel o rfl) (λx hx=>by
   have:=hA.aM x (by simpa[K.bC]using hx);simp only[St.valOf,this])
  rw[this];exact h
 |bY tag x y=>simp only[Ax,Au,Amk]at h ⊢;rw[hA.aM x (by simp[K.bC]),hA.aM y (by simp[K.bC])];exact h
 |gM neg ts x y=>simp only[Ax,Au]at h ⊢;rw[hA.aM x (by simp[K.bC]),hA.aM y (by simp[K.bC])];exact h
 |field off x=>simp only[Ax,Au]at h ⊢;rw[hA.aM x (by simp[K.bC])];exact h
 |index sz x i=>simp only[Ax,Au]at h ⊢;rw[hA.aM x (by simp[K.bC]),hA.aM i (by simp[K.bC])];exact h
 |len x=>simp only[Ax,Au]at h ⊢;rw[hA.aM x (by simp[K.bC])];exact h
 |cap x=>simp only[Ax,Au]at h ⊢;rw[hA.aM x (by simp[K.bC])];exact h
 |app e sz by_ s x=>
  simp only[Ax,Au]at h ⊢;have:st'.get s=st.get s:=hA.aM (.tmp s) (by simp[K.bC]);rw[hA.aM x (by simp[K.bC]),this];exact h
 |clone cm e sz by_ s x=>
  simp only[Ax,Au]at h ⊢;have hs':st'.get s=st.get s:=hA.aM (.tmp s) (by simp[K.bC]);rw[hA.aM x (by simp[K.bC]),hs',hA.base];cases d with
  |none=>exact h
  |some d=>
   cases hn:LX.nil e with
   |none=>rw[hn]at h;exact h
   |some n=>
    rw[hn]at h;dsimp only at h ⊢;cases g1:Ar (st.base+d) (st.ob.map Prod.fst) with
    |true=>rw[g1]at h;rw[hA.key rfl d rfl g1];exact h
    |false=>rw[g1]at h;exact h.elim
 |call f args=>
  simp only[Ax,Au]at h ⊢;rw[Av5 args (λx hx=>hA.aM x hx)];cases g1:Vi st ban args with
  |false=>rw[g1]at h;exact h.elim
  |true=>
   rw[g1]at h;have:args.map (λx=>Ahk st'.obj (st'.aM x))=args.map (λx=>Ahk st.obj (st.aM x)):=by
    apply List.map_congr_left;intro x hx;rw[hA.aM x hx];cases hq:st.aM x with
    |loc b off=>exact A44 (hA.gX rfl b (A06 _ g1 x hx b off hq) (λh=>by cases h) (λa ha=>by cases ha))
    |_=>rfl
   rw[this];exact h
 |eY f args=>
  simp only[Ax,Au]at h ⊢;obtain⟨w1,w2⟩:=hA.gB rfl;obtain⟨hc,r,o',hI,hk⟩:=h;have:args.map (λx=>(st'.aM x).view)=args.map (λx=>(st.aM x).view):=List.map_congr_left λx hx=>by rw[hA.aM x hx]
  rw[this];exact⟨hc,r,o',hI.congr w1 w2,hk⟩
 |eZ x args=>
  simp only[Ax,Au]at h ⊢;obtain⟨w1,w2⟩:=hA.gB rfl;have:args.map (λx=>(st'.aM x).view)=args.map (λx=>(st.aM x).view):=List.map_congr_left λy hy=>by rw[hA.aM y (by simp[K.bC,hy])]
  rw[this,hA.aM x (by simp[K.bC])];split at h
  ·obtain⟨hc,r,o',hI,hk⟩:=h;exact⟨hc,r,o',hI.congr w1 w2,hk⟩
  ·exact h.elim
 |gI f n caps=>
  simp only[Ax,Au]at h ⊢;have:caps.map (λx=>(st'.aM x).view)=caps.map (λx=>(st.aM x).view):=List.map_congr_left λx hx=>by rw[hA.aM x hx]
  rw[this];exact h
 |extract x i=>simp only[Ax,Au]at h ⊢;rw[hA.aM x (by simp[K.bC])];exact h
 |nil x=>simp only[Ax,Au]at h ⊢;rw[hA.aM x (by simp[K.bC])];exact h
 |fQ e sz by_ z n=>
  simp only[Ax,Au]at h ⊢;rw[hA.aM n (by simp[K.bC]),hA.base];cases d with
  |none=>exact h
  |some s=>
   cases g1:Ar (st.base+s) (st.ob.map Prod.fst) with
   |true=>
    have g2:=hA.key rfl s rfl g1;split at h
    ·rename_i s' m hs hv;injection hs with hs
     subst hs;rw[g2];rw[g1]at h;exact h
    ·exact h.elim
   |false=>
    split at h
    ·rename_i s' m hs hv;injection hs with hs
     subst hs;rw[g1]at h;split at h
     ·split at h
      ·rename_i e _;cases e
      ·exact h.elim
     ·split at h
      ·rename_i e _;cases e
      ·exact h.elim
    ·exact h.elim
 |fK e sz by_ n=>simp only[Ax,Au]at h ⊢;rw[hA.aM n (by simp[K.bC])];exact h
 |gU sz x lo hi mx=>
  simp only[Ax,Au,Aj5]at h ⊢;have e1:∀d,st'.bnd d lo=st.bnd d lo:=λd=>m9 λy hy=>hA.aM y (by simp[K.bC,hy]);have e2:∀d,st'.bnd d hi=st.bnd d hi:=λd=>m9 λy hy=>hA.aM y (by simp[K.bC,hy]);have e3:∀d,st'.bnd d mx=st.bnd d mx:=λd=>m9 λy hy=>hA.aM y (by simp[K.bC,hy]);rw[hA.aM x (by simp[K.bC])];simp only[e1,e2,e3];exact h
 |fZ x lo hi=>
  simp only[Ax,Au]at h ⊢;have e1:∀d,st'.bnd d lo=st.bnd d lo:=λd=>m9 λy hy=>hA.aM y (by simp[K.bC,hy]);have e2:∀d,st'.bnd d hi=st.bnd d hi:=λd=>m9 λy hy=>hA.aM y (by simp[K.bC,hy]);rw[hA.aM x (by simp[K.bC])];simp only[e1,e2];exact h
 |fC gk gv ks vs=>
  simp only[Ax,Au]at h ⊢;cases d with
  |none=>exact h
  |some s=>
   simp only at h ⊢;rw[hA.base];cases g1:Ar (st.base+s) (st.ob.map Prod.fst) with
   |false=>rw[g1]at h;exact h.elim
   |true=>rw[g1]at h;rw[hA.key rfl s rfl g1];exact h
 |lookup gq ts ok g z m q=>
  simp only[Ax,Au]at h ⊢;rw[hA.aM m (by simp[K.bC]),hA.aM q (by simp[K.bC])];cases hq:st.aM m with
  |mp b=>
   rw[hq]at h;simp only at h ⊢;cases g1:Ar b ban with
   |false=>rw[g1]at h;exact h.elim
   |true=>rw[g1]at h;rw[hA.obj rfl rfl (.inl rfl) b (.inr g1) (λa ha=>by cases ha)];exact h
  |_=>rw[hq]at h;exact h
 |eT gq ts m q v=>
  simp only[Ax,Au]at h ⊢;rw[hA.aM m (by simp[K.bC]),hA.aM q (by simp[K.bC]),hA.aM v (by simp[K.bC])];cases hq:st.aM m with
  |mp b=>
   rw[hq]at h;dsimp only at h ⊢;rw[hA.obj rfl rfl (.inl rfl) b (.inl ⟨rfl,λh=>by cases h⟩) (λa ha=>by cases ha)];exact h
  |_=>rw[hq]at h;exact h
 |del gq ts m q=>
  simp only[Ax,Au]at h ⊢;rw[hA.aM m (by simp[K.bC]),hA.aM q (by simp[K.bC])];cases hq:st.aM m with
  |mp b=>
   rw[hq]at h;dsimp only at h ⊢;rw[hA.obj rfl rfl (.inl rfl) b (.inl ⟨rfl,λh=>by cases h⟩) (λa ha=>by cases ha)];exact h
  |_=>rw[hq]at h;exact h
 |fF f args=>
  simp only[Ax,Au]at h ⊢;have e0:Ru st' args=Ru st args:=Ah1 args (λx hx=>hA.aM x hx);have:args.map (λx=>(st'.aM x).view)=args.map (λx=>(st.aM x).view):=List.map_congr_left λx hx=>by rw[hA.aM x hx]
  rw[e0,this];exact h
 |gF x=>simp only[Ax,Au]at h ⊢;rw[hA.aM x (by simp[K.bC])];exact h
 |dN f args s=>
  simp only[Ax,Au]at h ⊢;cases g1:Akt s args with
  |false=>rw[g1]at h;exact h.elim
  |true=>
   rw[g1]at h;simp only at h ⊢;obtain⟨w1,w2⟩:=hA.gB rfl;obtain⟨hc,r,o',hI,hk⟩:=h;have e0:st'.get s=st.get s:=hA.aM (.tmp s) (by simp[K.bC]);have:args.map (λx=>st'.argT s x)=args.map (λx=>st.argT s x):=List.map_congr_left λx hx=>by
    have h2:=hA.aM x (by simp[K.bC,hx]);cases x with
    |tmp t=>
     have h2:st'.get t=st.get t:=h2;simp only[St.argT,h2]
    |_=>simp only[St.argT];rw[h2]
   rw[this,e0];exact⟨hc,r,o',hI.congr w1 w2,hk⟩
 |dJ s=>
  simp only[Ax]at h ⊢;rw[show st'.get s=st.get s from hA.aM (.tmp s) (by simp[K.bC])];exact h
 |dV r sz a x=>
  simp only[Ax,Au]at h ⊢;have e0:st'.get r=st.get r:=hA.aM (.tmp r) (by simp[K.bC]);rw[hA.aM a (by simp[K.bC]),hA.aM x (by simp[K.bC]),e0];cases hq:st.aM a with
  |loc b off=>
   cases hr:st.get r with
   |loc b' o'=>
    rw[hq,hr]at h;simp only at h ⊢;cases g1:Nat.beq b b' with
    |false=>rw[g1]at h;exact h.elim
    |true=>
     rw[g1]at h;rw[hA.obj rfl rfl (.inl rfl) b (.inl ⟨rfl,λh=>by cases h⟩) (λa ha=>by injection ha with ha;subst ha;rw[hr,Nat.eq_of_beq_eq_true g1];exact At.of_loc)];exact h
   |_=>rw[hq,hr]at h;exact h.elim
  |_=>rw[hq]at h;exact h.elim
 |eF near r g sz x=>
  simp only[Ax,Au]at h ⊢;have e0:st'.get r=st.get r:=hA.aM (.tmp r) (by simp[K.bC]);rw[hA.aM x (by simp[K.bC]),e0,hA.base];cases hq:st.aM x with
  |loc b off=>
   cases hr:st.get r with
   |loc b' o'=>
    rw[hq,hr]at h;simp only at h ⊢;cases g1:Ar b ban && (Nat.beq b b' && (!near || Nat.ble st.base b)) with
    |false=>rw[g1]at h;exact h.elim
    |true=>
     rw[g1]at h;simp only[Bool.and_eq_true,Bool.or_eq_true,Bool.not_eq_true']at g1;obtain⟨g2,g3,g4⟩:=g1;have g3:=Nat.eq_of_beq_eq_true g3;rw[hA.gX rfl b g2 (λhn=>Nat.le_of_ble_eq_true (g4.resolve_left (λe=>by have hn:near=true:=hn;rw[hn]at e;cases e))) (λa ha=>by injection ha with ha;subst ha;rw[hr,g3];exact At.of_loc)];exact h
   |_=>rw[hq,hr]at h;exact h.elim
  |_=>rw[hq]at h;exact h.elim
 |eP f args=>
  simp only[Ax]at h ⊢;split at h
  ·rename_i s r0;have e0:st'.get s=st.get s:=hA.aM (.tmp s) (by simp[K.bC]);have e1:List.map (λx=>(st'.aM x).view) (.tmp s::r0)=List.map (λx=>(st.aM x).view) (.tmp s::r0):=List.map_congr_left λx hx=>by rw[hA.aM x (by simpa[K.bC]using hx)]
   split at h
   ·rename_i hl;rw[e0,e1,hA.base];simp only[hl];have hloc:∃b,st.get s=.loc b 0/\b<st.base:=by
     unfold Bhe at hl;split at hl
     ·rename_i b hb;exact⟨b,hb,Nat.le_of_ble_eq_true hl⟩
     ·cases hl
    obtain⟨b,hb,hbn⟩:=hloc;have eo:=hA.obj rfl rfl (.inl rfl) b (.inl ⟨rfl,λ_=>hbn⟩) (λa ha=>by injection ha with ha;subst ha;rw[hb];exact At.of_loc);have ek:=hA.scn rfl b hbn (λa ha=>by injection ha with ha;subst ha;rw[hb];exact At.of_loc);have hv:List.map (λx=>(st.aM x).view) (.tmp s::r0)=.loc b 0::List.map (λx=>(st.aM x).view) r0:=by
     rw[List.map_cons];show(st.get s).view::_=_
     rw[hb];rfl
    rw[hv]at h ⊢;simp only[stK]at h ⊢;have eo':B4 [] st'.ob b=B4 [] st.ob b:=eo;rw[eo',ek];exact h
   ·exact h.elim
  ·exact h.elim
 |fU cm e sz parts=>
  simp only[Ax,Au]at h ⊢;cases d with
  |none=>exact h.elim
  |some d=>
   simp only at h ⊢;rw[hA.base];cases g1:Ar (st.base+d) (st.ob.map Prod.fst) with
   |false=>rw[g1]at h;exact h.elim
   |true=>
    rw[g1]at h;rw[hA.key rfl d rfl g1];exact Any sz parts _ (λx hx=>hA.aM x hx) h
 |fM cm e sz by_ s x=>
  simp only[Ax,Au]at h ⊢;have e0:st'.get s=st.get s:=hA.aM (.tmp s) (by simp[K.bC]);rw[e0,hA.aM x (by simp[K.bC])];cases d with
  |none=>exact h.elim
  |some d=>
   simp only at h ⊢;rw[hA.base];cases g1:Ar (st.base+d) (st.ob.map Prod.fst) with
   |false=>rw[g1]at h;exact h.elim
   |true=>
    rw[g1]at h;rw[hA.key rfl d rfl g1];split at h
    ·rename_i b _ _ _ own z _ hb hz;rw[hA.obj rfl rfl (.inr rfl) b (.inl ⟨rfl,λh=>by cases h⟩) (λa ha=>by cases ha)];exact h
    ·exact h.elim
 |ext sub x y c=>simp only[Ax,Au]at h ⊢;rw[hA.aM x (by simp[K.bC]),hA.aM y (by simp[K.bC]),hA.aM c (by simp[K.bC])];exact h
 |gL off sz g x=>simp only[Ax,Au]at h ⊢;rw[hA.aM x (by simp[K.bC])];exact h
 |stop=>exact h
def A3o(ban:List Nat)(o:K)(d:Option Nat)(st:St)(b:Nat):Prop:=(o.bD=true/\(∀a,o.addr=some a->At (st.get a) b)/\(o.eG=true->b<st.base))\/(o.makes=true/\∃s,d=some s/\b=st.base+s)
theorem Aut{o:K}{d:Option Nat}{st:St}{δ :B2}(h:Ax P (Ej P) (Eg P) ban o d st (λδ'=> δ'= δ)):
  (∀s∈δ.s.map Prod.fst,s∈Ek.writes ⟨d,none,o⟩)/\(∀b∈δ.o.map Prod.fst,A3o ban o d st b):=by
 have put:∀(p:PV),dput d p= δ->(∀s∈δ.s.map Prod.fst,s∈Ek.writes ⟨d,none,o⟩)/\(∀b∈δ.o.map Prod.fst,A3o ban o d st b):=by
  intro p e;subst e;cases d with
  |none=>exact⟨λs hs=>by simp[dput]at hs,λb hb=>by simp[dput]at hb⟩
  |some x=>exact⟨λs hs=>by simp[dput]at hs;simp[Ek.writes,hs],λb hb=>by simp[dput]at hb⟩
 have ad:∀(x:Operand) (o:K),(o=.loadT x\/(∃g sz,o=.load g sz x)\/(∃sz y,o=.store sz x y)\/∃s,o=.storeT x s)->o.addr=aOf x:=by
  intro x o ho;rcases ho with rfl|⟨g,sz,rfl⟩|⟨sz,y,rfl⟩|⟨s,rfl⟩<;>cases x<;>rfl
 cases o with
 |move x=>exact put _ h
 |fH e=>
  simp only[Ax,Au]at h;split at h
  ·subst h;exact⟨λy hy=>by simpa[Ek.writes]using hy,λb hb=>by simp at hb⟩
  ·exact h.elim
 |take s=>
  cases d with
  |none=>exact h.elim
  |some x=>subst h;exact⟨λy hy=>by simpa[Ek.writes]using hy,λb hb=>by simp at hb⟩
 |pick c x y=>
  simp only[Ax,Au]at h;split at h
  ·rename_i t _;cases t<;>exact put _ h
  ·exact h.elim
 |alloc z=>
  simp only[Ax,Au]at h;cases d with
  |none=>exact h.elim
  |some s=>
   simp only at h;split at h
   ·subst h;exact⟨λy hy=>by simpa[Ek.writes]using hy,λb hb=>by simp at hb;subst hb;exact .inr ⟨rfl,s,rfl,rfl⟩⟩
   ·exact h.elim
 |box x=>
  simp only[Ax,Au]at h;cases d with
  |none=>exact h.elim
  |some s=>
   simp only at h;split at h
   ·subst h;exact⟨λy hy=>by simpa[Ek.writes]using hy,λb hb=>by simp at hb;subst hb;exact .inr ⟨rfl,s,rfl,rfl⟩⟩
   ·exact h.elim
 |build z parts=>
  simp only[Ax,Au]at h;obtain⟨l,h1,_⟩:=Arf st _ _ _ h;exact put _ h1
 |eB e sz parts=>
  simp only[Ax,Au]at h;obtain⟨l,h1,_⟩:=Ac8 st _ _ _ h;split at h1
  ·split at h1
   ·exact put _ h1
   ·exact h1.elim
  ·exact put _ h1
 |load g sz x=>
  simp only[Ax,Au]at h;split at h
  ·split at h
   ·exact put _ h
   ·exact h.elim
  ·split at h
   ·exact put _ h
   ·exact h.elim
  ·split at h
   ·split at h
    ·exact put _ h
    ·exact h.elim
   ·exact h.elim
  ·exact h.elim
 |loadT x=>
  simp only[Ax,Au]at h;split at h
  ·rename_i b off d' hq;split at h
   ·subst h;exact⟨λy hy=>by simpa[Ek.writes]using hy,λb' hb=>by simp at hb;subst hb;exact .inl ⟨rfl,Xf hq (ad x _ (.inl rfl)),λh=>by cases h⟩⟩
   ·exact h.elim
  ·exact h.elim
 |store sz x y=>
  simp only[Ax,Au]at h;split at h
  ·rename_i b off hq;split at h
   ·subst h;exact⟨λy hy=>by simp at hy,λb' hb=>by simp at hb;subst hb;exact .inl ⟨rfl,Xf hq (ad x _ (.inr (.inr (.inl ⟨_,_,rfl⟩)))),λh=>by cases h⟩⟩
   ·exact h.elim
  ·rename_i b sz' i off hq;split at h
   ·split at h
    ·subst h;exact⟨λy hy=>by simp at hy,λb' hb=>by simp at hb;subst hb;exact .inl ⟨rfl,Ajt hq (ad x _ (.inr (.inr (.inl ⟨_,_,rfl⟩)))),λh=>by cases h⟩⟩
    ·exact h.elim
   ·exact h.elim
  ·exact h.elim
 |storeT x s=>
  simp only[Ax,Au]at h;split at h
  ·rename_i b off hq;split at h
   ·subst h;exact⟨λy hy=>by simp at hy;simp[Ek.writes,hy],λb' hb=>by simp at hb;subst hb;exact .inl ⟨rfl,Xf hq (ad x _ (.inr (.inr (.inr ⟨_,rfl⟩)))),λh=>by cases h⟩⟩
   ·exact h.elim
  ·rename_i b sz' i off hq;split at h
   ·split at h
    ·subst h;exact⟨λy hy=>by simp at hy;simp[Ek.writes,hy],λb' hb=>by simp at hb;subst hb;exact .inl ⟨rfl,Ajt hq (ad x _ (.inr (.inr (.inr ⟨_,rfl⟩)))),λh=>by cases h⟩⟩
    ·exact h.elim
   ·exact h.elim
  ·exact h.elim
 |dB o=>
  simp only[Ax,Aup]at h;cases g1:g7 st o.op.operands.toList with
  |false=>rw[g1]at h;exact h.elim
  |true=>
   rw[g1]at h;obtain⟨n,h1,_⟩:=Akw _ _ h;cases n with
   |value v=>
    simp only at h1;cases g2:Ams v with
    |false=>rw[g2]at h1;exact h1.elim
    |true=>rw[g2]at h1;exact put _ h1
   |_=>exact h1.elim
 |bY tag x y=>
  simp only[Ax,Au]at h;split at h
  ·split at h
   ·rename_i c r _;cases c with
    |true=>exact put _ h
    |false=>exact h.elim
   ·exact h.elim
  ·unfold Amk at h;split at h
   ·split at h
    ·simp only[Au]at h;exact put _ h.2
    ·simp only[Au]at h;exact put _ h.2
    ·exact h.elim
   ·exact h.elim
  ·exact h.elim
 |gM neg ts x y=>
  simp only[Ax,Au]at h;split at h
  ·split at h
   ·cases neg<;>exact put _ h
   ·exact h.elim
  ·exact h.elim
 |field off x=>
  simp only[Ax,Au]at h;split at h<;>first|exact h.elim|exact put _ h
 |index sz x i=>
  simp only[Ax,Au]at h;split at h
  ·split at h<;>first|exact h.elim|exact put _ h.2.2
  ·split at h
   ·split at h
    ·exact put _ h.2.2
    ·exact h.elim
   ·exact h.elim
  ·exact h.elim
 |len x=>
  simp only[Ax,Au]at h;split at h
  ·exact put _ h
  ·exact put _ h
  ·split at h
   ·exact put _ h
   ·exact h.elim
 |cap x=>
  simp only[Ax,Au]at h;split at h
  ·exact put _ h
  ·exact h.elim
 |app e sz by_ s x=>
  simp only[Ax,Au]at h;cases d with
  |none=>exact h.elim
  |some d=>
   simp only at h;split at h
   ·split at h
    ·have h':=h.2.2;subst h';exact⟨λy hy=>by simpa[Ek.writes]using hy,λb hb=>by simp at hb⟩
    ·exact h.elim
   ·split at h
    ·subst h;exact⟨λy hy=>by simpa[Ek.writes]using hy,λb hb=>by simp at hb⟩
    ·exact h.elim
   ·split at h
    ·have h':=h.2.2;subst h';exact⟨λy hy=>by simp at hy;simp[Ek.writes,hy],λb hb=>by simp at hb⟩
    ·exact h.elim
   ·exact h.elim
 |clone cm e sz by_ s x=>
  simp only[Ax,Au]at h;split at h
  ·rename_i d n _;split at h
   ·split at h
    ·rename_i own q _;split at h
     ·cases hb:Nat.beq q.len 0 with
      |true=>
       rw[hb]at h;have h':_= δ :=h;subst h';exact⟨λy hy=>by simpa[Ek.writes]using hy,λb hb=>by simp at hb⟩
      |false=>
       rw[hb]at h;have h':=h.2.2;subst h';exact⟨λy hy=>by simpa[Ek.writes]using hy,λb hb=>by simp at hb;subst hb;exact .inr ⟨rfl,d,rfl,rfl⟩⟩
     ·exact h.elim
    ·exact h.elim
   ·exact h.elim
  ·exact h.elim
 |call f args=>
  simp only[Ax,Au]at h;split at h
  ·obtain⟨r,_,h2⟩:=h;exact put _ h2
  ·exact h.elim
 |eY f args=>
  simp only[Ax,Au]at h;obtain⟨_,r,o',_,h2⟩:=h;refine⟨λs hs=>?_,λb _=>.inl ⟨rfl,λa ha=>(by cases ha),λh=>by cases h⟩⟩;have: δ.s=(dput d r).s:=by rw[<-h2]
  rw[this]at hs;cases d with
  |none=>simp[dput]at hs
  |some x=>simp[dput]at hs;simp[Ek.writes,hs]
 |eZ x args=>
  simp only[Ax,Au]at h;split at h
  ·obtain⟨_,r,o',_,h2⟩:=h;refine⟨λs hs=>?_,λb _=>.inl ⟨rfl,λa ha=>(by cases ha),λh=>by cases h⟩⟩;have: δ.s=(dput d r).s:=by rw[<-h2]
   rw[this]at hs;cases d with
   |none=>simp[dput]at hs
   |some x=>simp[dput]at hs;simp[Ek.writes,hs]
  ·exact h.elim
 |gI f n caps=>exact put _ h
 |extract x i=>
  simp only[Ax,Au]at h;split at h
  ·split at h
   ·exact put _ h
   ·exact h.elim
  ·exact h.elim
 |nil x=>
  simp only[Ax,Au]at h;split at h<;>first|exact h.elim|exact put _ h
 |fQ e sz by_ z n=>
  simp only[Ax,Au]at h;split at h
  ·rename_i s m hv;split at h
   ·split at h
    ·subst h;exact⟨λy hy=>by simpa[Ek.writes]using hy,λb hb=>by simp at hb;subst hb;exact .inr ⟨rfl,s,rfl,rfl⟩⟩
    ·exact h.elim
   ·split at h
    ·split at h
     ·have h':=h.2.2.2;subst h';exact⟨λy hy=>by simpa[Ek.writes]using hy,λb hb=>by simp at hb;subst hb;exact .inr ⟨rfl,s,rfl,rfl⟩⟩
     ·exact h.elim
    ·exact h.elim
  ·exact h.elim
 |fK e sz by_ n=>
  simp only[Ax,Au]at h;split at h
  ·split at h
   ·have h':=h.2.2.2;subst h';exact⟨λy hy=>by simpa[Ek.writes]using hy,λb hb=>by simp at hb⟩
   ·exact h.elim
  ·exact h.elim
 |gU sz x lo hi mx=>
  simp only[Ax,Au,Aj5]at h;split at h
  ·split at h
   ·split at h
    ·split at h
     ·exact put _ h.2.2.2.2.2
     ·exact h.elim
    ·exact h.elim
   ·exact h.elim
  ·exact h.elim
 |fZ x lo hi=>
  simp only[Ax,Au]at h;split at h
  ·split at h
   ·split at h
    ·exact put _ h.2.2.2
    ·exact h.elim
   ·exact h.elim
  ·exact h.elim
 |fC gk gv ks vs=>
  simp only[Ax,Au]at h;cases d with
  |none=>exact h.elim
  |some s=>
   simp only at h;split at h
   ·subst h;exact⟨λy hy=>by simpa[Ek.writes]using hy,λb hb=>by simp at hb;subst hb;exact .inr ⟨rfl,s,rfl,rfl⟩⟩
   ·exact h.elim
 |lookup gq ts ok g z m q=>
  simp only[Ax,Au]at h;split at h
  ·split at h
   ·split at h
    ·rename_i r _ _ _;cases r<;>exact put _ h
    ·exact h.elim
   ·exact h.elim
  ·exact h.elim
 |eT gq ts m q v=>
  have fin:∀(b:Nat) (l:List PV),(⟨[],[(b,l)]⟩:B2)= δ->(∀s∈δ.s.map Prod.fst,s∈Ek.writes ⟨d,none,.eT gq ts m q v⟩)/\(∀b∈δ.o.map Prod.fst,A3o ban (.eT gq ts m q v) d st b):=by
   intro b l e;subst e;exact⟨λy hy=>by simp at hy,λb' hb=>.inl ⟨rfl,λa ha=>(by cases ha),λh=>by cases h⟩⟩
  simp only[Ax,Au]at h;split at h
  ·split at h
   ·split at h
    ·rename_i r c _ _ _;cases r with
     |none=>
      simp only[fk]at h;split at h
      ·exact fin _ _ h
      ·exact h.elim
     |some i=>
      simp only[fk]at h;split at h
      ·exact fin _ _ h
      ·exact h.elim
    ·exact h.elim
   ·exact h.elim
  ·exact h.elim
 |del gq ts m q=>
  simp only[Ax,Au]at h;split at h
  ·split at h
   ·split at h
    ·rename_i r _ _;cases r with
     |none=>
      simp only[fk]at h;subst h;exact⟨λy hy=>by simp at hy,λb' hb=>by simp at hb⟩
     |some i=>
      simp only[fk]at h;split at h
      ·subst h;exact⟨λy hy=>by simp at hy,λb' hb=>.inl ⟨rfl,λa ha=>(by cases ha),λh=>by cases h⟩⟩
      ·exact h.elim
    ·exact h.elim
   ·exact h.elim
  ·exact h.elim
 |fF f args=>
  simp only[Ax,Au]at h;split at h
  ·obtain⟨hc,r,o',h1,h2⟩:=h;unfold A4u at h2;split at h2
   ·exact put _ h2
   ·exact h2.elim
  ·exact h.elim
 |gF x=>
  simp only[Ax,Au]at h;split at h
  ·split at h
   ·exact put _ h
   ·exact h.elim
  ·exact put _ h
  ·exact h.elim
 |dN f args s0=>
  simp only[Ax,Au]at h;split at h
  ·obtain⟨_,r,o',_,h2⟩:=h;refine⟨λs hs=>?_,λb _=>.inl ⟨rfl,λa ha=>(by cases ha),λh=>by cases h⟩⟩;have: δ.s=(dput d r).s++ [(s0,(st.get s0).view)]:=by rw[<-h2]
   rw[this]at hs;cases d with
   |none=>simp[dput]at hs;simp[Ek.writes,hs]
   |some x=>simp[dput]at hs;simp[Ek.writes];exact hs
  ·exact h.elim
 |dJ s=>
  simp only[Ax]at h;split at h
  ·subst h;exact⟨λy hy=>by simpa[Ek.writes]using hy,λb hb=>by simp at hb⟩
  ·subst h;exact⟨λy hy=>by simp[dput]at hy;simp[Ek.writes,hy],λb hb=>by simp[dput]at hb⟩
  ·exact h.elim
 |dV r sz a x=>
  simp only[Ax,Au]at h;split at h
  ·rename_i b off b' o' hq hr;split at h
   ·rename_i g1 _ _ _;subst h;exact⟨λy hy=>by simp at hy,λb'' hb=>by simp at hb;subst hb;exact .inl ⟨rfl,λa ha=>(by injection ha with ha;subst ha;rw[hr,Nat.eq_of_beq_eq_true g1];exact At.of_loc),λh=>by cases h⟩⟩
   ·exact h.elim
  ·exact h.elim
 |eF near r g sz x=>
  simp only[Ax,Au]at h;split at h
  ·split at h
   ·exact put _ h
   ·exact h.elim
  ·exact h.elim
 |eP f args=>
  simp only[Ax]at h;split at h
  ·rename_i s r0;split at h
   ·rename_i hl;have hloc:∃b,st.get s=.loc b 0/\b<st.base:=by
     unfold Bhe at hl;split at hl
     ·rename_i b hb;exact⟨b,hb,Nat.le_of_ble_eq_true hl⟩
     ·cases hl
    obtain⟨b,hb,hbn⟩:=hloc;have hv:List.map (λx=>(st.aM x).view) (.tmp s::r0)=.loc b 0::List.map (λx=>(st.aM x).view) r0:=by
     rw[List.map_cons];show(st.get s).view::_=_
     rw[hb];rfl
    rw[hv]at h;simp only[stK]at h;split at h
    ·obtain⟨r,_,h2⟩:=h;split at h2
     ·rename_i r1 l;subst h2;refine⟨λy hy=>?_,λb' hb'=>?_⟩
      ·cases d with
       |none=>simp[dput]at hy
       |some x=>simp[dput]at hy;simp[Ek.writes,hy]
      ·simp at hb';subst hb';exact .inl ⟨rfl,λa ha=>by injection ha with ha;subst ha;rw[hb];exact At.of_loc,λ_=>hbn⟩
     ·exact h2.elim
    ·exact h.elim
   ·exact h.elim
  ·exact h.elim
 |fU cm e sz parts=>
  simp only[Ax,Au]at h;cases d with
  |none=>exact h.elim
  |some d=>
   simp only at h;split at h
   ·obtain⟨l,h1,_⟩:=Ac8 st _ _ _ h;cases cm with
    |true=>
     have h1:_= δ :=h1;subst h1;exact⟨λy hy=>by simpa[Ek.writes]using hy,λb hb=>by simp at hb;subst hb;exact .inr ⟨rfl,d,rfl,rfl⟩⟩
    |false=>
     simp only at h1;split at h1
     ·split at h1
      ·subst h1;exact⟨λy hy=>by simpa[Ek.writes]using hy,λb hb=>by simp at hb;subst hb;exact .inr ⟨rfl,d,rfl,rfl⟩⟩
      ·exact h1.elim
     ·exact h1.elim
   ·exact h.elim
 |fM cm e sz by_ s x=>
  simp only[Ax,Au]at h;cases d with
  |none=>exact h.elim
  |some d=>
   simp only at h;split at h
   ·split at h
    ·split at h
     ·have h':=h.2.2;subst h';refine⟨λy hy=>by simpa[Ek.writes]using hy,λb hb=>?_⟩;simp at hb;rcases hb with rfl|rfl
      ·exact .inr ⟨rfl,d,rfl,rfl⟩
      ·exact .inl ⟨rfl,λa ha=>(by cases ha),λh=>by cases h⟩
     ·exact h.elim
    ·exact h.elim
   ·exact h.elim
 |ext sub x y c=>
  simp only[Ax,Au]at h;split at h
  ·exact put _ h.2
  ·exact h.elim
 |gL off sz g x=>
  simp only[Ax,Au]at h;split at h
  ·split at h
   ·exact put _ h
   ·exact h.elim
  ·exact h.elim
 |stop=>exact h.elim
end
end Go.Proofs.YtgacplpjamkieaaGreat.Ev
namespace Go.Proofs.YtgacplpjamkieaaGreat.Ev
open Go Go.RowKit
structure Km (s t:St):Prop where
 base:s.base=t.base
 get:∀x,s.get x=t.get x
 obj:∀d,s.obj d=t.obj d
 key:∀d,Ar d (s.ob.map Prod.fst)=Ar d (t.ob.map Prod.fst)
theorem Km.refl(s:St):Km s s:=⟨rfl,λ_=>rfl,λ_=>rfl,λ_=>rfl⟩
theorem Km.symm{s t:St}(h:Km s t):Km t s:=⟨h.base.symm,λx=>(h.get x).symm,λd=>(h.obj d).symm,λd=>(h.key d).symm⟩
theorem Km.trans{s t u:St}(h:Km s t)(h':Km t u):Km s u:=⟨h.base.trans h'.base,λx=>(h.get x).trans (h'.get x),λd=>(h.obj d).trans (h'.obj d),λd=>(h.key d).trans (h'.key d)⟩
theorem Pr(st:St)(δ :B2)(s:Nat):(st.app δ).get s=if s∈δ.s.map Prod.fst then B4 .any δ.s s else st.get s:=Gk _ _ _ _
theorem Rp(st:St)(δ :B2)(s:Nat):(st.app δ).obj s=if s∈δ.o.map Prod.fst then B4 [] δ.o s else st.obj s:=(Aao _ _ _).trans (Gk _ _ _ _)
theorem Nj(st:St)(δ :B2)(s:Nat):Ar s ((st.app δ).ob.map Prod.fst)=(Ar s (δ.o.map Prod.fst) && Ar s (st.ob.map Prod.fst)):=by
 rw[<-H1,<-List.map_append];exact Ag8 _ _ _
theorem Km.app{s t:St}(h:Km s t)(δ :B2):Km (s.app δ) (t.app δ):=
 ⟨h.base,λx=>by rw[Pr,Pr,h.get],λx=>by rw[Rp,Rp,h.obj],λx=>by rw[Nj,Nj,h.key]⟩
section
variable {ι :Type} {cx: ι->PV×Value} {P:Program} {C:Ba} {X:Inl} {ban:List Nat} {w0:D7} {w:World} {N M:Jw} {β :Kh} {nt:Nat} {st:St} {a:Act}
theorem SR.equiv{st':St}(h:SR cx w0 N nt st a w M β)(he:Km st st'):SR cx w0 N nt st' a w M β :=by
 have e1:st'.obj=st.obj:=funext λd=>(he.obj d).symm;have e2:(λd=>Ar d (st'.ob.map Prod.fst))=λd=>Ar d (st.ob.map Prod.fst):=funext λd=>(he.key d).symm;have e3:hold cx st' a=hold cx st a:=funext λk=>by
  cases k with
  |inl s=>simp only[hold];rw[he.get]
  |inr i=>rfl
 refine⟨h.defs,h.nt,?_⟩;rw[e1,e2,e3];exact h.sh
theorem Km.aM{s t:St}(h:Km s t)(x:Operand):t.aM x=s.aM x:=by
 cases x with
 |tmp n=>exact(h.get n).symm
 |_=>rfl
theorem Km.agree{s t:St}(h:Km s t)(o:K)(d:Option Nat)(hsel:∀o',o=.dB o'->∀cs b,o'.op≠ .select cs b):A5l ban o d s t:=
 ⟨λx _=>h.aM x,λ_ _ _ b _ _=>(h.obj b).symm,λ_ b _ _ _=>by unfold St.vobj;rw[h.obj b],λ_ s _ hs=>by rw[<-h.key];exact hs,hsel,h.base.symm,λ_ b _ _=>(h.key b).symm,λ_=>⟨λb=>(h.obj b).symm,λb=>(h.key b).symm⟩⟩
def Og(P:Program)(ban:List Nat)(eo:Ek)(st:St)(δ :B2):Prop:=match eo.g with
 |none=>Ax P (Ej P) (Eg P) ban eo.k eo.dst st (λδ'=> δ'= δ)
 |some (s,want)=>(∃t,st.get s=.val (.bool t)/\(t=want->Ax P (Ej P) (Eg P) ban eo.k eo.dst st (λδ'=> δ'= δ))/\(t≠want->δ =dput eo.dst (.aY [])))\/(st.get s=.aY []/\δ =dput eo.dst (.aY []))
inductive Run (P:Program) (ban:List Nat):List Ek->St->List B2->St->Prop
 |nil (st:St):Run P ban [] st [] st
 |cons (eo:Ek) (l:List Ek) (st st':St) (δ :B2) (δs:List B2) (h:Og P ban eo st δ) (hr:Run P ban l (st.app δ) δs st'):Run P ban (eo::l) st (δ :: δs) st'
theorem A7n{st:St}{s:Nat}{p:PV}(h:st.get s=p):Km (st.put s p) st:=
 ⟨rfl,λx=>by
  have:(st.put s p).get x=if s=x then p else st.get x:=B3 _ _ _ _ _
  rw[this];by_cases e:s=x
  ·subst e;rw[if_pos rfl,h]
  ·rw[if_neg e],λ_=>rfl,λ_=>rfl⟩
theorem At1(hC:B8 P C)(hX:Jb P X):∀(l:List Ek) (st st0:St) (k:St->Prop),(∀eo∈l,∀o',eo.k=.dB o'->∀cs b,o'.op≠ .select cs b)->Km st st0->M4 P C X ban l st k->
  ∃δs st1 st',Run P ban l st0 δs st1/\Km st' st1/\k st':=by
 intro l
 induction l with
 |nil=>intro st st0 k _ he h;exact⟨[],st0,st,.nil _,he,h⟩
 |cons eo l ih=>
  intro st st0 k hsel he h;have hsel1:=hsel eo (by simp);have hsel2:∀eo∈l,∀o',eo.k=.dB o'->∀cs b,o'.op≠ .select cs b:=λe hm=>hsel e (List.mem_cons_of_mem _ hm);have run1:∀(su:St),Km su st0->Ax P C X ban eo.k eo.dst su (λδ =>M4 P C X ban l (su.app δ) k)->
    ∃δ,Ax P (Ej P) (Eg P) ban eo.k eo.dst st0 (λδ'=> δ'= δ)/\∃δs st1 st',Run P ban l (st0.app δ) δs st1/\Km st' st1/\k st':=by
   intro su hu hs;obtain⟨δ,h1,h2⟩:=Ahb hC hX _ _ _ _ hs;exact⟨δ,Ado (hu.agree _ _ hsel1) (h2 (λδ'=> δ'= δ) rfl),ih _ _ _ hsel2 (hu.app δ) h1⟩
  simp only[M4]at h;cases hg:eo.g with
  |none=>
   rw[hg]at h;obtain⟨δ,h1,δs,st1,st',h2,h3,h4⟩:=run1 st he h;exact⟨δ :: δs,st1,st',.cons eo l st0 st1 δ δs (by unfold Og;rw[hg];exact h1) h2,h3,h4⟩
  |some sw=>
   obtain⟨s,want⟩:=sw;rw[hg]at h;simp only at h;cases hq:st.get s with
   |val v=>
    rw[hq]at h;cases v with
    |bool t=>
     have hq0:st0.get s=.val (.bool t):=by rw[<-he.get,hq]
     have hu:Km (st.put s (.val (.bool t))) st0:=(A7n hq).trans he;have skip:M4 P C X ban l ((st.put s (.val (.bool t))).app (dput eo.dst (.aY []))) k->t≠want->
       ∃δs st1 st',Run P ban (eo::l) st0 δs st1/\Km st' st1/\k st':=by
      intro hs hne;obtain⟨δs,st1,st',h2,h3,h4⟩:=ih _ (st0.app (dput eo.dst (.aY []))) _ hsel2 (hu.app _) hs;exact⟨_:: δs,st1,st',.cons eo l st0 st1 _ δs (by unfold Og;rw[hg];exact .inl ⟨t,hq0,λe=>absurd e hne,λ_=>rfl⟩) h2,h3,h4⟩
     have take:Ax P C X ban eo.k eo.dst (st.put s (.val (.bool t))) (λδ =>M4 P C X ban l ((st.put s (.val (.bool t))).app δ) k)->t=want->
       ∃δs st1 st',Run P ban (eo::l) st0 δs st1/\Km st' st1/\k st':=by
      intro hs heq;obtain⟨δ,h1,δs,st1,st',h2,h3,h4⟩:=run1 _ hu hs;exact⟨δ :: δs,st1,st',.cons eo l st0 st1 δ δs (by unfold Og;rw[hg];exact .inl ⟨t,hq0,λ_=>h1,λe=>absurd heq e⟩) h2,h3,h4⟩
     cases t<;>cases want<;>simp only[br]at h<;>first|exact take h rfl|exact skip h (by decide)
    |_=>exact h.elim
   |aY l0=>
    rw[hq]at h;cases l0 with
    |nil=>
     have hq0:st0.get s=.aY []:=by rw[<-he.get,hq]
     obtain⟨δs,st1,st',h2,h3,h4⟩:=ih _ (st0.app (dput eo.dst (.aY []))) _ hsel2 (he.app _) h;exact⟨_:: δs,st1,st',.cons eo l st0 st1 _ δs (by unfold Og;rw[hg];exact .inr ⟨hq0,rfl⟩) h2,h3,h4⟩
    |cons _ _=>exact h.elim
   |_=>rw[hq]at h;exact h.elim
def Ki:List B2->(Nat->Bool)->St->St
 | [],_,st=>st
 | δ ::r,m,st=>Ki r (λi=>m (i+1)) (if m 0 then st.app δ else st)
theorem A47:∀(δs:List B2) (m m':Nat->Bool) (st:St),(∀i,i<δs.length->m i=m' i)->Ki δs m st=Ki δs m' st:=by
 intro δs
 induction δs with
 |nil=>intro m m' st _;rfl
 |cons δ r ih=>
  intro m m' st h;simp only[Ki];rw[h 0 (by simp)];exact ih _ _ _ (λi hi=>h (i+1) (by simp;omega))
theorem Agr:∀(δs:List B2) (m:Nat->Bool) (st:St),(∀i,i<δs.length->m i=false)->Ki δs m st=st:=by
 intro δs
 induction δs with
 |nil=>intro m st _;rfl
 |cons δ r ih=>
  intro m st h;simp only[Ki];rw[h 0 (by simp)];exact ih _ _ (λi hi=>h (i+1) (by simp;omega))
theorem Run.length{l:List Ek}{st st':St}{δs:List B2}(h:Run P ban l st δs st'): δs.length=l.length:=by
 induction h with
 |nil=>rfl
 |cons eo l st st' δ δs _ _ ih=>simp[ih]
theorem Run.at{l:List Ek}{st st':St}{δs:List B2}(h:Run P ban l st δs st'):∀(i:Nat) (eo:Ek) (δ :B2),l[i]? =some eo->δs[i]? =some δ->Og P ban eo (Ki δs (λj=>decide (j<i)) st) δ :=by
 induction h with
 |nil=>intro i eo δ h;simp at h
 |cons eo l st st' δ δs h1 _ ih=>
  intro i e d he hd;cases i with
  |zero=>
   simp at he hd;subst he;subst hd
   have:Ki (δ :: δs) (λj=>decide (j<0)) st=st:=Agr _ _ _ (λi _=>by simp);rw[this];exact h1
  |succ i=>
   have:=ih i e d (by simpa using he) (by simpa using hd);simp only[Ki];simpa using this
theorem Run.last{l:List Ek}{st st':St}{δs:List B2}(h:Run P ban l st δs st'):st'=Ki δs (λ_=>true) st:=by
 induction h with
 |nil=>rfl
 |cons eo l st st' δ δs _ _ ih=>simp only[Ki];exact ih
theorem Aw7:∀(δs:List B2) (m m':Nat->Bool) (st st':St) (s:Nat),st.get s=st'.get s->(∀(i:Nat) (δ :B2),δs[i]? =some δ->s∈δ.s.map Prod.fst->m i=m' i)->
  (Ki δs m st).get s=(Ki δs m' st').get s:=by
 intro δs
 induction δs with
 |nil=>intro m m' st st' s h _;exact h
 |cons δ r ih=>
  intro m m' st st' s h hm;simp only[Ki];refine ih _ _ _ _ s ?_ (λi δ' hi hs=>hm (i+1) δ' (by simpa using hi) hs);by_cases hs:s∈δ.s.map Prod.fst
  ·rw[hm 0 δ rfl hs];cases m' 0
   ·exact h
   ·simp only[if_true];rw[Pr,Pr,if_pos hs,if_pos hs]
  ·have e1:∀(b:Bool) (st:St),(if b then st.app δ else st).get s=st.get s:=λb st=>by
    cases b
    ·rfl
    ·simp only[if_true];rw[Pr,if_neg hs]
   rw[e1,e1];exact h
theorem Ak8:∀(δs:List B2) (m m':Nat->Bool) (st st':St) (s:Nat),st.obj s=st'.obj s->(∀(i:Nat) (δ :B2),δs[i]? =some δ->s∈δ.o.map Prod.fst->m i=m' i)->
  (Ki δs m st).obj s=(Ki δs m' st').obj s:=by
 intro δs
 induction δs with
 |nil=>intro m m' st st' s h _;exact h
 |cons δ r ih=>
  intro m m' st st' s h hm;simp only[Ki];refine ih _ _ _ _ s ?_ (λi δ' hi hs=>hm (i+1) δ' (by simpa using hi) hs);by_cases hs:s∈δ.o.map Prod.fst
  ·rw[hm 0 δ rfl hs];cases m' 0
   ·exact h
   ·simp only[if_true];rw[Rp,Rp,if_pos hs,if_pos hs]
  ·have e1:∀(b:Bool) (st:St),(if b then st.app δ else st).obj s=st.obj s:=λb st=>by
    cases b
    ·rfl
    ·simp only[if_true];rw[Rp,if_neg hs]
   rw[e1,e1];exact h
theorem Aw8:∀(δs:List B2) (m m':Nat->Bool) (st st':St) (s:Nat),Ar s (st.ob.map Prod.fst)=Ar s (st'.ob.map Prod.fst)->(∀(i:Nat) (δ :B2),δs[i]? =some δ->s∈δ.o.map Prod.fst->m i=m' i)->
  Ar s ((Ki δs m st).ob.map Prod.fst)=Ar s ((Ki δs m' st').ob.map Prod.fst):=by
 intro δs
 induction δs with
 |nil=>intro m m' st st' s h _;exact h
 |cons δ r ih=>
  intro m m' st st' s h hm;simp only[Ki];refine ih _ _ _ _ s ?_ (λi δ' hi hs=>hm (i+1) δ' (by simpa using hi) hs);by_cases hs:s∈δ.o.map Prod.fst
  ·rw[hm 0 δ rfl hs];cases m' 0
   ·exact h
   ·simp only[if_true];rw[Nj,Nj,h]
  ·have e0:Ar s (δ.o.map Prod.fst)=true:=(Be _ _).2 hs;have e1:∀(b:Bool) (st:St),Ar s ((if b then st.app δ else st).ob.map Prod.fst)=Ar s (st.ob.map Prod.fst):=λb st=>by
    cases b
    ·rfl
    ·simp only[if_true];rw[Nj,e0,Bool.true_and]
   rw[e1,e1];exact h
theorem A76:∀(δs:List B2) (m:Nat->Bool) (st:St) (k:Nat) (δ :B2) (a:Nat),δs[k]? =some δ->m k=true->a∈δ.s.map Prod.fst->
  (∀(j:Nat) (δ':B2),j≠k->δs[j]? =some δ'->a∉δ'.s.map Prod.fst)->(Ki δs m st).get a=B4 .any δ.s a:=by
 intro δs
 induction δs with
 |nil=>intro m st k δ a h;simp at h
 |cons δ0 r ih=>
  intro m st k δ a h hm ha hn;simp only[Ki];cases k with
  |zero=>
   simp at h;subst h;rw[hm];simp only[if_true];rw[Aw7 r _ (λ_=>false) (st.app δ0) (st.app δ0) a rfl (λi δ' hi hs=>absurd hs (hn (i+1) δ' (by omega) (by simpa using hi))),Agr _ _ _ (λ_ _=>rfl),Pr,if_pos ha]
  |succ k=>exact ih _ _ k δ a (by simpa using h) hm ha (λj δ' hj hδ =>hn (j+1) δ' (by omega) (by simpa using hδ))
theorem Azv:∀(δs:List B2) (m:Nat->Bool) (st:St) (b:Nat),
  ((∀(k:Nat) (δ :B2),m k=true->δs[k]? =some δ->b∉δ.o.map Prod.fst)/\(Ki δs m st).obj b=st.obj b)\/
  ∃k δ,m k=true/\δs[k]? =some δ/\b∈δ.o.map Prod.fst/\(∀(j:Nat) (δ':B2),k<j->m j=true->δs[j]? =some δ'->b∉δ'.o.map Prod.fst)/\(Ki δs m st).obj b=B4 [] δ.o b:=by
 intro δs
 induction δs with
 |nil=>intro m st b;exact .inl ⟨λk δ _ h=>by simp at h,rfl⟩
 |cons δ0 r ih=>
  intro m st b;simp only[Ki];rcases ih (λi=>m (i+1)) (if m 0 then st.app δ0 else st) b with⟨h1,h2⟩|⟨k,δ,h1,h2,h3,h4,h5⟩
  ·by_cases hb:m 0=true/\b∈δ0.o.map Prod.fst
   ·refine .inr ⟨0,δ0,hb.1,rfl,hb.2,λj δ' hj hm hδ =>?_,?_⟩
    ·cases j with
     |zero=>omega
     |succ j=>exact h1 j δ' hm (by simpa using hδ)
    ·rw[h2,hb.1];simp only[if_true];rw[Rp,if_pos hb.2]
   ·refine .inl ⟨λk δ hm hδ =>?_,?_⟩
    ·cases k with
     |zero=>simp at hδ;subst hδ;exact λh=>hb ⟨hm,h⟩
     |succ k=>exact h1 k δ hm (by simpa using hδ)
    ·rw[h2];cases hm:m 0 with
     |false=>rfl
     |true=>
      simp only[if_true];rw[Rp,if_neg (λh=>hb ⟨hm,h⟩)]
  ·refine .inr ⟨k+1,δ,h1,by simpa using h2,h3,λj δ' hj hm hδ =>?_,h5⟩;cases j with
   |zero=>omega
   |succ j=>exact h4 j δ' (by omega) hm (by simpa using hδ)
theorem Aus{δs:List B2}{st:St}{b:Nat}(T:Nat->Bool)(hT:∀(k:Nat) (δ :B2),T k=true->δs[k]? =some δ->b∈δ.o.map Prod.fst->(B4 [] δ.o b).map PV.view=(Ki δs (λj=>decide (j<k)) st).vobj b):
  ∀(n:Nat) (m:Nat->Bool),(∀k,m k=true->(δs[k]?).isSome=true->k<n)->
   (∀(k j:Nat) (δ δ':B2),T k=true->m k=true->δs[k]? =some δ->b∈δ.o.map Prod.fst->T j=false->δs[j]? =some δ'->b∈δ'.o.map Prod.fst->j<k->m j=true)->
   (Ki δs m st).vobj b=(Ki δs (λj=>m j && !T j) st).vobj b:=by
 intro n
 induction n using Nat.strongRecOn with
 |ind n ih=>
  intro m hn hc;rcases Azv δs m st b with⟨h1,h2⟩|⟨k,δ,h1,h2,h3,h4,h5⟩
  ·unfold St.vobj;rw[Ak8 δs (λj=>m j && !T j) (λ_=>false) st st b rfl (λi δ hi hb=>?_),Agr _ _ _ (λ_ _=>rfl),h2];cases hm:m i with
   |false=>rfl
   |true=>exact absurd hb (h1 i δ hm hi)
  ·cases hk:T k with
   |false=>
    rcases Azv δs (λj=>m j && !T j) st b with⟨g1,g2⟩|⟨k',δ',g1,g2,g3,g4,g5⟩
    ·exact absurd h3 (g1 k δ (by simp[h1,hk]) h2)
    ·have e:k'=k:=by
      rcases Nat.lt_trichotomy k k' with h|h|h
      ·simp only[Bool.and_eq_true]at g1;exact absurd g3 (h4 k' δ' h g1.1 g2)
      ·exact h.symm
      ·exact absurd h3 (g4 k δ h (by simp[h1,hk]) h2)
     subst e;rw[h2]at g2;injection g2 with g2
     subst g2;unfold St.vobj;rw[h5,g5]
   |true=>
    have hkn:=hn k h1 (by rw[h2];rfl);have hsub:∀(j:Nat) (δ':B2),T j=false->δs[j]? =some δ'->b∈δ'.o.map Prod.fst->(decide (j<k))=m j:=by
     intro j δ' hj hδ hb;by_cases hlt:j<k
     ·rw[hc k j δ δ' hk h1 h2 h3 hj hδ hb hlt];simp[hlt]
     ·cases hm:m j with
      |false=>simp[hlt]
      |true=>
       have hne:j≠k:=by rintro rfl;rw[hk]at hj;cases hj
       exact absurd hb (h4 j δ' (by omega) hm hδ)
    have e1:=ih k hkn (λj=>decide (j<k)) (λj hj _=>by simpa using hj) (λk' j _ _ _ hk' _ _ _ _ _ hj=>by
     have:=of_decide_eq_true hk';exact decide_eq_true (by omega))
    have e2:(Ki δs m st).vobj b=(Ki δs (λj=>decide (j<k)) st).vobj b:=by
     rw[<-hT k δ hk h2 h3];unfold St.vobj;rw[h5]
    rw[e2,e1];unfold St.vobj;rw[Ak8 δs _ (λj=>m j && !T j) st st b rfl (λi δ' hi hb=>?_)];cases hti:T i with
    |true=>simp
    |false=>simp only[Bool.not_false,Bool.and_true];exact hsub i δ' hti hi hb
theorem A41(l:List PV):∀(off:Nat),(Hy l off [(Lq l off).view]).map PV.view=l.map PV.view:=by
 have vv:∀p:PV,p.view.view=p.view:=λp=>by
  have v0:∀p:PV,p.dD.dD=p.dD:=λp=>by cases p<;>rfl
  cases p with
  |aY l=>cases l with
   |nil=>rfl
   |cons q r=>show PV.aY (q.dD.dD::r)=PV.aY (q.dD::r);rw[v0]
  |_=>rfl
 induction l with
 |nil=>intro off;rfl
 |cons p l ih=>
  intro off;cases off with
  |zero=>
   have:Hy (p::l) 0 [(Lq (p::l) 0).view]=p.view::l:=by cases l<;>rfl
   rw[this];simp[vv]
  |succ n=>
   have:Hy (p::l) (n+1) [(Lq (p::l) (n+1)).view]=p::Hy l n [(Lq l n).view]:=rfl;rw[this];simp[ih n]
theorem A1c{eo:Ek}{st:St}{δ :B2}(h:Og P ban eo st δ)(hk:eo.k.dR=true):∀b∈δ.o.map Prod.fst,(B4 [] δ.o b).map PV.view=st.vobj b:=by
 obtain⟨d,g,k⟩:=eo;cases k with
 |loadT x=>
  have main:Ax P (Ej P) (Eg P) ban (.loadT x) d st (λδ'=> δ'= δ)->∀b∈δ.o.map Prod.fst,(B4 [] δ.o b).map PV.view=st.vobj b:=by
   intro h b hb;simp only[Ax,Au]at h;split at h
   ·rename_i b' off d' hq;split at h
    ·subst h;simp at hb;subst hb;simp only[B4,Nat.beq_refl];exact A41 _ _
    ·exact h.elim
   ·exact h.elim
  have skip: δ =dput d (.aY [])->∀b∈δ.o.map Prod.fst,(B4 [] δ.o b).map PV.view=st.vobj b:=by
   intro e b hb;subst e;cases d<;>simp[dput]at hb
  unfold Og at h;cases g with
  |none=>exact main h
  |some sw=>
   obtain⟨s,want⟩:=sw;rcases h with⟨t,_,h1,h2⟩|⟨_,h2⟩
   ·by_cases e:t=want
    ·exact main (h1 e)
    ·exact skip (h2 e)
   ·exact skip h2
 |_=>cases hk
theorem A7k{eo:Ek}{st:St}{δ :B2}{a:Nat}(h:Og P ban eo st δ)(hk:eo.mkAt a=true):a∈δ.s.map Prod.fst/\B4 .any δ.s a=.loc (st.base+a) 0:=by
 obtain⟨d,g,k⟩:=eo;unfold Ek.mkAt at hk;cases k with
 |alloc z=>
  cases g with
  |some _=>cases hk
  |none=>
   cases d with
   |none=>cases hk
   |some d=>
    have e:=B1 hk;subst e;simp only[Og,Ax,Au]at h;split at h
    ·subst h;exact⟨by simp,by simp[B4]⟩
    ·exact h.elim
 |box x=>
  cases g with
  |some _=>cases hk
  |none=>
   cases d with
   |none=>cases hk
   |some d=>
    have e:=B1 hk;subst e;simp only[Og,Ax,Au]at h;split at h
    ·subst h;exact⟨by simp,by simp[B4]⟩
    ·exact h.elim
 |_=>cases hk
def A8v(x y:B2):Prop:=(∀s,s∈x.s.map Prod.fst->s∉y.s.map Prod.fst)/\(∀s,s∈x.o.map Prod.fst->s∉y.o.map Prod.fst)
theorem A5v(st:St)(x y:B2)(h:A8v x y):Km ((st.app x).app y) ((st.app y).app x):=by
 refine⟨rfl,λs=>?_,λs=>?_,λs=>?_⟩
 ·rw[Pr,Pr,Pr,Pr];by_cases h1:s∈x.s.map Prod.fst
  ·rw[if_neg (h.1 s h1),if_pos h1,if_pos h1]
  ·rw[if_neg h1,if_neg h1]
 ·rw[Rp,Rp,Rp,Rp];by_cases h1:s∈x.o.map Prod.fst
  ·rw[if_neg (h.2 s h1),if_pos h1,if_pos h1]
  ·rw[if_neg h1,if_neg h1]
 ·rw[Nj,Nj,Nj,Nj];cases Ar s (y.o.map Prod.fst)<;>cases Ar s (x.o.map Prod.fst)<;>simp
theorem Bk6:∀(δs:List B2) (m:Nat->Bool) (st st':St),Km st st'->Km (Ki δs m st) (Ki δs m st'):=by
 intro δs
 induction δs with
 |nil=>intro m st st' h;exact h
 |cons δ r ih=>
  intro m st st' h;simp only[Ki];refine ih _ _ _ ?_;cases m 0
  ·exact h
  ·exact h.app δ
theorem Bew:∀(δs:List B2) (m:Nat->Bool) (st:St) (δ :B2),(∀(i:Nat) (δ':B2),m i=true->δs[i]? =some δ'->A8v δ δ')->Km (Ki δs m (st.app δ)) ((Ki δs m st).app δ):=by
 intro δs
 induction δs with
 |nil=>intro m st δ _;exact .refl _
 |cons δ' r ih=>
  intro m st δ h;simp only[Ki];have hr:∀(i:Nat) (d:B2),m (i+1)=true->r[i]? =some d->A8v δ d:=λi d hi hd=>h (i+1) d hi (by simpa using hd);cases hm:m 0 with
  |false=>exact ih _ _ _ hr
  |true=>
   simp only[if_true];exact(Bk6 r _ _ _ (A5v st δ δ' (h 0 δ' hm rfl))).trans (ih _ _ _ hr)
theorem A77:∀(δs:List B2) (m:Nat->Bool) (i:Nat) (st:St) (δ :B2),δs[i]? =some δ->m i=false->(∀(j:Nat) (δ':B2),i<j->m j=true->δs[j]? =some δ'->A8v δ δ')->
  Km (Ki δs (λj=>if j=i then true else m j) st) ((Ki δs m st).app δ):=by
 intro δs
 induction δs with
 |nil=>intro m i st δ h;simp at h
 |cons δ0 r ih=>
  intro m i st δ h hm hd;cases i with
  |zero=>
   simp at h;subst h;simp only[Ki,hm,if_true];have:(λj=>if j+1=0 then true else m (j+1))=λj=>m (j+1):=funext λj=>by simp
   rw[this];exact Bew r _ st δ0 (λi δ' hi hδ =>hd (i+1) δ' (by omega) hi (by simpa using hδ))
  |succ i=>
   simp only[Ki];have e0:(if 0=i+1 then true else m 0)=m 0:=by simp
   have e1:(λj=>if j+1=i+1 then true else m (j+1))=λj=>if j=i then true else m (j+1):=funext λj=>by simp
   simp only[e0,e1];exact ih _ i _ δ (by simpa using h) hm (λj δ' hj hmj hδ =>hd (j+1) δ' (by omega) hmj (by simpa using hδ))
theorem Asb{eo:Ek}{st:St}{δ :B2}(h:Og P ban eo st δ):(∀s∈δ.s.map Prod.fst,s∈eo.writes)/\(∀b∈δ.o.map Prod.fst,A3o ban eo.k eo.dst st b):=by
 obtain⟨d,g,k⟩:=eo;unfold Og at h;cases g with
 |none=>exact Aut h
 |some sw=>
  obtain⟨s,want⟩:=sw;have skip: δ =dput d (.aY [])->(∀s'∈δ.s.map Prod.fst,s'∈(Ek.mk d (some (s,want)) k).writes)/\(∀b∈δ.o.map Prod.fst,A3o ban k d st b):=by
   intro e;subst e;cases d with
   |none=>exact⟨λs hs=>by simp[dput]at hs,λb hb=>by simp[dput]at hb⟩
   |some x=>exact⟨λs hs=>by simp[dput]at hs;simp[Ek.writes,hs],λb hb=>by simp[dput]at hb⟩
  rcases h with⟨t,_,h1,h2⟩|⟨_,h2⟩
  ·by_cases e:t=want
   ·exact Aut (h1 e)
   ·exact skip (h2 e)
  ·exact skip h2
end
end Go.Proofs.YtgacplpjamkieaaGreat.Ev
namespace Go.Proofs.YtgacplpjamkieaaGreat.Ev
open Go Go.RowKit
section
variable {ι :Type} {cx: ι->PV×Value} {P:Program} {C:Ba} {X:Inl} {inl:Nat->Bool} {once:Nat} {ban:List Nat} {w0:D7} {w:World} {N M:Jw} {β :Kh} {nt:Nat} {st:St} {a:Act}
theorem Tf{os:Array Oper} :∀(l:List Oper) (es:List Ek),Ajy P inl once os l=some es->es.length=l.length/\
  ∀(i:Nat) (o:Oper),l[i]? =some o->∃eo,es[i]? =some eo/\cOp P inl once o=eo.k/\eo.dst=o.dst/\Ail os o.guard=some eo.g:=by
 intro l
 induction l with
 |nil=>intro es h;simp[Ajy]at h;subst h;exact⟨rfl,λi o h=>by simp at h⟩
 |cons o l ih=>
  intro es h;simp only[Ajy]at h;cases h2:Ail os o.guard with
  |none=>rw[h2]at h;cases h
  |some g=>
   cases h3:Ajy P inl once os l with
   |none=>rw[h2,h3]at h;cases h
   |some es'=>
    rw[h2,h3]at h;injection h with h
    subst h;obtain⟨e1,e2⟩:=ih es' h3;refine⟨by simp[e1],λi o' hi=>?_⟩;cases i with
    |zero=>simp at hi;subst hi;exact⟨_,rfl,rfl,rfl,h2⟩
    |succ i=>exact e2 i o' (by simpa using hi)
theorem Avk{o:Oper}{k:K}(h:cOp P inl once o=k):∀o',k=.dB o'->∀cs b,o'.op≠ .select cs b:=by
 intro o' hk cs b hb;subst hk;have nk:∀x ty k,A4n P x ty k=.dB o'->k=.dB o':=by
  intro x ty k h;unfold A4n at h;split at h
  ·cases h
  ·exact h
 have key:o'=o:=by
  obtain⟨dst,op,type,pos,after,guard⟩:=o;unfold cOp at h;split at h
  ·have:=nk _ _ _ h;unfold Aud at this;split at this
   ·cases this
   ·unfold Ary at this;split at this
    ·split at this<;>cases this
    ·cases this
  ·have:=nk _ _ _ h;unfold Auy at this;split at this<;>cases this
  all_goals try (unfold Ayx Ay4 at h)
  all_goals try (unfold A1z Asp at h)
  all_goals try (unfold A6g at h)
  all_goals (repeat' (split at h))
  all_goals first|(injection h with h;exact h.symm)|(cases h;done)|skip
 subst key;unfold cOp at h;rw[hb]at h;cases h
theorem Af6:∀(l:List Ek),Ti nt l=true->∀eo∈l,∀x,eo.dst=some x->x<nt:=by
 intro l
 induction l with
 |nil=>intro _ eo h;cases h
 |cons e l ih=>
  intro h eo hm x hx;simp only[Ti]at h;have h2:Ti nt l=true/\(∀x,e.dst=some x->x<nt):=by
   cases hd:e.dst with
   |none=>rw[hd]at h;exact⟨h,λx hx=>by cases hx⟩
   |some d=>
    rw[hd]at h;simp only at h;cases hb:Nat.blt d nt with
    |false=>rw[hb]at h;cases h
    |true=>
     rw[hb]at h;exact⟨h,λx hx=>by injection hx with hx;subst hx;exact Nat.le_of_ble_eq_true hb⟩
  rcases List.mem_cons.1 hm with e1|e1
  ·subst e1;exact h2.2 x hx
  ·exact ih h2.1 eo e1 x hx
theorem Aoc{os:Array Oper}{o:Oper}{eo:Ek}{δ :B2}(h:SR cx w0 N nt st a w M β)(hs:Og P ban eo st δ)(hc:cOp P inl once o=eo.k)(hdst:eo.dst=o.dst)
  (hg:Ail os o.guard=some eo.g)(hd:∀x,o.dst=some x->x<nt){K:Act->World->Prop}{Q:Exit->Act->World->Prop}
  (hK:∀a' w' M' β',SR cx w0 N nt (st.app δ) a' w' M' β'->K a' w'):
  if Region.wanted o (yielded os a.tmps)=true then o.wp P a w K Q else K (a.put o.dst undef) w:=by
 unfold Og at hs;cases hog:o.guard with
 |none=>
  rw[hog]at hg;simp only[Ail,Option.some.injEq]at hg;rw[<-hg]at hs;have hw:Region.wanted o (yielded os a.tmps)=true:=by simp[Region.wanted,hog]
  rw[if_pos hw];rw[hdst]at hs;rw[<-hc]at hs;exact Aso h hd hs K Q hK
 |some jw=>
  obtain⟨j,want⟩:=jw;rw[hog]at hg;simp only[Ail]at hg;cases hj:(os[j]?).bind (·.dst) with
  |none=>rw[hj]at hg;cases hg
  |some s=>
   rw[hj]at hg;simp only[Option.some.injEq]at hg;rw[<-hg]at hs;simp only at hs;rcases hs with⟨t,h1,h2,h3⟩|⟨h1,h3⟩
   rotate_left
   ·have hreg:=h.reg s;rw[h1]at hreg;have hv:a.tmps.getD s undef=undef:=by
     generalize a.tmps.getD s undef=u at hreg ⊢;cases hreg with
     |row p s hs=>cases hs
     |aY l cs hl hr=>
      have:cs= []:=List.eq_nil_of_length_eq_zero (by simpa using hl.symm);subst this;rfl
    have hy:yielded os a.tmps j=none:=by
     unfold yielded;rw[hj];cases hx:a.tmps[s]? with
     |none=>simp[hx]
     |some u=>
      rw[Array.getD_eq_getD_getElem?,hx]at hv;simp at hv;subst hv;simp[hx,undef]
    have hw:¬Region.wanted o (yielded os a.tmps)=true:=by simp[Region.wanted,hog,hy]
    rw[if_neg hw];rw[hdst]at h3;subst h3;exact hK _ _ _ _ (h.dput o.dst (.aY []) undef hd (.aY [] [] rfl (λi p v hp=>by simp at hp)) (Hx rfl))
   have hreg:=h.reg s;rw[h1]at hreg;have hv:=hreg.val_eq;have hy:yielded os a.tmps j=some t:=by
    unfold yielded;rw[hj];have:a.tmps[s]? =some (.bool t):=by
     cases hx:a.tmps[s]? with
     |none=>
      rw[Array.getD_eq_getD_getElem?,hx]at hv;simp[undef]at hv
     |some u=>
      rw[Array.getD_eq_getD_getElem?,hx]at hv;simpa using hv
    simp[this]
   by_cases e:t=want
   ·have hw:Region.wanted o (yielded os a.tmps)=true:=by simp[Region.wanted,hog,hy,e]
    rw[if_pos hw];have hs':=h2 e;rw[hdst]at hs';rw[<-hc]at hs';exact Aso h hd hs' K Q hK
   ·have hw:¬Region.wanted o (yielded os a.tmps)=true:=by simp[Region.wanted,hog,hy,e]
    rw[if_neg hw];have hδ :=h3 e;rw[hdst]at hδ;subst hδ;exact hK _ _ _ _ (h.dput o.dst (.aY []) undef hd (.aY [] [] rfl (λi p v hp=>by simp at hp)) (Hx rfl))
inductive Reach (os:List Oper):Nat->Nat->Prop
 |one (j:Nat) (o:Oper) (i:Nat) (ho:os[j]? =some o) (hi:i∈Wr o):Reach os j i
 |more (j:Nat) (o:Oper) (e i:Nat) (ho:os[j]? =some o) (he:e∈Wr o) (hr:Reach os e i):Reach os j i
theorem Ayy(acc:List Nat):∀(l:List Nat) (i:Nat),Nat.testBit (Arx acc l) i=true->∃e∈l,i=e\/Nat.testBit (acc.getD e 0) i=true:=by
 intro l
 induction l with
 |nil=>intro i h;simp[Arx]at h
 |cons e l ih=>
  intro i h;simp only[Arx,Nat.testBit_or,Bool.or_eq_true]at h;rcases h with(h|h)|h
  ·refine⟨e,by simp,.inl ?_⟩;rw[Nat.one_shiftLeft,Nat.testBit_two_pow]at h;simp at h;omega
  ·exact⟨e,by simp,.inr h⟩
  ·obtain⟨e',h1,h2⟩:=ih i h;exact⟨e',List.mem_cons_of_mem _ h1,h2⟩
theorem A3w(os:List Oper):∀(l:List Oper) (acc:List Nat),(∀k o,l[k]? =some o->os[acc.length+k]? =some o)->
  (∀j i,Nat.testBit (acc.getD j 0) i=true->Reach os j i)->∀j i,Nat.testBit ((A9x l acc).getD j 0) i=true->Reach os j i:=by
 intro l
 induction l with
 |nil=>intro acc _ h;exact h
 |cons o l ih=>
  intro acc hl h;simp only[A9x];refine ih _ (λk o' hk=>?_) (λj i hb=>?_)
  ·have:=hl (k+1) o' (by simpa using hk);rw[List.length_append,List.length_singleton,Nat.add_assoc,Nat.add_comm 1 k];exact this
  ·have ho:os[acc.length]? =some o:=by have:=hl 0 o rfl;simpa using this
   rcases Nat.lt_trichotomy j acc.length with h1|h1|h1
   ·rw[List.getD_eq_getElem?_getD,List.getElem?_append_left h1,<-List.getD_eq_getElem?_getD]at hb;exact h j i hb
   ·subst h1;rw[List.getD_eq_getElem?_getD,List.getElem?_append_right (Nat.le_refl _)]at hb;simp at hb;obtain⟨e,he,hor⟩:=Ayy acc _ i hb;rcases hor with rfl|hor
    ·exact .one _ o _ ho he
    ·exact .more _ o e i ho he (h e i hor)
   ·rw[List.getD_eq_getElem?_getD,List.getElem?_append_right (by omega),List.getElem?_eq_none (by simp;omega)]at hb;simp at hb
theorem Ac3{n:Nat}{p:Nat->Bool}(h:Ev.below n p=true):∀i,i<n->p i=true:=by
 induction n with
 |zero=>intro i hi;omega
 |succ n ih=>
  simp only[Ev.below]at h;cases hp:p n with
  |false=>rw[hp]at h;cases h
  |true=>
   rw[hp]at h;intro i hi;by_cases e:i=n
   ·subst e;exact hp
   ·exact ih h i (by omega)
theorem Axw{p:Nat->Bool} :∀ {n:Nat},Ev.below n p=false->∃k,k<n/\p k=false:=by
 intro n
 induction n with
 |zero=>intro h;cases h
 |succ n ih=>
  intro h;simp only[Ev.below]at h;cases hp:p n with
  |false=>exact⟨n,by omega,hp⟩
  |true=>
   rw[hp]at h;obtain⟨k,h1,h2⟩:=ih h;exact⟨k,by omega,h2⟩
theorem Aos(j:Nat):∀(l:List Nat),Ac7 j l=true->∀e∈l,e<j:=by
 intro l
 induction l with
 |nil=>intro _ e h;cases h
 |cons x l ih=>
  intro h e he;simp only[Ac7]at h;cases hb:Nat.blt x j with
  |false=>rw[hb]at h;cases h
  |true=>
   rw[hb]at h;rcases List.mem_cons.1 he with e1|e1
   ·subst e1;exact Nat.le_of_ble_eq_true hb
   ·exact ih h e e1
theorem Ay1{o:Oper}{e:Edge}(he:e∈o.after)(hb:Region.binds .any e=true):e.on∈Wr o:=
 List.mem_map.2 ⟨e,List.mem_filter.2 ⟨by simpa using he,hb⟩,rfl⟩
theorem Ax1{o:Oper}{i:Nat}(h:i∈Wr o):∃e∈o.after,Region.binds .any e=true/\e.on=i:=by
 obtain⟨e,he,rfl⟩:=List.mem_map.1 h;obtain⟨h1,h2⟩:=List.mem_filter.1 he;exact⟨e,by simpa using h1,h2,rfl⟩
theorem Amj(x y:List Nat):Agg x y=true↔∃s,s∈x/\s∈y:=by
 simp only[Agg,List.any_eq_true];constructor
 ·rintro ⟨s,h1,t,h2,h3⟩
  have:=B1 h3;subst this;exact⟨s,h1,h2⟩
 ·rintro ⟨s,h1,h2⟩
  exact⟨s,h1,s,h2,Nat.beq_refl s⟩
theorem K5{ap:List (Nat×Nat)}{fx fy:Bool}{x y:Ek}(h:O4 ap fx x fy y=false):(∀s,s∈x.writes->s∉y.reads)/\(∀s,s∈x.writes->s∉y.writes)/\(∀s,s∈x.reads->s∉y.writes)/\
  (x.k.bD=true->y.k.dX=true->(Rv ap x y=true\/Aq3 fx x.k fy y.k=true)\/scm x.k y.k=true)/\(x.k.dX=true->y.k.bD=true->(Rv ap x y=true\/Aq3 fx x.k fy y.k=true)\/scm x.k y.k=true):=by
 simp only[O4,Bool.or_eq_false_iff]at h;obtain⟨⟨⟨h1,h2⟩,h3⟩,h4⟩:=h;have no:∀a b,Agg a b=false->∀s,s∈a->s∉b:=λa b hm s ha hb=>by
  rw[(Amj a b).2 ⟨s,ha,hb⟩]at hm;cases hm
 refine⟨no _ _ h1,no _ _ h2,no _ _ h3,λg1 g2=>?_,λg1 g2=>?_⟩
 ·rw[g1,g2]at h4;cases hf:Rv ap x y with
  |true=>exact .inl (.inl rfl)
  |false=>
   cases hs:scm x.k y.k with
   |true=>exact .inr rfl
   |false=>rw[hf,hs]at h4;simp at h4;exact .inl (.inr h4)
 ·rw[g1,g2]at h4;cases hf:Rv ap x y with
  |true=>exact .inl (.inl rfl)
  |false=>
   cases hs:scm x.k y.k with
   |true=>exact .inr rfl
   |false=>rw[hf,hs]at h4;simp at h4;exact .inl (.inr h4)
theorem A35{fx fy:Bool}{x y:K}(h:Aq3 fx x fy y=true):x.isLoad=true\/y.isLoad=true:=by
 simp only[Aq3,Bool.or_eq_true,Bool.and_eq_true]at h;rcases h with h|h
 ·exact .inr h.2
 ·exact .inl h.1
theorem A36(fx fy:Bool)(x y:K):Aq3 fx x fy y=Aq3 fy y fx x:=by
 unfold Aq3;cases x.dR<;>cases y.dR<;>cases x.isLoad<;>cases y.isLoad<;>cases fx<;>cases fy<;>rfl
theorem Es{k:K}(h:k.bD=true):k.isLoad=false:=by cases k<;>first|rfl|cases h
theorem Sa{k:K}(h:k.makes=true):k.isLoad=false:=by cases k<;>first|rfl|cases h
theorem Az5{k:K}(h:k.gB=true):k.isLoad=false:=by cases k<;>first|rfl|cases h
theorem A7w(x y:K):scm x y=scm y x:=by
 unfold scm;cases x.eG<;>cases y.eG<;>cases x.mk0<;>cases y.mk0<;>rfl
theorem Abo{k:K}(h:k.eG=true):k.makes=false/\k.bD=true:=by cases k<;>first|exact⟨rfl,rfl⟩|cases h
theorem Zj{k:K}(h:k.bD=true):k.mk0=false:=by cases k<;>first|rfl|cases h
theorem Ana{x y:K}(h:x.bD=true)(h':y.bD=true):scm x y=false:=by
 unfold scm;rw[Zj h,Zj h'];cases x.eG<;>cases y.eG<;>rfl
theorem Ai3{x y:K}(h:scm x y=true):(x.eG=true/\y.mk0=true)\/(y.eG=true/\x.mk0=true):=by
 simpa[scm]using h
theorem Bjq{k:K}(h:k.mk0=true)(hl:k.isLoad=false):k.makes=true/\k.bD=false:=by
 cases k<;>first|exact⟨rfl,rfl⟩|(cases hl;done)|(cases h;done)
theorem A7d{k:K}(h:k.mk0=true)(hl:k.isLoad=true):k.near=true:=by
 cases k<;>first|(cases hl;done)|simpa[K.mk0,K.makes,K.bD,K.near]using h
theorem A4m{k:K}(h:k.isLoad=true):k.eG=false:=by cases k<;>first|rfl|cases h
theorem Rw{ap:List (Nat×Nat)}{fx fy:Bool}{x y:Ek}(h:(Rv ap x y=true\/Aq3 fx x.k fy y.k=true)\/scm x.k y.k=true)(h0:scm x.k y.k=false)(h1:x.k.isLoad=false)(h2:y.k.isLoad=false):Rv ap x y=true:=by
 rcases h with h|h
 rotate_left
 ·rw[h0]at h;cases h
 rcases h with h|h
 ·exact h
 ·rcases A35 h with h|h
  ·rw[h1]at h;cases h
  ·rw[h2]at h;cases h
theorem U2{k:K}(h:k.makes=true):k.dX=true:=by cases k<;>first|rfl|cases h
theorem Z2{k:K}(h:k.bD=true):k.dX=true:=by cases k<;>first|rfl|cases h
theorem A4s{eo:Ek}{x:Operand}(hx:x∈eo.k.bC){t:Nat}(ht:x=.tmp t):t∈eo.reads:=by
 subst ht;have:∀(l:List Operand),.tmp t∈l->t∈T3 l:=by
  intro l
  induction l with
  |nil=>intro h;cases h
  |cons y l ih=>
   intro h;rcases List.mem_cons.1 h with e|e
   ·subst e;simp[T3]
   ·cases y<;>simp only[T3]<;>first|exact List.mem_cons_of_mem _ (ih e)|exact ih e
 simp only[Ek.reads,List.mem_append];exact .inl (this _ hx)
end
end Go.Proofs.YtgacplpjamkieaaGreat.Ev
