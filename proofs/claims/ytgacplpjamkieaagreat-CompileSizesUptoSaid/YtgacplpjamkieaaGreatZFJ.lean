/-  Operations one behind the other. -/
import Derived.Test.YtgacplpjamkieaaGreatZFI
set_option linter.unusedVariables false
set_option linter.unusedSimpArgs false
set_option linter.unnecessarySimpa false
namespace Go.Proofs.YtgacplpjamkieaaGreat.Ev
open Go Go.RowKit
def Df(P:Program)(C:Bj):Prop:=∀f args k,C f args k->∃r,F4 P f args r/\k r
def N4(P:Program)(X:Inl):Prop:=∀f args ob k,X f args ob k->Hf P f args ob k
section
variable {P:Program} {C:Bj} {X:Inl} {ban:List Nat}
theorem Au2(st:St):∀(ps:List (Nat×Nat×Operand)) (cells:List PV) (k:List PV->Prop),Al9 st cells ps k->∃l,k l/\∀k':List PV->Prop,k' l->Al9 st cells ps k':=by
 intro ps
 induction ps with
 |nil=>intro cells k h;exact⟨cells,h,λk' h'=>h'⟩
 |cons p ps ih=>
  obtain⟨off,sz,x⟩:=p;intro cells k h;simp only[Al9]at h ⊢;cases g1:X4 (st.aQ x).cells sz<;>cases g2:Zt (st.aQ x).cells<;>cases g3:Th cells (off+sz)<;>simp only[g1,g2,g3]at h ⊢ <;>first|exact h.elim|exact ih _ _ h
theorem Aic(st:St)(sz:Nat):∀(ps:List Operand) (k:List (List PV)->Prop),Acd st sz ps k->∃l,k l/\∀k':List (List PV)->Prop,k' l->Acd st sz ps k':=by
 intro ps
 induction ps with
 |nil=>intro k h;exact⟨[],h,λk' h'=>h'⟩
 |cons x ps ih=>
  intro k h;simp only[Acd]at h ⊢;cases g1:X4 (st.aQ x).cells sz<;>cases g2:Zt (st.aQ x).cells<;>simp only[g1,g2]at h ⊢ <;>first
   |exact h.elim
   |(obtain⟨l,h1,h2⟩:=ih _ h;exact⟨_,h1,λk' hk=>h2 (λl=>k' ((st.aQ x).cells.map PV.view::l)) hk⟩)
theorem Ape{α :Type} :∀(s:Sem α) (k: α->Prop),Apd P s k->∃x,k x/\∀k': α->Prop,k' x->Apd P s k':=by
 intro s
 induction s with
 |pure a=>intro k h;exact⟨a,h,λk' h'=>h'⟩
 |program f ih=>intro k h;exact ih P k h
 |_=>intro k h;exact h.elim
theorem Alm(hC:Df P C)(hX:N4 P X)(o:K)(d:Option Nat)(st:St)(k:Cy->Prop)(h:Ay P C X ban o d st k):∃δ,k δ/\∀k':Cy->Prop,k' δ->Ay P (Hm P) (Hf P) ban o d st k':=by
 have one:∀(δ :Cy),k δ->∃δ,k δ/\∀k':Cy->Prop,k' δ->k' δ :=λδ h=>⟨δ,h,λk' h'=>h'⟩;cases o with
 |move x=>exact⟨_,h,λk' h'=>h'⟩
 |fT e=>
  simp only[Ay,Ax]at h ⊢;split at h
  ·exact⟨_,h,λk' h'=>h'⟩
  ·exact h.elim
 |take s=>cases d with
  |none=>exact h.elim
  |some d=>exact⟨_,h,λk' h'=>h'⟩
 |pick c x y=>
  simp only[Ay,Ax]at h ⊢;split at h
  ·rename_i t hq;cases t<;>exact⟨_,h,λk' h'=>h'⟩
  ·exact h.elim
 |alloc z=>
  simp only[Ay,Ax]at h ⊢;cases d with
  |none=>exact h.elim
  |some s=>
   simp only at h ⊢;split at h
   ·rename_i g1;exact⟨_,h,λk' h'=>h'⟩
   ·exact h.elim
 |box x=>
  simp only[Ay,Ax]at h ⊢;cases d with
  |none=>exact h.elim
  |some s=>
   simp only at h ⊢;split at h
   ·rename_i g1 g2;exact⟨_,h,λk' h'=>h'⟩
   ·exact h.elim
 |build z parts=>
  simp only[Ay,Ax]at h ⊢;obtain⟨l,h1,h2⟩:=Au2 st _ _ _ h;exact⟨_,h1,λk' hk=>h2 (λl=>k' (dput d (.agg l))) hk⟩
 |eX e sz parts=>
  simp only[Ay,Ax]at h ⊢;obtain⟨l,h1,h2⟩:=Aic st _ _ _ h;have:∃δ,k δ/\∀k':Cy->Prop,k' δ->(match LX.lit e l with
    |some x=>match Nat.beq x.sz sz with
     |true=>k' (dput d (.aV true x))
     |false=>False
    |none=>k' (dput d (.sl true e sz l))):=by
   cases hl:LX.lit e l with
   |none=>rw[hl]at h1;exact⟨_,h1,λk' h'=>h'⟩
   |some x=>
    rw[hl]at h1;simp only at h1 ⊢;cases hb:Nat.beq x.sz sz with
    |false=>rw[hb]at h1;exact h1.elim
    |true=>rw[hb]at h1;exact⟨_,h1,λk' h'=>h'⟩
  obtain⟨δ,h3,h4⟩:=this;exact⟨δ,h3,λk' hk=>h2 _ (h4 k' hk)⟩
 |load g sz x=>
  simp only[Ay,Ax]at h ⊢;split at h
  ·rename_i b off hq;split at h
   ·exact⟨_,h,λk' h'=>h'⟩
   ·exact h.elim
  ·split at h
   ·exact⟨_,h,λk' h'=>h'⟩
   ·exact h.elim
  ·rename_i b sz' i off hq;split at h
   ·rename_i y g1 g2;split at h
    ·exact⟨_,h,λk' h'=>h'⟩
    ·exact h.elim
   ·exact h.elim
  ·exact h.elim
 |loadT x=>
  simp only[Ay,Ax]at h ⊢;split at h
  ·split at h
   ·exact⟨_,h,λk' h'=>h'⟩
   ·exact h.elim
  ·exact h.elim
 |store sz x y=>
  simp only[Ay,Ax]at h ⊢;split at h
  ·split at h
   ·exact⟨_,h,λk' h'=>h'⟩
   ·exact h.elim
  ·split at h
   ·split at h
    ·exact⟨_,h,λk' h'=>h'⟩
    ·exact h.elim
   ·exact h.elim
  ·exact h.elim
 |storeT x s=>
  simp only[Ay,Ax]at h ⊢;split at h
  ·split at h
   ·exact⟨_,h,λk' h'=>h'⟩
   ·exact h.elim
  ·split at h
   ·split at h
    ·exact⟨_,h,λk' h'=>h'⟩
    ·exact h.elim
   ·exact h.elim
  ·exact h.elim
 |dP o=>
  simp only[Ay,Ay1]at h ⊢;cases g1:Afd st o.op.operands.toList with
  |false=>rw[g1]at h;exact h.elim
  |true=>
   simp only[g1]at h ⊢;obtain⟨n,h1,h2⟩:=Ape _ _ h;cases n with
   |value v=>
    simp only at h1;cases g2:Arq v with
    |false=>rw[g2]at h1;exact h1.elim
    |true=>
     simp only[g2]at h1;exact⟨_,h1,λk' hk=>h2 _ (by simp only[g2];exact hk)⟩
   |_=>exact h1.elim
 |dJ tag x y=>
  simp only[Ay,Ax]at h ⊢;split at h
  ·split at h
   ·rename_i c r hb;cases c with
    |true=>exact⟨_,h,λk' h'=>h'⟩
    |false=>exact h.elim
   ·exact h.elim
  ·unfold Arg at h ⊢;split at h
   ·split at h
    ·simp only[Ax]at h ⊢;exact⟨_,h.2,λk' h'=>⟨h.1,h'⟩⟩
    ·simp only[Ax]at h ⊢;exact⟨_,h.2,λk' h'=>⟨h.1,h'⟩⟩
    ·exact h.elim
   ·exact h.elim
  ·exact h.elim
 |gW neg ts x y=>
  simp only[Ay,Ax]at h ⊢;split at h
  ·split at h
   ·cases neg<;>exact⟨_,h,λk' h'=>h'⟩
   ·exact h.elim
  ·exact h.elim
 |field off x=>
  simp only[Ay,Ax]at h ⊢;split at h<;>first|exact h.elim|exact⟨_,h,λk' h'=>h'⟩
 |index sz x i=>
  simp only[Ay,Ax]at h ⊢;split at h
  ·split at h<;>first|exact h.elim|exact⟨_,h.2.2,λk' h'=>⟨h.1,h.2.1,h'⟩⟩
  ·split at h
   ·split at h
    ·exact⟨_,h.2.2,λk' h'=>⟨h.1,h.2.1,h'⟩⟩
    ·exact h.elim
   ·exact h.elim
  ·exact h.elim
 |len x=>
  simp only[Ay,Ax]at h ⊢;split at h
  ·exact⟨_,h,λk' h'=>h'⟩
  ·exact⟨_,h,λk' h'=>h'⟩
  ·split at h
   ·exact⟨_,h,λk' h'=>h'⟩
   ·exact h.elim
 |cap x=>
  simp only[Ay,Ax]at h ⊢;split at h
  ·exact⟨_,h,λk' h'=>h'⟩
  ·exact h.elim
 |app e sz by_ s x=>
  simp only[Ay,Ax]at h ⊢;cases d with
  |none=>exact h.elim
  |some d=>
   simp only at h ⊢;split at h
   ·split at h
    ·exact⟨_,h.2.2,λk' hk=>⟨h.1,h.2.1,hk⟩⟩
    ·exact h.elim
   ·split at h
    ·exact⟨_,h,λk' h'=>h'⟩
    ·exact h.elim
   ·split at h
    ·exact⟨_,h.2.2,λk' hk=>⟨h.1,h.2.1,hk⟩⟩
    ·exact h.elim
   ·exact h.elim
 |clone cm e sz by_ s x=>
  simp only[Ay,Ax]at h ⊢;split at h
  ·split at h
   ·split at h
    ·rename_i own q _;split at h
     ·cases hb:Nat.beq q.len 0 with
      |true=>rw[hb]at h;exact⟨_,h,λk' h'=>h'⟩
      |false=>rw[hb]at h;exact⟨_,h.2.2,λk' hk=>⟨h.1,h.2.1,hk⟩⟩
     ·exact h.elim
    ·exact h.elim
   ·exact h.elim
  ·exact h.elim
 |call f args=>
  simp only[Ay,Ax]at h ⊢;cases g1:Abw st ban args with
  |false=>rw[g1]at h;exact h.elim
  |true=>
   simp only[g1]at h ⊢;obtain⟨r,h1,h2⟩:=hC _ _ _ h;exact⟨_,h2,λk' hk=>⟨r,h1,hk⟩⟩
 |fJ f args=>
  simp only[Ay,Ax]at h ⊢;obtain⟨hc,r,o',h1,h2⟩:=hX _ _ _ _ h;exact⟨_,h2,λk' hk=>⟨hc,r,o',h1,hk⟩⟩
 |fI x args=>
  simp only[Ay,Ax]at h ⊢;split at h
  ·obtain⟨hc,r,o',h1,h2⟩:=hX _ _ _ _ h;exact⟨_,h2,λk' hk=>⟨hc,r,o',h1,hk⟩⟩
  ·exact h.elim
 |gQ f n caps=>exact⟨_,h,λk' h'=>h'⟩
 |extract x i=>
  simp only[Ay,Ax]at h ⊢;split at h
  ·split at h
   ·exact⟨_,h,λk' h'=>h'⟩
   ·exact h.elim
  ·exact h.elim
 |nil x=>
  simp only[Ay,Ax]at h ⊢;split at h<;>first|exact h.elim|exact⟨_,h,λk' h'=>h'⟩
 |gH e sz by_ z n=>
  simp only[Ay,Ax]at h ⊢;split at h
  ·split at h
   ·split at h
    ·exact⟨_,h,λk' h'=>h'⟩
    ·exact h.elim
   ·split at h
    ·split at h
     ·exact⟨_,h.2.2.2,λk' hk=>⟨h.1,h.2.1,h.2.2.1,hk⟩⟩
     ·exact h.elim
    ·exact h.elim
  ·exact h.elim
 |fZ e sz by_ n=>
  simp only[Ay,Ax]at h ⊢;split at h
  ·split at h
   ·exact⟨_,h.2.2.2,λk' hk=>⟨h.1,h.2.1,h.2.2.1,hk⟩⟩
   ·exact h.elim
  ·exact h.elim
 |iA sz x lo hi mx=>
  simp only[Ay,Ax,Aoh]at h ⊢;split at h
  ·split at h
   ·split at h
    ·split at h
     ·exact⟨_,h.2.2.2.2.2,λk' hk=>⟨h.1,h.2.1,h.2.2.1,h.2.2.2.1,h.2.2.2.2.1,hk⟩⟩
     ·exact h.elim
    ·exact h.elim
   ·exact h.elim
  ·exact h.elim
 |gN x lo hi=>
  simp only[Ay,Ax]at h ⊢;split at h
  ·split at h
   ·split at h
    ·exact⟨_,h.2.2.2,λk' hk=>⟨h.1,h.2.1,h.2.2.1,hk⟩⟩
    ·exact h.elim
   ·exact h.elim
  ·exact h.elim
 |fP gk gv ks vs=>
  simp only[Ay,Ax]at h ⊢;cases d with
  |none=>exact h.elim
  |some s=>
   simp only at h ⊢;split at h
   ·exact⟨_,h,λk' h'=>h'⟩
   ·exact h.elim
 |lookup gq ts ok g z m q=>
  simp only[Ay,Ax]at h ⊢;split at h
  ·split at h
   ·split at h
    ·rename_i r _ _ _;cases r<;>exact⟨_,h,λk' h'=>h'⟩
    ·exact h.elim
   ·exact h.elim
  ·exact h.elim
 |fH gq ts m q v=>
  simp only[Ay,Ax]at h ⊢;split at h
  ·split at h
   ·split at h
    ·rename_i r c _ _ _;cases r with
     |none=>
      simp only[fk]at h ⊢;split at h
      ·exact⟨_,h,λk' h'=>h'⟩
      ·exact h.elim
     |some i=>
      simp only[fk]at h ⊢;split at h
      ·exact⟨_,h,λk' h'=>h'⟩
      ·exact h.elim
    ·exact h.elim
   ·exact h.elim
  ·exact h.elim
 |del gq ts m q=>
  simp only[Ay,Ax]at h ⊢;split at h
  ·split at h
   ·split at h
    ·rename_i r _ _;cases r with
     |none=>exact⟨_,h,λk' h'=>h'⟩
     |some i=>
      simp only[fk]at h ⊢;split at h
      ·exact⟨_,h,λk' h'=>h'⟩
      ·exact h.elim
    ·exact h.elim
   ·exact h.elim
  ·exact h.elim
 |fQ f args=>
  simp only[Ay,Ax]at h ⊢;cases g1:Yv st args with
  |false=>rw[g1]at h;exact h.elim
  |true=>
   simp only[g1]at h ⊢;obtain⟨hc,r,o',h1,h2⟩:=hX _ _ _ _ h;unfold A84 at h2;split at h2
   ·rename_i hf;exact⟨_,h2,λk' hk=>⟨hc,r,[],h1,by show A84 r [] _;unfold A84;rw[hf];exact hk⟩⟩
   ·exact h2.elim
 |gL x=>
  simp only[Ay,Ax]at h ⊢;split at h
  ·split at h
   ·exact⟨_,h,λk' h'=>h'⟩
   ·exact h.elim
  ·exact⟨_,h,λk' h'=>h'⟩
  ·exact h.elim
 |dZ f args s=>
  simp only[Ay,Ax]at h ⊢;cases g1:Apb s args with
  |false=>rw[g1]at h;exact h.elim
  |true=>
   simp only[g1]at h ⊢;obtain⟨hc,r,o',h1,h2⟩:=hX _ _ _ _ h;exact⟨_,h2,λk' hk=>⟨hc,r,o',h1,hk⟩⟩
 |dU s=>
  simp only[Ay]at h ⊢;split at h
  ·exact⟨_,h,λk' h'=>h'⟩
  ·exact⟨_,h,λk' h'=>h'⟩
  ·exact h.elim
 |eT r sz a x=>
  simp only[Ay,Ax]at h ⊢;split at h
  ·split at h
   ·exact⟨_,h,λk' h'=>h'⟩
   ·exact h.elim
  ·exact h.elim
 |fC near r g sz x=>
  simp only[Ay,Ax]at h ⊢;split at h
  ·split at h
   ·exact⟨_,h,λk' h'=>h'⟩
   ·exact h.elim
  ·exact h.elim
 |fG f args=>
  simp only[Ay]at h ⊢;split at h
  ·rename_i s r0;split at h
   ·rename_i hl
    try simp only[hl]
    simp only[stK]at h ⊢;split at h
    ·rename_i d0 ps hps;split at h
     ·rename_i g1 g2 g3;obtain⟨r,h1,h2⟩:=hC _ _ _ h;split at h2
      ·rename_i r1 l;refine⟨_,h2,λk' hk=>?_⟩
       try simp only[hps,g1,g2,g3]
       exact⟨_,h1,hk⟩
      ·exact h2.elim
     ·exact h.elim
    ·exact h.elim
   ·exact h.elim
  ·exact h.elim
 |gG cm e sz parts=>
  simp only[Ay,Ax]at h ⊢;cases d with
  |none=>exact h.elim
  |some d=>
   simp only at h ⊢;cases g1:Aw (st.base+d) (st.ob.map Prod.fst) with
   |false=>rw[g1]at h;exact h.elim
   |true=>
    rw[g1]at h;simp only at h ⊢;obtain⟨l,h1,h2⟩:=Aic st _ _ _ h;cases cm with
    |true=>exact⟨_,h1,λk' hk=>h2 (λl=>k' _) hk⟩
    |false=>
     simp only at h1;split at h1
     ·rename_i x hx;split at h1
      ·rename_i hb;exact⟨_,h1,λk' hk=>h2 _ (by simp only[hx,hb];exact hk)⟩
      ·exact h1.elim
     ·exact h1.elim
 |gF cm e sz by_ s x=>
  simp only[Ay,Ax]at h ⊢;cases d with
  |none=>exact h.elim
  |some d=>
   simp only at h ⊢;split at h
   ·split at h
    ·split at h
     ·exact⟨_,h.2.2,λk' hk=>⟨h.1,h.2.1,hk⟩⟩
     ·exact h.elim
    ·exact h.elim
   ·exact h.elim
 |ext sub x y c=>
  simp only[Ay,Ax]at h ⊢;split at h
  ·exact⟨_,h.2,λk' hk=>⟨h.1,hk⟩⟩
  ·exact h.elim
 |gT off sz g x=>
  simp only[Ay,Ax]at h ⊢;split at h
  ·split at h
   ·exact⟨_,h,λk' h'=>h'⟩
   ·exact h.elim
  ·exact h.elim
 |stop=>exact h.elim
end
end Go.Proofs.YtgacplpjamkieaaGreat.Ev
namespace Go.Proofs.YtgacplpjamkieaaGreat.Ev
open Go Go.RowKit
def aOf:Operand->Option Nat
 | .tmp a=>some a
 |_=>none
def At(p:PV)(b:Nat):Prop:=(∃off,p=.loc b off)\/∃sz i off,p=.el b sz i off
section
variable {P:Program} {C:Bj} {X:Inl} {ban:List Nat}
theorem Amb{st st':St} :∀(args:List Operand),(∀x∈args,st'.aQ x=st.aQ x)->Yv st' args=Yv st args
 | [],_=>rfl
 |x::r,h=>by
  simp only[Yv,h x (by simp)];rw[Amb r λy hy=>h y (by simp[hy])]
theorem H6.congr{f:Nat}{args:List PV}{ob ob':List (Nat×List PV)}{r:PV}{o':List (Nat×List PV)}(h:H6 P f args ob r o')(h1:∀d,C1 [] ob' d=C1 [] ob d)(h2:∀d,Aw d (ob'.map Prod.fst)=Aw d (ob.map Prod.fst)):
  H6 P f args ob' r o':=by
 intro κ H w0 w N M β O D vs hO hD hS hl hr;refine Calls.mono (h H w0 w N M β O D vs (λd=>by rw[hO,h1]) (λd=>by rw[hD,h2]) hS hl hr) ?_
 rintro e w' ⟨v,M',β',he,hS'⟩
 refine⟨v,M',β',he,?_⟩;have e1:C1 [] (o'++ob')=C1 [] (o'++ob):=funext λd=>by rw[J8,J8,h1]
 have e2:(λd=>Aw d ((o'++ob').map Prod.fst))=λd=>Aw d ((o'++ob).map Prod.fst):=funext λd=>by rw[List.map_append,List.map_append,L3,L3,h2]
 rw[e1,e2];exact hS'
theorem H6.norm{f:Nat}{args:List PV}{ob:List (Nat×List PV)}{r:PV}{o':List (Nat×List PV)}(h:H6 P f args ob r o'):H6 P f args ob r (Zy o'):=by
 intro κ H w0 w N M β O D vs hO hD hS hl hr;refine Calls.mono (h H w0 w N M β O D vs hO hD hS hl hr) ?_
 rintro e w' ⟨v,M',β',he,hS'⟩
 refine⟨v,M',β',he,?_⟩;have e1:C1 [] (Zy o'++ob)=C1 [] (o'++ob):=funext λd=>by rw[J8,J8,Am5];simp only[Alk]
 have e2:(λd=>Aw d ((Zy o'++ob).map Prod.fst))=λd=>Aw d ((o'++ob).map Prod.fst):=funext λd=>by rw[List.map_append,List.map_append,L3,L3,Ari]
 rw[e1,e2];exact hS'
theorem Abf.congr{f:Nat}{args:List PV}{ob ob':List (Nat×List PV)}{r:PV}{o':List (Nat×List PV)}(h:Abf P f args ob r o')(h1:∀d,C1 [] ob' d=C1 [] ob d)(h2:∀d,Aw d (ob'.map Prod.fst)=Aw d (ob.map Prod.fst)):
  Abf P f args ob' r o':=by
 intro κ H w0 w N M β O D vs hO hD hS hl;refine Calls.mono (h H w0 w N M β O D vs (λd=>by rw[hO,h1]) (λd=>by rw[hD,h2]) hS hl) ?_
 rintro e w' ⟨v,M',β',he,hS'⟩
 refine⟨v,M',β',he,?_⟩;have e1:C1 [] (o'++ob')=C1 [] (o'++ob):=funext λd=>by rw[J8,J8,h1]
 have e2:(λd=>Aw d ((o'++ob').map Prod.fst))=λd=>Aw d ((o'++ob).map Prod.fst):=funext λd=>by rw[List.map_append,List.map_append,L3,L3,h2]
 rw[e1,e2];exact hS'
theorem Abf.norm{f:Nat}{args:List PV}{ob:List (Nat×List PV)}{r:PV}{o':List (Nat×List PV)}(h:Abf P f args ob r o'):Abf P f args ob r (Zy o'):=by
 intro κ H w0 w N M β O D vs hO hD hS hl;refine Calls.mono (h H w0 w N M β O D vs hO hD hS hl) ?_
 rintro e w' ⟨v,M',β',he,hS'⟩
 refine⟨v,M',β',he,?_⟩;have e1:C1 [] (Zy o'++ob)=C1 [] (o'++ob):=funext λd=>by rw[J8,J8,Am5];simp only[Alk]
 have e2:(λd=>Aw d ((Zy o'++ob).map Prod.fst))=λd=>Aw d ((o'++ob).map Prod.fst):=funext λd=>by rw[List.map_append,List.map_append,L3,L3,Ari]
 rw[e1,e2];exact hS'
theorem At.of_loc{b off:Nat} :At (.loc b off) b:=.inl ⟨_,rfl⟩
structure A90 (ban:List Nat) (o:K) (d:Option Nat) (st st':St):Prop where
 aQ:∀x∈o.bQ,st'.aQ x=st.aQ x
 obj:o.eU=true->o.isLoad=false->(o.makes=false\/o.bS=true)->∀b,((o.bS=true/\(o.fF=true->b<st.base))\/Aw b ban=true)->(∀a,o.addr=some a->At (st.get a) b)->st'.obj b=st.obj b
 iE:o.isLoad=true->∀b,Aw b ban=true->(o.near=true->st.base<=b)->(∀a,o.addr=some a->At (st.get a) b)->st'.vobj b=st.vobj b
 key:o.makes=true->∀s,d=some s->Aw (st.base+s) (st.ob.map Prod.fst)=true->Aw (st.base+s) (st'.ob.map Prod.fst)=true
 sel:∀o',o=.dP o'->∀cs b,o'.op≠ .select cs b
 base:st'.base=st.base
 scn:o.fF=true->∀b,b<st.base->(∀a,o.addr=some a->At (st.get a) b)->Aw b (st'.ob.map Prod.fst)=Aw b (st.ob.map Prod.fst)
 gJ:o.gJ=true->(∀b,st'.obj b=st.obj b)/\∀b,Aw b (st'.ob.map Prod.fst)=Aw b (st.ob.map Prod.fst)
theorem A2j{st st':St} :∀(ps:List (Nat×Nat×Operand)) (cells:List PV) (k:List PV->Prop),(∀x∈ps.map (λp=>p.2.2),st'.aQ x=st.aQ x)->Al9 st cells ps k->Al9 st' cells ps k:=by
 intro ps
 induction ps with
 |nil=>intro cells k _ h;exact h
 |cons p ps ih=>
  obtain⟨off,sz,x⟩:=p;intro cells k hx h;have h1:st'.aQ x=st.aQ x:=hx x (by simp);simp only[Al9]at h ⊢;rw[h1];cases g1:X4 (st.aQ x).cells sz<;>cases g2:Zt (st.aQ x).cells<;>cases g3:Th cells (off+sz)<;>simp only[g1,g2,g3]at h ⊢ <;>first
   |exact h.elim
   |exact ih _ _ (λy hy=>hx y (by simp only[List.map_cons];exact List.mem_cons_of_mem _ hy)) h
theorem Asi{st st':St}(sz:Nat):∀(ps:List Operand) (k:List (List PV)->Prop),(∀x∈ps,st'.aQ x=st.aQ x)->Acd st sz ps k->Acd st' sz ps k:=by
 intro ps
 induction ps with
 |nil=>intro k _ h;exact h
 |cons x ps ih=>
  intro k hx h;have h1:st'.aQ x=st.aQ x:=hx x (by simp);simp only[Acd]at h ⊢;rw[h1];cases g1:X4 (st.aQ x).cells sz<;>cases g2:Zt (st.aQ x).cells<;>simp only[g1,g2]at h ⊢ <;>first
   |exact h.elim
   |exact ih _ (λy hy=>hx y (List.mem_cons_of_mem _ hy)) h
theorem Azj{st st':St} :∀(l:List Operand),(∀x∈l,st'.aQ x=st.aQ x)->Afd st' l=Afd st l:=by
 intro l
 induction l with
 |nil=>intro _;rfl
 |cons x l ih=>
  intro h;simp only[Afd];rw[h x (by simp),ih (λy hy=>h y (List.mem_cons_of_mem _ hy))]
theorem A0a{st st':St} :∀(l:List Operand),(∀x∈l,st'.aQ x=st.aQ x)->Abw st' ban l=Abw st ban l:=by
 intro l
 induction l with
 |nil=>intro _;rfl
 |cons x l ih=>
  intro h;have h1:=ih (λy hy=>h y (List.mem_cons_of_mem _ hy));cases ban with
  |nil=>rfl
  |cons c r=>
   simp only[Abw];rw[h x (by simp)];cases hq:st.aQ x<;>first|exact h1|(simp only[h1])
theorem A5c{st:St} :∀(l:List Operand),Abw st ban l=true->∀x∈l,∀b off,st.aQ x=.loc b off->Aw b ban=true:=by
 intro l
 induction l with
 |nil=>intro _ x hx;cases hx
 |cons y l ih=>
  intro h x hx b off hb;cases hban:ban with
  |nil=>rfl
  |cons c r=>
   rw[hban]at h;simp only[Abw]at h;rcases List.mem_cons.1 hx with e|e
   ·subst e;rw[hb]at h;simp only at h;cases g:Aw b (c::r) with
    |true=>rfl
    |false=>rw[g]at h;cases h
   ·have hl:Abw st (c::r) l=true:=by
     cases hy:st.aQ y with
     |loc b' off'=>
      rw[hy]at h;simp only at h;cases g:Aw b' (c::r) with
      |true=>rw[g]at h;exact h
      |false=>rw[g]at h;cases h
     |_=>rw[hy]at h;exact h
    rw[<-hban]at hl ⊢;exact ih hl x e b off hb
theorem Afz{st st':St}{d:Int}{x:Option Operand}(h:∀y∈A5i x,st'.aQ y=st.aQ y):st'.bnd d x=st.bnd d x:=by
 cases x with
 |none=>rfl
 |some y=>simp only[St.bnd];rw[h y (by simp[A5i])]
theorem Adj{st:St}{x:Operand}{b off:Nat}(hq:st.aQ x=.loc b off){o:K}(ho:o.addr=aOf x):∀a,o.addr=some a->At (st.get a) b:=by
 intro a ha;cases x with
 |tmp t=>rw[ho]at ha;injection ha with ha;subst ha;exact .inl ⟨off,hq⟩
 |_=>rw[ho]at ha;cases ha
theorem An7{st:St}{x:Operand}{b sz i off:Nat}(hq:st.aQ x=.el b sz i off){o:K}(ho:o.addr=aOf x):∀a,o.addr=some a->At (st.get a) b:=by
 intro a ha;cases x with
 |tmp t=>rw[ho]at ha;injection ha with ha;subst ha;exact .inr ⟨sz,i,off,hq⟩
 |_=>rw[ho]at ha;cases ha
theorem A6h(p:PV):p.view.pure0=p.pure0:=by
 cases p with
 |bI l=>cases l<;>rfl
 |_=>rfl
theorem Ang:∀l:List PV,Ia (l.map PV.view)=Ia l
 | []=>rfl
 |p::l=>by
  have:=Ang l;cases p with
  |bI k=>cases k<;>exact this
  |_=>first|exact this|rfl
theorem A9g{O O':Nat->List PV}{b off:Nat}(h:(O' b).map PV.view=(O b).map PV.view):Aly O' (.loc b off)=Aly O (.loc b off):=by
 have e:∀l:List PV,((l.map PV.view).map PV.pure0)=l.map PV.pure0:=λl=>by
  rw[List.map_map];exact List.map_congr_left λp _=>A6h p
 have d:((O' b).drop off).map PV.view=((O b).drop off).map PV.view:=by rw[List.map_drop,List.map_drop,h]
 have h1:Ia ((O' b).drop off)=Ia ((O b).drop off):=by rw[<-Ang,d,Ang]
 have h2:((O' b).drop off).map PV.pure0=((O b).drop off).map PV.pure0:=by rw[<-e,d,e]
 simp only[Aly,h1,h2]
theorem Aiw{o:K}{d:Option Nat}{st st':St}(hA:A90 ban o d st st'){k:Cy->Prop}(h:Ay P (Hm P) (Hf P) ban o d st k):Ay P (Hm P) (Hf P) ban o d st' k:=by
 have ad:∀(x:Operand) (o:K),(o=.loadT x\/(∃g sz,o=.load g sz x)\/(∃sz y,o=.store sz x y)\/∃s,o=.storeT x s)->o.addr=aOf x:=by
  intro x o ho;rcases ho with rfl|⟨g,sz,rfl⟩|⟨sz,y,rfl⟩|⟨s,rfl⟩<;>cases x<;>rfl
 cases o with
 |move x=>simp only[Ay,Ax]at h ⊢;rw[hA.aQ x (by simp[K.bQ])];exact h
 |fT e=>exact h
 |take s=>
  simp only[Ay,Ax]at h ⊢;have:st'.get s=st.get s:=hA.aQ (.tmp s) (by simp[K.bQ]);rw[this];exact h
 |pick c x y=>
  simp only[Ay,Ax]at h ⊢;rw[hA.aQ c (by simp[K.bQ]),hA.aQ x (by simp[K.bQ]),hA.aQ y (by simp[K.bQ])];exact h
 |alloc z=>
  simp only[Ay,Ax]at h ⊢;cases d with
  |none=>exact h
  |some s=>
   simp only at h ⊢;rw[hA.base];cases g1:Aw (st.base+s) (st.ob.map Prod.fst) with
   |false=>rw[g1]at h;exact h.elim
   |true=>rw[g1]at h;rw[hA.key rfl s rfl g1];exact h
 |box x=>
  simp only[Ay,Ax]at h ⊢;rw[hA.aQ x (by simp[K.bQ])];cases d with
  |none=>exact h
  |some s=>
   simp only at h ⊢;rw[hA.base];cases g1:Aw (st.base+s) (st.ob.map Prod.fst) with
   |false=>rw[g1]at h;exact h.elim
   |true=>rw[g1]at h;rw[hA.key rfl s rfl g1];exact h
 |build z parts=>simp only[Ay,Ax]at h ⊢;exact A2j _ _ _ (λx hx=>hA.aQ x hx) h
 |eX e sz parts=>simp only[Ay,Ax]at h ⊢;exact Asi _ _ _ (λx hx=>hA.aQ x hx) h
 |load g sz x=>
  simp only[Ay,Ax]at h ⊢;rw[hA.aQ x (by simp[K.bQ])];cases hq:st.aQ x with
  |loc b off=>
   rw[hq]at h;simp only at h ⊢;cases g1:Aw b ban with
   |false=>rw[g1]at h;exact h.elim
   |true=>rw[g1]at h;rw[hA.iE rfl b g1 (λh=>by cases h) (Adj hq (ad x _ (.inr (.inl ⟨_,_,rfl⟩))))];exact h
  |el b sz' i off=>
   rw[hq]at h;simp only at h ⊢;cases g1:Aw b ban with
   |false=>rw[g1]at h;exact h.elim
   |true=>rw[g1]at h;rw[hA.iE rfl b g1 (λh=>by cases h) (An7 hq (ad x _ (.inr (.inl ⟨_,_,rfl⟩))))];exact h
  |_=>rw[hq]at h;exact h
 |loadT x=>
  simp only[Ay,Ax]at h ⊢;rw[hA.aQ x (by simp[K.bQ])];cases hq:st.aQ x with
  |loc b off=>
   rw[hq]at h;cases d with
   |none=>exact h
   |some d=>
    dsimp only at h ⊢;rw[hA.obj rfl rfl (.inl rfl) b (.inl ⟨rfl,λh=>by cases h⟩) (Adj hq (ad x _ (.inl rfl)))];exact h
  |_=>rw[hq]at h;exact h
 |store sz x y=>
  simp only[Ay,Ax]at h ⊢;rw[hA.aQ x (by simp[K.bQ]),hA.aQ y (by simp[K.bQ])];cases hq:st.aQ x with
  |loc b off=>
   rw[hq]at h;dsimp only at h ⊢;rw[hA.obj rfl rfl (.inl rfl) b (.inl ⟨rfl,λh=>by cases h⟩) (Adj hq (ad x _ (.inr (.inr (.inl ⟨_,_,rfl⟩)))))];exact h
  |el b sz' i off=>
   rw[hq]at h;simp only at h ⊢;rw[hA.obj rfl rfl (.inl rfl) b (.inl ⟨rfl,λh=>by cases h⟩) (An7 hq (ad x _ (.inr (.inr (.inl ⟨_,_,rfl⟩)))))];exact h
  |_=>rw[hq]at h;exact h
 |storeT x s=>
  simp only[Ay,Ax]at h ⊢;have hs:st'.get s=st.get s:=hA.aQ (.tmp s) (by simp[K.bQ]);rw[hA.aQ x (by simp[K.bQ]),hs];cases hq:st.aQ x with
  |loc b off=>
   rw[hq]at h;dsimp only at h ⊢;rw[hA.obj rfl rfl (.inl rfl) b (.inl ⟨rfl,λh=>by cases h⟩) (Adj hq (ad x _ (.inr (.inr (.inr ⟨_,rfl⟩)))))];exact h
  |el b sz' i off=>
   rw[hq]at h;simp only at h ⊢;rw[hA.obj rfl rfl (.inl rfl) b (.inl ⟨rfl,λh=>by cases h⟩) (An7 hq (ad x _ (.inr (.inr (.inr ⟨_,rfl⟩)))))];exact h
  |_=>rw[hq]at h;exact h
 |dP o=>
  simp only[Ay,Ay1]at h ⊢;rw[Azj o.op.operands.toList (λx hx=>hA.aQ x hx)];have:execOp st'.valOf o=execOp st.valOf o:=execOp_congr o (hA.sel o rfl) (λx hx=>by
   have:=hA.aQ x (by simpa[K.bQ]using hx);simp only[St.valOf,this])
  rw[this];exact h
 |dJ tag x y=>simp only[Ay,Ax,Arg]at h ⊢;rw[hA.aQ x (by simp[K.bQ]),hA.aQ y (by simp[K.bQ])];exact h
 |gW neg ts x y=>simp only[Ay,Ax]at h ⊢;rw[hA.aQ x (by simp[K.bQ]),hA.aQ y (by simp[K.bQ])];exact h
 |field off x=>simp only[Ay,Ax]at h ⊢;rw[hA.aQ x (by simp[K.bQ])];exact h
 |index sz x i=>simp only[Ay,Ax]at h ⊢;rw[hA.aQ x (by simp[K.bQ]),hA.aQ i (by simp[K.bQ])];exact h
 |len x=>simp only[Ay,Ax]at h ⊢;rw[hA.aQ x (by simp[K.bQ])];exact h
 |cap x=>simp only[Ay,Ax]at h ⊢;rw[hA.aQ x (by simp[K.bQ])];exact h
 |app e sz by_ s x=>
  simp only[Ay,Ax]at h ⊢;have:st'.get s=st.get s:=hA.aQ (.tmp s) (by simp[K.bQ]);rw[hA.aQ x (by simp[K.bQ]),this];exact h
 |clone cm e sz by_ s x=>
  simp only[Ay,Ax]at h ⊢;have hs':st'.get s=st.get s:=hA.aQ (.tmp s) (by simp[K.bQ]);rw[hA.aQ x (by simp[K.bQ]),hs',hA.base];cases d with
  |none=>exact h
  |some d=>
   cases hn:LX.nil e with
   |none=>rw[hn]at h;exact h
   |some n=>
    rw[hn]at h;dsimp only at h ⊢;cases g1:Aw (st.base+d) (st.ob.map Prod.fst) with
    |true=>rw[g1]at h;rw[hA.key rfl d rfl g1];exact h
    |false=>rw[g1]at h;exact h.elim
 |call f args=>
  simp only[Ay,Ax]at h ⊢;rw[A0a args (λx hx=>hA.aQ x hx)];cases g1:Abw st ban args with
  |false=>rw[g1]at h;exact h.elim
  |true=>
   rw[g1]at h;have:args.map (λx=>Aly st'.obj (st'.aQ x))=args.map (λx=>Aly st.obj (st.aQ x)):=by
    apply List.map_congr_left;intro x hx;rw[hA.aQ x hx];cases hq:st.aQ x with
    |loc b off=>exact A9g (hA.iE rfl b (A5c _ g1 x hx b off hq) (λh=>by cases h) (λa ha=>by cases ha))
    |_=>rfl
   rw[this];exact h
 |fJ f args=>
  simp only[Ay,Ax]at h ⊢;obtain⟨w1,w2⟩:=hA.gJ rfl;obtain⟨hc,r,o',hI,hk⟩:=h;have:args.map (λx=>(st'.aQ x).view)=args.map (λx=>(st.aQ x).view):=List.map_congr_left λx hx=>by rw[hA.aQ x hx]
  rw[this];exact⟨hc,r,o',hI.congr w1 w2,hk⟩
 |fI x args=>
  simp only[Ay,Ax]at h ⊢;obtain⟨w1,w2⟩:=hA.gJ rfl;have:args.map (λx=>(st'.aQ x).view)=args.map (λx=>(st.aQ x).view):=List.map_congr_left λy hy=>by rw[hA.aQ y (by simp[K.bQ,hy])]
  rw[this,hA.aQ x (by simp[K.bQ])];split at h
  ·obtain⟨hc,r,o',hI,hk⟩:=h;exact⟨hc,r,o',hI.congr w1 w2,hk⟩
  ·exact h.elim
 |gQ f n caps=>
  simp only[Ay,Ax]at h ⊢;have:caps.map (λx=>(st'.aQ x).view)=caps.map (λx=>(st.aQ x).view):=List.map_congr_left λx hx=>by rw[hA.aQ x hx]
  rw[this];exact h
 |extract x i=>simp only[Ay,Ax]at h ⊢;rw[hA.aQ x (by simp[K.bQ])];exact h
 |nil x=>simp only[Ay,Ax]at h ⊢;rw[hA.aQ x (by simp[K.bQ])];exact h
 |gH e sz by_ z n=>
  simp only[Ay,Ax]at h ⊢;rw[hA.aQ n (by simp[K.bQ]),hA.base];cases d with
  |none=>exact h
  |some s=>
   cases g1:Aw (st.base+s) (st.ob.map Prod.fst) with
   |true=>
    have g2:=hA.key rfl s rfl g1;split at h
    ·rename_i s' m hs hv;injection hs with hs
     subst hs;rw[g2];rw[g1]at h;exact h
    ·exact h.elim
   |false=>
    split at h
    ·rename_i s' m hs hv;injection hs with hs
     subst hs;rw[g1]at h;split at h
     ·split at h
      ·rename_i e _;cases e
      ·exact h.elim
     ·split at h
      ·rename_i e _;cases e
      ·exact h.elim
    ·exact h.elim
 |fZ e sz by_ n=>simp only[Ay,Ax]at h ⊢;rw[hA.aQ n (by simp[K.bQ])];exact h
 |iA sz x lo hi mx=>
  simp only[Ay,Ax,Aoh]at h ⊢;have e1:∀d,st'.bnd d lo=st.bnd d lo:=λd=>Afz λy hy=>hA.aQ y (by simp[K.bQ,hy]);have e2:∀d,st'.bnd d hi=st.bnd d hi:=λd=>Afz λy hy=>hA.aQ y (by simp[K.bQ,hy]);have e3:∀d,st'.bnd d mx=st.bnd d mx:=λd=>Afz λy hy=>hA.aQ y (by simp[K.bQ,hy]);rw[hA.aQ x (by simp[K.bQ])];simp only[e1,e2,e3];exact h
 |gN x lo hi=>
  simp only[Ay,Ax]at h ⊢;have e1:∀d,st'.bnd d lo=st.bnd d lo:=λd=>Afz λy hy=>hA.aQ y (by simp[K.bQ,hy]);have e2:∀d,st'.bnd d hi=st.bnd d hi:=λd=>Afz λy hy=>hA.aQ y (by simp[K.bQ,hy]);rw[hA.aQ x (by simp[K.bQ])];simp only[e1,e2];exact h
 |fP gk gv ks vs=>
  simp only[Ay,Ax]at h ⊢;cases d with
  |none=>exact h
  |some s=>
   simp only at h ⊢;rw[hA.base];cases g1:Aw (st.base+s) (st.ob.map Prod.fst) with
   |false=>rw[g1]at h;exact h.elim
   |true=>rw[g1]at h;rw[hA.key rfl s rfl g1];exact h
 |lookup gq ts ok g z m q=>
  simp only[Ay,Ax]at h ⊢;rw[hA.aQ m (by simp[K.bQ]),hA.aQ q (by simp[K.bQ])];cases hq:st.aQ m with
  |mp b=>
   rw[hq]at h;simp only at h ⊢;cases g1:Aw b ban with
   |false=>rw[g1]at h;exact h.elim
   |true=>rw[g1]at h;rw[hA.obj rfl rfl (.inl rfl) b (.inr g1) (λa ha=>by cases ha)];exact h
  |_=>rw[hq]at h;exact h
 |fH gq ts m q v=>
  simp only[Ay,Ax]at h ⊢;rw[hA.aQ m (by simp[K.bQ]),hA.aQ q (by simp[K.bQ]),hA.aQ v (by simp[K.bQ])];cases hq:st.aQ m with
  |mp b=>
   rw[hq]at h;dsimp only at h ⊢;rw[hA.obj rfl rfl (.inl rfl) b (.inl ⟨rfl,λh=>by cases h⟩) (λa ha=>by cases ha)];exact h
  |_=>rw[hq]at h;exact h
 |del gq ts m q=>
  simp only[Ay,Ax]at h ⊢;rw[hA.aQ m (by simp[K.bQ]),hA.aQ q (by simp[K.bQ])];cases hq:st.aQ m with
  |mp b=>
   rw[hq]at h;dsimp only at h ⊢;rw[hA.obj rfl rfl (.inl rfl) b (.inl ⟨rfl,λh=>by cases h⟩) (λa ha=>by cases ha)];exact h
  |_=>rw[hq]at h;exact h
 |fQ f args=>
  simp only[Ay,Ax]at h ⊢;have e0:Yv st' args=Yv st args:=Amb args (λx hx=>hA.aQ x hx);have:args.map (λx=>(st'.aQ x).view)=args.map (λx=>(st.aQ x).view):=List.map_congr_left λx hx=>by rw[hA.aQ x hx]
  rw[e0,this];exact h
 |gL x=>simp only[Ay,Ax]at h ⊢;rw[hA.aQ x (by simp[K.bQ])];exact h
 |dZ f args s=>
  simp only[Ay,Ax]at h ⊢;cases g1:Apb s args with
  |false=>rw[g1]at h;exact h.elim
  |true=>
   rw[g1]at h;simp only at h ⊢;obtain⟨w1,w2⟩:=hA.gJ rfl;obtain⟨hc,r,o',hI,hk⟩:=h;have e0:st'.get s=st.get s:=hA.aQ (.tmp s) (by simp[K.bQ]);have:args.map (λx=>st'.argT s x)=args.map (λx=>st.argT s x):=List.map_congr_left λx hx=>by
    have h2:=hA.aQ x (by simp[K.bQ,hx]);cases x with
    |tmp t=>
     have h2:st'.get t=st.get t:=h2;simp only[St.argT,h2]
    |_=>simp only[St.argT];rw[h2]
   rw[this,e0];exact⟨hc,r,o',hI.congr w1 w2,hk⟩
 |dU s=>
  simp only[Ay]at h ⊢;rw[show st'.get s=st.get s from hA.aQ (.tmp s) (by simp[K.bQ])];exact h
 |eT r sz a x=>
  simp only[Ay,Ax]at h ⊢;have e0:st'.get r=st.get r:=hA.aQ (.tmp r) (by simp[K.bQ]);rw[hA.aQ a (by simp[K.bQ]),hA.aQ x (by simp[K.bQ]),e0];cases hq:st.aQ a with
  |loc b off=>
   cases hr:st.get r with
   |loc b' o'=>
    rw[hq,hr]at h;simp only at h ⊢;cases g1:Nat.beq b b' with
    |false=>rw[g1]at h;exact h.elim
    |true=>
     rw[g1]at h;rw[hA.obj rfl rfl (.inl rfl) b (.inl ⟨rfl,λh=>by cases h⟩) (λa ha=>by injection ha with ha;subst ha;rw[hr,Nat.eq_of_beq_eq_true g1];exact At.of_loc)];exact h
   |_=>rw[hq,hr]at h;exact h.elim
  |_=>rw[hq]at h;exact h.elim
 |fC near r g sz x=>
  simp only[Ay,Ax]at h ⊢;have e0:st'.get r=st.get r:=hA.aQ (.tmp r) (by simp[K.bQ]);rw[hA.aQ x (by simp[K.bQ]),e0,hA.base];cases hq:st.aQ x with
  |loc b off=>
   cases hr:st.get r with
   |loc b' o'=>
    rw[hq,hr]at h;simp only at h ⊢;cases g1:Aw b ban && (Nat.beq b b' && (!near || Nat.ble st.base b)) with
    |false=>rw[g1]at h;exact h.elim
    |true=>
     rw[g1]at h;simp only[Bool.and_eq_true,Bool.or_eq_true,Bool.not_eq_true']at g1;obtain⟨g2,g3,g4⟩:=g1;have g3:=Nat.eq_of_beq_eq_true g3;rw[hA.iE rfl b g2 (λhn=>Nat.le_of_ble_eq_true (g4.resolve_left (λe=>by have hn:near=true:=hn;rw[hn]at e;cases e))) (λa ha=>by injection ha with ha;subst ha;rw[hr,g3];exact At.of_loc)];exact h
   |_=>rw[hq,hr]at h;exact h.elim
  |_=>rw[hq]at h;exact h.elim
 |fG f args=>
  simp only[Ay]at h ⊢;split at h
  ·rename_i s r0;have e0:st'.get s=st.get s:=hA.aQ (.tmp s) (by simp[K.bQ]);have e1:List.map (λx=>(st'.aQ x).view) (.tmp s::r0)=List.map (λx=>(st.aQ x).view) (.tmp s::r0):=List.map_congr_left λx hx=>by rw[hA.aQ x (by simpa[K.bQ]using hx)]
   split at h
   ·rename_i hl;rw[e0,e1,hA.base];simp only[hl];have hloc:∃b,st.get s=.loc b 0/\b<st.base:=by
     unfold Bll at hl;split at hl
     ·rename_i b hb;exact⟨b,hb,Nat.le_of_ble_eq_true hl⟩
     ·cases hl
    obtain⟨b,hb,hbn⟩:=hloc;have eo:=hA.obj rfl rfl (.inl rfl) b (.inl ⟨rfl,λ_=>hbn⟩) (λa ha=>by injection ha with ha;subst ha;rw[hb];exact At.of_loc);have ek:=hA.scn rfl b hbn (λa ha=>by injection ha with ha;subst ha;rw[hb];exact At.of_loc);have hv:List.map (λx=>(st.aQ x).view) (.tmp s::r0)=.loc b 0::List.map (λx=>(st.aQ x).view) r0:=by
     rw[List.map_cons];show(st.get s).view::_=_
     rw[hb];rfl
    rw[hv]at h ⊢;simp only[stK]at h ⊢;have eo':C1 [] st'.ob b=C1 [] st.ob b:=eo;rw[eo',ek];exact h
   ·exact h.elim
  ·exact h.elim
 |gG cm e sz parts=>
  simp only[Ay,Ax]at h ⊢;cases d with
  |none=>exact h.elim
  |some d=>
   simp only at h ⊢;rw[hA.base];cases g1:Aw (st.base+d) (st.ob.map Prod.fst) with
   |false=>rw[g1]at h;exact h.elim
   |true=>
    rw[g1]at h;rw[hA.key rfl d rfl g1];exact Asi sz parts _ (λx hx=>hA.aQ x hx) h
 |gF cm e sz by_ s x=>
  simp only[Ay,Ax]at h ⊢;have e0:st'.get s=st.get s:=hA.aQ (.tmp s) (by simp[K.bQ]);rw[e0,hA.aQ x (by simp[K.bQ])];cases d with
  |none=>exact h.elim
  |some d=>
   simp only at h ⊢;rw[hA.base];cases g1:Aw (st.base+d) (st.ob.map Prod.fst) with
   |false=>rw[g1]at h;exact h.elim
   |true=>
    rw[g1]at h;rw[hA.key rfl d rfl g1];split at h
    ·rename_i b _ _ _ own z _ hb hz;rw[hA.obj rfl rfl (.inr rfl) b (.inl ⟨rfl,λh=>by cases h⟩) (λa ha=>by cases ha)];exact h
    ·exact h.elim
 |ext sub x y c=>simp only[Ay,Ax]at h ⊢;rw[hA.aQ x (by simp[K.bQ]),hA.aQ y (by simp[K.bQ]),hA.aQ c (by simp[K.bQ])];exact h
 |gT off sz g x=>simp only[Ay,Ax]at h ⊢;rw[hA.aQ x (by simp[K.bQ])];exact h
 |stop=>exact h
def A7x(ban:List Nat)(o:K)(d:Option Nat)(st:St)(b:Nat):Prop:=(o.bS=true/\(∀a,o.addr=some a->At (st.get a) b)/\(o.fF=true->b<st.base))\/(o.makes=true/\∃s,d=some s/\b=st.base+s)
theorem Ay4{o:K}{d:Option Nat}{st:St}{δ :Cy}(h:Ay P (Hm P) (Hf P) ban o d st (λδ'=> δ'= δ)):
  (∀s∈δ.s.map Prod.fst,s∈Ht.writes ⟨d,none,o⟩)/\(∀b∈δ.o.map Prod.fst,A7x ban o d st b):=by
 have put:∀(p:PV),dput d p= δ->(∀s∈δ.s.map Prod.fst,s∈Ht.writes ⟨d,none,o⟩)/\(∀b∈δ.o.map Prod.fst,A7x ban o d st b):=by
  intro p e;subst e;cases d with
  |none=>exact⟨λs hs=>by simp[dput]at hs,λb hb=>by simp[dput]at hb⟩
  |some x=>exact⟨λs hs=>by simp[dput]at hs;simp[Ht.writes,hs],λb hb=>by simp[dput]at hb⟩
 have ad:∀(x:Operand) (o:K),(o=.loadT x\/(∃g sz,o=.load g sz x)\/(∃sz y,o=.store sz x y)\/∃s,o=.storeT x s)->o.addr=aOf x:=by
  intro x o ho;rcases ho with rfl|⟨g,sz,rfl⟩|⟨sz,y,rfl⟩|⟨s,rfl⟩<;>cases x<;>rfl
 cases o with
 |move x=>exact put _ h
 |fT e=>
  simp only[Ay,Ax]at h;split at h
  ·subst h;exact⟨λy hy=>by simpa[Ht.writes]using hy,λb hb=>by simp at hb⟩
  ·exact h.elim
 |take s=>
  cases d with
  |none=>exact h.elim
  |some x=>subst h;exact⟨λy hy=>by simpa[Ht.writes]using hy,λb hb=>by simp at hb⟩
 |pick c x y=>
  simp only[Ay,Ax]at h;split at h
  ·rename_i t _;cases t<;>exact put _ h
  ·exact h.elim
 |alloc z=>
  simp only[Ay,Ax]at h;cases d with
  |none=>exact h.elim
  |some s=>
   simp only at h;split at h
   ·subst h;exact⟨λy hy=>by simpa[Ht.writes]using hy,λb hb=>by simp at hb;subst hb;exact .inr ⟨rfl,s,rfl,rfl⟩⟩
   ·exact h.elim
 |box x=>
  simp only[Ay,Ax]at h;cases d with
  |none=>exact h.elim
  |some s=>
   simp only at h;split at h
   ·subst h;exact⟨λy hy=>by simpa[Ht.writes]using hy,λb hb=>by simp at hb;subst hb;exact .inr ⟨rfl,s,rfl,rfl⟩⟩
   ·exact h.elim
 |build z parts=>
  simp only[Ay,Ax]at h;obtain⟨l,h1,_⟩:=Au2 st _ _ _ h;exact put _ h1
 |eX e sz parts=>
  simp only[Ay,Ax]at h;obtain⟨l,h1,_⟩:=Aic st _ _ _ h;split at h1
  ·split at h1
   ·exact put _ h1
   ·exact h1.elim
  ·exact put _ h1
 |load g sz x=>
  simp only[Ay,Ax]at h;split at h
  ·split at h
   ·exact put _ h
   ·exact h.elim
  ·split at h
   ·exact put _ h
   ·exact h.elim
  ·split at h
   ·split at h
    ·exact put _ h
    ·exact h.elim
   ·exact h.elim
  ·exact h.elim
 |loadT x=>
  simp only[Ay,Ax]at h;split at h
  ·rename_i b off d' hq;split at h
   ·subst h;exact⟨λy hy=>by simpa[Ht.writes]using hy,λb' hb=>by simp at hb;subst hb;exact .inl ⟨rfl,Adj hq (ad x _ (.inl rfl)),λh=>by cases h⟩⟩
   ·exact h.elim
  ·exact h.elim
 |store sz x y=>
  simp only[Ay,Ax]at h;split at h
  ·rename_i b off hq;split at h
   ·subst h;exact⟨λy hy=>by simp at hy,λb' hb=>by simp at hb;subst hb;exact .inl ⟨rfl,Adj hq (ad x _ (.inr (.inr (.inl ⟨_,_,rfl⟩)))),λh=>by cases h⟩⟩
   ·exact h.elim
  ·rename_i b sz' i off hq;split at h
   ·split at h
    ·subst h;exact⟨λy hy=>by simp at hy,λb' hb=>by simp at hb;subst hb;exact .inl ⟨rfl,An7 hq (ad x _ (.inr (.inr (.inl ⟨_,_,rfl⟩)))),λh=>by cases h⟩⟩
    ·exact h.elim
   ·exact h.elim
  ·exact h.elim
 |storeT x s=>
  simp only[Ay,Ax]at h;split at h
  ·rename_i b off hq;split at h
   ·subst h;exact⟨λy hy=>by simp at hy;simp[Ht.writes,hy],λb' hb=>by simp at hb;subst hb;exact .inl ⟨rfl,Adj hq (ad x _ (.inr (.inr (.inr ⟨_,rfl⟩)))),λh=>by cases h⟩⟩
   ·exact h.elim
  ·rename_i b sz' i off hq;split at h
   ·split at h
    ·subst h;exact⟨λy hy=>by simp at hy;simp[Ht.writes,hy],λb' hb=>by simp at hb;subst hb;exact .inl ⟨rfl,An7 hq (ad x _ (.inr (.inr (.inr ⟨_,rfl⟩)))),λh=>by cases h⟩⟩
    ·exact h.elim
   ·exact h.elim
  ·exact h.elim
 |dP o=>
  simp only[Ay,Ay1]at h;cases g1:Afd st o.op.operands.toList with
  |false=>rw[g1]at h;exact h.elim
  |true=>
   rw[g1]at h;obtain⟨n,h1,_⟩:=Ape _ _ h;cases n with
   |value v=>
    simp only at h1;cases g2:Arq v with
    |false=>rw[g2]at h1;exact h1.elim
    |true=>rw[g2]at h1;exact put _ h1
   |_=>exact h1.elim
 |dJ tag x y=>
  simp only[Ay,Ax]at h;split at h
  ·split at h
   ·rename_i c r _;cases c with
    |true=>exact put _ h
    |false=>exact h.elim
   ·exact h.elim
  ·unfold Arg at h;split at h
   ·split at h
    ·simp only[Ax]at h;exact put _ h.2
    ·simp only[Ax]at h;exact put _ h.2
    ·exact h.elim
   ·exact h.elim
  ·exact h.elim
 |gW neg ts x y=>
  simp only[Ay,Ax]at h;split at h
  ·split at h
   ·cases neg<;>exact put _ h
   ·exact h.elim
  ·exact h.elim
 |field off x=>
  simp only[Ay,Ax]at h;split at h<;>first|exact h.elim|exact put _ h
 |index sz x i=>
  simp only[Ay,Ax]at h;split at h
  ·split at h<;>first|exact h.elim|exact put _ h.2.2
  ·split at h
   ·split at h
    ·exact put _ h.2.2
    ·exact h.elim
   ·exact h.elim
  ·exact h.elim
 |len x=>
  simp only[Ay,Ax]at h;split at h
  ·exact put _ h
  ·exact put _ h
  ·split at h
   ·exact put _ h
   ·exact h.elim
 |cap x=>
  simp only[Ay,Ax]at h;split at h
  ·exact put _ h
  ·exact h.elim
 |app e sz by_ s x=>
  simp only[Ay,Ax]at h;cases d with
  |none=>exact h.elim
  |some d=>
   simp only at h;split at h
   ·split at h
    ·have h':=h.2.2;subst h';exact⟨λy hy=>by simpa[Ht.writes]using hy,λb hb=>by simp at hb⟩
    ·exact h.elim
   ·split at h
    ·subst h;exact⟨λy hy=>by simpa[Ht.writes]using hy,λb hb=>by simp at hb⟩
    ·exact h.elim
   ·split at h
    ·have h':=h.2.2;subst h';exact⟨λy hy=>by simp at hy;simp[Ht.writes,hy],λb hb=>by simp at hb⟩
    ·exact h.elim
   ·exact h.elim
 |clone cm e sz by_ s x=>
  simp only[Ay,Ax]at h;split at h
  ·rename_i d n _;split at h
   ·split at h
    ·rename_i own q _;split at h
     ·cases hb:Nat.beq q.len 0 with
      |true=>
       rw[hb]at h;have h':_= δ :=h;subst h';exact⟨λy hy=>by simpa[Ht.writes]using hy,λb hb=>by simp at hb⟩
      |false=>
       rw[hb]at h;have h':=h.2.2;subst h';exact⟨λy hy=>by simpa[Ht.writes]using hy,λb hb=>by simp at hb;subst hb;exact .inr ⟨rfl,d,rfl,rfl⟩⟩
     ·exact h.elim
    ·exact h.elim
   ·exact h.elim
  ·exact h.elim
 |call f args=>
  simp only[Ay,Ax]at h;split at h
  ·obtain⟨r,_,h2⟩:=h;exact put _ h2
  ·exact h.elim
 |fJ f args=>
  simp only[Ay,Ax]at h;obtain⟨_,r,o',_,h2⟩:=h;refine⟨λs hs=>?_,λb _=>.inl ⟨rfl,λa ha=>(by cases ha),λh=>by cases h⟩⟩;have: δ.s=(dput d r).s:=by rw[<-h2]
  rw[this]at hs;cases d with
  |none=>simp[dput]at hs
  |some x=>simp[dput]at hs;simp[Ht.writes,hs]
 |fI x args=>
  simp only[Ay,Ax]at h;split at h
  ·obtain⟨_,r,o',_,h2⟩:=h;refine⟨λs hs=>?_,λb _=>.inl ⟨rfl,λa ha=>(by cases ha),λh=>by cases h⟩⟩;have: δ.s=(dput d r).s:=by rw[<-h2]
   rw[this]at hs;cases d with
   |none=>simp[dput]at hs
   |some x=>simp[dput]at hs;simp[Ht.writes,hs]
  ·exact h.elim
 |gQ f n caps=>exact put _ h
 |extract x i=>
  simp only[Ay,Ax]at h;split at h
  ·split at h
   ·exact put _ h
   ·exact h.elim
  ·exact h.elim
 |nil x=>
  simp only[Ay,Ax]at h;split at h<;>first|exact h.elim|exact put _ h
 |gH e sz by_ z n=>
  simp only[Ay,Ax]at h;split at h
  ·rename_i s m hv;split at h
   ·split at h
    ·subst h;exact⟨λy hy=>by simpa[Ht.writes]using hy,λb hb=>by simp at hb;subst hb;exact .inr ⟨rfl,s,rfl,rfl⟩⟩
    ·exact h.elim
   ·split at h
    ·split at h
     ·have h':=h.2.2.2;subst h';exact⟨λy hy=>by simpa[Ht.writes]using hy,λb hb=>by simp at hb;subst hb;exact .inr ⟨rfl,s,rfl,rfl⟩⟩
     ·exact h.elim
    ·exact h.elim
  ·exact h.elim
 |fZ e sz by_ n=>
  simp only[Ay,Ax]at h;split at h
  ·split at h
   ·have h':=h.2.2.2;subst h';exact⟨λy hy=>by simpa[Ht.writes]using hy,λb hb=>by simp at hb⟩
   ·exact h.elim
  ·exact h.elim
 |iA sz x lo hi mx=>
  simp only[Ay,Ax,Aoh]at h;split at h
  ·split at h
   ·split at h
    ·split at h
     ·exact put _ h.2.2.2.2.2
     ·exact h.elim
    ·exact h.elim
   ·exact h.elim
  ·exact h.elim
 |gN x lo hi=>
  simp only[Ay,Ax]at h;split at h
  ·split at h
   ·split at h
    ·exact put _ h.2.2.2
    ·exact h.elim
   ·exact h.elim
  ·exact h.elim
 |fP gk gv ks vs=>
  simp only[Ay,Ax]at h;cases d with
  |none=>exact h.elim
  |some s=>
   simp only at h;split at h
   ·subst h;exact⟨λy hy=>by simpa[Ht.writes]using hy,λb hb=>by simp at hb;subst hb;exact .inr ⟨rfl,s,rfl,rfl⟩⟩
   ·exact h.elim
 |lookup gq ts ok g z m q=>
  simp only[Ay,Ax]at h;split at h
  ·split at h
   ·split at h
    ·rename_i r _ _ _;cases r<;>exact put _ h
    ·exact h.elim
   ·exact h.elim
  ·exact h.elim
 |fH gq ts m q v=>
  have fin:∀(b:Nat) (l:List PV),(⟨[],[(b,l)]⟩:Cy)= δ->(∀s∈δ.s.map Prod.fst,s∈Ht.writes ⟨d,none,.fH gq ts m q v⟩)/\(∀b∈δ.o.map Prod.fst,A7x ban (.fH gq ts m q v) d st b):=by
   intro b l e;subst e;exact⟨λy hy=>by simp at hy,λb' hb=>.inl ⟨rfl,λa ha=>(by cases ha),λh=>by cases h⟩⟩
  simp only[Ay,Ax]at h;split at h
  ·split at h
   ·split at h
    ·rename_i r c _ _ _;cases r with
     |none=>
      simp only[fk]at h;split at h
      ·exact fin _ _ h
      ·exact h.elim
     |some i=>
      simp only[fk]at h;split at h
      ·exact fin _ _ h
      ·exact h.elim
    ·exact h.elim
   ·exact h.elim
  ·exact h.elim
 |del gq ts m q=>
  simp only[Ay,Ax]at h;split at h
  ·split at h
   ·split at h
    ·rename_i r _ _;cases r with
     |none=>
      simp only[fk]at h;subst h;exact⟨λy hy=>by simp at hy,λb' hb=>by simp at hb⟩
     |some i=>
      simp only[fk]at h;split at h
      ·subst h;exact⟨λy hy=>by simp at hy,λb' hb=>.inl ⟨rfl,λa ha=>(by cases ha),λh=>by cases h⟩⟩
      ·exact h.elim
    ·exact h.elim
   ·exact h.elim
  ·exact h.elim
 |fQ f args=>
  simp only[Ay,Ax]at h;split at h
  ·obtain⟨hc,r,o',h1,h2⟩:=h;unfold A84 at h2;split at h2
   ·exact put _ h2
   ·exact h2.elim
  ·exact h.elim
 |gL x=>
  simp only[Ay,Ax]at h;split at h
  ·split at h
   ·exact put _ h
   ·exact h.elim
  ·exact put _ h
  ·exact h.elim
 |dZ f args s0=>
  simp only[Ay,Ax]at h;split at h
  ·obtain⟨_,r,o',_,h2⟩:=h;refine⟨λs hs=>?_,λb _=>.inl ⟨rfl,λa ha=>(by cases ha),λh=>by cases h⟩⟩;have: δ.s=(dput d r).s++ [(s0,(st.get s0).view)]:=by rw[<-h2]
   rw[this]at hs;cases d with
   |none=>simp[dput]at hs;simp[Ht.writes,hs]
   |some x=>simp[dput]at hs;simp[Ht.writes];exact hs
  ·exact h.elim
 |dU s=>
  simp only[Ay]at h;split at h
  ·subst h;exact⟨λy hy=>by simpa[Ht.writes]using hy,λb hb=>by simp at hb⟩
  ·subst h;exact⟨λy hy=>by simp[dput]at hy;simp[Ht.writes,hy],λb hb=>by simp[dput]at hb⟩
  ·exact h.elim
 |eT r sz a x=>
  simp only[Ay,Ax]at h;split at h
  ·rename_i b off b' o' hq hr;split at h
   ·rename_i g1 _ _ _;subst h;exact⟨λy hy=>by simp at hy,λb'' hb=>by simp at hb;subst hb;exact .inl ⟨rfl,λa ha=>(by injection ha with ha;subst ha;rw[hr,Nat.eq_of_beq_eq_true g1];exact At.of_loc),λh=>by cases h⟩⟩
   ·exact h.elim
  ·exact h.elim
 |fC near r g sz x=>
  simp only[Ay,Ax]at h;split at h
  ·split at h
   ·exact put _ h
   ·exact h.elim
  ·exact h.elim
 |fG f args=>
  simp only[Ay]at h;split at h
  ·rename_i s r0;split at h
   ·rename_i hl;have hloc:∃b,st.get s=.loc b 0/\b<st.base:=by
     unfold Bll at hl;split at hl
     ·rename_i b hb;exact⟨b,hb,Nat.le_of_ble_eq_true hl⟩
     ·cases hl
    obtain⟨b,hb,hbn⟩:=hloc;have hv:List.map (λx=>(st.aQ x).view) (.tmp s::r0)=.loc b 0::List.map (λx=>(st.aQ x).view) r0:=by
     rw[List.map_cons];show(st.get s).view::_=_
     rw[hb];rfl
    rw[hv]at h;simp only[stK]at h;split at h
    ·obtain⟨r,_,h2⟩:=h;split at h2
     ·rename_i r1 l;subst h2;refine⟨λy hy=>?_,λb' hb'=>?_⟩
      ·cases d with
       |none=>simp[dput]at hy
       |some x=>simp[dput]at hy;simp[Ht.writes,hy]
      ·simp at hb';subst hb';exact .inl ⟨rfl,λa ha=>by injection ha with ha;subst ha;rw[hb];exact At.of_loc,λ_=>hbn⟩
     ·exact h2.elim
    ·exact h.elim
   ·exact h.elim
  ·exact h.elim
 |gG cm e sz parts=>
  simp only[Ay,Ax]at h;cases d with
  |none=>exact h.elim
  |some d=>
   simp only at h;split at h
   ·obtain⟨l,h1,_⟩:=Aic st _ _ _ h;cases cm with
    |true=>
     have h1:_= δ :=h1;subst h1;exact⟨λy hy=>by simpa[Ht.writes]using hy,λb hb=>by simp at hb;subst hb;exact .inr ⟨rfl,d,rfl,rfl⟩⟩
    |false=>
     simp only at h1;split at h1
     ·split at h1
      ·subst h1;exact⟨λy hy=>by simpa[Ht.writes]using hy,λb hb=>by simp at hb;subst hb;exact .inr ⟨rfl,d,rfl,rfl⟩⟩
      ·exact h1.elim
     ·exact h1.elim
   ·exact h.elim
 |gF cm e sz by_ s x=>
  simp only[Ay,Ax]at h;cases d with
  |none=>exact h.elim
  |some d=>
   simp only at h;split at h
   ·split at h
    ·split at h
     ·have h':=h.2.2;subst h';refine⟨λy hy=>by simpa[Ht.writes]using hy,λb hb=>?_⟩;simp at hb;rcases hb with rfl|rfl
      ·exact .inr ⟨rfl,d,rfl,rfl⟩
      ·exact .inl ⟨rfl,λa ha=>(by cases ha),λh=>by cases h⟩
     ·exact h.elim
    ·exact h.elim
   ·exact h.elim
 |ext sub x y c=>
  simp only[Ay,Ax]at h;split at h
  ·exact put _ h.2
  ·exact h.elim
 |gT off sz g x=>
  simp only[Ay,Ax]at h;split at h
  ·split at h
   ·exact put _ h
   ·exact h.elim
  ·exact h.elim
 |stop=>exact h.elim
end
end Go.Proofs.YtgacplpjamkieaaGreat.Ev
namespace Go.Proofs.YtgacplpjamkieaaGreat.Ev
open Go Go.RowKit
structure Qq (s t:St):Prop where
 base:s.base=t.base
 get:∀x,s.get x=t.get x
 obj:∀d,s.obj d=t.obj d
 key:∀d,Aw d (s.ob.map Prod.fst)=Aw d (t.ob.map Prod.fst)
theorem Qq.refl(s:St):Qq s s:=⟨rfl,λ_=>rfl,λ_=>rfl,λ_=>rfl⟩
theorem Qq.symm{s t:St}(h:Qq s t):Qq t s:=⟨h.base.symm,λx=>(h.get x).symm,λd=>(h.obj d).symm,λd=>(h.key d).symm⟩
theorem Qq.trans{s t u:St}(h:Qq s t)(h':Qq t u):Qq s u:=⟨h.base.trans h'.base,λx=>(h.get x).trans (h'.get x),λd=>(h.obj d).trans (h'.obj d),λd=>(h.key d).trans (h'.key d)⟩
theorem Wo(st:St)(δ :Cy)(s:Nat):(st.app δ).get s=if s∈δ.s.map Prod.fst then C1 .any δ.s s else st.get s:=J8 _ _ _ _
theorem Ys(st:St)(δ :Cy)(s:Nat):(st.app δ).obj s=if s∈δ.o.map Prod.fst then C1 [] δ.o s else st.obj s:=(Agr _ _ _).trans (J8 _ _ _ _)
theorem Ul(st:St)(δ :Cy)(s:Nat):Aw s ((st.app δ).ob.map Prod.fst)=(Aw s (δ.o.map Prod.fst) && Aw s (st.ob.map Prod.fst)):=by
 rw[<-L3,<-List.map_append];exact Alj _ _ _
theorem Qq.app{s t:St}(h:Qq s t)(δ :Cy):Qq (s.app δ) (t.app δ):=
 ⟨h.base,λx=>by rw[Wo,Wo,h.get],λx=>by rw[Ys,Ys,h.obj],λx=>by rw[Ul,Ul,h.key]⟩
section
variable {ι :Type} {cx: ι->PV×Value} {P:Program} {C:Bj} {X:Inl} {ban:List Nat} {w0:He} {w:World} {N M:Ro} {β :Qd} {nt:Nat} {st:St} {a:Act}
theorem SR.equiv{st':St}(h:SR cx w0 N nt st a w M β)(he:Qq st st'):SR cx w0 N nt st' a w M β :=by
 have e1:st'.obj=st.obj:=funext λd=>(he.obj d).symm;have e2:(λd=>Aw d (st'.ob.map Prod.fst))=λd=>Aw d (st.ob.map Prod.fst):=funext λd=>(he.key d).symm;have e3:hold cx st' a=hold cx st a:=funext λk=>by
  cases k with
  |inl s=>simp only[hold];rw[he.get]
  |inr i=>rfl
 refine⟨h.defs,h.nt,?_⟩;rw[e1,e2,e3];exact h.sh
theorem Qq.aQ{s t:St}(h:Qq s t)(x:Operand):t.aQ x=s.aQ x:=by
 cases x with
 |tmp n=>exact(h.get n).symm
 |_=>rfl
theorem Qq.agree{s t:St}(h:Qq s t)(o:K)(d:Option Nat)(hsel:∀o',o=.dP o'->∀cs b,o'.op≠ .select cs b):A90 ban o d s t:=
 ⟨λx _=>h.aQ x,λ_ _ _ b _ _=>(h.obj b).symm,λ_ b _ _ _=>by unfold St.vobj;rw[h.obj b],λ_ s _ hs=>by rw[<-h.key];exact hs,hsel,h.base.symm,λ_ b _ _=>(h.key b).symm,λ_=>⟨λb=>(h.obj b).symm,λb=>(h.key b).symm⟩⟩
def V4(P:Program)(ban:List Nat)(eo:Ht)(st:St)(δ :Cy):Prop:=match eo.g with
 |none=>Ay P (Hm P) (Hf P) ban eo.k eo.dst st (λδ'=> δ'= δ)
 |some (s,want)=>(∃t,st.get s=.val (.bool t)/\(t=want->Ay P (Hm P) (Hf P) ban eo.k eo.dst st (λδ'=> δ'= δ))/\(t≠want->δ =dput eo.dst (.bI [])))\/(st.get s=.bI []/\δ =dput eo.dst (.bI []))
inductive Run (P:Program) (ban:List Nat):List Ht->St->List Cy->St->Prop
 |nil (st:St):Run P ban [] st [] st
 |cons (eo:Ht) (l:List Ht) (st st':St) (δ :Cy) (δs:List Cy) (h:V4 P ban eo st δ) (hr:Run P ban l (st.app δ) δs st'):Run P ban (eo::l) st (δ :: δs) st'
theorem Bb7{st:St}{s:Nat}{p:PV}(h:st.get s=p):Qq (st.put s p) st:=
 ⟨rfl,λx=>by
  have:(st.put s p).get x=if s=x then p else st.get x:=Cz _ _ _ _ _
  rw[this];by_cases e:s=x
  ·subst e;rw[if_pos rfl,h]
  ·rw[if_neg e],λ_=>rfl,λ_=>rfl⟩
theorem Ax9(hC:Df P C)(hX:N4 P X):∀(l:List Ht) (st st0:St) (k:St->Prop),(∀eo∈l,∀o',eo.k=.dP o'->∀cs b,o'.op≠ .select cs b)->Qq st st0->T7 P C X ban l st k->
  ∃δs st1 st',Run P ban l st0 δs st1/\Qq st' st1/\k st':=by
 intro l
 induction l with
 |nil=>intro st st0 k _ he h;exact⟨[],st0,st,.nil _,he,h⟩
 |cons eo l ih=>
  intro st st0 k hsel he h;have hsel1:=hsel eo (by simp);have hsel2:∀eo∈l,∀o',eo.k=.dP o'->∀cs b,o'.op≠ .select cs b:=λe hm=>hsel e (List.mem_cons_of_mem _ hm);have run1:∀(su:St),Qq su st0->Ay P C X ban eo.k eo.dst su (λδ =>T7 P C X ban l (su.app δ) k)->
    ∃δ,Ay P (Hm P) (Hf P) ban eo.k eo.dst st0 (λδ'=> δ'= δ)/\∃δs st1 st',Run P ban l (st0.app δ) δs st1/\Qq st' st1/\k st':=by
   intro su hu hs;obtain⟨δ,h1,h2⟩:=Alm hC hX _ _ _ _ hs;exact⟨δ,Aiw (hu.agree _ _ hsel1) (h2 (λδ'=> δ'= δ) rfl),ih _ _ _ hsel2 (hu.app δ) h1⟩
  simp only[T7]at h;cases hg:eo.g with
  |none=>
   rw[hg]at h;obtain⟨δ,h1,δs,st1,st',h2,h3,h4⟩:=run1 st he h;exact⟨δ :: δs,st1,st',.cons eo l st0 st1 δ δs (by unfold V4;rw[hg];exact h1) h2,h3,h4⟩
  |some sw=>
   obtain⟨s,want⟩:=sw;rw[hg]at h;simp only at h;cases hq:st.get s with
   |val v=>
    rw[hq]at h;cases v with
    |bool t=>
     have hq0:st0.get s=.val (.bool t):=by rw[<-he.get,hq]
     have hu:Qq (st.put s (.val (.bool t))) st0:=(Bb7 hq).trans he;have skip:T7 P C X ban l ((st.put s (.val (.bool t))).app (dput eo.dst (.bI []))) k->t≠want->
       ∃δs st1 st',Run P ban (eo::l) st0 δs st1/\Qq st' st1/\k st':=by
      intro hs hne;obtain⟨δs,st1,st',h2,h3,h4⟩:=ih _ (st0.app (dput eo.dst (.bI []))) _ hsel2 (hu.app _) hs;exact⟨_:: δs,st1,st',.cons eo l st0 st1 _ δs (by unfold V4;rw[hg];exact .inl ⟨t,hq0,λe=>absurd e hne,λ_=>rfl⟩) h2,h3,h4⟩
     have take:Ay P C X ban eo.k eo.dst (st.put s (.val (.bool t))) (λδ =>T7 P C X ban l ((st.put s (.val (.bool t))).app δ) k)->t=want->
       ∃δs st1 st',Run P ban (eo::l) st0 δs st1/\Qq st' st1/\k st':=by
      intro hs heq;obtain⟨δ,h1,δs,st1,st',h2,h3,h4⟩:=run1 _ hu hs;exact⟨δ :: δs,st1,st',.cons eo l st0 st1 δ δs (by unfold V4;rw[hg];exact .inl ⟨t,hq0,λ_=>h1,λe=>absurd heq e⟩) h2,h3,h4⟩
     cases t<;>cases want<;>simp only[br]at h<;>first|exact take h rfl|exact skip h (by decide)
    |_=>exact h.elim
   |bI l0=>
    rw[hq]at h;cases l0 with
    |nil=>
     have hq0:st0.get s=.bI []:=by rw[<-he.get,hq]
     obtain⟨δs,st1,st',h2,h3,h4⟩:=ih _ (st0.app (dput eo.dst (.bI []))) _ hsel2 (he.app _) h;exact⟨_:: δs,st1,st',.cons eo l st0 st1 _ δs (by unfold V4;rw[hg];exact .inr ⟨hq0,rfl⟩) h2,h3,h4⟩
    |cons _ _=>exact h.elim
   |_=>rw[hq]at h;exact h.elim
def P8:List Cy->(Nat->Bool)->St->St
 | [],_,st=>st
 | δ ::r,m,st=>P8 r (λi=>m (i+1)) (if m 0 then st.app δ else st)
theorem A9j:∀(δs:List Cy) (m m':Nat->Bool) (st:St),(∀i,i<δs.length->m i=m' i)->P8 δs m st=P8 δs m' st:=by
 intro δs
 induction δs with
 |nil=>intro m m' st _;rfl
 |cons δ r ih=>
  intro m m' st h;simp only[P8];rw[h 0 (by simp)];exact ih _ _ _ (λi hi=>h (i+1) (by simp;omega))
theorem Ak3:∀(δs:List Cy) (m:Nat->Bool) (st:St),(∀i,i<δs.length->m i=false)->P8 δs m st=st:=by
 intro δs
 induction δs with
 |nil=>intro m st _;rfl
 |cons δ r ih=>
  intro m st h;simp only[P8];rw[h 0 (by simp)];exact ih _ _ (λi hi=>h (i+1) (by simp;omega))
theorem Run.length{l:List Ht}{st st':St}{δs:List Cy}(h:Run P ban l st δs st'): δs.length=l.length:=by
 induction h with
 |nil=>rfl
 |cons eo l st st' δ δs _ _ ih=>simp[ih]
theorem Run.at{l:List Ht}{st st':St}{δs:List Cy}(h:Run P ban l st δs st'):∀(i:Nat) (eo:Ht) (δ :Cy),l[i]? =some eo->δs[i]? =some δ->V4 P ban eo (P8 δs (λj=>decide (j<i)) st) δ :=by
 induction h with
 |nil=>intro i eo δ h;simp at h
 |cons eo l st st' δ δs h1 _ ih=>
  intro i e d he hd;cases i with
  |zero=>
   simp at he hd;subst he;subst hd
   have:P8 (δ :: δs) (λj=>decide (j<0)) st=st:=Ak3 _ _ _ (λi _=>by simp);rw[this];exact h1
  |succ i=>
   have:=ih i e d (by simpa using he) (by simpa using hd);simp only[P8];simpa using this
theorem Run.last{l:List Ht}{st st':St}{δs:List Cy}(h:Run P ban l st δs st'):st'=P8 δs (λ_=>true) st:=by
 induction h with
 |nil=>rfl
 |cons eo l st st' δ δs _ _ ih=>simp only[P8];exact ih
theorem A1c:∀(δs:List Cy) (m m':Nat->Bool) (st st':St) (s:Nat),st.get s=st'.get s->(∀(i:Nat) (δ :Cy),δs[i]? =some δ->s∈δ.s.map Prod.fst->m i=m' i)->
  (P8 δs m st).get s=(P8 δs m' st').get s:=by
 intro δs
 induction δs with
 |nil=>intro m m' st st' s h _;exact h
 |cons δ r ih=>
  intro m m' st st' s h hm;simp only[P8];refine ih _ _ _ _ s ?_ (λi δ' hi hs=>hm (i+1) δ' (by simpa using hi) hs);by_cases hs:s∈δ.s.map Prod.fst
  ·rw[hm 0 δ rfl hs];cases m' 0
   ·exact h
   ·simp only[if_true];rw[Wo,Wo,if_pos hs,if_pos hs]
  ·have e1:∀(b:Bool) (st:St),(if b then st.app δ else st).get s=st.get s:=λb st=>by
    cases b
    ·rfl
    ·simp only[if_true];rw[Wo,if_neg hs]
   rw[e1,e1];exact h
theorem Aps:∀(δs:List Cy) (m m':Nat->Bool) (st st':St) (s:Nat),st.obj s=st'.obj s->(∀(i:Nat) (δ :Cy),δs[i]? =some δ->s∈δ.o.map Prod.fst->m i=m' i)->
  (P8 δs m st).obj s=(P8 δs m' st').obj s:=by
 intro δs
 induction δs with
 |nil=>intro m m' st st' s h _;exact h
 |cons δ r ih=>
  intro m m' st st' s h hm;simp only[P8];refine ih _ _ _ _ s ?_ (λi δ' hi hs=>hm (i+1) δ' (by simpa using hi) hs);by_cases hs:s∈δ.o.map Prod.fst
  ·rw[hm 0 δ rfl hs];cases m' 0
   ·exact h
   ·simp only[if_true];rw[Ys,Ys,if_pos hs,if_pos hs]
  ·have e1:∀(b:Bool) (st:St),(if b then st.app δ else st).obj s=st.obj s:=λb st=>by
    cases b
    ·rfl
    ·simp only[if_true];rw[Ys,if_neg hs]
   rw[e1,e1];exact h
theorem A1d:∀(δs:List Cy) (m m':Nat->Bool) (st st':St) (s:Nat),Aw s (st.ob.map Prod.fst)=Aw s (st'.ob.map Prod.fst)->(∀(i:Nat) (δ :Cy),δs[i]? =some δ->s∈δ.o.map Prod.fst->m i=m' i)->
  Aw s ((P8 δs m st).ob.map Prod.fst)=Aw s ((P8 δs m' st').ob.map Prod.fst):=by
 intro δs
 induction δs with
 |nil=>intro m m' st st' s h _;exact h
 |cons δ r ih=>
  intro m m' st st' s h hm;simp only[P8];refine ih _ _ _ _ s ?_ (λi δ' hi hs=>hm (i+1) δ' (by simpa using hi) hs);by_cases hs:s∈δ.o.map Prod.fst
  ·rw[hm 0 δ rfl hs];cases m' 0
   ·exact h
   ·simp only[if_true];rw[Ul,Ul,h]
  ·have e0:Aw s (δ.o.map Prod.fst)=true:=(Bs _ _).2 hs;have e1:∀(b:Bool) (st:St),Aw s ((if b then st.app δ else st).ob.map Prod.fst)=Aw s (st.ob.map Prod.fst):=λb st=>by
    cases b
    ·rfl
    ·simp only[if_true];rw[Ul,e0,Bool.true_and]
   rw[e1,e1];exact h
theorem Bcw:∀(δs:List Cy) (m:Nat->Bool) (st:St) (k:Nat) (δ :Cy) (a:Nat),δs[k]? =some δ->m k=true->a∈δ.s.map Prod.fst->
  (∀(j:Nat) (δ':Cy),j≠k->δs[j]? =some δ'->a∉δ'.s.map Prod.fst)->(P8 δs m st).get a=C1 .any δ.s a:=by
 intro δs
 induction δs with
 |nil=>intro m st k δ a h;simp at h
 |cons δ0 r ih=>
  intro m st k δ a h hm ha hn;simp only[P8];cases k with
  |zero=>
   simp at h;subst h;rw[hm];simp only[if_true];rw[A1c r _ (λ_=>false) (st.app δ0) (st.app δ0) a rfl (λi δ' hi hs=>absurd hs (hn (i+1) δ' (by omega) (by simpa using hi))),Ak3 _ _ _ (λ_ _=>rfl),Wo,if_pos ha]
  |succ k=>exact ih _ _ k δ a (by simpa using h) hm ha (λj δ' hj hδ =>hn (j+1) δ' (by omega) (by simpa using hδ))
theorem A3x:∀(δs:List Cy) (m:Nat->Bool) (st:St) (b:Nat),
  ((∀(k:Nat) (δ :Cy),m k=true->δs[k]? =some δ->b∉δ.o.map Prod.fst)/\(P8 δs m st).obj b=st.obj b)\/
  ∃k δ,m k=true/\δs[k]? =some δ/\b∈δ.o.map Prod.fst/\(∀(j:Nat) (δ':Cy),k<j->m j=true->δs[j]? =some δ'->b∉δ'.o.map Prod.fst)/\(P8 δs m st).obj b=C1 [] δ.o b:=by
 intro δs
 induction δs with
 |nil=>intro m st b;exact .inl ⟨λk δ _ h=>by simp at h,rfl⟩
 |cons δ0 r ih=>
  intro m st b;simp only[P8];rcases ih (λi=>m (i+1)) (if m 0 then st.app δ0 else st) b with⟨h1,h2⟩|⟨k,δ,h1,h2,h3,h4,h5⟩
  ·by_cases hb:m 0=true/\b∈δ0.o.map Prod.fst
   ·refine .inr ⟨0,δ0,hb.1,rfl,hb.2,λj δ' hj hm hδ =>?_,?_⟩
    ·cases j with
     |zero=>omega
     |succ j=>exact h1 j δ' hm (by simpa using hδ)
    ·rw[h2,hb.1];simp only[if_true];rw[Ys,if_pos hb.2]
   ·refine .inl ⟨λk δ hm hδ =>?_,?_⟩
    ·cases k with
     |zero=>simp at hδ;subst hδ;exact λh=>hb ⟨hm,h⟩
     |succ k=>exact h1 k δ hm (by simpa using hδ)
    ·rw[h2];cases hm:m 0 with
     |false=>rfl
     |true=>
      simp only[if_true];rw[Ys,if_neg (λh=>hb ⟨hm,h⟩)]
  ·refine .inr ⟨k+1,δ,h1,by simpa using h2,h3,λj δ' hj hm hδ =>?_,h5⟩;cases j with
   |zero=>omega
   |succ j=>exact h4 j δ' (by omega) hm (by simpa using hδ)
theorem Ay3{δs:List Cy}{st:St}{b:Nat}(T:Nat->Bool)(hT:∀(k:Nat) (δ :Cy),T k=true->δs[k]? =some δ->b∈δ.o.map Prod.fst->(C1 [] δ.o b).map PV.view=(P8 δs (λj=>decide (j<k)) st).vobj b):
  ∀(n:Nat) (m:Nat->Bool),(∀k,m k=true->(δs[k]?).isSome=true->k<n)->
   (∀(k j:Nat) (δ δ':Cy),T k=true->m k=true->δs[k]? =some δ->b∈δ.o.map Prod.fst->T j=false->δs[j]? =some δ'->b∈δ'.o.map Prod.fst->j<k->m j=true)->
   (P8 δs m st).vobj b=(P8 δs (λj=>m j && !T j) st).vobj b:=by
 intro n
 induction n using Nat.strongRecOn with
 |ind n ih=>
  intro m hn hc;rcases A3x δs m st b with⟨h1,h2⟩|⟨k,δ,h1,h2,h3,h4,h5⟩
  ·unfold St.vobj;rw[Aps δs (λj=>m j && !T j) (λ_=>false) st st b rfl (λi δ hi hb=>?_),Ak3 _ _ _ (λ_ _=>rfl),h2];cases hm:m i with
   |false=>rfl
   |true=>exact absurd hb (h1 i δ hm hi)
  ·cases hk:T k with
   |false=>
    rcases A3x δs (λj=>m j && !T j) st b with⟨g1,g2⟩|⟨k',δ',g1,g2,g3,g4,g5⟩
    ·exact absurd h3 (g1 k δ (by simp[h1,hk]) h2)
    ·have e:k'=k:=by
      rcases Nat.lt_trichotomy k k' with h|h|h
      ·simp only[Bool.and_eq_true]at g1;exact absurd g3 (h4 k' δ' h g1.1 g2)
      ·exact h.symm
      ·exact absurd h3 (g4 k δ h (by simp[h1,hk]) h2)
     subst e;rw[h2]at g2;injection g2 with g2
     subst g2;unfold St.vobj;rw[h5,g5]
   |true=>
    have hkn:=hn k h1 (by rw[h2];rfl);have hsub:∀(j:Nat) (δ':Cy),T j=false->δs[j]? =some δ'->b∈δ'.o.map Prod.fst->(decide (j<k))=m j:=by
     intro j δ' hj hδ hb;by_cases hlt:j<k
     ·rw[hc k j δ δ' hk h1 h2 h3 hj hδ hb hlt];simp[hlt]
     ·cases hm:m j with
      |false=>simp[hlt]
      |true=>
       have hne:j≠k:=by rintro rfl;rw[hk]at hj;cases hj
       exact absurd hb (h4 j δ' (by omega) hm hδ)
    have e1:=ih k hkn (λj=>decide (j<k)) (λj hj _=>by simpa using hj) (λk' j _ _ _ hk' _ _ _ _ _ hj=>by
     have:=of_decide_eq_true hk';exact decide_eq_true (by omega))
    have e2:(P8 δs m st).vobj b=(P8 δs (λj=>decide (j<k)) st).vobj b:=by
     rw[<-hT k δ hk h2 h3];unfold St.vobj;rw[h5]
    rw[e2,e1];unfold St.vobj;rw[Aps δs _ (λj=>m j && !T j) st st b rfl (λi δ' hi hb=>?_)];cases hti:T i with
    |true=>simp
    |false=>simp only[Bool.not_false,Bool.and_true];exact hsub i δ' hti hi hb
theorem A9d(l:List PV):∀(off:Nat),(Lx l off [(Sm l off).view]).map PV.view=l.map PV.view:=by
 have vv:∀p:PV,p.view.view=p.view:=λp=>by
  have v0:∀p:PV,p.dQ.dQ=p.dQ:=λp=>by cases p<;>rfl
  cases p with
  |bI l=>cases l with
   |nil=>rfl
   |cons q r=>show PV.bI (q.dQ.dQ::r)=PV.bI (q.dQ::r);rw[v0]
  |_=>rfl
 induction l with
 |nil=>intro off;rfl
 |cons p l ih=>
  intro off;cases off with
  |zero=>
   have:Lx (p::l) 0 [(Sm (p::l) 0).view]=p.view::l:=by cases l<;>rfl
   rw[this];simp[vv]
  |succ n=>
   have:Lx (p::l) (n+1) [(Sm (p::l) (n+1)).view]=p::Lx l n [(Sm l n).view]:=rfl;rw[this];simp[ih n]
theorem A5j{eo:Ht}{st:St}{δ :Cy}(h:V4 P ban eo st δ)(hk:eo.k.eH=true):∀b∈δ.o.map Prod.fst,(C1 [] δ.o b).map PV.view=st.vobj b:=by
 obtain⟨d,g,k⟩:=eo;cases k with
 |loadT x=>
  have main:Ay P (Hm P) (Hf P) ban (.loadT x) d st (λδ'=> δ'= δ)->∀b∈δ.o.map Prod.fst,(C1 [] δ.o b).map PV.view=st.vobj b:=by
   intro h b hb;simp only[Ay,Ax]at h;split at h
   ·rename_i b' off d' hq;split at h
    ·subst h;simp at hb;subst hb;simp only[C1,Nat.beq_refl];exact A9d _ _
    ·exact h.elim
   ·exact h.elim
  have skip: δ =dput d (.bI [])->∀b∈δ.o.map Prod.fst,(C1 [] δ.o b).map PV.view=st.vobj b:=by
   intro e b hb;subst e;cases d<;>simp[dput]at hb
  unfold V4 at h;cases g with
  |none=>exact main h
  |some sw=>
   obtain⟨s,want⟩:=sw;rcases h with⟨t,_,h1,h2⟩|⟨_,h2⟩
   ·by_cases e:t=want
    ·exact main (h1 e)
    ·exact skip (h2 e)
   ·exact skip h2
 |_=>cases hk
theorem Bb4{eo:Ht}{st:St}{δ :Cy}{a:Nat}(h:V4 P ban eo st δ)(hk:eo.mkAt a=true):a∈δ.s.map Prod.fst/\C1 .any δ.s a=.loc (st.base+a) 0:=by
 obtain⟨d,g,k⟩:=eo;unfold Ht.mkAt at hk;cases k with
 |alloc z=>
  cases g with
  |some _=>cases hk
  |none=>
   cases d with
   |none=>cases hk
   |some d=>
    have e:=Cx hk;subst e;simp only[V4,Ay,Ax]at h;split at h
    ·subst h;exact⟨by simp,by simp[C1]⟩
    ·exact h.elim
 |box x=>
  cases g with
  |some _=>cases hk
  |none=>
   cases d with
   |none=>cases hk
   |some d=>
    have e:=Cx hk;subst e;simp only[V4,Ay,Ax]at h;split at h
    ·subst h;exact⟨by simp,by simp[C1]⟩
    ·exact h.elim
 |_=>cases hk
def Bdw(x y:Cy):Prop:=(∀s,s∈x.s.map Prod.fst->s∉y.s.map Prod.fst)/\(∀s,s∈x.o.map Prod.fst->s∉y.o.map Prod.fst)
theorem Bab(st:St)(x y:Cy)(h:Bdw x y):Qq ((st.app x).app y) ((st.app y).app x):=by
 refine⟨rfl,λs=>?_,λs=>?_,λs=>?_⟩
 ·rw[Wo,Wo,Wo,Wo];by_cases h1:s∈x.s.map Prod.fst
  ·rw[if_neg (h.1 s h1),if_pos h1,if_pos h1]
  ·rw[if_neg h1,if_neg h1]
 ·rw[Ys,Ys,Ys,Ys];by_cases h1:s∈x.o.map Prod.fst
  ·rw[if_neg (h.2 s h1),if_pos h1,if_pos h1]
  ·rw[if_neg h1,if_neg h1]
 ·rw[Ul,Ul,Ul,Ul];cases Aw s (y.o.map Prod.fst)<;>cases Aw s (x.o.map Prod.fst)<;>simp
theorem Bpz:∀(δs:List Cy) (m:Nat->Bool) (st st':St),Qq st st'->Qq (P8 δs m st) (P8 δs m st'):=by
 intro δs
 induction δs with
 |nil=>intro m st st' h;exact h
 |cons δ r ih=>
  intro m st st' h;simp only[P8];refine ih _ _ _ ?_;cases m 0
  ·exact h
  ·exact h.app δ
theorem Bin:∀(δs:List Cy) (m:Nat->Bool) (st:St) (δ :Cy),(∀(i:Nat) (δ':Cy),m i=true->δs[i]? =some δ'->Bdw δ δ')->Qq (P8 δs m (st.app δ)) ((P8 δs m st).app δ):=by
 intro δs
 induction δs with
 |nil=>intro m st δ _;exact .refl _
 |cons δ' r ih=>
  intro m st δ h;simp only[P8];have hr:∀(i:Nat) (d:Cy),m (i+1)=true->r[i]? =some d->Bdw δ d:=λi d hi hd=>h (i+1) d hi (by simpa using hd);cases hm:m 0 with
  |false=>exact ih _ _ _ hr
  |true=>
   simp only[if_true];exact(Bpz r _ _ _ (Bab st δ δ' (h 0 δ' hm rfl))).trans (ih _ _ _ hr)
theorem Bcx:∀(δs:List Cy) (m:Nat->Bool) (i:Nat) (st:St) (δ :Cy),δs[i]? =some δ->m i=false->(∀(j:Nat) (δ':Cy),i<j->m j=true->δs[j]? =some δ'->Bdw δ δ')->
  Qq (P8 δs (λj=>if j=i then true else m j) st) ((P8 δs m st).app δ):=by
 intro δs
 induction δs with
 |nil=>intro m i st δ h;simp at h
 |cons δ0 r ih=>
  intro m i st δ h hm hd;cases i with
  |zero=>
   simp at h;subst h;simp only[P8,hm,if_true];have:(λj=>if j+1=0 then true else m (j+1))=λj=>m (j+1):=funext λj=>by simp
   rw[this];exact Bin r _ st δ0 (λi δ' hi hδ =>hd (i+1) δ' (by omega) hi (by simpa using hδ))
  |succ i=>
   simp only[P8];have e0:(if 0=i+1 then true else m 0)=m 0:=by simp
   have e1:(λj=>if j+1=i+1 then true else m (j+1))=λj=>if j=i then true else m (j+1):=funext λj=>by simp
   simp only[e0,e1];exact ih _ i _ δ (by simpa using h) hm (λj δ' hj hmj hδ =>hd (j+1) δ' (by omega) hmj (by simpa using hδ))
theorem Av0{eo:Ht}{st:St}{δ :Cy}(h:V4 P ban eo st δ):(∀s∈δ.s.map Prod.fst,s∈eo.writes)/\(∀b∈δ.o.map Prod.fst,A7x ban eo.k eo.dst st b):=by
 obtain⟨d,g,k⟩:=eo;unfold V4 at h;cases g with
 |none=>exact Ay4 h
 |some sw=>
  obtain⟨s,want⟩:=sw;have skip: δ =dput d (.bI [])->(∀s'∈δ.s.map Prod.fst,s'∈(Ht.mk d (some (s,want)) k).writes)/\(∀b∈δ.o.map Prod.fst,A7x ban k d st b):=by
   intro e;subst e;cases d with
   |none=>exact⟨λs hs=>by simp[dput]at hs,λb hb=>by simp[dput]at hb⟩
   |some x=>exact⟨λs hs=>by simp[dput]at hs;simp[Ht.writes,hs],λb hb=>by simp[dput]at hb⟩
  rcases h with⟨t,_,h1,h2⟩|⟨_,h2⟩
  ·by_cases e:t=want
   ·exact Ay4 (h1 e)
   ·exact skip (h2 e)
  ·exact skip h2
end
end Go.Proofs.YtgacplpjamkieaaGreat.Ev
namespace Go.Proofs.YtgacplpjamkieaaGreat.Ev
open Go Go.RowKit
section
variable {ι :Type} {cx: ι->PV×Value} {P:Program} {C:Bj} {X:Inl} {inl:Nat->Bool} {once:Nat} {ban:List Nat} {w0:He} {w:World} {N M:Ro} {β :Qd} {nt:Nat} {st:St} {a:Act}
theorem Z4{os:Array Oper} :∀(l:List Oper) (es:List Ht),Aoc P inl once os l=some es->es.length=l.length/\
  ∀(i:Nat) (o:Oper),l[i]? =some o->∃eo,es[i]? =some eo/\cOp P inl once o=eo.k/\eo.dst=o.dst/\Ams os o.guard=some eo.g:=by
 intro l
 induction l with
 |nil=>intro es h;simp[Aoc]at h;subst h;exact⟨rfl,λi o h=>by simp at h⟩
 |cons o l ih=>
  intro es h;simp only[Aoc]at h;cases h2:Ams os o.guard with
  |none=>rw[h2]at h;cases h
  |some g=>
   cases h3:Aoc P inl once os l with
   |none=>rw[h2,h3]at h;cases h
   |some es'=>
    rw[h2,h3]at h;injection h with h
    subst h;obtain⟨e1,e2⟩:=ih es' h3;refine⟨by simp[e1],λi o' hi=>?_⟩;cases i with
    |zero=>simp at hi;subst hi;exact⟨_,rfl,rfl,rfl,h2⟩
    |succ i=>exact e2 i o' (by simpa using hi)
theorem Azm{o:Oper}{k:K}(h:cOp P inl once o=k):∀o',k=.dP o'->∀cs b,o'.op≠ .select cs b:=by
 intro o' hk cs b hb;subst hk;have nk:∀x ty k,A8z P x ty k=.dP o'->k=.dP o':=by
  intro x ty k h;unfold A8z at h;split at h
  ·cases h
  ·exact h
 have key:o'=o:=by
  obtain⟨dst,op,type,pos,after,guard⟩:=o;unfold cOp at h;split at h
  ·have:=nk _ _ _ h;unfold Ayk at this;split at this
   ·cases this
   ·unfold Avm at this;split at this
    ·split at this<;>cases this
    ·cases this
  ·have:=nk _ _ _ h;unfold Ay9 at this;split at this<;>cases this
  all_goals try (unfold A23 A3a at h)
  all_goals try (unfold A58 Awu at h)
  all_goals try (unfold Ba5 at h)
  all_goals (repeat' (split at h))
  all_goals first|(injection h with h;exact h.symm)|(cases h;done)|skip
 subst key;unfold cOp at h;rw[hb]at h;cases h
theorem Aki:∀(l:List Ht),Z7 nt l=true->∀eo∈l,∀x,eo.dst=some x->x<nt:=by
 intro l
 induction l with
 |nil=>intro _ eo h;cases h
 |cons e l ih=>
  intro h eo hm x hx;simp only[Z7]at h;have h2:Z7 nt l=true/\(∀x,e.dst=some x->x<nt):=by
   cases hd:e.dst with
   |none=>rw[hd]at h;exact⟨h,λx hx=>by cases hx⟩
   |some d=>
    rw[hd]at h;simp only at h;cases hb:Nat.blt d nt with
    |false=>rw[hb]at h;cases h
    |true=>
     rw[hb]at h;exact⟨h,λx hx=>by injection hx with hx;subst hx;exact Nat.le_of_ble_eq_true hb⟩
  rcases List.mem_cons.1 hm with e1|e1
  ·subst e1;exact h2.2 x hx
  ·exact ih h2.1 eo e1 x hx
theorem Asw{os:Array Oper}{o:Oper}{eo:Ht}{δ :Cy}(h:SR cx w0 N nt st a w M β)(hs:V4 P ban eo st δ)(hc:cOp P inl once o=eo.k)(hdst:eo.dst=o.dst)
  (hg:Ams os o.guard=some eo.g)(hd:∀x,o.dst=some x->x<nt){K:Act->World->Prop}{Q:Exit->Act->World->Prop}
  (hK:∀a' w' M' β',SR cx w0 N nt (st.app δ) a' w' M' β'->K a' w'):
  if Region.wanted o (yielded os a.tmps)=true then o.wp P a w K Q else K (a.put o.dst undef) w:=by
 unfold V4 at hs;cases hog:o.guard with
 |none=>
  rw[hog]at hg;simp only[Ams,Option.some.injEq]at hg;rw[<-hg]at hs;have hw:Region.wanted o (yielded os a.tmps)=true:=by simp[Region.wanted,hog]
  rw[if_pos hw];rw[hdst]at hs;rw[<-hc]at hs;exact Awr h hd hs K Q hK
 |some jw=>
  obtain⟨j,want⟩:=jw;rw[hog]at hg;simp only[Ams]at hg;cases hj:(os[j]?).bind (·.dst) with
  |none=>rw[hj]at hg;cases hg
  |some s=>
   rw[hj]at hg;simp only[Option.some.injEq]at hg;rw[<-hg]at hs;simp only at hs;rcases hs with⟨t,h1,h2,h3⟩|⟨h1,h3⟩
   rotate_left
   ·have hreg:=h.reg s;rw[h1]at hreg;have hv:a.tmps.getD s undef=undef:=by
     generalize a.tmps.getD s undef=u at hreg ⊢;cases hreg with
     |row p s hs=>cases hs
     |bI l cs hl hr=>
      have:cs= []:=List.eq_nil_of_length_eq_zero (by simpa using hl.symm);subst this;rfl
    have hy:yielded os a.tmps j=none:=by
     unfold yielded;rw[hj];cases hx:a.tmps[s]? with
     |none=>simp[hx]
     |some u=>
      rw[Array.getD_eq_getD_getElem?,hx]at hv;simp at hv;subst hv;simp[hx,undef]
    have hw:¬Region.wanted o (yielded os a.tmps)=true:=by simp[Region.wanted,hog,hy]
    rw[if_neg hw];rw[hdst]at h3;subst h3;exact hK _ _ _ _ (h.dput o.dst (.bI []) undef hd (.bI [] [] rfl (λi p v hp=>by simp at hp)) (Lt rfl))
   have hreg:=h.reg s;rw[h1]at hreg;have hv:=hreg.val_eq;have hy:yielded os a.tmps j=some t:=by
    unfold yielded;rw[hj];have:a.tmps[s]? =some (.bool t):=by
     cases hx:a.tmps[s]? with
     |none=>
      rw[Array.getD_eq_getD_getElem?,hx]at hv;simp[undef]at hv
     |some u=>
      rw[Array.getD_eq_getD_getElem?,hx]at hv;simpa using hv
    simp[this]
   by_cases e:t=want
   ·have hw:Region.wanted o (yielded os a.tmps)=true:=by simp[Region.wanted,hog,hy,e]
    rw[if_pos hw];have hs':=h2 e;rw[hdst]at hs';rw[<-hc]at hs';exact Awr h hd hs' K Q hK
   ·have hw:¬Region.wanted o (yielded os a.tmps)=true:=by simp[Region.wanted,hog,hy,e]
    rw[if_neg hw];have hδ :=h3 e;rw[hdst]at hδ;subst hδ;exact hK _ _ _ _ (h.dput o.dst (.bI []) undef hd (.bI [] [] rfl (λi p v hp=>by simp at hp)) (Lt rfl))
inductive Reach (os:List Oper):Nat->Nat->Prop
 |one (j:Nat) (o:Oper) (i:Nat) (ho:os[j]? =some o) (hi:i∈Aco o):Reach os j i
 |more (j:Nat) (o:Oper) (e i:Nat) (ho:os[j]? =some o) (he:e∈Aco o) (hr:Reach os e i):Reach os j i
theorem A24(acc:List Nat):∀(l:List Nat) (i:Nat),Nat.testBit (Avk acc l) i=true->∃e∈l,i=e\/Nat.testBit (acc.getD e 0) i=true:=by
 intro l
 induction l with
 |nil=>intro i h;simp[Avk]at h
 |cons e l ih=>
  intro i h;simp only[Avk,Nat.testBit_or,Bool.or_eq_true]at h;rcases h with(h|h)|h
  ·refine⟨e,by simp,.inl ?_⟩;rw[Nat.one_shiftLeft,Nat.testBit_two_pow]at h;simp at h;omega
  ·exact⟨e,by simp,.inr h⟩
  ·obtain⟨e',h1,h2⟩:=ih i h;exact⟨e',List.mem_cons_of_mem _ h1,h2⟩
theorem A74(os:List Oper):∀(l:List Oper) (acc:List Nat),(∀k o,l[k]? =some o->os[acc.length+k]? =some o)->
  (∀j i,Nat.testBit (acc.getD j 0) i=true->Reach os j i)->∀j i,Nat.testBit ((Bex l acc).getD j 0) i=true->Reach os j i:=by
 intro l
 induction l with
 |nil=>intro acc _ h;exact h
 |cons o l ih=>
  intro acc hl h;simp only[Bex];refine ih _ (λk o' hk=>?_) (λj i hb=>?_)
  ·have:=hl (k+1) o' (by simpa using hk);rw[List.length_append,List.length_singleton,Nat.add_assoc,Nat.add_comm 1 k];exact this
  ·have ho:os[acc.length]? =some o:=by have:=hl 0 o rfl;simpa using this
   rcases Nat.lt_trichotomy j acc.length with h1|h1|h1
   ·rw[List.getD_eq_getElem?_getD,List.getElem?_append_left h1,<-List.getD_eq_getElem?_getD]at hb;exact h j i hb
   ·subst h1;rw[List.getD_eq_getElem?_getD,List.getElem?_append_right (Nat.le_refl _)]at hb;simp at hb;obtain⟨e,he,hor⟩:=A24 acc _ i hb;rcases hor with rfl|hor
    ·exact .one _ o _ ho he
    ·exact .more _ o e i ho he (h e i hor)
   ·rw[List.getD_eq_getElem?_getD,List.getElem?_append_right (by omega),List.getElem?_eq_none (by simp;omega)]at hb;simp at hb
theorem Ah4{n:Nat}{p:Nat->Bool}(h:Ev.below n p=true):∀i,i<n->p i=true:=by
 induction n with
 |zero=>intro i hi;omega
 |succ n ih=>
  simp only[Ev.below]at h;cases hp:p n with
  |false=>rw[hp]at h;cases h
  |true=>
   rw[hp]at h;intro i hi;by_cases e:i=n
   ·subst e;exact hp
   ·exact ih h i (by omega)
theorem A13{p:Nat->Bool} :∀ {n:Nat},Ev.below n p=false->∃k,k<n/\p k=false:=by
 intro n
 induction n with
 |zero=>intro h;cases h
 |succ n ih=>
  intro h;simp only[Ev.below]at h;cases hp:p n with
  |false=>exact⟨n,by omega,hp⟩
  |true=>
   rw[hp]at h;obtain⟨k,h1,h2⟩:=ih h;exact⟨k,by omega,h2⟩
theorem Ata(j:Nat):∀(l:List Nat),Aib j l=true->∀e∈l,e<j:=by
 intro l
 induction l with
 |nil=>intro _ e h;cases h
 |cons x l ih=>
  intro h e he;simp only[Aib]at h;cases hb:Nat.blt x j with
  |false=>rw[hb]at h;cases h
  |true=>
   rw[hb]at h;rcases List.mem_cons.1 he with e1|e1
   ·subst e1;exact Nat.le_of_ble_eq_true hb
   ·exact ih h e e1
theorem A27{o:Oper}{e:Edge}(he:e∈o.after)(hb:Region.binds .any e=true):e.on∈Aco o:=
 List.mem_map.2 ⟨e,List.mem_filter.2 ⟨by simpa using he,hb⟩,rfl⟩
theorem A2a{o:Oper}{i:Nat}(h:i∈Aco o):∃e∈o.after,Region.binds .any e=true/\e.on=i:=by
 obtain⟨e,he,rfl⟩:=List.mem_map.1 h;obtain⟨h1,h2⟩:=List.mem_filter.1 he;exact⟨e,by simpa using h1,h2,rfl⟩
theorem Arf(x y:List Nat):Aku x y=true↔∃s,s∈x/\s∈y:=by
 simp only[Aku,List.any_eq_true];constructor
 ·rintro ⟨s,h1,t,h2,h3⟩
  have:=Cx h3;subst this;exact⟨s,h1,h2⟩
 ·rintro ⟨s,h1,h2⟩
  exact⟨s,h1,s,h2,Nat.beq_refl s⟩
theorem Rt{ap:List (Nat×Nat)}{fx fy:Bool}{x y:Ht}(h:Wf ap fx x fy y=false):(∀s,s∈x.writes->s∉y.reads)/\(∀s,s∈x.writes->s∉y.writes)/\(∀s,s∈x.reads->s∉y.writes)/\
  (x.k.bS=true->y.k.eU=true->(Yw ap x y=true\/Auq fx x.k fy y.k=true)\/scm x.k y.k=true)/\(x.k.eU=true->y.k.bS=true->(Yw ap x y=true\/Auq fx x.k fy y.k=true)\/scm x.k y.k=true):=by
 simp only[Wf,Bool.or_eq_false_iff]at h;obtain⟨⟨⟨h1,h2⟩,h3⟩,h4⟩:=h;have no:∀a b,Aku a b=false->∀s,s∈a->s∉b:=λa b hm s ha hb=>by
  rw[(Arf a b).2 ⟨s,ha,hb⟩]at hm;cases hm
 refine⟨no _ _ h1,no _ _ h2,no _ _ h3,λg1 g2=>?_,λg1 g2=>?_⟩
 ·rw[g1,g2]at h4;cases hf:Yw ap x y with
  |true=>exact .inl (.inl rfl)
  |false=>
   cases hs:scm x.k y.k with
   |true=>exact .inr rfl
   |false=>rw[hf,hs]at h4;simp at h4;exact .inl (.inr h4)
 ·rw[g1,g2]at h4;cases hf:Yw ap x y with
  |true=>exact .inl (.inl rfl)
  |false=>
   cases hs:scm x.k y.k with
   |true=>exact .inr rfl
   |false=>rw[hf,hs]at h4;simp at h4;exact .inl (.inr h4)
theorem A8e{fx fy:Bool}{x y:K}(h:Auq fx x fy y=true):x.isLoad=true\/y.isLoad=true:=by
 simp only[Auq,Bool.or_eq_true,Bool.and_eq_true]at h;rcases h with h|h
 ·exact .inr h.2
 ·exact .inl h.1
theorem A8f(fx fy:Bool)(x y:K):Auq fx x fy y=Auq fy y fx x:=by
 unfold Auq;cases x.eH<;>cases y.eH<;>cases x.isLoad<;>cases y.isLoad<;>cases fx<;>cases fy<;>rfl
theorem Il{k:K}(h:k.bS=true):k.isLoad=false:=by cases k<;>first|rfl|cases h
theorem Y3{k:K}(h:k.makes=true):k.isLoad=false:=by cases k<;>first|rfl|cases h
theorem A4b{k:K}(h:k.gJ=true):k.isLoad=false:=by cases k<;>first|rfl|cases h
theorem Bci(x y:K):scm x y=scm y x:=by
 unfold scm;cases x.fF<;>cases y.fF<;>cases x.mk0<;>cases y.mk0<;>rfl
theorem Ag9{k:K}(h:k.fF=true):k.makes=false/\k.bS=true:=by cases k<;>first|exact⟨rfl,rfl⟩|cases h
theorem Aeq{k:K}(h:k.bS=true):k.mk0=false:=by cases k<;>first|rfl|cases h
theorem Ar2{x y:K}(h:x.bS=true)(h':y.bS=true):scm x y=false:=by
 unfold scm;rw[Aeq h,Aeq h'];cases x.fF<;>cases y.fF<;>rfl
theorem Anl{x y:K}(h:scm x y=true):(x.fF=true/\y.mk0=true)\/(y.fF=true/\x.mk0=true):=by
 simpa[scm]using h
theorem Bn6{k:K}(h:k.mk0=true)(hl:k.isLoad=false):k.makes=true/\k.bS=false:=by
 cases k<;>first|exact⟨rfl,rfl⟩|(cases hl;done)|(cases h;done)
theorem Bbz{k:K}(h:k.mk0=true)(hl:k.isLoad=true):k.near=true:=by
 cases k<;>first|(cases hl;done)|simpa[K.mk0,K.makes,K.bS,K.near]using h
theorem A8y{k:K}(h:k.isLoad=true):k.fF=false:=by cases k<;>first|rfl|cases h
theorem Yx{ap:List (Nat×Nat)}{fx fy:Bool}{x y:Ht}(h:(Yw ap x y=true\/Auq fx x.k fy y.k=true)\/scm x.k y.k=true)(h0:scm x.k y.k=false)(h1:x.k.isLoad=false)(h2:y.k.isLoad=false):Yw ap x y=true:=by
 rcases h with h|h
 rotate_left
 ·rw[h0]at h;cases h
 rcases h with h|h
 ·exact h
 ·rcases A8e h with h|h
  ·rw[h1]at h;cases h
  ·rw[h2]at h;cases h
theorem Aa1{k:K}(h:k.makes=true):k.eU=true:=by cases k<;>first|rfl|cases h
theorem Ae2{k:K}(h:k.bS=true):k.eU=true:=by cases k<;>first|rfl|cases h
theorem A81{eo:Ht}{x:Operand}(hx:x∈eo.k.bQ){t:Nat}(ht:x=.tmp t):t∈eo.reads:=by
 subst ht;have:∀(l:List Operand),.tmp t∈l->t∈w5 l:=by
  intro l
  induction l with
  |nil=>intro h;cases h
  |cons y l ih=>
   intro h;rcases List.mem_cons.1 h with e|e
   ·subst e;simp[w5]
   ·cases y<;>simp only[w5]<;>first|exact List.mem_cons_of_mem _ (ih e)|exact ih e
 simp only[Ht.reads,List.mem_append];exact .inl (this _ hx)
end
end Go.Proofs.YtgacplpjamkieaaGreat.Ev
