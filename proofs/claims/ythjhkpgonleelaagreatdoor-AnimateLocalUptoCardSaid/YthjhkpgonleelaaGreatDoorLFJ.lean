/-  Operations one behind the other. -/
import Derived.Test.YthjhkpgonleelaaGreatDoorLFI
set_option linter.unusedVariables false
set_option linter.unusedSimpArgs false
set_option linter.unnecessarySimpa false
namespace Go.Proofs.YthjhkpgonleelaaGreatDoor.Ev
open Go Go.RowKit
def Dl(P:Program)(C:Bc):Prop:=∀f args k,C f args k->∃r,F8 P f args r/\k r
def Qk(P:Program)(X:Inl):Prop:=∀f args ob k,X f args ob k->Hr P f args ob k
section
variable {P:Program} {C:Bc} {X:Inl} {ban:List Nat}
theorem A3u(st:St):∀(ps:List (Nat×Nat×Operand)) (cells:List PV) (k:List PV->Prop),Asv st cells ps k->∃l,k l/\∀k':List PV->Prop,k' l->Asv st cells ps k':=by
 intro ps
 induction ps with
 |nil=>intro cells k h;exact⟨cells,h,λk' h'=>h'⟩
 |cons p ps ih=>
  obtain⟨off,sz,x⟩:=p;intro cells k h;simp only[Asv]at h ⊢;cases g1:Abc (st.aT x).cells sz<;>cases g2:Aev (st.aT x).cells<;>cases g3:W7 cells (off+sz)<;>simp only[g1,g2,g3]at h ⊢ <;>first|exact h.elim|exact ih _ _ h
theorem A3p(st:St)(sz:Nat):∀(ps:List Operand) (k:List (List PV)->Prop),Ai8 st sz ps k->∃l,k l/\∀k':List (List PV)->Prop,k' l->Ai8 st sz ps k':=by
 intro ps
 induction ps with
 |nil=>intro k h;exact⟨[],h,λk' h'=>h'⟩
 |cons x ps ih=>
  intro k h;simp only[Ai8]at h ⊢;cases g1:Abc (st.aT x).cells sz<;>cases g2:Aev (st.aT x).cells<;>simp only[g1,g2]at h ⊢ <;>first
   |exact h.elim
   |(obtain⟨l,h1,h2⟩:=ih _ h;exact⟨_,h1,λk' hk=>h2 (λl=>k' ((st.aT x).cells.map PV.view::l)) hk⟩)
theorem Awj{α :Type} :∀(s:Sem α) (k: α->Prop),Awi P s k->∃x,k x/\∀k': α->Prop,k' x->Awi P s k':=by
 intro s
 induction s with
 |pure a=>intro k h;exact⟨a,h,λk' h'=>h'⟩
 |program f ih=>intro k h;exact ih P k h
 |_=>intro k h;exact h.elim
theorem Asa(hC:Dl P C)(hX:Qk P X)(o:K)(d:Option Nat)(st:St)(k:Co->Prop)(h:Ba P C X ban o d st k):∃δ,k δ/\∀k':Co->Prop,k' δ->Ba P (H0 P) (Hr P) ban o d st k':=by
 have one:∀(δ :Co),k δ->∃δ,k δ/\∀k':Co->Prop,k' δ->k' δ :=λδ h=>⟨δ,h,λk' h'=>h'⟩;cases o with
 |move x=>exact⟨_,h,λk' h'=>h'⟩
 |gF e=>
  simp only[Ba,Ax]at h ⊢;split at h
  ·exact⟨_,h,λk' h'=>h'⟩
  ·exact h.elim
 |take s=>cases d with
  |none=>exact h.elim
  |some d=>exact⟨_,h,λk' h'=>h'⟩
 |pick c x y=>
  simp only[Ba,Ax]at h ⊢;split at h
  ·rename_i t hq;cases t<;>exact⟨_,h,λk' h'=>h'⟩
  ·exact h.elim
 |alloc z=>
  simp only[Ba,Ax]at h ⊢;cases d with
  |none=>exact h.elim
  |some s=>
   simp only at h ⊢;split at h
   ·rename_i g1;exact⟨_,h,λk' h'=>h'⟩
   ·exact h.elim
 |box x=>
  simp only[Ba,Ax]at h ⊢;cases d with
  |none=>exact h.elim
  |some s=>
   simp only at h ⊢;split at h
   ·rename_i g1 g2;exact⟨_,h,λk' h'=>h'⟩
   ·exact h.elim
 |build z parts=>
  simp only[Ba,Ax]at h ⊢;obtain⟨l,h1,h2⟩:=A3u st _ _ _ h;exact⟨_,h1,λk' hk=>h2 (λl=>k' (dput d (.agg l))) hk⟩
 |fP e sz parts=>
  simp only[Ba,Ax]at h ⊢;obtain⟨l,h1,h2⟩:=A3p st _ _ _ h;have:∃δ,k δ/\∀k':Co->Prop,k' δ->(match LX.lit e l with
    |some x=>match Nat.beq x.sz sz with
     |true=>k' (dput d (.bA true x))
     |false=>False
    |none=>k' (dput d (.sl true e sz l))):=by
   cases hl:LX.lit e l with
   |none=>rw[hl]at h1;exact⟨_,h1,λk' h'=>h'⟩
   |some x=>
    rw[hl]at h1;simp only at h1 ⊢;cases hb:Nat.beq x.sz sz with
    |false=>rw[hb]at h1;exact h1.elim
    |true=>rw[hb]at h1;exact⟨_,h1,λk' h'=>h'⟩
  obtain⟨δ,h3,h4⟩:=this;exact⟨δ,h3,λk' hk=>h2 _ (h4 k' hk)⟩
 |load g sz x=>
  simp only[Ba,Ax]at h ⊢;split at h
  ·rename_i b off hq;split at h
   ·exact⟨_,h,λk' h'=>h'⟩
   ·exact h.elim
  ·split at h
   ·exact⟨_,h,λk' h'=>h'⟩
   ·exact h.elim
  ·rename_i b sz' i off hq;split at h
   ·rename_i y g1 g2;split at h
    ·exact⟨_,h,λk' h'=>h'⟩
    ·exact h.elim
   ·exact h.elim
  ·exact h.elim
 |loadT x=>
  simp only[Ba,Ax]at h ⊢;split at h
  ·split at h
   ·exact⟨_,h,λk' h'=>h'⟩
   ·exact h.elim
  ·exact h.elim
 |store sz x y=>
  simp only[Ba,Ax]at h ⊢;split at h
  ·split at h
   ·exact⟨_,h,λk' h'=>h'⟩
   ·exact h.elim
  ·split at h
   ·split at h
    ·exact⟨_,h,λk' h'=>h'⟩
    ·exact h.elim
   ·exact h.elim
  ·exact h.elim
 |storeT x s=>
  simp only[Ba,Ax]at h ⊢;split at h
  ·split at h
   ·exact⟨_,h,λk' h'=>h'⟩
   ·exact h.elim
  ·split at h
   ·split at h
    ·exact⟨_,h,λk' h'=>h'⟩
    ·exact h.elim
   ·exact h.elim
  ·exact h.elim
 |eY o=>
  simp only[Ba,A8j]at h ⊢;cases g1:Aki st o.op.operands.toList with
  |false=>rw[g1]at h;exact h.elim
  |true=>
   simp only[g1]at h ⊢;obtain⟨n,h1,h2⟩:=Awj _ _ h;cases n with
   |value v=>
    simp only at h1;cases g2:Ayw v with
    |false=>rw[g2]at h1;exact h1.elim
    |true=>
     simp only[g2]at h1;exact⟨_,h1,λk' hk=>h2 _ (by simp only[g2];exact hk)⟩
   |_=>exact h1.elim
 |dX tag x y=>
  simp only[Ba,Ax]at h ⊢;split at h
  ·split at h
   ·rename_i c r hb;cases c with
    |true=>exact⟨_,h,λk' h'=>h'⟩
    |false=>exact h.elim
   ·exact h.elim
  ·unfold Aym at h ⊢;split at h
   ·split at h
    ·simp only[Ax]at h ⊢;exact⟨_,h.2,λk' h'=>⟨h.1,h'⟩⟩
    ·simp only[Ax]at h ⊢;exact⟨_,h.2,λk' h'=>⟨h.1,h'⟩⟩
    ·exact h.elim
   ·exact h.elim
  ·exact h.elim
 |gW neg ts x y=>
  simp only[Ba,Ax]at h ⊢;split at h
  ·split at h
   ·cases neg<;>exact⟨_,h,λk' h'=>h'⟩
   ·exact h.elim
  ·exact h.elim
 |field off x=>
  simp only[Ba,Ax]at h ⊢;split at h<;>first|exact h.elim|exact⟨_,h,λk' h'=>h'⟩
 |index sz x i=>
  simp only[Ba,Ax]at h ⊢;split at h
  ·split at h<;>first|exact h.elim|exact⟨_,h.2.2,λk' h'=>⟨h.1,h.2.1,h'⟩⟩
  ·split at h
   ·split at h
    ·exact⟨_,h.2.2,λk' h'=>⟨h.1,h.2.1,h'⟩⟩
    ·exact h.elim
   ·exact h.elim
  ·exact h.elim
 |len x=>
  simp only[Ba,Ax]at h ⊢;split at h
  ·exact⟨_,h,λk' h'=>h'⟩
  ·exact⟨_,h,λk' h'=>h'⟩
  ·split at h
   ·exact⟨_,h,λk' h'=>h'⟩
   ·exact h.elim
 |cap x=>
  simp only[Ba,Ax]at h ⊢;split at h
  ·exact⟨_,h,λk' h'=>h'⟩
  ·exact h.elim
 |app e sz by_ s x=>
  simp only[Ba,Ax]at h ⊢;cases d with
  |none=>exact h.elim
  |some d=>
   simp only at h ⊢;split at h
   ·split at h
    ·exact⟨_,h.2.2,λk' hk=>⟨h.1,h.2.1,hk⟩⟩
    ·exact h.elim
   ·split at h
    ·exact⟨_,h,λk' h'=>h'⟩
    ·exact h.elim
   ·split at h
    ·exact⟨_,h.2.2,λk' hk=>⟨h.1,h.2.1,hk⟩⟩
    ·exact h.elim
   ·exact h.elim
 |clone cm e sz by_ s x=>
  simp only[Ba,Ax]at h ⊢;split at h
  ·split at h
   ·split at h
    ·rename_i own q _;split at h
     ·cases hb:Nat.beq q.len 0 with
      |true=>rw[hb]at h;exact⟨_,h,λk' h'=>h'⟩
      |false=>rw[hb]at h;exact⟨_,h.2.2,λk' hk=>⟨h.1,h.2.1,hk⟩⟩
     ·exact h.elim
    ·exact h.elim
   ·exact h.elim
  ·exact h.elim
 |call f args=>
  simp only[Ba,Ax]at h ⊢;cases g1:Afr st ban args with
  |false=>rw[g1]at h;exact h.elim
  |true=>
   simp only[g1]at h ⊢;obtain⟨r,h1,h2⟩:=hC _ _ _ h;exact⟨_,h2,λk' hk=>⟨r,h1,hk⟩⟩
 |fT f args=>
  simp only[Ba,Ax]at h ⊢;obtain⟨hc,r,o',h1,h2⟩:=hX _ _ _ _ h;exact⟨_,h2,λk' hk=>⟨hc,r,o',h1,hk⟩⟩
 |fV x args=>
  simp only[Ba,Ax]at h ⊢;split at h
  ·obtain⟨hc,r,o',h1,h2⟩:=hX _ _ _ _ h;exact⟨_,h2,λk' hk=>⟨hc,r,o',h1,hk⟩⟩
  ·exact h.elim
 |gP f n caps=>exact⟨_,h,λk' h'=>h'⟩
 |extract x i=>
  simp only[Ba,Ax]at h ⊢;split at h
  ·split at h
   ·exact⟨_,h,λk' h'=>h'⟩
   ·exact h.elim
  ·exact h.elim
 |nil x=>
  simp only[Ba,Ax]at h ⊢;split at h<;>first|exact h.elim|exact⟨_,h,λk' h'=>h'⟩
 |gL e sz by_ z n=>
  simp only[Ba,Ax]at h ⊢;split at h
  ·split at h
   ·split at h
    ·exact⟨_,h,λk' h'=>h'⟩
    ·exact h.elim
   ·split at h
    ·split at h
     ·exact⟨_,h.2.2.2,λk' hk=>⟨h.1,h.2.1,h.2.2.1,hk⟩⟩
     ·exact h.elim
    ·exact h.elim
  ·exact h.elim
 |gI e sz by_ n=>
  simp only[Ba,Ax]at h ⊢;split at h
  ·split at h
   ·exact⟨_,h.2.2.2,λk' hk=>⟨h.1,h.2.1,h.2.2.1,hk⟩⟩
   ·exact h.elim
  ·exact h.elim
 |gY sz x lo hi mx=>
  simp only[Ba,Ax]at h ⊢;split at h
  ·split at h
   ·split at h
    ·split at h
     ·exact⟨_,h.2.2.2.2,λk' hk=>⟨h.1,h.2.1,h.2.2.1,h.2.2.2.1,hk⟩⟩
     ·exact h.elim
    ·exact h.elim
   ·exact h.elim
  ·exact h.elim
 |gM x lo hi=>
  simp only[Ba,Ax]at h ⊢;split at h
  ·split at h
   ·split at h
    ·exact⟨_,h.2.2.2,λk' hk=>⟨h.1,h.2.1,h.2.2.1,hk⟩⟩
    ·exact h.elim
   ·exact h.elim
  ·exact h.elim
 |gB gk gv ks vs=>
  simp only[Ba,Ax]at h ⊢;cases d with
  |none=>exact h.elim
  |some s=>
   simp only at h ⊢;split at h
   ·exact⟨_,h,λk' h'=>h'⟩
   ·exact h.elim
 |lookup gq ts ok g z m q=>
  simp only[Ba,Ax]at h ⊢;split at h
  ·split at h
   ·split at h
    ·rename_i r _ _ _;cases r<;>exact⟨_,h,λk' h'=>h'⟩
    ·exact h.elim
   ·exact h.elim
  ·exact h.elim
 |fO gq ts m q v=>
  simp only[Ba,Ax]at h ⊢;split at h
  ·split at h
   ·split at h
    ·rename_i r c _ _ _;cases r with
     |none=>
      simp only[fk]at h ⊢;split at h
      ·exact⟨_,h,λk' h'=>h'⟩
      ·exact h.elim
     |some i=>
      simp only[fk]at h ⊢;split at h
      ·exact⟨_,h,λk' h'=>h'⟩
      ·exact h.elim
    ·exact h.elim
   ·exact h.elim
  ·exact h.elim
 |del gq ts m q=>
  simp only[Ba,Ax]at h ⊢;split at h
  ·split at h
   ·split at h
    ·rename_i r _ _;cases r with
     |none=>exact⟨_,h,λk' h'=>h'⟩
     |some i=>
      simp only[fk]at h ⊢;split at h
      ·exact⟨_,h,λk' h'=>h'⟩
      ·exact h.elim
    ·exact h.elim
   ·exact h.elim
  ·exact h.elim
 |gG f args=>
  simp only[Ba,Ax]at h ⊢;cases g1:Zw st args with
  |false=>rw[g1]at h;exact h.elim
  |true=>
   simp only[g1]at h ⊢;obtain⟨hc,r,o',h1,h2⟩:=hX _ _ _ _ h;unfold Bd1 at h2;split at h2
   ·rename_i hf;exact⟨_,h2,λk' hk=>⟨hc,r,[],h1,by show Bd1 r [] _;unfold Bd1;rw[hf];exact hk⟩⟩
   ·exact h2.elim
 |ext sub x y c=>
  simp only[Ba,Ax]at h ⊢;split at h
  ·exact⟨_,h.2,λk' hk=>⟨h.1,hk⟩⟩
  ·exact h.elim
 |gU off sz g x=>
  simp only[Ba,Ax]at h ⊢;split at h
  ·split at h
   ·exact⟨_,h,λk' h'=>h'⟩
   ·exact h.elim
  ·exact h.elim
 |stop=>exact h.elim
end
end Go.Proofs.YthjhkpgonleelaaGreatDoor.Ev
namespace Go.Proofs.YthjhkpgonleelaaGreatDoor.Ev
open Go Go.RowKit
def aOf:Operand->Option Nat
 | .tmp a=>some a
 |_=>none
def At(p:PV)(b:Nat):Prop:=(∃off,p=.loc b off)\/∃sz i off,p=.el b sz i off
section
variable {P:Program} {C:Bc} {X:Inl} {ban:List Nat}
theorem Asw{st st':St} :∀(args:List Operand),(∀x∈args,st'.aT x=st.aT x)->Zw st' args=Zw st args
 | [],_=>rfl
 |x::r,h=>by
  simp only[Zw,h x (by simp)];rw[Asw r λy hy=>h y (by simp[hy])]
theorem O9.congr{f:Nat}{args:List PV}{ob ob':List (Nat×List PV)}{r:PV}{o':List (Nat×List PV)}(h:O9 P f args ob r o')(h1:∀d,Dn [] ob' d=Dn [] ob d)(h2:∀d,Ay d (ob'.map Prod.fst)=Ay d (ob.map Prod.fst)):
  O9 P f args ob' r o':=by
 intro κ H w0 w N M β O D vs hO hD hS hl hr;refine Calls.mono (h H w0 w N M β O D vs (λd=>by rw[hO,h1]) (λd=>by rw[hD,h2]) hS hl hr) ?_
 rintro e w' ⟨v,M',β',he,hS'⟩
 refine⟨v,M',β',he,?_⟩;have e1:Dn [] (o'++ob')=Dn [] (o'++ob):=funext λd=>by rw[U1,U1,h1]
 have e2:(λd=>Ay d ((o'++ob').map Prod.fst))=λd=>Ay d ((o'++ob).map Prod.fst):=funext λd=>by rw[List.map_append,List.map_append,Y9,Y9,h2]
 rw[e1,e2];exact hS'
theorem O9.norm{f:Nat}{args:List PV}{ob:List (Nat×List PV)}{r:PV}{o':List (Nat×List PV)}(h:O9 P f args ob r o'):O9 P f args ob r (Apd o'):=by
 intro κ H w0 w N M β O D vs hO hD hS hl hr;refine Calls.mono (h H w0 w N M β O D vs hO hD hS hl hr) ?_
 rintro e w' ⟨v,M',β',he,hS'⟩
 refine⟨v,M',β',he,?_⟩;have e1:Dn [] (Apd o'++ob)=Dn [] (o'++ob):=funext λd=>by rw[U1,U1,Bgi];simp only[A78]
 have e2:(λd=>Ay d ((Apd o'++ob).map Prod.fst))=λd=>Ay d ((o'++ob).map Prod.fst):=funext λd=>by rw[List.map_append,List.map_append,Y9,Y9,Bkh]
 rw[e1,e2];exact hS'
structure Bli (ban:List Nat) (o:K) (d:Option Nat) (st st':St):Prop where
 aT:∀x∈o.cK,st'.aT x=st.aT x
 obj:o.fG=true->o.isLoad=false->∀b,(o.dJ=true\/Ay b ban=true)->(∀a,o.addr=some a->At (st.get a) b)->st'.obj b=st.obj b
 iD:o.isLoad=true->∀b,Ay b ban=true->(∀a,o.addr=some a->At (st.get a) b)->st'.vobj b=st.vobj b
 key:o.makes=true->∀s,d=some s->Ay (st.base+s) (st.ob.map Prod.fst)=true->Ay (st.base+s) (st'.ob.map Prod.fst)=true
 sel:∀o',o=.eY o'->∀cs b,o'.op≠ .select cs b
 base:st'.base=st.base
 gQ:o.gQ=true->(∀b,st'.obj b=st.obj b)/\∀b,Ay b (st'.ob.map Prod.fst)=Ay b (st.ob.map Prod.fst)
theorem Bcw{st st':St} :∀(ps:List (Nat×Nat×Operand)) (cells:List PV) (k:List PV->Prop),(∀x∈ps.map (λp=>p.2.2),st'.aT x=st.aT x)->Asv st cells ps k->Asv st' cells ps k:=by
 intro ps
 induction ps with
 |nil=>intro cells k _ h;exact h
 |cons p ps ih=>
  obtain⟨off,sz,x⟩:=p;intro cells k hx h;have h1:st'.aT x=st.aT x:=hx x (by simp);simp only[Asv]at h ⊢;rw[h1];cases g1:Abc (st.aT x).cells sz<;>cases g2:Aev (st.aT x).cells<;>cases g3:W7 cells (off+sz)<;>simp only[g1,g2,g3]at h ⊢ <;>first
   |exact h.elim
   |exact ih _ _ (λy hy=>hx y (by simp only[List.map_cons];exact List.mem_cons_of_mem _ hy)) h
theorem Bcl{st st':St}(sz:Nat):∀(ps:List Operand) (k:List (List PV)->Prop),(∀x∈ps,st'.aT x=st.aT x)->Ai8 st sz ps k->Ai8 st' sz ps k:=by
 intro ps
 induction ps with
 |nil=>intro k _ h;exact h
 |cons x ps ih=>
  intro k hx h;have h1:st'.aT x=st.aT x:=hx x (by simp);simp only[Ai8]at h ⊢;rw[h1];cases g1:Abc (st.aT x).cells sz<;>cases g2:Aev (st.aT x).cells<;>simp only[g1,g2]at h ⊢ <;>first
   |exact h.elim
   |exact ih _ (λy hy=>hx y (List.mem_cons_of_mem _ hy)) h
theorem A87{st st':St} :∀(l:List Operand),(∀x∈l,st'.aT x=st.aT x)->Aki st' l=Aki st l:=by
 intro l
 induction l with
 |nil=>intro _;rfl
 |cons x l ih=>
  intro h;simp only[Aki];rw[h x (by simp),ih (λy hy=>h y (List.mem_cons_of_mem _ hy))]
theorem A9z{st st':St} :∀(l:List Operand),(∀x∈l,st'.aT x=st.aT x)->Afr st' ban l=Afr st ban l:=by
 intro l
 induction l with
 |nil=>intro _;rfl
 |cons x l ih=>
  intro h;have h1:=ih (λy hy=>h y (List.mem_cons_of_mem _ hy));cases ban with
  |nil=>rfl
  |cons c r=>
   simp only[Afr];rw[h x (by simp)];cases hq:st.aT x<;>first|exact h1|(simp only[h1])
theorem Bgg{st:St} :∀(l:List Operand),Afr st ban l=true->∀x∈l,∀b off,st.aT x=.loc b off->Ay b ban=true:=by
 intro l
 induction l with
 |nil=>intro _ x hx;cases hx
 |cons y l ih=>
  intro h x hx b off hb;cases hban:ban with
  |nil=>rfl
  |cons c r=>
   rw[hban]at h;simp only[Afr]at h;rcases List.mem_cons.1 hx with e|e
   ·subst e;rw[hb]at h;simp only at h;cases g:Ay b (c::r) with
    |true=>rfl
    |false=>rw[g]at h;cases h
   ·have hl:Afr st (c::r) l=true:=by
     cases hy:st.aT y with
     |loc b' off'=>
      rw[hy]at h;simp only at h;cases g:Ay b' (c::r) with
      |true=>rw[g]at h;exact h
      |false=>rw[g]at h;cases h
     |_=>rw[hy]at h;exact h
    rw[<-hban]at hl ⊢;exact ih hl x e b off hb
theorem All{st st':St}{d:Int}{x:Option Operand}(h:∀y∈Bgm x,st'.aT y=st.aT y):st'.bnd d x=st.bnd d x:=by
 cases x with
 |none=>rfl
 |some y=>simp only[St.bnd];rw[h y (by simp[Bgm])]
theorem Aho{st:St}{x:Operand}{b off:Nat}(hq:st.aT x=.loc b off){o:K}(ho:o.addr=aOf x):∀a,o.addr=some a->At (st.get a) b:=by
 intro a ha;cases x with
 |tmp t=>rw[ho]at ha;injection ha with ha;subst ha;exact .inl ⟨off,hq⟩
 |_=>rw[ho]at ha;cases ha
theorem Avb{st:St}{x:Operand}{b sz i off:Nat}(hq:st.aT x=.el b sz i off){o:K}(ho:o.addr=aOf x):∀a,o.addr=some a->At (st.get a) b:=by
 intro a ha;cases x with
 |tmp t=>rw[ho]at ha;injection ha with ha;subst ha;exact .inr ⟨sz,i,off,hq⟩
 |_=>rw[ho]at ha;cases ha
theorem Bhg(p:PV):p.view.pure0=p.pure0:=by cases p<;>rfl
theorem Aue:∀l:List PV,plain (l.map PV.view)=plain l
 | []=>rfl
 |p::l=>by
  have:=Aue l;cases p<;>first|exact this|rfl
theorem Bk4{O O':Nat->List PV}{b off:Nat}(h:(O' b).map PV.view=(O b).map PV.view):Ask O' (.loc b off)=Ask O (.loc b off):=by
 have e:∀l:List PV,((l.map PV.view).map PV.pure0)=l.map PV.pure0:=λl=>by
  rw[List.map_map];exact List.map_congr_left λp _=>Bhg p
 have d:((O' b).drop off).map PV.view=((O b).drop off).map PV.view:=by rw[List.map_drop,List.map_drop,h]
 have h1:plain ((O' b).drop off)=plain ((O b).drop off):=by rw[<-Aue,d,Aue]
 have h2:((O' b).drop off).map PV.pure0=((O b).drop off).map PV.pure0:=by rw[<-e,d,e]
 simp only[Ask,h1,h2]
theorem Aoy{o:K}{d:Option Nat}{st st':St}(hA:Bli ban o d st st'){k:Co->Prop}(h:Ba P (H0 P) (Hr P) ban o d st k):Ba P (H0 P) (Hr P) ban o d st' k:=by
 have ad:∀(x:Operand) (o:K),(o=.loadT x\/(∃g sz,o=.load g sz x)\/(∃sz y,o=.store sz x y)\/∃s,o=.storeT x s)->o.addr=aOf x:=by
  intro x o ho;rcases ho with rfl|⟨g,sz,rfl⟩|⟨sz,y,rfl⟩|⟨s,rfl⟩<;>cases x<;>rfl
 cases o with
 |move x=>simp only[Ba,Ax]at h ⊢;rw[hA.aT x (by simp[K.cK])];exact h
 |gF e=>exact h
 |take s=>
  simp only[Ba,Ax]at h ⊢;have:st'.get s=st.get s:=hA.aT (.tmp s) (by simp[K.cK]);rw[this];exact h
 |pick c x y=>
  simp only[Ba,Ax]at h ⊢;rw[hA.aT c (by simp[K.cK]),hA.aT x (by simp[K.cK]),hA.aT y (by simp[K.cK])];exact h
 |alloc z=>
  simp only[Ba,Ax]at h ⊢;cases d with
  |none=>exact h
  |some s=>
   simp only at h ⊢;rw[hA.base];cases g1:Ay (st.base+s) (st.ob.map Prod.fst) with
   |false=>rw[g1]at h;exact h.elim
   |true=>rw[g1]at h;rw[hA.key rfl s rfl g1];exact h
 |box x=>
  simp only[Ba,Ax]at h ⊢;rw[hA.aT x (by simp[K.cK])];cases d with
  |none=>exact h
  |some s=>
   simp only at h ⊢;rw[hA.base];cases g1:Ay (st.base+s) (st.ob.map Prod.fst) with
   |false=>rw[g1]at h;exact h.elim
   |true=>rw[g1]at h;rw[hA.key rfl s rfl g1];exact h
 |build z parts=>simp only[Ba,Ax]at h ⊢;exact Bcw _ _ _ (λx hx=>hA.aT x hx) h
 |fP e sz parts=>simp only[Ba,Ax]at h ⊢;exact Bcl _ _ _ (λx hx=>hA.aT x hx) h
 |load g sz x=>
  simp only[Ba,Ax]at h ⊢;rw[hA.aT x (by simp[K.cK])];cases hq:st.aT x with
  |loc b off=>
   rw[hq]at h;simp only at h ⊢;cases g1:Ay b ban with
   |false=>rw[g1]at h;exact h.elim
   |true=>rw[g1]at h;rw[hA.iD rfl b g1 (Aho hq (ad x _ (.inr (.inl ⟨_,_,rfl⟩))))];exact h
  |el b sz' i off=>
   rw[hq]at h;simp only at h ⊢;cases g1:Ay b ban with
   |false=>rw[g1]at h;exact h.elim
   |true=>rw[g1]at h;rw[hA.iD rfl b g1 (Avb hq (ad x _ (.inr (.inl ⟨_,_,rfl⟩))))];exact h
  |_=>rw[hq]at h;exact h
 |loadT x=>
  simp only[Ba,Ax]at h ⊢;rw[hA.aT x (by simp[K.cK])];cases hq:st.aT x with
  |loc b off=>
   rw[hq]at h;cases d with
   |none=>exact h
   |some d=>
    dsimp only at h ⊢;rw[hA.obj rfl rfl b (.inl rfl) (Aho hq (ad x _ (.inl rfl)))];exact h
  |_=>rw[hq]at h;exact h
 |store sz x y=>
  simp only[Ba,Ax]at h ⊢;rw[hA.aT x (by simp[K.cK]),hA.aT y (by simp[K.cK])];cases hq:st.aT x with
  |loc b off=>
   rw[hq]at h;dsimp only at h ⊢;rw[hA.obj rfl rfl b (.inl rfl) (Aho hq (ad x _ (.inr (.inr (.inl ⟨_,_,rfl⟩)))))];exact h
  |el b sz' i off=>
   rw[hq]at h;simp only at h ⊢;rw[hA.obj rfl rfl b (.inl rfl) (Avb hq (ad x _ (.inr (.inr (.inl ⟨_,_,rfl⟩)))))];exact h
  |_=>rw[hq]at h;exact h
 |storeT x s=>
  simp only[Ba,Ax]at h ⊢;have hs:st'.get s=st.get s:=hA.aT (.tmp s) (by simp[K.cK]);rw[hA.aT x (by simp[K.cK]),hs];cases hq:st.aT x with
  |loc b off=>
   rw[hq]at h;dsimp only at h ⊢;rw[hA.obj rfl rfl b (.inl rfl) (Aho hq (ad x _ (.inr (.inr (.inr ⟨_,rfl⟩)))))];exact h
  |el b sz' i off=>
   rw[hq]at h;simp only at h ⊢;rw[hA.obj rfl rfl b (.inl rfl) (Avb hq (ad x _ (.inr (.inr (.inr ⟨_,rfl⟩)))))];exact h
  |_=>rw[hq]at h;exact h
 |eY o=>
  simp only[Ba,A8j]at h ⊢;rw[A87 o.op.operands.toList (λx hx=>hA.aT x hx)];have:execOp st'.valOf o=execOp st.valOf o:=execOp_congr o (hA.sel o rfl) (λx hx=>by
   have:=hA.aT x (by simpa[K.cK]using hx);simp only[St.valOf,this])
  rw[this];exact h
 |dX tag x y=>simp only[Ba,Ax,Aym]at h ⊢;rw[hA.aT x (by simp[K.cK]),hA.aT y (by simp[K.cK])];exact h
 |gW neg ts x y=>simp only[Ba,Ax]at h ⊢;rw[hA.aT x (by simp[K.cK]),hA.aT y (by simp[K.cK])];exact h
 |field off x=>simp only[Ba,Ax]at h ⊢;rw[hA.aT x (by simp[K.cK])];exact h
 |index sz x i=>simp only[Ba,Ax]at h ⊢;rw[hA.aT x (by simp[K.cK]),hA.aT i (by simp[K.cK])];exact h
 |len x=>simp only[Ba,Ax]at h ⊢;rw[hA.aT x (by simp[K.cK])];exact h
 |cap x=>simp only[Ba,Ax]at h ⊢;rw[hA.aT x (by simp[K.cK])];exact h
 |app e sz by_ s x=>
  simp only[Ba,Ax]at h ⊢;have:st'.get s=st.get s:=hA.aT (.tmp s) (by simp[K.cK]);rw[hA.aT x (by simp[K.cK]),this];exact h
 |clone cm e sz by_ s x=>
  simp only[Ba,Ax]at h ⊢;have hs':st'.get s=st.get s:=hA.aT (.tmp s) (by simp[K.cK]);rw[hA.aT x (by simp[K.cK]),hs',hA.base];cases d with
  |none=>exact h
  |some d=>
   cases hn:LX.nil e with
   |none=>rw[hn]at h;exact h
   |some n=>
    rw[hn]at h;dsimp only at h ⊢;cases g1:Ay (st.base+d) (st.ob.map Prod.fst) with
    |true=>rw[g1]at h;rw[hA.key rfl d rfl g1];exact h
    |false=>rw[g1]at h;exact h.elim
 |call f args=>
  simp only[Ba,Ax]at h ⊢;rw[A9z args (λx hx=>hA.aT x hx)];cases g1:Afr st ban args with
  |false=>rw[g1]at h;exact h.elim
  |true=>
   rw[g1]at h;have:args.map (λx=>Ask st'.obj (st'.aT x))=args.map (λx=>Ask st.obj (st.aT x)):=by
    apply List.map_congr_left;intro x hx;rw[hA.aT x hx];cases hq:st.aT x with
    |loc b off=>exact Bk4 (hA.iD rfl b (Bgg _ g1 x hx b off hq) (λa ha=>by cases ha))
    |_=>rfl
   rw[this];exact h
 |fT f args=>
  simp only[Ba,Ax]at h ⊢;obtain⟨w1,w2⟩:=hA.gQ rfl;obtain⟨hc,r,o',hI,hk⟩:=h;have:args.map (λx=>(st'.aT x).view)=args.map (λx=>(st.aT x).view):=List.map_congr_left λx hx=>by rw[hA.aT x hx]
  rw[this];exact⟨hc,r,o',hI.congr w1 w2,hk⟩
 |fV x args=>
  simp only[Ba,Ax]at h ⊢;obtain⟨w1,w2⟩:=hA.gQ rfl;have:args.map (λx=>(st'.aT x).view)=args.map (λx=>(st.aT x).view):=List.map_congr_left λy hy=>by rw[hA.aT y (by simp[K.cK,hy])]
  rw[this,hA.aT x (by simp[K.cK])];split at h
  ·obtain⟨hc,r,o',hI,hk⟩:=h;exact⟨hc,r,o',hI.congr w1 w2,hk⟩
  ·exact h.elim
 |gP f n caps=>
  simp only[Ba,Ax]at h ⊢;have:caps.map (λx=>(st'.aT x).view)=caps.map (λx=>(st.aT x).view):=List.map_congr_left λx hx=>by rw[hA.aT x hx]
  rw[this];exact h
 |extract x i=>simp only[Ba,Ax]at h ⊢;rw[hA.aT x (by simp[K.cK])];exact h
 |nil x=>simp only[Ba,Ax]at h ⊢;rw[hA.aT x (by simp[K.cK])];exact h
 |gL e sz by_ z n=>
  simp only[Ba,Ax]at h ⊢;rw[hA.aT n (by simp[K.cK]),hA.base];cases d with
  |none=>exact h
  |some s=>
   cases g1:Ay (st.base+s) (st.ob.map Prod.fst) with
   |true=>
    have g2:=hA.key rfl s rfl g1;split at h
    ·rename_i s' m hs hv;injection hs with hs
     subst hs;rw[g2];rw[g1]at h;exact h
    ·exact h.elim
   |false=>
    split at h
    ·rename_i s' m hs hv;injection hs with hs
     subst hs;rw[g1]at h;split at h
     ·split at h
      ·rename_i e _;cases e
      ·exact h.elim
     ·split at h
      ·rename_i e _;cases e
      ·exact h.elim
    ·exact h.elim
 |gI e sz by_ n=>simp only[Ba,Ax]at h ⊢;rw[hA.aT n (by simp[K.cK])];exact h
 |gY sz x lo hi mx=>
  simp only[Ba,Ax]at h ⊢;have e1:∀d,st'.bnd d lo=st.bnd d lo:=λd=>All λy hy=>hA.aT y (by simp[K.cK,hy]);have e2:∀d,st'.bnd d hi=st.bnd d hi:=λd=>All λy hy=>hA.aT y (by simp[K.cK,hy]);have e3:∀d,st'.bnd d mx=st.bnd d mx:=λd=>All λy hy=>hA.aT y (by simp[K.cK,hy]);rw[hA.aT x (by simp[K.cK])];simp only[e1,e2,e3];exact h
 |gM x lo hi=>
  simp only[Ba,Ax]at h ⊢;have e1:∀d,st'.bnd d lo=st.bnd d lo:=λd=>All λy hy=>hA.aT y (by simp[K.cK,hy]);have e2:∀d,st'.bnd d hi=st.bnd d hi:=λd=>All λy hy=>hA.aT y (by simp[K.cK,hy]);rw[hA.aT x (by simp[K.cK])];simp only[e1,e2];exact h
 |gB gk gv ks vs=>
  simp only[Ba,Ax]at h ⊢;cases d with
  |none=>exact h
  |some s=>
   simp only at h ⊢;rw[hA.base];cases g1:Ay (st.base+s) (st.ob.map Prod.fst) with
   |false=>rw[g1]at h;exact h.elim
   |true=>rw[g1]at h;rw[hA.key rfl s rfl g1];exact h
 |lookup gq ts ok g z m q=>
  simp only[Ba,Ax]at h ⊢;rw[hA.aT m (by simp[K.cK]),hA.aT q (by simp[K.cK])];cases hq:st.aT m with
  |mp b=>
   rw[hq]at h;simp only at h ⊢;cases g1:Ay b ban with
   |false=>rw[g1]at h;exact h.elim
   |true=>rw[g1]at h;rw[hA.obj rfl rfl b (.inr g1) (λa ha=>by cases ha)];exact h
  |_=>rw[hq]at h;exact h
 |fO gq ts m q v=>
  simp only[Ba,Ax]at h ⊢;rw[hA.aT m (by simp[K.cK]),hA.aT q (by simp[K.cK]),hA.aT v (by simp[K.cK])];cases hq:st.aT m with
  |mp b=>
   rw[hq]at h;dsimp only at h ⊢;rw[hA.obj rfl rfl b (.inl rfl) (λa ha=>by cases ha)];exact h
  |_=>rw[hq]at h;exact h
 |del gq ts m q=>
  simp only[Ba,Ax]at h ⊢;rw[hA.aT m (by simp[K.cK]),hA.aT q (by simp[K.cK])];cases hq:st.aT m with
  |mp b=>
   rw[hq]at h;dsimp only at h ⊢;rw[hA.obj rfl rfl b (.inl rfl) (λa ha=>by cases ha)];exact h
  |_=>rw[hq]at h;exact h
 |gG f args=>
  simp only[Ba,Ax]at h ⊢;have e0:Zw st' args=Zw st args:=Asw args (λx hx=>hA.aT x hx);have:args.map (λx=>(st'.aT x).view)=args.map (λx=>(st.aT x).view):=List.map_congr_left λx hx=>by rw[hA.aT x hx]
  rw[e0,this];exact h
 |ext sub x y c=>simp only[Ba,Ax]at h ⊢;rw[hA.aT x (by simp[K.cK]),hA.aT y (by simp[K.cK]),hA.aT c (by simp[K.cK])];exact h
 |gU off sz g x=>simp only[Ba,Ax]at h ⊢;rw[hA.aT x (by simp[K.cK])];exact h
 |stop=>exact h
def Bjj(o:K)(d:Option Nat)(st:St)(b:Nat):Prop:=(o.dJ=true/\∀a,o.addr=some a->At (st.get a) b)\/(o.makes=true/\∃s,d=some s/\b=st.base+s)
theorem A8p{o:K}{d:Option Nat}{st:St}{δ :Co}(h:Ba P (H0 P) (Hr P) ban o d st (λδ'=> δ'= δ)):
  (∀s∈δ.s.map Prod.fst,s∈Hm.writes ⟨d,none,o⟩)/\(∀b∈δ.o.map Prod.fst,Bjj o d st b):=by
 have put:∀(p:PV),dput d p= δ->(∀s∈δ.s.map Prod.fst,s∈Hm.writes ⟨d,none,o⟩)/\(∀b∈δ.o.map Prod.fst,Bjj o d st b):=by
  intro p e;subst e;cases d with
  |none=>exact⟨λs hs=>by simp[dput]at hs,λb hb=>by simp[dput]at hb⟩
  |some x=>exact⟨λs hs=>by simp[dput]at hs;simp[Hm.writes,hs],λb hb=>by simp[dput]at hb⟩
 have ad:∀(x:Operand) (o:K),(o=.loadT x\/(∃g sz,o=.load g sz x)\/(∃sz y,o=.store sz x y)\/∃s,o=.storeT x s)->o.addr=aOf x:=by
  intro x o ho;rcases ho with rfl|⟨g,sz,rfl⟩|⟨sz,y,rfl⟩|⟨s,rfl⟩<;>cases x<;>rfl
 cases o with
 |move x=>exact put _ h
 |gF e=>
  simp only[Ba,Ax]at h;split at h
  ·subst h;exact⟨λy hy=>by simpa[Hm.writes]using hy,λb hb=>by simp at hb⟩
  ·exact h.elim
 |take s=>
  cases d with
  |none=>exact h.elim
  |some x=>subst h;exact⟨λy hy=>by simpa[Hm.writes]using hy,λb hb=>by simp at hb⟩
 |pick c x y=>
  simp only[Ba,Ax]at h;split at h
  ·rename_i t _;cases t<;>exact put _ h
  ·exact h.elim
 |alloc z=>
  simp only[Ba,Ax]at h;cases d with
  |none=>exact h.elim
  |some s=>
   simp only at h;split at h
   ·subst h;exact⟨λy hy=>by simpa[Hm.writes]using hy,λb hb=>by simp at hb;subst hb;exact .inr ⟨rfl,s,rfl,rfl⟩⟩
   ·exact h.elim
 |box x=>
  simp only[Ba,Ax]at h;cases d with
  |none=>exact h.elim
  |some s=>
   simp only at h;split at h
   ·subst h;exact⟨λy hy=>by simpa[Hm.writes]using hy,λb hb=>by simp at hb;subst hb;exact .inr ⟨rfl,s,rfl,rfl⟩⟩
   ·exact h.elim
 |build z parts=>
  simp only[Ba,Ax]at h;obtain⟨l,h1,_⟩:=A3u st _ _ _ h;exact put _ h1
 |fP e sz parts=>
  simp only[Ba,Ax]at h;obtain⟨l,h1,_⟩:=A3p st _ _ _ h;split at h1
  ·split at h1
   ·exact put _ h1
   ·exact h1.elim
  ·exact put _ h1
 |load g sz x=>
  simp only[Ba,Ax]at h;split at h
  ·split at h
   ·exact put _ h
   ·exact h.elim
  ·split at h
   ·exact put _ h
   ·exact h.elim
  ·split at h
   ·split at h
    ·exact put _ h
    ·exact h.elim
   ·exact h.elim
  ·exact h.elim
 |loadT x=>
  simp only[Ba,Ax]at h;split at h
  ·rename_i b off d' hq;split at h
   ·subst h;exact⟨λy hy=>by simpa[Hm.writes]using hy,λb' hb=>by simp at hb;subst hb;exact .inl ⟨rfl,Aho hq (ad x _ (.inl rfl))⟩⟩
   ·exact h.elim
  ·exact h.elim
 |store sz x y=>
  simp only[Ba,Ax]at h;split at h
  ·rename_i b off hq;split at h
   ·subst h;exact⟨λy hy=>by simp at hy,λb' hb=>by simp at hb;subst hb;exact .inl ⟨rfl,Aho hq (ad x _ (.inr (.inr (.inl ⟨_,_,rfl⟩))))⟩⟩
   ·exact h.elim
  ·rename_i b sz' i off hq;split at h
   ·split at h
    ·subst h;exact⟨λy hy=>by simp at hy,λb' hb=>by simp at hb;subst hb;exact .inl ⟨rfl,Avb hq (ad x _ (.inr (.inr (.inl ⟨_,_,rfl⟩))))⟩⟩
    ·exact h.elim
   ·exact h.elim
  ·exact h.elim
 |storeT x s=>
  simp only[Ba,Ax]at h;split at h
  ·rename_i b off hq;split at h
   ·subst h;exact⟨λy hy=>by simp at hy;simp[Hm.writes,hy],λb' hb=>by simp at hb;subst hb;exact .inl ⟨rfl,Aho hq (ad x _ (.inr (.inr (.inr ⟨_,rfl⟩))))⟩⟩
   ·exact h.elim
  ·rename_i b sz' i off hq;split at h
   ·split at h
    ·subst h;exact⟨λy hy=>by simp at hy;simp[Hm.writes,hy],λb' hb=>by simp at hb;subst hb;exact .inl ⟨rfl,Avb hq (ad x _ (.inr (.inr (.inr ⟨_,rfl⟩))))⟩⟩
    ·exact h.elim
   ·exact h.elim
  ·exact h.elim
 |eY o=>
  simp only[Ba,A8j]at h;cases g1:Aki st o.op.operands.toList with
  |false=>rw[g1]at h;exact h.elim
  |true=>
   rw[g1]at h;obtain⟨n,h1,_⟩:=Awj _ _ h;cases n with
   |value v=>
    simp only at h1;cases g2:Ayw v with
    |false=>rw[g2]at h1;exact h1.elim
    |true=>rw[g2]at h1;exact put _ h1
   |_=>exact h1.elim
 |dX tag x y=>
  simp only[Ba,Ax]at h;split at h
  ·split at h
   ·rename_i c r _;cases c with
    |true=>exact put _ h
    |false=>exact h.elim
   ·exact h.elim
  ·unfold Aym at h;split at h
   ·split at h
    ·simp only[Ax]at h;exact put _ h.2
    ·simp only[Ax]at h;exact put _ h.2
    ·exact h.elim
   ·exact h.elim
  ·exact h.elim
 |gW neg ts x y=>
  simp only[Ba,Ax]at h;split at h
  ·split at h
   ·cases neg<;>exact put _ h
   ·exact h.elim
  ·exact h.elim
 |field off x=>
  simp only[Ba,Ax]at h;split at h<;>first|exact h.elim|exact put _ h
 |index sz x i=>
  simp only[Ba,Ax]at h;split at h
  ·split at h<;>first|exact h.elim|exact put _ h.2.2
  ·split at h
   ·split at h
    ·exact put _ h.2.2
    ·exact h.elim
   ·exact h.elim
  ·exact h.elim
 |len x=>
  simp only[Ba,Ax]at h;split at h
  ·exact put _ h
  ·exact put _ h
  ·split at h
   ·exact put _ h
   ·exact h.elim
 |cap x=>
  simp only[Ba,Ax]at h;split at h
  ·exact put _ h
  ·exact h.elim
 |app e sz by_ s x=>
  simp only[Ba,Ax]at h;cases d with
  |none=>exact h.elim
  |some d=>
   simp only at h;split at h
   ·split at h
    ·have h':=h.2.2;subst h';exact⟨λy hy=>by simpa[Hm.writes]using hy,λb hb=>by simp at hb⟩
    ·exact h.elim
   ·split at h
    ·subst h;exact⟨λy hy=>by simpa[Hm.writes]using hy,λb hb=>by simp at hb⟩
    ·exact h.elim
   ·split at h
    ·have h':=h.2.2;subst h';exact⟨λy hy=>by simp at hy;simp[Hm.writes,hy],λb hb=>by simp at hb⟩
    ·exact h.elim
   ·exact h.elim
 |clone cm e sz by_ s x=>
  simp only[Ba,Ax]at h;split at h
  ·rename_i d n _;split at h
   ·split at h
    ·rename_i own q _;split at h
     ·cases hb:Nat.beq q.len 0 with
      |true=>
       rw[hb]at h;have h':_= δ :=h;subst h';exact⟨λy hy=>by simpa[Hm.writes]using hy,λb hb=>by simp at hb⟩
      |false=>
       rw[hb]at h;have h':=h.2.2;subst h';exact⟨λy hy=>by simpa[Hm.writes]using hy,λb hb=>by simp at hb;subst hb;exact .inr ⟨rfl,d,rfl,rfl⟩⟩
     ·exact h.elim
    ·exact h.elim
   ·exact h.elim
  ·exact h.elim
 |call f args=>
  simp only[Ba,Ax]at h;split at h
  ·obtain⟨r,_,h2⟩:=h;exact put _ h2
  ·exact h.elim
 |fT f args=>
  simp only[Ba,Ax]at h;obtain⟨_,r,o',_,h2⟩:=h;refine⟨λs hs=>?_,λb _=>.inl ⟨rfl,λa ha=>by cases ha⟩⟩;have: δ.s=(dput d r).s:=by rw[<-h2]
  rw[this]at hs;cases d with
  |none=>simp[dput]at hs
  |some x=>simp[dput]at hs;simp[Hm.writes,hs]
 |fV x args=>
  simp only[Ba,Ax]at h;split at h
  ·obtain⟨_,r,o',_,h2⟩:=h;refine⟨λs hs=>?_,λb _=>.inl ⟨rfl,λa ha=>by cases ha⟩⟩;have: δ.s=(dput d r).s:=by rw[<-h2]
   rw[this]at hs;cases d with
   |none=>simp[dput]at hs
   |some x=>simp[dput]at hs;simp[Hm.writes,hs]
  ·exact h.elim
 |gP f n caps=>exact put _ h
 |extract x i=>
  simp only[Ba,Ax]at h;split at h
  ·split at h
   ·exact put _ h
   ·exact h.elim
  ·exact h.elim
 |nil x=>
  simp only[Ba,Ax]at h;split at h<;>first|exact h.elim|exact put _ h
 |gL e sz by_ z n=>
  simp only[Ba,Ax]at h;split at h
  ·rename_i s m hv;split at h
   ·split at h
    ·subst h;exact⟨λy hy=>by simpa[Hm.writes]using hy,λb hb=>by simp at hb;subst hb;exact .inr ⟨rfl,s,rfl,rfl⟩⟩
    ·exact h.elim
   ·split at h
    ·split at h
     ·have h':=h.2.2.2;subst h';exact⟨λy hy=>by simpa[Hm.writes]using hy,λb hb=>by simp at hb;subst hb;exact .inr ⟨rfl,s,rfl,rfl⟩⟩
     ·exact h.elim
    ·exact h.elim
  ·exact h.elim
 |gI e sz by_ n=>
  simp only[Ba,Ax]at h;split at h
  ·split at h
   ·have h':=h.2.2.2;subst h';exact⟨λy hy=>by simpa[Hm.writes]using hy,λb hb=>by simp at hb⟩
   ·exact h.elim
  ·exact h.elim
 |gY sz x lo hi mx=>
  simp only[Ba,Ax]at h;split at h
  ·split at h
   ·split at h
    ·split at h
     ·exact put _ h.2.2.2.2
     ·exact h.elim
    ·exact h.elim
   ·exact h.elim
  ·exact h.elim
 |gM x lo hi=>
  simp only[Ba,Ax]at h;split at h
  ·split at h
   ·split at h
    ·exact put _ h.2.2.2
    ·exact h.elim
   ·exact h.elim
  ·exact h.elim
 |gB gk gv ks vs=>
  simp only[Ba,Ax]at h;cases d with
  |none=>exact h.elim
  |some s=>
   simp only at h;split at h
   ·subst h;exact⟨λy hy=>by simpa[Hm.writes]using hy,λb hb=>by simp at hb;subst hb;exact .inr ⟨rfl,s,rfl,rfl⟩⟩
   ·exact h.elim
 |lookup gq ts ok g z m q=>
  simp only[Ba,Ax]at h;split at h
  ·split at h
   ·split at h
    ·rename_i r _ _ _;cases r<;>exact put _ h
    ·exact h.elim
   ·exact h.elim
  ·exact h.elim
 |fO gq ts m q v=>
  have fin:∀(b:Nat) (l:List PV),(⟨[],[(b,l)]⟩:Co)= δ->(∀s∈δ.s.map Prod.fst,s∈Hm.writes ⟨d,none,.fO gq ts m q v⟩)/\(∀b∈δ.o.map Prod.fst,Bjj (.fO gq ts m q v) d st b):=by
   intro b l e;subst e;exact⟨λy hy=>by simp at hy,λb' hb=>.inl ⟨rfl,λa ha=>by cases ha⟩⟩
  simp only[Ba,Ax]at h;split at h
  ·split at h
   ·split at h
    ·rename_i r c _ _ _;cases r with
     |none=>
      simp only[fk]at h;split at h
      ·exact fin _ _ h
      ·exact h.elim
     |some i=>
      simp only[fk]at h;split at h
      ·exact fin _ _ h
      ·exact h.elim
    ·exact h.elim
   ·exact h.elim
  ·exact h.elim
 |del gq ts m q=>
  simp only[Ba,Ax]at h;split at h
  ·split at h
   ·split at h
    ·rename_i r _ _;cases r with
     |none=>
      simp only[fk]at h;subst h;exact⟨λy hy=>by simp at hy,λb' hb=>by simp at hb⟩
     |some i=>
      simp only[fk]at h;split at h
      ·subst h;exact⟨λy hy=>by simp at hy,λb' hb=>.inl ⟨rfl,λa ha=>by cases ha⟩⟩
      ·exact h.elim
    ·exact h.elim
   ·exact h.elim
  ·exact h.elim
 |gG f args=>
  simp only[Ba,Ax]at h;split at h
  ·obtain⟨hc,r,o',h1,h2⟩:=h;unfold Bd1 at h2;split at h2
   ·exact put _ h2
   ·exact h2.elim
  ·exact h.elim
 |ext sub x y c=>
  simp only[Ba,Ax]at h;split at h
  ·exact put _ h.2
  ·exact h.elim
 |gU off sz g x=>
  simp only[Ba,Ax]at h;split at h
  ·split at h
   ·exact put _ h
   ·exact h.elim
  ·exact h.elim
 |stop=>exact h.elim
end
end Go.Proofs.YthjhkpgonleelaaGreatDoor.Ev
namespace Go.Proofs.YthjhkpgonleelaaGreatDoor.Ev
open Go Go.RowKit
structure Ql (s t:St):Prop where
 base:s.base=t.base
 get:∀x,s.get x=t.get x
 obj:∀d,s.obj d=t.obj d
 key:∀d,Ay d (s.ob.map Prod.fst)=Ay d (t.ob.map Prod.fst)
theorem Ql.refl(s:St):Ql s s:=⟨rfl,λ_=>rfl,λ_=>rfl,λ_=>rfl⟩
theorem Ql.symm{s t:St}(h:Ql s t):Ql t s:=⟨h.base.symm,λx=>(h.get x).symm,λd=>(h.obj d).symm,λd=>(h.key d).symm⟩
theorem Ql.trans{s t u:St}(h:Ql s t)(h':Ql t u):Ql s u:=⟨h.base.trans h'.base,λx=>(h.get x).trans (h'.get x),λd=>(h.obj d).trans (h'.obj d),λd=>(h.key d).trans (h'.key d)⟩
theorem Xc(st:St)(δ :Co)(s:Nat):(st.app δ).get s=if s∈δ.s.map Prod.fst then Dn .any δ.s s else st.get s:=U1 _ _ _ _
theorem Zt(st:St)(δ :Co)(s:Nat):(st.app δ).obj s=if s∈δ.o.map Prod.fst then Dn [] δ.o s else st.obj s:=(A4n _ _ _).trans (U1 _ _ _ _)
theorem Vc(st:St)(δ :Co)(s:Nat):Ay s ((st.app δ).ob.map Prod.fst)=(Ay s (δ.o.map Prod.fst) && Ay s (st.ob.map Prod.fst)):=by
 rw[<-Y9,<-List.map_append];exact A93 _ _ _
theorem Ql.app{s t:St}(h:Ql s t)(δ :Co):Ql (s.app δ) (t.app δ):=
 ⟨h.base,λx=>by rw[Xc,Xc,h.get],λx=>by rw[Zt,Zt,h.obj],λx=>by rw[Vc,Vc,h.key]⟩
section
variable {ι :Type} {cx: ι->PV×Value} {P:Program} {C:Bc} {X:Inl} {ban:List Nat} {w0:Gs} {w:World} {N M:T7} {β :Sk} {nt:Nat} {st:St} {a:Act}
theorem SR.equiv{st':St}(h:SR cx w0 N nt st a w M β)(he:Ql st st'):SR cx w0 N nt st' a w M β :=by
 have e1:st'.obj=st.obj:=funext λd=>(he.obj d).symm;have e2:(λd=>Ay d (st'.ob.map Prod.fst))=λd=>Ay d (st.ob.map Prod.fst):=funext λd=>(he.key d).symm;have e3:hold cx st' a=hold cx st a:=funext λk=>by
  cases k with
  |inl s=>simp only[hold];rw[he.get]
  |inr i=>rfl
 refine⟨h.defs,h.nt,?_⟩;rw[e1,e2,e3];exact h.sh
theorem Ql.aT{s t:St}(h:Ql s t)(x:Operand):t.aT x=s.aT x:=by
 cases x with
 |tmp n=>exact(h.get n).symm
 |_=>rfl
theorem Ql.agree{s t:St}(h:Ql s t)(o:K)(d:Option Nat)(hsel:∀o',o=.eY o'->∀cs b,o'.op≠ .select cs b):Bli ban o d s t:=
 ⟨λx _=>h.aT x,λ_ _ b _ _=>(h.obj b).symm,λ_ b _ _=>by unfold St.vobj;rw[h.obj b],λ_ s _ hs=>by rw[<-h.key];exact hs,hsel,h.base.symm,λ_=>⟨λb=>(h.obj b).symm,λb=>(h.key b).symm⟩⟩
def Wo(P:Program)(ban:List Nat)(eo:Hm)(st:St)(δ :Co):Prop:=match eo.g with
 |none=>Ba P (H0 P) (Hr P) ban eo.k eo.dst st (λδ'=> δ'= δ)
 |some (s,want)=>(∃t,st.get s=.val (.bool t)/\(t=want->Ba P (H0 P) (Hr P) ban eo.k eo.dst st (λδ'=> δ'= δ))/\(t≠want->δ =dput eo.dst (.bY [])))\/(st.get s=.bY []/\δ =dput eo.dst (.bY []))
inductive Run (P:Program) (ban:List Nat):List Hm->St->List Co->St->Prop
 |nil (st:St):Run P ban [] st [] st
 |cons (eo:Hm) (l:List Hm) (st st':St) (δ :Co) (δs:List Co) (h:Wo P ban eo st δ) (hr:Run P ban l (st.app δ) δs st'):Run P ban (eo::l) st (δ :: δs) st'
theorem Bny{st:St}{s:Nat}{p:PV}(h:st.get s=p):Ql (st.put s p) st:=
 ⟨rfl,λx=>by
  have:(st.put s p).get x=if s=x then p else st.get x:=Dc _ _ _ _ _
  rw[this];by_cases e:s=x
  ·subst e;rw[if_pos rfl,h]
  ·rw[if_neg e],λ_=>rfl,λ_=>rfl⟩
theorem A7u(hC:Dl P C)(hX:Qk P X):∀(l:List Hm) (st st0:St) (k:St->Prop),(∀eo∈l,∀o',eo.k=.eY o'->∀cs b,o'.op≠ .select cs b)->Ql st st0->So P C X ban l st k->
  ∃δs st1 st',Run P ban l st0 δs st1/\Ql st' st1/\k st':=by
 intro l
 induction l with
 |nil=>intro st st0 k _ he h;exact⟨[],st0,st,.nil _,he,h⟩
 |cons eo l ih=>
  intro st st0 k hsel he h;have hsel1:=hsel eo (by simp);have hsel2:∀eo∈l,∀o',eo.k=.eY o'->∀cs b,o'.op≠ .select cs b:=λe hm=>hsel e (List.mem_cons_of_mem _ hm);have run1:∀(su:St),Ql su st0->Ba P C X ban eo.k eo.dst su (λδ =>So P C X ban l (su.app δ) k)->
    ∃δ,Ba P (H0 P) (Hr P) ban eo.k eo.dst st0 (λδ'=> δ'= δ)/\∃δs st1 st',Run P ban l (st0.app δ) δs st1/\Ql st' st1/\k st':=by
   intro su hu hs;obtain⟨δ,h1,h2⟩:=Asa hC hX _ _ _ _ hs;exact⟨δ,Aoy (hu.agree _ _ hsel1) (h2 (λδ'=> δ'= δ) rfl),ih _ _ _ hsel2 (hu.app δ) h1⟩
  simp only[So]at h;cases hg:eo.g with
  |none=>
   rw[hg]at h;obtain⟨δ,h1,δs,st1,st',h2,h3,h4⟩:=run1 st he h;exact⟨δ :: δs,st1,st',.cons eo l st0 st1 δ δs (by unfold Wo;rw[hg];exact h1) h2,h3,h4⟩
  |some sw=>
   obtain⟨s,want⟩:=sw;rw[hg]at h;simp only at h;cases hq:st.get s with
   |val v=>
    rw[hq]at h;cases v with
    |bool t=>
     have hq0:st0.get s=.val (.bool t):=by rw[<-he.get,hq]
     have hu:Ql (st.put s (.val (.bool t))) st0:=(Bny hq).trans he;have skip:So P C X ban l ((st.put s (.val (.bool t))).app (dput eo.dst (.bY []))) k->t≠want->
       ∃δs st1 st',Run P ban (eo::l) st0 δs st1/\Ql st' st1/\k st':=by
      intro hs hne;obtain⟨δs,st1,st',h2,h3,h4⟩:=ih _ (st0.app (dput eo.dst (.bY []))) _ hsel2 (hu.app _) hs;exact⟨_:: δs,st1,st',.cons eo l st0 st1 _ δs (by unfold Wo;rw[hg];exact .inl ⟨t,hq0,λe=>absurd e hne,λ_=>rfl⟩) h2,h3,h4⟩
     have take:Ba P C X ban eo.k eo.dst (st.put s (.val (.bool t))) (λδ =>So P C X ban l ((st.put s (.val (.bool t))).app δ) k)->t=want->
       ∃δs st1 st',Run P ban (eo::l) st0 δs st1/\Ql st' st1/\k st':=by
      intro hs heq;obtain⟨δ,h1,δs,st1,st',h2,h3,h4⟩:=run1 _ hu hs;exact⟨δ :: δs,st1,st',.cons eo l st0 st1 δ δs (by unfold Wo;rw[hg];exact .inl ⟨t,hq0,λ_=>h1,λe=>absurd heq e⟩) h2,h3,h4⟩
     cases t<;>cases want<;>simp only[br]at h<;>first|exact take h rfl|exact skip h (by decide)
    |_=>exact h.elim
   |bY l0=>
    rw[hq]at h;cases l0 with
    |nil=>
     have hq0:st0.get s=.bY []:=by rw[<-he.get,hq]
     obtain⟨δs,st1,st',h2,h3,h4⟩:=ih _ (st0.app (dput eo.dst (.bY []))) _ hsel2 (he.app _) h;exact⟨_:: δs,st1,st',.cons eo l st0 st1 _ δs (by unfold Wo;rw[hg];exact .inr ⟨hq0,rfl⟩) h2,h3,h4⟩
    |cons _ _=>exact h.elim
   |_=>rw[hq]at h;exact h.elim
def Si:List Co->(Nat->Bool)->St->St
 | [],_,st=>st
 | δ ::r,m,st=>Si r (λi=>m (i+1)) (if m 0 then st.app δ else st)
theorem Bk5:∀(δs:List Co) (m m':Nat->Bool) (st:St),(∀i,i<δs.length->m i=m' i)->Si δs m st=Si δs m' st:=by
 intro δs
 induction δs with
 |nil=>intro m m' st _;rfl
 |cons δ r ih=>
  intro m m' st h;simp only[Si];rw[h 0 (by simp)];exact ih _ _ _ (λi hi=>h (i+1) (by simp;omega))
theorem Aru:∀(δs:List Co) (m:Nat->Bool) (st:St),(∀i,i<δs.length->m i=false)->Si δs m st=st:=by
 intro δs
 induction δs with
 |nil=>intro m st _;rfl
 |cons δ r ih=>
  intro m st h;simp only[Si];rw[h 0 (by simp)];exact ih _ _ (λi hi=>h (i+1) (by simp;omega))
theorem Run.length{l:List Hm}{st st':St}{δs:List Co}(h:Run P ban l st δs st'): δs.length=l.length:=by
 induction h with
 |nil=>rfl
 |cons eo l st st' δ δs _ _ ih=>simp[ih]
theorem Run.at{l:List Hm}{st st':St}{δs:List Co}(h:Run P ban l st δs st'):∀(i:Nat) (eo:Hm) (δ :Co),l[i]? =some eo->δs[i]? =some δ->Wo P ban eo (Si δs (λj=>decide (j<i)) st) δ :=by
 induction h with
 |nil=>intro i eo δ h;simp at h
 |cons eo l st st' δ δs h1 _ ih=>
  intro i e d he hd;cases i with
  |zero=>
   simp at he hd;subst he;subst hd
   have:Si (δ :: δs) (λj=>decide (j<0)) st=st:=Aru _ _ _ (λi _=>by simp);rw[this];exact h1
  |succ i=>
   have:=ih i e d (by simpa using he) (by simpa using hd);simp only[Si];simpa using this
theorem Run.last{l:List Hm}{st st':St}{δs:List Co}(h:Run P ban l st δs st'):st'=Si δs (λ_=>true) st:=by
 induction h with
 |nil=>rfl
 |cons eo l st st' δ δs _ _ ih=>simp only[Si];exact ih
theorem Bbf:∀(δs:List Co) (m m':Nat->Bool) (st st':St) (s:Nat),st.get s=st'.get s->(∀(i:Nat) (δ :Co),δs[i]? =some δ->s∈δ.s.map Prod.fst->m i=m' i)->
  (Si δs m st).get s=(Si δs m' st').get s:=by
 intro δs
 induction δs with
 |nil=>intro m m' st st' s h _;exact h
 |cons δ r ih=>
  intro m m' st st' s h hm;simp only[Si];refine ih _ _ _ _ s ?_ (λi δ' hi hs=>hm (i+1) δ' (by simpa using hi) hs);by_cases hs:s∈δ.s.map Prod.fst
  ·rw[hm 0 δ rfl hs];cases m' 0
   ·exact h
   ·simp only[if_true];rw[Xc,Xc,if_pos hs,if_pos hs]
  ·have e1:∀(b:Bool) (st:St),(if b then st.app δ else st).get s=st.get s:=λb st=>by
    cases b
    ·rfl
    ·simp only[if_true];rw[Xc,if_neg hs]
   rw[e1,e1];exact h
theorem Awq:∀(δs:List Co) (m m':Nat->Bool) (st st':St) (s:Nat),st.obj s=st'.obj s->(∀(i:Nat) (δ :Co),δs[i]? =some δ->s∈δ.o.map Prod.fst->m i=m' i)->
  (Si δs m st).obj s=(Si δs m' st').obj s:=by
 intro δs
 induction δs with
 |nil=>intro m m' st st' s h _;exact h
 |cons δ r ih=>
  intro m m' st st' s h hm;simp only[Si];refine ih _ _ _ _ s ?_ (λi δ' hi hs=>hm (i+1) δ' (by simpa using hi) hs);by_cases hs:s∈δ.o.map Prod.fst
  ·rw[hm 0 δ rfl hs];cases m' 0
   ·exact h
   ·simp only[if_true];rw[Zt,Zt,if_pos hs,if_pos hs]
  ·have e1:∀(b:Bool) (st:St),(if b then st.app δ else st).obj s=st.obj s:=λb st=>by
    cases b
    ·rfl
    ·simp only[if_true];rw[Zt,if_neg hs]
   rw[e1,e1];exact h
theorem Bjc:∀(δs:List Co) (m m':Nat->Bool) (st st':St) (s:Nat),Ay s (st.ob.map Prod.fst)=Ay s (st'.ob.map Prod.fst)->(∀(i:Nat) (δ :Co),δs[i]? =some δ->s∈δ.o.map Prod.fst->m i=m' i)->
  Ay s ((Si δs m st).ob.map Prod.fst)=Ay s ((Si δs m' st').ob.map Prod.fst):=by
 intro δs
 induction δs with
 |nil=>intro m m' st st' s h _;exact h
 |cons δ r ih=>
  intro m m' st st' s h hm;simp only[Si];refine ih _ _ _ _ s ?_ (λi δ' hi hs=>hm (i+1) δ' (by simpa using hi) hs);by_cases hs:s∈δ.o.map Prod.fst
  ·rw[hm 0 δ rfl hs];cases m' 0
   ·exact h
   ·simp only[if_true];rw[Vc,Vc,h]
  ·have e0:Ay s (δ.o.map Prod.fst)=true:=(Bw _ _).2 hs;have e1:∀(b:Bool) (st:St),Ay s ((if b then st.app δ else st).ob.map Prod.fst)=Ay s (st.ob.map Prod.fst):=λb st=>by
    cases b
    ·rfl
    ·simp only[if_true];rw[Vc,e0,Bool.true_and]
   rw[e1,e1];exact h
theorem Bog:∀(δs:List Co) (m:Nat->Bool) (st:St) (k:Nat) (δ :Co) (a:Nat),δs[k]? =some δ->m k=true->a∈δ.s.map Prod.fst->
  (∀(j:Nat) (δ':Co),j≠k->δs[j]? =some δ'->a∉δ'.s.map Prod.fst)->(Si δs m st).get a=Dn .any δ.s a:=by
 intro δs
 induction δs with
 |nil=>intro m st k δ a h;simp at h
 |cons δ0 r ih=>
  intro m st k δ a h hm ha hn;simp only[Si];cases k with
  |zero=>
   simp at h;subst h;rw[hm];simp only[if_true];rw[Bbf r _ (λ_=>false) (st.app δ0) (st.app δ0) a rfl (λi δ' hi hs=>absurd hs (hn (i+1) δ' (by omega) (by simpa using hi))),Aru _ _ _ (λ_ _=>rfl),Xc,if_pos ha]
  |succ k=>exact ih _ _ k δ a (by simpa using h) hm ha (λj δ' hj hδ =>hn (j+1) δ' (by omega) (by simpa using hδ))
theorem Bey:∀(δs:List Co) (m:Nat->Bool) (st:St) (b:Nat),
  ((∀(k:Nat) (δ :Co),m k=true->δs[k]? =some δ->b∉δ.o.map Prod.fst)/\(Si δs m st).obj b=st.obj b)\/
  ∃k δ,m k=true/\δs[k]? =some δ/\b∈δ.o.map Prod.fst/\(∀(j:Nat) (δ':Co),k<j->m j=true->δs[j]? =some δ'->b∉δ'.o.map Prod.fst)/\(Si δs m st).obj b=Dn [] δ.o b:=by
 intro δs
 induction δs with
 |nil=>intro m st b;exact .inl ⟨λk δ _ h=>by simp at h,rfl⟩
 |cons δ0 r ih=>
  intro m st b;simp only[Si];rcases ih (λi=>m (i+1)) (if m 0 then st.app δ0 else st) b with⟨h1,h2⟩|⟨k,δ,h1,h2,h3,h4,h5⟩
  ·by_cases hb:m 0=true/\b∈δ0.o.map Prod.fst
   ·refine .inr ⟨0,δ0,hb.1,rfl,hb.2,λj δ' hj hm hδ =>?_,?_⟩
    ·cases j with
     |zero=>omega
     |succ j=>exact h1 j δ' hm (by simpa using hδ)
    ·rw[h2,hb.1];simp only[if_true];rw[Zt,if_pos hb.2]
   ·refine .inl ⟨λk δ hm hδ =>?_,?_⟩
    ·cases k with
     |zero=>simp at hδ;subst hδ;exact λh=>hb ⟨hm,h⟩
     |succ k=>exact h1 k δ hm (by simpa using hδ)
    ·rw[h2];cases hm:m 0 with
     |false=>rfl
     |true=>
      simp only[if_true];rw[Zt,if_neg (λh=>hb ⟨hm,h⟩)]
  ·refine .inr ⟨k+1,δ,h1,by simpa using h2,h3,λj δ' hj hm hδ =>?_,h5⟩;cases j with
   |zero=>omega
   |succ j=>exact h4 j δ' (by omega) hm (by simpa using hδ)
theorem A8n{δs:List Co}{st:St}{b:Nat}(T:Nat->Bool)(hT:∀(k:Nat) (δ :Co),T k=true->δs[k]? =some δ->b∈δ.o.map Prod.fst->(Dn [] δ.o b).map PV.view=(Si δs (λj=>decide (j<k)) st).vobj b):
  ∀(n:Nat) (m:Nat->Bool),(∀k,m k=true->(δs[k]?).isSome=true->k<n)->
   (∀(k j:Nat) (δ δ':Co),T k=true->m k=true->δs[k]? =some δ->b∈δ.o.map Prod.fst->T j=false->δs[j]? =some δ'->b∈δ'.o.map Prod.fst->j<k->m j=true)->
   (Si δs m st).vobj b=(Si δs (λj=>m j && !T j) st).vobj b:=by
 intro n
 induction n using Nat.strongRecOn with
 |ind n ih=>
  intro m hn hc;rcases Bey δs m st b with⟨h1,h2⟩|⟨k,δ,h1,h2,h3,h4,h5⟩
  ·unfold St.vobj;rw[Awq δs (λj=>m j && !T j) (λ_=>false) st st b rfl (λi δ hi hb=>?_),Aru _ _ _ (λ_ _=>rfl),h2];cases hm:m i with
   |false=>rfl
   |true=>exact absurd hb (h1 i δ hm hi)
  ·cases hk:T k with
   |false=>
    rcases Bey δs (λj=>m j && !T j) st b with⟨g1,g2⟩|⟨k',δ',g1,g2,g3,g4,g5⟩
    ·exact absurd h3 (g1 k δ (by simp[h1,hk]) h2)
    ·have e:k'=k:=by
      rcases Nat.lt_trichotomy k k' with h|h|h
      ·simp only[Bool.and_eq_true]at g1;exact absurd g3 (h4 k' δ' h g1.1 g2)
      ·exact h.symm
      ·exact absurd h3 (g4 k δ h (by simp[h1,hk]) h2)
     subst e;rw[h2]at g2;injection g2 with g2
     subst g2;unfold St.vobj;rw[h5,g5]
   |true=>
    have hkn:=hn k h1 (by rw[h2];rfl);have hsub:∀(j:Nat) (δ':Co),T j=false->δs[j]? =some δ'->b∈δ'.o.map Prod.fst->(decide (j<k))=m j:=by
     intro j δ' hj hδ hb;by_cases hlt:j<k
     ·rw[hc k j δ δ' hk h1 h2 h3 hj hδ hb hlt];simp[hlt]
     ·cases hm:m j with
      |false=>simp[hlt]
      |true=>
       have hne:j≠k:=by rintro rfl;rw[hk]at hj;cases hj
       exact absurd hb (h4 j δ' (by omega) hm hδ)
    have e1:=ih k hkn (λj=>decide (j<k)) (λj hj _=>by simpa using hj) (λk' j _ _ _ hk' _ _ _ _ _ hj=>by
     have:=of_decide_eq_true hk';exact decide_eq_true (by omega))
    have e2:(Si δs m st).vobj b=(Si δs (λj=>decide (j<k)) st).vobj b:=by
     rw[<-hT k δ hk h2 h3];unfold St.vobj;rw[h5]
    rw[e2,e1];unfold St.vobj;rw[Awq δs _ (λj=>m j && !T j) st st b rfl (λi δ' hi hb=>?_)];cases hti:T i with
    |true=>simp
    |false=>simp only[Bool.not_false,Bool.and_true];exact hsub i δ' hti hi hb
theorem Bk1(l:List PV):∀(off:Nat),(Li l off [(T5 l off).view]).map PV.view=l.map PV.view:=by
 have vv:∀p:PV,p.view.view=p.view:=λp=>by cases p<;>rfl
 induction l with
 |nil=>intro off;rfl
 |cons p l ih=>
  intro off;cases off with
  |zero=>
   have:Li (p::l) 0 [(T5 (p::l) 0).view]=p.view::l:=by cases l<;>rfl
   rw[this];simp[vv]
  |succ n=>
   have:Li (p::l) (n+1) [(T5 (p::l) (n+1)).view]=p::Li l n [(T5 l n).view]:=rfl;rw[this];simp[ih n]
theorem Bgn{eo:Hm}{st:St}{δ :Co}(h:Wo P ban eo st δ)(hk:eo.k.fD=true):∀b∈δ.o.map Prod.fst,(Dn [] δ.o b).map PV.view=st.vobj b:=by
 obtain⟨d,g,k⟩:=eo;cases k with
 |loadT x=>
  have main:Ba P (H0 P) (Hr P) ban (.loadT x) d st (λδ'=> δ'= δ)->∀b∈δ.o.map Prod.fst,(Dn [] δ.o b).map PV.view=st.vobj b:=by
   intro h b hb;simp only[Ba,Ax]at h;split at h
   ·rename_i b' off d' hq;split at h
    ·subst h;simp at hb;subst hb;simp only[Dn,Nat.beq_refl];exact Bk1 _ _
    ·exact h.elim
   ·exact h.elim
  have skip: δ =dput d (.bY [])->∀b∈δ.o.map Prod.fst,(Dn [] δ.o b).map PV.view=st.vobj b:=by
   intro e b hb;subst e;cases d<;>simp[dput]at hb
  unfold Wo at h;cases g with
  |none=>exact main h
  |some sw=>
   obtain⟨s,want⟩:=sw;rcases h with⟨t,_,h1,h2⟩|⟨_,h2⟩
   ·by_cases e:t=want
    ·exact main (h1 e)
    ·exact skip (h2 e)
   ·exact skip h2
 |_=>cases hk
theorem Bnt{eo:Hm}{st:St}{δ :Co}{a:Nat}(h:Wo P ban eo st δ)(hk:eo.mkAt a=true):a∈δ.s.map Prod.fst/\Dn .any δ.s a=.loc (st.base+a) 0:=by
 obtain⟨d,g,k⟩:=eo;unfold Hm.mkAt at hk;cases k with
 |alloc z=>
  cases g with
  |some _=>cases hk
  |none=>
   cases d with
   |none=>cases hk
   |some d=>
    have e:=Cn hk;subst e;simp only[Wo,Ba,Ax]at h;split at h
    ·subst h;exact⟨by simp,by simp[Dn]⟩
    ·exact h.elim
 |box x=>
  cases g with
  |some _=>cases hk
  |none=>
   cases d with
   |none=>cases hk
   |some d=>
    have e:=Cn hk;subst e;simp only[Wo,Ba,Ax]at h;split at h
    ·subst h;exact⟨by simp,by simp[Dn]⟩
    ·exact h.elim
 |_=>cases hk
def Bp0(x y:Co):Prop:=(∀s,s∈x.s.map Prod.fst->s∉y.s.map Prod.fst)/\(∀s,s∈x.o.map Prod.fst->s∉y.o.map Prod.fst)
theorem Blt(st:St)(x y:Co)(h:Bp0 x y):Ql ((st.app x).app y) ((st.app y).app x):=by
 refine⟨rfl,λs=>?_,λs=>?_,λs=>?_⟩
 ·rw[Xc,Xc,Xc,Xc];by_cases h1:s∈x.s.map Prod.fst
  ·rw[if_neg (h.1 s h1),if_pos h1,if_pos h1]
  ·rw[if_neg h1,if_neg h1]
 ·rw[Zt,Zt,Zt,Zt];by_cases h1:s∈x.o.map Prod.fst
  ·rw[if_neg (h.2 s h1),if_pos h1,if_pos h1]
  ·rw[if_neg h1,if_neg h1]
 ·rw[Vc,Vc,Vc,Vc];cases Ay s (y.o.map Prod.fst)<;>cases Ay s (x.o.map Prod.fst)<;>simp
theorem B39:∀(δs:List Co) (m:Nat->Bool) (st st':St),Ql st st'->Ql (Si δs m st) (Si δs m st'):=by
 intro δs
 induction δs with
 |nil=>intro m st st' h;exact h
 |cons δ r ih=>
  intro m st st' h;simp only[Si];refine ih _ _ _ ?_;cases m 0
  ·exact h
  ·exact h.app δ
theorem Bwn:∀(δs:List Co) (m:Nat->Bool) (st:St) (δ :Co),(∀(i:Nat) (δ':Co),m i=true->δs[i]? =some δ'->Bp0 δ δ')->Ql (Si δs m (st.app δ)) ((Si δs m st).app δ):=by
 intro δs
 induction δs with
 |nil=>intro m st δ _;exact .refl _
 |cons δ' r ih=>
  intro m st δ h;simp only[Si];have hr:∀(i:Nat) (d:Co),m (i+1)=true->r[i]? =some d->Bp0 δ d:=λi d hi hd=>h (i+1) d hi (by simpa using hd);cases hm:m 0 with
  |false=>exact ih _ _ _ hr
  |true=>
   simp only[if_true];exact(B39 r _ _ _ (Blt st δ δ' (h 0 δ' hm rfl))).trans (ih _ _ _ hr)
theorem Boh:∀(δs:List Co) (m:Nat->Bool) (i:Nat) (st:St) (δ :Co),δs[i]? =some δ->m i=false->(∀(j:Nat) (δ':Co),i<j->m j=true->δs[j]? =some δ'->Bp0 δ δ')->
  Ql (Si δs (λj=>if j=i then true else m j) st) ((Si δs m st).app δ):=by
 intro δs
 induction δs with
 |nil=>intro m i st δ h;simp at h
 |cons δ0 r ih=>
  intro m i st δ h hm hd;cases i with
  |zero=>
   simp at h;subst h;simp only[Si,hm,if_true];have:(λj=>if j+1=0 then true else m (j+1))=λj=>m (j+1):=funext λj=>by simp
   rw[this];exact Bwn r _ st δ0 (λi δ' hi hδ =>hd (i+1) δ' (by omega) hi (by simpa using hδ))
  |succ i=>
   simp only[Si];have e0:(if 0=i+1 then true else m 0)=m 0:=by simp
   have e1:(λj=>if j+1=i+1 then true else m (j+1))=λj=>if j=i then true else m (j+1):=funext λj=>by simp
   simp only[e0,e1];exact ih _ i _ δ (by simpa using h) hm (λj δ' hj hmj hδ =>hd (j+1) δ' (by omega) hmj (by simpa using hδ))
theorem A42{eo:Hm}{st:St}{δ :Co}(h:Wo P ban eo st δ):(∀s∈δ.s.map Prod.fst,s∈eo.writes)/\(∀b∈δ.o.map Prod.fst,Bjj eo.k eo.dst st b):=by
 obtain⟨d,g,k⟩:=eo;unfold Wo at h;cases g with
 |none=>exact A8p h
 |some sw=>
  obtain⟨s,want⟩:=sw;have skip: δ =dput d (.bY [])->(∀s'∈δ.s.map Prod.fst,s'∈(Hm.mk d (some (s,want)) k).writes)/\(∀b∈δ.o.map Prod.fst,Bjj k d st b):=by
   intro e;subst e;cases d with
   |none=>exact⟨λs hs=>by simp[dput]at hs,λb hb=>by simp[dput]at hb⟩
   |some x=>exact⟨λs hs=>by simp[dput]at hs;simp[Hm.writes,hs],λb hb=>by simp[dput]at hb⟩
  rcases h with⟨t,_,h1,h2⟩|⟨_,h2⟩
  ·by_cases e:t=want
   ·exact A8p (h1 e)
   ·exact skip (h2 e)
  ·exact skip h2
end
end Go.Proofs.YthjhkpgonleelaaGreatDoor.Ev
namespace Go.Proofs.YthjhkpgonleelaaGreatDoor.Ev
open Go Go.RowKit
section
variable {ι :Type} {cx: ι->PV×Value} {P:Program} {C:Bc} {X:Inl} {inl:Nat->Bool} {once:Nat} {ban:List Nat} {w0:Gs} {w:World} {N M:T7} {β :Sk} {nt:Nat} {st:St} {a:Act}
theorem Abn{os:Array Oper} :∀(l:List Oper) (es:List Hm),Avh P inl once os l=some es->es.length=l.length/\
  ∀(i:Nat) (o:Oper),l[i]? =some o->∃eo,es[i]? =some eo/\cOp P inl once o=eo.k/\eo.dst=o.dst/\Atp os o.guard=some eo.g:=by
 intro l
 induction l with
 |nil=>intro es h;simp[Avh]at h;subst h;exact⟨rfl,λi o h=>by simp at h⟩
 |cons o l ih=>
  intro es h;simp only[Avh]at h;cases h2:Atp os o.guard with
  |none=>rw[h2]at h;cases h
  |some g=>
   cases h3:Avh P inl once os l with
   |none=>rw[h2,h3]at h;cases h
   |some es'=>
    rw[h2,h3]at h;injection h with h
    subst h;obtain⟨e1,e2⟩:=ih es' h3;refine⟨by simp[e1],λi o' hi=>?_⟩;cases i with
    |zero=>simp at hi;subst hi;exact⟨_,rfl,rfl,rfl,h2⟩
    |succ i=>exact e2 i o' (by simpa using hi)
theorem A9f{o:Oper}{k:K}(h:cOp P inl once o=k):∀o',k=.eY o'->∀cs b,o'.op≠ .select cs b:=by
 intro o' hk cs b hb;subst hk;have nk:∀x ty k,Bkf P x ty k=.eY o'->k=.eY o':=by
  intro x ty k h;unfold Bkf at h;split at h
  ·cases h
  ·exact h
 have key:o'=o:=by
  obtain⟨dst,op,type,pos,after,guard⟩:=o;unfold cOp at h;split at h
  ·have:=nk _ _ _ h;unfold A76 at this;split at this
   ·split at this<;>cases this
   ·cases this
  ·have:=nk _ _ _ h;unfold A8v at this;split at this<;>cases this
  all_goals try (unfold Bdg at h)
  all_goals try (unfold Bhc at h)
  all_goals (repeat' (split at h))
  all_goals first|(injection h with h;exact h.symm)|(cases h;done)|skip
 subst key;unfold cOp at h;rw[hb]at h;cases h
theorem Aq8:∀(l:List Hm),Abp nt l=true->∀eo∈l,∀x,eo.dst=some x->x<nt:=by
 intro l
 induction l with
 |nil=>intro _ eo h;cases h
 |cons e l ih=>
  intro h eo hm x hx;simp only[Abp]at h;have h2:Abp nt l=true/\(∀x,e.dst=some x->x<nt):=by
   cases hd:e.dst with
   |none=>rw[hd]at h;exact⟨h,λx hx=>by cases hx⟩
   |some d=>
    rw[hd]at h;simp only at h;cases hb:Nat.blt d nt with
    |false=>rw[hb]at h;cases h
    |true=>
     rw[hb]at h;exact⟨h,λx hx=>by injection hx with hx;subst hx;exact Nat.le_of_ble_eq_true hb⟩
  rcases List.mem_cons.1 hm with e1|e1
  ·subst e1;exact h2.2 x hx
  ·exact ih h2.1 eo e1 x hx
theorem A0j{os:Array Oper}{o:Oper}{eo:Hm}{δ :Co}(h:SR cx w0 N nt st a w M β)(hs:Wo P ban eo st δ)(hc:cOp P inl once o=eo.k)(hdst:eo.dst=o.dst)
  (hg:Atp os o.guard=some eo.g)(hd:∀x,o.dst=some x->x<nt){K:Act->World->Prop}{Q:Exit->Act->World->Prop}
  (hK:∀a' w' M' β',SR cx w0 N nt (st.app δ) a' w' M' β'->K a' w'):
  if Region.wanted o (yielded os a.tmps)=true then o.wp P a w K Q else K (a.put o.dst undef) w:=by
 unfold Wo at hs;cases hog:o.guard with
 |none=>
  rw[hog]at hg;simp only[Atp,Option.some.injEq]at hg;rw[<-hg]at hs;have hw:Region.wanted o (yielded os a.tmps)=true:=by simp[Region.wanted,hog]
  rw[if_pos hw];rw[hdst]at hs;rw[<-hc]at hs;exact A5s h hd hs K Q hK
 |some jw=>
  obtain⟨j,want⟩:=jw;rw[hog]at hg;simp only[Atp]at hg;cases hj:(os[j]?).bind (·.dst) with
  |none=>rw[hj]at hg;cases hg
  |some s=>
   rw[hj]at hg;simp only[Option.some.injEq]at hg;rw[<-hg]at hs;simp only at hs;rcases hs with⟨t,h1,h2,h3⟩|⟨h1,h3⟩
   rotate_left
   ·have hreg:=h.reg s;rw[h1]at hreg;have hv:a.tmps.getD s undef=undef:=by
     generalize a.tmps.getD s undef=u at hreg ⊢;cases hreg with
     |row p s hs=>cases hs
     |bY l cs hl hr=>
      have:cs= []:=List.eq_nil_of_length_eq_zero (by simpa using hl.symm);subst this;rfl
    have hy:yielded os a.tmps j=none:=by
     unfold yielded;rw[hj];cases hx:a.tmps[s]? with
     |none=>simp[hx]
     |some u=>
      rw[Array.getD_eq_getD_getElem?,hx]at hv;simp at hv;subst hv;simp[hx,undef]
    have hw:¬Region.wanted o (yielded os a.tmps)=true:=by simp[Region.wanted,hog,hy]
    rw[if_neg hw];rw[hdst]at h3;subst h3;exact hK _ _ _ _ (h.dput o.dst (.bY []) undef hd (.bY [] [] rfl (λi p v hp=>by simp at hp)) (Lh rfl))
   have hreg:=h.reg s;rw[h1]at hreg;have hv:=hreg.val_eq;have hy:yielded os a.tmps j=some t:=by
    unfold yielded;rw[hj];have:a.tmps[s]? =some (.bool t):=by
     cases hx:a.tmps[s]? with
     |none=>
      rw[Array.getD_eq_getD_getElem?,hx]at hv;simp[undef]at hv
     |some u=>
      rw[Array.getD_eq_getD_getElem?,hx]at hv;simpa using hv
    simp[this]
   by_cases e:t=want
   ·have hw:Region.wanted o (yielded os a.tmps)=true:=by simp[Region.wanted,hog,hy,e]
    rw[if_pos hw];have hs':=h2 e;rw[hdst]at hs';rw[<-hc]at hs';exact A5s h hd hs' K Q hK
   ·have hw:¬Region.wanted o (yielded os a.tmps)=true:=by simp[Region.wanted,hog,hy,e]
    rw[if_neg hw];have hδ :=h3 e;rw[hdst]at hδ;subst hδ;exact hK _ _ _ _ (h.dput o.dst (.bY []) undef hd (.bY [] [] rfl (λi p v hp=>by simp at hp)) (Lh rfl))
inductive Reach (os:List Oper):Nat->Nat->Prop
 |one (j:Nat) (o:Oper) (i:Nat) (ho:os[j]? =some o) (hi:i∈Agn o):Reach os j i
 |more (j:Nat) (o:Oper) (e i:Nat) (ho:os[j]? =some o) (he:e∈Agn o) (hr:Reach os e i):Reach os j i
theorem Bdh(acc:List Nat):∀(l:List Nat) (i:Nat),Nat.testBit (A4l acc l) i=true->∃e∈l,i=e\/Nat.testBit (acc.getD e 0) i=true:=by
 intro l
 induction l with
 |nil=>intro i h;simp[A4l]at h
 |cons e l ih=>
  intro i h;simp only[A4l,Nat.testBit_or,Bool.or_eq_true]at h;rcases h with(h|h)|h
  ·refine⟨e,by simp,.inl ?_⟩;rw[Nat.one_shiftLeft,Nat.testBit_two_pow]at h;simp at h;omega
  ·exact⟨e,by simp,.inr h⟩
  ·obtain⟨e',h1,h2⟩:=ih i h;exact⟨e',List.mem_cons_of_mem _ h1,h2⟩
theorem Bjp(os:List Oper):∀(l:List Oper) (acc:List Nat),(∀k o,l[k]? =some o->os[acc.length+k]? =some o)->
  (∀j i,Nat.testBit (acc.getD j 0) i=true->Reach os j i)->∀j i,Nat.testBit ((Bqy l acc).getD j 0) i=true->Reach os j i:=by
 intro l
 induction l with
 |nil=>intro acc _ h;exact h
 |cons o l ih=>
  intro acc hl h;simp only[Bqy];refine ih _ (λk o' hk=>?_) (λj i hb=>?_)
  ·have:=hl (k+1) o' (by simpa using hk);rw[List.length_append,List.length_singleton,Nat.add_assoc,Nat.add_comm 1 k];exact this
  ·have ho:os[acc.length]? =some o:=by have:=hl 0 o rfl;simpa using this
   rcases Nat.lt_trichotomy j acc.length with h1|h1|h1
   ·rw[List.getD_eq_getElem?_getD,List.getElem?_append_left h1,<-List.getD_eq_getElem?_getD]at hb;exact h j i hb
   ·subst h1;rw[List.getD_eq_getElem?_getD,List.getElem?_append_right (Nat.le_refl _)]at hb;simp at hb;obtain⟨e,he,hor⟩:=Bdh acc _ i hb;rcases hor with rfl|hor
    ·exact .one _ o _ ho he
    ·exact .more _ o e i ho he (h e i hor)
   ·rw[List.getD_eq_getElem?_getD,List.getElem?_append_right (by omega),List.getElem?_eq_none (by simp;omega)]at hb;simp at hb
theorem An6{n:Nat}{p:Nat->Bool}(h:Ev.below n p=true):∀i,i<n->p i=true:=by
 induction n with
 |zero=>intro i hi;omega
 |succ n ih=>
  simp only[Ev.below]at h;cases hp:p n with
  |false=>rw[hp]at h;cases h
  |true=>
   rw[hp]at h;intro i hi;by_cases e:i=n
   ·subst e;exact hp
   ·exact ih h i (by omega)
theorem Bb8{p:Nat->Bool} :∀ {n:Nat},Ev.below n p=false->∃k,k<n/\p k=false:=by
 intro n
 induction n with
 |zero=>intro h;cases h
 |succ n ih=>
  intro h;simp only[Ev.below]at h;cases hp:p n with
  |false=>exact⟨n,by omega,hp⟩
  |true=>
   rw[hp]at h;obtain⟨k,h1,h2⟩:=ih h;exact⟨k,by omega,h2⟩
theorem A0w(j:Nat):∀(l:List Nat),Aob j l=true->∀e∈l,e<j:=by
 intro l
 induction l with
 |nil=>intro _ e h;cases h
 |cons x l ih=>
  intro h e he;simp only[Aob]at h;cases hb:Nat.blt x j with
  |false=>rw[hb]at h;cases h
  |true=>
   rw[hb]at h;rcases List.mem_cons.1 he with e1|e1
   ·subst e1;exact Nat.le_of_ble_eq_true hb
   ·exact ih h e e1
theorem Bdj{o:Oper}{e:Edge}(he:e∈o.after)(hb:Region.binds .any e=true):e.on∈Agn o:=
 List.mem_map.2 ⟨e,List.mem_filter.2 ⟨by simpa using he,hb⟩,rfl⟩
theorem Bck{o:Oper}{i:Nat}(h:i∈Agn o):∃e∈o.after,Region.binds .any e=true/\e.on=i:=by
 obtain⟨e,he,rfl⟩:=List.mem_map.1 h;obtain⟨h1,h2⟩:=List.mem_filter.1 he;exact⟨e,by simpa using h1,h2,rfl⟩
theorem Ayk(x y:List Nat):Arh x y=true↔∃s,s∈x/\s∈y:=by
 simp only[Arh,List.any_eq_true];constructor
 ·rintro ⟨s,h1,t,h2,h3⟩
  have:=Cn h3;subst this;exact⟨s,h1,h2⟩
 ·rintro ⟨s,h1,h2⟩
  exact⟨s,h1,s,h2,Nat.beq_refl s⟩
theorem Uu{ap:List (Nat×Nat)}{fx fy:Bool}{x y:Hm}(h:Y8 ap fx x fy y=false):(∀s,s∈x.writes->s∉y.reads)/\(∀s,s∈x.writes->s∉y.writes)/\(∀s,s∈x.reads->s∉y.writes)/\
  (x.k.dJ=true->y.k.fG=true->Zx ap x y=true\/A3j fx x.k fy y.k=true)/\(x.k.fG=true->y.k.dJ=true->Zx ap x y=true\/A3j fx x.k fy y.k=true):=by
 simp only[Y8,Bool.or_eq_false_iff]at h;obtain⟨⟨⟨h1,h2⟩,h3⟩,h4⟩:=h;have no:∀a b,Arh a b=false->∀s,s∈a->s∉b:=λa b hm s ha hb=>by
  rw[(Ayk a b).2 ⟨s,ha,hb⟩]at hm;cases hm
 refine⟨no _ _ h1,no _ _ h2,no _ _ h3,λg1 g2=>?_,λg1 g2=>?_⟩
 ·rw[g1,g2]at h4;cases hf:Zx ap x y with
  |true=>exact .inl rfl
  |false=>rw[hf]at h4;simp at h4;exact .inr h4
 ·rw[g1,g2]at h4;cases hf:Zx ap x y with
  |true=>exact .inl rfl
  |false=>rw[hf]at h4;simp at h4;exact .inr h4
theorem Bj0{fx fy:Bool}{x y:K}(h:A3j fx x fy y=true):x.isLoad=true\/y.isLoad=true:=by
 simp only[A3j,Bool.or_eq_true,Bool.and_eq_true]at h;rcases h with h|h
 ·exact .inr h.2
 ·exact .inl h.1
theorem Bj1(fx fy:Bool)(x y:K):A3j fx x fy y=A3j fy y fx x:=by
 unfold A3j;cases x.fD<;>cases y.fD<;>cases x.isLoad<;>cases y.isLoad<;>cases fx<;>cases fy<;>rfl
theorem Ji{k:K}(h:k.dJ=true):k.isLoad=false:=by cases k<;>first|rfl|cases h
theorem j7{k:K}(h:k.makes=true):k.isLoad=false:=by cases k<;>first|rfl|cases h
theorem Be8{k:K}(h:k.gQ=true):k.isLoad=false:=by cases k<;>first|rfl|cases h
theorem Aeo{ap:List (Nat×Nat)}{fx fy:Bool}{x y:Hm}(h:Zx ap x y=true\/A3j fx x.k fy y.k=true)(h1:x.k.isLoad=false)(h2:y.k.isLoad=false):Zx ap x y=true:=by
 rcases h with h|h
 ·exact h
 ·rcases Bj0 h with h|h
  ·rw[h1]at h;cases h
  ·rw[h2]at h;cases h
theorem Aet{k:K}(h:k.makes=true):k.fG=true:=by cases k<;>first|rfl|cases h
theorem Arv{k:K}(h:k.dJ=true):k.fG=true:=by cases k<;>first|rfl|cases h
theorem Bkl{eo:Hm}{x:Operand}(hx:x∈eo.k.cK){t:Nat}(ht:x=.tmp t):t∈eo.reads:=by
 subst ht;have:∀(l:List Operand),.tmp t∈l->t∈Af3 l:=by
  intro l
  induction l with
  |nil=>intro h;cases h
  |cons y l ih=>
   intro h;rcases List.mem_cons.1 h with e|e
   ·subst e;simp[Af3]
   ·cases y<;>simp only[Af3]<;>first|exact List.mem_cons_of_mem _ (ih e)|exact ih e
 simp only[Hm.reads,List.mem_append];exact .inl (this _ hx)
end
end Go.Proofs.YthjhkpgonleelaaGreatDoor.Ev
