/-  Small words for the printed trees. -/
import Derived.Test.YtgacplpjamkieaaGreatHFN
import Derived.Shelf.Spec.SlicesGrow
import Derived.Shelf.RegionOpenPlain
import Derived.WalkKit
import Derived.Deep.LoopGhost
import Derived.Lib.Walk
import Derived.Lib.SliceRun
set_option linter.unusedVariables false
set_option linter.unusedSimpArgs false
set_option linter.unnecessarySimpa false
namespace Go.Proofs.YtgacplpjamkieaaGreat.Ev
open Go
def I(n:Int):PV:=.val (.int .i64 n)
def V(k:IntKind)(n:Int):PV:=.val (.int k n)
def B(b:Bool):PV:=.val (.bool b)
def S(s:ByteArray):PV:=.val (.string s)
def Cp(n:Int):Int:=IntKind.wrap .i64 n
def ob{α :Type}(x:Option α)(k: α->Prop):Prop:=match x with
 |some a=>k a
 |none=>False
def EC.l:EC->EC
 | .seq a _=>a
 | .cond _ a _=>a
 | .block _ b=>b
 | .loop _ b=>b
 |c=>c
def EC.r:EC->EC
 | .seq _ b=>b
 | .cond _ _ b=>b
 |c=>c
def EC.ops:EC->List Ek
 | .region _ _ l=>l
 | .gJ l=>l
 |_=> []
def Bii(P:Program)(C:Ba)(X:Inl)(n:Nat)(rest:List Ek)(st:St)(d:Option Nat)(k:St->Prop):PV->List (Nat×List PV)->Prop:=
 λr o'=>I2 P C X n rest (st.app ⟨(dput d r).s,o'⟩) k
def A7x:Nat->List Prop->Prop
 |_,[]=>False
 |0,A::_=>A
 |n+1,_::r=>A7x n r
def Azp{α :Type} :Nat->List (Option α)->Option α
 |_,[]=>none
 |0,A::_=>A
 |n+1,_::r=>Azp n r
def fko{α :Type}(r:Option Nat)(A:Nat->Option α)(B:Option α):Option α :=match r with
 |some i=>A i
 |none=>B
def ap(j:Bool->Prop)(b:Bool):Prop:=j b
def nj(p:Prop):Prop:=p
inductive BT where
 |lf (b:Bool)
 |cn (t:Bool) (x y:BT)
def BT.v:BT->Bool
 | .lf b=>b
 | .cn t x y=>bif t then x.v else y.v
def BT.p(j:Bool->Prop):BT->Prop
 | .lf b=>j b
 | .cn t x y=>br t (x.p j) (y.p j)
theorem BT.ok(j:Bool->Prop)(x:BT):x.p j=j x.v:=by
 induction x with
 |lf b=>rfl
 |cn t x y hx hy=>rw[BT.p,BT.v,hx,hy];cases t<;>rfl
inductive JT:Type 1 where
 |lf (b:Bool)
 |fl
 |cn (t:Bool) (x y:JT)
 |gq (p:Prop) [d:Decidable p] (x:JT)
 |bd {α :Type} (x:Option α) (f: α->JT)
 |jp (x:BT) (f:Bool->JT)
 |jb (x:JT) (f:Bool->JT)
 |nq (x:JT)
def JT.o:JT->Option Bool
 | .lf b=>some b
 | .fl=>none
 | .cn t x y=>bif t then x.o else y.o
 | @JT.gq p d x=> @ite _ p d x.o none
 | .bd x f=>x.bind λa=>(f a).o
 | .jp x f=>(f x.v).o
 | .jb x f=>x.o.bind λa=>(f a).o
 | .nq x=>x.o
def JT.p:JT->(Bool->Prop)->Prop
 | .lf b,j=>ob (some b) j
 | .fl,_=>False
 | .cn t x y,j=>br t (x.p j) (y.p j)
 | @JT.gq p d x,j=> @Ev.gd p d (x.p j)
 | .bd x f,j=>ob x λa=>(f a).p j
 | .jp x f,j=>jn (λi=>x.p i) λb=>(f b).p j
 | .jb x f,j=>jn (λi=>x.p i) λb=>(f b).p j
 | .nq x,j=>Ev.nj (x.p j)
theorem Bml{α :Type}(k: α->Prop){t:Bool}{a b:Option α} :br t (ob a k) (ob b k)=ob (bif t then a else b) k:=by cases t<;>rfl
theorem Bfc{α β :Type}(k: α->Prop){x:Option β}{g: β->Option α} :ob x (λr=>ob (g r) k)=ob (x.bind g) k:=by cases x<;>rfl
theorem Be5{α :Type}(k: α->Prop){p:Prop} [d:Decidable p]{a:Option α} :Ev.gd p (ob a k)=ob (if p then a else none) k:=by
 rw[Au];by_cases hp:p
 ·simp[hp]
 ·simp[hp,ob]
theorem JT.ok(x:JT):∀j:Bool->Prop,x.p j=ob x.o j:=by
 induction x with
 |lf b=>intro j;rfl
 |fl=>intro j;rfl
 |cn t x y hx hy=>intro j;rw[JT.p,JT.o,hx,hy];exact Bml j
 |gq p x hx=>intro j;rw[JT.p,JT.o,hx];exact Be5 j
 |bd x f hf=>intro j;rw[JT.p,JT.o];simp only[hf];exact Bfc j
 |jp x f hf=>intro j;rw[JT.p,JT.o];exact(BT.ok _ x).trans (hf _ _)
 |jb x f hx hf=>intro j;rw[JT.p,JT.o];refine(hx _).trans ?_;simp only[hf];exact Bfc j
 |nq x hx=>intro j;rw[JT.p,JT.o];exact hx j
def gD{α :Type} [Inhabited α](l:List α)(i:Int): α :=l.getD (Int.toNat i) default
class An (A:Type) (R:outParam Type) where
 bd: {α :Type} ->Option α->(α->A)->A
 fl:A
 cn:Bool->A->A->A
 gq:(p:Prop)-> [Decidable p]->A->A
 fq:Option Nat->(Nat->A)->A->A
 sl:Nat->List A->A
 lf:R->A
 jb:JT->(Bool->A)->A
 jp:BT->(Bool->A)->A
 nq:A->A
open An
def gi{A R α :Type} [An A R](v:Int)(l:List α)(a:A):A:=gq ((0:Int)<=v) (gq (v<((l.length:Nat):Int)) a)
def lw{A R α :Type} [An A R](v:Int)(l:List α)(a b:A):A:=cn (decide (v<(l.length:Int))) (gi v l a) b
def kQ{R:Type}(er:R->PV)(kk:PV->Prop):R->Prop:=λx=>kk (er x)
instance anO (R:Type):An (Option R) R where
 bd:=Option.bind
 fl:=none
 cn:=cond
 gq:=λp _ a=>if p then a else none
 fq:=fko
 sl:=Azp
 lf:=some
 jb:=λx J=>x.o.bind J
 jp:=λx J=>J x.v
 nq:=λa=>a
def Fo{R:Type}(Q:R->Prop):Type:= { x:Prop×Option R // x.1=ob x.2 Q }
theorem Bdp{R:Type}{Q:R->Prop}(n:Nat)(l:List (Fo Q)):A7x n (l.map λa=>a.1.1)=ob (Azp n (l.map λa=>a.1.2)) Q:=by
 induction l generalizing n with
 |nil=>cases n<;>rfl
 |cons a l ih=>
  cases n with
  |zero=>exact a.2
  |succ n=>exact ih n
instance anF {R:Type} (Q:R->Prop):An (Fo Q) R where
 bd:=λx f=>⟨(ob x λa=>(f a).1.1,x.bind λa=>(f a).1.2),by cases x with
  |none=>rfl
  |some a=>exact(f a).2⟩
 fl:=⟨(False,none),rfl⟩
 cn:=λt a b=>⟨(br t a.1.1 b.1.1,bif t then a.1.2 else b.1.2),by cases t with
  |true=>exact a.2
  |false=>exact b.2⟩
 gq:=λp _ a=>⟨(Ev.gd p a.1.1,if p then a.1.2 else none),(congrArg (Ev.gd p) a.2).trans (Be5 Q)⟩
 fq:=λx f a=>⟨(Ev.fk x (λi=>(f i).1.1) a.1.1,fko x (λi=>(f i).1.2) a.1.2),by cases x with
  |none=>exact a.2
  |some i=>exact(f i).2⟩
 sl:=λn l=>⟨(A7x n (l.map λa=>a.1.1),Azp n (l.map λa=>a.1.2)),Bdp n l⟩
 lf:=λr=>⟨(ob (some r) Q,some r),rfl⟩
 jb:=λx f=>⟨(jn (λj=>x.p j) λb=>(f b).1.1,x.o.bind λb=>(f b).1.2),(JT.ok x _).trans (by cases x.o with
  |none=>rfl
  |some b=>exact(f b).2)⟩
 jp:=λx f=>⟨(jn (λj=>x.p j) λb=>(f b).1.1,(f x.v).1.2),(BT.ok _ x).trans (f x.v).2⟩
 nq:=λa=>⟨(Ev.nj a.1.1,a.1.2),a.2⟩
@[reducible] def anP {R:Type} (Q:R->Prop):An Prop R where
 bd:=ob
 fl:=False
 cn:=br
 gq:=λp _ a=>Ev.gd p a
 fq:=Ev.fk
 sl:=A7x
 lf:=λx=>ob (some x) Q
 jb:=λx J=>jn (λj=>x.p j) J
 jp:=λx J=>jn (λj=>x.p j) J
 nq:=Ev.nj
theorem eE{R:Type}{F:Option R}{Q:R->Prop}{p:Prop}(x:Fo Q)(h:p=x.1.1:=by kernel_rfl)(h2:x.1.2=F:=by kernel_rfl):p=ob F Q:=by rw[h,x.2,h2]
def ho{R α :Type}{Q:R->Prop}{p:Prop}{x:Option α}{c: α->Prop}{g: α->Option R}(h:p=ob x c)(h2:∀o,c o=ob (g o) Q):Fo Q:=⟨(p,x.bind g),by rw[h];cases x with
 |none=>rfl
 |some a=>exact h2 a⟩
def hq{R α :Type}{Q:R->Prop}{p:Prop}{x:Option α}{c: α->Prop}(h:p=ob x c)(f: α->Fo Q)(h2:∀o,c o=(f o).1.1:=by intro o;kernel_rfl):Fo Q:=⟨(p,x.bind λo=>(f o).1.2),by rw[h];cases x with
 |none=>rfl
 |some a=>exact(h2 a).trans (f a).2⟩
abbrev kN(K:Ex->St->Prop):St->Prop:=λs=>K .normal s
def kAt(P:Program)(C:Ba)(X:Inl)(L:Nat):EC->List Bool->(Ex->St->Prop)->Ex->St->Prop
 | .seq a b,true::d,k=>kAt P C X L a d (I8 (Ws P C X L b) k)
 | .seq _ b,false::d,k=>kAt P C X L b d k
 | .cond _ a _,true::d,k=>kAt P C X L a d k
 | .cond _ _ b,false::d,k=>kAt P C X L b d k
 | .block i b,true::d,k=>kAt P C X L b d (C6 i k)
 |_,_,k=>k
def re{R:Type}{Q:R->Prop}{p:Prop}{x:Option R}(h:p=ob x Q):Fo Q:=⟨(p,x),h⟩
def kX{V:Type}(outs:List Ex)(sh:V->St)(K:Ex->St->Prop):Nat×V->Prop:=λo=>A7x o.1 (outs.map λe=>K e (sh o.2))
def LI{V:Type}(f:St->(Ex->St->Prop)->Prop)(keys live:List Nat)(sh:V->St)(outs:List Ex)(lp:Nat->V->Option (Nat×V))(K:Ex->St->Prop)(n:Nat):Prop:=∀v,Js f keys live n (sh v) K=ob (lp n v) (kX outs sh K)
def LP{V:Type}(f:St->(Ex->St->Prop)->Prop)(keys live:List Nat)(sh:V->St)(outs:List Ex)(lp:Nat->V->Option (Nat×V))(K:Ex->St->Prop):Prop:=∀n,LI f keys live sh outs lp K n
theorem lE{V:Type}{f:St->(Ex->St->Prop)->Prop}{keys live:List Nat}{sh:V->St}{outs:List Ex}{lp:Nat->V->Option (Nat×V)}{K:Ex->St->Prop}(h0:∀v,lp 0 v=none)
  (hs:∀n v,LI f keys live sh outs lp K n->f (sh v) (Ic (Js f keys live n) keys live K)=ob (lp (n+1) v) (kX outs sh K)):∀n,LI f keys live sh outs lp K n:=by
 intro n
 induction n with
 |zero=>intro v;rw[h0];rfl
 |succ n ih=>exact λv=>hs n v ih
section
variable {R:Type}
end
theorem A24{α :Type}{x:Option α}{a: α}{k: α->Prop}(h:x=some a)(hk:k a):ob x k:=by subst h;exact hk
theorem Ww{α :Type}{x:Option α}{k: α->Prop}(h:ob x k):∃a,x=some a/\k a:=by
 cases x with
 |none=>exact h.elim
 |some a=>exact⟨a,rfl,h⟩
def orc(n:Nat)(A:List PV->(PV->Prop)->Prop)(B:Ba):Ba:=λf args k=>match Nat.beq f n with
 |true=>A args k
 |false=>B f args k
def noC:Ba:=λ_ _ _=>False
theorem Aml(P:Program):B8 P noC:=λ_ _ _ h=>h.elim
theorem B5{P:Program}{n:Nat}{A:List PV->(PV->Prop)->Prop}{B:Ba}(hA:∀args k,A args k->∃r,HoldsC P n args r/\k r)(hB:B8 P B):B8 P (orc n A B):=by
 intro f args k h;unfold orc at h;cases e:Nat.beq f n with
 |true=>
  rw[e]at h;have:=Nat.eq_of_beq_eq_true e;subst this;exact hA args k h
 |false=>
  rw[e]at h;exact hB f args k h
structure En (P:Program) where
 f:Nat
 a:List PV->(PV->Prop)->Prop
 h:∀args k,a args k->∃r,HoldsC P f args r/\k r
def orL{P:Program} :List (En P)->Ba
 | []=>noC
 |x::l=>orc x.f x.a (orL l)
def orN{P:Program} :List (Nat×En P)->Ba
 | []=>noC
 |x::l=>orc x.1 x.2.a (orN l)
theorem Amt{P:Program}(l:List (Nat×En P))(h:(l.all λx=>Nat.beq x.1 x.2.f)=true):B8 P (orN l):=by
 induction l with
 |nil=>exact Aml P
 |cons x l ih=>
  rw[List.all_cons,Bool.and_eq_true]at h;have e:=Nat.eq_of_beq_eq_true h.1;exact B5 (by rw[e];exact x.2.h) (ih h.2)
theorem A4t{P:Program}(l:List (En P)):B8 P (orL l):=by
 induction l with
 |nil=>exact Aml P
 |cons x l ih=>exact B5 x.h ih
theorem LeI.of_le{p q:PV}(h:PV.Le p q):LeI p q:=λ_ _ _ _ _ hv=>hv.le h
theorem LeI.agg{r s:List PV}(h:Qh r s):LeI (.agg r) (.agg s):=λ_ _ _ _ _ hv=>Aha (g:=true) h hv
theorem LeI.aY{r s:List PV}(h:Qh r s):LeI (.aY r) (.aY s):=by
 intro w M β B v hv;cases hv with
 |row p s hs=>cases hs
 |aY l cs hl hr=>
  refine .aY s cs (by rw[<-h.get.1];exact hl) (λi q u hq hu=>?_);obtain⟨p,hp,hle⟩:=h.get.2 i q hq;exact(hr i p u hp hu).le hle
theorem LeI.ref{r s:List PV}(h:Qh r s):LeI (.ref r) (.ref s):=by
 intro w M β B v hv;cases hv with
 |row p s hs=>cases hs
 |ref l ad vs hm hr=>
  refine .ref s ad vs (λi q hq=>?_) (λi q hq=>?_)
  ·obtain⟨p,hp,_⟩:=h.get.2 i q hq;exact hm i p hp
  ·obtain⟨p,hp,hle⟩:=h.get.2 i q hq;exact(hr i p hp).le hle
inductive W9:List PV->List PV->Prop
 |nil:W9 [] []
 |cons {p q:PV} {r s:List PV} (h:LeI p q) (hr:W9 r s):W9 (p::r) (q::s)
theorem W9.get{r s:List PV}(h:W9 r s):r.length=s.length/\∀(i:Nat) (p q:PV),r[i]? =some p->s[i]? =some q->LeI p q:=by
 induction h with
 |nil=>exact⟨rfl,λi p q h=>by simp at h⟩
 |cons h hr ih=>
  refine⟨by simp[ih.1],λi p q hp hq=>?_⟩;cases i with
  |zero=>simp at hp hq;subst hp;subst hq;exact h
  |succ i=>exact ih.2 i p q (by simpa using hp) (by simpa using hq)
theorem Holds.argsL{P:Program}{f:Nat}{args args':List PV}{r:PV}(h:Holds P f args' r)(hl:W9 args args'):Holds P f args r:=h.args hl.get.1 hl.get.2
def Be0(r s:List PV):Prop:=∀(i:Nat) (q:PV) (v:SV),s[i]? =some q->q.sv=some v->v.own=true->r[i]? =some (.val (.slice none 0 0))/\v.n=0
def Bgn(p q:PV):Prop:=p=q\/(Adv [p]=false/\Adv [q]=false)\/∃r s,p=.aY r/\q=.aY s/\Qh r s/\okD s=true/\Be0 r s
theorem A25:∀ {l:List PV},okC l=true->okD l=true
 | [],_=>rfl
 |p::l,h=>by
  have h1:p.gG=true:=Ro h p (by simp);have h2:okC l=true:=by
   simp only[okC,Aoo,h1]at h;exact h
  have h3:p.fO=true:=by
   cases p with
   |aO o x=>rfl
   |_=>first|rfl|cases h1
  simp only[okD,Aoo,h3];exact A25 h2
theorem Bdf{r s:List PV}(h:okC s=true):Be0 r s:=λi q v h1 h2 h3=>by
 rw[A0g (Ro h q (List.mem_of_getElem? h1)) v h2]at h3;cases h3
theorem Aof{r s:List PV}(h:Qh r s):okD s=true->Er r=true:=by
 induction h with
 |nil=>intro _;rfl
 | @cons p q r s hp hr ih=>
  intro hok;have h1:q.fO=true:=Ro hok q (by simp);have h2:okD s=true:=by
   simp only[okD,Aoo,h1]at hok;exact hok
  have h3:=ih h2;cases hp with
  |view=>cases p<;>first|exact h3|cases h1
  |nil=>exact h3
theorem HoldsC.argsL{P:Program}{f:Nat}{p q:PV}{ps qs:List PV}{r:PV}(h:HoldsC P f (q::qs) r)(ht:Bgn p q)(hl:W9 (p::ps) (q::qs)):HoldsC P f (p::ps) r:=by
 have hal:=hl.get;have tail:∀ {κ :Type} {w:World} {M:Jw} {β :Kh} {B:Nat->Prop} {q0:PV} {vs:List Value},(∀(i:Nat) (p:PV) (v:Value),(q0::ps)[i]? =some p->vs[i]? =some v->Bk w M β B p v)->∀(i:Nat) (q:PV) (v:Value),(q0::qs)[i]? =some q->vs[i]? =some v->Bk w M β B q v:=by
  intro κ w M β B q0 vs hr i q v hq hv;cases i with
  |zero=>injection hq with hq;subst hq;exact hr 0 _ v rfl hv
  |succ i=>
   have hi2:i<ps.length:=by
    have h5:=(List.getElem?_eq_some_iff.mp hq).1;have:=hal.1;simp only[List.length_cons]at this h5 ⊢;omega
   have hp:ps[i]? =some ps[i]:=List.getElem?_eq_getElem hi2;exact hal.2 (i+1) ps[i] q hp hq _ _ _ _ _ (hr (i+1) ps[i] v hp hv)
 have hps:ps.length=qs.length:=by have:=hal.1;simp only[List.length_cons]at this;omega
 have self:∀ {rr:List PV},HoldsC P f (.aY rr::qs) r->HoldsC P f (.aY rr::ps) r:=by
  intro rr h;rcases(h:Afg P f rr qs r\/_) with⟨r0,l,o,rfl,hI,hlo,h1,h2⟩|⟨rfl,x,rfl,h9⟩
  ·refine .inl ⟨r0,l,o,rfl,?_,hlo,h1,h2⟩;intro κ H w0 w N M β O D vs hO hD hS hlen hr;exact hI H w0 w N M β O D vs hO hD hS (by simp only[List.length_cons]at hlen ⊢;omega) (tail (κ := κ) hr)
  ·refine .inr ⟨rfl,x,rfl,λob=>?_⟩;intro κ H w0 w N M β O D vs hO hD hS hlen hr;refine h9 ob H w0 w N M β O D vs hO hD hS (by omega) (λi q v hq hv=>?_);exact tail (κ := κ) (q0:=.any) (vs:=undef::vs) (λi p u hp hu=>by cases i with|zero=>injection hp with hp;subst hp;exact .any u|succ i=>exact hr i p u hp hu) (i+1) q v hq hv
 rcases ht with rfl|⟨h1,h2⟩|⟨rr,ss,rfl,rfl,hle,hok,hown⟩
 ·cases hp:Adv [p] with
  |true=>cases p<;>first|exact self h|cases hp
  |false=>
   have e1:∀l,Adv (p::l)=false:=λl=>by cases p<;>first|rfl|cases hp
   rw[HoldsC.of (e1 _)]at h;rw[HoldsC.of (e1 _)];exact h.argsL hl
 ·have e1:Adv (p::ps)=false:=by cases p<;>first|rfl|cases h1
  have e2:Adv (q::qs)=false:=by cases q<;>first|rfl|cases h2
  rw[HoldsC.of e2]at h;rw[HoldsC.of e1];exact h.argsL hl
 ·rcases(h:Afg P f ss qs r\/_)with h|⟨rfl,x,rfl,h⟩
  rotate_left
  ·obtain rfl:rr= []:=by cases hle;rfl
   exact self (.inr ⟨rfl,x,rfl,h⟩)
  obtain⟨r0,l,o,rfl,hI,hlo,h1,h2⟩:=h;have hk0:(0:Nat)∈(o++ [(0,ss)]).map Prod.fst:=by simp
  have eO:B4 [] ((o++ [(0,ss)])++ [(0,rr)])=B4 [] (o++ [(0,ss)]):=by
   funext d
   rw[Gk];by_cases hd:d∈(o++ [(0,ss)]).map Prod.fst
   ·rw[if_pos hd]
   ·rw[if_neg hd];have hd0:d≠0:=λe=>hd (by rw[e];exact hk0);have n1:B4 ([]:List PV) [(0,rr)] d= []:=by rw[B3,if_neg (λe=>hd0 e.symm)];rfl
    rw[n1,Gk];by_cases hd2:d∈o.map Prod.fst
    ·exact absurd (by rw[List.map_append];exact List.mem_append_left _ hd2) hd
    ·rw[if_neg hd2,B3,if_neg (λe=>hd0 e.symm)];rfl
  have eD:(λd=>Ar d (((o++ [(0,ss)])++ [(0,rr)]).map Prod.fst))=λd=>Ar d ((o++ [(0,ss)]).map Prod.fst):=by
   funext d
   rw[List.map_append,H1];by_cases hd:d=0
   ·subst hd;have:Ar 0 ((o++ [(0,ss)]).map Prod.fst)=false:=by
     cases hn:Ar 0 ((o++ [(0,ss)]).map Prod.fst) with
     |false=>rfl
     |true=>exact absurd hk0 ((Be _ _).1 hn)
    rw[this];rfl
   ·have:Ar d ([(0,rr)].map Prod.fst)=true:=(Be _ _).2 (by simpa using hd);rw[this,Bool.and_true]
  show Afg P f rr ps _\/_
  refine .inl ⟨r0,l,o++ [(0,ss)],rfl,?_,by rw[eO];exact hlo,h1,h2⟩;intro κ H w0 w N M β O D vs hO hD hS hlen hr;have e1:O=B4 [] [(0,rr)]:=funext hO;have e2:D=λd=>Ar d ([(0,rr)].map Prod.fst):=funext hD;subst e1;subst e2
  have hget:=hle.get;have S':SH H w0 N (B4 [] [(0,ss)]) (λd=>Ar d ([(0,ss)].map Prod.fst)) w M β :=by
   have nilv:∀d i s v,P5 H (B4 [] [(0,ss)]) w β (.cell d i) s v->v=.slice none 0 0/\s.n=0:=by
    intro d i s v ⟨b,n,p,h1,h2,h3,h4,h5⟩;by_cases h0:d=0
    ·subst h0;have n1:B4 ([]:List PV) [(0,ss)] 0=ss:=rfl;rw[n1]at h2;obtain⟨k1,k2⟩:=hown i p s h2 h3 h4;have hb:=(hS.box 0 b n h1).2.2;have n2:B4 ([]:List PV) [(0,rr)] 0=rr:=rfl;rw[n2]at hb;obtain⟨cs,t,q1,q2,q3⟩:=F4 hb (Aof hle hok);have hi:cs[i]? =some v:=by rw[World.cell?,q1]at h5;simpa using h5
     exact⟨(q3 i _ v k1 hi).1.val_eq,k2⟩
    ·have n1:B4 ([]:List PV) [(0,ss)] d= []:=by rw[B3,if_neg (λe=>h0 e.symm)];rfl
     rw[n1]at h2;simp at h2
   refine⟨hS.bS,hS.mN,hS.mlt,λd b n hd=>⟨(hS.box d b n hd).1,(hS.box d b n hd).2.1,?_⟩,λd d' b n n' _ _=>by
    by_cases e:d=d'
    ·exact .inl e
    ·refine .inr ?_;by_cases h0:d=0
     ·exact .inr (by rw[B3,if_neg (by omega)];rfl)
     ·exact .inl (by rw[B3,if_neg (λe=>h0 e.symm)];rfl),hS.dom,hS.reg,λkey s v ho=>?_,λkey key' s s' v v' g ho ho' hne hg=>?_,λkey s v g d n ho hg=>?_⟩
   ·have hb:=(hS.box d b n hd).2.2;by_cases h0:d=0
    ·subst h0;have n1:B4 ([]:List PV) [(0,ss)] 0=ss:=rfl;have n2:B4 ([]:List PV) [(0,rr)] 0=rr:=rfl;rw[n1];rw[n2]at hb
     obtain⟨cs,t,q1,q2,q3⟩:=F4 hb (Aof hle hok);refine .cells ss cs t q1 (by rw[<-hget.1];exact q2) (λi q v hq hv=>?_);obtain⟨p,hp,hle1⟩:=hget.2 i q hq;exact⟨(q3 i p v hp hv).1.le hle1,(q3 i p v hp hv).2⟩
    ·have n1:B4 ([]:List PV) [(0,ss)] d= []:=by rw[B3,if_neg (λe=>h0 e.symm)];rfl
     have n2:B4 ([]:List PV) [(0,rr)] d= []:=by rw[B3,if_neg (λe=>h0 e.symm)];rfl
     rw[n1];rw[n2]at hb;exact hb
   ·cases key with
    |slot k=>exact hS.tok (.slot k) s v ho
    |cell d i=>exact .z (nilv d i s v ho).1 (nilv d i s v ho).2
   ·cases key with
    |slot k=>
     cases key' with
     |slot k'=>exact hS.bX (.slot k) (.slot k') s s' v v' g ho ho' hne hg
     |cell d i=>rw[(nilv d i s' v' ho').1];exact Hl
    |cell d i=>rw[(nilv d i s v ho).1]at hg;exact absurd hg Hl
   ·cases key with
    |slot k=>exact hS.bH (.slot k) s v g d n ho hg
    |cell d i=>rw[(nilv d i s v ho).1]at hg;exact absurd hg Hl
  rw[eO,eD];exact hI H w0 w N M β _ _ vs (λ_=>rfl) (λ_=>rfl) S' (by simp only[List.length_cons]at hlen ⊢;omega) (tail (κ := κ) hr)
structure Cd (α :Type) where
 en: α->PV
 de:PV->Option α
 le:∀ {p x},de p=some x->LeI p (en x)
 tp:∀ {p x},de p=some x->Bgn p (en x)
theorem A3j{p q:PV}(h:PV.Le p q)(hq:Adv [q]=false):Bgn p q:=by
 refine .inr (.inl ⟨?_,hq⟩);cases h with
 |view=>cases p with
  |aY l=>cases l<;>cases hq
  |_=>first|rfl|cases hq
 |nil=>rfl
def cI(k:IntKind):Cd Int:=⟨λx=>.val (.int k x),A98 k,λh=>LeI.of_le (Avr h),λh=>A3j (Avr h) rfl⟩
def cB:Cd Bool:=⟨λx=>.val (.bool x),A2k,λh=>LeI.of_le (Aq5 h),λh=>A3j (Aq5 h) rfl⟩
def cS:Cd ByteArray:=⟨λx=>.val (.string x),A99,λh=>LeI.of_le (Avs h),λh=>A3j (Avs h) rfl⟩
def CD.cd{α :Type}(c:CD α):Cd α :=⟨c.w,c.d,λh=>LeI.of_le (c.le h),λ{p x} h=>A3j (c.le h) (by have:=c.fl x;cases hx:c.w x<;>first|rfl|(rw[hx]at this;cases this))⟩
def RF.ca{α :Type}(f:RF α):Cd α :=⟨λx=>.agg (f.w x),fun
 | .agg r=>f.d r
 |_=>none,λ{p x} h=>(by
 split at h
 ·exact .agg (f.le _ _ h)
 ·cases h),λ{p x} h=>(by
 split at h
 ·exact .inr (.inl ⟨rfl,rfl⟩)
 ·cases h)⟩
def RF.cp{α :Type}(f:RF α):Cd α :=⟨λx=>.ref (f.w x),fun
 | .ref r=>f.d r
 |_=>none,λ{p x} h=>(by
 split at h
 ·exact .ref (f.le _ _ h)
 ·cases h),λ{p x} h=>(by
 split at h
 ·exact .inr (.inl ⟨rfl,rfl⟩)
 ·cases h)⟩
def RF.ct{α :Type}(f:RF α)(hok:∀x,okC (f.w x)=true:=by intro x;rfl):Cd α :=⟨λx=>.aY (f.w x),fun
 | .aY r=>f.d r
 |_=>none,λ{p x} h=>(by
 split at h
 ·exact .aY (f.le _ _ h)
 ·cases h),λ{p x} h=>(by
 split at h
 ·exact .inr (.inr ⟨_,_,rfl,rfl,f.le _ _ h,A25 (hok _),Bdf (hok _)⟩)
 ·cases h)⟩
def Ho{ρ :Type}(P:Program)(n:Nat)(l:List PV)(er: ρ->PV)(r: ρ):Prop:=HoldsC P n l (er r)
section
variable {a b c d e f g h ρ :Type} {P:Program} {n:Nat} (er: ρ->PV)
def A0(F:Option ρ):List PV->(PV->Prop)->Prop
 | [],k=>ob F λr=>k (er r)
 |_,_=>False
def A1(c1:Cd a)(F:a->Option ρ):List PV->(PV->Prop)->Prop
 | [p1],k=>match c1.de p1 with
  |some x1=>ob (F x1) λr=>k (er r)
  |_=>False
 |_,_=>False
theorem a0{F:Option ρ}(hF:∀r,F=some r->HoldsC P n [] (er r)):∀args k,A0 er F args k->∃r,HoldsC P n args r/\k r:=by
 intro args k hA;unfold A0 at hA;split at hA
 ·obtain⟨r,q1,q2⟩:=Ww hA;exact⟨_,hF r q1,q2⟩
 ·exact hA.elim
theorem a1{c1:Cd a}{F:a->Option ρ}(hF:∀x1 r,F x1=some r->HoldsC P n [c1.en x1] (er r)):∀args k,A1 er c1 F args k->∃r,HoldsC P n args r/\k r:=by
 intro args k hA;unfold A1 at hA;split at hA
 ·split at hA
  ·rename_i e1;obtain⟨r,q1,q2⟩:=Ww hA;exact⟨_,(hF _ r q1).argsL (c1.tp e1) (.cons (c1.le e1) W9.nil),q2⟩
  ·exact hA.elim
 ·exact hA.elim
def A2(c1:Cd a)(c2:Cd b)(F:a->b->Option ρ):List PV->(PV->Prop)->Prop
 | [p1,p2],k=>match c1.de p1,c2.de p2 with
  |some x1,some x2=>ob (F x1 x2) λr=>k (er r)
  |_,_=>False
 |_,_=>False
theorem a2{c1:Cd a}{c2:Cd b}{F:a->b->Option ρ}(hF:∀x1 x2 r,F x1 x2=some r->HoldsC P n [c1.en x1,c2.en x2] (er r)):∀args k,A2 er c1 c2 F args k->∃r,HoldsC P n args r/\k r:=by
 intro args k hA;unfold A2 at hA;split at hA
 ·split at hA
  ·rename_i e1 e2;obtain⟨r,q1,q2⟩:=Ww hA;exact⟨_,(hF _ _ r q1).argsL (c1.tp e1) (.cons (c1.le e1) (.cons (c2.le e2) W9.nil)),q2⟩
  ·exact hA.elim
 ·exact hA.elim
def A3(c1:Cd a)(c2:Cd b)(c3:Cd c)(F:a->b->c->Option ρ):List PV->(PV->Prop)->Prop
 | [p1,p2,p3],k=>match c1.de p1,c2.de p2,c3.de p3 with
  |some x1,some x2,some x3=>ob (F x1 x2 x3) λr=>k (er r)
  |_,_,_=>False
 |_,_=>False
theorem a3{c1:Cd a}{c2:Cd b}{c3:Cd c}{F:a->b->c->Option ρ}(hF:∀x1 x2 x3 r,F x1 x2 x3=some r->HoldsC P n [c1.en x1,c2.en x2,c3.en x3] (er r)):∀args k,A3 er c1 c2 c3 F args k->∃r,HoldsC P n args r/\k r:=by
 intro args k hA;unfold A3 at hA;split at hA
 ·split at hA
  ·rename_i e1 e2 e3;obtain⟨r,q1,q2⟩:=Ww hA;exact⟨_,(hF _ _ _ r q1).argsL (c1.tp e1) (.cons (c1.le e1) (.cons (c2.le e2) (.cons (c3.le e3) W9.nil))),q2⟩
  ·exact hA.elim
 ·exact hA.elim
def A4(c1:Cd a)(c2:Cd b)(c3:Cd c)(c4:Cd d)(F:a->b->c->d->Option ρ):List PV->(PV->Prop)->Prop
 | [p1,p2,p3,p4],k=>match c1.de p1,c2.de p2,c3.de p3,c4.de p4 with
  |some x1,some x2,some x3,some x4=>ob (F x1 x2 x3 x4) λr=>k (er r)
  |_,_,_,_=>False
 |_,_=>False
theorem a4{c1:Cd a}{c2:Cd b}{c3:Cd c}{c4:Cd d}{F:a->b->c->d->Option ρ}(hF:∀x1 x2 x3 x4 r,F x1 x2 x3 x4=some r->HoldsC P n [c1.en x1,c2.en x2,c3.en x3,c4.en x4] (er r)):∀args k,A4 er c1 c2 c3 c4 F args k->∃r,HoldsC P n args r/\k r:=by
 intro args k hA;unfold A4 at hA;split at hA
 ·split at hA
  ·rename_i e1 e2 e3 e4;obtain⟨r,q1,q2⟩:=Ww hA;exact⟨_,(hF _ _ _ _ r q1).argsL (c1.tp e1) (.cons (c1.le e1) (.cons (c2.le e2) (.cons (c3.le e3) (.cons (c4.le e4) W9.nil)))),q2⟩
  ·exact hA.elim
 ·exact hA.elim
def A5(c1:Cd a)(c2:Cd b)(c3:Cd c)(c4:Cd d)(c5:Cd e)(F:a->b->c->d->e->Option ρ):List PV->(PV->Prop)->Prop
 | [p1,p2,p3,p4,p5],k=>match c1.de p1,c2.de p2,c3.de p3,c4.de p4,c5.de p5 with
  |some x1,some x2,some x3,some x4,some x5=>ob (F x1 x2 x3 x4 x5) λr=>k (er r)
  |_,_,_,_,_=>False
 |_,_=>False
theorem a5{c1:Cd a}{c2:Cd b}{c3:Cd c}{c4:Cd d}{c5:Cd e}{F:a->b->c->d->e->Option ρ}(hF:∀x1 x2 x3 x4 x5 r,F x1 x2 x3 x4 x5=some r->HoldsC P n [c1.en x1,c2.en x2,c3.en x3,c4.en x4,c5.en x5] (er r)):∀args k,A5 er c1 c2 c3 c4 c5 F args k->∃r,HoldsC P n args r/\k r:=by
 intro args k hA;unfold A5 at hA;split at hA
 ·split at hA
  ·rename_i e1 e2 e3 e4 e5;obtain⟨r,q1,q2⟩:=Ww hA;exact⟨_,(hF _ _ _ _ _ r q1).argsL (c1.tp e1) (.cons (c1.le e1) (.cons (c2.le e2) (.cons (c3.le e3) (.cons (c4.le e4) (.cons (c5.le e5) W9.nil))))),q2⟩
  ·exact hA.elim
 ·exact hA.elim
def A6(c1:Cd a)(c2:Cd b)(c3:Cd c)(c4:Cd d)(c5:Cd e)(c6:Cd f)(F:a->b->c->d->e->f->Option ρ):List PV->(PV->Prop)->Prop
 | [p1,p2,p3,p4,p5,p6],k=>match c1.de p1,c2.de p2,c3.de p3,c4.de p4,c5.de p5,c6.de p6 with
  |some x1,some x2,some x3,some x4,some x5,some x6=>ob (F x1 x2 x3 x4 x5 x6) λr=>k (er r)
  |_,_,_,_,_,_=>False
 |_,_=>False
theorem a6{c1:Cd a}{c2:Cd b}{c3:Cd c}{c4:Cd d}{c5:Cd e}{c6:Cd f}{F:a->b->c->d->e->f->Option ρ}(hF:∀x1 x2 x3 x4 x5 x6 r,F x1 x2 x3 x4 x5 x6=some r->HoldsC P n [c1.en x1,c2.en x2,c3.en x3,c4.en x4,c5.en x5,c6.en x6] (er r)):∀args k,A6 er c1 c2 c3 c4 c5 c6 F args k->∃r,HoldsC P n args r/\k r:=by
 intro args k hA;unfold A6 at hA;split at hA
 ·split at hA
  ·rename_i e1 e2 e3 e4 e5 e6;obtain⟨r,q1,q2⟩:=Ww hA;exact⟨_,(hF _ _ _ _ _ _ r q1).argsL (c1.tp e1) (.cons (c1.le e1) (.cons (c2.le e2) (.cons (c3.le e3) (.cons (c4.le e4) (.cons (c5.le e5) (.cons (c6.le e6) W9.nil)))))),q2⟩
  ·exact hA.elim
 ·exact hA.elim
def A7(c1:Cd a)(c2:Cd b)(c3:Cd c)(c4:Cd d)(c5:Cd e)(c6:Cd f)(c7:Cd g)(F:a->b->c->d->e->f->g->Option ρ):List PV->(PV->Prop)->Prop
 | [p1,p2,p3,p4,p5,p6,p7],k=>match c1.de p1,c2.de p2,c3.de p3,c4.de p4,c5.de p5,c6.de p6,c7.de p7 with
  |some x1,some x2,some x3,some x4,some x5,some x6,some x7=>ob (F x1 x2 x3 x4 x5 x6 x7) λr=>k (er r)
  |_,_,_,_,_,_,_=>False
 |_,_=>False
theorem a7{c1:Cd a}{c2:Cd b}{c3:Cd c}{c4:Cd d}{c5:Cd e}{c6:Cd f}{c7:Cd g}{F:a->b->c->d->e->f->g->Option ρ}(hF:∀x1 x2 x3 x4 x5 x6 x7 r,F x1 x2 x3 x4 x5 x6 x7=some r->HoldsC P n [c1.en x1,c2.en x2,c3.en x3,c4.en x4,c5.en x5,c6.en x6,c7.en x7] (er r)):∀args k,A7 er c1 c2 c3 c4 c5 c6 c7 F args k->∃r,HoldsC P n args r/\k r:=by
 intro args k hA;unfold A7 at hA;split at hA
 ·split at hA
  ·rename_i e1 e2 e3 e4 e5 e6 e7;obtain⟨r,q1,q2⟩:=Ww hA;exact⟨_,(hF _ _ _ _ _ _ _ r q1).argsL (c1.tp e1) (.cons (c1.le e1) (.cons (c2.le e2) (.cons (c3.le e3) (.cons (c4.le e4) (.cons (c5.le e5) (.cons (c6.le e6) (.cons (c7.le e7) W9.nil))))))),q2⟩
  ·exact hA.elim
 ·exact hA.elim
def A8(c1:Cd a)(c2:Cd b)(c3:Cd c)(c4:Cd d)(c5:Cd e)(c6:Cd f)(c7:Cd g)(c8:Cd h)(F:a->b->c->d->e->f->g->h->Option ρ):List PV->(PV->Prop)->Prop
 | [p1,p2,p3,p4,p5,p6,p7,p8],k=>match c1.de p1,c2.de p2,c3.de p3,c4.de p4,c5.de p5,c6.de p6,c7.de p7,c8.de p8 with
  |some x1,some x2,some x3,some x4,some x5,some x6,some x7,some x8=>ob (F x1 x2 x3 x4 x5 x6 x7 x8) λr=>k (er r)
  |_,_,_,_,_,_,_,_=>False
 |_,_=>False
theorem a8{c1:Cd a}{c2:Cd b}{c3:Cd c}{c4:Cd d}{c5:Cd e}{c6:Cd f}{c7:Cd g}{c8:Cd h}{F:a->b->c->d->e->f->g->h->Option ρ}(hF:∀x1 x2 x3 x4 x5 x6 x7 x8 r,F x1 x2 x3 x4 x5 x6 x7 x8=some r->HoldsC P n [c1.en x1,c2.en x2,c3.en x3,c4.en x4,c5.en x5,c6.en x6,c7.en x7,c8.en x8] (er r)):∀args k,A8 er c1 c2 c3 c4 c5 c6 c7 c8 F args k->∃r,HoldsC P n args r/\k r:=by
 intro args k hA;unfold A8 at hA;split at hA
 ·split at hA
  ·rename_i e1 e2 e3 e4 e5 e6 e7 e8;obtain⟨r,q1,q2⟩:=Ww hA;exact⟨_,(hF _ _ _ _ _ _ _ _ r q1).argsL (c1.tp e1) (.cons (c1.le e1) (.cons (c2.le e2) (.cons (c3.le e3) (.cons (c4.le e4) (.cons (c5.le e5) (.cons (c6.le e6) (.cons (c7.le e7) (.cons (c8.le e8) W9.nil)))))))),q2⟩
  ·exact hA.elim
 ·exact hA.elim
def E0(n:Nat)(F:Option ρ)(hF:∀r,F=some r->Ho P n [] er r):En P:=⟨n,A0 er F,a0 er hF⟩
def E1(n:Nat)(c1:Cd a)(F:a->Option ρ)(hF:∀x1 r,F x1=some r->Ho P n [c1.en x1] er r):En P:=⟨n,A1 er c1 F,a1 er hF⟩
def E2(n:Nat)(c1:Cd a)(c2:Cd b)(F:a->b->Option ρ)(hF:∀x1 x2 r,F x1 x2=some r->Ho P n [c1.en x1,c2.en x2] er r):En P:=⟨n,A2 er c1 c2 F,a2 er hF⟩
def E3(n:Nat)(c1:Cd a)(c2:Cd b)(c3:Cd c)(F:a->b->c->Option ρ)(hF:∀x1 x2 x3 r,F x1 x2 x3=some r->Ho P n [c1.en x1,c2.en x2,c3.en x3] er r):En P:=⟨n,A3 er c1 c2 c3 F,a3 er hF⟩
def E4(n:Nat)(c1:Cd a)(c2:Cd b)(c3:Cd c)(c4:Cd d)(F:a->b->c->d->Option ρ)(hF:∀x1 x2 x3 x4 r,F x1 x2 x3 x4=some r->Ho P n [c1.en x1,c2.en x2,c3.en x3,c4.en x4] er r):En P:=⟨n,A4 er c1 c2 c3 c4 F,a4 er hF⟩
end
theorem hE{P:Program}{C:Ba}{inl:Nat->Bool}{G:Nat->Option (Nat×Nat)}{J:Nat->Bool}{D L:Nat}(hG:Afi P G)(hC:B8 P C)(hm:P.follows .mixedOrders=true){f:Nat}{fn:Func}(hf:P.funcs[f]? =some fn){ec:EC}(hc:cFn P inl fn=some ec){args:List PV}{ρ :Type}{r: ρ}{F:Option ρ}{er: ρ->PV}
  (hn:Nat.ble args.length fn.ntmps=true)(he:∀kk,Ax7 P C (evI P inl G J C L D) L fn.results.toList ec args kk=ob F (λx=>kk (er x)))(h:F=some r):HoldsC P f args (er r):=by
 have hv:Ax7 P C (evI P inl G J C L D) L fn.results.toList ec args (λp=>p=er r):=by
  rw[he];exact A24 h rfl
 rw[HoldsC.of (All hv).1];exact An6 (inl:=inl) hC (Alm (inl:=inl) (J:=J) hG hC hm L D) hm L hf hc _ _ hn hv
theorem hES{P:Program}{C:Ba}{inl:Nat->Bool}{G:Nat->Option (Nat×Nat)}{J:Nat->Bool}{D L:Nat}(hG:Afi P G)(hC:B8 P C)(hm:P.follows .mixedOrders=true){f:Nat}{fn:Func}(hf:P.funcs[f]? =some fn){ec:EC}(hc:cFn P inl fn=some ec){args:List PV}{ρ :Type}{r: ρ}{F:Option ρ}{er: ρ->PV}
  {cells:List PV}{o0:Bool}(hn:Nat.ble (args.length+1) fn.ntmps=true)(hcall:Ep P f=true)(he:∀kk,A2l P C (evI P inl G J C L D) L o0 fn.results.toList ec cells args kk=ob F (λx=>kk (er x)))(h:F=some r):HoldsC P f (.aY cells::args) (er r):=by
 have hv:A2l P C (evI P inl G J C L D) L o0 fn.results.toList ec cells args (λp=>p=er r):=by
  rw[he];exact A24 h rfl
 exact .inl (Avz (inl:=inl) hC (Alm (inl:=inl) (J:=J) hG hC hm L D) hm L hf hc _ _ _ hn hcall hv)
def inL(f:Nat):List Nat->Bool
 | []=>false
 |a::r=>match Nat.beq a f with
  |true=>true
  |false=>inL f r
theorem A18{n:Int}(h1: -9223372036854775808<=n)(h2:n<=9223372036854775807):Cp n=n:=by
 unfold Cp IntKind.wrap;simp[IntKind.signed,IntKind.bits];split<;>omega
end Go.Proofs.YtgacplpjamkieaaGreat.Ev
namespace Go.Proofs.YtgacplpjamkieaaGreat.Ev
open Go
def noJ:Nat->Bool:=λ_=>false
noncomputable def A7v(P:Program)(inl:Nat->Bool)(G:Nat->Option (Nat×Nat))(nb:Nat->Bool)(base:Ba)(L D:Nat):Nat->Ba
 |0=>noC
 |n+1=>λf args k=>match nb f with
  |true=>base f args k
  |false=>match P.funcs[f]? with
   |some fn=>match cFn P inl fn,Nat.ble args.length fn.ntmps with
    |some ec,true=>Ax7 P (A7v P inl G nb base L D n) (evI P inl G noJ (A7v P inl G nb base L D n) L D) L fn.results.toList ec args k
    |_,_=>False
   |none=>False
theorem Ada{P:Program}{st:St} :∀(rs:List ResultVar) (k:List PV->Prop),O6 P st rs k->∃l,k l/\∀k':List PV->Prop,k' l->O6 P st rs k'
 | [],k,h=>⟨[],h,λ_ h'=>h'⟩
 | .tmp t::r,k,h=>by
  obtain⟨l,h1,h2⟩:=Ada r _ h;exact⟨_,h1,λk' h'=>h2 (λl=>k' (st.get t::l)) h'⟩
 | .cell a t::r,k,h=>by
  unfold O6 at h ⊢;split at h
  ·rename_i b off sz u h1 h2 h3;split at h
   ·obtain⟨l,h5,h6⟩:=Ada r _ h;exact⟨_,h5,λk' h'=>h6 _ h'⟩
   ·obtain⟨l,h5,h6⟩:=Ada r _ h;exact⟨_,h5,λk' h'=>h6 _ h'⟩
   ·exact h.elim
  ·exact h.elim
theorem A4k{P:Program}{rs:List ResultVar}{k:PV->Prop}{e:Ex}{st:St}(h:A60 P rs k e st):∃r,k r/\∀k':PV->Prop,k' r->A60 P rs k' e st:=by
 have hf:∀(l:List PV) (k:PV->Prop),∃r,(Af8 st.obj k l↔k r)/\∀k':PV->Prop,(Af8 st.obj k' l↔k' r):=by
  intro l k;unfold Af8
  match l with
  | [r]=>exact⟨_,Iff.rfl,λ_=>Iff.rfl⟩
  | []=>exact⟨_,Iff.rfl,λ_=>Iff.rfl⟩
  |a::b::c=>exact⟨_,Iff.rfl,λ_=>Iff.rfl⟩
 have key:O6 P st rs (Af8 st.obj k)->∃r,k r/\∀k':PV->Prop,k' r->O6 P st rs (Af8 st.obj k'):=by
  intro h;obtain⟨l,h1,h2⟩:=Ada rs _ h;obtain⟨r,h3,h4⟩:=hf l k;exact⟨r,h3.1 h1,λk' h'=>h2 _ ((h4 k').2 h')⟩
 cases e with
 |exit i=>exact h.elim
 |normal=>exact key h
 |ret=>exact key h
theorem A1n{P:Program}{inl:Nat->Bool}{G:Nat->Option (Nat×Nat)}{nb:Nat->Bool}{base:Ba}(hG:Afi P G)(hm:P.follows .mixedOrders=true)(hb:B8 P base)(L D:Nat):∀n,B8 P (A7v P inl G nb base L D n):=by
 intro n
 induction n with
 |zero=>exact Aml P
 |succ n ih=>
  intro f args k h;unfold A7v at h;split at h
  ·exact hb f args k h
  split at h
  ·rename_i fn hf;split at h
   ·rename_i ec hc hn;have hh:=All h;obtain⟨e,st',h1,h2⟩:=Ax6 ih (Alm (inl:=inl) (J:=noJ) hG ih hm L D) L ec _ _ hh.2;obtain⟨r,h3,h4⟩:=A4k h1;refine⟨r,?_,h3⟩;rw[HoldsC.of hh.1];exact An6 (inl:=inl) B8.star Jb.star hm L hf hc args r hn (by unfold Ax7;rw[hh.1];exact h2 _ (h4 _ rfl))
   ·exact h.elim
  ·exact h.elim
theorem Alp{P:Program}{inl:Nat->Bool}{G:Nat->Option (Nat×Nat)}{nb:Nat->Bool}{base:Ba}(hG:Afi P G)(hm:P.follows .mixedOrders=true)(hb:B8 P base)(L D n:Nat){f:Nat}{args:List PV}{r:PV}(h:∀kk,A7v P inl G nb base L D n f args kk=kk r):HoldsC P f args r:=by
 obtain⟨r',h1,h2⟩:=A1n (inl:=inl) (nb:=nb) (base:=base) hG hm hb L D n f args (λp=>p=r) (by rw[h]);subst h2;exact h1
end Go.Proofs.YtgacplpjamkieaaGreat.Ev
namespace Go.Proofs.YtgacplpjamkieaaGreat.Ev
open Go Go.Shelf Go.Proofs
theorem Ba5{P:Program}{ρ :Ren}(L:Go.Proofs.Lays8.n4 P ρ){f e b:Nat}(hf: ρ.f 4=f)(he: ρ.t 25=e)(hc:Ep P f=true){i:TypeInfo}{z:Value}(hi:P.info? e=some i)(hz:i.zero=some z)(hb:i.bytes=b)(hs:0<i.size)(hzs:z.cells.size=i.size)
  (hx:∀x,LX.nil e=some x->x.sz=i.size):Aqm P f e b:=by
 subst hf;subst he
 refine⟨hc,λw m hmb hm=>?_⟩;cases m with
 |zero=>
  exact(Any8.slices_Grow_room L none 0 0 0 w (Nat.le_refl _) (by omega) (by omega) (by omega)).mono λen w' ⟨h1,h2⟩=>.inl ⟨h1,h2⟩
 |succ m=>
  refine(Any8.slices_Grow_grow L i z hi hz hs none 0 0 (m+1) [] w (Nat.le_refl _) (by omega) (by rw[hb];simpa using hmb) (by omega) (by simp) (λ_=>rfl) (λa h=>by cases h)).mono ?_
  rintro en w' ⟨rfl,rfl⟩
  have hge:=grownCap_ge w (0+(m+1)) 0 (ρ.t 25);have hle:=grownCap_le_maxLen w (0+(m+1)) 0 (ρ.t 25) (by unfold maxLen;omega);generalize grownCap w (0+(m+1)) 0 (ρ.t 25)=cap at hge hle ⊢;refine .inr ⟨w.drew,_,cap,rfl,?_,rfl,λx hxx=>?_,hle⟩
  ·exact⟨rfl,rfl,rfl,Nat.le_refl _,λ_ _=>rfl⟩
  ·rw[hx x hxx];simp only[Array.size_append,size_zeroCells,hzs,List.size_toArray,List.length_nil,Nat.zero_add];rw[<-Nat.add_mul]
   congr 1
   omega
theorem A6p{P:Program}{ρ :Ren}(L:Go.Proofs.Lays8.n4 P ρ){f e b sz:Nat}(hf: ρ.f 4=f)(he: ρ.t 25=e)(hc:Ep P f=true)
  (h:(P.info? e).map (λi=>(i.zero.map (λz=>z.cells.size),i.size,i.bytes))=some (some sz,sz,b))(hs:0<sz)(hx:∀x,LX.nil e=some x->x.sz=sz):Aqm P f e b:=by
 cases hi:P.info? e with
 |none=>rw[hi]at h;cases h
 |some i=>
  rw[hi]at h;simp only[Option.map_some,Option.some.injEq,Prod.mk.injEq]at h;obtain⟨h1,h2,h3⟩:=h;cases hz:i.zero with
  |none=>rw[hz]at h1;cases h1
  |some z=>
   rw[hz]at h1;simp only[Option.map_some,Option.some.injEq]at h1;exact Ba5 L hf he hc hi hz h3 (by omega) (by omega) (λx hh=>by rw[hx x hh,h2])
theorem Lm{P:Program}{w:World}{ops:Array Oper}{rest:List Oper}{o:Oper}{a:Act}{Q:Exit->Act->World->Prop}(hgd:o.guard=none)(s x:Operand)(t:TypeId)
  (ho:o.op=.call { callee:=.builtin .append,args:= #[s,x],argTypes:= #[t,t] })(e:TypeId)(ht:P.underlying t=some (.slice e))(hi:(P.info? e).isSome=true)
  (g:Nat)(hs:a.eval s=.slice (some ⟨g,0,none⟩) 0 0)(ad:Addr)(c:Nat)(hx:a.eval x=.slice (some ad) 0 c)
  (h:wpList P ops Q rest (a.put o.dst (.slice (some ⟨g,0,none⟩) 0 0)) w):wpList P ops Q (o::rest) a w:=by
 cases hi':P.info? e with
 |none=>rw[hi']at hi;cases hi
 |some i=>
 refine wpList_plain hgd λK hK=>?_;have hf:=run_firstCells_some (P:=P) w i.size 0 ad 0 c [] (by simp) (λj u hj=>by simp at hj);have hr:(Builtin.append_ #[t,t] o.type #[.slice (some ⟨g,0,none⟩) 0 0,.slice (some ad) 0 c]).run P w=.ok (.slice (some ⟨g,0,none⟩) 0 0) w:=by
  simp[Builtin.append_,run_underlying ht,sizeOf,typeInfo,hi',Builtin.lenOf,hf,storeCells]
 unfold Oper.wp execOp;simp only[ho,resolve,invoke,builtin,Sem.run_bind,Sem.run_pure,Result.andThen_ok,List.map_toArray,List.map_cons,List.map_nil,hs,hx,hr];exact hK _ _ h
end Go.Proofs.YtgacplpjamkieaaGreat.Ev
namespace Go.Proofs.YtgacplpjamkieaaGreat.Ev
open Go Go.RowKit Go.ChangeShapes Go.WideShapes Go.ChangeAt
def okI(k:IntKind)(n:Int):Prop:=(Lit.int k n).wf=true
def okS(s:ByteArray):Prop:=s.size<=maxLen
section
variable {P:Program} {n:Nat} {t e:TypeId} {l:List PV}
theorem A72(hu:P.underlying t=some .bool)(h:Shp P n t l):∃b,l= [.val (.bool b)]:=by
 cases n with
 |zero=>exact h.elim
 |succ n=>simp only[Shp,hu]at h;exact h
theorem A3h{k:IntKind}(hu:P.underlying t=some (.int k))(h:Shp P n t l):∃z,l= [.val (.int k z)]/\okI k z:=by
 cases n with
 |zero=>exact h.elim
 |succ n=>simp only[Shp,hu]at h;exact h
theorem A3i(hu:P.underlying t=some .string)(h:Shp P n t l):∃s,l= [.val (.string s)]/\okS s:=by
 cases n with
 |zero=>exact h.elim
 |succ n=>simp only[Shp,hu]at h;exact h
theorem A73(hu:P.underlying t=some (.slice e))(h:Shp P n t l):∃x:LX,l= [.aO false x]/\x.e=e/\x.len<=maxLen/\∃m,m<n/\∀i,i<x.len->Shp P m e (x.row i):=by
 cases n with
 |zero=>exact h.elim
 |succ n=>
  simp only[Shp,hu]at h;obtain⟨x,h1,h2,h3,h4⟩:=h;exact⟨x,h1,h2,h3,n,by omega,h4⟩
theorem A74{fs:Array Field}(hu:P.underlying t=some (.struct fs))(h:Shp P n t l):∃m,m<n/\Au5 (Shp P m) (fs.toList.map (·.type)) l:=by
 cases n with
 |zero=>exact h.elim
 |succ n=>simp only[Shp,hu]at h;exact⟨n,by omega,h⟩
theorem A43{S:TypeId->List PV->Prop}{k:Nat}{r:List TypeId}(hw:∀l,S t l->l.length=k)(h:Au5 S (t::r) l):S t (l.take k)/\Au5 S r (l.drop k):=by
 obtain⟨a,b,rfl,h1,h2⟩:=h;have:=hw a h1;rw[List.take_left' this,List.drop_left' this];exact⟨h1,h2⟩
theorem Bju{k:IntKind}(hu:P.underlying t=some (.int k)){z:Int}(h:Shp P n t [.val (.int k z)]):okI k z:=by
 obtain⟨z',h1,h2⟩:=A3h hu h;injection h1 with h1 _
 injection h1 with h1
 injection h1 with _ h1
 subst h1;exact h2
theorem Bjv(hu:P.underlying t=some .string){z:ByteArray}(h:Shp P n t [.val (.string z)]):okS z:=by
 obtain⟨z',h1,h2⟩:=A3i hu h;injection h1 with h1 _
 injection h1 with h1
 injection h1 with h1
 subst h1;exact h2
theorem Boo(hu:P.underlying t=some (.slice e)){x:LX}(h:Shp P n t [.aO false x]):x.len<=maxLen/\∃m,m<n/\∀i,i<x.len->Shp P m e (x.row i):=by
 obtain⟨z',h1,h2,h3,h4⟩:=A73 hu h;injection h1 with h1 _
 injection h1 with _ h1
 subst h1;exact⟨h3,h4⟩
theorem A5u{α :Type} [Inhabited α]{row: α->List PV}{Q:List PV->Prop}{l:List α}(h:∀i,i<l.length->Q (row (l.getD i default))):∀y∈l,Q (row y):=by
 intro y hy;obtain⟨i,hi,rfl⟩:=List.getElem_of_mem hy;have:=h i hi;rwa[Rx l i hi]at this
theorem Bc4{α :Type} [Inhabited α](row: α->List PV)(m:Nat)(f:Nat->List PV)(h:∀i,i<m->∃y,f i=row y):∃l:List α,l.length=m/\∀i,i<m->row (l.getD i default)=f i:=by
 induction m generalizing f with
 |zero=>exact⟨[],rfl,λi hi=>by omega⟩
 |succ m ih=>
  obtain⟨y,hy⟩:=h 0 (by omega);obtain⟨l,h1,h2⟩:=ih (λi=>f (i+1)) (λi hi=>h (i+1) (by omega));refine⟨y::l,by simp[h1],λi hi=>?_⟩;cases i with
  |zero=>simpa using hy.symm
  |succ i=>simpa using h2 i (by omega)
end
end Go.Proofs.YtgacplpjamkieaaGreat.Ev
namespace Go.Proofs.YtgacplpjamkieaaGreat.Ev
open Go An
theorem Sb{α β :Type}(a: α)(f: α->Option β):(some a).bind f=f a:=rfl
theorem aN{R:Type} :(∀ {α :Type} (x:Option α) (f: α->Option R),(bd x f:Option R)=x.bind f)/\((fl:Option R)=none)/\(∀(t:Bool) (a b:Option R),cn t a b=bif t then a else b)
  /\(∀(p:Prop) [Decidable p] (a:Option R),gq p a=if p then a else none)/\(∀(x:Option Nat) (f:Nat->Option R) (a:Option R),fq x f a=fko x f a)
  /\(∀(n:Nat) (l:List (Option R)),sl n l=Azp n l)/\(∀x:R,(lf x:Option R)=some x)/\(∀(x:JT) (J:Bool->Option R),jb x J=x.o.bind J)
  /\(∀(x:BT) (J:Bool->Option R),jp x J=J x.v)/\(∀a:Option R,nq a=a)
  /\(∀ {α :Type} (v:Int) (l:List α) (a:Option R),gi v l a=if(0:Int)<=v then(if v<((l.length:Nat):Int)then a else none)else none)
  /\(∀ {α :Type} (v:Int) (l:List α) (a b:Option R),lw v l a b=bif decide (v<(l.length:Int)) then(if(0:Int)<=v then(if v<((l.length:Nat):Int)then a else none)else none)else b):=⟨λ_ _=>rfl,rfl,λ_ _ _=>rfl,λ_ _ _=>rfl,λ_ _ _=>rfl,λ_ _=>rfl,λ_=>rfl,λ_ _=>rfl,λ_ _=>rfl,λ_=>rfl,λ_ _ _=>rfl,λ_ _ _ _=>rfl⟩
theorem aB:(∀b,(BT.lf b).v=b)/\(∀t x y,(BT.cn t x y).v=bif t then x.v else y.v)/\(∀b,(JT.lf b).o=some b)/\(JT.fl.o=none)/\(∀t x y,(JT.cn t x y).o=bif t then x.o else y.o)
  /\(∀p [Decidable p] x,(JT.gq p x).o=if p then x.o else none)/\(∀ {α :Type} (x:Option α) f,(JT.bd x f).o=x.bind λa=>(f a).o)/\(∀x f,(JT.jp x f).o=(f x.v).o)/\(∀x f,(JT.jb x f).o=x.o.bind λa=>(f a).o)/\(∀x,(JT.nq x).o=x.o)
  /\(∀ {α :Type} [Inhabited α] (l:List α) i,gD l i=l.getD (Int.toNat i) default):=
 ⟨λ_=>rfl,λ_ _ _=>rfl,λ_=>rfl,rfl,λ_ _ _=>rfl,λ_ _ _=>rfl,λ_ _=>rfl,λ_ _=>rfl,λ_ _=>rfl,λ_=>rfl,λ_ _=>rfl⟩
def Evt(P:Nat->Prop):Prop:=∃L0,∀L,L0<=L->P L
theorem Evt.all{P:Nat->Prop}(h:∀L,P L):Evt P:=⟨0,λL _=>h L⟩
theorem Evt.mono{P Q:Nat->Prop}(hp:Evt P)(h:∀L,P L->Q L):Evt Q:=by
 obtain⟨a,ha⟩:=hp;exact⟨a,λL hL=>h L (ha L hL)⟩
theorem Evt.succ{P:Nat->Prop}(h:Evt λL=>P (L+1)):Evt P:=by
 obtain⟨a,ha⟩:=h;refine⟨a+1,λL hL=>?_⟩;obtain⟨k,rfl⟩:∃k,L=k+1:=⟨L-1,by omega⟩;exact ha k (by omega)
theorem Evt.get{P:Nat->Prop}(h:Evt P):∃L,P L:=let ⟨a,ha⟩:=h;⟨a,ha a (Nat.le_refl _)⟩
theorem Atx{α :Type} [Inhabited α]{l:List α}{i:Nat}{x: α}{k:List α}(h:l.drop i=x::k):i<l.length/\l.getD i default=x/\l.drop (i+1)=k:=by
 have hi:i<l.length:=by
  have:=congrArg List.length h;simp at this;omega
 refine⟨hi,?_,?_⟩
 ·rw[List.drop_eq_getElem_cons hi]at h;injection h with h1 h2
  rw[Rx l i hi,h1]
 ·rw[<-List.drop_drop,h];rfl
theorem A6c{α :Type}{l:List α}{i:Nat}(h:l.drop i= []):l.length<=i:=List.drop_eq_nil_iff.1 h
theorem Np{i n:Nat}(h:i<n):decide ((i:Int)<(n:Int))=true:=decide_eq_true (by omega)
theorem O5{i n:Nat}(h:n<=i):decide ((i:Int)<(n:Int))=false:=decide_eq_false (by omega)
theorem Cg{i n:Nat}(h:i<n)(hn:n<=maxLen):Cp ((i:Int)+1)=((i+1:Nat):Int):=by
 unfold maxLen at hn;rw[A18 (by omega) (by omega)];omega
theorem Vb{i:Nat}(hn:i<=maxLen):Cp ((i:Int)-1)=(i:Int)-1:=by
 unfold maxLen at hn;exact A18 (by omega) (by omega)
theorem nn(i:Nat):((0:Int)<=(i:Int))=True:=eq_true (by omega)
theorem ltI{i n:Nat}(h:i<n):((i:Int)<((n:Nat):Int))=True:=eq_true (by omega)
theorem toN(i:Nat):Int.toNat (i:Int)=i:=Int.toNat_natCast i
theorem lQ{α :Type} [Inhabited α]{l:List α}{n:Nat}(P:List α->Nat->Nat->Prop)(hl:l.length<=maxLen)(hn:l.length<n)(h0:∀n i,l.length<=i->P [] i (n+1))(h1:∀n i x k,i<l.length->l.getD i default=x->P k (i+1) n->P (x::k) i (n+1)):P l 0 n:=by
 have h:∀(k:List α) (i n:Nat),l.drop i=k->k.length<n->P k i n:=by
  intro k
  induction k with
  |nil=>
   intro i n hk hn;obtain⟨n,rfl⟩:∃m,n=m+1:=⟨n-1,by simp at hn;omega⟩;exact h0 n i (A6c hk)
  |cons x k ih=>
   intro i n hk hn;obtain⟨n,rfl⟩:∃m,n=m+1:=⟨n-1,by simp at hn;omega⟩;obtain⟨hlt,hx,hk'⟩:=Atx hk;exact h1 n i x k hlt hx (ih (i+1) n hk' (by simpa using hn))
 exact h l 0 n rfl hn
theorem Adl{α :Type}(a:Option α)(r:List (Option α)):Azp 0 (a::r)=a:=by cases r<;>rfl
theorem A1p{α :Type}(a b:Option α)(r:List (Option α)):Azp 1 (a::b::r)=b:=by cases r<;>rfl
theorem Bc5(bs:Yb):∀(m i:Nat) (r:List UInt8),i+m=bs.size->ByteArray.toList.loop bs i r=r.reverse++bs.data.toList.drop i:=by
 intro m
 induction m with
 |zero=>
  intro i r h;have h2:bs.data.toList.length<=i:=by
   have:bs.data.toList.length=bs.size:=rfl;omega
  rw[ByteArray.toList.loop,if_neg (by omega),List.drop_eq_nil_of_le h2,List.append_nil]
 |succ m ih=>
  intro i r h;have hlt:i<bs.size:=by omega
  have h2:i<bs.data.toList.length:=hlt;rw[ByteArray.toList.loop,if_pos hlt,ih (i+1) _ (by omega),List.drop_eq_getElem_cons h2,List.reverse_cons,List.append_assoc];have h3:bs.get! i=bs.data.toList[i]:=by
   show bs.data[i]! =_
   rw[getElem!_pos bs.data i hlt,Array.getElem_toList]
  rw[h3];rfl
theorem Aoj(s:Yb):s.toList=s.data.toList:=by
 rw[ByteArray.toList,Bc5 s s.size 0 [] (by omega)];rfl
theorem He(a b:Yb):(a.toList == b.toList)=decide (a=b):=by
 rw[Aoj,Aoj];cases h2:(a.data.toList == b.data.toList) with
 |true=>
  have h3:=Array.toList_inj.1 (eq_of_beq h2);have:a=b:=by cases a;cases b;cases h3;rfl
  exact(decide_eq_true this).symm
 |false=>
  symm;apply decide_eq_false
  rintro rfl
  rw[beq_self_eq_true]at h2;cases h2
theorem Bex(s:Yb):decide (s=(⟨#[]⟩:Yb))=decide (s.size=0):=by
 apply decide_eq_decide.2;constructor
 ·rintro rfl;rfl
 ·intro h;rcases s with⟨⟨l⟩⟩
  have h3:l.length=0:=h;rw[List.length_eq_zero_iff.1 h3]
theorem Gg{α :Type}(c:Bool)(a b: α):(bif c then some a else some b)=some (bif c then a else b):=by cases c<;>rfl
theorem Ko(a b:Bool):(bif a then b else false)=(a && b):=by cases a<;>rfl
theorem S7(a b:Bool):(bif a then true else b)=(a || b):=by cases a<;>rfl
theorem Ba4{a:Yb}{i:Nat}(h:i<a.size):a[i]?.isSome=true:=by
 rw[getElem?_pos a i h];rfl
theorem ifp{α :Type}{c:Prop}{d:Decidable c}{a b: α}(h:c): @ite α c d a b=a:=if_pos h
theorem Di:maxLen=9223372036854775807:=rfl
theorem ne0{x:Int}(h:¬x=0):(x != 0)=true:=bne_iff_ne.2 h
def Lr:Option Nat->Int
 |some i=>(i:Int)
 |none=> -1
end Go.Proofs.YtgacplpjamkieaaGreat.Ev
