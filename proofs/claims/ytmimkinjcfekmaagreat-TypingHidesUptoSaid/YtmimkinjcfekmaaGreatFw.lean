/-  Small words for the printed trees. -/
import Derived.Test.YtmimkinjcfekmaaGreatFq
namespace Go.Proofs.YtmimkinjcfekmaaGreat.Ev
open Go
set_option linter.unusedVariables false
set_option linter.unusedSimpArgs false
set_option linter.unnecessarySimpa false
def I(n:Int):PV:= .val (.int .i64 n)
def V(k:IntKind)(n:Int):PV:= .val (.int k n)
def B(b:Bool):PV:= .val (.bool b)
def S(s:ByteArray):PV:= .val (.string s)
def Mu(n:Int):Int:=IntKind.wrap .i64 n
def ob{α :Type}(x:Option α)(k: α→Prop):Prop:=match x with
 |some a=>k a
 |none=>False
def EC.l:EC→EC
 | .seq a _=>a
 | .cond _ a _=>a
 | .block _ b=>b
 | .loop _ b=>b
 |c=>c
def EC.r:EC→EC
 | .seq _ b=>b
 | .cond _ _ b=>b
 |c=>c
def EC.ops:EC→List B5
 | .region _ _ l=>l
 | .regS l=>l
 |_=> []
def T8(P:Program)(C:Av)(X:Tc)(n:Nat)(rest:List B5)(st:St)(d:Option Nat)(k:St→Prop):PV→List (Nat×List PV)→Prop:=
 fun r o'=>Er P C X n rest (st.app ⟨(dput d r).s,o'⟩) k
def Ac7:Nat→List Prop→Prop
 |_,[]=>False
 |0,A::_=>A
 |n+1,_::r=>Ac7 n r
def k4{α :Type} :Nat→List (Option α)→Option α
 |_,[]=>none
 |0,A::_=>A
 |n+1,_::r=>k4 n r
def fko{α :Type}(r:Option Nat)(A:Nat→Option α)(B:Option α):Option α :=match r with
 |some i=>A i
 |none=>B
def ap(j:Bool→Prop)(b:Bool):Prop:=j b
def nj(p:Prop):Prop:=p
inductive BT where
 |lf (b:Bool)
 |cn (t:Bool) (x y:BT)
def BT.v:BT→Bool
 | .lf b=>b
 | .cn t x y=>bif t then x.v else y.v
def BT.p(j:Bool→Prop):BT→Prop
 | .lf b=>j b
 | .cn t x y=>br t (x.p j) (y.p j)
theorem BT.ok(j:Bool→Prop)(x:BT):x.p j=j x.v:=by
 induction x with
 |lf b=>rfl
 |cn t x y hx hy=>rw [BT.p,BT.v,hx,hy];cases t<;>rfl
inductive JT:Type 1 where
 |lf (b:Bool)
 |fl
 |cn (t:Bool) (x y:JT)
 |gq (p:Prop) [d:Decidable p] (x:JT)
 |bd {α :Type} (x:Option α) (f: α→JT)
 |jp (x:BT) (f:Bool→JT)
 |jb (x:JT) (f:Bool→JT)
 |nq (x:JT)
def JT.o:JT→Option Bool
 | .lf b=>some b
 | .fl=>none
 | .cn t x y=>bif t then x.o else y.o
 | @JT.gq p d x=> @ite _ p d x.o none
 | .bd x f=>x.bind fun a=>(f a).o
 | .jp x f=>(f x.v).o
 | .jb x f=>x.o.bind fun a=>(f a).o
 | .nq x=>x.o
def JT.p:JT→(Bool→Prop)→Prop
 | .lf b,j=>ob (some b) j
 | .fl,_=>False
 | .cn t x y,j=>br t (x.p j) (y.p j)
 | @JT.gq p d x,j=> @Ev.gd p d (x.p j)
 | .bd x f,j=>ob x fun a=>(f a).p j
 | .jp x f,j=>jn (fun i=>x.p i) fun b=>(f b).p j
 | .jb x f,j=>jn (fun i=>x.p i) fun b=>(f b).p j
 | .nq x,j=>Ev.nj (x.p j)
theorem Ah5{α :Type}(k: α→Prop){t:Bool}{a b:Option α} :br t (ob a k) (ob b k)=ob (bif t then a else b) k:=by cases t<;>rfl
theorem Afr{α β :Type}(k: α→Prop){x:Option β}{g: β→Option α} :ob x (fun r=>ob (g r) k)=ob (x.bind g) k:=by cases x<;>rfl
theorem Afg{α :Type}(k: α→Prop){p:Prop} [d:Decidable p]{a:Option α} :Ev.gd p (ob a k)=ob (if p then a else none) k:=by
 rw [Ac]
 by_cases hp:p
 ·simp [hp]
 ·simp [hp,ob]
theorem JT.ok(x:JT):∀j:Bool→Prop,x.p j=ob x.o j:=by
 induction x with
 |lf b=>intro j;rfl
 |fl=>intro j;rfl
 |cn t x y hx hy=>intro j;rw [JT.p,JT.o,hx,hy];exact Ah5 j
 |gq p x hx=>intro j;rw [JT.p,JT.o,hx];exact Afg j
 |bd x f hf=>intro j;rw [JT.p,JT.o];simp only [hf];exact Afr j
 |jp x f hf=>intro j;rw [JT.p,JT.o];exact (BT.ok _ x).trans (hf _ _)
 |jb x f hx hf=>intro j;rw [JT.p,JT.o];refine (hx _).trans ?_;simp only [hf];exact Afr j
 |nq x hx=>intro j;rw [JT.p,JT.o];exact hx j
class An (A:Type) (R:outParam Type) where
 bd: {α :Type} →Option α→(α→A)→A
 fl:A
 cn:Bool→A→A→A
 gq:(p:Prop)→ [Decidable p]→A→A
 fq:Option Nat→(Nat→A)→A→A
 sl:Nat→List A→A
 lf:R→A
 jb:JT→(Bool→A)→A
 jp:BT→(Bool→A)→A
 nq:A→A
open An
def gi{A R α :Type} [An A R](v:Int)(l:List α)(a:A):A:=gq ((0:Int)≤v) (gq (v < ((l.length:Nat):Int)) a)
def lw{A R α :Type} [An A R](v:Int)(l:List α)(a b:A):A:=cn (decide (v < (l.length:Int))) (gi v l a) b
def kQ{R:Type}(er:R→PV)(kk:PV→Prop):R→Prop:=fun x=>kk (er x)
instance anO (R:Type):An (Option R) R where
 bd:=Option.bind
 fl:=none
 cn:=cond
 gq:=fun p _ a=>if p then a else none
 fq:=fko
 sl:=k4
 lf:=some
 jb:=fun x J=>x.o.bind J
 jp:=fun x J=>J x.v
 nq:=fun a=>a
def Fo{R:Type}(Q:R→Prop):Type:= { x:Prop×Option R // x.1=ob x.2 Q }
theorem Ae3{R:Type}{Q:R→Prop}(n:Nat)(l:List (Fo Q)):Ac7 n (l.map fun a=>a.1.1)=ob (k4 n (l.map fun a=>a.1.2)) Q:=by
 induction l generalizing n with
 |nil=>cases n<;>rfl
 |cons a l ih=>
  cases n with
  |zero=>exact a.2
  |succ n=>exact ih n
instance anF {R:Type} (Q:R→Prop):An (Fo Q) R where
 bd:=fun x f=>⟨(ob x fun a=>(f a).1.1,x.bind fun a=>(f a).1.2),by cases x with
  |none=>rfl
  |some a=>exact (f a).2⟩
 fl:=⟨(False,none),rfl⟩
 cn:=fun t a b=>⟨(br t a.1.1 b.1.1,bif t then a.1.2 else b.1.2),by cases t with
  |true=>exact a.2
  |false=>exact b.2⟩
 gq:=fun p _ a=>⟨(Ev.gd p a.1.1,if p then a.1.2 else none),(congrArg (Ev.gd p) a.2).trans (Afg Q)⟩
 fq:=fun x f a=>⟨(Ev.fk x (fun i=>(f i).1.1) a.1.1,fko x (fun i=>(f i).1.2) a.1.2),by cases x with
  |none=>exact a.2
  |some i=>exact (f i).2⟩
 sl:=fun n l=>⟨(Ac7 n (l.map fun a=>a.1.1),k4 n (l.map fun a=>a.1.2)),Ae3 n l⟩
 lf:=fun r=>⟨(ob (some r) Q,some r),rfl⟩
 jb:=fun x f=>⟨(jn (fun j=>x.p j) fun b=>(f b).1.1,x.o.bind fun b=>(f b).1.2),(JT.ok x _).trans (by cases x.o with
  |none=>rfl
  |some b=>exact (f b).2)⟩
 jp:=fun x f=>⟨(jn (fun j=>x.p j) fun b=>(f b).1.1,(f x.v).1.2),(BT.ok _ x).trans (f x.v).2⟩
 nq:=fun a=>⟨(Ev.nj a.1.1,a.1.2),a.2⟩
@[reducible] def anP {R:Type} (Q:R→Prop):An Prop R where
 bd:=ob
 fl:=False
 cn:=br
 gq:=fun p _ a=>Ev.gd p a
 fq:=Ev.fk
 sl:=Ac7
 lf:=fun x=>ob (some x) Q
 jb:=fun x J=>jn (fun j=>x.p j) J
 jp:=fun x J=>jn (fun j=>x.p j) J
 nq:=Ev.nj
theorem eE{R:Type}{F:Option R}{Q:R→Prop}{p:Prop}(x:Fo Q)(h:p=x.1.1:=by kernel_rfl)(h2:x.1.2=F:=by kernel_rfl):p=ob F Q:=by rw [h,x.2,h2]
def ho{R α :Type}{Q:R→Prop}{p:Prop}{x:Option α}{c: α→Prop}{g: α→Option R}(h:p=ob x c)(h2:∀o,c o=ob (g o) Q):Fo Q:=⟨(p,x.bind g),by rw [h];cases x with
 |none=>rfl
 |some a=>exact h2 a⟩
def re{R:Type}{Q:R→Prop}{p:Prop}{x:Option R}(h:p=ob x Q):Fo Q:=⟨(p,x),h⟩
def kX{V:Type}(outs:List Ex)(sh:V→St)(K:Ex→St→Prop):Nat×V→Prop:=fun o=>Ac7 o.1 (outs.map fun e=>K e (sh o.2))
def LI{V:Type}(f:St→(Ex→St→Prop)→Prop)(keys live:List Nat)(sh:V→St)(outs:List Ex)(lp:Nat→V→Option (Nat×V))(K:Ex→St→Prop)(n:Nat):Prop:=∀v,Ub f keys live n (sh v) K=ob (lp n v) (kX outs sh K)
def LP{V:Type}(f:St→(Ex→St→Prop)→Prop)(keys live:List Nat)(sh:V→St)(outs:List Ex)(lp:Nat→V→Option (Nat×V))(K:Ex→St→Prop):Prop:=∀n,LI f keys live sh outs lp K n
theorem lE{V:Type}{f:St→(Ex→St→Prop)→Prop}{keys live:List Nat}{sh:V→St}{outs:List Ex}{lp:Nat→V→Option (Nat×V)}{K:Ex→St→Prop}(h0:∀v,lp 0 v=none)
  (hs:∀n v,LI f keys live sh outs lp K n→f (sh v) (Abz (Ub f keys live n) keys live K)=ob (lp (n+1) v) (kX outs sh K)):∀n,LI f keys live sh outs lp K n:=by
 intro n
 induction n with
 |zero=>intro v;rw [h0];rfl
 |succ n ih=>exact fun v=>hs n v ih
section
variable {R:Type}
end
theorem Aev{α :Type}{x:Option α}{a: α}{k: α→Prop}(h:x=some a)(hk:k a):ob x k:=by subst h;exact hk
theorem J3{α :Type}{x:Option α}{k: α→Prop}(h:ob x k):∃a,x=some a∧k a:=by
 cases x with
 |none=>exact h.elim
 |some a=>exact ⟨a,rfl,h⟩
def orc(n:Nat)(A:List PV→(PV→Prop)→Prop)(B:Av):Av:=fun f args k=>match Nat.beq f n with
 |true=>A args k
 |false=>B f args k
def noC:Av:=fun _ _ _=>False
theorem Rr(P:Program):Bu P noC:=fun _ _ _ h=>h.elim
theorem Hu{P:Program}{n:Nat}{A:List PV→(PV→Prop)→Prop}{B:Av}(hA:∀args k,A args k→∃r,Holds P n args r∧k r)(hB:Bu P B):Bu P (orc n A B):=by
 intro f args k h
 unfold orc at h
 cases e:Nat.beq f n with
 |true=>
  rw [e] at h
  have:=Nat.eq_of_beq_eq_true e
  subst this
  exact hA args k h
 |false=>
  rw [e] at h
  exact hB f args k h
structure En (P:Program) where
 f:Nat
 a:List PV→(PV→Prop)→Prop
 h:∀args k,a args k→∃r,Holds P f args r∧k r
def orL{P:Program} :List (En P)→Av
 | []=>noC
 |x::l=>orc x.f x.a (orL l)
def orN{P:Program} :List (Nat×En P)→Av
 | []=>noC
 |x::l=>orc x.1 x.2.a (orN l)
theorem N2{P:Program}(l:List (Nat×En P))(h:(l.all fun x=>Nat.beq x.1 x.2.f)=true):Bu P (orN l):=by
 induction l with
 |nil=>exact Rr P
 |cons x l ih=>
  rw [List.all_cons,Bool.and_eq_true] at h
  have e:=Nat.eq_of_beq_eq_true h.1
  exact Hu (by rw [e];exact x.2.h) (ih h.2)
theorem Aat{P:Program}(l:List (En P)):Bu P (orL l):=by
 induction l with
 |nil=>exact Rr P
 |cons x l ih=>exact Hu x.h ih
theorem Vm.of_le{p q:PV}(h:PV.Le p q):Vm p q:=fun _ _ _ _ _ hv=>hv.le h
theorem Vm.agg{r s:List PV}(h:I8 r s):Vm (.agg r) (.agg s):=fun _ _ _ _ _ hv=>N3 (g:=true) h hv
theorem Vm.ref{r s:List PV}(h:I8 r s):Vm (.ref r) (.ref s):=by
 intro w M β B v hv
 cases hv with
 |row p s hs=>cases hs
 |ref l ad vs hm hr=>
  refine .ref s ad vs (fun i q hq=> ?_) (fun i q hq=> ?_)
  ·obtain ⟨p,hp,_⟩:=h.get.2 i q hq
   exact hm i p hp
  ·obtain ⟨p,hp,hle⟩:=h.get.2 i q hq
   exact (hr i p hp).le hle
inductive Kr:List PV→List PV→Prop
 |nil:Kr [] []
 |cons {p q:PV} {r s:List PV} (h:Vm p q) (hr:Kr r s):Kr (p::r) (q::s)
theorem Kr.get{r s:List PV}(h:Kr r s):r.length=s.length∧∀(i:Nat) (p q:PV),r[i]? =some p→s[i]? =some q→Vm p q:=by
 induction h with
 |nil=>exact ⟨rfl,fun i p q h=>by simp at h⟩
 |cons h hr ih=>
  refine ⟨by simp [ih.1],fun i p q hp hq=> ?_⟩
  cases i with
  |zero=>simp at hp hq;subst hp;subst hq;exact h
  |succ i=>exact ih.2 i p q (by simpa using hp) (by simpa using hq)
theorem Holds.argsL{P:Program}{f:Nat}{args args':List PV}{r:PV}(h:Holds P f args' r)(hl:Kr args args'):Holds P f args r:=h.args hl.get.1 hl.get.2
structure Cd (α :Type) where
 en: α→PV
 de:PV→Option α
 le:∀ {p x},de p=some x→Vm p (en x)
def cI(k:IntKind):Cd Int:=⟨fun x=> .val (.int k x),Aeb k,fun h=>Vm.of_le (n5 h)⟩
def cS:Cd ByteArray:=⟨fun x=> .val (.string x),Aec,fun h=>Vm.of_le (n6 h)⟩
def CD.cd{α :Type}(c:CD α):Cd α :=⟨c.w,c.d,fun h=>Vm.of_le (c.le h)⟩
def RF.ca{α :Type}(f:RF α):Cd α :=⟨fun x=> .agg (f.w x),fun
 | .agg r=>f.d r
 |_=>none,fun {p x} h=>by
 split at h
 ·exact .agg (f.le _ _ h)
 ·cases h⟩
def RF.cp{α :Type}(f:RF α):Cd α :=⟨fun x=> .ref (f.w x),fun
 | .ref r=>f.d r
 |_=>none,fun {p x} h=>by
 split at h
 ·exact .ref (f.le _ _ h)
 ·cases h⟩
def Ho{ρ :Type}(P:Program)(n:Nat)(l:List PV)(er: ρ→PV)(r: ρ):Prop:=Holds P n l (er r)
section
variable {a b c d e f g h ρ :Type} {P:Program} {n:Nat} (er: ρ→PV)
def A0(F:Option ρ):List PV→(PV→Prop)→Prop
 | [],k=>ob F fun r=>k (er r)
 |_,_=>False
def A1(c1:Cd a)(F:a→Option ρ):List PV→(PV→Prop)→Prop
 | [p1],k=>match c1.de p1 with
  |some x1=>ob (F x1) fun r=>k (er r)
  |_=>False
 |_,_=>False
theorem a0{F:Option ρ}(hF:∀r,F=some r→Holds P n [] (er r)):∀args k,A0 er F args k→∃r,Holds P n args r∧k r:=by
 intro args k hA
 unfold A0 at hA
 split at hA
 ·obtain ⟨r,q1,q2⟩:=J3 hA
  exact ⟨_,hF r q1,q2⟩
 ·exact hA.elim
theorem a1{c1:Cd a}{F:a→Option ρ}(hF:∀x1 r,F x1=some r→Holds P n [c1.en x1] (er r)):∀args k,A1 er c1 F args k→∃r,Holds P n args r∧k r:=by
 intro args k hA
 unfold A1 at hA
 split at hA
 ·split at hA
  ·rename_i e1
   obtain ⟨r,q1,q2⟩:=J3 hA
   exact ⟨_,(hF _ r q1).argsL (.cons (c1.le e1) Kr.nil),q2⟩
  ·exact hA.elim
 ·exact hA.elim
def A2(c1:Cd a)(c2:Cd b)(F:a→b→Option ρ):List PV→(PV→Prop)→Prop
 | [p1,p2],k=>match c1.de p1,c2.de p2 with
  |some x1,some x2=>ob (F x1 x2) fun r=>k (er r)
  |_,_=>False
 |_,_=>False
theorem a2{c1:Cd a}{c2:Cd b}{F:a→b→Option ρ}(hF:∀x1 x2 r,F x1 x2=some r→Holds P n [c1.en x1,c2.en x2] (er r)):∀args k,A2 er c1 c2 F args k→∃r,Holds P n args r∧k r:=by
 intro args k hA
 unfold A2 at hA
 split at hA
 ·split at hA
  ·rename_i e1 e2
   obtain ⟨r,q1,q2⟩:=J3 hA
   exact ⟨_,(hF _ _ r q1).argsL (.cons (c1.le e1) (.cons (c2.le e2) Kr.nil)),q2⟩
  ·exact hA.elim
 ·exact hA.elim
def A3(c1:Cd a)(c2:Cd b)(c3:Cd c)(F:a→b→c→Option ρ):List PV→(PV→Prop)→Prop
 | [p1,p2,p3],k=>match c1.de p1,c2.de p2,c3.de p3 with
  |some x1,some x2,some x3=>ob (F x1 x2 x3) fun r=>k (er r)
  |_,_,_=>False
 |_,_=>False
theorem a3{c1:Cd a}{c2:Cd b}{c3:Cd c}{F:a→b→c→Option ρ}(hF:∀x1 x2 x3 r,F x1 x2 x3=some r→Holds P n [c1.en x1,c2.en x2,c3.en x3] (er r)):∀args k,A3 er c1 c2 c3 F args k→∃r,Holds P n args r∧k r:=by
 intro args k hA
 unfold A3 at hA
 split at hA
 ·split at hA
  ·rename_i e1 e2 e3
   obtain ⟨r,q1,q2⟩:=J3 hA
   exact ⟨_,(hF _ _ _ r q1).argsL (.cons (c1.le e1) (.cons (c2.le e2) (.cons (c3.le e3) Kr.nil))),q2⟩
  ·exact hA.elim
 ·exact hA.elim
def A4(c1:Cd a)(c2:Cd b)(c3:Cd c)(c4:Cd d)(F:a→b→c→d→Option ρ):List PV→(PV→Prop)→Prop
 | [p1,p2,p3,p4],k=>match c1.de p1,c2.de p2,c3.de p3,c4.de p4 with
  |some x1,some x2,some x3,some x4=>ob (F x1 x2 x3 x4) fun r=>k (er r)
  |_,_,_,_=>False
 |_,_=>False
theorem a4{c1:Cd a}{c2:Cd b}{c3:Cd c}{c4:Cd d}{F:a→b→c→d→Option ρ}(hF:∀x1 x2 x3 x4 r,F x1 x2 x3 x4=some r→Holds P n [c1.en x1,c2.en x2,c3.en x3,c4.en x4] (er r)):∀args k,A4 er c1 c2 c3 c4 F args k→∃r,Holds P n args r∧k r:=by
 intro args k hA
 unfold A4 at hA
 split at hA
 ·split at hA
  ·rename_i e1 e2 e3 e4
   obtain ⟨r,q1,q2⟩:=J3 hA
   exact ⟨_,(hF _ _ _ _ r q1).argsL (.cons (c1.le e1) (.cons (c2.le e2) (.cons (c3.le e3) (.cons (c4.le e4) Kr.nil)))),q2⟩
  ·exact hA.elim
 ·exact hA.elim
def A5(c1:Cd a)(c2:Cd b)(c3:Cd c)(c4:Cd d)(c5:Cd e)(F:a→b→c→d→e→Option ρ):List PV→(PV→Prop)→Prop
 | [p1,p2,p3,p4,p5],k=>match c1.de p1,c2.de p2,c3.de p3,c4.de p4,c5.de p5 with
  |some x1,some x2,some x3,some x4,some x5=>ob (F x1 x2 x3 x4 x5) fun r=>k (er r)
  |_,_,_,_,_=>False
 |_,_=>False
theorem a5{c1:Cd a}{c2:Cd b}{c3:Cd c}{c4:Cd d}{c5:Cd e}{F:a→b→c→d→e→Option ρ}(hF:∀x1 x2 x3 x4 x5 r,F x1 x2 x3 x4 x5=some r→Holds P n [c1.en x1,c2.en x2,c3.en x3,c4.en x4,c5.en x5] (er r)):∀args k,A5 er c1 c2 c3 c4 c5 F args k→∃r,Holds P n args r∧k r:=by
 intro args k hA
 unfold A5 at hA
 split at hA
 ·split at hA
  ·rename_i e1 e2 e3 e4 e5
   obtain ⟨r,q1,q2⟩:=J3 hA
   exact ⟨_,(hF _ _ _ _ _ r q1).argsL (.cons (c1.le e1) (.cons (c2.le e2) (.cons (c3.le e3) (.cons (c4.le e4) (.cons (c5.le e5) Kr.nil))))),q2⟩
  ·exact hA.elim
 ·exact hA.elim
def A6(c1:Cd a)(c2:Cd b)(c3:Cd c)(c4:Cd d)(c5:Cd e)(c6:Cd f)(F:a→b→c→d→e→f→Option ρ):List PV→(PV→Prop)→Prop
 | [p1,p2,p3,p4,p5,p6],k=>match c1.de p1,c2.de p2,c3.de p3,c4.de p4,c5.de p5,c6.de p6 with
  |some x1,some x2,some x3,some x4,some x5,some x6=>ob (F x1 x2 x3 x4 x5 x6) fun r=>k (er r)
  |_,_,_,_,_,_=>False
 |_,_=>False
theorem a6{c1:Cd a}{c2:Cd b}{c3:Cd c}{c4:Cd d}{c5:Cd e}{c6:Cd f}{F:a→b→c→d→e→f→Option ρ}(hF:∀x1 x2 x3 x4 x5 x6 r,F x1 x2 x3 x4 x5 x6=some r→Holds P n [c1.en x1,c2.en x2,c3.en x3,c4.en x4,c5.en x5,c6.en x6] (er r)):∀args k,A6 er c1 c2 c3 c4 c5 c6 F args k→∃r,Holds P n args r∧k r:=by
 intro args k hA
 unfold A6 at hA
 split at hA
 ·split at hA
  ·rename_i e1 e2 e3 e4 e5 e6
   obtain ⟨r,q1,q2⟩:=J3 hA
   exact ⟨_,(hF _ _ _ _ _ _ r q1).argsL (.cons (c1.le e1) (.cons (c2.le e2) (.cons (c3.le e3) (.cons (c4.le e4) (.cons (c5.le e5) (.cons (c6.le e6) Kr.nil)))))),q2⟩
  ·exact hA.elim
 ·exact hA.elim
def A7(c1:Cd a)(c2:Cd b)(c3:Cd c)(c4:Cd d)(c5:Cd e)(c6:Cd f)(c7:Cd g)(F:a→b→c→d→e→f→g→Option ρ):List PV→(PV→Prop)→Prop
 | [p1,p2,p3,p4,p5,p6,p7],k=>match c1.de p1,c2.de p2,c3.de p3,c4.de p4,c5.de p5,c6.de p6,c7.de p7 with
  |some x1,some x2,some x3,some x4,some x5,some x6,some x7=>ob (F x1 x2 x3 x4 x5 x6 x7) fun r=>k (er r)
  |_,_,_,_,_,_,_=>False
 |_,_=>False
theorem a7{c1:Cd a}{c2:Cd b}{c3:Cd c}{c4:Cd d}{c5:Cd e}{c6:Cd f}{c7:Cd g}{F:a→b→c→d→e→f→g→Option ρ}(hF:∀x1 x2 x3 x4 x5 x6 x7 r,F x1 x2 x3 x4 x5 x6 x7=some r→Holds P n [c1.en x1,c2.en x2,c3.en x3,c4.en x4,c5.en x5,c6.en x6,c7.en x7] (er r)):∀args k,A7 er c1 c2 c3 c4 c5 c6 c7 F args k→∃r,Holds P n args r∧k r:=by
 intro args k hA
 unfold A7 at hA
 split at hA
 ·split at hA
  ·rename_i e1 e2 e3 e4 e5 e6 e7
   obtain ⟨r,q1,q2⟩:=J3 hA
   exact ⟨_,(hF _ _ _ _ _ _ _ r q1).argsL (.cons (c1.le e1) (.cons (c2.le e2) (.cons (c3.le e3) (.cons (c4.le e4) (.cons (c5.le e5) (.cons (c6.le e6) (.cons (c7.le e7) Kr.nil))))))),q2⟩
  ·exact hA.elim
 ·exact hA.elim
def A8(c1:Cd a)(c2:Cd b)(c3:Cd c)(c4:Cd d)(c5:Cd e)(c6:Cd f)(c7:Cd g)(c8:Cd h)(F:a→b→c→d→e→f→g→h→Option ρ):List PV→(PV→Prop)→Prop
 | [p1,p2,p3,p4,p5,p6,p7,p8],k=>match c1.de p1,c2.de p2,c3.de p3,c4.de p4,c5.de p5,c6.de p6,c7.de p7,c8.de p8 with
  |some x1,some x2,some x3,some x4,some x5,some x6,some x7,some x8=>ob (F x1 x2 x3 x4 x5 x6 x7 x8) fun r=>k (er r)
  |_,_,_,_,_,_,_,_=>False
 |_,_=>False
theorem a8{c1:Cd a}{c2:Cd b}{c3:Cd c}{c4:Cd d}{c5:Cd e}{c6:Cd f}{c7:Cd g}{c8:Cd h}{F:a→b→c→d→e→f→g→h→Option ρ}(hF:∀x1 x2 x3 x4 x5 x6 x7 x8 r,F x1 x2 x3 x4 x5 x6 x7 x8=some r→Holds P n [c1.en x1,c2.en x2,c3.en x3,c4.en x4,c5.en x5,c6.en x6,c7.en x7,c8.en x8] (er r)):∀args k,A8 er c1 c2 c3 c4 c5 c6 c7 c8 F args k→∃r,Holds P n args r∧k r:=by
 intro args k hA
 unfold A8 at hA
 split at hA
 ·split at hA
  ·rename_i e1 e2 e3 e4 e5 e6 e7 e8
   obtain ⟨r,q1,q2⟩:=J3 hA
   exact ⟨_,(hF _ _ _ _ _ _ _ _ r q1).argsL (.cons (c1.le e1) (.cons (c2.le e2) (.cons (c3.le e3) (.cons (c4.le e4) (.cons (c5.le e5) (.cons (c6.le e6) (.cons (c7.le e7) (.cons (c8.le e8) Kr.nil)))))))),q2⟩
  ·exact hA.elim
 ·exact hA.elim
def E0(n:Nat)(F:Option ρ)(hF:∀r,F=some r→Ho P n [] er r):En P:=⟨n,A0 er F,a0 er hF⟩
def E1(n:Nat)(c1:Cd a)(F:a→Option ρ)(hF:∀x1 r,F x1=some r→Ho P n [c1.en x1] er r):En P:=⟨n,A1 er c1 F,a1 er hF⟩
def E2(n:Nat)(c1:Cd a)(c2:Cd b)(F:a→b→Option ρ)(hF:∀x1 x2 r,F x1 x2=some r→Ho P n [c1.en x1,c2.en x2] er r):En P:=⟨n,A2 er c1 c2 F,a2 er hF⟩
def E3(n:Nat)(c1:Cd a)(c2:Cd b)(c3:Cd c)(F:a→b→c→Option ρ)(hF:∀x1 x2 x3 r,F x1 x2 x3=some r→Ho P n [c1.en x1,c2.en x2,c3.en x3] er r):En P:=⟨n,A3 er c1 c2 c3 F,a3 er hF⟩
end
theorem hE{P:Program}{C:Av}{inl:Nat→Bool}{G:Nat→Option (Nat×Nat)}{J:Nat→Bool}{D L:Nat}(hG:Rc P G)(hC:Bu P C)(hm:P.follows .mixedOrders=true){f:Nat}{fn:Func}(hf:P.funcs[f]? =some fn){ec:EC}(hc:cFn P inl fn=some ec){args:List PV}{ρ :Type}{r: ρ}{F:Option ρ}{er: ρ→PV}
  (hn:Nat.ble args.length fn.ntmps=true) (he:∀kk,Aed P C (evI P inl G J C L D) L fn.results.toList ec args kk=ob F (fun x=>kk (er x))) (h:F=some r):Holds P f args (er r):=by
 refine Si (inl:=inl) hC (Vx (inl:=inl) (J:=J) hG hC hm L D) hm L hf hc _ _ hn ?_
 rw [he]
 exact Aev h rfl
def inL(f:Nat):List Nat→Bool
 | []=>false
 |a::r=>match Nat.beq a f with
  |true=>true
  |false=>inL f r
theorem m6{n:Int}(h1: -9223372036854775808≤n)(h2:n≤9223372036854775807):Mu n=n:=by
 unfold Mu IntKind.wrap
 simp [IntKind.signed,IntKind.bits]
 split<;>omega
end Go.Proofs.YtmimkinjcfekmaaGreat.Ev
