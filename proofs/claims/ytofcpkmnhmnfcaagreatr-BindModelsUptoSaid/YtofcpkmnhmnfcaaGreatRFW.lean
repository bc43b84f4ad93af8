/-  Small words for the printed trees. -/
import Derived.Test.YtofcpkmnhmnfcaaGreatRFq
import Derived.Shelf.Spec.SlicesGrow
import Derived.Shelf.RegionOpenPlain
import Derived.WalkKit
import Derived.Deep.LoopGhost
import Derived.Lib.Walk
import Derived.Lib.SliceRun
namespace Go.Proofs.YtofcpkmnhmnfcaaGreatR.Ev
open Go
set_option linter.unusedVariables false
set_option linter.unusedSimpArgs false
set_option linter.unnecessarySimpa false
def I(n:Int):PV:= .val (.int .i64 n)
def V(k:IntKind)(n:Int):PV:= .val (.int k n)
def B(b:Bool):PV:= .val (.bool b)
def S(s:ByteArray):PV:= .val (.string s)
def B7(n:Int):Int:=IntKind.wrap .i64 n
def ob{α :Type}(x:Option α)(k: α→Prop):Prop:=match x with
 |some a=>k a
 |none=>False
def EC.l:EC→EC
 | .seq a _=>a
 | .cond _ a _=>a
 | .block _ b=>b
 | .loop _ b=>b
 |c=>c
def EC.r:EC→EC
 | .seq _ b=>b
 | .cond _ _ b=>b
 |c=>c
def EC.ops:EC→List Kj
 | .region _ _ l=>l
 | .regS l=>l
 |_=> []
def B4(P:Program)(C:Bd)(X:Inl)(n:Nat)(rest:List Kj)(st:St)(d:Option Nat)(k:St→Prop):PV→List (Nat×List PV)→Prop:=
 fun r o'=>Xk P C X n rest (st.app ⟨(dput d r).s,o'⟩) k
def Bx8:Nat→List Prop→Prop
 |_,[]=>False
 |0,A::_=>A
 |n+1,_::r=>Bx8 n r
def As0{α :Type} :Nat→List (Option α)→Option α
 |_,[]=>none
 |0,A::_=>A
 |n+1,_::r=>As0 n r
def fko{α :Type}(r:Option Nat)(A:Nat→Option α)(B:Option α):Option α :=match r with
 |some i=>A i
 |none=>B
def ap(j:Bool→Prop)(b:Bool):Prop:=j b
def nj(p:Prop):Prop:=p
inductive BT where
 |lf (b:Bool)
 |cn (t:Bool) (x y:BT)
def BT.v:BT→Bool
 | .lf b=>b
 | .cn t x y=>bif t then x.v else y.v
def BT.p(j:Bool→Prop):BT→Prop
 | .lf b=>j b
 | .cn t x y=>br t (x.p j) (y.p j)
theorem BT.ok(j:Bool→Prop)(x:BT):x.p j=j x.v:=by
 induction x with
 |lf b=>rfl
 |cn t x y hx hy=>rw [BT.p,BT.v,hx,hy];cases t<;>rfl
inductive JT:Type 1 where
 |lf (b:Bool)
 |fl
 |cn (t:Bool) (x y:JT)
 |gq (p:Prop) [d:Decidable p] (x:JT)
 |bd {α :Type} (x:Option α) (f: α→JT)
 |jp (x:BT) (f:Bool→JT)
 |jb (x:JT) (f:Bool→JT)
 |nq (x:JT)
def JT.o:JT→Option Bool
 | .lf b=>some b
 | .fl=>none
 | .cn t x y=>bif t then x.o else y.o
 | @JT.gq p d x=> @ite _ p d x.o none
 | .bd x f=>x.bind fun a=>(f a).o
 | .jp x f=>(f x.v).o
 | .jb x f=>x.o.bind fun a=>(f a).o
 | .nq x=>x.o
def JT.p:JT→(Bool→Prop)→Prop
 | .lf b,j=>ob (some b) j
 | .fl,_=>False
 | .cn t x y,j=>br t (x.p j) (y.p j)
 | @JT.gq p d x,j=> @Ev.gd p d (x.p j)
 | .bd x f,j=>ob x fun a=>(f a).p j
 | .jp x f,j=>jn (fun i=>x.p i) fun b=>(f b).p j
 | .jb x f,j=>jn (fun i=>x.p i) fun b=>(f b).p j
 | .nq x,j=>Ev.nj (x.p j)
theorem Cjg{α :Type}(k: α→Prop){t:Bool}{a b:Option α} :br t (ob a k) (ob b k)=ob (bif t then a else b) k:=by cases t<;>rfl
theorem B8a{α β :Type}(k: α→Prop){x:Option β}{g: β→Option α} :ob x (fun r=>ob (g r) k)=ob (x.bind g) k:=by cases x<;>rfl
theorem B7l{α :Type}(k: α→Prop){p:Prop} [d:Decidable p]{a:Option α} :Ev.gd p (ob a k)=ob (if p then a else none) k:=by
 rw [Bc]
 by_cases hp:p
 ·simp [hp]
 ·simp [hp,ob]
theorem JT.ok(x:JT):∀j:Bool→Prop,x.p j=ob x.o j:=by
 induction x with
 |lf b=>intro j;rfl
 |fl=>intro j;rfl
 |cn t x y hx hy=>intro j;rw [JT.p,JT.o,hx,hy];exact Cjg j
 |gq p x hx=>intro j;rw [JT.p,JT.o,hx];exact B7l j
 |bd x f hf=>intro j;rw [JT.p,JT.o];simp only [hf];exact B8a j
 |jp x f hf=>intro j;rw [JT.p,JT.o];exact (BT.ok _ x).trans (hf _ _)
 |jb x f hx hf=>intro j;rw [JT.p,JT.o];refine (hx _).trans ?_;simp only [hf];exact B8a j
 |nq x hx=>intro j;rw [JT.p,JT.o];exact hx j
class An (A:Type) (R:outParam Type) where
 bd: {α :Type} →Option α→(α→A)→A
 fl:A
 cn:Bool→A→A→A
 gq:(p:Prop)→ [Decidable p]→A→A
 fq:Option Nat→(Nat→A)→A→A
 sl:Nat→List A→A
 lf:R→A
 jb:JT→(Bool→A)→A
 jp:BT→(Bool→A)→A
 nq:A→A
open An
def gi{A R α :Type} [An A R](v:Int)(l:List α)(a:A):A:=gq ((0:Int)≤v) (gq (v < ((l.length:Nat):Int)) a)
def lw{A R α :Type} [An A R](v:Int)(l:List α)(a b:A):A:=cn (decide (v < (l.length:Int))) (gi v l a) b
def kQ{R:Type}(er:R→PV)(kk:PV→Prop):R→Prop:=fun x=>kk (er x)
instance anO (R:Type):An (Option R) R where
 bd:=Option.bind
 fl:=none
 cn:=cond
 gq:=fun p _ a=>if p then a else none
 fq:=fko
 sl:=As0
 lf:=some
 jb:=fun x J=>x.o.bind J
 jp:=fun x J=>J x.v
 nq:=fun a=>a
def Fo{R:Type}(Q:R→Prop):Type:= { x:Prop×Option R // x.1=ob x.2 Q }
theorem B6x{R:Type}{Q:R→Prop}(n:Nat)(l:List (Fo Q)):Bx8 n (l.map fun a=>a.1.1)=ob (As0 n (l.map fun a=>a.1.2)) Q:=by
 induction l generalizing n with
 |nil=>cases n<;>rfl
 |cons a l ih=>
  cases n with
  |zero=>exact a.2
  |succ n=>exact ih n
instance anF {R:Type} (Q:R→Prop):An (Fo Q) R where
 bd:=fun x f=>⟨(ob x fun a=>(f a).1.1,x.bind fun a=>(f a).1.2),by cases x with
  |none=>rfl
  |some a=>exact (f a).2⟩
 fl:=⟨(False,none),rfl⟩
 cn:=fun t a b=>⟨(br t a.1.1 b.1.1,bif t then a.1.2 else b.1.2),by cases t with
  |true=>exact a.2
  |false=>exact b.2⟩
 gq:=fun p _ a=>⟨(Ev.gd p a.1.1,if p then a.1.2 else none),(congrArg (Ev.gd p) a.2).trans (B7l Q)⟩
 fq:=fun x f a=>⟨(Ev.fk x (fun i=>(f i).1.1) a.1.1,fko x (fun i=>(f i).1.2) a.1.2),by cases x with
  |none=>exact a.2
  |some i=>exact (f i).2⟩
 sl:=fun n l=>⟨(Bx8 n (l.map fun a=>a.1.1),As0 n (l.map fun a=>a.1.2)),B6x n l⟩
 lf:=fun r=>⟨(ob (some r) Q,some r),rfl⟩
 jb:=fun x f=>⟨(jn (fun j=>x.p j) fun b=>(f b).1.1,x.o.bind fun b=>(f b).1.2),(JT.ok x _).trans (by cases x.o with
  |none=>rfl
  |some b=>exact (f b).2)⟩
 jp:=fun x f=>⟨(jn (fun j=>x.p j) fun b=>(f b).1.1,(f x.v).1.2),(BT.ok _ x).trans (f x.v).2⟩
 nq:=fun a=>⟨(Ev.nj a.1.1,a.1.2),a.2⟩
@[reducible] def anP {R:Type} (Q:R→Prop):An Prop R where
 bd:=ob
 fl:=False
 cn:=br
 gq:=fun p _ a=>Ev.gd p a
 fq:=Ev.fk
 sl:=Bx8
 lf:=fun x=>ob (some x) Q
 jb:=fun x J=>jn (fun j=>x.p j) J
 jp:=fun x J=>jn (fun j=>x.p j) J
 nq:=Ev.nj
theorem eE{R:Type}{F:Option R}{Q:R→Prop}{p:Prop}(x:Fo Q)(h:p=x.1.1:=by kernel_rfl)(h2:x.1.2=F:=by kernel_rfl):p=ob F Q:=by rw [h,x.2,h2]
def ho{R α :Type}{Q:R→Prop}{p:Prop}{x:Option α}{c: α→Prop}{g: α→Option R}(h:p=ob x c)(h2:∀o,c o=ob (g o) Q):Fo Q:=⟨(p,x.bind g),by rw [h];cases x with
 |none=>rfl
 |some a=>exact h2 a⟩
def re{R:Type}{Q:R→Prop}{p:Prop}{x:Option R}(h:p=ob x Q):Fo Q:=⟨(p,x),h⟩
def kX{V:Type}(outs:List Ex)(sh:V→St)(K:Ex→St→Prop):Nat×V→Prop:=fun o=>Bx8 o.1 (outs.map fun e=>K e (sh o.2))
def LI{V:Type}(f:St→(Ex→St→Prop)→Prop)(keys live:List Nat)(sh:V→St)(outs:List Ex)(lp:Nat→V→Option (Nat×V))(K:Ex→St→Prop)(n:Nat):Prop:=∀v,Jj f keys live n (sh v) K=ob (lp n v) (kX outs sh K)
def LP{V:Type}(f:St→(Ex→St→Prop)→Prop)(keys live:List Nat)(sh:V→St)(outs:List Ex)(lp:Nat→V→Option (Nat×V))(K:Ex→St→Prop):Prop:=∀n,LI f keys live sh outs lp K n
theorem lE{V:Type}{f:St→(Ex→St→Prop)→Prop}{keys live:List Nat}{sh:V→St}{outs:List Ex}{lp:Nat→V→Option (Nat×V)}{K:Ex→St→Prop}(h0:∀v,lp 0 v=none)
  (hs:∀n v,LI f keys live sh outs lp K n→f (sh v) (Hh (Jj f keys live n) keys live K)=ob (lp (n+1) v) (kX outs sh K)):∀n,LI f keys live sh outs lp K n:=by
 intro n
 induction n with
 |zero=>intro v;rw [h0];rfl
 |succ n ih=>exact fun v=>hs n v ih
section
variable {R:Type}
end
theorem B56{α :Type}{x:Option α}{a: α}{k: α→Prop}(h:x=some a)(hk:k a):ob x k:=by subst h;exact hk
theorem Alg{α :Type}{x:Option α}{k: α→Prop}(h:ob x k):∃a,x=some a∧k a:=by
 cases x with
 |none=>exact h.elim
 |some a=>exact ⟨a,rfl,h⟩
def orc(n:Nat)(A:List PV→(PV→Prop)→Prop)(B:Bd):Bd:=fun f args k=>match Nat.beq f n with
 |true=>A args k
 |false=>B f args k
def noC:Bd:=fun _ _ _=>False
theorem A1q(P:Program):Dv P noC:=fun _ _ _ h=>h.elim
theorem D4{P:Program}{n:Nat}{A:List PV→(PV→Prop)→Prop}{B:Bd}(hA:∀args k,A args k→∃r,Hv P n args r∧k r)(hB:Dv P B):Dv P (orc n A B):=by
 intro f args k h
 unfold orc at h
 cases e:Nat.beq f n with
 |true=>
  rw [e] at h
  have:=Nat.eq_of_beq_eq_true e
  subst this
  exact hA args k h
 |false=>
  rw [e] at h
  exact hB f args k h
structure En (P:Program) where
 f:Nat
 a:List PV→(PV→Prop)→Prop
 h:∀args k,a args k→∃r,Hv P f args r∧k r
def orL{P:Program} :List (En P)→Bd
 | []=>noC
 |x::l=>orc x.f x.a (orL l)
def orN{P:Program} :List (Nat×En P)→Bd
 | []=>noC
 |x::l=>orc x.1 x.2.a (orN l)
theorem A11{P:Program}(l:List (Nat×En P))(h:(l.all fun x=>Nat.beq x.1 x.2.f)=true):Dv P (orN l):=by
 induction l with
 |nil=>exact A1q P
 |cons x l ih=>
  rw [List.all_cons,Bool.and_eq_true] at h
  have e:=Nat.eq_of_beq_eq_true h.1
  exact D4 (by rw [e];exact x.2.h) (ih h.2)
theorem Bs7{P:Program}(l:List (En P)):Dv P (orL l):=by
 induction l with
 |nil=>exact A1q P
 |cons x l ih=>exact D4 x.h ih
theorem LeI.of_le{p q:PV}(h:PV.Le p q):LeI p q:=fun _ _ _ _ _ hv=>hv.le h
theorem LeI.agg{r s:List PV}(h:Ai8 r s):LeI (.agg r) (.agg s):=fun _ _ _ _ _ hv=>Avc (g:=true) h hv
theorem LeI.ref{r s:List PV}(h:Ai8 r s):LeI (.ref r) (.ref s):=by
 intro w M β B v hv
 cases hv with
 |row p s hs=>cases hs
 |ref l ad vs hm hr=>
  refine .ref s ad vs (fun i q hq=> ?_) (fun i q hq=> ?_)
  ·obtain ⟨p,hp,_⟩:=h.get.2 i q hq
   exact hm i p hp
  ·obtain ⟨p,hp,hle⟩:=h.get.2 i q hq
   exact (hr i p hp).le hle
inductive Anh:List PV→List PV→Prop
 |nil:Anh [] []
 |cons {p q:PV} {r s:List PV} (h:LeI p q) (hr:Anh r s):Anh (p::r) (q::s)
theorem Anh.get{r s:List PV}(h:Anh r s):r.length=s.length∧∀(i:Nat) (p q:PV),r[i]? =some p→s[i]? =some q→LeI p q:=by
 induction h with
 |nil=>exact ⟨rfl,fun i p q h=>by simp at h⟩
 |cons h hr ih=>
  refine ⟨by simp [ih.1],fun i p q hp hq=> ?_⟩
  cases i with
  |zero=>simp at hp hq;subst hp;subst hq;exact h
  |succ i=>exact ih.2 i p q (by simpa using hp) (by simpa using hq)
theorem Hv.argsL{P:Program}{f:Nat}{args args':List PV}{r:PV}(h:Hv P f args' r)(hl:Anh args args'):Hv P f args r:=h.args hl.get.1 hl.get.2
structure Cd (α :Type) where
 en: α→PV
 de:PV→Option α
 le:∀ {p x},de p=some x→LeI p (en x)
def cI(k:IntKind):Cd Int:=⟨fun x=> .val (.int k x),B1c k,fun h=>LeI.of_le (Bme h)⟩
def cB:Cd Bool:=⟨fun x=> .val (.bool x),Bmd,fun h=>LeI.of_le (Bfy h)⟩
def cS:Cd ByteArray:=⟨fun x=> .val (.string x),B1d,fun h=>LeI.of_le (Bmf h)⟩
def CD.cd{α :Type}(c:CD α):Cd α :=⟨c.w,c.d,fun h=>LeI.of_le (c.le h)⟩
def RF.ca{α :Type}(f:RF α):Cd α :=⟨fun x=> .agg (f.w x),fun
 | .agg r=>f.d r
 |_=>none,fun {p x} h=>by
 split at h
 ·exact .agg (f.le _ _ h)
 ·cases h⟩
def RF.cp{α :Type}(f:RF α):Cd α :=⟨fun x=> .ref (f.w x),fun
 | .ref r=>f.d r
 |_=>none,fun {p x} h=>by
 split at h
 ·exact .ref (f.le _ _ h)
 ·cases h⟩
def Ho{ρ :Type}(P:Program)(n:Nat)(l:List PV)(er: ρ→PV)(r: ρ):Prop:=Hv P n l (er r)
section
variable {a b c d e f g h ρ :Type} {P:Program} {n:Nat} (er: ρ→PV)
def A0(F:Option ρ):List PV→(PV→Prop)→Prop
 | [],k=>ob F fun r=>k (er r)
 |_,_=>False
def A1(c1:Cd a)(F:a→Option ρ):List PV→(PV→Prop)→Prop
 | [p1],k=>match c1.de p1 with
  |some x1=>ob (F x1) fun r=>k (er r)
  |_=>False
 |_,_=>False
theorem a0{F:Option ρ}(hF:∀r,F=some r→Hv P n [] (er r)):∀args k,A0 er F args k→∃r,Hv P n args r∧k r:=by
 intro args k hA
 unfold A0 at hA
 split at hA
 ·obtain ⟨r,q1,q2⟩:=Alg hA
  exact ⟨_,hF r q1,q2⟩
 ·exact hA.elim
theorem a1{c1:Cd a}{F:a→Option ρ}(hF:∀x1 r,F x1=some r→Hv P n [c1.en x1] (er r)):∀args k,A1 er c1 F args k→∃r,Hv P n args r∧k r:=by
 intro args k hA
 unfold A1 at hA
 split at hA
 ·split at hA
  ·rename_i e1
   obtain ⟨r,q1,q2⟩:=Alg hA
   exact ⟨_,(hF _ r q1).argsL (.cons (c1.le e1) Anh.nil),q2⟩
  ·exact hA.elim
 ·exact hA.elim
def A2(c1:Cd a)(c2:Cd b)(F:a→b→Option ρ):List PV→(PV→Prop)→Prop
 | [p1,p2],k=>match c1.de p1,c2.de p2 with
  |some x1,some x2=>ob (F x1 x2) fun r=>k (er r)
  |_,_=>False
 |_,_=>False
theorem a2{c1:Cd a}{c2:Cd b}{F:a→b→Option ρ}(hF:∀x1 x2 r,F x1 x2=some r→Hv P n [c1.en x1,c2.en x2] (er r)):∀args k,A2 er c1 c2 F args k→∃r,Hv P n args r∧k r:=by
 intro args k hA
 unfold A2 at hA
 split at hA
 ·split at hA
  ·rename_i e1 e2
   obtain ⟨r,q1,q2⟩:=Alg hA
   exact ⟨_,(hF _ _ r q1).argsL (.cons (c1.le e1) (.cons (c2.le e2) Anh.nil)),q2⟩
  ·exact hA.elim
 ·exact hA.elim
def A3(c1:Cd a)(c2:Cd b)(c3:Cd c)(F:a→b→c→Option ρ):List PV→(PV→Prop)→Prop
 | [p1,p2,p3],k=>match c1.de p1,c2.de p2,c3.de p3 with
  |some x1,some x2,some x3=>ob (F x1 x2 x3) fun r=>k (er r)
  |_,_,_=>False
 |_,_=>False
theorem a3{c1:Cd a}{c2:Cd b}{c3:Cd c}{F:a→b→c→Option ρ}(hF:∀x1 x2 x3 r,F x1 x2 x3=some r→Hv P n [c1.en x1,c2.en x2,c3.en x3] (er r)):∀args k,A3 er c1 c2 c3 F args k→∃r,Hv P n args r∧k r:=by
 intro args k hA
 unfold A3 at hA
 split at hA
 ·split at hA
  ·rename_i e1 e2 e3
   obtain ⟨r,q1,q2⟩:=Alg hA
   exact ⟨_,(hF _ _ _ r q1).argsL (.cons (c1.le e1) (.cons (c2.le e2) (.cons (c3.le e3) Anh.nil))),q2⟩
  ·exact hA.elim
 ·exact hA.elim
def A4(c1:Cd a)(c2:Cd b)(c3:Cd c)(c4:Cd d)(F:a→b→c→d→Option ρ):List PV→(PV→Prop)→Prop
 | [p1,p2,p3,p4],k=>match c1.de p1,c2.de p2,c3.de p3,c4.de p4 with
  |some x1,some x2,some x3,some x4=>ob (F x1 x2 x3 x4) fun r=>k (er r)
  |_,_,_,_=>False
 |_,_=>False
theorem a4{c1:Cd a}{c2:Cd b}{c3:Cd c}{c4:Cd d}{F:a→b→c→d→Option ρ}(hF:∀x1 x2 x3 x4 r,F x1 x2 x3 x4=some r→Hv P n [c1.en x1,c2.en x2,c3.en x3,c4.en x4] (er r)):∀args k,A4 er c1 c2 c3 c4 F args k→∃r,Hv P n args r∧k r:=by
 intro args k hA
 unfold A4 at hA
 split at hA
 ·split at hA
  ·rename_i e1 e2 e3 e4
   obtain ⟨r,q1,q2⟩:=Alg hA
   exact ⟨_,(hF _ _ _ _ r q1).argsL (.cons (c1.le e1) (.cons (c2.le e2) (.cons (c3.le e3) (.cons (c4.le e4) Anh.nil)))),q2⟩
  ·exact hA.elim
 ·exact hA.elim
def A5(c1:Cd a)(c2:Cd b)(c3:Cd c)(c4:Cd d)(c5:Cd e)(F:a→b→c→d→e→Option ρ):List PV→(PV→Prop)→Prop
 | [p1,p2,p3,p4,p5],k=>match c1.de p1,c2.de p2,c3.de p3,c4.de p4,c5.de p5 with
  |some x1,some x2,some x3,some x4,some x5=>ob (F x1 x2 x3 x4 x5) fun r=>k (er r)
  |_,_,_,_,_=>False
 |_,_=>False
theorem a5{c1:Cd a}{c2:Cd b}{c3:Cd c}{c4:Cd d}{c5:Cd e}{F:a→b→c→d→e→Option ρ}(hF:∀x1 x2 x3 x4 x5 r,F x1 x2 x3 x4 x5=some r→Hv P n [c1.en x1,c2.en x2,c3.en x3,c4.en x4,c5.en x5] (er r)):∀args k,A5 er c1 c2 c3 c4 c5 F args k→∃r,Hv P n args r∧k r:=by
 intro args k hA
 unfold A5 at hA
 split at hA
 ·split at hA
  ·rename_i e1 e2 e3 e4 e5
   obtain ⟨r,q1,q2⟩:=Alg hA
   exact ⟨_,(hF _ _ _ _ _ r q1).argsL (.cons (c1.le e1) (.cons (c2.le e2) (.cons (c3.le e3) (.cons (c4.le e4) (.cons (c5.le e5) Anh.nil))))),q2⟩
  ·exact hA.elim
 ·exact hA.elim
def A6(c1:Cd a)(c2:Cd b)(c3:Cd c)(c4:Cd d)(c5:Cd e)(c6:Cd f)(F:a→b→c→d→e→f→Option ρ):List PV→(PV→Prop)→Prop
 | [p1,p2,p3,p4,p5,p6],k=>match c1.de p1,c2.de p2,c3.de p3,c4.de p4,c5.de p5,c6.de p6 with
  |some x1,some x2,some x3,some x4,some x5,some x6=>ob (F x1 x2 x3 x4 x5 x6) fun r=>k (er r)
  |_,_,_,_,_,_=>False
 |_,_=>False
theorem a6{c1:Cd a}{c2:Cd b}{c3:Cd c}{c4:Cd d}{c5:Cd e}{c6:Cd f}{F:a→b→c→d→e→f→Option ρ}(hF:∀x1 x2 x3 x4 x5 x6 r,F x1 x2 x3 x4 x5 x6=some r→Hv P n [c1.en x1,c2.en x2,c3.en x3,c4.en x4,c5.en x5,c6.en x6] (er r)):∀args k,A6 er c1 c2 c3 c4 c5 c6 F args k→∃r,Hv P n args r∧k r:=by
 intro args k hA
 unfold A6 at hA
 split at hA
 ·split at hA
  ·rename_i e1 e2 e3 e4 e5 e6
   obtain ⟨r,q1,q2⟩:=Alg hA
   exact ⟨_,(hF _ _ _ _ _ _ r q1).argsL (.cons (c1.le e1) (.cons (c2.le e2) (.cons (c3.le e3) (.cons (c4.le e4) (.cons (c5.le e5) (.cons (c6.le e6) Anh.nil)))))),q2⟩
  ·exact hA.elim
 ·exact hA.elim
def A7(c1:Cd a)(c2:Cd b)(c3:Cd c)(c4:Cd d)(c5:Cd e)(c6:Cd f)(c7:Cd g)(F:a→b→c→d→e→f→g→Option ρ):List PV→(PV→Prop)→Prop
 | [p1,p2,p3,p4,p5,p6,p7],k=>match c1.de p1,c2.de p2,c3.de p3,c4.de p4,c5.de p5,c6.de p6,c7.de p7 with
  |some x1,some x2,some x3,some x4,some x5,some x6,some x7=>ob (F x1 x2 x3 x4 x5 x6 x7) fun r=>k (er r)
  |_,_,_,_,_,_,_=>False
 |_,_=>False
theorem a7{c1:Cd a}{c2:Cd b}{c3:Cd c}{c4:Cd d}{c5:Cd e}{c6:Cd f}{c7:Cd g}{F:a→b→c→d→e→f→g→Option ρ}(hF:∀x1 x2 x3 x4 x5 x6 x7 r,F x1 x2 x3 x4 x5 x6 x7=some r→Hv P n [c1.en x1,c2.en x2,c3.en x3,c4.en x4,c5.en x5,c6.en x6,c7.en x7] (er r)):∀args k,A7 er c1 c2 c3 c4 c5 c6 c7 F args k→∃r,Hv P n args r∧k r:=by
 intro args k hA
 unfold A7 at hA
 split at hA
 ·split at hA
  ·rename_i e1 e2 e3 e4 e5 e6 e7
   obtain ⟨r,q1,q2⟩:=Alg hA
   exact ⟨_,(hF _ _ _ _ _ _ _ r q1).argsL (.cons (c1.le e1) (.cons (c2.le e2) (.cons (c3.le e3) (.cons (c4.le e4) (.cons (c5.le e5) (.cons (c6.le e6) (.cons (c7.le e7) Anh.nil))))))),q2⟩
  ·exact hA.elim
 ·exact hA.elim
def A8(c1:Cd a)(c2:Cd b)(c3:Cd c)(c4:Cd d)(c5:Cd e)(c6:Cd f)(c7:Cd g)(c8:Cd h)(F:a→b→c→d→e→f→g→h→Option ρ):List PV→(PV→Prop)→Prop
 | [p1,p2,p3,p4,p5,p6,p7,p8],k=>match c1.de p1,c2.de p2,c3.de p3,c4.de p4,c5.de p5,c6.de p6,c7.de p7,c8.de p8 with
  |some x1,some x2,some x3,some x4,some x5,some x6,some x7,some x8=>ob (F x1 x2 x3 x4 x5 x6 x7 x8) fun r=>k (er r)
  |_,_,_,_,_,_,_,_=>False
 |_,_=>False
theorem a8{c1:Cd a}{c2:Cd b}{c3:Cd c}{c4:Cd d}{c5:Cd e}{c6:Cd f}{c7:Cd g}{c8:Cd h}{F:a→b→c→d→e→f→g→h→Option ρ}(hF:∀x1 x2 x3 x4 x5 x6 x7 x8 r,F x1 x2 x3 x4 x5 x6 x7 x8=some r→Hv P n [c1.en x1,c2.en x2,c3.en x3,c4.en x4,c5.en x5,c6.en x6,c7.en x7,c8.en x8] (er r)):∀args k,A8 er c1 c2 c3 c4 c5 c6 c7 c8 F args k→∃r,Hv P n args r∧k r:=by
 intro args k hA
 unfold A8 at hA
 split at hA
 ·split at hA
  ·rename_i e1 e2 e3 e4 e5 e6 e7 e8
   obtain ⟨r,q1,q2⟩:=Alg hA
   exact ⟨_,(hF _ _ _ _ _ _ _ _ r q1).argsL (.cons (c1.le e1) (.cons (c2.le e2) (.cons (c3.le e3) (.cons (c4.le e4) (.cons (c5.le e5) (.cons (c6.le e6) (.cons (c7.le e7) (.cons (c8.le e8) Anh.nil)))))))),q2⟩
  ·exact hA.elim
 ·exact hA.elim
def E0(n:Nat)(F:Option ρ)(hF:∀r,F=some r→Ho P n [] er r):En P:=⟨n,A0 er F,a0 er hF⟩
def E1(n:Nat)(c1:Cd a)(F:a→Option ρ)(hF:∀x1 r,F x1=some r→Ho P n [c1.en x1] er r):En P:=⟨n,A1 er c1 F,a1 er hF⟩
def E2(n:Nat)(c1:Cd a)(c2:Cd b)(F:a→b→Option ρ)(hF:∀x1 x2 r,F x1 x2=some r→Ho P n [c1.en x1,c2.en x2] er r):En P:=⟨n,A2 er c1 c2 F,a2 er hF⟩
def E3(n:Nat)(c1:Cd a)(c2:Cd b)(c3:Cd c)(F:a→b→c→Option ρ)(hF:∀x1 x2 x3 r,F x1 x2 x3=some r→Ho P n [c1.en x1,c2.en x2,c3.en x3] er r):En P:=⟨n,A3 er c1 c2 c3 F,a3 er hF⟩
def E4(n:Nat)(c1:Cd a)(c2:Cd b)(c3:Cd c)(c4:Cd d)(F:a→b→c→d→Option ρ)(hF:∀x1 x2 x3 x4 r,F x1 x2 x3 x4=some r→Ho P n [c1.en x1,c2.en x2,c3.en x3,c4.en x4] er r):En P:=⟨n,A4 er c1 c2 c3 c4 F,a4 er hF⟩
end
theorem hE{P:Program}{C:Bd}{inl:Nat→Bool}{G:Nat→Option (Nat×Nat)}{J:Nat→Bool}{D L:Nat}(hG:A0i P G)(hC:Dv P C)(hm:P.follows .mixedOrders=true){f:Nat}{fn:Func}(hf:P.funcs[f]? =some fn){ec:EC}(hc:cFn P inl fn=some ec){args:List PV}{ρ :Type}{r: ρ}{F:Option ρ}{er: ρ→PV}
  (hn:Nat.ble args.length fn.ntmps=true) (he:∀kk,B2v P C (evI P inl G J C L D) L fn.results.toList ec args kk=ob F (fun x=>kk (er x))) (h:F=some r):Hv P f args (er r):=by
 refine A3f (inl:=inl) hC (Bbn (inl:=inl) (J:=J) hG hC hm L D) hm L hf hc _ _ hn ?_
 rw [he]
 exact B56 h rfl
def inL(f:Nat):List Nat→Bool
 | []=>false
 |a::r=>match Nat.beq a f with
  |true=>true
  |false=>inL f r
theorem Z9{n:Int}(h1: -9223372036854775808≤n)(h2:n≤9223372036854775807):B7 n=n:=by
 unfold B7 IntKind.wrap
 simp [IntKind.signed,IntKind.bits]
 split<;>omega
end Go.Proofs.YtofcpkmnhmnfcaaGreatR.Ev
namespace Go.Proofs.YtofcpkmnhmnfcaaGreatR.Ev
open Go
set_option linter.unusedVariables false
set_option linter.unusedSimpArgs false
set_option linter.unnecessarySimpa false
def noJ:Nat→Bool:=fun _=>false
noncomputable def Btc(P:Program)(inl:Nat→Bool)(G:Nat→Option (Nat×Nat))(nb:Nat→Bool)(base:Bd)(L D:Nat):Nat→Bd
 |0=>noC
 |n+1=>fun f args k=>match nb f with
  |true=>base f args k
  |false=>match P.funcs[f]? with
   |some fn=>match cFn P inl fn,Nat.ble args.length fn.ntmps with
    |some ec,true=>B2v P (Btc P inl G nb base L D n) (evI P inl G noJ (Btc P inl G nb base L D n) L D) L fn.results.toList ec args k
    |_,_=>False
   |none=>False
theorem Arm{P:Program}{st:St} :∀(rs:List ResultVar) (k:List PV→Prop),Aaq P st rs k→∃l,k l∧∀k':List PV→Prop,k' l→Aaq P st rs k'
 | [],k,h=>⟨[],h,fun _ h'=>h'⟩
 | .tmp t::r,k,h=>by
  obtain ⟨l,h1,h2⟩:=Arm r _ h
  exact ⟨_,h1,fun k' h'=>h2 (fun l=>k' (st.get t::l)) h'⟩
 | .cell a t::r,k,h=>by
  unfold Aaq at h ⊢
  split at h
  ·rename_i b off sz u h1 h2 h3
   split at h
   ·obtain ⟨l,h5,h6⟩:=Arm r _ h
    exact ⟨_,h5,fun k' h'=>h6 _ h'⟩
   ·obtain ⟨l,h5,h6⟩:=Arm r _ h
    exact ⟨_,h5,fun k' h'=>h6 _ h'⟩
   ·exact h.elim
  ·exact h.elim
theorem Bsy{P:Program}{rs:List ResultVar}{k:PV→Prop}{e:Ex}{st:St}(h:Cp P rs k e st):∃r,k r∧∀k':PV→Prop,k' r→Cp P rs k' e st:=by
 have hf:∀(l:List PV) (k:PV→Prop),∃r,(Aue st.obj k l↔k r)∧∀k':PV→Prop,(Aue st.obj k' l↔k' r):=by
  intro l k
  unfold Aue
  match l with
  | [r]=>exact ⟨_,Iff.rfl,fun _=>Iff.rfl⟩
  | []=>exact ⟨_,Iff.rfl,fun _=>Iff.rfl⟩
  |a::b::c=>exact ⟨_,Iff.rfl,fun _=>Iff.rfl⟩
 have key:Aaq P st rs (Aue st.obj k)→∃r,k r∧∀k':PV→Prop,k' r→Aaq P st rs (Aue st.obj k'):=by
  intro h
  obtain ⟨l,h1,h2⟩:=Arm rs _ h
  obtain ⟨r,h3,h4⟩:=hf l k
  exact ⟨r,h3.1 h1,fun k' h'=>h2 _ ((h4 k').2 h')⟩
 cases e with
 |exit i=>exact h.elim
 |normal=>exact key h
 |ret=>exact key h
theorem A9c{P:Program}{inl:Nat→Bool}{G:Nat→Option (Nat×Nat)}{nb:Nat→Bool}{base:Bd}(hG:A0i P G)(hm:P.follows .mixedOrders=true)(hb:Dv P base)(L D:Nat):∀n,Dv P (Btc P inl G nb base L D n):=by
 intro n
 induction n with
 |zero=>exact A1q P
 |succ n ih=>
  intro f args k h
  unfold Btc at h
  split at h
  ·exact hb f args k h
  split at h
  ·rename_i fn hf
   split at h
   ·rename_i ec hc hn
    obtain ⟨e,st',h1,h2⟩:=Bf6 ih (Bbn (inl:=inl) (J:=noJ) hG ih hm L D) L ec _ _ h
    obtain ⟨r,h3,h4⟩:=Bsy h1
    exact ⟨r,A3f (inl:=inl) Dv.star Aaj.star hm L hf hc args r hn (h2 _ (h4 _ rfl)),h3⟩
   ·exact h.elim
  ·exact h.elim
theorem Bbr{P:Program}{inl:Nat→Bool}{G:Nat→Option (Nat×Nat)}{nb:Nat→Bool}{base:Bd}(hG:A0i P G)(hm:P.follows .mixedOrders=true)(hb:Dv P base)(L D n:Nat){f:Nat}{args:List PV}{r:PV}(h:∀kk,Btc P inl G nb base L D n f args kk=kk r):Hv P f args r:=by
 obtain ⟨r',h1,h2⟩:=A9c (inl:=inl) (nb:=nb) (base:=base) hG hm hb L D n f args (fun p=>p=r) (by rw [h])
 subst h2;exact h1
end Go.Proofs.YtofcpkmnhmnfcaaGreatR.Ev
namespace Go.Proofs.YtofcpkmnhmnfcaaGreatR.Ev
open Go Go.Shelf Go.Proofs
set_option linter.unusedVariables false
set_option linter.unusedSimpArgs false
set_option linter.unnecessarySimpa false
theorem B2z{P:Program}{ρ :Ren}(L:Go.Proofs.Lays8.n4 P ρ){f e b:Nat}(hf: ρ.f 4=f)(he: ρ.t 25=e)(hc:Su P f=true){i:TypeInfo}{z:Value}(hi:P.info? e=some i)(hz:i.zero=some z)(hb:i.bytes=b)(hs:0 < i.size)(hzs:z.cells.size=i.size)
  (hx:∀x,LX.nil e=some x→x.sz=i.size):A6k P f e b:=by
 subst hf;subst he
 refine ⟨hc,fun w m hmb hm=> ?_⟩
 cases m with
 |zero=>
  exact (Any8.slices_Grow_room L none 0 0 0 w (Nat.le_refl _) (by omega) (by omega) (by omega)).mono fun en w' ⟨h1,h2⟩=> .inl ⟨h1,h2⟩
 |succ m=>
  refine (Any8.slices_Grow_grow L i z hi hz hs none 0 0 (m+1) [] w (Nat.le_refl _) (by omega) (by rw [hb];simpa using hmb) (by omega) (by simp) (fun _=>rfl) (fun a h=>by cases h)).mono ?_
  rintro en w' ⟨rfl,rfl⟩
  have hge:=grownCap_ge w (0+(m+1)) 0 (ρ.t 25)
  have hle:=grownCap_le_maxLen w (0+(m+1)) 0 (ρ.t 25) (by unfold maxLen;omega)
  generalize grownCap w (0+(m+1)) 0 (ρ.t 25)=cap at hge hle ⊢
  refine .inr ⟨w.drew,_,cap,rfl,?_,rfl,fun x hxx=> ?_,hle⟩
  ·exact ⟨rfl,rfl,rfl,Nat.le_refl _,fun _ _=>rfl⟩
  ·rw [hx x hxx]
   simp only [Array.size_append,size_zeroCells,hzs,List.size_toArray,List.length_nil,Nat.zero_add]
   rw [←Nat.add_mul]
   congr 1
   omega
theorem Bve{P:Program}{ρ :Ren}(L:Go.Proofs.Lays8.n4 P ρ){f e b sz:Nat}(hf: ρ.f 4=f)(he: ρ.t 25=e)(hc:Su P f=true)
  (h:(P.info? e).map (fun i=>(i.zero.map (fun z=>z.cells.size),i.size,i.bytes))=some (some sz,sz,b)) (hs:0 < sz) (hx:∀x,LX.nil e=some x→x.sz=sz):A6k P f e b:=by
 cases hi:P.info? e with
 |none=>rw [hi] at h;cases h
 |some i=>
  rw [hi] at h
  simp only [Option.map_some,Option.some.injEq,Prod.mk.injEq] at h
  obtain ⟨h1,h2,h3⟩:=h
  cases hz:i.zero with
  |none=>rw [hz] at h1;cases h1
  |some z=>
   rw [hz] at h1
   simp only [Option.map_some,Option.some.injEq] at h1
   exact B2z L hf he hc hi hz h3 (by omega) (by omega) (fun x hh=>by rw [hx x hh,h2])
theorem Ayb{P:Program}{w:World}{ops:Array Oper}{rest:List Oper}{o:Oper}{a:Act}{Q:Exit→Act→World→Prop}(hgd:o.guard=none)(s x:Operand)(t:TypeId)
  (ho:o.op= .call { callee:= .builtin .append,args:= #[s,x],argTypes:= #[t,t] }) (e:TypeId) (ht:P.underlying t=some (.slice e)) (hi:(P.info? e).isSome=true)
  (g:Nat) (hs:a.eval s= .slice (some ⟨g,0,none⟩) 0 0) (ad:Addr) (c:Nat) (hx:a.eval x= .slice (some ad) 0 c)
  (h:wpList P ops Q rest (a.put o.dst (.slice (some ⟨g,0,none⟩) 0 0)) w):wpList P ops Q (o::rest) a w:=by
 cases hi':P.info? e with
 |none=>rw [hi'] at hi;cases hi
 |some i=>
 refine wpList_plain hgd fun K hK=> ?_
 have hf:=run_firstCells_some (P:=P) w i.size 0 ad 0 c [] (by simp) (fun j u hj=>by simp at hj)
 have hr:(Builtin.append_ #[t,t] o.type #[.slice (some ⟨g,0,none⟩) 0 0,.slice (some ad) 0 c]).run P w= .ok (.slice (some ⟨g,0,none⟩) 0 0) w:=by
  simp [Builtin.append_,run_underlying ht,sizeOf,typeInfo,hi',Builtin.lenOf,hf,storeCells]
 unfold Oper.wp execOp
 simp only [ho,resolve,invoke,builtin,Sem.run_bind,Sem.run_pure,Result.andThen_ok,List.map_toArray,List.map_cons,List.map_nil,hs,hx,hr]
 exact hK _ _ h
end Go.Proofs.YtofcpkmnhmnfcaaGreatR.Ev
namespace Go.Proofs.YtofcpkmnhmnfcaaGreatR.Ev
open Go Go.RowKit Go.ChangeShapes Go.WideShapes Go.ChangeAt
set_option linter.unusedVariables false
set_option linter.unusedSimpArgs false
set_option linter.unnecessarySimpa false
def okI(k:IntKind)(n:Int):Prop:=(Lit.int k n).wf=true
def okS(s:ByteArray):Prop:=s.size≤maxLen
section
variable {P:Program} {n:Nat} {t e:TypeId} {l:List PV}
theorem Bzl(hu:P.underlying t=some .bool)(h:Shp P n t l):∃b,l= [.val (.bool b)]:=by
 cases n with
 |zero=>exact h.elim
 |succ n=>simp only [Shp,hu] at h;exact h
theorem Brk{k:IntKind}(hu:P.underlying t=some (.int k))(h:Shp P n t l):∃z,l= [.val (.int k z)]∧okI k z:=by
 cases n with
 |zero=>exact h.elim
 |succ n=>simp only [Shp,hu] at h;exact h
theorem Brl(hu:P.underlying t=some .string)(h:Shp P n t l):∃s,l= [.val (.string s)]∧okS s:=by
 cases n with
 |zero=>exact h.elim
 |succ n=>simp only [Shp,hu] at h;exact h
theorem Bzm(hu:P.underlying t=some (.slice e))(h:Shp P n t l):∃x:LX,l= [.lst false x]∧x.e=e∧x.len≤maxLen∧∃m,m < n∧∀i,i < x.len→Shp P m e (x.row i):=by
 cases n with
 |zero=>exact h.elim
 |succ n=>
  simp only [Shp,hu] at h
  obtain ⟨x,h1,h2,h3,h4⟩:=h
  exact ⟨x,h1,h2,h3,n,by omega,h4⟩
theorem Bzn{fs:Array Field}(hu:P.underlying t=some (.struct fs))(h:Shp P n t l):∃m,m < n∧Bfm (Shp P m) (fs.toList.map (·.type)) l:=by
 cases n with
 |zero=>exact h.elim
 |succ n=>simp only [Shp,hu] at h;exact ⟨n,by omega,h⟩
theorem Bti{S:TypeId→List PV→Prop}{k:Nat}{r:List TypeId}(hw:∀l,S t l→l.length=k)(h:Bfm S (t::r) l):S t (l.take k)∧Bfm S r (l.drop k):=by
 obtain ⟨a,b,rfl,h1,h2⟩:=h
 have:=hw a h1
 rw [List.take_left' this,List.drop_left' this]
 exact ⟨h1,h2⟩
theorem Cd1{k:IntKind}(hu:P.underlying t=some (.int k)){z:Int}(h:Shp P n t [.val (.int k z)]):okI k z:=by
 obtain ⟨z',h1,h2⟩:=Brk hu h
 injection h1 with h1 _
 injection h1 with h1
 injection h1 with _ h1
 subst h1;exact h2
theorem Cd2(hu:P.underlying t=some .string){z:ByteArray}(h:Shp P n t [.val (.string z)]):okS z:=by
 obtain ⟨z',h1,h2⟩:=Brl hu h
 injection h1 with h1 _
 injection h1 with h1
 injection h1 with h1
 subst h1;exact h2
theorem Cmd(hu:P.underlying t=some (.slice e)){x:LX}(h:Shp P n t [.lst false x]):x.len≤maxLen∧∃m,m < n∧∀i,i < x.len→Shp P m e (x.row i):=by
 obtain ⟨z',h1,h2,h3,h4⟩:=Bzm hu h
 injection h1 with h1 _
 injection h1 with _ h1
 subst h1;exact ⟨h3,h4⟩
theorem Bup{α :Type} [Inhabited α]{row: α→List PV}{Q:List PV→Prop}{l:List α}(h:∀i,i < l.length→Q (row (l.getD i default))):∀y∈l,Q (row y):=by
 intro y hy
 obtain ⟨i,hi,rfl⟩:=List.getElem_of_mem hy
 have:=h i hi
 rwa [Hb l i hi] at this
theorem B52{α :Type} [Inhabited α](row: α→List PV)(m:Nat)(f:Nat→List PV)(h:∀i,i < m→∃y,f i=row y):∃l:List α,l.length=m∧∀i,i < m→row (l.getD i default)=f i:=by
 induction m generalizing f with
 |zero=>exact ⟨[],rfl,fun i hi=>by omega⟩
 |succ m ih=>
  obtain ⟨y,hy⟩:=h 0 (by omega)
  obtain ⟨l,h1,h2⟩:=ih (fun i=>f (i+1)) (fun i hi=>h (i+1) (by omega))
  refine ⟨y::l,by simp [h1],fun i hi=> ?_⟩
  cases i with
  |zero=>simpa using hy.symm
  |succ i=>simpa using h2 i (by omega)
end
end Go.Proofs.YtofcpkmnhmnfcaaGreatR.Ev
