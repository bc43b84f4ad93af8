/-  Small words for the printed trees. -/
import Derived.Test.YtcbandfdmbkokaaGreatFq
namespace Go.Proofs.YtcbandfdmbkokaaGreat.Ev
open Go
set_option linter.unusedVariables false
set_option linter.unusedSimpArgs false
set_option linter.unnecessarySimpa false
def I(n:Int):PV:= .val (.int .i64 n)
def V(k:IntKind)(n:Int):PV:= .val (.int k n)
def B(b:Bool):PV:= .val (.bool b)
def S(s:ByteArray):PV:= .val (.string s)
def F9(n:Int):Int:=IntKind.wrap .i64 n
def ob{α :Type}(x:Option α)(k: α→Prop):Prop:=match x with
 |some a=>k a
 |none=>False
def EC.l:EC→EC
 | .seq a _=>a
 | .cond _ a _=>a
 | .block _ b=>b
 | .loop _ b=>b
 |c=>c
def EC.r:EC→EC
 | .seq _ b=>b
 | .cond _ _ b=>b
 |c=>c
def EC.ops:EC→List Jv
 | .region _ _ l=>l
 | .regS l=>l
 |_=> []
def u4(P:Program)(C:Bi)(X:Inl)(n:Nat)(rest:List Jv)(st:St)(d:Option Nat)(k:St→Prop):PV→List (Nat×List PV)→Prop:=
 fun r o'=>S5 P C X n rest (st.app ⟨(dput d r).s,o'⟩) k
def Cr:Nat→List Prop→Prop
 |_,[]=>False
 |0,A::_=>A
 |n+1,_::r=>Cr n r
def Acv{α :Type} :Nat→List (Option α)→Option α
 |_,[]=>none
 |0,A::_=>A
 |n+1,_::r=>Acv n r
def fko{α :Type}(r:Option Nat)(A:Nat→Option α)(B:Option α):Option α :=match r with
 |some i=>A i
 |none=>B
def ap(j:Bool→Prop)(b:Bool):Prop:=j b
def nj(p:Prop):Prop:=p
structure An (A:Type) where
 bd: {α :Type} →Option α→(α→A)→A
 fl:A
 cn:Bool→A→A→A
 gd:(p:Prop)→ [Decidable p]→A→A
 fk:Option Nat→(Nat→A)→A→A
 sl:Nat→List A→A
 lf: {α :Type} →(α→A)→α→A
 jb:Option Bool→((Bool→A)→A)→(Bool→A)→A
 jp:Bool→((Bool→A)→A)→(Bool→A)→A
 ap:(Bool→A)→Bool→A
 nj:A→A
def Bh:An Prop where
 bd:=ob
 fl:=False
 cn:=br
 gd:=fun p _ a=>Ev.gd p a
 fk:=Ev.fk
 sl:=Cr
 lf:=fun k x=>ob (some x) k
 jb:=fun _ X J=>jn X J
 jp:=fun _ X J=>jn X J
 ap:=Ev.ap
 nj:=Ev.nj
def Bq(R:Type):An (Option R) where
 bd:=Option.bind
 fl:=none
 cn:=cond
 gd:=fun p _ a=>if p then a else none
 fk:=fko
 sl:=Acv
 lf:=fun k x=>k x
 jb:=fun x _ J=>x.bind J
 jp:=fun x _ J=>J x
 ap:=fun j b=>j b
 nj:=fun a=>a
section
variable {R:Type}
theorem Ao{α :Type}(x:Option α)(f: α→Option R):(Bq R).bd x f=x.bind f:=rfl
theorem Au:(Bq R).fl=none:=rfl
theorem Al(t:Bool)(a b:Option R):(Bq R).cn t a b=bif t then a else b:=rfl
theorem Am(p:Prop) [Decidable p](a:Option R):(Bq R).gd p a=if p then a else none:=rfl
theorem Ar(x:Option Nat)(f:Nat→Option R)(a:Option R):(Bq R).fk x f a=fko x f a:=rfl
theorem Ap(n:Nat)(l:List (Option R)):(Bq R).sl n l=Acv n l:=rfl
theorem Ak{α :Type}(k: α→Option R)(x: α):(Bq R).lf k x=k x:=rfl
theorem Av(x:Option Bool)(X:(Bool→Option R)→Option R)(J:Bool→Option R):(Bq R).jb x X J=x.bind J:=rfl
theorem Aw(x:Bool)(X:(Bool→Option R)→Option R)(J:Bool→Option R):(Bq R).jp x X J=J x:=rfl
theorem Aq(j:Bool→Option R)(b:Bool):(Bq R).ap j b=j b:=rfl
theorem Ax(a:Option R):(Bq R).nj a=a:=rfl
end
theorem A9w{α :Type}{x:Option α}{a: α}{k: α→Prop}(h:x=some a)(hk:k a):ob x k:=by subst h;exact hk
theorem Xx{α :Type}{x:Option α}{k: α→Prop}(h:ob x k):∃a,x=some a∧k a:=by
 cases x with
 |none=>exact h.elim
 |some a=>exact ⟨a,rfl,h⟩
def Cp(n:Nat)(A:List PV→(PV→Prop)→Prop)(B:Bi):Bi:=fun f args k=>match Nat.beq f n with
 |true=>A args k
 |false=>B f args k
def Kg:Bi:=fun _ _ _=>False
theorem Az(P:Program):Bs P Kg:=fun _ _ _ h=>h.elim
theorem Ad{P:Program}{n:Nat}{A:List PV→(PV→Prop)→Prop}{B:Bi}(hA:∀args k,A args k→∃r,Bc P n args r∧k r)(hB:Bs P B):Bs P (Cp n A B):=by
 intro f args k h
 unfold Cp at h
 cases e:Nat.beq f n with
 |true=>
  rw [e] at h
  have:=Nat.eq_of_beq_eq_true e
  subst this
  exact hA args k h
 |false=>
  rw [e] at h
  exact hB f args k h
theorem Blz{α :Type}(k: α→Prop){t:Bool}{a b:Option α} :br t (ob a k) (ob b k)=ob (bif t then a else b) k:=by cases t<;>rfl
theorem Bo1{α β :Type}(k: α→Prop){x:Option β}{g: β→Option α} :ob x (fun r=>ob (g r) k)=ob (x.bind g) k:=by cases x<;>rfl
theorem Bba{α :Type}(k: α→Prop){p:Prop} [Decidable p]{a:Option α} :(p∧ob a k)=ob (if p then a else none) k:=by
 by_cases hp:p
 ·simp [hp]
 ·simp [hp,ob]
theorem Bau{α :Type}(k: α→Prop){p:Prop} [d:Decidable p]{a:Option α} :Ev.gd p (ob a k)=ob (if p then a else none) k:=by
 rw [Bt,Bba]
theorem Bmv{α :Type}(k: α→Prop){r:Option Nat}{a:Nat→Option α}{b:Option α} :fk r (fun i=>ob (a i) k) (ob b k)=ob (fko r a b) k:=by cases r<;>rfl
theorem A98{α :Type}(k: α→Prop){n:Nat}{a:Option α} :Cr n [ob a k]=ob (Acv n [a]) k:=by
 match n with
 |0=>rfl
 |n+1=>cases n<;>rfl
theorem A99{α :Type}(k: α→Prop){n:Nat}{a b:Option α} :Cr n [ob a k,ob b k]=ob (Acv n [a,b]) k:=by
 match n with
 |0=>rfl
 |1=>rfl
 |n+2=>cases n<;>rfl
theorem Baa{α :Type}(k: α→Prop){n:Nat}{a b c:Option α} :Cr n [ob a k,ob b k,ob c k]=ob (Acv n [a,b,c]) k:=by
 match n with
 |0=>rfl
 |1=>rfl
 |2=>rfl
 |n+3=>cases n<;>rfl
theorem Bab{α :Type}(k: α→Prop){n:Nat}{a b c d:Option α} :Cr n [ob a k,ob b k,ob c k,ob d k]=ob (Acv n [a,b,c,d]) k:=by
 match n with
 |0=>rfl
 |1=>rfl
 |2=>rfl
 |3=>rfl
 |n+4=>cases n<;>rfl
theorem Bly(t x y:Bool)(j:Bool→Prop):br t (ap j x) (ap j y)=ap j (bif t then x else y):=by cases t<;>rfl
theorem Bn1{α σ :Type}(k: α→Prop){t:Option σ}{r: σ→Option α} :jn (fun j=>ob t j) (fun o=>ob (r o) k)=ob (t.bind r) k:=by cases t<;>rfl
theorem w8.of_le{p q:PV}(h:PV.Le p q):w8 p q:=fun _ _ _ _ _ hv=>hv.le h
theorem w8.agg{r s:List PV}(h:Cs r s):w8 (.agg r) (.agg s):=fun _ _ _ _ _ hv=>Acf (g:=true) h hv
theorem w8.ref{r s:List PV}(h:Cs r s):w8 (.ref r) (.ref s):=by
 intro w M β B v hv
 cases hv with
 |row p s hs=>cases hs
 |ref l ad vs hm hr=>
  refine .ref s ad vs (fun i q hq=> ?_) (fun i q hq=> ?_)
  ·obtain ⟨p,hp,_⟩:=h.get.2 i q hq
   exact hm i p hp
  ·obtain ⟨p,hp,hle⟩:=h.get.2 i q hq
   exact (hr i p hp).le hle
inductive Y9:List PV→List PV→Prop
 |nil:Y9 [] []
 |cons {p q:PV} {r s:List PV} (h:w8 p q) (hr:Y9 r s):Y9 (p::r) (q::s)
theorem Y9.get{r s:List PV}(h:Y9 r s):r.length=s.length∧∀(i:Nat) (p q:PV),r[i]? =some p→s[i]? =some q→w8 p q:=by
 induction h with
 |nil=>exact ⟨rfl,fun i p q h=>by simp at h⟩
 |cons h hr ih=>
  refine ⟨by simp [ih.1],fun i p q hp hq=> ?_⟩
  cases i with
  |zero=>simp at hp hq;subst hp;subst hq;exact h
  |succ i=>exact ih.2 i p q (by simpa using hp) (by simpa using hq)
theorem Bc.argsL{P:Program}{f:Nat}{args args':List PV}{r:PV}(h:Bc P f args' r)(hl:Y9 args args'):Bc P f args r:=h.args hl.get.1 hl.get.2
structure Cd (α :Type) where
 en: α→PV
 de:PV→Option α
 le:∀ {p x},de p=some x→w8 p (en x)
def cI(k:IntKind):Cd Int:=⟨fun x=> .val (.int k x),Ix k,fun h=>w8.of_le (Ck h)⟩
def cB:Cd Bool:=⟨fun x=> .val (.bool x),Qe,fun h=>w8.of_le (E8 h)⟩
def cS:Cd ByteArray:=⟨fun x=> .val (.string x),Rv,fun h=>w8.of_le (Dy h)⟩
section
variable {a b c d e f g h ρ :Type} {P:Program} {n:Nat} (er: ρ→PV)
def A0(F:Option ρ):List PV→(PV→Prop)→Prop
 | [],k=>ob F fun r=>k (er r)
 |_,_=>False
def A1(c1:Cd a)(F:a→Option ρ):List PV→(PV→Prop)→Prop
 | [p1],k=>match c1.de p1 with
  |some x1=>ob (F x1) fun r=>k (er r)
  |_=>False
 |_,_=>False
theorem a0{F:Option ρ}(hF:∀r,F=some r→Bc P n [] (er r)):∀args k,A0 er F args k→∃r,Bc P n args r∧k r:=by
 intro args k hA
 unfold A0 at hA
 split at hA
 ·obtain ⟨r,q1,q2⟩:=Xx hA
  exact ⟨_,hF r q1,q2⟩
 ·exact hA.elim
theorem a1{c1:Cd a}{F:a→Option ρ}(hF:∀x1 r,F x1=some r→Bc P n [c1.en x1] (er r)):∀args k,A1 er c1 F args k→∃r,Bc P n args r∧k r:=by
 intro args k hA
 unfold A1 at hA
 split at hA
 ·split at hA
  ·rename_i e1
   obtain ⟨r,q1,q2⟩:=Xx hA
   exact ⟨_,(hF _ r q1).argsL (.cons (c1.le e1) Y9.nil),q2⟩
  ·exact hA.elim
 ·exact hA.elim
def A2(c1:Cd a)(c2:Cd b)(F:a→b→Option ρ):List PV→(PV→Prop)→Prop
 | [p1,p2],k=>match c1.de p1,c2.de p2 with
  |some x1,some x2=>ob (F x1 x2) fun r=>k (er r)
  |_,_=>False
 |_,_=>False
theorem a2{c1:Cd a}{c2:Cd b}{F:a→b→Option ρ}(hF:∀x1 x2 r,F x1 x2=some r→Bc P n [c1.en x1,c2.en x2] (er r)):∀args k,A2 er c1 c2 F args k→∃r,Bc P n args r∧k r:=by
 intro args k hA
 unfold A2 at hA
 split at hA
 ·split at hA
  ·rename_i e1 e2
   obtain ⟨r,q1,q2⟩:=Xx hA
   exact ⟨_,(hF _ _ r q1).argsL (.cons (c1.le e1) (.cons (c2.le e2) Y9.nil)),q2⟩
  ·exact hA.elim
 ·exact hA.elim
def A3(c1:Cd a)(c2:Cd b)(c3:Cd c)(F:a→b→c→Option ρ):List PV→(PV→Prop)→Prop
 | [p1,p2,p3],k=>match c1.de p1,c2.de p2,c3.de p3 with
  |some x1,some x2,some x3=>ob (F x1 x2 x3) fun r=>k (er r)
  |_,_,_=>False
 |_,_=>False
theorem a3{c1:Cd a}{c2:Cd b}{c3:Cd c}{F:a→b→c→Option ρ}(hF:∀x1 x2 x3 r,F x1 x2 x3=some r→Bc P n [c1.en x1,c2.en x2,c3.en x3] (er r)):∀args k,A3 er c1 c2 c3 F args k→∃r,Bc P n args r∧k r:=by
 intro args k hA
 unfold A3 at hA
 split at hA
 ·split at hA
  ·rename_i e1 e2 e3
   obtain ⟨r,q1,q2⟩:=Xx hA
   exact ⟨_,(hF _ _ _ r q1).argsL (.cons (c1.le e1) (.cons (c2.le e2) (.cons (c3.le e3) Y9.nil))),q2⟩
  ·exact hA.elim
 ·exact hA.elim
def A4(c1:Cd a)(c2:Cd b)(c3:Cd c)(c4:Cd d)(F:a→b→c→d→Option ρ):List PV→(PV→Prop)→Prop
 | [p1,p2,p3,p4],k=>match c1.de p1,c2.de p2,c3.de p3,c4.de p4 with
  |some x1,some x2,some x3,some x4=>ob (F x1 x2 x3 x4) fun r=>k (er r)
  |_,_,_,_=>False
 |_,_=>False
theorem a4{c1:Cd a}{c2:Cd b}{c3:Cd c}{c4:Cd d}{F:a→b→c→d→Option ρ}(hF:∀x1 x2 x3 x4 r,F x1 x2 x3 x4=some r→Bc P n [c1.en x1,c2.en x2,c3.en x3,c4.en x4] (er r)):∀args k,A4 er c1 c2 c3 c4 F args k→∃r,Bc P n args r∧k r:=by
 intro args k hA
 unfold A4 at hA
 split at hA
 ·split at hA
  ·rename_i e1 e2 e3 e4
   obtain ⟨r,q1,q2⟩:=Xx hA
   exact ⟨_,(hF _ _ _ _ r q1).argsL (.cons (c1.le e1) (.cons (c2.le e2) (.cons (c3.le e3) (.cons (c4.le e4) Y9.nil)))),q2⟩
  ·exact hA.elim
 ·exact hA.elim
def A5(c1:Cd a)(c2:Cd b)(c3:Cd c)(c4:Cd d)(c5:Cd e)(F:a→b→c→d→e→Option ρ):List PV→(PV→Prop)→Prop
 | [p1,p2,p3,p4,p5],k=>match c1.de p1,c2.de p2,c3.de p3,c4.de p4,c5.de p5 with
  |some x1,some x2,some x3,some x4,some x5=>ob (F x1 x2 x3 x4 x5) fun r=>k (er r)
  |_,_,_,_,_=>False
 |_,_=>False
theorem a5{c1:Cd a}{c2:Cd b}{c3:Cd c}{c4:Cd d}{c5:Cd e}{F:a→b→c→d→e→Option ρ}(hF:∀x1 x2 x3 x4 x5 r,F x1 x2 x3 x4 x5=some r→Bc P n [c1.en x1,c2.en x2,c3.en x3,c4.en x4,c5.en x5] (er r)):∀args k,A5 er c1 c2 c3 c4 c5 F args k→∃r,Bc P n args r∧k r:=by
 intro args k hA
 unfold A5 at hA
 split at hA
 ·split at hA
  ·rename_i e1 e2 e3 e4 e5
   obtain ⟨r,q1,q2⟩:=Xx hA
   exact ⟨_,(hF _ _ _ _ _ r q1).argsL (.cons (c1.le e1) (.cons (c2.le e2) (.cons (c3.le e3) (.cons (c4.le e4) (.cons (c5.le e5) Y9.nil))))),q2⟩
  ·exact hA.elim
 ·exact hA.elim
def A6(c1:Cd a)(c2:Cd b)(c3:Cd c)(c4:Cd d)(c5:Cd e)(c6:Cd f)(F:a→b→c→d→e→f→Option ρ):List PV→(PV→Prop)→Prop
 | [p1,p2,p3,p4,p5,p6],k=>match c1.de p1,c2.de p2,c3.de p3,c4.de p4,c5.de p5,c6.de p6 with
  |some x1,some x2,some x3,some x4,some x5,some x6=>ob (F x1 x2 x3 x4 x5 x6) fun r=>k (er r)
  |_,_,_,_,_,_=>False
 |_,_=>False
theorem a6{c1:Cd a}{c2:Cd b}{c3:Cd c}{c4:Cd d}{c5:Cd e}{c6:Cd f}{F:a→b→c→d→e→f→Option ρ}(hF:∀x1 x2 x3 x4 x5 x6 r,F x1 x2 x3 x4 x5 x6=some r→Bc P n [c1.en x1,c2.en x2,c3.en x3,c4.en x4,c5.en x5,c6.en x6] (er r)):∀args k,A6 er c1 c2 c3 c4 c5 c6 F args k→∃r,Bc P n args r∧k r:=by
 intro args k hA
 unfold A6 at hA
 split at hA
 ·split at hA
  ·rename_i e1 e2 e3 e4 e5 e6
   obtain ⟨r,q1,q2⟩:=Xx hA
   exact ⟨_,(hF _ _ _ _ _ _ r q1).argsL (.cons (c1.le e1) (.cons (c2.le e2) (.cons (c3.le e3) (.cons (c4.le e4) (.cons (c5.le e5) (.cons (c6.le e6) Y9.nil)))))),q2⟩
  ·exact hA.elim
 ·exact hA.elim
def A7(c1:Cd a)(c2:Cd b)(c3:Cd c)(c4:Cd d)(c5:Cd e)(c6:Cd f)(c7:Cd g)(F:a→b→c→d→e→f→g→Option ρ):List PV→(PV→Prop)→Prop
 | [p1,p2,p3,p4,p5,p6,p7],k=>match c1.de p1,c2.de p2,c3.de p3,c4.de p4,c5.de p5,c6.de p6,c7.de p7 with
  |some x1,some x2,some x3,some x4,some x5,some x6,some x7=>ob (F x1 x2 x3 x4 x5 x6 x7) fun r=>k (er r)
  |_,_,_,_,_,_,_=>False
 |_,_=>False
theorem a7{c1:Cd a}{c2:Cd b}{c3:Cd c}{c4:Cd d}{c5:Cd e}{c6:Cd f}{c7:Cd g}{F:a→b→c→d→e→f→g→Option ρ}(hF:∀x1 x2 x3 x4 x5 x6 x7 r,F x1 x2 x3 x4 x5 x6 x7=some r→Bc P n [c1.en x1,c2.en x2,c3.en x3,c4.en x4,c5.en x5,c6.en x6,c7.en x7] (er r)):∀args k,A7 er c1 c2 c3 c4 c5 c6 c7 F args k→∃r,Bc P n args r∧k r:=by
 intro args k hA
 unfold A7 at hA
 split at hA
 ·split at hA
  ·rename_i e1 e2 e3 e4 e5 e6 e7
   obtain ⟨r,q1,q2⟩:=Xx hA
   exact ⟨_,(hF _ _ _ _ _ _ _ r q1).argsL (.cons (c1.le e1) (.cons (c2.le e2) (.cons (c3.le e3) (.cons (c4.le e4) (.cons (c5.le e5) (.cons (c6.le e6) (.cons (c7.le e7) Y9.nil))))))),q2⟩
  ·exact hA.elim
 ·exact hA.elim
def A8(c1:Cd a)(c2:Cd b)(c3:Cd c)(c4:Cd d)(c5:Cd e)(c6:Cd f)(c7:Cd g)(c8:Cd h)(F:a→b→c→d→e→f→g→h→Option ρ):List PV→(PV→Prop)→Prop
 | [p1,p2,p3,p4,p5,p6,p7,p8],k=>match c1.de p1,c2.de p2,c3.de p3,c4.de p4,c5.de p5,c6.de p6,c7.de p7,c8.de p8 with
  |some x1,some x2,some x3,some x4,some x5,some x6,some x7,some x8=>ob (F x1 x2 x3 x4 x5 x6 x7 x8) fun r=>k (er r)
  |_,_,_,_,_,_,_,_=>False
 |_,_=>False
theorem a8{c1:Cd a}{c2:Cd b}{c3:Cd c}{c4:Cd d}{c5:Cd e}{c6:Cd f}{c7:Cd g}{c8:Cd h}{F:a→b→c→d→e→f→g→h→Option ρ}(hF:∀x1 x2 x3 x4 x5 x6 x7 x8 r,F x1 x2 x3 x4 x5 x6 x7 x8=some r→Bc P n [c1.en x1,c2.en x2,c3.en x3,c4.en x4,c5.en x5,c6.en x6,c7.en x7,c8.en x8] (er r)):∀args k,A8 er c1 c2 c3 c4 c5 c6 c7 c8 F args k→∃r,Bc P n args r∧k r:=by
 intro args k hA
 unfold A8 at hA
 split at hA
 ·split at hA
  ·rename_i e1 e2 e3 e4 e5 e6 e7 e8
   obtain ⟨r,q1,q2⟩:=Xx hA
   exact ⟨_,(hF _ _ _ _ _ _ _ _ r q1).argsL (.cons (c1.le e1) (.cons (c2.le e2) (.cons (c3.le e3) (.cons (c4.le e4) (.cons (c5.le e5) (.cons (c6.le e6) (.cons (c7.le e7) (.cons (c8.le e8) Y9.nil)))))))),q2⟩
  ·exact hA.elim
 ·exact hA.elim
end
theorem hE{P:Program}{C:Bi}{inl:Nat→Bool}{G:Nat→Option (Nat×Nat)}{J:Nat→Bool}{D L:Nat}(hG:Agh P G)(hC:Bs P C)(hm:P.follows .mixedOrders=true){f:Nat}{fn:Func}(hf:P.funcs[f]? =some fn){ec:EC}(hc:C4 P inl fn=some ec){args:List PV}{ρ :Type}{r: ρ}{F:Option ρ}{er: ρ→PV}
  (hn:Nat.ble args.length fn.ntmps=true) (he:∀kk,A71 P C (evI P inl G J C L D) L fn.results.toList ec args kk=ob F (fun x=>kk (er x))) (h:F=some r):Bc P f args (er r):=by
 refine Ah1 (inl:=inl) hC (Ap2 (inl:=inl) (J:=J) hG hC hm L D) hm L hf hc _ _ hn ?_
 rw [he]
 exact A9w h rfl
def inL(f:Nat):List Nat→Bool
 | []=>false
 |a::r=>match Nat.beq a f with
  |true=>true
  |false=>inL f r
theorem Vi{n:Int}(h1: -9223372036854775808≤n)(h2:n≤9223372036854775807):F9 n=n:=by
 unfold F9 IntKind.wrap
 simp [IntKind.signed,IntKind.bits]
 split<;>omega
end Go.Proofs.YtcbandfdmbkokaaGreat.Ev
