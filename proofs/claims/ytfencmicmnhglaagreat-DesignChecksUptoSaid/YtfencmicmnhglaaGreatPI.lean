/-  Chapters 4 and 10, plainly: distributions; counting statements. -/
import Derived.Test.YtfencmicmnhglaaGreatQA
import Derived.Test.YtfencmicmnhglaaGreatPG
namespace Go.Proofs.YtfencmicmnhglaaGreat.Ev
open Go An
set_option maxRecDepth 100000
set_option linter.unusedVariables false
set_option linter.unusedSimpArgs false
set_option linter.unnecessarySimpa false
theorem Aqk{a b:Int}(h:¬a=b):(a != b)=true:=bne_iff_ne.2 h
theorem Af1{α :Type} [Inhabited α](l:List α)(i:Nat)(h:i < l.length):l.drop i=l.getD i default::l.drop (i+1):=by
 rw [List.drop_eq_getElem_cons h,Gs l i h]
theorem Asv(L:Nat)(a0 a1:List Int):∀(k:List Int) (i:Nat) (v:Bool),i+k.length=a1.length→∃j,Ha L a0 a1 k i v=some (bif decide (k=a1.drop i) then (1,(v,j)) else (0,(false,j))):=by
 intro k
 induction k with
 |nil=>
  intro i v h
  refine ⟨i,?_⟩
  have:a1.drop i= []:=List.drop_eq_nil_of_le (by simp at h;omega)
  rw [this];rfl
 |cons x k ih=>
  intro i v h
  rw [List.length_cons] at h
  obtain ⟨j,hj⟩:=ih (i+1) v (by omega)
  have hi:i < a1.length:=by omega
  rw [Ha,Af1 a1 i hi,ifp (show (i:Int) < (a1.length:Int) by omega),hj,toN]
  generalize a1.getD i default=y
  by_cases hx:x=y
  ·refine ⟨j,?_⟩
   subst hx
   simp
  ·exact ⟨i,by simp [hx,Aqk hx]⟩
theorem Aif(L:Nat)(a b:List Int)(ha:a.length≤maxLen)(hL:maxLen < L):Ot L a b=some (decide (a=b)):=by
 simp only [Ajs,Qi,Ko,Ot,Qi,Ko,aN,aB,Apv L a b L ha (by omega)]
 by_cases h:(a.length:Int)=(b.length:Int)
 ·obtain ⟨j,hj⟩:=Asv L a b a 0 false (by omega)
  rw [hj,List.drop_zero]
  by_cases hab:a=b
  ·simp [hab,Qo]
  ·simp [hab,h,Hb]
 ·have:a≠b:=by rintro rfl;exact h rfl
  simp [this,Aqk h]
theorem A0d(L:Nat)(a0 a1:List Int):∀(k:List Int) (i:Nat) (v:Bool),i+k.length=a1.length→∃j,Js L a0 a1 k i v=some (bif decide (k=a1.drop i) then (1,(v,j)) else (0,(false,j))):=by
 intro k
 induction k with
 |nil=>
  intro i v h
  refine ⟨i,?_⟩
  have:a1.drop i= []:=List.drop_eq_nil_of_le (by simp at h;omega)
  rw [this];rfl
 |cons x k ih=>
  intro i v h
  rw [List.length_cons] at h
  obtain ⟨j,hj⟩:=ih (i+1) v (by omega)
  have hi:i < a1.length:=by omega
  rw [Js,Af1 a1 i hi,ifp (show (i:Int) < (a1.length:Int) by omega),hj,toN]
  generalize a1.getD i default=y
  by_cases hx:x=y
  ·refine ⟨j,?_⟩
   subst hx
   simp
  ·exact ⟨i,by simp [hx,Aqk hx]⟩
theorem Aqm(L:Nat)(a b:List Int)(ha:a.length≤maxLen)(hL:maxLen < L):Wx L a b=some (decide (a=b)):=by
 simp only [Aq9,Wi,Rx,Wx,Wi,Rx,aN,aB,Avt L a b L ha (by omega)]
 by_cases h:(a.length:Int)=(b.length:Int)
 ·obtain ⟨j,hj⟩:=A0d L a b a 0 false (by omega)
  rw [hj,List.drop_zero]
  by_cases hab:a=b
  ·simp [hab,Qo]
  ·simp [hab,h,Hb]
 ·have:a≠b:=by rintro rfl;exact h rfl
  simp [this,Aqk h]
def An8(a b:Bj):Bool:=a.Op == b.Op && a.A == b.A && a.B == b.B && a.N == b.N && decide (a.Values=b.Values) && decide (a.Weights=b.Weights)
def okD(d:Bj):Prop:=d.Values.length≤1099511627776∧d.Weights.length≤1099511627776
theorem Ap2(L:Nat)(a b:Bj)(ha:okD a)(hL:maxLen < L):Ri L a b=some (An8 a b):=by
 have hM:=Bd
 obtain ⟨h1,h2⟩:=ha
 simp only [Arp,Ri,aN,aB,Aif L a.Values b.Values (by omega) hL,Aif L a.Weights b.Weights (by omega) hL,Option.bind_some,D5,D3,An8]
theorem Asn(L:Nat)(a b:Bj)(ha:okD a)(hL:maxLen < L):Ad4 L a b=some (An8 a b):=by
 have hM:=Bd
 obtain ⟨h1,h2⟩:=ha
 simp only [Au1,Ad4,aN,aB,Aqm L a.Values b.Values (by omega) hL,Aqm L a.Weights b.Weights (by omega) hL,Option.bind_some,D5,D3,An8]
def Br(lo hi x:Int):Bool:=decide (lo≤x) && decide (x≤hi)
def Ay1(d:Bj):Bool:=decide (d.Values.length=0) && decide (d.Weights.length=0)
def Ai7(d:Bj):Bool:=
 if d.Op=1 then Ay1 d && d.B == 0 && d.N == 0
 else if d.Op=2∨d.Op=5 then Ay1 d && d.N == 0
 else if d.Op=4 then Ay1 d
 else if d.Op=3 then d.A == 0 && d.B == 0 && d.N == 0
 else false
def Be3(d:Bj):Int:=
 if d.Values.length≠d.Weights.length then 8 else if d.Values.length=0 then 7 else if 20 < d.Values.length then 6
 else if d.Values.all (Br 0 1000000000) && d.Weights.all (Br 1 1000) then 0 else 2
def Auf(d:Bj):Int:=
 if Ai7 d=false then 1
 else if d.Op=1 then (if Br 0 1000000000 d.A then 0 else 2)
 else if d.Op=2 then (if Br 0 1000000000 d.A && Br 0 1000000000 d.B && decide (d.A≤d.B) then 0 else 2)
 else if d.Op=3 then Be3 d
 else if d.Op=4 then (if Br 1 20 d.N && Br 0 1000000 d.A && Br 0 1000000 d.B && decide (d.A≤d.B) then 0 else 2)
 else (if Br 1 1000 d.A && Br 1 1000 d.B then 0 else 2)
theorem A6h(n:Nat):((n:Int) == 0)=decide (n=0):=by
 cases h:((n:Int) == 0) with
 |true=>have:=eq_of_beq h;exact (decide_eq_true (by omega)).symm
 |false=>symm;apply decide_eq_false;rintro rfl;cases h
theorem Bvh{d:Bj}(h:okD d):(Cq ((d.Values.length:Int)+(d.Weights.length:Int)) == 0)=Ay1 d:=by
 obtain ⟨h1,h2⟩:=h
 rw [S2 (by omega) (by omega),show (d.Values.length:Int)+(d.Weights.length:Int)=((d.Values.length+d.Weights.length:Nat):Int) by omega,A6h]
 unfold Ay1
 rw [←Bool.decide_and]
 exact decide_eq_decide.2 (by omega)
theorem A69(L:Nat)(d:Bj)(h:okD d):Afs L d=some (Ai7 d):=by
 simp only [Al2,Afs,aN,aB,Bvh h,D5,D3,Kn,Ai7]
 congr 1
 by_cases h1:d.Op=1
 ·simp [h1]
 by_cases h2:d.Op=2
 ·simp [h2]
 by_cases h3:d.Op=3
 ·simp [h3]
 by_cases h4:d.Op=4
 ·simp [h4]
 by_cases h5:d.Op=5
 ·simp [h5]
 simp [h1,h2,h3,h4,h5,beq_false_of_ne h1,beq_false_of_ne h2,beq_false_of_ne h3,beq_false_of_ne h4,beq_false_of_ne h5]
theorem A84(L:Nat)(d:Bj):Aih L d=some (Ai7 d):=by
 simp only [Ao0,Aih,aN,aB,A6h,D5,D3,Kn,Ai7,Ay1]
 congr 1
 by_cases h1:d.Op=1
 ·simp [h1,Bool.and_comm,Bool.and_left_comm]
 by_cases h2:d.Op=2
 ·simp [h2,Bool.and_comm]
 by_cases h3:d.Op=3
 ·simp [h3]
 by_cases h4:d.Op=4
 ·simp [h4]
 by_cases h5:d.Op=5
 ·simp [h5,Bool.and_comm]
 simp [h1,h2,h3,h4,h5,beq_false_of_ne h1,beq_false_of_ne h2,beq_false_of_ne h3,beq_false_of_ne h4,beq_false_of_ne h5]
theorem A3i(L:Nat)(p:List Int)(lo hi:Int):∀(k:List Int) (i:Nat) (v:Int),∃j:Nat,K7 L p lo hi k i v=some (bif k.all (Br lo hi) then (1,(v,(j:Int))) else (0,((j:Int),(j:Int)))):=by
 intro k
 induction k with
 |nil=>intro i v;exact ⟨i,rfl⟩
 |cons x k ih=>
  intro i v
  obtain ⟨j,hj⟩:=ih (i+1) v
  rw [K7,hj,List.all_cons]
  by_cases h1:x < lo
  ·refine ⟨i,?_⟩
   have:Br lo hi x=false:=by unfold Br;simp;omega
   simp [h1,this]
  ·by_cases h2:x > hi
   ·refine ⟨i,?_⟩
    have:Br lo hi x=false:=by unfold Br;simp;omega
    simp [h1,h2,this]
   ·refine ⟨j,?_⟩
    have:Br lo hi x=true:=by unfold Br;simp;omega
    simp [h1,h2,this]
theorem Acn(L:Nat)(lo hi:Int)(l:List Int)(hl:l.length≤1099511627776)(hL:maxLen < L):Ht L lo hi l=some (l.all (Br lo hi)):=by
 have hM:=Bd
 obtain ⟨j,hj⟩:=A3i L l lo hi l 0 0
 simp only [At6,Tw,Ht,Tw,Aef,Anh,Y5,aN,aB,Axl L l lo hi L (by omega) (by omega),hj,Option.bind_some]
 cases l.all (Br lo hi) with
 |true=>rfl
 |false=>simp [Hb]
theorem Amj(L:Nat)(d:Bj)(h:okD d)(hL:maxLen < L):Rh L d=some (Auf d):=by
 have hh:=h
 obtain ⟨h1,h2⟩:=hh
 have w1:∀lo hi a,Ht L lo hi [a]=some (Br lo hi a):=fun lo hi a=>by rw [Acn L lo hi [a] (by simp) hL];simp
 have w2:∀lo hi a b,Ht L lo hi [a,b]=some (Br lo hi a && Br lo hi b):=fun lo hi a b=>by rw [Acn L lo hi [a,b] (by simp) hL];simp
 simp only [Ao8,Rh,aN,aB,A69 L d h,w1,w2,Acn L _ _ _ h1 hL,Acn L _ _ _ h2 hL,Option.bind_some,D5,D3,Auf,Be3]
 congr 1
 cases hu:Ai7 d with
 |false=>simp
 |true=>
  simp only [Bool.not_true,cond_false,if_false,Bool.true_eq_false]
  unfold Ai7 at hu
  by_cases e1:d.Op=1
  ·simp [e1]<;>grind
  by_cases e2:d.Op=2
  ·simp [e2]<;>grind
  by_cases e3:d.Op=3
  ·have q1:((d.Values.length:Int) != (d.Weights.length:Int))=decide (d.Values.length≠d.Weights.length):=by
    rw [Bool.eq_iff_iff];simp;omega
   have q2:decide ((d.Values.length:Int) > 20)=decide (20 < d.Values.length):=decide_eq_decide.2 (by omega)
   simp only [e3,q1,q2,A6h]
   clear h h1 h2 w1 w2 q1 q2 hu e1 e2 e3
   generalize d.Values.length=nv
   generalize d.Weights.length=nw
   generalize d.Values.all (Br 0 1000000000)=x
   generalize d.Weights.all (Br 1 1000)=y
   by_cases c1:nv=nw
   ·subst c1
    by_cases c2:nv=0<;>by_cases c3:20 < nv<;>cases x<;>cases y<;>simp [c2,c3]
   ·simp [c1]
  by_cases e4:d.Op=4
  ·simp [e4]<;>grind
  by_cases e5:d.Op=5
  ·simp [e5]<;>grind
  simp [e1,e2,e3,e4,e5] at hu
theorem Aso(L:Nat)(x lo hi:Int):Gt L x lo hi=some (Br lo hi x):=by
 simp only [Aly,Gt,aN,aB,D3,Br]
theorem A9l(L:Nat)(d:Bj):∀(k:List Int) (i:Nat) (v:Int),i+k.length=d.Weights.length→∃j,P2 L d k i v=some (bif k.all (Br 0 1000000000) && (d.Weights.drop i).all (Br 1 1000) then (1,(v,j)) else (0,(2,j))):=by
 intro k
 induction k with
 |nil=>
  intro i v h
  refine ⟨i,?_⟩
  have:d.Weights.drop i= []:=List.drop_eq_nil_of_le (by simp at h;omega)
  rw [this];rfl
 |cons x k ih=>
  intro i v h
  rw [List.length_cons] at h
  obtain ⟨j,hj⟩:=ih (i+1) v (by omega)
  have hi:i < d.Weights.length:=by omega
  rw [P2,Af1 d.Weights i hi,hj,List.all_cons,List.all_cons]
  simp only [Aso,Option.bind_some]
  rw [ifp (show (0:Int)≤(i:Int) by omega),ifp (show (i:Int) < (d.Weights.length:Int) by omega),toN]
  cases h1:Br 0 1000000000 x with
  |false=>exact ⟨i,by simp⟩
  |true=>
   cases h2:Br 1 1000 (d.Weights.getD i default) with
   |false=>exact ⟨i,by simp⟩
   |true=>exact ⟨j,by simp⟩
theorem Bdu(L:Nat)(d:Bj)(h:okD d)(hL:maxLen < L):Akv L d=some (Be3 d):=by
 have hM:=Bd
 obtain ⟨h1,h2⟩:=h
 simp only [A0y,Ada,Xf,Akv,Ada,Xf,aN,aB,A2p L d L (by omega) (by omega),Be3]
 by_cases e1:d.Values.length=d.Weights.length
 ·obtain ⟨j,hj⟩:=A9l L d d.Values 0 0 (by omega)
  rw [hj,List.drop_zero]
  by_cases e2:d.Values.length=0
  ·simp [e2,←e1]
  ·by_cases e3:20 < d.Values.length
   ·have q:(20:Int) < (d.Values.length:Int):=by omega
    have q2:((d.Values.length:Int) == 0)=false:=by rw [A6h];exact decide_eq_false e2
    rw [e1] at q q2 e2 e3 ⊢
    simp [q,q2,e2,e3]
   ·have q:¬(20:Int) < (d.Values.length:Int):=by omega
    have q2:((d.Values.length:Int) == 0)=false:=by rw [A6h];exact decide_eq_false e2
    rw [e1] at q q2 e2 e3 ⊢
    simp only [bne_self_eq_false,cond_false,q2,gt_iff_lt,q,decide_false,ne_eq,not_true_eq_false,if_false,e2,e3,Option.bind_some]
    cases d.Values.all (Br 0 1000000000) && d.Weights.all (Br 1 1000)<;>rfl
 ·have:((d.Values.length:Int) != (d.Weights.length:Int))=true:=Aqk (by omega)
  simp [this,e1]
theorem Apy(L:Nat)(d:Bj)(h:okD d)(hL:maxLen < L):Aal L d=some (Auf d):=by
 simp only [Aq8,Aal,aN,aB,A84,Aso,Bdu L d h hL,Option.bind_some,D5,D3,Auf]
 congr 1
 cases hu:Ai7 d with
 |false=>simp
 |true=>
  simp only [Bool.not_true,cond_false,if_false,Bool.true_eq_false]
  unfold Ai7 at hu
  by_cases e1:d.Op=1
  ·simp [e1]<;>grind
  by_cases e2:d.Op=2
  ·simp [e2]<;>unfold Br<;>grind
  by_cases e3:d.Op=3
  ·simp [e3]
  by_cases e4:d.Op=4
  ·simp [e4]<;>unfold Br<;>grind
  by_cases e5:d.Op=5
  ·simp [e5]<;>grind
  simp [e1,e2,e3,e4,e5] at hu
mutual
def dS:Ac→Nat
 | .mk _ _ _ _ _ _ _ _ b e=>max (dSs b) (dSs e)+1
def dSs:List Ac→Nat
 | []=>0
 |x::k=>max (dS x) (dSs k)
end
mutual
def ctS:Ac→Nat
 | .mk _ _ _ _ _ _ _ _ b e=>Nf b+Nf e+1
def Nf:List Ac→Nat
 | []=>0
 |x::k=>ctS x+Nf k
end
theorem Bfp(s:Ac):dS s=max (dSs s.Body) (dSs s.Else)+1:=by cases s;rw [dS];simp only [Ac.cp_eq,Ac.eta,Ac.Op,Ac.Name,Ac.Of,Ac.E,Ac.F,Ac.Args,Ac.Dist,Ac.Flag,Ac.Body,Ac.Else]
theorem A5u(s:Ac):ctS s=Nf s.Body+Nf s.Else+1:=by cases s;rw [ctS];simp only [Ac.cp_eq,Ac.eta,Ac.Op,Ac.Name,Ac.Of,Ac.E,Ac.F,Ac.Args,Ac.Dist,Ac.Flag,Ac.Body,Ac.Else]
theorem Bmd{x:Ac}{k:List Ac}(h:x∈k):dSs x.Body < dSs k∧dSs x.Else < dSs k:=by
 induction k with
 |nil=>cases h
 |cons a k ih=>
  rw [dSs]
  rcases List.mem_cons.1 h with rfl|h
  ·rw [Bfp];omega
  ·have:=ih h;omega
theorem Bct(s:Ac):1+(s.Name.size+1)+(s.Of.size+1)+Cs s.E+Cs s.F+(Dl Cs s.Args+1)+I0 s.Dist+1+(Em s.Body+1)+(Em s.Else+1)+1=Dk s:=by
 rw [Arx,Qp,Qp]
theorem Bfh{x:Ac}{k:List Ac}(h:x∈k):Dk x≤Em k:=by
 rw [Qp];exact An9 h
theorem Bu7(k:List Ac):k.length≤Em k:=by
 rw [Qp]
 exact Jb fun x=>by rw [←Bct];omega
theorem Bu6(k:List Ab):k.length≤Dl Cs k:=
 Jb fun x=>by cases x;rw [Cs];omega
mutual
theorem Cle:∀s:Ac,dS s≤Dk s
 | .mk a b c d e f g h i j=>by
  rw [dS,Dk]
  have:=Ayw i
  have:=Ayw j
  omega
theorem Ayw:∀k:List Ac,dSs k≤Em k
 | []=>by simp [dSs]
 |x::k=>by
  rw [dSs,Em]
  have:=Cle x
  have:=Ayw k
  omega
end
mutual
theorem Ca4:∀s:Ac,ctS s≤Dk s
 | .mk a b c d e f g h i j=>by
  rw [ctS,Dk]
  have:=Aw1 i
  have:=Aw1 j
  omega
theorem Aw1:∀k:List Ac,Nf k≤Em k
 | []=>by simp [Nf]
 |x::k=>by
  rw [Nf,Em]
  have:=Ca4 x
  have:=Aw1 k
  omega
end
theorem Ac4{M:List Ac→Prop}(h:∀l:List Ac,(∀y∈l,B6 y∧M y.Body∧M y.Else)→M l){l:List Ac}(hl:∀y∈l,B6 y):M l:=by
 have key:∀s,B6 s→M s.Body∧M s.Else:=by
  intro s hs
  induction hs with
  |mk a0 a1 a2 a3 a4 a5 a6 a7 a8 a9 h0 h1 h2 h3 h4 h5 h5' h6 h7 h8 h8' h9 h9' ih8 ih9=>
   exact ⟨h a8 fun y hy=>⟨h8' y hy,ih8 y hy⟩,h a9 fun y hy=>⟨h9' y hy,ih9 y hy⟩⟩
 exact h l fun y hy=>⟨hl y hy,key y (hl y hy)⟩
theorem Cqo{s:Ac}(h:B6 s):okS s.Name∧okS s.Of∧B1 s.E∧B1 s.F∧(∀y∈s.Args,B1 y)∧Ag0 s.Dist∧(∀y∈s.Body,B6 y)∧(∀y∈s.Else,B6 y):=by
 cases h with
 |mk a0 a1 a2 a3 a4 a5 a6 a7 a8 a9 h0 h1 h2 h3 h4 h5 h5' h6 h7 h8 h8' h9 h9'=>exact ⟨h1,h2,h3,h4,h5',h6,h8',h9'⟩
def Fu(L:Nat)(l:List Ac):Prop:=maxLen+1048576+dSs l < L∧Em l≤1048576
theorem Fu.kid{L:Nat}{l:List Ac}(h:Fu (L+1) l){x:Ac}(hx:x∈l):Fu L x.Body∧Fu L x.Else:=by
 obtain ⟨h1,h2⟩:=h
 have:=Bmd hx
 have:=Bfh hx
 have:=Bct x
 exact ⟨⟨by omega,by omega⟩,⟨by omega,by omega⟩⟩
theorem Fu.len{L:Nat}{l:List Ac}(h:Fu (L+1) l):l.length≤maxLen∧l.length < L∧l.length≤1048576:=by
 obtain ⟨h1,h2⟩:=h
 have:=Bu7 l
 have:=Bd
 exact ⟨by omega,by omega,by omega⟩
theorem Fu.one{L:Nat}{l:List Ac}(h:Fu (L+1) l):∃k,L=k+1:=by
 obtain ⟨h1,h2⟩:=h
 have:=Bd
 exact ⟨L - 1,by omega⟩
theorem Fu.pos{L:Nat}{l:List Ac}(h:Fu L l):∃k,L=k+1:=by
 obtain ⟨h1,h2⟩:=h
 exact ⟨L - 1,by omega⟩
theorem A7p(rec:List Ac→Option Int)(L:Nat)(a0:List Ac):∀(k:List Ac) (i:Nat) (v:Nat),v+Nf k≤1048576+1048576→(∀x∈k,rec x.Body=some (Nf x.Body:Int)∧rec x.Else=some (Nf x.Else:Int))→∃j,Kb rec L a0 k i ((v+k.length:Nat):Int)=some (0,(((v+Nf k:Nat):Int),j)):=by
 intro k
 induction k with
 |nil=>intro i v _ _;exact ⟨i,by rw [Kb,Nf];rfl⟩
 |cons x k ih=>
  intro i v hb h
  rw [Nf,A5u] at hb
  have hlen:k.length≤Nf k:=by
   clear ih h hb
   induction k with
   |nil=>simp
   |cons y k ih=>rw [Nf,A5u,List.length_cons];omega
  obtain ⟨h1,h2⟩:=h x (by simp)
  obtain ⟨j,hj⟩:=ih (i+1) (v+1+Nf x.Body+Nf x.Else) (by omega) fun y hy=>h y (by simp [hy])
  refine ⟨j,?_⟩
  rw [Kb,h1,Option.bind_some,h2,Option.bind_some,List.length_cons,Nf,A5u]
  rw [S2 (n:=(Nf x.Body:Int)+(Nf x.Else:Int)) (by omega) (by omega),S2 (by omega) (by omega)]
  rw [show ((v+(k.length+1):Nat):Int)+((Nf x.Body:Int)+(Nf x.Else:Int))=((v+1+Nf x.Body+Nf x.Else+k.length:Nat):Int) by omega,hj]
  congr 3
  omega
theorem A9f{l:List Ac}(hl:∀y∈l,B6 y):∀L,Fu L l→Nt L l=some (Nf l:Int):=by
 refine Ac4 (M:=fun l=>∀L,Fu L l→Nt L l=some (Nf l:Int)) ?_ hl
 intro l ih L hF
 obtain ⟨L,rfl⟩:=hF.pos
 obtain ⟨n1,n2,n3⟩:=hF.len
 have hc:=Aw1 l
 obtain ⟨j,hj⟩:=A7p (Nt L) L l l 0 0 (by have:=hF.2;omega) fun x hx=>⟨(ih x hx).2.1 L (hF.kid hx).1,(ih x hx).2.2 L (hF.kid hx).2⟩
 rw [Nat.zero_add,Nat.zero_add] at hj
 simp only [Awr,Vn,Aon,Nt,Vn,aN,aB,Azu _ L l L n1 n2,hj,Option.bind_some,Hb]
theorem A9o(rec:List Ac→Option Int)(L:Nat)(a0:List Ac):∀(k:List Ac) (i:Nat) (v:Nat),v+Nf k≤1048576+1048576→(∀x∈k,rec x.Body=some (Nf x.Body:Int)∧rec x.Else=some (Nf x.Else:Int))→∃j,L1 rec L a0 k i (v:Int)=some (0,(((v+Nf k:Nat):Int),j)):=by
 intro k
 induction k with
 |nil=>intro i v _ _;exact ⟨i,by rw [L1,Nf];rfl⟩
 |cons x k ih=>
  intro i v hb h
  rw [Nf,A5u] at hb
  obtain ⟨h1,h2⟩:=h x (by simp)
  obtain ⟨j,hj⟩:=ih (i+1) (v+1+Nf x.Body+Nf x.Else) (by omega) fun y hy=>h y (by simp [hy])
  refine ⟨j,?_⟩
  rw [L1,h1,Option.bind_some,h2,Option.bind_some,Nf,A5u]
  rw [S2 (n:=(v:Int)+1) (by omega) (by omega),S2 (n:=(v:Int)+1+(Nf x.Body:Int)) (by omega) (by omega),S2 (by omega) (by omega)]
  rw [show (v:Int)+1+(Nf x.Body:Int)+(Nf x.Else:Int)=((v+1+Nf x.Body+Nf x.Else:Nat):Int) by omega,hj]
  congr 3
  omega
theorem Bdy{l:List Ac}(hl:∀y∈l,B6 y):∀L,Fu L l→Rc L l=some (Nf l:Int):=by
 refine Ac4 (M:=fun l=>∀L,Fu L l→Rc L l=some (Nf l:Int)) ?_ hl
 intro l ih L hF
 obtain ⟨L,rfl⟩:=hF.pos
 obtain ⟨n1,n2,n3⟩:=hF.len
 have hc:=Aw1 l
 obtain ⟨j,hj⟩:=A9o (Rc L) L l l 0 0 (by have:=hF.2;omega) fun x hx=>⟨(ih x hx).2.1 L (hF.kid hx).1,(ih x hx).2.2 L (hF.kid hx).2⟩
 rw [Nat.zero_add] at hj
 simp only [A02,Xj,Aq0,Rc,Xj,aN,aB,A2s _ L l L n1 n2]
 rw [show (0:Int)=((0:Nat):Int) from rfl,hj]
 simp only [Option.bind_some,Hb]
theorem B5s(a b:Nat):(if (1+(a:Int)) > (b:Int) then (1+(a:Int)) else (b:Int))=((max b (a+1):Nat):Int):=by
 split<;>omega
theorem A7q(rec:List Ac→Option Int)(L:Nat)(a0:List Ac):∀(k:List Ac) (i:Nat) (v:Nat),dSs k≤1048576→(∀x∈k,rec x.Body=some (dSs x.Body:Int)∧rec x.Else=some (dSs x.Else:Int))→∃j,Kc rec L a0 k i (v:Int)=some (0,(((max v (dSs k):Nat):Int),j)):=by
 intro k
 induction k with
 |nil=>intro i v _ _;exact ⟨i,by rw [Kc,dSs,Nat.max_zero]⟩
 |cons x k ih=>
  intro i v hb h
  rw [dSs,Bfp] at hb
  obtain ⟨h1,h2⟩:=h x (by simp)
  obtain ⟨j,hj⟩:=ih (i+1) (max (max v (dSs x.Body+1)) (dSs x.Else+1)) (by omega) fun y hy=>h y (by simp [hy])
  refine ⟨j,?_⟩
  rw [Kc,h1,Option.bind_some,h2,Option.bind_some,dSs,Bfp]
  rw [S2 (n:=1+(dSs x.Body:Int)) (by omega) (by omega),S2 (n:=1+(dSs x.Else:Int)) (by omega) (by omega),B5s,B5s,hj]
  congr 3
  omega
theorem A9g{l:List Ac}(hl:∀y∈l,B6 y):∀L,Fu L l→Nu L l=some (dSs l:Int):=by
 refine Ac4 (M:=fun l=>∀L,Fu L l→Nu L l=some (dSs l:Int)) ?_ hl
 intro l ih L hF
 obtain ⟨L,rfl⟩:=hF.pos
 obtain ⟨n1,n2,n3⟩:=hF.len
 have hc:=Ayw l
 obtain ⟨j,hj⟩:=A7q (Nu L) L l l 0 0 (by have:=hF.2;omega) fun x hx=>⟨(ih x hx).2.1 L (hF.kid hx).1,(ih x hx).2.2 L (hF.kid hx).2⟩
 rw [Nat.zero_max] at hj
 simp only [Aws,Vo,Aoo,Nu,Vo,aN,aB,Azv _ L l L n1 n2]
 rw [show (0:Int)=((0:Nat):Int) from rfl,hj]
 simp only [Option.bind_some,Hb]
theorem A9p(rec:List Ac→Option Int)(L:Nat)(a0:List Ac):∀(k:List Ac) (i:Nat) (v:Nat),dSs k≤1048576→(∀x∈k,rec x.Body=some (dSs x.Body:Int)∧rec x.Else=some (dSs x.Else:Int))→∃j,L2 rec L a0 k i (v:Int)=some (0,(((max v (dSs k):Nat):Int),j)):=by
 intro k
 induction k with
 |nil=>intro i v _ _;exact ⟨i,by rw [L2,dSs,Nat.max_zero]⟩
 |cons x k ih=>
  intro i v hb h
  rw [dSs,Bfp] at hb
  obtain ⟨h1,h2⟩:=h x (by simp)
  obtain ⟨j,hj⟩:=ih (i+1) (max (max v (dSs x.Body+1)) (dSs x.Else+1)) (by omega) fun y hy=>h y (by simp [hy])
  refine ⟨j,?_⟩
  rw [L2,h1,Option.bind_some,h2,Option.bind_some,dSs,Bfp]
  rw [S2 (n:=1+(dSs x.Body:Int)) (by omega) (by omega),S2 (n:=1+(dSs x.Else:Int)) (by omega) (by omega),B5s,B5s,hj]
  congr 3
  omega
theorem Bdz{l:List Ac}(hl:∀y∈l,B6 y):∀L,Fu L l→Re L l=some (dSs l:Int):=by
 refine Ac4 (M:=fun l=>∀L,Fu L l→Re L l=some (dSs l:Int)) ?_ hl
 intro l ih L hF
 obtain ⟨L,rfl⟩:=hF.pos
 obtain ⟨n1,n2,n3⟩:=hF.len
 have hc:=Ayw l
 obtain ⟨j,hj⟩:=A9p (Re L) L l l 0 0 (by have:=hF.2;omega) fun x hx=>⟨(ih x hx).2.1 L (hF.kid hx).1,(ih x hx).2.2 L (hF.kid hx).2⟩
 rw [Nat.zero_max] at hj
 simp only [A03,Xk,Aq1,Re,Xk,aN,aB,A2t _ L l L n1 n2]
 rw [show (0:Int)=((0:Nat):Int) from rfl,hj]
 simp only [Option.bind_some,Hb]
end Go.Proofs.YtfencmicmnhglaaGreat.Ev
