/-  Chapters 4 and 10, plainly: distributions; counting statements. -/
import Derived.Test.YtogleahbpobaiaaGreatQA
import Derived.Test.YtogleahbpobaiaaGreatPG
namespace Go.Proofs.YtogleahbpobaiaaGreat.Ev
open Go An
set_option maxRecDepth 100000
set_option linter.unusedVariables false
set_option linter.unusedSimpArgs false
set_option linter.unnecessarySimpa false
theorem Aos{a b:Int}(h:¬a=b):(a != b)=true:=bne_iff_ne.2 h
theorem Y8{α :Type} [Inhabited α](l:List α)(i:Nat)(h:i < l.length):l.drop i=l.getD i default::l.drop (i+1):=by
 rw [List.drop_eq_getElem_cons h,Hk l i h]
theorem Aq5(L:Nat)(a0 a1:List Int):∀(k:List Int) (i:Nat) (v:Bool),i+k.length=a1.length→∃j,F9 L a0 a1 k i v=some (bif decide (k=a1.drop i) then (1,(v,j)) else (0,(false,j))):=by
 intro k
 induction k with
 |nil=>
  intro i v h
  refine ⟨i,?_⟩
  have:a1.drop i= []:=List.drop_eq_nil_of_le (by simp at h;omega)
  rw [this];rfl
 |cons x k ih=>
  intro i v h
  rw [List.length_cons] at h
  obtain ⟨j,hj⟩:=ih (i+1) v (by omega)
  have hi:i < a1.length:=by omega
  rw [F9,Y8 a1 i hi,ifp (show (i:Int) < (a1.length:Int) by omega),hj,Ix]
  generalize a1.getD i default=y
  by_cases hx:x=y
  ·refine ⟨j,?_⟩
   subst hx
   simp
  ·exact ⟨i,by simp [hx,Aos hx]⟩
theorem Ag2(L:Nat)(a b:List Int)(ha:a.length≤maxLen)(hL:maxLen < L):N2 L a b=some (decide (a=b)):=by
 simp only [Ah9,O1,J3,N2,O1,J3,aN,aB,An3 L a b L ha (by omega)]
 by_cases h:(a.length:Int)=(b.length:Int)
 ·obtain ⟨j,hj⟩:=Aq5 L a b a 0 false (by omega)
  rw [hj,List.drop_zero]
  by_cases hab:a=b
  ·simp [hab,S0]
  ·simp [hab,h,H2]
 ·have:a≠b:=by rintro rfl;exact h rfl
  simp [this,Aos h]
theorem Aya(L:Nat)(a0 a1:List Int):∀(k:List Int) (i:Nat) (v:Bool),i+k.length=a1.length→∃j,Jd L a0 a1 k i v=some (bif decide (k=a1.drop i) then (1,(v,j)) else (0,(false,j))):=by
 intro k
 induction k with
 |nil=>
  intro i v h
  refine ⟨i,?_⟩
  have:a1.drop i= []:=List.drop_eq_nil_of_le (by simp at h;omega)
  rw [this];rfl
 |cons x k ih=>
  intro i v h
  rw [List.length_cons] at h
  obtain ⟨j,hj⟩:=ih (i+1) v (by omega)
  have hi:i < a1.length:=by omega
  rw [Jd,Y8 a1 i hi,ifp (show (i:Int) < (a1.length:Int) by omega),hj,Ix]
  generalize a1.getD i default=y
  by_cases hx:x=y
  ·refine ⟨j,?_⟩
   subst hx
   simp
  ·exact ⟨i,by simp [hx,Aos hx]⟩
theorem Aou(L:Nat)(a b:List Int)(ha:a.length≤maxLen)(hL:maxLen < L):Vc L a b=some (decide (a=b)):=by
 simp only [Api,Uy,Qh,Vc,Uy,Qh,aN,aB,Atw L a b L ha (by omega)]
 by_cases h:(a.length:Int)=(b.length:Int)
 ·obtain ⟨j,hj⟩:=Aya L a b a 0 false (by omega)
  rw [hj,List.drop_zero]
  by_cases hab:a=b
  ·simp [hab,S0]
  ·simp [hab,h,H2]
 ·have:a≠b:=by rintro rfl;exact h rfl
  simp [this,Aos h]
def Ami(a b:Bf):Bool:=a.Op == b.Op && a.A == b.A && a.B == b.B && a.N == b.N && decide (a.Values=b.Values) && decide (a.Weights=b.Weights)
def okD(d:Bf):Prop:=d.Values.length≤1099511627776∧d.Weights.length≤1099511627776
theorem Aoa(L:Nat)(a b:Bf)(ha:okD a)(hL:maxLen < L):P6 L a b=some (Ami a b):=by
 have hM:=Bd
 obtain ⟨h1,h2⟩:=ha
 simp only [Apy,P6,aN,aB,Ag2 L a.Values b.Values (by omega) hL,Ag2 L a.Weights b.Weights (by omega) hL,Option.bind_some,Du,Di,Ami]
theorem Aqz(L:Nat)(a b:Bf)(ha:okD a)(hL:maxLen < L):Acj L a b=some (Ami a b):=by
 have hM:=Bd
 obtain ⟨h1,h2⟩:=ha
 simp only [As3,Acj,aN,aB,Aou L a.Values b.Values (by omega) hL,Aou L a.Weights b.Weights (by omega) hL,Option.bind_some,Du,Di,Ami]
def Bp(lo hi x:Int):Bool:=decide (lo≤x) && decide (x≤hi)
def Awy(d:Bf):Bool:=decide (d.Values.length=0) && decide (d.Weights.length=0)
def Aho(d:Bf):Bool:=
 if d.Op=1 then Awy d && d.B == 0 && d.N == 0
 else if d.Op=2∨d.Op=5 then Awy d && d.N == 0
 else if d.Op=4 then Awy d
 else if d.Op=3 then d.A == 0 && d.B == 0 && d.N == 0
 else false
def Bb2(d:Bf):Int:=
 if d.Values.length≠d.Weights.length then 8 else if d.Values.length=0 then 7 else if 20 < d.Values.length then 6
 else if d.Values.all (Bp 0 1000000000) && d.Weights.all (Bp 1 1000) then 0 else 2
def Asn(d:Bf):Int:=
 if Aho d=false then 1
 else if d.Op=1 then (if Bp 0 1000000000 d.A then 0 else 2)
 else if d.Op=2 then (if Bp 0 1000000000 d.A && Bp 0 1000000000 d.B && decide (d.A≤d.B) then 0 else 2)
 else if d.Op=3 then Bb2 d
 else if d.Op=4 then (if Bp 1 20 d.N && Bp 0 1000000 d.A && Bp 0 1000000 d.B && decide (d.A≤d.B) then 0 else 2)
 else (if Bp 1 1000 d.A && Bp 1 1000 d.B then 0 else 2)
theorem Bd8(n:Nat):((n:Int) == 0)=decide (n=0):=by
 cases h:((n:Int) == 0) with
 |true=>have:=eq_of_beq h;exact (decide_eq_true (by omega)).symm
 |false=>symm;apply decide_eq_false;rintro rfl;cases h
theorem Bp4{d:Bf}(h:okD d):(Da ((d.Values.length:Int)+(d.Weights.length:Int)) == 0)=Awy d:=by
 obtain ⟨h1,h2⟩:=h
 rw [Tn (by omega) (by omega),show (d.Values.length:Int)+(d.Weights.length:Int)=((d.Values.length+d.Weights.length:Nat):Int) by omega,Bd8]
 unfold Awy
 rw [←Bool.decide_and]
 exact decide_eq_decide.2 (by omega)
theorem A37(L:Nat)(d:Bf)(h:okD d):Aek L d=some (Aho d):=by
 simp only [Akh,Aek,aN,aB,Bp4 h,Du,Di,Kq,Aho]
 congr 1
 by_cases h1:d.Op=1
 ·simp [h1]
 by_cases h2:d.Op=2
 ·simp [h2]
 by_cases h3:d.Op=3
 ·simp [h3]
 by_cases h4:d.Op=4
 ·simp [h4]
 by_cases h5:d.Op=5
 ·simp [h5]
 simp [h1,h2,h3,h4,h5,beq_false_of_ne h1,beq_false_of_ne h2,beq_false_of_ne h3,beq_false_of_ne h4,beq_false_of_ne h5]
theorem A50(L:Nat)(d:Bf):Ag4 L d=some (Aho d):=by
 simp only [Am4,Ag4,aN,aB,Bd8,Du,Di,Kq,Aho,Awy]
 congr 1
 by_cases h1:d.Op=1
 ·simp [h1,Bool.and_comm,Bool.and_left_comm]
 by_cases h2:d.Op=2
 ·simp [h2,Bool.and_comm]
 by_cases h3:d.Op=3
 ·simp [h3]
 by_cases h4:d.Op=4
 ·simp [h4]
 by_cases h5:d.Op=5
 ·simp [h5,Bool.and_comm]
 simp [h1,h2,h3,h4,h5,beq_false_of_ne h1,beq_false_of_ne h2,beq_false_of_ne h3,beq_false_of_ne h4,beq_false_of_ne h5]
theorem A03(L:Nat)(p:List Int)(lo hi:Int):∀(k:List Int) (i:Nat) (v:Int),∃j:Nat,Kj L p lo hi k i v=some (bif k.all (Bp lo hi) then (1,(v,(j:Int))) else (0,((j:Int),(j:Int)))):=by
 intro k
 induction k with
 |nil=>intro i v;exact ⟨i,rfl⟩
 |cons x k ih=>
  intro i v
  obtain ⟨j,hj⟩:=ih (i+1) v
  rw [Kj,hj,List.all_cons]
  by_cases h1:x < lo
  ·refine ⟨i,?_⟩
   have:Bp lo hi x=false:=by unfold Bp;simp;omega
   simp [h1,this]
  ·by_cases h2:x > hi
   ·refine ⟨i,?_⟩
    have:Bp lo hi x=false:=by unfold Bp;simp;omega
    simp [h1,h2,this]
   ·refine ⟨j,?_⟩
    have:Bp lo hi x=true:=by unfold Bp;simp;omega
    simp [h1,h2,this]
theorem Aau(L:Nat)(lo hi:Int)(l:List Int)(hl:l.length≤1099511627776)(hL:maxLen < L):Gs L lo hi l=some (l.all (Bp lo hi)):=by
 have hM:=Bd
 obtain ⟨j,hj⟩:=A03 L l lo hi l 0 0
 simp only [Asd,Xp,Sf,Gs,Xp,Sf,Acw,Alr,Ad0,W8,aN,aB,Avl L l lo hi L (by omega) (by omega),hj,Option.bind_some]
 cases l.all (Bp lo hi) with
 |true=>rfl
 |false=>simp [H2]
theorem Akv(L:Nat)(d:Bf)(h:okD d)(hL:maxLen < L):P5 L d=some (Asn d):=by
 have hh:=h
 obtain ⟨h1,h2⟩:=hh
 have w1:∀lo hi a,Gs L lo hi [a]=some (Bp lo hi a):=fun lo hi a=>by rw [Aau L lo hi [a] (by simp) hL];simp
 have w2:∀lo hi a b,Gs L lo hi [a,b]=some (Bp lo hi a && Bp lo hi b):=fun lo hi a b=>by rw [Aau L lo hi [a,b] (by simp) hL];simp
 simp only [Anb,P5,aN,aB,A37 L d h,w1,w2,Aau L _ _ _ h1 hL,Aau L _ _ _ h2 hL,Option.bind_some,Du,Di,Asn,Bb2]
 congr 1
 cases hu:Aho d with
 |false=>simp
 |true=>
  simp only [Bool.not_true,cond_false,if_false,Bool.true_eq_false]
  unfold Aho at hu
  by_cases e1:d.Op=1
  ·simp [e1]<;>grind
  by_cases e2:d.Op=2
  ·simp [e2]<;>grind
  by_cases e3:d.Op=3
  ·have q1:((d.Values.length:Int) != (d.Weights.length:Int))=decide (d.Values.length≠d.Weights.length):=by
    rw [Bool.eq_iff_iff];simp;omega
   have q2:decide ((d.Values.length:Int) > 20)=decide (20 < d.Values.length):=decide_eq_decide.2 (by omega)
   simp only [e3,q1,q2,Bd8]
   clear h h1 h2 w1 w2 q1 q2 hu e1 e2 e3
   generalize d.Values.length=nv
   generalize d.Weights.length=nw
   generalize d.Values.all (Bp 0 1000000000)=x
   generalize d.Weights.all (Bp 1 1000)=y
   by_cases c1:nv=nw
   ·subst c1
    by_cases c2:nv=0<;>by_cases c3:20 < nv<;>cases x<;>cases y<;>simp [c2,c3]
   ·simp [c1]
  by_cases e4:d.Op=4
  ·simp [e4]<;>grind
  by_cases e5:d.Op=5
  ·simp [e5]<;>grind
  simp [e1,e2,e3,e4,e5] at hu
theorem Aq0(L:Nat)(x lo hi:Int):F3 L x lo hi=some (Bp lo hi x):=by
 simp only [Ake,F3,aN,aB,Di,Bp]
theorem A6g(L:Nat)(d:Bf):∀(k:List Int) (i:Nat) (v:Int),i+k.length=d.Weights.length→∃j,On L d k i v=some (bif k.all (Bp 0 1000000000) && (d.Weights.drop i).all (Bp 1 1000) then (1,(v,j)) else (0,(2,j))):=by
 intro k
 induction k with
 |nil=>
  intro i v h
  refine ⟨i,?_⟩
  have:d.Weights.drop i= []:=List.drop_eq_nil_of_le (by simp at h;omega)
  rw [this];rfl
 |cons x k ih=>
  intro i v h
  rw [List.length_cons] at h
  obtain ⟨j,hj⟩:=ih (i+1) v (by omega)
  have hi:i < d.Weights.length:=by omega
  rw [On,Y8 d.Weights i hi,hj,List.all_cons,List.all_cons]
  simp only [Aq0,Option.bind_some]
  rw [ifp (show (0:Int)≤(i:Int) by omega),ifp (show (i:Int) < (d.Weights.length:Int) by omega),Ix]
  cases h1:Bp 0 1000000000 x with
  |false=>exact ⟨i,by simp⟩
  |true=>
   cases h2:Bp 1 1000 (d.Weights.getD i default) with
   |false=>exact ⟨i,by simp⟩
   |true=>exact ⟨j,by simp⟩
theorem Bas(L:Nat)(d:Bf)(h:okD d)(hL:maxLen < L):Aje L d=some (Bb2 d):=by
 have hM:=Bd
 obtain ⟨h1,h2⟩:=h
 simp only [Ayp,Abg,Vr,Aje,Abg,Vr,aN,aB,A0e L d L (by omega) (by omega),Bb2]
 by_cases e1:d.Values.length=d.Weights.length
 ·obtain ⟨j,hj⟩:=A6g L d d.Values 0 0 (by omega)
  rw [hj,List.drop_zero]
  by_cases e2:d.Values.length=0
  ·simp [e2,←e1]
  ·by_cases e3:20 < d.Values.length
   ·have q:(20:Int) < (d.Values.length:Int):=by omega
    have q2:((d.Values.length:Int) == 0)=false:=by rw [Bd8];exact decide_eq_false e2
    rw [e1] at q q2 e2 e3 ⊢
    simp [q,q2,e2,e3]
   ·have q:¬(20:Int) < (d.Values.length:Int):=by omega
    have q2:((d.Values.length:Int) == 0)=false:=by rw [Bd8];exact decide_eq_false e2
    rw [e1] at q q2 e2 e3 ⊢
    simp only [bne_self_eq_false,cond_false,q2,gt_iff_lt,q,decide_false,ne_eq,not_true_eq_false,if_false,e2,e3,Option.bind_some]
    cases d.Values.all (Bp 0 1000000000) && d.Weights.all (Bp 1 1000)<;>rfl
 ·have:((d.Values.length:Int) != (d.Weights.length:Int))=true:=Aos (by omega)
  simp [this,e1]
theorem An6(L:Nat)(d:Bf)(h:okD d)(hL:maxLen < L):j7 L d=some (Asn d):=by
 simp only [Aph,j7,aN,aB,A50,Aq0,Bas L d h hL,Option.bind_some,Du,Di,Asn]
 congr 1
 cases hu:Aho d with
 |false=>simp
 |true=>
  simp only [Bool.not_true,cond_false,if_false,Bool.true_eq_false]
  unfold Aho at hu
  by_cases e1:d.Op=1
  ·simp [e1]<;>grind
  by_cases e2:d.Op=2
  ·simp [e2]<;>unfold Bp<;>grind
  by_cases e3:d.Op=3
  ·simp [e3]
  by_cases e4:d.Op=4
  ·simp [e4]<;>unfold Bp<;>grind
  by_cases e5:d.Op=5
  ·simp [e5]<;>grind
  simp [e1,e2,e3,e4,e5] at hu
end Go.Proofs.YtogleahbpobaiaaGreat.Ev
namespace Go.Proofs.YtogleahbpobaiaaGreat.Ev
open Go An
set_option maxRecDepth 100000
set_option linter.unusedVariables false
set_option linter.unusedSimpArgs false
set_option linter.unnecessarySimpa false
mutual
def dS:Ac→Nat
 | .mk _ _ _ _ _ _ _ _ b e=>max (dSs b) (dSs e)+1
def dSs:List Ac→Nat
 | []=>0
 |x::k=>max (dS x) (dSs k)
end
mutual
def ctS:Ac→Nat
 | .mk _ _ _ _ _ _ _ _ b e=>Mt b+Mt e+1
def Mt:List Ac→Nat
 | []=>0
 |x::k=>ctS x+Mt k
end
theorem Bco(s:Ac):dS s=max (dSs s.Body) (dSs s.Else)+1:=by cases s;rw [dS];simp only [Ac.cp_eq,Ac.eta,Ac.Op,Ac.Name,Ac.Of,Ac.E,Ac.F,Ac.Args,Ac.Dist,Ac.Flag,Ac.Body,Ac.Else]
theorem A2y(s:Ac):ctS s=Mt s.Body+Mt s.Else+1:=by cases s;rw [ctS];simp only [Ac.cp_eq,Ac.eta,Ac.Op,Ac.Name,Ac.Of,Ac.E,Ac.F,Ac.Args,Ac.Dist,Ac.Flag,Ac.Body,Ac.Else]
theorem Bim{x:Ac}{k:List Ac}(h:x∈k):dSs x.Body < dSs k∧dSs x.Else < dSs k:=by
 induction k with
 |nil=>cases h
 |cons a k ih=>
  rw [dSs]
  rcases List.mem_cons.1 h with rfl|h
  ·rw [Bco];omega
  ·have:=ih h;omega
theorem A9h(s:Ac):1+(s.Name.size+1)+(s.Of.size+1)+Co s.E+Co s.F+(Db Co s.Args+1)+Ik s.Dist+1+(D0 s.Body+1)+(D0 s.Else+1)+1=C9 s:=by
 rw [Ap7,L3,L3]
theorem Bcg{x:Ac}{k:List Ac}(h:x∈k):C9 x≤D0 k:=by
 rw [L3];exact Ai3 h
theorem Bps(k:List Ac):k.length≤D0 k:=by
 rw [L3]
 exact Iw fun x=>by rw [←A9h];omega
theorem Bpr(k:List Ab):k.length≤Db Co k:=
 Iw fun x=>by cases x;rw [Co];omega
mutual
theorem Cdw:∀s:Ac,dS s≤C9 s
 | .mk a b c d e f g h i j=>by
  rw [dS,C9]
  have:=Ate i
  have:=Ate j
  omega
theorem Ate:∀k:List Ac,dSs k≤D0 k
 | []=>by simp [dSs]
 |x::k=>by
  rw [dSs,D0]
  have:=Cdw x
  have:=Ate k
  omega
end
mutual
theorem B3o:∀s:Ac,ctS s≤C9 s
 | .mk a b c d e f g h i j=>by
  rw [ctS,C9]
  have:=Au2 i
  have:=Au2 j
  omega
theorem Au2:∀k:List Ac,Mt k≤D0 k
 | []=>by simp [Mt]
 |x::k=>by
  rw [Mt,D0]
  have:=B3o x
  have:=Au2 k
  omega
end
theorem Af2{M:List Ac→Prop}(h:∀l:List Ac,(∀y∈l,B4 y∧M y.Body∧M y.Else)→M l){l:List Ac}(hl:∀y∈l,B4 y):M l:=by
 have key:∀s,B4 s→M s.Body∧M s.Else:=by
  intro s hs
  induction hs with
  |mk a0 a1 a2 a3 a4 a5 a6 a7 a8 a9 h0 h1 h2 h3 h4 h5 h5' h6 h7 h8 h8' h9 h9' ih8 ih9=>
   exact ⟨h a8 fun y hy=>⟨h8' y hy,ih8 y hy⟩,h a9 fun y hy=>⟨h9' y hy,ih9 y hy⟩⟩
 exact h l fun y hy=>⟨hl y hy,key y (hl y hy)⟩
theorem Ckx{s:Ac}(h:B4 s):okS s.Name∧okS s.Of∧Bv s.E∧Bv s.F∧(∀y∈s.Args,Bv y)∧Afo s.Dist∧(∀y∈s.Body,B4 y)∧(∀y∈s.Else,B4 y):=by
 cases h with
 |mk a0 a1 a2 a3 a4 a5 a6 a7 a8 a9 h0 h1 h2 h3 h4 h5 h5' h6 h7 h8 h8' h9 h9'=>exact ⟨h1,h2,h3,h4,h5',h6,h8',h9'⟩
def Fu(L:Nat)(l:List Ac):Prop:=maxLen+1048576+dSs l < L∧D0 l≤1048576
theorem Fu.kid{L:Nat}{l:List Ac}(h:Fu (L+1) l){x:Ac}(hx:x∈l):Fu L x.Body∧Fu L x.Else:=by
 obtain ⟨h1,h2⟩:=h
 have:=Bim hx
 have:=Bcg hx
 have:=A9h x
 exact ⟨⟨by omega,by omega⟩,⟨by omega,by omega⟩⟩
theorem Fu.len{L:Nat}{l:List Ac}(h:Fu (L+1) l):l.length≤maxLen∧l.length < L∧l.length≤1048576:=by
 obtain ⟨h1,h2⟩:=h
 have:=Bps l
 have:=Bd
 exact ⟨by omega,by omega,by omega⟩
theorem Fu.one{L:Nat}{l:List Ac}(h:Fu (L+1) l):∃k,L=k+1:=by
 obtain ⟨h1,h2⟩:=h
 have:=Bd
 exact ⟨L - 1,by omega⟩
theorem Fu.pos{L:Nat}{l:List Ac}(h:Fu L l):∃k,L=k+1:=by
 obtain ⟨h1,h2⟩:=h
 exact ⟨L - 1,by omega⟩
theorem A4n(rec:List Ac→Option Int)(L:Nat)(a0:List Ac):∀(k:List Ac) (i:Nat) (v:Nat),v+Mt k≤1048576+1048576→(∀x∈k,rec x.Body=some (Mt x.Body:Int)∧rec x.Else=some (Mt x.Else:Int))→∃j,Ju rec L a0 k i ((v+k.length:Nat):Int)=some (0,(((v+Mt k:Nat):Int),j)):=by
 intro k
 induction k with
 |nil=>intro i v _ _;exact ⟨i,by rw [Ju,Mt];rfl⟩
 |cons x k ih=>
  intro i v hb h
  rw [Mt,A2y] at hb
  have hlen:k.length≤Mt k:=by
   clear ih h hb
   induction k with
   |nil=>simp
   |cons y k ih=>rw [Mt,A2y,List.length_cons];omega
  obtain ⟨h1,h2⟩:=h x (by simp)
  obtain ⟨j,hj⟩:=ih (i+1) (v+1+Mt x.Body+Mt x.Else) (by omega) fun y hy=>h y (by simp [hy])
  refine ⟨j,?_⟩
  rw [Ju,h1,Option.bind_some,h2,Option.bind_some,List.length_cons,Mt,A2y]
  rw [Tn (n:=(Mt x.Body:Int)+(Mt x.Else:Int)) (by omega) (by omega),Tn (by omega) (by omega)]
  rw [show ((v+(k.length+1):Nat):Int)+((Mt x.Body:Int)+(Mt x.Else:Int))=((v+1+Mt x.Body+Mt x.Else+k.length:Nat):Int) by omega,hj]
  congr 3
  omega
theorem A6a{l:List Ac}(hl:∀y∈l,B4 y):∀L,Fu L l→Na L l=some (Mt l:Int):=by
 refine Af2 (M:=fun l=>∀L,Fu L l→Na L l=some (Mt l:Int)) ?_ hl
 intro l ih L hF
 obtain ⟨L,rfl⟩:=hF.pos
 obtain ⟨n1,n2,n3⟩:=hF.len
 have hc:=Au2 l
 obtain ⟨j,hj⟩:=A4n (Na L) L l l 0 0 (by have:=hF.2;omega) fun x hx=>⟨(ih x hx).2.1 L (hF.kid hx).1,(ih x hx).2.2 L (hF.kid hx).2⟩
 rw [Nat.zero_add,Nat.zero_add] at hj
 simp only [Aus,Zz,T7,Amw,Na,Zz,T7,aN,aB,Axr _ L l L n1 n2,hj,Option.bind_some,H2]
theorem A6j(rec:List Ac→Option Int)(L:Nat)(a0:List Ac):∀(k:List Ac) (i:Nat) (v:Nat),v+Mt k≤1048576+1048576→(∀x∈k,rec x.Body=some (Mt x.Body:Int)∧rec x.Else=some (Mt x.Else:Int))→∃j,Lg rec L a0 k i (v:Int)=some (0,(((v+Mt k:Nat):Int),j)):=by
 intro k
 induction k with
 |nil=>intro i v _ _;exact ⟨i,by rw [Lg,Mt];rfl⟩
 |cons x k ih=>
  intro i v hb h
  rw [Mt,A2y] at hb
  obtain ⟨h1,h2⟩:=h x (by simp)
  obtain ⟨j,hj⟩:=ih (i+1) (v+1+Mt x.Body+Mt x.Else) (by omega) fun y hy=>h y (by simp [hy])
  refine ⟨j,?_⟩
  rw [Lg,h1,Option.bind_some,h2,Option.bind_some,Mt,A2y]
  rw [Tn (n:=(v:Int)+1) (by omega) (by omega),Tn (n:=(v:Int)+1+(Mt x.Body:Int)) (by omega) (by omega),Tn (by omega) (by omega)]
  rw [show (v:Int)+1+(Mt x.Body:Int)+(Mt x.Else:Int)=((v+1+Mt x.Body+Mt x.Else:Nat):Int) by omega,hj]
  congr 3
  omega
theorem Av3{l:List Ac}(hl:∀y∈l,B4 y):∀L,Fu L l→Ii L l=some (Mt l:Int):=by
 refine Af2 (M:=fun l=>∀L,Fu L l→Ii L l=some (Mt l:Int)) ?_ hl
 intro l ih L hF
 obtain ⟨L,rfl⟩:=hF.pos
 obtain ⟨n1,n2,n3⟩:=hF.len
 have hc:=Au2 l
 obtain ⟨j,hj⟩:=A6j (Ii L) L l l 0 0 (by have:=hF.2;omega) fun x hx=>⟨(ih x hx).2.1 L (hF.kid hx).1,(ih x hx).2.2 L (hF.kid hx).2⟩
 rw [Nat.zero_add] at hj
 simp only [Ayt,Abk,Vv,Ao8,Ii,Abk,Vv,aN,aB,A0h _ L l L n1 n2]
 rw [show (0:Int)=((0:Nat):Int) from rfl,hj]
 simp only [Option.bind_some,H2]
theorem Bzj(a b:Nat):(if (1+(a:Int)) > (b:Int) then (1+(a:Int)) else (b:Int))=((max b (a+1):Nat):Int):=by
 split<;>omega
theorem A4o(rec:List Ac→Option Int)(L:Nat)(a0:List Ac):∀(k:List Ac) (i:Nat) (v:Nat),dSs k≤1048576→(∀x∈k,rec x.Body=some (dSs x.Body:Int)∧rec x.Else=some (dSs x.Else:Int))→∃j,Jv rec L a0 k i (v:Int)=some (0,(((max v (dSs k):Nat):Int),j)):=by
 intro k
 induction k with
 |nil=>intro i v _ _;exact ⟨i,by rw [Jv,dSs,Nat.max_zero]⟩
 |cons x k ih=>
  intro i v hb h
  rw [dSs,Bco] at hb
  obtain ⟨h1,h2⟩:=h x (by simp)
  obtain ⟨j,hj⟩:=ih (i+1) (max (max v (dSs x.Body+1)) (dSs x.Else+1)) (by omega) fun y hy=>h y (by simp [hy])
  refine ⟨j,?_⟩
  rw [Jv,h1,Option.bind_some,h2,Option.bind_some,dSs,Bco]
  rw [Tn (n:=1+(dSs x.Body:Int)) (by omega) (by omega),Tn (n:=1+(dSs x.Else:Int)) (by omega) (by omega),Bzj,Bzj,hj]
  congr 3
  omega
theorem A6b{l:List Ac}(hl:∀y∈l,B4 y):∀L,Fu L l→Nb L l=some (dSs l:Int):=by
 refine Af2 (M:=fun l=>∀L,Fu L l→Nb L l=some (dSs l:Int)) ?_ hl
 intro l ih L hF
 obtain ⟨L,rfl⟩:=hF.pos
 obtain ⟨n1,n2,n3⟩:=hF.len
 have hc:=Ate l
 obtain ⟨j,hj⟩:=A4o (Nb L) L l l 0 0 (by have:=hF.2;omega) fun x hx=>⟨(ih x hx).2.1 L (hF.kid hx).1,(ih x hx).2.2 L (hF.kid hx).2⟩
 rw [Nat.zero_max] at hj
 simp only [Aut,Z0,T8,Amx,Nb,Z0,T8,aN,aB,Axs _ L l L n1 n2]
 rw [show (0:Int)=((0:Nat):Int) from rfl,hj]
 simp only [Option.bind_some,H2]
theorem A6k(rec:List Ac→Option Int)(L:Nat)(a0:List Ac):∀(k:List Ac) (i:Nat) (v:Nat),dSs k≤1048576→(∀x∈k,rec x.Body=some (dSs x.Body:Int)∧rec x.Else=some (dSs x.Else:Int))→∃j,Lh rec L a0 k i (v:Int)=some (0,(((max v (dSs k):Nat):Int),j)):=by
 intro k
 induction k with
 |nil=>intro i v _ _;exact ⟨i,by rw [Lh,dSs,Nat.max_zero]⟩
 |cons x k ih=>
  intro i v hb h
  rw [dSs,Bco] at hb
  obtain ⟨h1,h2⟩:=h x (by simp)
  obtain ⟨j,hj⟩:=ih (i+1) (max (max v (dSs x.Body+1)) (dSs x.Else+1)) (by omega) fun y hy=>h y (by simp [hy])
  refine ⟨j,?_⟩
  rw [Lh,h1,Option.bind_some,h2,Option.bind_some,dSs,Bco]
  rw [Tn (n:=1+(dSs x.Body:Int)) (by omega) (by omega),Tn (n:=1+(dSs x.Else:Int)) (by omega) (by omega),Bzj,Bzj,hj]
  congr 3
  omega
theorem Bax{l:List Ac}(hl:∀y∈l,B4 y):∀L,Fu L l→P2 L l=some (dSs l:Int):=by
 refine Af2 (M:=fun l=>∀L,Fu L l→P2 L l=some (dSs l:Int)) ?_ hl
 intro l ih L hF
 obtain ⟨L,rfl⟩:=hF.pos
 obtain ⟨n1,n2,n3⟩:=hF.len
 have hc:=Ate l
 obtain ⟨j,hj⟩:=A6k (P2 L) L l l 0 0 (by have:=hF.2;omega) fun x hx=>⟨(ih x hx).2.1 L (hF.kid hx).1,(ih x hx).2.2 L (hF.kid hx).2⟩
 rw [Nat.zero_max] at hj
 simp only [Ayu,Abl,Vw,Ao9,P2,Abl,Vw,aN,aB,A0i _ L l L n1 n2]
 rw [show (0:Int)=((0:Nat):Int) from rfl,hj]
 simp only [Option.bind_some,H2]
end Go.Proofs.YtogleahbpobaiaaGreat.Ev
