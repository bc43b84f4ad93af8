/-  Chapters 4 and 10, plainly: distributions; counting statements. -/
import Derived.Test.YtcbandfdmbkokaaGreatQ1
import Derived.Test.YtcbandfdmbkokaaGreatQ2
import Derived.Test.YtcbandfdmbkokaaGreatQ3
import Derived.Test.YtcbandfdmbkokaaGreatQ4
import Derived.Test.YtcbandfdmbkokaaGreatPg
namespace Go.Proofs.YtcbandfdmbkokaaGreat.Ev
open Go
set_option linter.unusedVariables false
set_option linter.unusedSimpArgs false
set_option linter.unnecessarySimpa false
theorem x0{a b:Int}(h:¬a=b):(a != b)=true:=bne_iff_ne.2 h
theorem Zu{α :Type} [Inhabited α](l:List α)(i:Nat)(h:i < l.length):l.drop i=l.getD i default::l.drop (i+1):=by
 rw [List.drop_eq_getElem_cons h,Ro l i h]
theorem Abn(L:Nat)(a0 a1:List Int):∀(k:List Int) (i:Nat) (v:Bool),i+k.length=a1.length→∃j,F8 L a0 a1 k i v=some (bif decide (k=a1.drop i) then (1,(v,j)) else (0,(false,j))):=by
 intro k
 induction k with
 |nil=>
  intro i v h
  refine ⟨i,?_⟩
  have:a1.drop i= []:=List.drop_eq_nil_of_le (by simp at h;omega)
  rw [this];rfl
 |cons x k ih=>
  intro i v h
  rw [List.length_cons] at h
  obtain ⟨j,hj⟩:=ih (i+1) v (by omega)
  have hi:i < a1.length:=by omega
  rw [F8,Zu a1 i hi,ifp (show (i:Int) < (a1.length:Int) by omega),hj,Sr]
  generalize a1.getD i default=y
  by_cases hx:x=y
  ·refine ⟨j,?_⟩
   subst hx
   simp
  ·exact ⟨i,by simp [hx,x0 hx]⟩
theorem Xh(L:Nat)(a b:List Int)(ha:a.length≤maxLen)(hL:maxLen < L):Ds L a b=some (decide (a=b)):=by
 simp only [Nr,Ds,Ao,Au,Al,Am,Ar,Ap,Ak,Av,Aw,Aq,Ax,u7 L a b L ha (by omega)]
 by_cases h:(a.length:Int)=(b.length:Int)
 ·obtain ⟨j,hj⟩:=Abn L a b a 0 false (by omega)
  rw [hj,List.drop_zero]
  by_cases hab:a=b
  ·simp [hab,f6]
  ·simp [hab,h,P9]
 ·have:a≠b:=by rintro rfl;exact h rfl
  simp [this,x0 h]
theorem Ahh(L:Nat)(a0 a1:List Int):∀(k:List Int) (i:Nat) (v:Bool),i+k.length=a1.length→∃j,I0 L a0 a1 k i v=some (bif decide (k=a1.drop i) then (1,(v,j)) else (0,(false,j))):=by
 intro k
 induction k with
 |nil=>
  intro i v h
  refine ⟨i,?_⟩
  have:a1.drop i= []:=List.drop_eq_nil_of_le (by simp at h;omega)
  rw [this];rfl
 |cons x k ih=>
  intro i v h
  rw [List.length_cons] at h
  obtain ⟨j,hj⟩:=ih (i+1) v (by omega)
  have hi:i < a1.length:=by omega
  rw [I0,Zu a1 i hi,ifp (show (i:Int) < (a1.length:Int) by omega),hj,Sr]
  generalize a1.getD i default=y
  by_cases hx:x=y
  ·refine ⟨j,?_⟩
   subst hx
   simp
  ·exact ⟨i,by simp [hx,x0 hx]⟩
theorem Aab(L:Nat)(a b:List Int)(ha:a.length≤maxLen)(hL:maxLen < L):Gj L a b=some (decide (a=b)):=by
 simp only [Sy,Gj,Ao,Au,Al,Am,Ar,Ap,Ak,Av,Aw,Aq,Ax,Ads L a b L ha (by omega)]
 by_cases h:(a.length:Int)=(b.length:Int)
 ·obtain ⟨j,hj⟩:=Ahh L a b a 0 false (by omega)
  rw [hj,List.drop_zero]
  by_cases hab:a=b
  ·simp [hab,f6]
  ·simp [hab,h,P9]
 ·have:a≠b:=by rintro rfl;exact h rfl
  simp [this,x0 h]
def Axg(a b:Bo):Bool:=a.Op == b.Op && a.A == b.A && a.B == b.B && a.N == b.N && decide (a.Values=b.Values) && decide (a.Weights=b.Weights)
def okD(d:Bo):Prop:=d.Values.length≤1099511627776∧d.Weights.length≤1099511627776
theorem Ats(L:Nat)(a b:Bo)(ha:okD a)(hL:maxLen < L):K0 L a b=some (Axg a b):=by
 have hM:=Cf
 obtain ⟨h1,h2⟩:=ha
 simp only [Zk,K0,Ao,Au,Al,Am,Ar,Ap,Ak,Av,Aw,Aq,Ax,Xh L a.Values b.Values (by omega) hL,Xh L a.Weights b.Weights (by omega) hL,Option.bind_some,D7,Dz,Axg]
theorem Awu(L:Nat)(a b:Bo)(ha:okD a)(hL:maxLen < L):Ss L a b=some (Axg a b):=by
 have hM:=Cf
 obtain ⟨h1,h2⟩:=ha
 simp only [m8,Ss,Ao,Au,Al,Am,Ar,Ap,Ak,Av,Aw,Aq,Ax,Aab L a.Values b.Values (by omega) hL,Aab L a.Weights b.Weights (by omega) hL,Option.bind_some,D7,Dz,Axg]
def Gz(lo hi x:Int):Bool:=decide (lo≤x) && decide (x≤hi)
def Ago(d:Bo):Bool:=decide (d.Values.length=0) && decide (d.Weights.length=0)
def X0(d:Bo):Bool:=
 if d.Op=1 then Ago d && d.B == 0 && d.N == 0
 else if d.Op=2∨d.Op=5 then Ago d && d.N == 0
 else if d.Op=4 then Ago d
 else if d.Op=3 then d.A == 0 && d.B == 0 && d.N == 0
 else false
def Au0(d:Bo):Int:=
 if d.Values.length≠d.Weights.length then 8 else if d.Values.length=0 then 7 else if 20 < d.Values.length then 6
 else if d.Values.all (Gz 0 1000000000) && d.Weights.all (Gz 1 1000) then 0 else 2
def Avz(d:Bo):Int:=
 if X0 d=false then 1
 else if d.Op=1 then (if Gz 0 1000000000 d.A then 0 else 2)
 else if d.Op=2 then (if Gz 0 1000000000 d.A && Gz 0 1000000000 d.B && decide (d.A≤d.B) then 0 else 2)
 else if d.Op=3 then Au0 d
 else if d.Op=4 then (if Gz 1 20 d.N && Gz 0 1000000 d.A && Gz 0 1000000 d.B && decide (d.A≤d.B) then 0 else 2)
 else (if Gz 1 1000 d.A && Gz 1 1000 d.B then 0 else 2)
theorem Awm(n:Nat):((n:Int) == 0)=decide (n=0):=by
 cases h:((n:Int) == 0) with
 |true=>have:=eq_of_beq h;exact (decide_eq_true (by omega)).symm
 |false=>symm;apply decide_eq_false;rintro rfl;cases h
theorem A3g{d:Bo}(h:okD d):(F9 ((d.Values.length:Int)+(d.Weights.length:Int)) == 0)=Ago d:=by
 obtain ⟨h1,h2⟩:=h
 rw [Vi (by omega) (by omega),show (d.Values.length:Int)+(d.Weights.length:Int)=((d.Values.length+d.Weights.length:Nat):Int) by omega,Awm]
 unfold Ago
 rw [←Bool.decide_and]
 exact decide_eq_decide.2 (by omega)
theorem Amd(L:Nat)(d:Bo)(h:okD d):M4 L d=some (X0 d):=by
 simp only [Vy,M4,Ao,Au,Al,Am,Ar,Ap,Ak,Av,Aw,Aq,Ax,A3g h,D7,Dz,O8,X0]
 congr 1
 by_cases h1:d.Op=1
 ·simp [h1]
 by_cases h2:d.Op=2
 ·simp [h2]
 by_cases h3:d.Op=3
 ·simp [h3]
 by_cases h4:d.Op=4
 ·simp [h4]
 by_cases h5:d.Op=5
 ·simp [h5]
 simp [h1,h2,h3,h4,h5,beq_false_of_ne h1,beq_false_of_ne h2,beq_false_of_ne h3,beq_false_of_ne h4,beq_false_of_ne h5]
theorem Aol(L:Nat)(d:Bo):Oy L d=some (X0 d):=by
 simp only [Xi,Oy,Ao,Au,Al,Am,Ar,Ap,Ak,Av,Aw,Aq,Ax,Awm,D7,Dz,O8,X0,Ago]
 congr 1
 by_cases h1:d.Op=1
 ·simp [h1,Bool.and_comm,Bool.and_left_comm]
 by_cases h2:d.Op=2
 ·simp [h2,Bool.and_comm]
 by_cases h3:d.Op=3
 ·simp [h3]
 by_cases h4:d.Op=4
 ·simp [h4]
 by_cases h5:d.Op=5
 ·simp [h5,Bool.and_comm]
 simp [h1,h2,h3,h4,h5,beq_false_of_ne h1,beq_false_of_ne h2,beq_false_of_ne h3,beq_false_of_ne h4,beq_false_of_ne h5]
theorem Ajo(L:Nat)(p:List Int)(lo hi:Int):∀(k:List Int) (i:Nat) (v:Int),∃j:Nat,J9 L p lo hi k i v=some (bif k.all (Gz lo hi) then (1,(v,(j:Int))) else (0,((j:Int),(j:Int)))):=by
 intro k
 induction k with
 |nil=>intro i v;exact ⟨i,rfl⟩
 |cons x k ih=>
  intro i v
  obtain ⟨j,hj⟩:=ih (i+1) v
  rw [J9,hj,List.all_cons]
  by_cases h1:x < lo
  ·refine ⟨i,?_⟩
   have:Gz lo hi x=false:=by unfold Gz;simp;omega
   simp [h1,this]
  ·by_cases h2:x > hi
   ·refine ⟨i,?_⟩
    have:Gz lo hi x=false:=by unfold Gz;simp;omega
    simp [h1,h2,this]
   ·refine ⟨j,?_⟩
    have:Gz lo hi x=true:=by unfold Gz;simp;omega
    simp [h1,h2,this]
theorem Vc(L:Nat)(lo hi:Int)(l:List Int)(hl:l.length≤1099511627776)(hL:maxLen < L):Dg L lo hi l=some (l.all (Gz lo hi)):=by
 have hM:=Cf
 obtain ⟨j,hj⟩:=Ajo L l lo hi l 0 0
 simp only [Tl,Dg,Td,Qf,Ao,Au,Al,Am,Ar,Ap,Ak,Av,Aw,Aq,Ax,Aev L l lo hi L (by omega) (by omega),hj,Option.bind_some]
 cases l.all (Gz lo hi) with
 |true=>rfl
 |false=>simp [P9]
theorem Aop(L:Nat)(d:Bo)(h:okD d)(hL:maxLen < L):Mv L d=some (Avz d):=by
 have hh:=h
 obtain ⟨h1,h2⟩:=hh
 have w1:∀lo hi a,Dg L lo hi [a]=some (Gz lo hi a):=fun lo hi a=>by rw [Vc L lo hi [a] (by simp) hL];simp
 have w2:∀lo hi a b,Dg L lo hi [a,b]=some (Gz lo hi a && Gz lo hi b):=fun lo hi a b=>by rw [Vc L lo hi [a,b] (by simp) hL];simp
 simp only [Xm,Mv,Ao,Au,Al,Am,Ar,Ap,Ak,Av,Aw,Aq,Ax,Amd L d h,w1,w2,Vc L _ _ _ h1 hL,Vc L _ _ _ h2 hL,Option.bind_some,D7,Dz,Avz,Au0]
 congr 1
 cases hu:X0 d with
 |false=>simp
 |true=>
  simp only [Bool.not_true,cond_false,if_false,Bool.true_eq_false]
  unfold X0 at hu
  by_cases e1:d.Op=1
  ·simp [e1]<;>grind
  by_cases e2:d.Op=2
  ·simp [e2]<;>grind
  by_cases e3:d.Op=3
  ·have q1:((d.Values.length:Int) != (d.Weights.length:Int))=decide (d.Values.length≠d.Weights.length):=by
    rw [Bool.eq_iff_iff];simp;omega
   have q2:decide ((d.Values.length:Int) > 20)=decide (20 < d.Values.length):=decide_eq_decide.2 (by omega)
   simp only [e3,q1,q2,Awm]
   clear h h1 h2 w1 w2 q1 q2 hu e1 e2 e3
   generalize d.Values.length=nv
   generalize d.Weights.length=nw
   generalize d.Values.all (Gz 0 1000000000)=x
   generalize d.Weights.all (Gz 1 1000)=y
   by_cases c1:nv=nw
   ·subst c1
    by_cases c2:nv=0<;>by_cases c3:20 < nv<;>cases x<;>cases y<;>simp [c2,c3]
   ·simp [c1]
  by_cases e4:d.Op=4
  ·simp [e4]<;>grind
  by_cases e5:d.Op=5
  ·simp [e5]<;>grind
  simp [e1,e2,e3,e4,e5] at hu
theorem Abh(L:Nat)(x lo hi:Int):Cz L x lo hi=some (Gz lo hi x):=by
 simp only [Vv,Cz,Ao,Au,Al,Am,Ar,Ap,Ak,Av,Aw,Aq,Ax,Dz,Gz]
theorem Aoz(L:Nat)(d:Bo):∀(k:List Int) (i:Nat) (v:Int),i+k.length=d.Weights.length→∃j,N8 L d k i v=some (bif k.all (Gz 0 1000000000) && (d.Weights.drop i).all (Gz 1 1000) then (1,(v,j)) else (0,(2,j))):=by
 intro k
 induction k with
 |nil=>
  intro i v h
  refine ⟨i,?_⟩
  have:d.Weights.drop i= []:=List.drop_eq_nil_of_le (by simp at h;omega)
  rw [this];rfl
 |cons x k ih=>
  intro i v h
  rw [List.length_cons] at h
  obtain ⟨j,hj⟩:=ih (i+1) v (by omega)
  have hi:i < d.Weights.length:=by omega
  rw [N8,Zu d.Weights i hi,hj,List.all_cons,List.all_cons]
  simp only [Abh,Option.bind_some]
  rw [ifp (show (0:Int)≤(i:Int) by omega),ifp (show (i:Int) < (d.Weights.length:Int) by omega),Sr]
  cases h1:Gz 0 1000000000 x with
  |false=>exact ⟨i,by simp⟩
  |true=>
   cases h2:Gz 1 1000 (d.Weights.getD i default) with
   |false=>exact ⟨i,by simp⟩
   |true=>exact ⟨j,by simp⟩
theorem Ate(L:Nat)(d:Bo)(h:okD d)(hL:maxLen < L):Q6 L d=some (Au0 d):=by
 have hM:=Cf
 obtain ⟨h1,h2⟩:=h
 simp only [Wd,Q6,Ao,Au,Al,Am,Ar,Ap,Ak,Av,Aw,Aq,Ax,Aiw L d L (by omega) (by omega),Au0]
 by_cases e1:d.Values.length=d.Weights.length
 ·obtain ⟨j,hj⟩:=Aoz L d d.Values 0 0 (by omega)
  rw [hj,List.drop_zero]
  by_cases e2:d.Values.length=0
  ·simp [e2,←e1]
  ·by_cases e3:20 < d.Values.length
   ·have q:(20:Int) < (d.Values.length:Int):=by omega
    have q2:((d.Values.length:Int) == 0)=false:=by rw [Awm];exact decide_eq_false e2
    rw [e1] at q q2 e2 e3 ⊢
    simp [q,q2,e2,e3]
   ·have q:¬(20:Int) < (d.Values.length:Int):=by omega
    have q2:((d.Values.length:Int) == 0)=false:=by rw [Awm];exact decide_eq_false e2
    rw [e1] at q q2 e2 e3 ⊢
    simp only [bne_self_eq_false,cond_false,q2,gt_iff_lt,q,decide_false,ne_eq,not_true_eq_false,if_false,e2,e3,Option.bind_some]
    cases d.Values.all (Gz 0 1000000000) && d.Weights.all (Gz 1 1000)<;>rfl
 ·have:((d.Values.length:Int) != (d.Weights.length:Int))=true:=x0 (by omega)
  simp [this,e1]
theorem Atd(L:Nat)(d:Bo)(h:okD d)(hL:maxLen < L):Q0 L d=some (Avz d):=by
 simp only [Zc,Q0,Ao,Au,Al,Am,Ar,Ap,Ak,Av,Aw,Aq,Ax,Aol,Abh,Ate L d h hL,Option.bind_some,D7,Dz,Avz]
 congr 1
 cases hu:X0 d with
 |false=>simp
 |true=>
  simp only [Bool.not_true,cond_false,if_false,Bool.true_eq_false]
  unfold X0 at hu
  by_cases e1:d.Op=1
  ·simp [e1]<;>grind
  by_cases e2:d.Op=2
  ·simp [e2]<;>unfold Gz<;>grind
  by_cases e3:d.Op=3
  ·simp [e3]
  by_cases e4:d.Op=4
  ·simp [e4]<;>unfold Gz<;>grind
  by_cases e5:d.Op=5
  ·simp [e5]<;>grind
  simp [e1,e2,e3,e4,e5] at hu
end Go.Proofs.YtcbandfdmbkokaaGreat.Ev
