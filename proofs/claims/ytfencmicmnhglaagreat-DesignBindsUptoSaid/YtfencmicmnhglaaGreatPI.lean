/-  Chapters 4 and 10, plainly: distributions; counting statements. -/
import Derived.Test.YtfencmicmnhglaaGreatQA
import Derived.Test.YtfencmicmnhglaaGreatPG
namespace Go.Proofs.YtfencmicmnhglaaGreat.Ev
open Go An
set_option maxRecDepth 100000
set_option linter.unusedVariables false
set_option linter.unusedSimpArgs false
set_option linter.unnecessarySimpa false
theorem Axk{a b:Int}(h:¬a=b):(a != b)=true:=bne_iff_ne.2 h
theorem Asj{α :Type} [Inhabited α](l:List α)(i:Nat)(h:i < l.length):l.drop i=l.getD i default::l.drop (i+1):=by
 rw [List.drop_eq_getElem_cons h,Hm l i h]
theorem Ai4(L:Nat)(a0 a1:List Int):∀(k:List Int) (i:Nat) (v:Bool),i+k.length=a1.length→∃j,F7 L a0 a1 k i v=some (bif decide (k=a1.drop i) then (1,(v,j)) else (0,(false,j))):=by
 intro k
 induction k with
 |nil=>
  intro i v h
  refine ⟨i,?_⟩
  have:a1.drop i= []:=List.drop_eq_nil_of_le (by simp at h;omega)
  rw [this];rfl
 |cons x k ih=>
  intro i v h
  rw [List.length_cons] at h
  obtain ⟨j,hj⟩:=ih (i+1) v (by omega)
  have hi:i < a1.length:=by omega
  rw [F7,Asj a1 i hi,ifp (show (i:Int) < (a1.length:Int) by omega),hj,toN]
  generalize a1.getD i default=y
  by_cases hx:x=y
  ·refine ⟨j,?_⟩
   subst hx
   simp
  ·exact ⟨i,by simp [hx,Axk hx]⟩
theorem Abf(L:Nat)(a b:List Int)(ha:a.length≤maxLen)(hL:maxLen < L):M6 L a b=some (decide (a=b)):=by
 simp only [Ab4,Ns,Js,M6,Ns,Js,aN,aB,Agi L a b L ha (by omega)]
 by_cases h:(a.length:Int)=(b.length:Int)
 ·obtain ⟨j,hj⟩:=Ai4 L a b a 0 false (by omega)
  rw [hj,List.drop_zero]
  by_cases hab:a=b
  ·simp [hab,n8]
  ·simp [hab,h,Lx]
 ·have:a≠b:=by rintro rfl;exact h rfl
  simp [this,Axk h]
def An6(a b:Bv):Bool:=a.Op == b.Op && a.A == b.A && a.B == b.B && a.N == b.N && decide (a.Values=b.Values) && decide (a.Weights=b.Weights)
def okD(d:Bv):Prop:=d.Values.length≤1099511627776∧d.Weights.length≤1099511627776
theorem Agm(L:Nat)(a b:Bv)(ha:okD a)(hL:maxLen < L):Oi L a b=some (An6 a b):=by
 have hM:=B4
 obtain ⟨h1,h2⟩:=ha
 simp only [Ah1,Oi,aN,aB,Abf L a.Values b.Values (by omega) hL,Abf L a.Weights b.Weights (by omega) hL,Option.bind_some,Ot,Nx,An6]
def Bx(lo hi x:Int):Bool:=decide (lo≤x) && decide (x≤hi)
def Atp(d:Bv):Bool:=decide (d.Values.length=0) && decide (d.Weights.length=0)
def Aod(d:Bv):Bool:=
 if d.Op=1 then Atp d && d.B == 0 && d.N == 0
 else if d.Op=2∨d.Op=5 then Atp d && d.N == 0
 else if d.Op=4 then Atp d
 else if d.Op=3 then d.A == 0 && d.B == 0 && d.N == 0
 else false
def Bh4(d:Bv):Int:=
 if d.Values.length≠d.Weights.length then 8 else if d.Values.length=0 then 7 else if 20 < d.Values.length then 6
 else if d.Values.all (Bx 0 1000000000) && d.Weights.all (Bx 1 1000) then 0 else 2
def Aqo(d:Bv):Int:=
 if Aod d=false then 1
 else if d.Op=1 then (if Bx 0 1000000000 d.A then 0 else 2)
 else if d.Op=2 then (if Bx 0 1000000000 d.A && Bx 0 1000000000 d.B && decide (d.A≤d.B) then 0 else 2)
 else if d.Op=3 then Bh4 d
 else if d.Op=4 then (if Bx 1 20 d.N && Bx 0 1000000 d.A && Bx 0 1000000 d.B && decide (d.A≤d.B) then 0 else 2)
 else (if Bx 1 1000 d.A && Bx 1 1000 d.B then 0 else 2)
theorem A4z(n:Nat):((n:Int) == 0)=decide (n=0):=by
 cases h:((n:Int) == 0) with
 |true=>have:=eq_of_beq h;exact (decide_eq_true (by omega)).symm
 |false=>symm;apply decide_eq_false;rintro rfl;cases h
theorem Bei{d:Bv}(h:okD d):(Dp ((d.Values.length:Int)+(d.Weights.length:Int)) == 0)=Atp d:=by
 obtain ⟨h1,h2⟩:=h
 rw [V6 (by omega) (by omega),show (d.Values.length:Int)+(d.Weights.length:Int)=((d.Values.length+d.Weights.length:Nat):Int) by omega,A4z]
 unfold Atp
 rw [←Bool.decide_and]
 exact decide_eq_decide.2 (by omega)
theorem Aub(L:Nat)(d:Bv)(h:okD d):t8 L d=some (Aod d):=by
 simp only [Ado,t8,aN,aB,Bei h,Ot,Nx,Xo,Aod]
 congr 1
 by_cases h1:d.Op=1
 ·simp [h1]
 by_cases h2:d.Op=2
 ·simp [h2]
 by_cases h3:d.Op=3
 ·simp [h3]
 by_cases h4:d.Op=4
 ·simp [h4]
 by_cases h5:d.Op=5
 ·simp [h5]
 simp [h1,h2,h3,h4,h5,beq_false_of_ne h1,beq_false_of_ne h2,beq_false_of_ne h3,beq_false_of_ne h4,beq_false_of_ne h5]
theorem Ar0(L:Nat)(p:List Int)(lo hi:Int):∀(k:List Int) (i:Nat) (v:Int),∃j:Nat,Ka L p lo hi k i v=some (bif k.all (Bx lo hi) then (1,(v,(j:Int))) else (0,((j:Int),(j:Int)))):=by
 intro k
 induction k with
 |nil=>intro i v;exact ⟨i,rfl⟩
 |cons x k ih=>
  intro i v
  obtain ⟨j,hj⟩:=ih (i+1) v
  rw [Ka,hj,List.all_cons]
  by_cases h1:x < lo
  ·refine ⟨i,?_⟩
   have:Bx lo hi x=false:=by unfold Bx;simp;omega
   simp [h1,this]
  ·by_cases h2:x > hi
   ·refine ⟨i,?_⟩
    have:Bx lo hi x=false:=by unfold Bx;simp;omega
    simp [h1,h2,this]
   ·refine ⟨j,?_⟩
    have:Bx lo hi x=true:=by unfold Bx;simp;omega
    simp [h1,h2,this]
theorem Y4(L:Nat)(lo hi:Int)(l:List Int)(hl:l.length≤1099511627776)(hL:maxLen < L):Gs L lo hi l=some (l.all (Bx lo hi)):=by
 have hM:=B4
 obtain ⟨j,hj⟩:=Ar0 L l lo hi l 0 0
 simp only [Akb,Qr,Gs,Qr,Z3,Aef,U0,aN,aB,Ane L l lo hi L (by omega) (by omega),hj,Option.bind_some]
 cases l.all (Bx lo hi) with
 |true=>rfl
 |false=>simp [Lx]
theorem Ad0(L:Nat)(d:Bv)(h:okD d)(hL:maxLen < L):Oh L d=some (Aqo d):=by
 have hh:=h
 obtain ⟨h1,h2⟩:=hh
 have w1:∀lo hi a,Gs L lo hi [a]=some (Bx lo hi a):=fun lo hi a=>by rw [Y4 L lo hi [a] (by simp) hL];simp
 have w2:∀lo hi a b,Gs L lo hi [a,b]=some (Bx lo hi a && Bx lo hi b):=fun lo hi a b=>by rw [Y4 L lo hi [a,b] (by simp) hL];simp
 simp only [Afx,Oh,aN,aB,Aub L d h,w1,w2,Y4 L _ _ _ h1 hL,Y4 L _ _ _ h2 hL,Option.bind_some,Ot,Nx,Aqo,Bh4]
 congr 1
 cases hu:Aod d with
 |false=>simp
 |true=>
  simp only [Bool.not_true,cond_false,if_false,Bool.true_eq_false]
  unfold Aod at hu
  by_cases e1:d.Op=1
  ·simp [e1]<;>grind
  by_cases e2:d.Op=2
  ·simp [e2]<;>grind
  by_cases e3:d.Op=3
  ·have q1:((d.Values.length:Int) != (d.Weights.length:Int))=decide (d.Values.length≠d.Weights.length):=by
    rw [Bool.eq_iff_iff];simp;omega
   have q2:decide ((d.Values.length:Int) > 20)=decide (20 < d.Values.length):=decide_eq_decide.2 (by omega)
   simp only [e3,q1,q2,A4z]
   clear h h1 h2 w1 w2 q1 q2 hu e1 e2 e3
   generalize d.Values.length=nv
   generalize d.Weights.length=nw
   generalize d.Values.all (Bx 0 1000000000)=x
   generalize d.Weights.all (Bx 1 1000)=y
   by_cases c1:nv=nw
   ·subst c1
    by_cases c2:nv=0<;>by_cases c3:20 < nv<;>cases x<;>cases y<;>simp [c2,c3]
   ·simp [c1]
  by_cases e4:d.Op=4
  ·simp [e4]<;>grind
  by_cases e5:d.Op=5
  ·simp [e5]<;>grind
  simp [e1,e2,e3,e4,e5] at hu
mutual
def dS:Ac→Nat
 | .mk _ _ _ _ _ _ _ _ b e=>max (dSs b) (dSs e)+1
def dSs:List Ac→Nat
 | []=>0
 |x::k=>max (dS x) (dSs k)
end
mutual
def ctS:Ac→Nat
 | .mk _ _ _ _ _ _ _ _ b e=>Xe b+Xe e+1
def Xe:List Ac→Nat
 | []=>0
 |x::k=>ctS x+Xe k
end
theorem Beb(s:Ac):dS s=max (dSs s.Body) (dSs s.Else)+1:=by cases s;rw [dS];simp only [Ac.cp_eq,Ac.eta,Ac.Op,Ac.Name,Ac.Of,Ac.E,Ac.F,Ac.Args,Ac.Dist,Ac.Flag,Ac.Body,Ac.Else]
theorem A4j(s:Ac):ctS s=Xe s.Body+Xe s.Else+1:=by cases s;rw [ctS];simp only [Ac.cp_eq,Ac.eta,Ac.Op,Ac.Name,Ac.Of,Ac.E,Ac.F,Ac.Args,Ac.Dist,Ac.Flag,Ac.Body,Ac.Else]
theorem A63{x:Ac}{k:List Ac}(h:x∈k):dSs x.Body < dSs k∧dSs x.Else < dSs k:=by
 induction k with
 |nil=>cases h
 |cons a k ih=>
  rw [dSs]
  rcases List.mem_cons.1 h with rfl|h
  ·rw [Beb];omega
  ·have:=ih h;omega
theorem Ay2(s:Ac):1+(s.Name.size+1)+(s.Of.size+1)+Cm s.E+Cm s.F+(C3 Cm s.Args+1)+H5 s.Dist+1+(D9 s.Body+1)+(D9 s.Else+1)+1=C4 s:=by
 rw [Ah8,N3,N3]
theorem A00{x:Ac}{k:List Ac}(h:x∈k):C4 x≤D9 k:=by
 rw [N3];exact Ae9 h
theorem Bd2(k:List Ac):k.length≤D9 k:=by
 rw [N3]
 exact Hj fun x=>by rw [←Ay2];omega
theorem Bd1(k:List Ab):k.length≤C3 Cm k:=
 Hj fun x=>by cases x;rw [Cm];omega
mutual
theorem Byy:∀s:Ac,dS s≤C4 s
 | .mk a b c d e f g h i j=>by
  rw [dS,C4]
  have:=Atd i
  have:=Atd j
  omega
theorem Atd:∀k:List Ac,dSs k≤D9 k
 | []=>by simp [dSs]
 |x::k=>by
  rw [dSs,D9]
  have:=Byy x
  have:=Atd k
  omega
end
mutual
theorem Bq8:∀s:Ac,ctS s≤C4 s
 | .mk a b c d e f g h i j=>by
  rw [ctS,C4]
  have:=Asg i
  have:=Asg j
  omega
theorem Asg:∀k:List Ac,Xe k≤D9 k
 | []=>by simp [Xe]
 |x::k=>by
  rw [Xe,D9]
  have:=Bq8 x
  have:=Asg k
  omega
end
theorem Ajh{M:List Ac→Prop}(h:∀l:List Ac,(∀y∈l,Cs y∧M y.Body∧M y.Else)→M l){l:List Ac}(hl:∀y∈l,Cs y):M l:=by
 have key:∀s,Cs s→M s.Body∧M s.Else:=by
  intro s hs
  induction hs with
  |mk a0 a1 a2 a3 a4 a5 a6 a7 a8 a9 h0 h1 h2 h3 h4 h5 h5' h6 h7 h8 h8' h9 h9' ih8 ih9=>
   exact ⟨h a8 fun y hy=>⟨h8' y hy,ih8 y hy⟩,h a9 fun y hy=>⟨h9' y hy,ih9 y hy⟩⟩
 exact h l fun y hy=>⟨hl y hy,key y (hl y hy)⟩
theorem B4a{s:Ac}(h:Cs s):okS s.Name∧okS s.Of∧B9 s.E∧B9 s.F∧(∀y∈s.Args,B9 y)∧w7 s.Dist∧(∀y∈s.Body,Cs y)∧(∀y∈s.Else,Cs y):=by
 cases h with
 |mk a0 a1 a2 a3 a4 a5 a6 a7 a8 a9 h0 h1 h2 h3 h4 h5 h5' h6 h7 h8 h8' h9 h9'=>exact ⟨h1,h2,h3,h4,h5',h6,h8',h9'⟩
def Fu(L:Nat)(l:List Ac):Prop:=maxLen+1048576+dSs l < L∧D9 l≤1048576
theorem Fu.kid{L:Nat}{l:List Ac}(h:Fu (L+1) l){x:Ac}(hx:x∈l):Fu L x.Body∧Fu L x.Else:=by
 obtain ⟨h1,h2⟩:=h
 have:=A63 hx
 have:=A00 hx
 have:=Ay2 x
 exact ⟨⟨by omega,by omega⟩,⟨by omega,by omega⟩⟩
theorem Fu.len{L:Nat}{l:List Ac}(h:Fu (L+1) l):l.length≤maxLen∧l.length < L∧l.length≤1048576:=by
 obtain ⟨h1,h2⟩:=h
 have:=Bd2 l
 have:=B4
 exact ⟨by omega,by omega,by omega⟩
theorem Fu.one{L:Nat}{l:List Ac}(h:Fu (L+1) l):∃k,L=k+1:=by
 obtain ⟨h1,h2⟩:=h
 have:=B4
 exact ⟨L - 1,by omega⟩
theorem Fu.pos{L:Nat}{l:List Ac}(h:Fu L l):∃k,L=k+1:=by
 obtain ⟨h1,h2⟩:=h
 exact ⟨L - 1,by omega⟩
theorem Aut(rec:List Ac→Option Int)(L:Nat)(a0:List Ac):∀(k:List Ac) (i:Nat) (v:Nat),v+Xe k≤1048576+1048576→(∀x∈k,rec x.Body=some (Xe x.Body:Int)∧rec x.Else=some (Xe x.Else:Int))→∃j,Jf rec L a0 k i ((v+k.length:Nat):Int)=some (0,(((v+Xe k:Nat):Int),j)):=by
 intro k
 induction k with
 |nil=>intro i v _ _;exact ⟨i,by rw [Jf,Xe];rfl⟩
 |cons x k ih=>
  intro i v hb h
  rw [Xe,A4j] at hb
  have hlen:k.length≤Xe k:=by
   clear ih h hb
   induction k with
   |nil=>simp
   |cons y k ih=>rw [Xe,A4j,List.length_cons];omega
  obtain ⟨h1,h2⟩:=h x (by simp)
  obtain ⟨j,hj⟩:=ih (i+1) (v+1+Xe x.Body+Xe x.Else) (by omega) fun y hy=>h y (by simp [hy])
  refine ⟨j,?_⟩
  rw [Jf,h1,Option.bind_some,h2,Option.bind_some,List.length_cons,Xe,A4j]
  rw [V6 (n:=(Xe x.Body:Int)+(Xe x.Else:Int)) (by omega) (by omega),V6 (by omega) (by omega)]
  rw [show ((v+(k.length+1):Nat):Int)+((Xe x.Body:Int)+(Xe x.Else:Int))=((v+1+Xe x.Body+Xe x.Else+k.length:Nat):Int) by omega,hj]
  congr 3
  omega
theorem Awc{l:List Ac}(hl:∀y∈l,Cs y):∀L,Fu L l→Mg L l=some (Xe l:Int):=by
 refine Ajh (M:=fun l=>∀L,Fu L l→Mg L l=some (Xe l:Int)) ?_ hl
 intro l ih L hF
 obtain ⟨L,rfl⟩:=hF.pos
 obtain ⟨n1,n2,n3⟩:=hF.len
 have hc:=Asg l
 obtain ⟨j,hj⟩:=Aut (Mg L) L l l 0 0 (by have:=hF.2;omega) fun x hx=>⟨(ih x hx).2.1 L (hF.kid hx).1,(ih x hx).2.2 L (hF.kid hx).2⟩
 rw [Nat.zero_add,Nat.zero_add] at hj
 simp only [Aml,Sp,Afo,Mg,Sp,aN,aB,Apk _ L l L n1 n2,hj,Option.bind_some,Lx]
theorem Bz6(a b:Nat):(if (1+(a:Int)) > (b:Int) then (1+(a:Int)) else (b:Int))=((max b (a+1):Nat):Int):=by
 split<;>omega
theorem Auu(rec:List Ac→Option Int)(L:Nat)(a0:List Ac):∀(k:List Ac) (i:Nat) (v:Nat),dSs k≤1048576→(∀x∈k,rec x.Body=some (dSs x.Body:Int)∧rec x.Else=some (dSs x.Else:Int))→∃j,Jg rec L a0 k i (v:Int)=some (0,(((max v (dSs k):Nat):Int),j)):=by
 intro k
 induction k with
 |nil=>intro i v _ _;exact ⟨i,by rw [Jg,dSs,Nat.max_zero]⟩
 |cons x k ih=>
  intro i v hb h
  rw [dSs,Beb] at hb
  obtain ⟨h1,h2⟩:=h x (by simp)
  obtain ⟨j,hj⟩:=ih (i+1) (max (max v (dSs x.Body+1)) (dSs x.Else+1)) (by omega) fun y hy=>h y (by simp [hy])
  refine ⟨j,?_⟩
  rw [Jg,h1,Option.bind_some,h2,Option.bind_some,dSs,Beb]
  rw [V6 (n:=1+(dSs x.Body:Int)) (by omega) (by omega),V6 (n:=1+(dSs x.Else:Int)) (by omega) (by omega),Bz6,Bz6,hj]
  congr 3
  omega
theorem Awd{l:List Ac}(hl:∀y∈l,Cs y):∀L,Fu L l→Mh L l=some (dSs l:Int):=by
 refine Ajh (M:=fun l=>∀L,Fu L l→Mh L l=some (dSs l:Int)) ?_ hl
 intro l ih L hF
 obtain ⟨L,rfl⟩:=hF.pos
 obtain ⟨n1,n2,n3⟩:=hF.len
 have hc:=Atd l
 obtain ⟨j,hj⟩:=Auu (Mh L) L l l 0 0 (by have:=hF.2;omega) fun x hx=>⟨(ih x hx).2.1 L (hF.kid hx).1,(ih x hx).2.2 L (hF.kid hx).2⟩
 rw [Nat.zero_max] at hj
 simp only [Amm,Sq,Afp,Mh,Sq,aN,aB,Apl _ L l L n1 n2]
 rw [show (0:Int)=((0:Nat):Int) from rfl,hj]
 simp only [Option.bind_some,Lx]
end Go.Proofs.YtfencmicmnhglaaGreat.Ev
