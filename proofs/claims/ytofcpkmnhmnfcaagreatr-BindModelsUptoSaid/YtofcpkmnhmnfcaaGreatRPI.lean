/-  Chapters 4 and 10, plainly: distributions; counting statements. -/
import Derived.Test.YtofcpkmnhmnfcaaGreatRQA
import Derived.Test.YtofcpkmnhmnfcaaGreatRPG
namespace Go.Proofs.YtofcpkmnhmnfcaaGreatR.Ev
open Go An
set_option maxRecDepth 100000
set_option linter.unusedVariables false
set_option linter.unusedSimpArgs false
set_option linter.unnecessarySimpa false
theorem Asp{a b:Int}(h:¬a=b):(a != b)=true:=bne_iff_ne.2 h
theorem Abd{α :Type} [Inhabited α](l:List α)(i:Nat)(h:i < l.length):l.drop i=l.getD i default::l.drop (i+1):=by
 rw [List.drop_eq_getElem_cons h,Hb l i h]
theorem Aut(L:Nat)(a0 a1:List Int):∀(k:List Int) (i:Nat) (v:Bool),i+k.length=a1.length→∃j,Gy L a0 a1 k i v=some (bif decide (k=a1.drop i) then (1,(v,j)) else (0,(false,j))):=by
 intro k
 induction k with
 |nil=>
  intro i v h
  refine ⟨i,?_⟩
  have:a1.drop i= []:=List.drop_eq_nil_of_le (by simp at h;omega)
  rw [this];rfl
 |cons x k ih=>
  intro i v h
  rw [List.length_cons] at h
  obtain ⟨j,hj⟩:=ih (i+1) v (by omega)
  have hi:i < a1.length:=by omega
  rw [Gy,Abd a1 i hi,ifp (show (i:Int) < (a1.length:Int) by omega),hj,Z8]
  generalize a1.getD i default=y
  by_cases hx:x=y
  ·refine ⟨j,?_⟩
   subst hx
   simp
  ·exact ⟨i,by simp [hx,Asp hx]⟩
theorem Akt(L:Nat)(a b:List Int)(ha:a.length≤maxLen)(hL:maxLen < L):P5 L a b=some (decide (a=b)):=by
 simp only [Al7,Rp,K5,P5,Rp,K5,aN,aB,Ars L a b L ha (by omega)]
 by_cases h:(a.length:Int)=(b.length:Int)
 ·obtain ⟨j,hj⟩:=Aut L a b a 0 false (by omega)
  rw [hj,List.drop_zero]
  by_cases hab:a=b
  ·simp [hab,Kx]
  ·simp [hab,h,Gm]
 ·have:a≠b:=by rintro rfl;exact h rfl
  simp [this,Asp h]
theorem A15(L:Nat)(a0 a1:List Int):∀(k:List Int) (i:Nat) (v:Bool),i+k.length=a1.length→∃j,J4 L a0 a1 k i v=some (bif decide (k=a1.drop i) then (1,(v,j)) else (0,(false,j))):=by
 intro k
 induction k with
 |nil=>
  intro i v h
  refine ⟨i,?_⟩
  have:a1.drop i= []:=List.drop_eq_nil_of_le (by simp at h;omega)
  rw [this];rfl
 |cons x k ih=>
  intro i v h
  rw [List.length_cons] at h
  obtain ⟨j,hj⟩:=ih (i+1) v (by omega)
  have hi:i < a1.length:=by omega
  rw [J4,Abd a1 i hi,ifp (show (i:Int) < (a1.length:Int) by omega),hj,Z8]
  generalize a1.getD i default=y
  by_cases hx:x=y
  ·refine ⟨j,?_⟩
   subst hx
   simp
  ·exact ⟨i,by simp [hx,Asp hx]⟩
theorem Asr(L:Nat)(a b:List Int)(ha:a.length≤maxLen)(hL:maxLen < L):Yv L a b=some (decide (a=b)):=by
 simp only [Atf,Ya,Sz,Yv,Ya,Sz,aN,aB,Axh L a b L ha (by omega)]
 by_cases h:(a.length:Int)=(b.length:Int)
 ·obtain ⟨j,hj⟩:=A15 L a b a 0 false (by omega)
  rw [hj,List.drop_zero]
  by_cases hab:a=b
  ·simp [hab,Kx]
  ·simp [hab,h,Gm]
 ·have:a≠b:=by rintro rfl;exact h rfl
  simp [this,Asp h]
def Amw(a b:Bn):Bool:=a.Op == b.Op && a.A == b.A && a.B == b.B && a.N == b.N && decide (a.Values=b.Values) && decide (a.Weights=b.Weights)
def okD(d:Bn):Prop:=d.Values.length≤1099511627776∧d.Weights.length≤1099511627776
theorem Arz(L:Nat)(a b:Bn)(ha:okD a)(hL:maxLen < L):Sl L a b=some (Amw a b):=by
 have hM:=Bb
 obtain ⟨h1,h2⟩:=ha
 simp only [Aty,Sl,aN,aB,Akt L a.Values b.Values (by omega) hL,Akt L a.Weights b.Weights (by omega) hL,Option.bind_some,Dt,Dq,Amw]
theorem Acw(L:Nat)(a b:Bn)(ha:okD a)(hL:maxLen < L):Td L a b=some (Amw a b):=by
 have hM:=Bb
 obtain ⟨h1,h2⟩:=ha
 simp only [Awu,Td,aN,aB,Asr L a.Values b.Values (by omega) hL,Asr L a.Weights b.Weights (by omega) hL,Option.bind_some,Dt,Dq,Amw]
def Bm(lo hi x:Int):Bool:=decide (lo≤x) && decide (x≤hi)
def A0o(d:Bn):Bool:=decide (d.Values.length=0) && decide (d.Weights.length=0)
def All(d:Bn):Bool:=
 if d.Op=1 then A0o d && d.B == 0 && d.N == 0
 else if d.Op=2∨d.Op=5 then A0o d && d.N == 0
 else if d.Op=4 then A0o d
 else if d.Op=3 then d.A == 0 && d.B == 0 && d.N == 0
 else false
def Bfc(d:Bn):Int:=
 if d.Values.length≠d.Weights.length then 8 else if d.Values.length=0 then 7 else if 20 < d.Values.length then 6
 else if d.Values.all (Bm 0 1000000000) && d.Weights.all (Bm 1 1000) then 0 else 2
def Av8(d:Bn):Int:=
 if All d=false then 1
 else if d.Op=1 then (if Bm 0 1000000000 d.A then 0 else 2)
 else if d.Op=2 then (if Bm 0 1000000000 d.A && Bm 0 1000000000 d.B && decide (d.A≤d.B) then 0 else 2)
 else if d.Op=3 then Bfc d
 else if d.Op=4 then (if Bm 1 20 d.N && Bm 0 1000000 d.A && Bm 0 1000000 d.B && decide (d.A≤d.B) then 0 else 2)
 else (if Bm 1 1000 d.A && Bm 1 1000 d.B then 0 else 2)
theorem Bg8(n:Nat):((n:Int) == 0)=decide (n=0):=by
 cases h:((n:Int) == 0) with
 |true=>have:=eq_of_beq h;exact (decide_eq_true (by omega)).symm
 |false=>symm;apply decide_eq_false;rintro rfl;cases h
theorem Bu3{d:Bn}(h:okD d):(B7 ((d.Values.length:Int)+(d.Weights.length:Int)) == 0)=A0o d:=by
 obtain ⟨h1,h2⟩:=h
 rw [Z9 (by omega) (by omega),show (d.Values.length:Int)+(d.Weights.length:Int)=((d.Values.length+d.Weights.length:Nat):Int) by omega,Bg8]
 unfold A0o
 rw [←Bool.decide_and]
 exact decide_eq_decide.2 (by omega)
theorem A8n(L:Nat)(d:Bn)(h:okD d):Aht L d=some (All d):=by
 simp only [Aob,Aht,aN,aB,Bu3 h,Dt,Dq,Ly,All]
 congr 1
 by_cases h1:d.Op=1
 ·simp [h1]
 by_cases h2:d.Op=2
 ·simp [h2]
 by_cases h3:d.Op=3
 ·simp [h3]
 by_cases h4:d.Op=4
 ·simp [h4]
 by_cases h5:d.Op=5
 ·simp [h5]
 simp [h1,h2,h3,h4,h5,beq_false_of_ne h1,beq_false_of_ne h2,beq_false_of_ne h3,beq_false_of_ne h4,beq_false_of_ne h5]
theorem A96(L:Nat)(d:Bn):Akv L d=some (All d):=by
 simp only [Aq2,Akv,aN,aB,Bg8,Dt,Dq,Ly,All,A0o]
 congr 1
 by_cases h1:d.Op=1
 ·simp [h1,Bool.and_comm,Bool.and_left_comm]
 by_cases h2:d.Op=2
 ·simp [h2,Bool.and_comm]
 by_cases h3:d.Op=3
 ·simp [h3]
 by_cases h4:d.Op=4
 ·simp [h4]
 by_cases h5:d.Op=5
 ·simp [h5,Bool.and_comm]
 simp [h1,h2,h3,h4,h5,beq_false_of_ne h1,beq_false_of_ne h2,beq_false_of_ne h3,beq_false_of_ne h4,beq_false_of_ne h5]
theorem A4x(L:Nat)(p:List Int)(lo hi:Int):∀(k:List Int) (i:Nat) (v:Int),∃j:Nat,Lr L p lo hi k i v=some (bif k.all (Bm lo hi) then (1,(v,(j:Int))) else (0,((j:Int),(j:Int)))):=by
 intro k
 induction k with
 |nil=>intro i v;exact ⟨i,rfl⟩
 |cons x k ih=>
  intro i v
  obtain ⟨j,hj⟩:=ih (i+1) v
  rw [Lr,hj,List.all_cons]
  by_cases h1:x < lo
  ·refine ⟨i,?_⟩
   have:Bm lo hi x=false:=by unfold Bm;simp;omega
   simp [h1,this]
  ·by_cases h2:x > hi
   ·refine ⟨i,?_⟩
    have:Bm lo hi x=false:=by unfold Bm;simp;omega
    simp [h1,h2,this]
   ·refine ⟨j,?_⟩
    have:Bm lo hi x=true:=by unfold Bm;simp;omega
    simp [h1,h2,this]
theorem Aek(L:Nat)(lo hi:Int)(l:List Int)(hl:l.length≤1099511627776)(hL:maxLen < L):Hn L lo hi l=some (l.all (Bm lo hi)):=by
 have hM:=Bb
 obtain ⟨j,hj⟩:=A4x L l lo hi l 0 0
 simp only [Avy,U6,Hn,U6,Agd,Apo,s8,aN,aB,Azc L l lo hi L (by omega) (by omega),hj,Option.bind_some]
 cases l.all (Bm lo hi) with
 |true=>rfl
 |false=>simp [Gm]
theorem Aos(L:Nat)(d:Bn)(h:okD d)(hL:maxLen < L):Sk L d=some (Av8 d):=by
 have hh:=h
 obtain ⟨h1,h2⟩:=hh
 have w1:∀lo hi a,Hn L lo hi [a]=some (Bm lo hi a):=fun lo hi a=>by rw [Aek L lo hi [a] (by simp) hL];simp
 have w2:∀lo hi a b,Hn L lo hi [a,b]=some (Bm lo hi a && Bm lo hi b):=fun lo hi a b=>by rw [Aek L lo hi [a,b] (by simp) hL];simp
 simp only [Aq9,Sk,aN,aB,A8n L d h,w1,w2,Aek L _ _ _ h1 hL,Aek L _ _ _ h2 hL,Option.bind_some,Dt,Dq,Av8,Bfc]
 congr 1
 cases hu:All d with
 |false=>simp
 |true=>
  simp only [Bool.not_true,cond_false,if_false,Bool.true_eq_false]
  unfold All at hu
  by_cases e1:d.Op=1
  ·simp [e1]<;>grind
  by_cases e2:d.Op=2
  ·simp [e2]<;>grind
  by_cases e3:d.Op=3
  ·have q1:((d.Values.length:Int) != (d.Weights.length:Int))=decide (d.Values.length≠d.Weights.length):=by
    rw [Bool.eq_iff_iff];simp;omega
   have q2:decide ((d.Values.length:Int) > 20)=decide (20 < d.Values.length):=decide_eq_decide.2 (by omega)
   simp only [e3,q1,q2,Bg8]
   clear h h1 h2 w1 w2 q1 q2 hu e1 e2 e3
   generalize d.Values.length=nv
   generalize d.Weights.length=nw
   generalize d.Values.all (Bm 0 1000000000)=x
   generalize d.Weights.all (Bm 1 1000)=y
   by_cases c1:nv=nw
   ·subst c1
    by_cases c2:nv=0<;>by_cases c3:20 < nv<;>cases x<;>cases y<;>simp [c2,c3]
   ·simp [c1]
  by_cases e4:d.Op=4
  ·simp [e4]<;>grind
  by_cases e5:d.Op=5
  ·simp [e5]<;>grind
  simp [e1,e2,e3,e4,e5] at hu
theorem Auo(L:Nat)(x lo hi:Int):Gn L x lo hi=some (Bm lo hi x):=by
 simp only [An8,Gn,aN,aB,Dq,Bm]
theorem Bam(L:Nat)(d:Bn):∀(k:List Int) (i:Nat) (v:Int),i+k.length=d.Weights.length→∃j,Qs L d k i v=some (bif k.all (Bm 0 1000000000) && (d.Weights.drop i).all (Bm 1 1000) then (1,(v,j)) else (0,(2,j))):=by
 intro k
 induction k with
 |nil=>
  intro i v h
  refine ⟨i,?_⟩
  have:d.Weights.drop i= []:=List.drop_eq_nil_of_le (by simp at h;omega)
  rw [this];rfl
 |cons x k ih=>
  intro i v h
  rw [List.length_cons] at h
  obtain ⟨j,hj⟩:=ih (i+1) v (by omega)
  have hi:i < d.Weights.length:=by omega
  rw [Qs,Abd d.Weights i hi,hj,List.all_cons,List.all_cons]
  simp only [Auo,Option.bind_some]
  rw [ifp (show (0:Int)≤(i:Int) by omega),ifp (show (i:Int) < (d.Weights.length:Int) by omega),Z8]
  cases h1:Bm 0 1000000000 x with
  |false=>exact ⟨i,by simp⟩
  |true=>
   cases h2:Bm 1 1000 (d.Weights.getD i default) with
   |false=>exact ⟨i,by simp⟩
   |true=>exact ⟨j,by simp⟩
theorem Bd0(L:Nat)(d:Bn)(h:okD d)(hL:maxLen < L):Am7 L d=some (Bfc d):=by
 have hM:=Bb
 obtain ⟨h1,h2⟩:=h
 simp only [A2m,Ae7,Zf,Am7,Ae7,Zf,aN,aB,A34 L d L (by omega) (by omega),Bfc]
 by_cases e1:d.Values.length=d.Weights.length
 ·obtain ⟨j,hj⟩:=Bam L d d.Values 0 0 (by omega)
  rw [hj,List.drop_zero]
  by_cases e2:d.Values.length=0
  ·simp [e2,←e1]
  ·by_cases e3:20 < d.Values.length
   ·have q:(20:Int) < (d.Values.length:Int):=by omega
    have q2:((d.Values.length:Int) == 0)=false:=by rw [Bg8];exact decide_eq_false e2
    rw [e1] at q q2 e2 e3 ⊢
    simp [q,q2,e2,e3]
   ·have q:¬(20:Int) < (d.Values.length:Int):=by omega
    have q2:((d.Values.length:Int) == 0)=false:=by rw [Bg8];exact decide_eq_false e2
    rw [e1] at q q2 e2 e3 ⊢
    simp only [bne_self_eq_false,cond_false,q2,gt_iff_lt,q,decide_false,ne_eq,not_true_eq_false,if_false,e2,e3,Option.bind_some]
    cases d.Values.all (Bm 0 1000000000) && d.Weights.all (Bm 1 1000)<;>rfl
 ·have:((d.Values.length:Int) != (d.Weights.length:Int))=true:=Asp (by omega)
  simp [this,e1]
theorem Arv(L:Nat)(d:Bn)(h:okD d)(hL:maxLen < L):Acj L d=some (Av8 d):=by
 simp only [Ate,Acj,aN,aB,A96,Auo,Bd0 L d h hL,Option.bind_some,Dt,Dq,Av8]
 congr 1
 cases hu:All d with
 |false=>simp
 |true=>
  simp only [Bool.not_true,cond_false,if_false,Bool.true_eq_false]
  unfold All at hu
  by_cases e1:d.Op=1
  ·simp [e1]<;>grind
  by_cases e2:d.Op=2
  ·simp [e2]<;>unfold Bm<;>grind
  by_cases e3:d.Op=3
  ·simp [e3]
  by_cases e4:d.Op=4
  ·simp [e4]<;>unfold Bm<;>grind
  by_cases e5:d.Op=5
  ·simp [e5]<;>grind
  simp [e1,e2,e3,e4,e5] at hu
mutual
def dS:Ad→Nat
 | .mk _ _ _ _ _ _ _ _ b e=>max (dSs b) (dSs e)+1
def dSs:List Ad→Nat
 | []=>0
 |x::k=>max (dS x) (dSs k)
end
mutual
def ctS:Ad→Nat
 | .mk _ _ _ _ _ _ _ _ b e=>N6 b+N6 e+1
def N6:List Ad→Nat
 | []=>0
 |x::k=>ctS x+N6 k
end
theorem Bfz(s:Ad):dS s=max (dSs s.Body) (dSs s.Else)+1:=by cases s;rw [dS];simp only [Ad.cp_eq,Ad.eta,Ad.Op,Ad.Name,Ad.Of,Ad.E,Ad.F,Ad.Args,Ad.Dist,Ad.Flag,Ad.Body,Ad.Else]
theorem A7e(s:Ad):ctS s=N6 s.Body+N6 s.Else+1:=by cases s;rw [ctS];simp only [Ad.cp_eq,Ad.eta,Ad.Op,Ad.Name,Ad.Of,Ad.E,Ad.F,Ad.Args,Ad.Dist,Ad.Flag,Ad.Body,Ad.Else]
theorem Bdi{x:Ad}{k:List Ad}(h:x∈k):dSs x.Body < dSs k∧dSs x.Else < dSs k:=by
 induction k with
 |nil=>cases h
 |cons a k ih=>
  rw [dSs]
  rcases List.mem_cons.1 h with rfl|h
  ·rw [Bfz];omega
  ·have:=ih h;omega
theorem A67(s:Ad):1+(s.Name.size+1)+(s.Of.size+1)+C0 s.E+C0 s.F+(Hd C0 s.Args+1)+Sp s.Dist+1+(D3 s.Body+1)+(D3 s.Else+1)+1=Ge s:=by
 rw [At7,Rw,Rw]<;>omega
theorem Bfs{x:Ad}{k:List Ad}(h:x∈k):Ge x≤D3 k:=by
 rw [Rw];exact Amy h
theorem But(k:List Ad):k.length≤D3 k:=by
 rw [Rw]
 exact Io fun x=>by rw [←A67];omega
theorem Bus(k:List Ab):k.length≤Hd C0 k:=
 Io fun x=>by cases x;rw [C0];omega
mutual
theorem Cld:∀s:Ad,dS s≤Ge s
 | .mk a b c d e f g h i j=>by
  rw [dS,Ge]
  have:=Aw7 i
  have:=Aw7 j
  omega
theorem Aw7:∀k:List Ad,dSs k≤D3 k
 | []=>by simp [dSs]
 |x::k=>by
  rw [dSs,D3]
  have:=Cld x
  have:=Aw7 k
  omega
end
mutual
theorem Cbc:∀s:Ad,ctS s≤Ge s
 | .mk a b c d e f g h i j=>by
  rw [ctS,Ge]
  have:=Ayy i
  have:=Ayy j
  omega
theorem Ayy:∀k:List Ad,N6 k≤D3 k
 | []=>by simp [N6]
 |x::k=>by
  rw [N6,D3]
  have:=Cbc x
  have:=Ayy k
  omega
end
theorem Aa7{M:List Ad→Prop}(h:∀l:List Ad,(∀y∈l,B2 y∧M y.Body∧M y.Else)→M l){l:List Ad}(hl:∀y∈l,B2 y):M l:=by
 have key:∀s,B2 s→M s.Body∧M s.Else:=by
  intro s hs
  induction hs with
  |mk a0 a1 a2 a3 a4 a5 a6 a7 a8 a9 h0 h1 h2 h3 h4 h5 h5' h6 h7 h8 h8' h9 h9' ih8 ih9=>
   exact ⟨h a8 fun y hy=>⟨h8' y hy,ih8 y hy⟩,h a9 fun y hy=>⟨h9' y hy,ih9 y hy⟩⟩
 exact h l fun y hy=>⟨hl y hy,key y (hl y hy)⟩
theorem Cqp{s:Ad}(h:B2 s):okS s.Name∧okS s.Of∧Bv s.E∧Bv s.F∧(∀y∈s.Args,Bv y)∧Ai7 s.Dist∧(∀y∈s.Body,B2 y)∧(∀y∈s.Else,B2 y):=by
 cases h with
 |mk a0 a1 a2 a3 a4 a5 a6 a7 a8 a9 h0 h1 h2 h3 h4 h5 h5' h6 h7 h8 h8' h9 h9'=>exact ⟨h1,h2,h3,h4,h5',h6,h8',h9'⟩
def Fu(L:Nat)(l:List Ad):Prop:=maxLen+1048576+dSs l < L∧D3 l≤1048576
theorem Fu.kid{L:Nat}{l:List Ad}(h:Fu (L+1) l){x:Ad}(hx:x∈l):Fu L x.Body∧Fu L x.Else:=by
 obtain ⟨h1,h2⟩:=h
 have:=Bdi hx
 have:=Bfs hx
 have:=A67 x
 exact ⟨⟨by omega,by omega⟩,⟨by omega,by omega⟩⟩
theorem Fu.len{L:Nat}{l:List Ad}(h:Fu (L+1) l):l.length≤maxLen∧l.length < L∧l.length≤1048576:=by
 obtain ⟨h1,h2⟩:=h
 have:=But l
 have:=Bb
 exact ⟨by omega,by omega,by omega⟩
theorem Fu.one{L:Nat}{l:List Ad}(h:Fu (L+1) l):∃k,L=k+1:=by
 obtain ⟨h1,h2⟩:=h
 have:=Bb
 exact ⟨L - 1,by omega⟩
theorem Fu.pos{L:Nat}{l:List Ad}(h:Fu L l):∃k,L=k+1:=by
 obtain ⟨h1,h2⟩:=h
 exact ⟨L - 1,by omega⟩
theorem A86(rec:List Ad→Option Int)(L:Nat)(a0:List Ad):∀(k:List Ad) (i:Nat) (v:Nat),v+N6 k≤1048576+1048576→(∀x∈k,rec x.Body=some (N6 x.Body:Int)∧rec x.Else=some (N6 x.Else:Int))→∃j,Kt rec L a0 k i ((v+k.length:Nat):Int)=some (0,(((v+N6 k:Nat):Int),j)):=by
 intro k
 induction k with
 |nil=>intro i v _ _;exact ⟨i,by rw [Kt,N6];rfl⟩
 |cons x k ih=>
  intro i v hb h
  rw [N6,A7e] at hb
  have hlen:k.length≤N6 k:=by
   clear ih h hb
   induction k with
   |nil=>simp
   |cons y k ih=>rw [N6,A7e,List.length_cons];omega
  obtain ⟨h1,h2⟩:=h x (by simp)
  obtain ⟨j,hj⟩:=ih (i+1) (v+1+N6 x.Body+N6 x.Else) (by omega) fun y hy=>h y (by simp [hy])
  refine ⟨j,?_⟩
  rw [Kt,h1,Option.bind_some,h2,Option.bind_some,List.length_cons,N6,A7e]
  rw [Z9 (n:=(N6 x.Body:Int)+(N6 x.Else:Int)) (by omega) (by omega),Z9 (by omega) (by omega)]
  rw [show ((v+(k.length+1):Nat):Int)+((N6 x.Body:Int)+(N6 x.Else:Int))=((v+1+N6 x.Body+N6 x.Else+k.length:Nat):Int) by omega,hj]
  congr 3
  omega
theorem Bah{l:List Ad}(hl:∀y∈l,B2 y):∀L,Fu L l→Oo L l=some (N6 l:Int):=by
 refine Aa7 (M:=fun l=>∀L,Fu L l→Oo L l=some (N6 l:Int)) ?_ hl
 intro l ih L hF
 obtain ⟨L,rfl⟩:=hF.pos
 obtain ⟨n1,n2,n3⟩:=hF.len
 have hc:=Ayy l
 obtain ⟨j,hj⟩:=A86 (Oo L) L l l 0 0 (by have:=hF.2;omega) fun x hx=>⟨(ih x hx).2.1 L (hF.kid hx).1,(ih x hx).2.2 L (hF.kid hx).2⟩
 rw [Nat.zero_add,Nat.zero_add] at hj
 simp only [Ayo,W0,Aqt,Oo,W0,aN,aB,A1k _ L l L n1 n2,hj,Option.bind_some,Gm]
theorem Bap(rec:List Ad→Option Int)(L:Nat)(a0:List Ad):∀(k:List Ad) (i:Nat) (v:Nat),v+N6 k≤1048576+1048576→(∀x∈k,rec x.Body=some (N6 x.Body:Int)∧rec x.Else=some (N6 x.Else:Int))→∃j,Mm rec L a0 k i (v:Int)=some (0,(((v+N6 k:Nat):Int),j)):=by
 intro k
 induction k with
 |nil=>intro i v _ _;exact ⟨i,by rw [Mm,N6];rfl⟩
 |cons x k ih=>
  intro i v hb h
  rw [N6,A7e] at hb
  obtain ⟨h1,h2⟩:=h x (by simp)
  obtain ⟨j,hj⟩:=ih (i+1) (v+1+N6 x.Body+N6 x.Else) (by omega) fun y hy=>h y (by simp [hy])
  refine ⟨j,?_⟩
  rw [Mm,h1,Option.bind_some,h2,Option.bind_some,N6,A7e]
  rw [Z9 (n:=(v:Int)+1) (by omega) (by omega),Z9 (n:=(v:Int)+1+(N6 x.Body:Int)) (by omega) (by omega),Z9 (by omega) (by omega)]
  rw [show (v:Int)+1+(N6 x.Body:Int)+(N6 x.Else:Int)=((v+1+N6 x.Body+N6 x.Else:Nat):Int) by omega,hj]
  congr 3
  omega
theorem Bd4{l:List Ad}(hl:∀y∈l,B2 y):∀L,Fu L l→Sf L l=some (N6 l:Int):=by
 refine Aa7 (M:=fun l=>∀L,Fu L l→Sf L l=some (N6 l:Int)) ?_ hl
 intro l ih L hF
 obtain ⟨L,rfl⟩:=hF.pos
 obtain ⟨n1,n2,n3⟩:=hF.len
 have hc:=Ayy l
 obtain ⟨j,hj⟩:=Bap (Sf L) L l l 0 0 (by have:=hF.2;omega) fun x hx=>⟨(ih x hx).2.1 L (hF.kid hx).1,(ih x hx).2.2 L (hF.kid hx).2⟩
 rw [Nat.zero_add] at hj
 simp only [A2q,Zj,As4,Sf,Zj,aN,aB,A37 _ L l L n1 n2]
 rw [show (0:Int)=((0:Nat):Int) from rfl,hj]
 simp only [Option.bind_some,Gm]
theorem B54(a b:Nat):(if (1+(a:Int)) > (b:Int) then (1+(a:Int)) else (b:Int))=((max b (a+1):Nat):Int):=by
 split<;>omega
theorem A87(rec:List Ad→Option Int)(L:Nat)(a0:List Ad):∀(k:List Ad) (i:Nat) (v:Nat),dSs k≤1048576→(∀x∈k,rec x.Body=some (dSs x.Body:Int)∧rec x.Else=some (dSs x.Else:Int))→∃j,Ku rec L a0 k i (v:Int)=some (0,(((max v (dSs k):Nat):Int),j)):=by
 intro k
 induction k with
 |nil=>intro i v _ _;exact ⟨i,by rw [Ku,dSs,Nat.max_zero]⟩
 |cons x k ih=>
  intro i v hb h
  rw [dSs,Bfz] at hb
  obtain ⟨h1,h2⟩:=h x (by simp)
  obtain ⟨j,hj⟩:=ih (i+1) (max (max v (dSs x.Body+1)) (dSs x.Else+1)) (by omega) fun y hy=>h y (by simp [hy])
  refine ⟨j,?_⟩
  rw [Ku,h1,Option.bind_some,h2,Option.bind_some,dSs,Bfz]
  rw [Z9 (n:=1+(dSs x.Body:Int)) (by omega) (by omega),Z9 (n:=1+(dSs x.Else:Int)) (by omega) (by omega),B54,B54,hj]
  congr 3
  omega
theorem Bai{l:List Ad}(hl:∀y∈l,B2 y):∀L,Fu L l→Oq L l=some (dSs l:Int):=by
 refine Aa7 (M:=fun l=>∀L,Fu L l→Oq L l=some (dSs l:Int)) ?_ hl
 intro l ih L hF
 obtain ⟨L,rfl⟩:=hF.pos
 obtain ⟨n1,n2,n3⟩:=hF.len
 have hc:=Aw7 l
 obtain ⟨j,hj⟩:=A87 (Oq L) L l l 0 0 (by have:=hF.2;omega) fun x hx=>⟨(ih x hx).2.1 L (hF.kid hx).1,(ih x hx).2.2 L (hF.kid hx).2⟩
 rw [Nat.zero_max] at hj
 simp only [Ayp,W1,Aqu,Oq,W1,aN,aB,A1l _ L l L n1 n2]
 rw [show (0:Int)=((0:Nat):Int) from rfl,hj]
 simp only [Option.bind_some,Gm]
theorem Baq(rec:List Ad→Option Int)(L:Nat)(a0:List Ad):∀(k:List Ad) (i:Nat) (v:Nat),dSs k≤1048576→(∀x∈k,rec x.Body=some (dSs x.Body:Int)∧rec x.Else=some (dSs x.Else:Int))→∃j,Mn rec L a0 k i (v:Int)=some (0,(((max v (dSs k):Nat):Int),j)):=by
 intro k
 induction k with
 |nil=>intro i v _ _;exact ⟨i,by rw [Mn,dSs,Nat.max_zero]⟩
 |cons x k ih=>
  intro i v hb h
  rw [dSs,Bfz] at hb
  obtain ⟨h1,h2⟩:=h x (by simp)
  obtain ⟨j,hj⟩:=ih (i+1) (max (max v (dSs x.Body+1)) (dSs x.Else+1)) (by omega) fun y hy=>h y (by simp [hy])
  refine ⟨j,?_⟩
  rw [Mn,h1,Option.bind_some,h2,Option.bind_some,dSs,Bfz]
  rw [Z9 (n:=1+(dSs x.Body:Int)) (by omega) (by omega),Z9 (n:=1+(dSs x.Else:Int)) (by omega) (by omega),B54,B54,hj]
  congr 3
  omega
theorem Bd5{l:List Ad}(hl:∀y∈l,B2 y):∀L,Fu L l→Sg L l=some (dSs l:Int):=by
 refine Aa7 (M:=fun l=>∀L,Fu L l→Sg L l=some (dSs l:Int)) ?_ hl
 intro l ih L hF
 obtain ⟨L,rfl⟩:=hF.pos
 obtain ⟨n1,n2,n3⟩:=hF.len
 have hc:=Aw7 l
 obtain ⟨j,hj⟩:=Baq (Sg L) L l l 0 0 (by have:=hF.2;omega) fun x hx=>⟨(ih x hx).2.1 L (hF.kid hx).1,(ih x hx).2.2 L (hF.kid hx).2⟩
 rw [Nat.zero_max] at hj
 simp only [A2r,Zk,As5,Sg,Zk,aN,aB,A38 _ L l L n1 n2]
 rw [show (0:Int)=((0:Nat):Int) from rfl,hj]
 simp only [Option.bind_some,Gm]
end Go.Proofs.YtofcpkmnhmnfcaaGreatR.Ev
