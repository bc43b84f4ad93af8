/-  Chapters 4 and 10, plainly: distributions; counting statements. -/
import Derived.Test.YtofcpkmnhmnfcaaGreatRQA
import Derived.Test.YtofcpkmnhmnfcaaGreatRPG
namespace Go.Proofs.YtofcpkmnhmnfcaaGreatR.Ev
open Go An
set_option maxRecDepth 100000
set_option linter.unusedVariables false
set_option linter.unusedSimpArgs false
set_option linter.unnecessarySimpa false
theorem Ayu{a b:Int}(h:¬a=b):(a != b)=true:=bne_iff_ne.2 h
theorem Aty{α :Type} [Inhabited α](l:List α)(i:Nat)(h:i < l.length):l.drop i=l.getD i default::l.drop (i+1):=by
 rw [List.drop_eq_getElem_cons h,Iu l i h]
theorem Aoa(L:Nat)(a0 a1:List Int):∀(k:List Int) (i:Nat) (v:Bool),i+k.length=a1.length→∃j,Gc L a0 a1 k i v=some (bif decide (k=a1.drop i) then (1,(v,j)) else (0,(false,j))):=by
 intro k
 induction k with
 |nil=>
  intro i v h
  refine ⟨i,?_⟩
  have:a1.drop i= []:=List.drop_eq_nil_of_le (by simp at h;omega)
  rw [this];rfl
 |cons x k ih=>
  intro i v h
  rw [List.length_cons] at h
  obtain ⟨j,hj⟩:=ih (i+1) v (by omega)
  have hi:i < a1.length:=by omega
  rw [Gc,Aty a1 i hi,ifp (show (i:Int) < (a1.length:Int) by omega),hj,toN]
  generalize a1.getD i default=y
  by_cases hx:x=y
  ·refine ⟨j,?_⟩
   subst hx
   simp
  ·exact ⟨i,by simp [hx,Ayu hx]⟩
theorem Adp(L:Nat)(a b:List Int)(ha:a.length≤maxLen)(hL:maxLen < L):Nv L a b=some (decide (a=b)):=by
 simp only [Aen,Om,Ke,Nv,Om,Ke,aN,aB,Ak2 L a b L ha (by omega)]
 by_cases h:(a.length:Int)=(b.length:Int)
 ·obtain ⟨j,hj⟩:=Aoa L a b a 0 false (by omega)
  rw [hj,List.drop_zero]
  by_cases hab:a=b
  ·simp [hab,Sr]
  ·simp [hab,h,Nb]
 ·have:a≠b:=by rintro rfl;exact h rfl
  simp [this,Ayu h]
theorem Aw1(L:Nat)(a0 a1:List Int):∀(k:List Int) (i:Nat) (v:Bool),i+k.length=a1.length→∃j,Jd L a0 a1 k i v=some (bif decide (k=a1.drop i) then (1,(v,j)) else (0,(false,j))):=by
 intro k
 induction k with
 |nil=>
  intro i v h
  refine ⟨i,?_⟩
  have:a1.drop i= []:=List.drop_eq_nil_of_le (by simp at h;omega)
  rw [this];rfl
 |cons x k ih=>
  intro i v h
  rw [List.length_cons] at h
  obtain ⟨j,hj⟩:=ih (i+1) v (by omega)
  have hi:i < a1.length:=by omega
  rw [Jd,Aty a1 i hi,ifp (show (i:Int) < (a1.length:Int) by omega),hj,toN]
  generalize a1.getD i default=y
  by_cases hx:x=y
  ·refine ⟨j,?_⟩
   subst hx
   simp
  ·exact ⟨i,by simp [hx,Ayu hx]⟩
theorem Aly(L:Nat)(a b:List Int)(ha:a.length≤maxLen)(hL:maxLen < L):U8 L a b=some (decide (a=b)):=by
 simp only [Amm,Uq,P4,U8,Uq,P4,aN,aB,Ar9 L a b L ha (by omega)]
 by_cases h:(a.length:Int)=(b.length:Int)
 ·obtain ⟨j,hj⟩:=Aw1 L a b a 0 false (by omega)
  rw [hj,List.drop_zero]
  by_cases hab:a=b
  ·simp [hab,Sr]
  ·simp [hab,h,Nb]
 ·have:a≠b:=by rintro rfl;exact h rfl
  simp [this,Ayu h]
def Ajt(a b:Bm):Bool:=a.Op == b.Op && a.A == b.A && a.B == b.B && a.N == b.N && decide (a.Values=b.Values) && decide (a.Weights=b.Weights)
def okD(d:Bm):Prop:=d.Values.length≤1099511627776∧d.Weights.length≤1099511627776
theorem Ak6(L:Nat)(a b:Bm)(ha:okD a)(hL:maxLen < L):Pr L a b=some (Ajt a b):=by
 have hM:=Bx
 obtain ⟨h1,h2⟩:=ha
 simp only [Amu,Pr,aN,aB,Adp L a.Values b.Values (by omega) hL,Adp L a.Weights b.Weights (by omega) hL,Option.bind_some,Oe,Ny,Ajt]
theorem An5(L:Nat)(a b:Bm)(ha:okD a)(hL:maxLen < L):Qg L a b=some (Ajt a b):=by
 have hM:=Bx
 obtain ⟨h1,h2⟩:=ha
 simp only [Arr,Qg,aN,aB,Aly L a.Values b.Values (by omega) hL,Aly L a.Weights b.Weights (by omega) hL,Option.bind_some,Oe,Ny,Ajt]
def B1(lo hi x:Int):Bool:=decide (lo≤x) && decide (x≤hi)
def A2j(d:Bm):Bool:=decide (d.Values.length=0) && decide (d.Weights.length=0)
def Ava(d:Bm):Bool:=
 if d.Op=1 then A2j d && d.B == 0 && d.N == 0
 else if d.Op=2∨d.Op=5 then A2j d && d.N == 0
 else if d.Op=4 then A2j d
 else if d.Op=3 then d.A == 0 && d.B == 0 && d.N == 0
 else false
def Bts(d:Bm):Int:=
 if d.Values.length≠d.Weights.length then 8 else if d.Values.length=0 then 7 else if 20 < d.Values.length then 6
 else if d.Values.all (B1 0 1000000000) && d.Weights.all (B1 1 1000) then 0 else 2
def Aym(d:Bm):Int:=
 if Ava d=false then 1
 else if d.Op=1 then (if B1 0 1000000000 d.A then 0 else 2)
 else if d.Op=2 then (if B1 0 1000000000 d.A && B1 0 1000000000 d.B && decide (d.A≤d.B) then 0 else 2)
 else if d.Op=3 then Bts d
 else if d.Op=4 then (if B1 1 20 d.N && B1 0 1000000 d.A && B1 0 1000000 d.B && decide (d.A≤d.B) then 0 else 2)
 else (if B1 1 1000 d.A && B1 1 1000 d.B then 0 else 2)
theorem B7n(n:Nat):((n:Int) == 0)=decide (n=0):=by
 cases h:((n:Int) == 0) with
 |true=>have:=eq_of_beq h;exact (decide_eq_true (by omega)).symm
 |false=>symm;apply decide_eq_false;rintro rfl;cases h
theorem Bos{d:Bm}(h:okD d):(B6 ((d.Values.length:Int)+(d.Weights.length:Int)) == 0)=A2j d:=by
 obtain ⟨h1,h2⟩:=h
 rw [Agm (by omega) (by omega),show (d.Values.length:Int)+(d.Weights.length:Int)=((d.Values.length+d.Weights.length:Nat):Int) by omega,B7n]
 unfold A2j
 rw [←Bool.decide_and]
 exact decide_eq_decide.2 (by omega)
theorem A3g(L:Nat)(d:Bm)(h:okD d):Abb L d=some (Ava d):=by
 simp only [Ahm,Abb,aN,aB,Bos h,Oe,Ny,Zl,Ava]
 congr 1
 by_cases h1:d.Op=1
 ·simp [h1]
 by_cases h2:d.Op=2
 ·simp [h2]
 by_cases h3:d.Op=3
 ·simp [h3]
 by_cases h4:d.Op=4
 ·simp [h4]
 by_cases h5:d.Op=5
 ·simp [h5]
 simp [h1,h2,h3,h4,h5,beq_false_of_ne h1,beq_false_of_ne h2,beq_false_of_ne h3,beq_false_of_ne h4,beq_false_of_ne h5]
theorem Azp(L:Nat)(p:List Int)(lo hi:Int):∀(k:List Int) (i:Nat) (v:Int),∃j:Nat,Ky L p lo hi k i v=some (bif k.all (B1 lo hi) then (1,(v,(j:Int))) else (0,((j:Int),(j:Int)))):=by
 intro k
 induction k with
 |nil=>intro i v;exact ⟨i,rfl⟩
 |cons x k ih=>
  intro i v
  obtain ⟨j,hj⟩:=ih (i+1) v
  rw [Ky,hj,List.all_cons]
  by_cases h1:x < lo
  ·refine ⟨i,?_⟩
   have:B1 lo hi x=false:=by unfold B1;simp;omega
   simp [h1,this]
  ·by_cases h2:x > hi
   ·refine ⟨i,?_⟩
    have:B1 lo hi x=false:=by unfold B1;simp;omega
    simp [h1,h2,this]
   ·refine ⟨j,?_⟩
    have:B1 lo hi x=true:=by unfold B1;simp;omega
    simp [h1,h2,this]
theorem k7(L:Nat)(lo hi:Int)(l:List Int)(hl:l.length≤1099511627776)(hL:maxLen < L):Gq L lo hi l=some (l.all (B1 lo hi)):=by
 have hM:=Bx
 obtain ⟨j,hj⟩:=Azp L l lo hi l 0 0
 simp only [Ap5,Rt,Gq,Rt,w4,Ai1,Wi,aN,aB,Aud L l lo hi L (by omega) (by omega),hj,Option.bind_some]
 cases l.all (B1 lo hi) with
 |true=>rfl
 |false=>simp [Nb]
theorem Aia(L:Nat)(d:Bm)(h:okD d)(hL:maxLen < L):Pq L d=some (Aym d):=by
 have hh:=h
 obtain ⟨h1,h2⟩:=hh
 have w1:∀lo hi a,Gq L lo hi [a]=some (B1 lo hi a):=fun lo hi a=>by rw [k7 L lo hi [a] (by simp) hL];simp
 have w2:∀lo hi a b,Gq L lo hi [a,b]=some (B1 lo hi a && B1 lo hi b):=fun lo hi a b=>by rw [k7 L lo hi [a,b] (by simp) hL];simp
 simp only [Aki,Pq,aN,aB,A3g L d h,w1,w2,k7 L _ _ _ h1 hL,k7 L _ _ _ h2 hL,Option.bind_some,Oe,Ny,Aym,Bts]
 congr 1
 cases hu:Ava d with
 |false=>simp
 |true=>
  simp only [Bool.not_true,cond_false,if_false,Bool.true_eq_false]
  unfold Ava at hu
  by_cases e1:d.Op=1
  ·simp [e1]<;>grind
  by_cases e2:d.Op=2
  ·simp [e2]<;>grind
  by_cases e3:d.Op=3
  ·have q1:((d.Values.length:Int) != (d.Weights.length:Int))=decide (d.Values.length≠d.Weights.length):=by
    rw [Bool.eq_iff_iff];simp;omega
   have q2:decide ((d.Values.length:Int) > 20)=decide (20 < d.Values.length):=decide_eq_decide.2 (by omega)
   simp only [e3,q1,q2,B7n]
   clear h h1 h2 w1 w2 q1 q2 hu e1 e2 e3
   generalize d.Values.length=nv
   generalize d.Weights.length=nw
   generalize d.Values.all (B1 0 1000000000)=x
   generalize d.Weights.all (B1 1 1000)=y
   by_cases c1:nv=nw
   ·subst c1
    by_cases c2:nv=0<;>by_cases c3:20 < nv<;>cases x<;>cases y<;>simp [c2,c3]
   ·simp [c1]
  by_cases e4:d.Op=4
  ·simp [e4]<;>grind
  by_cases e5:d.Op=5
  ·simp [e5]<;>grind
  simp [e1,e2,e3,e4,e5] at hu
mutual
def dS:Ad→Nat
 | .mk _ _ _ _ _ _ _ _ b e=>max (dSs b) (dSs e)+1
def dSs:List Ad→Nat
 | []=>0
 |x::k=>max (dS x) (dSs k)
end
mutual
def ctS:Ad→Nat
 | .mk _ _ _ _ _ _ _ _ b e=>Zb b+Zb e+1
def Zb:List Ad→Nat
 | []=>0
 |x::k=>ctS x+Zb k
end
theorem Bon(s:Ad):dS s=max (dSs s.Body) (dSs s.Else)+1:=by cases s;rw [dS];simp only [Ad.cp_eq,Ad.eta,Ad.Op,Ad.Name,Ad.Of,Ad.E,Ad.F,Ad.Args,Ad.Dist,Ad.Flag,Ad.Body,Ad.Else]
theorem Bc8(s:Ad):ctS s=Zb s.Body+Zb s.Else+1:=by cases s;rw [ctS];simp only [Ad.cp_eq,Ad.eta,Ad.Op,Ad.Name,Ad.Of,Ad.E,Ad.F,Ad.Args,Ad.Dist,Ad.Flag,Ad.Body,Ad.Else]
theorem A7q{x:Ad}{k:List Ad}(h:x∈k):dSs x.Body < dSs k∧dSs x.Else < dSs k:=by
 induction k with
 |nil=>cases h
 |cons a k ih=>
  rw [dSs]
  rcases List.mem_cons.1 h with rfl|h
  ·rw [Bon];omega
  ·have:=ih h;omega
theorem A19(s:Ad):1+(s.Name.size+1)+(s.Of.size+1)+C0 s.E+C0 s.F+(Gh C0 s.Args+1)+Pw s.Dist+1+(Ds s.Body+1)+(Ds s.Else+1)+1=E6 s:=by
 rw [Am2,Ow,Ow]<;>omega
theorem A9s{x:Ad}{k:List Ad}(h:x∈k):E6 x≤Ds k:=by
 rw [Ow];exact Agi h
theorem Boe(k:List Ad):k.length≤Ds k:=by
 rw [Ow]
 exact Hv fun x=>by rw [←A19];omega
theorem Bod(k:List Ab):k.length≤Gh C0 k:=
 Hv fun x=>by cases x;rw [C0];omega
mutual
theorem Ce2:∀s:Ad,dS s≤E6 s
 | .mk a b c d e f g h i j=>by
  rw [dS,E6]
  have:=Avl i
  have:=Avl j
  omega
theorem Avl:∀k:List Ad,dSs k≤Ds k
 | []=>by simp [dSs]
 |x::k=>by
  rw [dSs,Ds]
  have:=Ce2 x
  have:=Avl k
  omega
end
mutual
theorem B48:∀s:Ad,ctS s≤E6 s
 | .mk a b c d e f g h i j=>by
  rw [ctS,E6]
  have:=Az8 i
  have:=Az8 j
  omega
theorem Az8:∀k:List Ad,Zb k≤Ds k
 | []=>by simp [Zb]
 |x::k=>by
  rw [Zb,Ds]
  have:=B48 x
  have:=Az8 k
  omega
end
theorem Aju{M:List Ad→Prop}(h:∀l:List Ad,(∀y∈l,Ct y∧M y.Body∧M y.Else)→M l){l:List Ad}(hl:∀y∈l,Ct y):M l:=by
 have key:∀s,Ct s→M s.Body∧M s.Else:=by
  intro s hs
  induction hs with
  |mk a0 a1 a2 a3 a4 a5 a6 a7 a8 a9 h0 h1 h2 h3 h4 h5 h5' h6 h7 h8 h8' h9 h9' ih8 ih9=>
   exact ⟨h a8 fun y hy=>⟨h8' y hy,ih8 y hy⟩,h a9 fun y hy=>⟨h9' y hy,ih9 y hy⟩⟩
 exact h l fun y hy=>⟨hl y hy,key y (hl y hy)⟩
theorem Ckm{s:Ad}(h:Ct s):okS s.Name∧okS s.Of∧Cn s.E∧Cn s.F∧(∀y∈s.Args,Cn y)∧Ab8 s.Dist∧(∀y∈s.Body,Ct y)∧(∀y∈s.Else,Ct y):=by
 cases h with
 |mk a0 a1 a2 a3 a4 a5 a6 a7 a8 a9 h0 h1 h2 h3 h4 h5 h5' h6 h7 h8 h8' h9 h9'=>exact ⟨h1,h2,h3,h4,h5',h6,h8',h9'⟩
def Fu(L:Nat)(l:List Ad):Prop:=maxLen+1048576+dSs l < L∧Ds l≤1048576
theorem Fu.kid{L:Nat}{l:List Ad}(h:Fu (L+1) l){x:Ad}(hx:x∈l):Fu L x.Body∧Fu L x.Else:=by
 obtain ⟨h1,h2⟩:=h
 have:=A7q hx
 have:=A9s hx
 have:=A19 x
 exact ⟨⟨by omega,by omega⟩,⟨by omega,by omega⟩⟩
theorem Fu.len{L:Nat}{l:List Ad}(h:Fu (L+1) l):l.length≤maxLen∧l.length < L∧l.length≤1048576:=by
 obtain ⟨h1,h2⟩:=h
 have:=Boe l
 have:=Bx
 exact ⟨by omega,by omega,by omega⟩
theorem Fu.one{L:Nat}{l:List Ad}(h:Fu (L+1) l):∃k,L=k+1:=by
 obtain ⟨h1,h2⟩:=h
 have:=Bx
 exact ⟨L - 1,by omega⟩
theorem Fu.pos{L:Nat}{l:List Ad}(h:Fu L l):∃k,L=k+1:=by
 obtain ⟨h1,h2⟩:=h
 exact ⟨L - 1,by omega⟩
theorem A3y(rec:List Ad→Option Int)(L:Nat)(a0:List Ad):∀(k:List Ad) (i:Nat) (v:Nat),v+Zb k≤1048576+1048576→(∀x∈k,rec x.Body=some (Zb x.Body:Int)∧rec x.Else=some (Zb x.Else:Int))→∃j,J1 rec L a0 k i ((v+k.length:Nat):Int)=some (0,(((v+Zb k:Nat):Int),j)):=by
 intro k
 induction k with
 |nil=>intro i v _ _;exact ⟨i,by rw [J1,Zb];rfl⟩
 |cons x k ih=>
  intro i v hb h
  rw [Zb,Bc8] at hb
  have hlen:k.length≤Zb k:=by
   clear ih h hb
   induction k with
   |nil=>simp
   |cons y k ih=>rw [Zb,Bc8,List.length_cons];omega
  obtain ⟨h1,h2⟩:=h x (by simp)
  obtain ⟨j,hj⟩:=ih (i+1) (v+1+Zb x.Body+Zb x.Else) (by omega) fun y hy=>h y (by simp [hy])
  refine ⟨j,?_⟩
  rw [J1,h1,Option.bind_some,h2,Option.bind_some,List.length_cons,Zb,Bc8]
  rw [Agm (n:=(Zb x.Body:Int)+(Zb x.Else:Int)) (by omega) (by omega),Agm (by omega) (by omega)]
  rw [show ((v+(k.length+1):Nat):Int)+((Zb x.Body:Int)+(Zb x.Else:Int))=((v+1+Zb x.Body+Zb x.Else+k.length:Nat):Int) by omega,hj]
  congr 3
  omega
theorem A46{l:List Ad}(hl:∀y∈l,Ct y):∀L,Fu L l→M7 L l=some (Zb l:Int):=by
 refine Aju (M:=fun l=>∀L,Fu L l→M7 L l=some (Zb l:Int)) ?_ hl
 intro l ih L hF
 obtain ⟨L,rfl⟩:=hF.pos
 obtain ⟨n1,n2,n3⟩:=hF.len
 have hc:=Az8 l
 obtain ⟨j,hj⟩:=A3y (M7 L) L l l 0 0 (by have:=hF.2;omega) fun x hx=>⟨(ih x hx).2.1 L (hF.kid hx).1,(ih x hx).2.2 L (hF.kid hx).2⟩
 rw [Nat.zero_add,Nat.zero_add] at hj
 simp only [Atn,Tk,Aj9,M7,Tk,aN,aB,Awk _ L l L n1 n2,hj,Option.bind_some,Nb]
theorem Cfx(a b:Nat):(if (1+(a:Int)) > (b:Int) then (1+(a:Int)) else (b:Int))=((max b (a+1):Nat):Int):=by
 split<;>omega
theorem A3z(rec:List Ad→Option Int)(L:Nat)(a0:List Ad):∀(k:List Ad) (i:Nat) (v:Nat),dSs k≤1048576→(∀x∈k,rec x.Body=some (dSs x.Body:Int)∧rec x.Else=some (dSs x.Else:Int))→∃j,J2 rec L a0 k i (v:Int)=some (0,(((max v (dSs k):Nat):Int),j)):=by
 intro k
 induction k with
 |nil=>intro i v _ _;exact ⟨i,by rw [J2,dSs,Nat.max_zero]⟩
 |cons x k ih=>
  intro i v hb h
  rw [dSs,Bon] at hb
  obtain ⟨h1,h2⟩:=h x (by simp)
  obtain ⟨j,hj⟩:=ih (i+1) (max (max v (dSs x.Body+1)) (dSs x.Else+1)) (by omega) fun y hy=>h y (by simp [hy])
  refine ⟨j,?_⟩
  rw [J2,h1,Option.bind_some,h2,Option.bind_some,dSs,Bon]
  rw [Agm (n:=1+(dSs x.Body:Int)) (by omega) (by omega),Agm (n:=1+(dSs x.Else:Int)) (by omega) (by omega),Cfx,Cfx,hj]
  congr 3
  omega
theorem A47{l:List Ad}(hl:∀y∈l,Ct y):∀L,Fu L l→M8 L l=some (dSs l:Int):=by
 refine Aju (M:=fun l=>∀L,Fu L l→M8 L l=some (dSs l:Int)) ?_ hl
 intro l ih L hF
 obtain ⟨L,rfl⟩:=hF.pos
 obtain ⟨n1,n2,n3⟩:=hF.len
 have hc:=Avl l
 obtain ⟨j,hj⟩:=A3z (M8 L) L l l 0 0 (by have:=hF.2;omega) fun x hx=>⟨(ih x hx).2.1 L (hF.kid hx).1,(ih x hx).2.2 L (hF.kid hx).2⟩
 rw [Nat.zero_max] at hj
 simp only [Ato,Tl,Aka,M8,Tl,aN,aB,Awl _ L l L n1 n2]
 rw [show (0:Int)=((0:Nat):Int) from rfl,hj]
 simp only [Option.bind_some,Nb]
end Go.Proofs.YtofcpkmnhmnfcaaGreatR.Ev
