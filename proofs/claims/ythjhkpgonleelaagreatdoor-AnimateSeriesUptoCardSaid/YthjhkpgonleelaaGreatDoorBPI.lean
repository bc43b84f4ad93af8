/-  Chapters 4 and 10, plainly: distributions; counting statements. -/
import Derived.Test.YthjhkpgonleelaaGreatDoorBQA
import Derived.Test.YthjhkpgonleelaaGreatDoorBPB
namespace Go.Proofs.YthjhkpgonleelaaGreatDoor.Ev
open Go An
set_option maxRecDepth 100000
set_option linter.unusedVariables false
set_option linter.unusedSimpArgs false
set_option linter.unnecessarySimpa false
theorem Auk{a b:Int}(h:¬a=b):(a != b)=true:=bne_iff_ne.2 h
theorem Ay8{α :Type} [Inhabited α](l:List α)(i:Nat)(h:i < l.length):l.drop i=l.getD i default::l.drop (i+1):=by
 rw [List.drop_eq_getElem_cons h,Za l i h]
theorem Adv(L:Nat)(a0 a1:List Int):∀(k:List Int) (i:Nat) (v:Bool),i+k.length=a1.length→∃j,Ek L a0 a1 k i v=some (bif decide (k=a1.drop i) then (1,(v,j)) else (0,(false,j))):=by
 intro k
 induction k with
 |nil=>
  intro i v h
  refine ⟨i,?_⟩
  have:a1.drop i= []:=List.drop_eq_nil_of_le (by simp at h;omega)
  rw [this];rfl
 |cons x k ih=>
  intro i v h
  rw [List.length_cons] at h
  obtain ⟨j,hj⟩:=ih (i+1) v (by omega)
  have hi:i < a1.length:=by omega
  rw [Ek,Ay8 a1 i hi,ifp (show (i:Int) < (a1.length:Int) by omega),hj,toN]
  generalize a1.getD i default=y
  by_cases hx:x=y
  ·refine ⟨j,?_⟩
   subst hx
   simp
  ·exact ⟨i,by simp [hx,Auk hx]⟩
theorem Yw(L:Nat)(a b:List Int)(ha:a.length≤maxLen)(hL:maxLen < L):Kf L a b=some (decide (a=b)):=by
 simp only [Zu,Kw,Hn,Kf,Kw,Hn,aN,aB,Ab2 L a b L ha (by omega)]
 by_cases h:(a.length:Int)=(b.length:Int)
 ·obtain ⟨j,hj⟩:=Adv L a b a 0 false (by omega)
  rw [hj,List.drop_zero]
  by_cases hab:a=b
  ·simp [hab,x0]
  ·simp [hab,h,R4]
 ·have:a≠b:=by rintro rfl;exact h rfl
  simp [this,Auk h]
def Adx(a b:Cp):Bool:=a.Op == b.Op && a.A == b.A && a.B == b.B && a.N == b.N && decide (a.Values=b.Values) && decide (a.Weights=b.Weights)
def okD(d:Cp):Prop:=d.Values.length≤1099511627776∧d.Weights.length≤1099511627776
theorem Zd(L:Nat)(a b:Cp)(ha:okD a)(hL:maxLen < L):Jz L a b=some (Adx a b):=by
 have hM:=Gw
 obtain ⟨h1,h2⟩:=ha
 simp only [Ac5,Jz,aN,aB,Yw L a.Values b.Values (by omega) hL,Yw L a.Weights b.Weights (by omega) hL,Option.bind_some,Qs,Kz,Adx]
def B7(lo hi x:Int):Bool:=decide (lo≤x) && decide (x≤hi)
def Al2(d:Cp):Bool:=decide (d.Values.length=0) && decide (d.Weights.length=0)
def Ah4(d:Cp):Bool:=
 if d.Op=1 then Al2 d && d.B == 0 && d.N == 0
 else if d.Op=2∨d.Op=5 then Al2 d && d.N == 0
 else if d.Op=4 then Al2 d
 else if d.Op=3 then d.A == 0 && d.B == 0 && d.N == 0
 else false
def A8k(d:Cp):Int:=
 if d.Values.length≠d.Weights.length then 8 else if d.Values.length=0 then 7 else if 20 < d.Values.length then 6
 else if d.Values.all (B7 0 1000000000) && d.Weights.all (B7 1 1000) then 0 else 2
def Aes(d:Cp):Int:=
 if Ah4 d=false then 1
 else if d.Op=1 then (if B7 0 1000000000 d.A then 0 else 2)
 else if d.Op=2 then (if B7 0 1000000000 d.A && B7 0 1000000000 d.B && decide (d.A≤d.B) then 0 else 2)
 else if d.Op=3 then A8k d
 else if d.Op=4 then (if B7 1 20 d.N && B7 0 1000000 d.A && B7 0 1000000 d.B && decide (d.A≤d.B) then 0 else 2)
 else (if B7 1 1000 d.A && B7 1 1000 d.B then 0 else 2)
theorem Bgp(n:Nat):((n:Int) == 0)=decide (n=0):=by
 cases h:((n:Int) == 0) with
 |true=>have:=eq_of_beq h;exact (decide_eq_true (by omega)).symm
 |false=>symm;apply decide_eq_false;rintro rfl;cases h
theorem A5i{d:Cp}(h:okD d):(Bi ((d.Values.length:Int)+(d.Weights.length:Int)) == 0)=Al2 d:=by
 obtain ⟨h1,h2⟩:=h
 rw [Nv (by omega) (by omega),show (d.Values.length:Int)+(d.Weights.length:Int)=((d.Values.length+d.Weights.length:Nat):Int) by omega,Bgp]
 unfold Al2
 rw [←Bool.decide_and]
 exact decide_eq_decide.2 (by omega)
theorem Amo(L:Nat)(d:Cp)(h:okD d):W6 L d=some (Ah4 d):=by
 simp only [s9,W6,aN,aB,A5i h,Qs,Kz,Rx,Ah4]
 congr 1
 by_cases h1:d.Op=1
 ·simp [h1]
 by_cases h2:d.Op=2
 ·simp [h2]
 by_cases h3:d.Op=3
 ·simp [h3]
 by_cases h4:d.Op=4
 ·simp [h4]
 by_cases h5:d.Op=5
 ·simp [h5]
 simp [h1,h2,h3,h4,h5,beq_false_of_ne h1,beq_false_of_ne h2,beq_false_of_ne h3,beq_false_of_ne h4,beq_false_of_ne h5]
theorem Ak0(L:Nat)(p:List Int)(lo hi:Int):∀(k:List Int) (i:Nat) (v:Int),∃j:Nat,Hz L p lo hi k i v=some (bif k.all (B7 lo hi) then (1,(v,(j:Int))) else (0,((j:Int),(j:Int)))):=by
 intro k
 induction k with
 |nil=>intro i v;exact ⟨i,rfl⟩
 |cons x k ih=>
  intro i v
  obtain ⟨j,hj⟩:=ih (i+1) v
  rw [Hz,hj,List.all_cons]
  by_cases h1:x < lo
  ·refine ⟨i,?_⟩
   have:B7 lo hi x=false:=by unfold B7;simp;omega
   simp [h1,this]
  ·by_cases h2:x > hi
   ·refine ⟨i,?_⟩
    have:B7 lo hi x=false:=by unfold B7;simp;omega
    simp [h1,h2,this]
   ·refine ⟨j,?_⟩
    have:B7 lo hi x=true:=by unfold B7;simp;omega
    simp [h1,h2,this]
theorem Uq(L:Nat)(lo hi:Int)(l:List Int)(hl:l.length≤1099511627776)(hL:maxLen < L):E7 L lo hi l=some (l.all (B7 lo hi)):=by
 have hM:=Gw
 obtain ⟨j,hj⟩:=Ak0 L l lo hi l 0 0
 simp only [Aem,Mx,E7,Mx,Vt,Aaf,Qz,aN,aB,Ahc L l lo hi L (by omega) (by omega),hj,Option.bind_some]
 cases l.all (B7 lo hi) with
 |true=>rfl
 |false=>simp [R4]
theorem Xa(L:Nat)(d:Cp)(h:okD d)(hL:maxLen < L):Em L d=some (Aes d):=by
 have hh:=h
 obtain ⟨h1,h2⟩:=hh
 have w1:∀lo hi a,E7 L lo hi [a]=some (B7 lo hi a):=fun lo hi a=>by rw [Uq L lo hi [a] (by simp) hL];simp
 have w2:∀lo hi a b,E7 L lo hi [a,b]=some (B7 lo hi a && B7 lo hi b):=fun lo hi a b=>by rw [Uq L lo hi [a,b] (by simp) hL];simp
 simp only [Abj,Em,aN,aB,Amo L d h,w1,w2,Uq L _ _ _ h1 hL,Uq L _ _ _ h2 hL,Option.bind_some,Qs,Kz,Aes,A8k]
 congr 1
 cases hu:Ah4 d with
 |false=>simp
 |true=>
  simp only [Bool.not_true,cond_false,if_false,Bool.true_eq_false]
  unfold Ah4 at hu
  by_cases e1:d.Op=1
  ·simp [e1]<;>grind
  by_cases e2:d.Op=2
  ·simp [e2]<;>grind
  by_cases e3:d.Op=3
  ·have q1:((d.Values.length:Int) != (d.Weights.length:Int))=decide (d.Values.length≠d.Weights.length):=by
    rw [Bool.eq_iff_iff];simp;omega
   have q2:decide ((d.Values.length:Int) > 20)=decide (20 < d.Values.length):=decide_eq_decide.2 (by omega)
   simp only [e3,q1,q2,Bgp]
   clear h h1 h2 w1 w2 q1 q2 hu e1 e2 e3
   generalize d.Values.length=nv
   generalize d.Weights.length=nw
   generalize d.Values.all (B7 0 1000000000)=x
   generalize d.Weights.all (B7 1 1000)=y
   by_cases c1:nv=nw
   ·subst c1
    by_cases c2:nv=0<;>by_cases c3:20 < nv<;>cases x<;>cases y<;>simp [c2,c3]
   ·simp [c1]
  by_cases e4:d.Op=4
  ·simp [e4]<;>grind
  by_cases e5:d.Op=5
  ·simp [e5]<;>grind
  simp [e1,e2,e3,e4,e5] at hu
mutual
def dS:Ag→Nat
 | .mk _ _ _ _ _ _ _ _ b e=>max (dSs b) (dSs e)+1
def dSs:List Ag→Nat
 | []=>0
 |x::k=>max (dS x) (dSs k)
end
mutual
def ctS:Ag→Nat
 | .mk _ _ _ _ _ _ _ _ b e=>Ti b+Ti e+1
def Ti:List Ag→Nat
 | []=>0
 |x::k=>ctS x+Ti k
end
theorem A5d(s:Ag):dS s=max (dSs s.Body) (dSs s.Else)+1:=by cases s;rw [dS];simp only [Ag.cp_eq,Ag.eta,Ag.Op,Ag.Name,Ag.Of,Ag.E,Ag.F,Ag.Args,Ag.Dist,Ag.Flag,Ag.Body,Ag.Else]
theorem Av6(s:Ag):ctS s=Ti s.Body+Ti s.Else+1:=by cases s;rw [ctS];simp only [Ag.cp_eq,Ag.eta,Ag.Op,Ag.Name,Ag.Of,Ag.E,Ag.F,Ag.Args,Ag.Dist,Ag.Flag,Ag.Body,Ag.Else]
theorem Ay6{x:Ag}{k:List Ag}(h:x∈k):dSs x.Body < dSs k∧dSs x.Else < dSs k:=by
 induction k with
 |nil=>cases h
 |cons a k ih=>
  rw [dSs]
  rcases List.mem_cons.1 h with rfl|h
  ·rw [A5d];omega
  ·have:=ih h;omega
theorem Aqp(s:Ag):1+(s.Name.size+1)+(s.Of.size+1)+B3 s.E+B3 s.F+(Er B3 s.Args+1)+J2 s.Dist+1+(Dk s.Body+1)+(Dk s.Else+1)+1=D8 s:=by
 rw [Adb,K1,K1]<;>omega
theorem Asx{x:Ag}{k:List Ag}(h:x∈k):D8 x≤Dk k:=by
 rw [K1];exact Sd h
theorem A42(k:List Ag):k.length≤Dk k:=by
 rw [K1]
 exact Hp fun x=>by rw [←Aqp];omega
theorem A41(k:List Ab):k.length≤Er B3 k:=
 Hp fun x=>by cases x;rw [B3];omega
mutual
theorem Bkn:∀s:Ag,dS s≤D8 s
 | .mk a b c d e f g h i j=>by
  rw [dS,D8]
  have:=Al0 i
  have:=Al0 j
  omega
theorem Al0:∀k:List Ag,dSs k≤Dk k
 | []=>by simp [dSs]
 |x::k=>by
  rw [dSs,Dk]
  have:=Bkn x
  have:=Al0 k
  omega
end
mutual
theorem Bfe:∀s:Ag,ctS s≤D8 s
 | .mk a b c d e f g h i j=>by
  rw [ctS,D8]
  have:=Ak8 i
  have:=Ak8 j
  omega
theorem Ak8:∀k:List Ag,Ti k≤Dk k
 | []=>by simp [Ti]
 |x::k=>by
  rw [Ti,Dk]
  have:=Bfe x
  have:=Ak8 k
  omega
end
theorem Anl{M:List Ag→Prop}(h:∀l:List Ag,(∀y∈l,Dj y∧M y.Body∧M y.Else)→M l){l:List Ag}(hl:∀y∈l,Dj y):M l:=by
 have key:∀s,Dj s→M s.Body∧M s.Else:=by
  intro s hs
  induction hs with
  |mk a0 a1 a2 a3 a4 a5 a6 a7 a8 a9 h0 h1 h2 h3 h4 h5 h5' h6 h7 h8 h8' h9 h9' ih8 ih9=>
   exact ⟨h a8 fun y hy=>⟨h8' y hy,ih8 y hy⟩,h a9 fun y hy=>⟨h9' y hy,ih9 y hy⟩⟩
 exact h l fun y hy=>⟨hl y hy,key y (hl y hy)⟩
theorem Bog{s:Ag}(h:Dj s):j5 s.Name∧j5 s.Of∧Cq s.E∧Cq s.F∧(∀y∈s.Args,Cq y)∧Tm s.Dist∧(∀y∈s.Body,Dj y)∧(∀y∈s.Else,Dj y):=by
 cases h with
 |mk a0 a1 a2 a3 a4 a5 a6 a7 a8 a9 h0 h1 h2 h3 h4 h5 h5' h6 h7 h8 h8' h9 h9'=>exact ⟨h1,h2,h3,h4,h5',h6,h8',h9'⟩
def Fu(L:Nat)(l:List Ag):Prop:=maxLen+1048576+dSs l < L∧Dk l≤1048576
theorem Fu.kid{L:Nat}{l:List Ag}(h:Fu (L+1) l){x:Ag}(hx:x∈l):Fu L x.Body∧Fu L x.Else:=by
 obtain ⟨h1,h2⟩:=h
 have:=Ay6 hx
 have:=Asx hx
 have:=Aqp x
 exact ⟨⟨by omega,by omega⟩,⟨by omega,by omega⟩⟩
theorem Fu.len{L:Nat}{l:List Ag}(h:Fu (L+1) l):l.length≤maxLen∧l.length < L∧l.length≤1048576:=by
 obtain ⟨h1,h2⟩:=h
 have:=A42 l
 have:=Gw
 exact ⟨by omega,by omega,by omega⟩
theorem Fu.one{L:Nat}{l:List Ag}(h:Fu (L+1) l):∃k,L=k+1:=by
 obtain ⟨h1,h2⟩:=h
 have:=Gw
 exact ⟨L - 1,by omega⟩
theorem Fu.pos{L:Nat}{l:List Ag}(h:Fu L l):∃k,L=k+1:=by
 obtain ⟨h1,h2⟩:=h
 exact ⟨L - 1,by omega⟩
theorem Am2(rec:List Ag→Option Int)(L:Nat)(a0:List Ag):∀(k:List Ag) (i:Nat) (v:Nat),v+Ti k≤1048576+1048576→(∀x∈k,rec x.Body=some (Ti x.Body:Int)∧rec x.Else=some (Ti x.Else:Int))→∃j,Hh rec L a0 k i ((v+k.length:Nat):Int)=some (0,(((v+Ti k:Nat):Int),j)):=by
 intro k
 induction k with
 |nil=>intro i v _ _;exact ⟨i,by rw [Hh,Ti];rfl⟩
 |cons x k ih=>
  intro i v hb h
  rw [Ti,Av6] at hb
  have hlen:k.length≤Ti k:=by
   clear ih h hb
   induction k with
   |nil=>simp
   |cons y k ih=>rw [Ti,Av6,List.length_cons];omega
  obtain ⟨h1,h2⟩:=h x (by simp)
  obtain ⟨j,hj⟩:=ih (i+1) (v+1+Ti x.Body+Ti x.Else) (by omega) fun y hy=>h y (by simp [hy])
  refine ⟨j,?_⟩
  rw [Hh,h1,Option.bind_some,h2,Option.bind_some,List.length_cons,Ti,Av6]
  rw [Nv (n:=(Ti x.Body:Int)+(Ti x.Else:Int)) (by omega) (by omega),Nv (by omega) (by omega)]
  rw [show ((v+(k.length+1):Nat):Int)+((Ti x.Body:Int)+(Ti x.Else:Int))=((v+1+Ti x.Body+Ti x.Else+k.length:Nat):Int) by omega,hj]
  congr 3
  omega
theorem Aoa{l:List Ag}(hl:∀y∈l,Dj y):∀L,Fu L l→Jq L l=some (Ti l:Int):=by
 refine Anl (M:=fun l=>∀L,Fu L l→Jq L l=some (Ti l:Int)) ?_ hl
 intro l ih L hF
 obtain ⟨L,rfl⟩:=hF.pos
 obtain ⟨n1,n2,n3⟩:=hF.len
 have hc:=Ak8 l
 obtain ⟨j,hj⟩:=Am2 (Jq L) L l l 0 0 (by have:=hF.2;omega) fun x hx=>⟨(ih x hx).2.1 L (hF.kid hx).1,(ih x hx).2.2 L (hF.kid hx).2⟩
 rw [Nat.zero_add,Nat.zero_add] at hj
 simp only [Agm,Oi,Abb,Jq,Oi,aN,aB,Ai8 _ L l L n1 n2,hj,Option.bind_some,R4]
theorem Bk0(a b:Nat):(if (1+(a:Int)) > (b:Int) then (1+(a:Int)) else (b:Int))=((max b (a+1):Nat):Int):=by
 split<;>omega
theorem Am3(rec:List Ag→Option Int)(L:Nat)(a0:List Ag):∀(k:List Ag) (i:Nat) (v:Nat),dSs k≤1048576→(∀x∈k,rec x.Body=some (dSs x.Body:Int)∧rec x.Else=some (dSs x.Else:Int))→∃j,Hi rec L a0 k i (v:Int)=some (0,(((max v (dSs k):Nat):Int),j)):=by
 intro k
 induction k with
 |nil=>intro i v _ _;exact ⟨i,by rw [Hi,dSs,Nat.max_zero]⟩
 |cons x k ih=>
  intro i v hb h
  rw [dSs,A5d] at hb
  obtain ⟨h1,h2⟩:=h x (by simp)
  obtain ⟨j,hj⟩:=ih (i+1) (max (max v (dSs x.Body+1)) (dSs x.Else+1)) (by omega) fun y hy=>h y (by simp [hy])
  refine ⟨j,?_⟩
  rw [Hi,h1,Option.bind_some,h2,Option.bind_some,dSs,A5d]
  rw [Nv (n:=1+(dSs x.Body:Int)) (by omega) (by omega),Nv (n:=1+(dSs x.Else:Int)) (by omega) (by omega),Bk0,Bk0,hj]
  congr 3
  omega
theorem Aob{l:List Ag}(hl:∀y∈l,Dj y):∀L,Fu L l→Jr L l=some (dSs l:Int):=by
 refine Anl (M:=fun l=>∀L,Fu L l→Jr L l=some (dSs l:Int)) ?_ hl
 intro l ih L hF
 obtain ⟨L,rfl⟩:=hF.pos
 obtain ⟨n1,n2,n3⟩:=hF.len
 have hc:=Al0 l
 obtain ⟨j,hj⟩:=Am3 (Jr L) L l l 0 0 (by have:=hF.2;omega) fun x hx=>⟨(ih x hx).2.1 L (hF.kid hx).1,(ih x hx).2.2 L (hF.kid hx).2⟩
 rw [Nat.zero_max] at hj
 simp only [Agn,Oj,Abc,Jr,Oj,aN,aB,Ai9 _ L l L n1 n2]
 rw [show (0:Int)=((0:Nat):Int) from rfl,hj]
 simp only [Option.bind_some,R4]
theorem ww1:Bi 1=1:=by kernel_rfl
theorem ww2:Bi 2=2:=by kernel_rfl
def Ad4(e:Ab):Bool:=e.Op == 0 && decide (e.Name=⟨#[]⟩) && e.N == 0 && decide (e.Kids.length=0)
theorem u9(L:Nat)(e:Ab)(hL:1 < L):J0 L e (.mk 0 ⟨#[]⟩ 0 [])=some (Ad4 e):=by
 obtain ⟨L,rfl⟩:∃k,L=k+1:=⟨L - 1,by omega⟩
 cases e with
 |mk a b c k=>
  simp only [Ajz,U6,Qb,Acy,J0,U6,Qb,aN,aB,Ab.cp_eq,Ab.Op,Ab.Name,Ab.N,Ab.Kids,Ab.eta,Wv,Kz,Rx,List.length_nil,Ad4]
  by_cases h:k.length=0
  ·have hk:k= []:=List.length_eq_zero_iff.1 h
   subst hk
   rw [Akx _ L (.mk a b c []) _ L (Nat.zero_le _) (by simp only [Ab.cp_eq,Ab.Op,Ab.Name,Ab.N,Ab.Kids,Ab.eta,List.length_nil];omega)]
   simp only [Ab.cp_eq,Ab.Op,Ab.Name,Ab.N,Ab.Kids,Ab.eta,Ms,Option.bind_some,x0,List.length_nil]
   by_cases h1:a=0
   ·by_cases h2:b=⟨#[]⟩
    ·by_cases h3:c=0
     ·simp [h1,h2,h3]
     ·simp [h1,h2,h3,Auk h3]
    ·simp [h1,h2]
   ·simp [Auk h1,h1]
  ·have:((k.length:Int) != ((0:Nat):Int))=true:=Auk (by omega)
   simp only [this,Bool.or_true,cond_true,h,decide_false,Bool.and_false]
theorem A8b(op:Int):op=1∨op=2∨op=3∨op=4∨op=5∨op=6∨op=7∨op=8∨op=9∨op=10∨op=11∨op=12∨op=13∨op=14∨op=15∨op=16∨op=17∨op=18∨op < 1∨18 < op:=by omega
def Ak5(op:Int):Bp×Bool:=
 if op=1∨op=7∨op=8∨op=12∨op=15∨op=16∨op=17 then (⟨true,false,true,false,false,false,false,false,false⟩,true)
 else if op=2 then (⟨true,true,false,false,false,true,false,false,false⟩,true)
 else if op=3 then (⟨false,false,true,false,false,false,false,true,true⟩,true)
 else if op=4 then (⟨false,false,true,false,false,false,false,true,false⟩,true)
 else if op=5 then (⟨false,false,true,false,false,false,false,false,false⟩,true)
 else if op=6 then (⟨true,false,true,true,false,false,true,false,false⟩,true)
 else if op=9 then (⟨true,true,false,false,false,false,false,false,false⟩,true)
 else if op=10∨op=11 then (⟨true,false,false,false,false,false,false,false,false⟩,true)
 else if op=13 then (⟨true,true,true,false,true,false,false,false,false⟩,true)
 else if op=14 then (⟨true,false,true,false,true,false,false,false,false⟩,true)
 else if op=18 then (⟨false,false,false,false,false,false,false,false,false⟩,true)
 else (⟨false,false,false,false,false,false,false,false,false⟩,false)
theorem El{op:Int}(h:op < 1∨18 < op)(n:Int)(h1:1≤n)(h2:n≤18):(op == n)=false:=beq_false_of_ne (by omega)
theorem Avf{op:Int}(h:op < 1∨18 < op):Ak5 op=(⟨false,false,false,false,false,false,false,false,false⟩,false):=by
 unfold Ak5
 repeat rw [if_neg (by omega)]
theorem Arq(L:Nat)(op:Int):Xi L op=some (Ak5 op):=by
 simp only [U4,sx_stmt_uses_3,d6,sx_stmt_uses_2,d5,sx_stmt_uses_0,Aj0,Xi,aN,aB]
 have key:op < 1∨18 < op→_:=fun h=>h
 rcases A8b op with rfl|rfl|rfl|rfl|rfl|rfl|rfl|rfl|rfl|rfl|rfl|rfl|rfl|rfl|rfl|rfl|rfl|rfl|h|h
 case inr.inr.inr.inr.inr.inr.inr.inr.inr.inr.inr.inr.inr.inr.inr.inr.inr.inr.inl=>
  have h':op < 1∨18 < op:= .inl h
  simp only [Avf h',El h',show (1:Int)≤1 by decide,cond_false,El h' 1 (by decide) (by decide),El h' 2 (by decide) (by decide),El h' 3 (by decide) (by decide),El h' 4 (by decide) (by decide),El h' 5 (by decide) (by decide),El h' 6 (by decide) (by decide),El h' 7 (by decide) (by decide),El h' 8 (by decide) (by decide),El h' 9 (by decide) (by decide),El h' 10 (by decide) (by decide),El h' 11 (by decide) (by decide),El h' 12 (by decide) (by decide),El h' 13 (by decide) (by decide),El h' 14 (by decide) (by decide),El h' 15 (by decide) (by decide),El h' 16 (by decide) (by decide),El h' 17 (by decide) (by decide),El h' 18 (by decide) (by decide)]
 case inr.inr.inr.inr.inr.inr.inr.inr.inr.inr.inr.inr.inr.inr.inr.inr.inr.inr.inr=>
  have h':op < 1∨18 < op:= .inr h
  simp only [Avf h',cond_false,El h' 1 (by decide) (by decide),El h' 2 (by decide) (by decide),El h' 3 (by decide) (by decide),El h' 4 (by decide) (by decide),El h' 5 (by decide) (by decide),El h' 6 (by decide) (by decide),El h' 7 (by decide) (by decide),El h' 8 (by decide) (by decide),El h' 9 (by decide) (by decide),El h' 10 (by decide) (by decide),El h' 11 (by decide) (by decide),El h' 12 (by decide) (by decide),El h' 13 (by decide) (by decide),El h' 14 (by decide) (by decide),El h' 15 (by decide) (by decide),El h' 16 (by decide) (by decide),El h' 17 (by decide) (by decide),El h' 18 (by decide) (by decide)]
 all_goals rfl
def d9:Cp:=⟨0,0,0,0,[],[]⟩
def Atj(s:Ag)(u:Bp):Bool:=
 (u.u_name || decide (s.Name=⟨#[]⟩)) && (u.u_of || decide (s.Of=⟨#[]⟩)) && (u.u_e || Ad4 s.E) && (u.u_f || Ad4 s.F) && (u.u_args || decide (s.Args.length=0)) && (u.u_dist || Adx s.Dist d9) && (u.u_flag || !s.Flag) && (u.u_body || decide (s.Body.length=0)) && (u.u_other || decide (s.Else.length=0))
structure SB (L:Nat) (s:Ag):Prop where
 fuel:9223372036855824383 < L
 nm:j5 s.Name
 of:j5 s.Of
 e:Cq s.E
 f:Cq s.F
 args:∀y∈s.Args,Cq y
 bk:D8 s≤1048576
theorem SB.lt{L:Nat}{s:Ag}(h:SB L s):maxLen < L:=by
 have h1:=h.fuel
 have hM:=Gw
 omega
theorem SB.dist{L:Nat}{s:Ag}(h:SB L s):okD s.Dist:=by
 have h1:=h.bk
 rw [←Aqp] at h1
 unfold J2 at h1
 have h2:s.Dist.Values.length≤Er (fun z:Int=>1) s.Dist.Values:=Hp fun _=>Nat.le_refl _
 have h3:s.Dist.Weights.length≤Er (fun z:Int=>1) s.Dist.Weights:=Hp fun _=>Nat.le_refl _
 exact ⟨by omega,by omega⟩
theorem SB.de{L:Nat}{s:Ag}(h:SB L s):maxLen+dE s.E < L∧maxLen+dE s.F < L∧(∀y∈s.Args,maxLen+dE y < L)∧s.Args.length≤1048576:=by
 have h1:=h.bk
 rw [←Aqp] at h1
 have h2:=h.fuel
 have hM:=Gw
 have h3:=Alz s.E
 have h4:=Alz s.F
 have h5:=A41 s.Args
 refine ⟨by omega,by omega,fun y hy=> ?_,by omega⟩
 have h6:=Alz y
 have h7:B3 y≤Er B3 s.Args:=Sd hy
 omega
theorem Arp(L:Nat)(s:Ag)(u:Bp)(h:SB L s):Xh L s u=some (Atj s u):=by
 have hL:=h.fuel
 have hM:=Gw
 have e0:=u9 L s.E (by omega)
 have f0:=u9 L s.F (by omega)
 have d0:=Zd L s.Dist d9 h.dist h.lt
 unfold d9 at d0
 simp only [Ac7,Xh,aN,aB,Ab.cp_eq,e0,f0,d0,Wv,Bgp,Option.bind_some,Qs,Kz,Rx,Atj,d9]
 congr 1
 cases u.u_e<;>cases u.u_f<;>cases u.u_dist<;>cases Ad4 s.E<;>cases Ad4 s.F<;>simp only [Bool.true_or,Bool.false_or,Bool.and_true,Bool.and_false,Bool.false_and,Bool.true_and,cond_true,cond_false,Bool.and_assoc]
def Aj1:List Ab→Int
 | []=>0
 |x::k=>if K0 false x≠0 then K0 false x else Aj1 k
def Amt(s:Ag)(u:Bp):Int:=
 if (u.u_name && Ni s.Name != 0)=true then Ni s.Name
 else if (u.u_of && Ni s.Of != 0)=true then Ni s.Of
 else if (u.u_e && K0 false s.E != 0)=true then K0 false s.E
 else if (u.u_f && K0 false s.F != 0)=true then K0 false s.F
 else if 6 < s.Args.length then 6
 else if Aj1 s.Args≠0 then Aj1 s.Args
 else if u.u_dist then Aes s.Dist else 0
theorem Am5(L:Nat)(s:Ag)(u:Bp):∀(k:List Ab) (i:Nat) (v:Int),(∀x∈k,Nl L x=some (K0 false x))→∃j,Hj L s u k i v=some (bif Aj1 k != 0 then (0,(Aj1 k,j)) else (1,(v,j))):=by
 intro k
 induction k with
 |nil=>intro i v _;exact ⟨i,rfl⟩
 |cons x k ih=>
  intro i v h
  obtain ⟨j,hj⟩:=ih (i+1) v fun y hy=>h y (by simp [hy])
  by_cases hx:K0 false x=0
  ·exact ⟨j,by simp [Hj,h x (by simp),hj,Aj1,hx]⟩
  ·exact ⟨i,by simp [Hj,h x (by simp),Aj1,hx,g6 hx]⟩
theorem Aod(L:Nat)(s:Ag)(u:Bp)(h:SB L s):Tz L s u=some (Amt s u):=by
 have hL:=h.fuel
 have hM:=Gw
 obtain ⟨b1,b2,b3,b4⟩:=h.de
 have n1:s.Name.size≤maxLen:=h.nm
 have n2:s.Of.size≤maxLen:=h.of
 have c1:=Km L s.Name h.nm (by omega)
 have c2:=Km L s.Of h.of (by omega)
 have c3:=u7 h.e L b1
 have c4:=u7 h.f L b2
 have c5:=Xa L s.Dist h.dist h.lt
 obtain ⟨j,hj⟩:=Am5 L s u s.Args 0 0 fun x hx=>u7 (h.args x hx) L (b3 x hx)
 have p1:∃j,Iz L u s L 0 0=some (bif u.u_name && Ni s.Name != 0 then (0,(Ni s.Name,j)) else bif u.u_of && Ni s.Of != 0 then (0,(Ni s.Of,j)) else (1,(0,j))):=by
  obtain ⟨k,hk⟩:∃k,L=k+3:=⟨L - 3,by omega⟩
  have l1:Iz L u s L 0 0=Iz L u s (k+3) 0 0:=by rw [←hk]
  rw [l1]
  simp only [Iz,Ym,aN,aB,List.length_cons,List.length_nil]
  cases hn:(u.u_name && Ni s.Name != 0) with
  |true=>exact ⟨0,by simp [c1,hn,Kz]⟩
  |false=>
   cases ho:(u.u_of && Ni s.Of != 0) with
   |true=>exact ⟨1,by simp [c1,c2,hn,ho,Kz,ww1,ww2]⟩
   |false=>exact ⟨2,by simp [c1,c2,hn,ho,Kz,ww1,ww2]⟩
 have p2:∃j,I0 L u s L 0 0=some (bif u.u_e && K0 false s.E != 0 then (0,(K0 false s.E,j)) else bif u.u_f && K0 false s.F != 0 then (0,(K0 false s.F,j)) else (1,(0,j))):=by
  obtain ⟨k,hk⟩:∃k,L=k+3:=⟨L - 3,by omega⟩
  have l1:I0 L u s L 0 0=I0 L u s (k+3) 0 0:=by rw [←hk]
  rw [l1]
  simp only [I0,Yn,aN,aB,List.length_cons,List.length_nil,Ab.cp_eq]
  cases he:u.u_e<;>cases hf:u.u_f<;>by_cases ze:K0 false s.E=0<;>by_cases zf:K0 false s.F=0
  all_goals first
   |(refine ⟨0,?_⟩;simp [c3,c4,he,hf,ze,zf,g6,ww1,ww2];done)
   |(refine ⟨1,?_⟩;simp [c3,c4,he,hf,ze,zf,g6,ww1,ww2];done)
   |(refine ⟨2,?_⟩;simp [c3,c4,he,hf,ze,zf,g6,ww1,ww2];done)
 obtain ⟨j1,p1⟩:=p1
 obtain ⟨j2,p2⟩:=p2
 simp only [Agp,S5,Te,S6,Tf,Ol,Tz,S5,Te,S6,Tf,Ol,aN,aB,p1,Option.bind_some,Amt]
 cases hn:(u.u_name && Ni s.Name != 0) with
 |true=>simp [R4]
 |false=>
  cases ho:(u.u_of && Ni s.Of != 0) with
  |true=>simp [R4]
  |false=>
   simp only [cond_false,x0,p2,Option.bind_some,Bool.false_eq_true,if_false]
   cases he:(u.u_e && K0 false s.E != 0) with
   |true=>simp [R4]
   |false=>
    cases hf:(u.u_f && K0 false s.F != 0) with
    |true=>simp [R4]
    |false=>
     simp only [cond_false,x0,Bool.false_eq_true,if_false,Ajb L s u L (by omega) (by omega),hj,Option.bind_some,c5]
     by_cases hl:6 < s.Args.length
     ·have:(6:Int) < (s.Args.length:Int):=by omega
      simp [hl,this]
     ·have:¬(6:Int) < (s.Args.length:Int):=by omega
      by_cases ha:Aj1 s.Args=0
      ·cases hd:u.u_dist<;>simp [hl,this,ha,hd,x0]
      ·simp [hl,this,ha,g6 ha,R4]
def Aup(s:Ag):Int:=bif !(Ak5 s.Op).2 || !Atj s (Ak5 s.Op).1 then 1 else Amt s (Ak5 s.Op).1
mutual
def A9i:Ag→Int
 | .mk a b c d e f g h i j=>if Aup (.mk a b c d e f g h i j)≠0 then Aup (.mk a b c d e f g h i j) else if Ve i≠0 then Ve i else Ve j
def Ve:List Ag→Int
 | []=>0
 |x::k=>if A9i x≠0 then A9i x else Ve k
end
theorem A9j(s:Ag):A9i s=if Aup s≠0 then Aup s else if Ve s.Body≠0 then Ve s.Body else Ve s.Else:=by cases s;rw [A9i];rfl
def Asd(l:List Ag):Int:=if 200 < Ti l then 6 else if 12 < dSs l then 11 else Ve l
theorem Fu.sb{L:Nat}{l:List Ag}(h:Fu (L+1) l){x:Ag}(hx:x∈l)(ho:Dj x):SB L x:=by
 obtain ⟨h1,h2⟩:=h
 have hM:=Gw
 have h3:=Ay6 hx
 have h4:=Asx hx
 obtain ⟨o1,o2,o3,o4,o5,o6,_,_⟩:=Bog ho
 exact ⟨by omega,o1,o2,o3,o4,o5,by omega⟩
theorem Bir{β :Type}(x:Ag)(rest:Option β)(g:Int→β):(Option.bind (bif !(Ak5 x.Op).2 then some true else some (!Atj x (Ak5 x.Op).1)) fun b2=>bif b2 then some (g 1) else bif Amt x (Ak5 x.Op).1 != 0 then some (g (Amt x (Ak5 x.Op).1)) else rest)=bif Aup x != 0 then some (g (Aup x)) else rest:=by
 unfold Aup
 cases (Ak5 x.Op).2 with
 |false=>rfl
 |true=>cases Atj x (Ak5 x.Op).1<;>rfl
theorem Am4(rec:List Ag→Option Int)(L:Nat)(a0:List Ag):∀(k:List Ag) (i:Nat) (v:Int),(∀x∈k,SB L x∧rec x.Body=some (Ve x.Body)∧rec x.Else=some (Ve x.Else))→∃j,I8 rec L a0 k i v=some (bif Ve k != 0 then (0,(Ve k,j)) else (1,(v,j))):=by
 intro k
 induction k with
 |nil=>intro i v _;exact ⟨i,rfl⟩
 |cons x k ih=>
  intro i v h
  obtain ⟨h0,h1,h2⟩:=h x (by simp)
  obtain ⟨j,hj⟩:=ih (i+1) v fun y hy=>h y (by simp [hy])
  rw [I8]
  simp only [Arq,Arp L x _ h0,Aod L x _ h0,h1,h2,hj,Option.bind_some,Ve,A9j]
  rw [Bir x _ fun e=>(0,(e,(i:Int)))]
  by_cases e1:Aup x=0
  ·by_cases e2:Ve x.Body=0
   ·by_cases e3:Ve x.Else=0
    ·exact ⟨j,by simp [e1,e2,e3]⟩
    ·exact ⟨i,by simp [e1,e2,e3,g6 e3]⟩
   ·exact ⟨i,by simp [e1,e2,g6 e2]⟩
  ·exact ⟨i,by simp [e1,g6 e1]⟩
theorem Aoc{l:List Ag}(hl:∀y∈l,Dj y):∀L,Fu L l→Js L l=some (Ve l):=by
 refine Anl (M:=fun l=>∀L,Fu L l→Js L l=some (Ve l)) ?_ hl
 intro l ih L hF
 obtain ⟨L,rfl⟩:=hF.pos
 obtain ⟨n1,n2,n3⟩:=hF.len
 obtain ⟨j,hj⟩:=Am4 (Js L) L l l 0 0 fun x hx=>⟨hF.sb hx (ih x hx).1,(ih x hx).2.1 L (hF.kid hx).1,(ih x hx).2.2 L (hF.kid hx).2⟩
 simp only [Ago,Ok,Abd,Js,Ok,aN,aB,Aja _ L l L n1 n2,hj,Option.bind_some]
 by_cases h:Ve l=0
 ·simp [h,x0]
 ·simp [g6 h,R4]
theorem An9{l:List Ag}(hl:∀y∈l,Dj y)(L:Nat)(hF:Fu L l):Y2 L l=some (Asd l):=by
 have e1:decide ((Ti l:Int) > 200)=decide (200 < Ti l):=decide_eq_decide.2 (by omega)
 have e2:decide ((dSs l:Int) > 12)=decide (12 < dSs l):=decide_eq_decide.2 (by omega)
 simp only [Abm,Y2,aN,aB,Aoa hl L hF,Aob hl L hF,Aoc hl L hF,Option.bind_some,Qs,e1,e2,Asd]
 congr 1
 by_cases h1:200 < Ti l<;>by_cases h2:12 < dSs l<;>simp [h1,h2]
end Go.Proofs.YthjhkpgonleelaaGreatDoor.Ev
