/-  Chapter 10, plainly: the form of statements. -/
import Derived.Test.YtcbandfdmbkokaaGreatQ2
import Derived.Test.YtcbandfdmbkokaaGreatQ4
import Derived.Test.YtcbandfdmbkokaaGreatPi
import Derived.Test.YtcbandfdmbkokaaGreatPh0
namespace Go.Proofs.YtcbandfdmbkokaaGreat.Ev
open Go
set_option maxRecDepth 100000
set_option linter.unusedVariables false
set_option linter.unusedSimpArgs false
set_option linter.unnecessarySimpa false
mutual
def dS:Ab→Nat
 | .mk _ _ _ _ _ _ _ _ b e=>max (Vl b) (Vl e)+1
def Vl:List Ab→Nat
 | []=>0
 |x::k=>max (dS x) (Vl k)
end
mutual
def ctS:Ab→Nat
 | .mk _ _ _ _ _ _ _ _ b e=>I3 b+I3 e+1
def I3:List Ab→Nat
 | []=>0
 |x::k=>ctS x+I3 k
end
theorem Avp(s:Ab):dS s=max (Vl s.Body) (Vl s.Else)+1:=by cases s;rw [dS];simp only [Ab.cp_eq,Ab.eta,Ab.Op,Ab.Name,Ab.Of,Ab.E,Ab.F,Ab.Args,Ab.Dist,Ab.Flag,Ab.Body,Ab.Else]
theorem Ak6(s:Ab):ctS s=I3 s.Body+I3 s.Else+1:=by cases s;rw [ctS];simp only [Ab.cp_eq,Ab.eta,Ab.Op,Ab.Name,Ab.Of,Ab.E,Ab.F,Ab.Args,Ab.Dist,Ab.Flag,Ab.Body,Ab.Else]
theorem Azc{x:Ab}{k:List Ab}(h:x∈k):Vl x.Body < Vl k∧Vl x.Else < Vl k:=by
 induction k with
 |nil=>cases h
 |cons a k ih=>
  rw [Vl]
  rcases List.mem_cons.1 h with rfl|h
  ·rw [Avp];omega
  ·have:=ih h;omega
theorem Ar5(s:Ab):1+(s.Name.size+1)+(s.Of.size+1)+Cn s.E+Cn s.F+(Da Cn s.Args+1)+K4 s.Dist+1+(Ct s.Body+1)+(Ct s.Else+1)+1=Cv s:=by
 rw [Aat,Hp,Hp]
theorem Avj{x:Ab}{k:List Ab}(h:x∈k):Cv x≤Ct k:=by
 rw [Hp];exact Af5 h
theorem Ak2(k:List Ab):k.length≤Ct k:=by
 rw [Hp]
 exact Mr fun x=>by rw [←Ar5];omega
theorem A2z(k:List Aa):k.length≤Da Cn k:=
 Mr fun x=>by cases x;rw [Cn];omega
mutual
theorem Bmt:∀s:Ab,dS s≤Cv s
 | .mk a b c d e f g h i j=>by
  rw [dS,Cv]
  have:=r0 i
  have:=r0 j
  omega
theorem r0:∀k:List Ab,Vl k≤Ct k
 | []=>by simp [Vl]
 |x::k=>by
  rw [Vl,Ct]
  have:=Bmt x
  have:=r0 k
  omega
end
mutual
theorem Bbp:∀s:Ab,ctS s≤Cv s
 | .mk a b c d e f g h i j=>by
  rw [ctS,Cv]
  have:=Aeg i
  have:=Aeg j
  omega
theorem Aeg:∀k:List Ab,I3 k≤Ct k
 | []=>by simp [I3]
 |x::k=>by
  rw [I3,Ct]
  have:=Bbp x
  have:=Aeg k
  omega
end
theorem W0{M:List Ab→Prop}(h:∀l:List Ab,(∀y∈l,Cj y∧M y.Body∧M y.Else)→M l){l:List Ab}(hl:∀y∈l,Cj y):M l:=by
 have key:∀s,Cj s→M s.Body∧M s.Else:=by
  intro s hs
  induction hs with
  |mk a0 a1 a2 a3 a4 a5 a6 a7 a8 a9 h0 h1 h2 h3 h4 h5 h5' h6 h7 h8 h8' h9 h9' ih8 ih9=>
   exact ⟨h a8 fun y hy=>⟨h8' y hy,ih8 y hy⟩,h a9 fun y hy=>⟨h9' y hy,ih9 y hy⟩⟩
 exact h l fun y hy=>⟨hl y hy,key y (hl y hy)⟩
theorem Btl{s:Ab}(h:Cj s):okS s.Name∧okS s.Of∧Ce s.E∧Ce s.F∧(∀y∈s.Args,Ce y)∧Wc s.Dist∧(∀y∈s.Body,Cj y)∧(∀y∈s.Else,Cj y):=by
 cases h with
 |mk a0 a1 a2 a3 a4 a5 a6 a7 a8 a9 h0 h1 h2 h3 h4 h5 h5' h6 h7 h8 h8' h9 h9'=>exact ⟨h1,h2,h3,h4,h5',h6,h8',h9'⟩
def Fu(L:Nat)(l:List Ab):Prop:=maxLen+1048576+Vl l < L∧Ct l≤1048576
theorem Fu.kid{L:Nat}{l:List Ab}(h:Fu (L+1) l){x:Ab}(hx:x∈l):Fu L x.Body∧Fu L x.Else:=by
 obtain ⟨h1,h2⟩:=h
 have:=Azc hx
 have:=Avj hx
 have:=Ar5 x
 exact ⟨⟨by omega,by omega⟩,⟨by omega,by omega⟩⟩
theorem Fu.len{L:Nat}{l:List Ab}(h:Fu (L+1) l):l.length≤maxLen∧l.length < L∧l.length≤1048576:=by
 obtain ⟨h1,h2⟩:=h
 have:=Ak2 l
 have:=Cf
 exact ⟨by omega,by omega,by omega⟩
theorem Fu.one{L:Nat}{l:List Ab}(h:Fu (L+1) l):∃k,L=k+1:=by
 obtain ⟨h1,h2⟩:=h
 have:=Cf
 exact ⟨L - 1,by omega⟩
theorem Fu.pos{L:Nat}{l:List Ab}(h:Fu L l):∃k,L=k+1:=by
 obtain ⟨h1,h2⟩:=h
 exact ⟨L - 1,by omega⟩
theorem Amq(rec:List Ab→Option Int)(L:Nat)(a0:List Ab):∀(k:List Ab) (i:Nat) (v:Nat),v+I3 k≤1048576+1048576→(∀x∈k,rec x.Body=some (I3 x.Body:Int)∧rec x.Else=some (I3 x.Else:Int))→∃j,Ji rec L a0 k i ((v+k.length:Nat):Int)=some (0,(((v+I3 k:Nat):Int),j)):=by
 intro k
 induction k with
 |nil=>intro i v _ _;exact ⟨i,by rw [Ji,I3];rfl⟩
 |cons x k ih=>
  intro i v hb h
  rw [I3,Ak6] at hb
  have hlen:k.length≤I3 k:=by
   clear ih h hb
   induction k with
   |nil=>simp
   |cons y k ih=>rw [I3,Ak6,List.length_cons];omega
  obtain ⟨h1,h2⟩:=h x (by simp)
  obtain ⟨j,hj⟩:=ih (i+1) (v+1+I3 x.Body+I3 x.Else) (by omega) fun y hy=>h y (by simp [hy])
  refine ⟨j,?_⟩
  rw [Ji,h1,Option.bind_some,h2,Option.bind_some,List.length_cons,I3,Ak6]
  rw [Vi (n:=(I3 x.Body:Int)+(I3 x.Else:Int)) (by omega) (by omega),Vi (by omega) (by omega)]
  rw [show ((v+(k.length+1):Nat):Int)+((I3 x.Body:Int)+(I3 x.Else:Int))=((v+1+I3 x.Body+I3 x.Else+k.length:Nat):Int) by omega,hj]
  congr 3
  omega
theorem Aou{l:List Ab}(hl:∀y∈l,Cj y):∀L,Fu L l→Io L l=some (I3 l:Int):=by
 refine W0 (M:=fun l=>∀L,Fu L l→Io L l=some (I3 l:Int)) ?_ hl
 intro l ih L hF
 obtain ⟨L,rfl⟩:=hF.pos
 obtain ⟨n1,n2,n3⟩:=hF.len
 have hc:=Aeg l
 obtain ⟨j,hj⟩:=Amq (Io L) L l l 0 0 (by have:=hF.2;omega) fun x hx=>⟨(ih x hx).2.1 L (hF.kid hx).1,(ih x hx).2.2 L (hF.kid hx).2⟩
 rw [Nat.zero_add,Nat.zero_add] at hj
 simp only [Ux,Ue,Io,Ao,Au,Al,Am,Ar,Ap,Ak,Av,Aw,Aq,Ax,Agv _ L l L n1 n2,hj,Option.bind_some,P9]
theorem Ao2(rec:List Ab→Option Int)(L:Nat)(a0:List Ab):∀(k:List Ab) (i:Nat) (v:Nat),v+I3 k≤1048576+1048576→(∀x∈k,rec x.Body=some (I3 x.Body:Int)∧rec x.Else=some (I3 x.Else:Int))→∃j,Lo rec L a0 k i (v:Int)=some (0,(((v+I3 k:Nat):Int),j)):=by
 intro k
 induction k with
 |nil=>intro i v _ _;exact ⟨i,by rw [Lo,I3];rfl⟩
 |cons x k ih=>
  intro i v hb h
  rw [I3,Ak6] at hb
  obtain ⟨h1,h2⟩:=h x (by simp)
  obtain ⟨j,hj⟩:=ih (i+1) (v+1+I3 x.Body+I3 x.Else) (by omega) fun y hy=>h y (by simp [hy])
  refine ⟨j,?_⟩
  rw [Lo,h1,Option.bind_some,h2,Option.bind_some,I3,Ak6]
  rw [Vi (n:=(v:Int)+1) (by omega) (by omega),Vi (n:=(v:Int)+1+(I3 x.Body:Int)) (by omega) (by omega),Vi (by omega) (by omega)]
  rw [show (v:Int)+1+(I3 x.Body:Int)+(I3 x.Else:Int)=((v+1+I3 x.Body+I3 x.Else:Nat):Int) by omega,hj]
  congr 3
  omega
theorem Afg{l:List Ab}(hl:∀y∈l,Cj y):∀L,Fu L l→Fo L l=some (I3 l:Int):=by
 refine W0 (M:=fun l=>∀L,Fu L l→Fo L l=some (I3 l:Int)) ?_ hl
 intro l ih L hF
 obtain ⟨L,rfl⟩:=hF.pos
 obtain ⟨n1,n2,n3⟩:=hF.len
 have hc:=Aeg l
 obtain ⟨j,hj⟩:=Ao2 (Fo L) L l l 0 0 (by have:=hF.2;omega) fun x hx=>⟨(ih x hx).2.1 L (hF.kid hx).1,(ih x hx).2.2 L (hF.kid hx).2⟩
 rw [Nat.zero_add] at hj
 simp only [Wh,V6,Fo,Ao,Au,Al,Am,Ar,Ap,Ak,Av,Aw,Aq,Ax,Aiz _ L l L n1 n2]
 rw [show (0:Int)=((0:Nat):Int) from rfl,hj]
 simp only [Option.bind_some,P9]
theorem A9s(a b:Nat):(if (1+(a:Int)) > (b:Int) then (1+(a:Int)) else (b:Int))=((max b (a+1):Nat):Int):=by
 split<;>omega
theorem Amr(rec:List Ab→Option Int)(L:Nat)(a0:List Ab):∀(k:List Ab) (i:Nat) (v:Nat),Vl k≤1048576→(∀x∈k,rec x.Body=some (Vl x.Body:Int)∧rec x.Else=some (Vl x.Else:Int))→∃j,Jj rec L a0 k i (v:Int)=some (0,(((max v (Vl k):Nat):Int),j)):=by
 intro k
 induction k with
 |nil=>intro i v _ _;exact ⟨i,by rw [Jj,Vl,Nat.max_zero]⟩
 |cons x k ih=>
  intro i v hb h
  rw [Vl,Avp] at hb
  obtain ⟨h1,h2⟩:=h x (by simp)
  obtain ⟨j,hj⟩:=ih (i+1) (max (max v (Vl x.Body+1)) (Vl x.Else+1)) (by omega) fun y hy=>h y (by simp [hy])
  refine ⟨j,?_⟩
  rw [Jj,h1,Option.bind_some,h2,Option.bind_some,Vl,Avp]
  rw [Vi (n:=1+(Vl x.Body:Int)) (by omega) (by omega),Vi (n:=1+(Vl x.Else:Int)) (by omega) (by omega),A9s,A9s,hj]
  congr 3
  omega
theorem Aov{l:List Ab}(hl:∀y∈l,Cj y):∀L,Fu L l→Ip L l=some (Vl l:Int):=by
 refine W0 (M:=fun l=>∀L,Fu L l→Ip L l=some (Vl l:Int)) ?_ hl
 intro l ih L hF
 obtain ⟨L,rfl⟩:=hF.pos
 obtain ⟨n1,n2,n3⟩:=hF.len
 have hc:=r0 l
 obtain ⟨j,hj⟩:=Amr (Ip L) L l l 0 0 (by have:=hF.2;omega) fun x hx=>⟨(ih x hx).2.1 L (hF.kid hx).1,(ih x hx).2.2 L (hF.kid hx).2⟩
 rw [Nat.zero_max] at hj
 simp only [Uy,Uf,Ip,Ao,Au,Al,Am,Ar,Ap,Ak,Av,Aw,Aq,Ax,Agw _ L l L n1 n2]
 rw [show (0:Int)=((0:Nat):Int) from rfl,hj]
 simp only [Option.bind_some,P9]
theorem Ao3(rec:List Ab→Option Int)(L:Nat)(a0:List Ab):∀(k:List Ab) (i:Nat) (v:Nat),Vl k≤1048576→(∀x∈k,rec x.Body=some (Vl x.Body:Int)∧rec x.Else=some (Vl x.Else:Int))→∃j,Lp rec L a0 k i (v:Int)=some (0,(((max v (Vl k):Nat):Int),j)):=by
 intro k
 induction k with
 |nil=>intro i v _ _;exact ⟨i,by rw [Lp,Vl,Nat.max_zero]⟩
 |cons x k ih=>
  intro i v hb h
  rw [Vl,Avp] at hb
  obtain ⟨h1,h2⟩:=h x (by simp)
  obtain ⟨j,hj⟩:=ih (i+1) (max (max v (Vl x.Body+1)) (Vl x.Else+1)) (by omega) fun y hy=>h y (by simp [hy])
  refine ⟨j,?_⟩
  rw [Lp,h1,Option.bind_some,h2,Option.bind_some,Vl,Avp]
  rw [Vi (n:=1+(Vl x.Body:Int)) (by omega) (by omega),Vi (n:=1+(Vl x.Else:Int)) (by omega) (by omega),A9s,A9s,hj]
  congr 3
  omega
theorem Atk{l:List Ab}(hl:∀y∈l,Cj y):∀L,Fu L l→Kw L l=some (Vl l:Int):=by
 refine W0 (M:=fun l=>∀L,Fu L l→Kw L l=some (Vl l:Int)) ?_ hl
 intro l ih L hF
 obtain ⟨L,rfl⟩:=hF.pos
 obtain ⟨n1,n2,n3⟩:=hF.len
 have hc:=r0 l
 obtain ⟨j,hj⟩:=Ao3 (Kw L) L l l 0 0 (by have:=hF.2;omega) fun x hx=>⟨(ih x hx).2.1 L (hF.kid hx).1,(ih x hx).2.2 L (hF.kid hx).2⟩
 rw [Nat.zero_max] at hj
 simp only [Wi,V7,Kw,Ao,Au,Al,Am,Ar,Ap,Ak,Av,Aw,Aq,Ax,Ai0 _ L l L n1 n2]
 rw [show (0:Int)=((0:Nat):Int) from rfl,hj]
 simp only [Option.bind_some,P9]
end Go.Proofs.YtcbandfdmbkokaaGreat.Ev
