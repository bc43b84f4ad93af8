/-  Plain words: for all fuels from one on; loops over lists. -/
import Derived.Test.YthjhkpgonleelaaGreatDoorBFW
namespace Go.Proofs.YthjhkpgonleelaaGreatDoor.Ev
open Go An
set_option linter.unusedVariables false
set_option linter.unusedSimpArgs false
set_option linter.unnecessarySimpa false
theorem aN{R:Type} :(∀ {α :Type} (x:Option α) (f: α→Option R),(bd x f:Option R)=x.bind f)∧((fl:Option R)=none)∧(∀(t:Bool) (a b:Option R),cn t a b=bif t then a else b)
  ∧(∀(p:Prop) [Decidable p] (a:Option R),gq p a=if p then a else none)∧(∀(x:Option Nat) (f:Nat→Option R) (a:Option R),fq x f a=Ry x f a)
  ∧(∀(n:Nat) (l:List (Option R)),sl n l=Ahw n l)∧(∀x:R,(lf x:Option R)=some x)∧(∀(x:JT) (J:Bool→Option R),jb x J=x.o.bind J)
  ∧(∀(x:BT) (J:Bool→Option R),jp x J=J x.v)∧(∀a:Option R,nq a=a)
  ∧(∀ {α :Type} (v:Int) (l:List α) (a:Option R),gi v l a=if (0:Int)≤v then (if v < ((l.length:Nat):Int) then a else none) else none)
  ∧(∀ {α :Type} (v:Int) (l:List α) (a b:Option R),lw v l a b=bif decide (v < (l.length:Int)) then (if (0:Int)≤v then (if v < ((l.length:Nat):Int) then a else none) else none) else b):=⟨fun _ _=>rfl,rfl,fun _ _ _=>rfl,fun _ _ _=>rfl,fun _ _ _=>rfl,fun _ _=>rfl,fun _=>rfl,fun _ _=>rfl,fun _ _=>rfl,fun _=>rfl,fun _ _ _=>rfl,fun _ _ _ _=>rfl⟩
theorem aB:(∀b,(BT.lf b).v=b)∧(∀t x y,(BT.cn t x y).v=bif t then x.v else y.v)∧(∀b,(JT.lf b).o=some b)∧(JT.fl.o=none)∧(∀t x y,(JT.cn t x y).o=bif t then x.o else y.o)
  ∧(∀p [Decidable p] x,(JT.gq p x).o=if p then x.o else none)∧(∀ {α :Type} (x:Option α) f,(JT.bd x f).o=x.bind fun a=>(f a).o)∧(∀x f,(JT.jp x f).o=(f x.v).o)∧(∀x f,(JT.jb x f).o=x.o.bind fun a=>(f a).o)∧(∀x,(JT.nq x).o=x.o):=
 ⟨fun _=>rfl,fun _ _ _=>rfl,fun _=>rfl,rfl,fun _ _ _=>rfl,fun _ _ _=>rfl,fun _ _=>rfl,fun _ _=>rfl,fun _ _=>rfl,fun _=>rfl⟩
def Evt(P:Nat→Prop):Prop:=∃L0,∀L,L0≤L→P L
theorem Evt.all{P:Nat→Prop}(h:∀L,P L):Evt P:=⟨0,fun L _=>h L⟩
theorem Evt.mono{P Q:Nat→Prop}(hp:Evt P)(h:∀L,P L→Q L):Evt Q:=by
 obtain ⟨a,ha⟩:=hp
 exact ⟨a,fun L hL=>h L (ha L hL)⟩
theorem Evt.succ{P:Nat→Prop}(h:Evt fun L=>P (L+1)):Evt P:=by
 obtain ⟨a,ha⟩:=h
 refine ⟨a+1,fun L hL=> ?_⟩
 obtain ⟨k,rfl⟩:∃k,L=k+1:=⟨L - 1,by omega⟩
 exact ha k (by omega)
theorem Evt.get{P:Nat→Prop}(h:Evt P):∃L,P L:=let ⟨a,ha⟩:=h;⟨a,ha a (Nat.le_refl _)⟩
theorem Zh{α :Type} [Inhabited α]{l:List α}{i:Nat}{x: α}{k:List α}(h:l.drop i=x::k):i < l.length∧l.getD i default=x∧l.drop (i+1)=k:=by
 have hi:i < l.length:=by
  have:=congrArg List.length h
  simp at this;omega
 refine ⟨hi,?_,?_⟩
 ·rw [List.drop_eq_getElem_cons hi] at h
  injection h with h1 h2
  rw [Za l i hi,h1]
 ·rw [←List.drop_drop,h];rfl
theorem A5g{α :Type}{l:List α}{i:Nat}(h:l.drop i= []):l.length≤i:=List.drop_eq_nil_iff.1 h
theorem J3{i n:Nat}(h:i < n):decide ((i:Int) < (n:Int))=true:=decide_eq_true (by omega)
theorem Kh{i n:Nat}(h:n≤i):decide ((i:Int) < (n:Int))=false:=decide_eq_false (by omega)
theorem B6{i n:Nat}(h:i < n)(hn:n≤maxLen):Bi ((i:Int)+1)=((i+1:Nat):Int):=by
 unfold maxLen at hn
 rw [Nv (by omega) (by omega)];omega
theorem A8s{i:Nat}(hn:i≤maxLen):Bi ((i:Int) - 1)=(i:Int) - 1:=by
 unfold maxLen at hn
 exact Nv (by omega) (by omega)
theorem nn(i:Nat):((0:Int)≤(i:Int))=True:=eq_true (by omega)
theorem m8{i n:Nat}(h:i < n):((i:Int) < ((n:Nat):Int))=True:=eq_true (by omega)
theorem toN(i:Nat):Int.toNat (i:Int)=i:=Int.toNat_natCast i
theorem lQ{α :Type} [Inhabited α]{l:List α}{n:Nat}(P:List α→Nat→Nat→Prop)(hl:l.length≤maxLen)(hn:l.length < n)(h0:∀n i,l.length≤i→P [] i (n+1))(h1:∀n i x k,i < l.length→l.getD i default=x→P k (i+1) n→P (x::k) i (n+1)):P l 0 n:=by
 have h:∀(k:List α) (i n:Nat),l.drop i=k→k.length < n→P k i n:=by
  intro k
  induction k with
  |nil=>
   intro i n hk hn
   obtain ⟨n,rfl⟩:∃m,n=m+1:=⟨n - 1,by simp at hn;omega⟩
   exact h0 n i (A5g hk)
  |cons x k ih=>
   intro i n hk hn
   obtain ⟨n,rfl⟩:∃m,n=m+1:=⟨n - 1,by simp at hn;omega⟩
   obtain ⟨hlt,hx,hk'⟩:=Zh hk
   exact h1 n i x k hlt hx (ih (i+1) n hk' (by simpa using hn))
 exact h l 0 n rfl hn
theorem R4{α :Type}(a:Option α)(r:List (Option α)):Ahw 0 (a::r)=a:=by cases r<;>rfl
theorem x0{α :Type}(a b:Option α)(r:List (Option α)):Ahw 1 (a::b::r)=b:=by cases r<;>rfl
theorem Bbu(bs:ByteArray):∀(m i:Nat) (r:List UInt8),i+m=bs.size→ByteArray.toList.loop bs i r=r.reverse++bs.data.toList.drop i:=by
 intro m
 induction m with
 |zero=>
  intro i r h
  have h2:bs.data.toList.length≤i:=by
   have:bs.data.toList.length=bs.size:=rfl
   omega
  rw [ByteArray.toList.loop,if_neg (by omega),List.drop_eq_nil_of_le h2,List.append_nil]
 |succ m ih=>
  intro i r h
  have hlt:i < bs.size:=by omega
  have h2:i < bs.data.toList.length:=hlt
  rw [ByteArray.toList.loop,if_pos hlt,ih (i+1) _ (by omega),List.drop_eq_getElem_cons h2,List.reverse_cons,List.append_assoc]
  have h3:bs.get! i=bs.data.toList[i]:=by
   show bs.data[i]! =_
   rw [getElem!_pos bs.data i hlt,Array.getElem_toList]
  rw [h3];rfl
theorem Akl(s:ByteArray):s.toList=s.data.toList:=by
 rw [ByteArray.toList,Bbu s s.size 0 [] (by omega)];rfl
theorem Wv(a b:ByteArray):(a.toList == b.toList)=decide (a=b):=by
 rw [Akl,Akl]
 cases h2:(a.data.toList == b.data.toList) with
 |true=>
  have h3:=Array.toList_inj.1 (eq_of_beq h2)
  have:a=b:=by cases a;cases b;cases h3;rfl
  exact (decide_eq_true this).symm
 |false=>
  symm;apply decide_eq_false
  rintro rfl
  rw [beq_self_eq_true] at h2;cases h2
theorem A2c(s:ByteArray):decide (s=(⟨#[]⟩:ByteArray))=decide (s.size=0):=by
 apply decide_eq_decide.2
 constructor
 ·rintro rfl;rfl
 ·intro h
  rcases s with ⟨⟨l⟩⟩
  have h3:l.length=0:=h
  rw [List.length_eq_zero_iff.1 h3]
theorem Qs{α :Type}(c:Bool)(a b: α):(bif c then some a else some b)=some (bif c then a else b):=by cases c<;>rfl
theorem Kz(a b:Bool):(bif a then b else false)=(a && b):=by cases a<;>rfl
theorem Rx(a b:Bool):(bif a then true else b)=(a || b):=by cases a<;>rfl
theorem Bks{a:ByteArray}{i:Nat}(h:i < a.size):a[i]?.isSome=true:=by
 rw [getElem?_pos a i h];rfl
theorem ifp{α :Type}{c:Prop}{d:Decidable c}{a b: α}(h:c): @ite α c d a b=a:=if_pos h
theorem Gw:maxLen=9223372036854775807:=rfl
theorem g6{x:Int}(h:¬x=0):(x != 0)=true:=bne_iff_ne.2 h
def Adm:Option Nat→Int
 |some i=>(i:Int)
 |none=> -1
end Go.Proofs.YthjhkpgonleelaaGreatDoor.Ev
