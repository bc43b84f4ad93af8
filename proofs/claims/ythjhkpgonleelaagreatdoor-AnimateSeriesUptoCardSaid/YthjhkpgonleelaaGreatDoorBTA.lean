/-  Numerals: the program's and the document's. -/
import Derived.Test.YthjhkpgonleelaaGreatDoorBQA
import Derived.Test.YthjhkpgonleelaaGreatDoorBR0
namespace Go.Proofs.YthjhkpgonleelaaGreatDoor.Ev
open Go An
set_option maxRecDepth 100000
set_option linter.unusedVariables false
set_option linter.unusedSimpArgs false
set_option linter.unnecessarySimpa false
def bs(l:List UInt8):ByteArray:=⟨l.toArray⟩
end Go.Proofs.YthjhkpgonleelaaGreatDoor.Ev
namespace Go.Proofs.YthjhkpgonleelaaGreatDoor.Ev
open Go An
set_option maxRecDepth 100000
set_option linter.unusedVariables false
set_option linter.unusedSimpArgs false
set_option linter.unnecessarySimpa false
end Go.Proofs.YthjhkpgonleelaaGreatDoor.Ev
namespace Go.Proofs.YthjhkpgonleelaaGreatDoor.Ev
open Go An
set_option maxRecDepth 100000
set_option linter.unusedVariables false
set_option linter.unusedSimpArgs false
set_option linter.unnecessarySimpa false
theorem A5f{α :Type} [Inhabited α](l:List α)(i:Nat)(h:i < l.length):l.drop i=l.getD i default::l.drop (i+1):=by
 rw [List.drop_eq_getElem_cons h,Za l i h]
theorem neI{a b:Int}(h:¬a=b):(a != b)=true:=bne_iff_ne.2 h
theorem Ajm(L:Nat)(a0 a1:List Int):∀(k:List Int) (i:Nat) (v:Bool),i+k.length=a1.length→∃j,Gt L a0 a1 k i v=some (bif decide (k=a1.drop i) then (1,(v,j)) else (0,(false,j))):=by
 intro k
 induction k with
 |nil=>
  intro i v h
  refine ⟨i,?_⟩
  have:a1.drop i= []:=List.drop_eq_nil_of_le (by simp at h;omega)
  rw [this];rfl
 |cons x k ih=>
  intro i v h
  rw [List.length_cons] at h
  obtain ⟨j,hj⟩:=ih (i+1) v (by omega)
  have hi:i < a1.length:=by omega
  rw [Gt,A5f a1 i hi,ifp (show (i:Int) < (a1.length:Int) by omega),hj,toN]
  generalize a1.getD i default=y
  by_cases hx:x=y
  ·refine ⟨j,?_⟩
   subst hx
   simp
  ·exact ⟨i,by simp [hx,neI hx]⟩
theorem Sy(L:Nat)(a b:List Int)(ha:a.length≤maxLen)(hL:a.length < L):Ke L a b=some (decide (a=b)):=by
 simp only [Ac2,Po,Lp,Ke,Po,Lp,aN,aB,Afo L a b L ha (by omega)]
 by_cases h:(a.length:Int)=(b.length:Int)
 ·obtain ⟨j,hj⟩:=Ajm L a b a 0 false (by omega)
  rw [hj,List.drop_zero]
  by_cases hab:a=b
  ·simp [hab,x0]
  ·simp [hab,h,R4]
 ·have:a≠b:=by rintro rfl;exact h rfl
  simp [this,neI h]
def A1l(a b:Bc):Bool:=a.Time == b.Time && a.Site == b.Site && decide (a.Procs=b.Procs) && decide (a.Held=b.Held) && decide (a.Waiting=b.Waiting) && decide (a.Items=b.Items)
theorem A3x(a b:Bc):A1l a b=true↔a=b:=by
 cases a;cases b
 simp only [A1l,Bc.mk.injEq,Bool.and_eq_true,beq_iff_eq,decide_eq_true_eq,and_assoc]
def Axe(f:Bc)(n:Nat):Prop:=f.Procs.length≤n∧f.Held.length≤n∧f.Waiting.length≤n∧f.Items.length≤n
theorem A9b(a b:Bool):(bif a then b else false)=(a && b):=by cases a<;>rfl
theorem Aun(L:Nat)(a b:Bc)(h:Axe a maxLen)(hL:Axe a (L - 1))(h0:0 < L):Vg L a b=some (A1l a b):=by
 obtain ⟨h1,h2,h3,h4⟩:=h
 obtain ⟨l1,l2,l3,l4⟩:=hL
 simp only [Ae8,Vg,aN,aB,Sy L a.Procs b.Procs h1 (by omega),Sy L a.Held b.Held h2 (by omega),Sy L a.Waiting b.Waiting h3 (by omega),Sy L a.Items b.Items h4 (by omega),Option.bind_some,A1l,A9b]
 generalize (a.Time == b.Time && a.Site == b.Site)=c0
 generalize decide (a.Procs=b.Procs)=c1
 generalize decide (a.Held=b.Held)=c2
 generalize decide (a.Waiting=b.Waiting)=c3
 generalize decide (a.Items=b.Items)=c4
 cases c0<;>cases c1<;>cases c2<;>cases c3<;>cases c4<;>rfl
end Go.Proofs.YthjhkpgonleelaaGreatDoor.Ev
