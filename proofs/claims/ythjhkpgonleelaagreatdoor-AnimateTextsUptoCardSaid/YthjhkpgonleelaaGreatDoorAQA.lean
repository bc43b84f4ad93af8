import Derived.Test.YthjhkpgonleelaaGreatDoorAG1
import Derived.Test.YthjhkpgonleelaaGreatDoorAPa
import Derived.Test.YthjhkpgonleelaaGreatDoorAG2
import Derived.Test.YthjhkpgonleelaaGreatDoorAG3
import Derived.Test.YthjhkpgonleelaaGreatDoorAG4
import Derived.Test.YthjhkpgonleelaaGreatDoorAG5
import Derived.Test.YthjhkpgonleelaaGreatDoorAG6
import Derived.Test.YthjhkpgonleelaaGreatDoorAG7
import Derived.Test.YthjhkpgonleelaaGreatDoorAG8
import Derived.Test.YthjhkpgonleelaaGreatDoorAG9
import Derived.Test.YthjhkpgonleelaaGreatDoorAG10
import Derived.Test.YthjhkpgonleelaaGreatDoorAG11
import Derived.Test.YthjhkpgonleelaaGreatDoorAG12
import Derived.Test.YthjhkpgonleelaaGreatDoorAG13
import Derived.Test.YthjhkpgonleelaaGreatDoorAG14
import Derived.Test.YthjhkpgonleelaaGreatDoorAG15
import Derived.Test.YthjhkpgonleelaaGreatDoorAG16
import Derived.Test.YthjhkpgonleelaaGreatDoorAG17
import Derived.Test.YthjhkpgonleelaaGreatDoorAG18
namespace Go.Proofs.YthjhkpgonleelaaGreatDoor.Ev
open Go An
set_option maxRecDepth 100000
set_option maxHeartbeats 4000000
set_option linter.unusedVariables false
set_option linter.unusedSimpArgs false
set_option linter.unnecessarySimpa false
theorem aC:(∀i:Nat,(0≤(i:Int))=True)∧(∀i:Nat,Int.toNat (i:Int)=i)∧(∀ {α :Type} (a b: α),cond true a b=a)∧(∀ {α :Type} (a b: α),cond false a b=b)∧(∀ {α :Type} (a b: α),(if True then a else b)=a)∧(∀h:Decidable True,@decide True h=true)∧(∀x:Ab,Ab.mk x.Op x.Name x.N x.Kids=x)∧(∀x:Ab,Ab.cp x=x)∧(∀x:Af,Af.mk x.Op x.Name x.Of x.E x.F x.Args x.Dist x.Flag x.Body x.Else=x)∧(∀x:Af,Af.cp x=x):=⟨nn,toN,fun _ _=>rfl,fun _ _=>rfl,fun _ _=>if_true ..,decide_true,Ab.eta,Ab.cp_eq,Af.eta,Af.cp_eq⟩
def Dh(L:Nat)(a0:List Int)(a1:List Int):List Int→Nat→Bool→Option (Nat×Bool×Int)
 | [],i,Ao=>(some (1,(Ao,(i:Int))))
 |x::k,i,Ao=>(if ((i:Int) < (a1.length:Int)) then (bif (x != (a1.getD (Int.toNat (i:Int)) default)) then (some (0,(false,(i:Int))))
 else (Dh L a0 a1 k (i+1) Ao)) else none)
theorem Aaq(L:Nat)(a0:List Int)(a1:List Int)(n:Nat)(hl:a0.length≤maxLen)(hn:a0.length < n):∀(Ao:Bool),Dg L a0 a1 n Ao 0=Dh L a0 a1 a0 0 Ao:=lQ (fun k i n=>∀(Ao:Bool),Dg L a0 a1 n Ao (i:Int)=Dh L a0 a1 k i Ao) hl hn (fun n i h Ao=>by simp only [Dg,Gs,Dh,Bf1 h,aN,aB,aC]) (fun n i x k h hx ih Ao=>by simp only [Dg,Gs,Dh,Bf2 h,ltI h,hx,Aj4 h hl,ih,aN,aB,aC])
def Ek(L:Nat)(a0:List Int)(a1:List Int):List Int→Nat→Bool→Option (Nat×Bool×Int)
 | [],i,Ao=>(some (1,(Ao,(i:Int))))
 |x::k,i,Ao=>(if ((i:Int) < (a1.length:Int)) then (bif (x != (a1.getD (Int.toNat (i:Int)) default)) then (some (0,(false,(i:Int))))
 else (Ek L a0 a1 k (i+1) Ao)) else none)
theorem Ahx(L:Nat)(a0:List Int)(a1:List Int)(n:Nat)(hl:a0.length≤maxLen)(hn:a0.length < n):∀(Ao:Bool),Ei L a0 a1 n Ao 0=Ek L a0 a1 a0 0 Ao:=lQ (fun k i n=>∀(Ao:Bool),Ei L a0 a1 n Ao (i:Int)=Ek L a0 a1 k i Ao) hl hn (fun n i h Ao=>by simp only [Ei,Ja,Ek,Bf1 h,aN,aB,aC]) (fun n i x k h hx ih Ao=>by simp only [Ei,Ja,Ek,Bf2 h,ltI h,hx,Aj4 h hl,ih,aN,aB,aC])
def D3(L:Nat)(a1:List Int):List Int→Nat→ByteArray→Option (Nat×ByteArray×Int)
 | [],i,Ar=>(some (0,(Ar,(i:Int))))
 |x::k,i,Ar=>(Option.bind (Lw L x) fun r1=>
 (bif (!decide ((((⟨#[32]⟩:ByteArray).size+r1.size:Nat):Int) > IntKind.i64.max)) then (bif (!decide (((Ar.size+((⟨#[32]⟩:ByteArray)++r1).size:Nat):Int) > IntKind.i64.max)) then (D3 L a1 k (i+1) (Ar++((⟨#[32]⟩:ByteArray)++r1)))
 else none)
 else none))
theorem Ahy(L:Nat)(a1:List Int)(n:Nat)(hl:a1.length≤maxLen)(hn:a1.length < n):∀(Ar:ByteArray),Ej L a1 n Ar 0=D3 L a1 a1 0 Ar:=lQ (fun k i n=>∀(Ar:ByteArray),Ej L a1 n Ar (i:Int)=D3 L a1 k i Ar) hl hn (fun n i h Ar=>by simp only [Ej,Jb,D3,Bf1 h,aN,aB,aC]) (fun n i x k h hx ih Ar=>by simp only [Ej,Jb,D3,Bf2 h,ltI h,hx,Aj4 h hl,ih,aN,aB,aC])
def Gg(L:Nat)(a1:List Int):List Int→Nat→ByteArray→Option (Nat×ByteArray×Int)
 | [],i,Ar=>(some (0,(Ar,(i:Int))))
 |x::k,i,Ar=>(bif (!decide (((Ar.size+(⟨#[32]⟩:ByteArray).size:Nat):Int) > IntKind.i64.max)) then (Option.bind (Dm L x) fun r1=>
 (bif (!decide ((((Ar++(⟨#[32]⟩:ByteArray)).size+r1.size:Nat):Int) > IntKind.i64.max)) then (Gg L a1 k (i+1) ((Ar++(⟨#[32]⟩:ByteArray))++r1))
 else none))
 else none)
theorem Aqs(L:Nat)(a1:List Int)(n:Nat)(hl:a1.length≤maxLen)(hn:a1.length < n):∀(Ar:ByteArray),Hq L a1 n Ar 0=Gg L a1 a1 0 Ar:=lQ (fun k i n=>∀(Ar:ByteArray),Hq L a1 n Ar (i:Int)=Gg L a1 k i Ar) hl hn (fun n i h Ar=>by simp only [Hq,P4,Gg,Bf1 h,aN,aB,aC]) (fun n i x k h hx ih Ar=>by simp only [Hq,P4,Gg,Bf2 h,ltI h,hx,Aj4 h hl,ih,aN,aB,aC])
end Go.Proofs.YthjhkpgonleelaaGreatDoor.Ev
