import Derived.Test.YtfencmicmnhglaaGreatG0
namespace Go.Proofs.YtfencmicmnhglaaGreat.Ev
open Go An
set_option maxRecDepth 100000
set_option maxHeartbeats 4000000
set_option linter.unusedVariables false
set_option linter.unusedSimpArgs false
set_option linter.unnecessarySimpa false
noncomputable section
variable {A:Type} (L n:Nat) (kk:Dm) (K:Be) (k:Bx)
def c5:=CC Tryz.f5
def O5(L:Nat):Bi:=oL []
def B77(a0:List Ah)(v:Bool×Int):St:=⟨[(0,lv (.t46 a0)),(2,B v.1),(3,I v.2)],[],0⟩
def Abt [An A (Nat×Bool×Int)](L:Nat)(a0:List Ah)(rec:Bool→Int→A)(Ag:Bool)(Aj:Int):A:=
 (lw Aj a0
 (cn (decide ((((a0.getD (Int.toNat Aj) default).Levels).length:Int) > 300))
 (lf (0,false,Aj))
 (rec Ag (Cq (Aj+1))))
 (lf (1,Ag,Aj)))
def Ox(L:Nat)(a0:List Ah):Nat→Bool→Int→Option (Nat×Bool×Int)
 |0,_,_=>none
 |n+1,Ag,Aj=>Abt L a0 (Ox L a0 n) Ag Aj
theorem Cl3(a0:List Ah):LP (EV (O5 L) L 9 c5.w.l.u.l.l) [0,2,3] [] (B77 a0) [.ret,.exit 0] (fun n v=>Ox L a0 n v.1 v.2) K:=lE (fun _=>rfl) fun n v ih=>eE (Abt L a0 (fun Ag Aj=>re (ih (Ag,Aj))) v.1 v.2)
def Xe [An A Bool](L:Nat)(o1:Nat×Bool×Int):A:=
 (sl o1.1 [(lf o1.2.1),
 (lf true)])
def B7j:Be:=(Ax 0 (Bk (EV (O5 L) L 9 c5.w.r) (C0 Tryz.prog (RS Tryz.f5) kk)))
theorem Cqr(a0:List Ah)(o1:Nat×Bool×Int):kX [.ret,.exit 0] (B77 a0) (B7j L kk) o1=ob (Xe L o1) (kQ B kk):=eE (Xe L o1)
def Ac9 [An A Bool](L:Nat)(a0:List Ah)(nx1:A):A:=
 (cn (decide ((a0.length:Int) > 100))
 (lf false)
 nx1)
def A0x [An A Bool](a0:List Ah):A:=Ac9 L a0 (bd (Ox L a0 L false 0) fun o1=>Xe L o1)
def Aku(a0:List Ah):Option Bool:=A0x L a0
def X5:Gh:=E1 B 5 Bs6 (Aku L) fun a0 r h=>hF Tryz.func5 (C:=O5 L) (oS _) L (fun kk=>eE (Ac9 L a0 (ho (Cl3 L (B7j L kk) a0 L (false,0)) fun o1=>Cqr L kk a0 o1))) h
end
end Go.Proofs.YtfencmicmnhglaaGreat.Ev
