import Derived.Test.YtfencmicmnhglaaGreatG0
namespace Go.Proofs.YtfencmicmnhglaaGreat.Ev
open Go An
set_option maxRecDepth 100000
set_option maxHeartbeats 4000000
set_option linter.unusedVariables false
set_option linter.unusedSimpArgs false
set_option linter.unnecessarySimpa false
noncomputable section
variable {A:Type} (L n:Nat) (kk:Il) (K:Br) (k:Bn)
def c5:=CC Tryz.f5
def O5(L:Nat):Bq:=oL []
def Bpg(a0:List Af)(v:Bool×Int):St:=⟨[(0,lv (.t46 a0)),(2,B v.1),(3,I v.2)],[],0⟩
def Yv [An A (Nat×Bool×Int)](L:Nat)(a0:List Af)(rec:Bool→Int→A)(Ao:Bool)(Bc:Int):A:=
 (lw Bc a0
 (cn (decide ((((a0.getD (Int.toNat Bc) default).Levels).length:Int) > 300))
 (lf (0,false,Bc))
 (rec Ao (Dp (Bc+1))))
 (lf (1,Ao,Bc)))
def Na(L:Nat)(a0:List Af):Nat→Bool→Int→Option (Nat×Bool×Int)
 |0,_,_=>none
 |n+1,Ao,Bc=>Yv L a0 (Na L a0 n) Ao Bc
theorem Bzm(a0:List Af):LP (EV (O5 L) L 9 c5.w.l.u.l.l) [0,2,3] [] (Bpg a0) [.ret,.exit 0] (fun n v=>Na L a0 n v.1 v.2) K:=lE (fun _=>rfl) fun n v ih=>eE (Yv L a0 (fun Ao Bc=>re (ih (Ao,Bc))) v.1 v.2)
def T6 [An A Bool](L:Nat)(o1:Nat×Bool×Int):A:=
 (sl o1.1 [(lf o1.2.1),
 (lf true)])
def Bol:Br:=(Ba 0 (Bg (EV (O5 L) L 9 c5.w.r) (Gu Tryz.prog (RS Tryz.f5) kk)))
theorem B4e(a0:List Af)(o1:Nat×Bool×Int):kX [.ret,.exit 0] (Bpg a0) (Bol L kk) o1=ob (T6 L o1) (kQ B kk):=eE (T6 L o1)
def Zg [An A Bool](L:Nat)(a0:List Af)(nx1:A):A:=
 (cn (decide ((a0.length:Int) > 100))
 (lf false)
 nx1)
def Aqg [An A Bool](a0:List Af):A:=Zg L a0 (bd (Na L a0 L false 0) fun o1=>T6 L o1)
def Acy(a0:List Af):Option Bool:=Aqg L a0
def X5:N2:=E1 B 5 A4g (Acy L) fun a0 r h=>hF Tryz.func5 (C:=O5 L) (oS _) L (fun kk=>eE (Zg L a0 (ho (Bzm L (Bol L kk) a0 L (false,0)) fun o1=>B4e L kk a0 o1))) h
end
end Go.Proofs.YtfencmicmnhglaaGreat.Ev
