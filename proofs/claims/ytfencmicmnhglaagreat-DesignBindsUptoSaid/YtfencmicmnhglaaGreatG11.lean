import Derived.Test.YtfencmicmnhglaaGreatG0
namespace Go.Proofs.YtfencmicmnhglaaGreat.Ev
open Go An
set_option maxRecDepth 100000
set_option maxHeartbeats 4000000
set_option linter.unusedVariables false
set_option linter.unusedSimpArgs false
set_option linter.unnecessarySimpa false
noncomputable section
variable {A:Type} (L n:Nat) (kk:Il) (K:Br) (k:Bn)
def c15:=CC Tryz.f15
def O15(L:Nat):Bq:=oL []
def Bhh(a0:List Ag)(a1:List Ag)(v:Bool×Int):St:=⟨[(0,lv (.t70 a0)),(1,lv (.t70 a1)),(4,B v.1),(5,I v.2)],[],0⟩
def No [An A (Nat×Bool×Int)](L:Nat)(a0:List Ag)(a1:List Ag)(rec:Bool→Int→A)(Bc:Bool)(Al:Int):A:=
 (lw Al a0
 (gi Al a1
 (cn (!(((a0.getD (Int.toNat Al) default).Name == (a1.getD (Int.toNat Al) default).Name) && (((a0.getD (Int.toNat Al) default).N == (a1.getD (Int.toNat Al) default).N) && true)))
 (lf (0,false,Al))
 (rec Bc (Dp (Al+1)))))
 (lf (1,Bc,Al)))
def F4(L:Nat)(a0:List Ag)(a1:List Ag):Nat→Bool→Int→Option (Nat×Bool×Int)
 |0,_,_=>none
 |n+1,Bc,Al=>No L a0 a1 (F4 L a0 a1 n) Bc Al
theorem Bsd(a0:List Ag)(a1:List Ag):LP (EV (O15 L) L 9 c15.w.l.u.l.l) [0,1,4,5] [] (Bhh a0 a1) [.ret,.exit 0] (fun n v=>F4 L a0 a1 n v.1 v.2) K:=lE (fun _=>rfl) fun n v ih=>eE (No L a0 a1 (fun Bc Al=>re (ih (Bc,Al))) v.1 v.2)
def Jr [An A Bool](L:Nat)(o1:Nat×Bool×Int):A:=
 (sl o1.1 [(lf o1.2.1),
 (lf true)])
def Bfr:Br:=(Ba 0 (Bg (EV (O15 L) L 9 c15.w.r) (Gu Tryz.prog (RS Tryz.f15) kk)))
theorem B1h(a0:List Ag)(a1:List Ag)(o1:Nat×Bool×Int):kX [.ret,.exit 0] (Bhh a0 a1) (Bfr L kk) o1=ob (Jr L o1) (kQ B kk):=eE (Jr L o1)
def Nr [An A Bool](L:Nat)(a0:List Ag)(a1:List Ag)(nx1:A):A:=
 (cn ((a0.length:Int) != (a1.length:Int))
 (lf false)
 nx1)
def Ab1 [An A Bool](a0:List Ag)(a1:List Ag):A:=Nr L a0 a1 (bd (F4 L a0 a1 L false 0) fun o1=>Jr L o1)
def Rl(a0:List Ag)(a1:List Ag):Option Bool:=Ab1 L a0 a1
def X15:N2:=E2 B 15 Bq4 Bq4 (Rl L) fun a0 a1 r h=>hF Tryz.func15 (C:=O15 L) (oS _) L (fun kk=>eE (Nr L a0 a1 (ho (Bsd L (Bfr L kk) a0 a1 L (false,0)) fun o1=>B1h L kk a0 a1 o1))) h
end
end Go.Proofs.YtfencmicmnhglaaGreat.Ev
