import Derived.Test.YtofcpkmnhmnfcaaGreatRG0
namespace Go.Proofs.YtofcpkmnhmnfcaaGreatR.Ev
open Go An
set_option maxRecDepth 100000
set_option maxHeartbeats 4000000
set_option linter.unusedVariables false
set_option linter.unusedSimpArgs false
set_option linter.unnecessarySimpa false
noncomputable section
variable {A:Type} (L n:Nat) (kk:Cz) (K:Ax) (k:Bk)
def c12:=CC Tryz.f12
def O12(L:Nat):Ba:=oL []
def Ckg:(List Ae)→Prop:=fun x=>kk ((fun(x:List Ae)=>lv (.t41 x)) x)
def Br8(a0:Ac)(v:List Ae×Int):St:=⟨[(0,.any),(1,.any),(2,.lst true (.t41 [])),(3,.lst true (.t41 v.1)),(7,lv (.t39 a0.Params)),(8,I (a0.Params.length:Int)),(9,I v.2)],[(1,(Aq a0))],0⟩
def So [An A (Nat×List Ae×Int)](L:Nat)(a0:Ac)(rec:List Ae→Int→A)(Aj:List Ae)(Bp:Int):A:=
 (lw Bp a0.Params
 (gq ((Aj.length+ [(⟨(a0.Params.getD (Int.toNat Bp) default).Name,(a0.Params.getD (Int.toNat Bp) default).N⟩:Ae)].length)*24≤140737488355328)
 (gq (Aj.length+ [(⟨(a0.Params.getD (Int.toNat Bp) default).Name,(a0.Params.getD (Int.toNat Bp) default).N⟩:Ae)].length≤maxLen)
 (rec (Aj++ [(⟨(a0.Params.getD (Int.toNat Bp) default).Name,(a0.Params.getD (Int.toNat Bp) default).N⟩:Ae)]) (B6 (Bp+1)))))
 (lf (0,Aj,Bp)))
def Ic(L:Nat)(a0:Ac):Nat→List Ae→Int→Option (Nat×List Ae×Int)
 |0,_,_=>none
 |n+1,Aj,Bp=>So L a0 (Ic L a0 n) Aj Bp
theorem B56(a0:Ac):LP (EV (O12 L) L 9 c12.w.l.u.l.l) [0,1,2,3,7,8,9] [1] (Br8 a0) [.exit 0] (fun n v=>Ic L a0 n v.1 v.2) K:=lE (fun _=>rfl) fun n v ih=>eE (So L a0 (fun Aj Bp=>re (ih (Aj,Bp))) v.1 v.2)
def N7 [An A (List Ae)](L:Nat)(o1:Nat×List Ae×Int):A:=
 (sl o1.1 [(lf o1.2.1)])
def Bpq:Ax:=(Av 0 (Bb (EV (O12 L) L 9 c12.w.r) (Cm Tryz.prog (RS Tryz.f12) kk)))
theorem Cf7(a0:Ac)(o1:Nat×List Ae×Int):kX [.exit 0] (Br8 a0) (Bpq L kk) o1=ob (N7 L o1) (Ckg kk):=eE (N7 L o1)
def Ali [An A (List Ae)](a0:Ac):A:=(bd (Ic L a0 L [] 0) fun o1=>N7 L o1)
def S2(a0:Ac):Option (List Ae):=Ali L a0
def X12:Ew:=E1 (fun(x:List Ae)=>lv (.t41 x)) 12 Cq (S2 L) fun a0 r h=>hF Tryz.func12 (C:=O12 L) (oS _) L (fun kk=>eE ((ho (B56 L (Bpq L kk) a0 L ([],0)) fun o1=>Cf7 L kk a0 o1))) h
end
end Go.Proofs.YtofcpkmnhmnfcaaGreatR.Ev
