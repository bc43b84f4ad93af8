import Derived.Test.YtofcpkmnhmnfcaaGreatRG0
namespace Go.Proofs.YtofcpkmnhmnfcaaGreatR.Ev
open Go An
set_option maxRecDepth 100000
set_option maxHeartbeats 4000000
set_option linter.unusedVariables false
set_option linter.unusedSimpArgs false
set_option linter.unnecessarySimpa false
noncomputable section
variable {A:Type} (L n:Nat) (kk:Cz) (K:Ba) (k:Bq)
def c12:=CC Tryz.f12
def O12(L:Nat):Bd:=oL []
def Cqj:(List Ae)→Prop:=fun x=>kk ((fun(x:List Ae)=>lv (.t41 x)) x)
def Byd(a0:Ac)(v:List Ae×Int):St:=⟨[(0,.any),(1,.any),(2,.lst true (.t41 [])),(3,.lst true (.t41 v.1)),(7,lv (.t39 a0.Params)),(8,I (a0.Params.length:Int)),(9,I v.2)],[(1,(Au a0))],0⟩
def V1 [An A (Nat×List Ae×Int)](L:Nat)(a0:Ac)(rec:List Ae→Int→A)(Ai:List Ae)(Bu:Int):A:=
 (lw Bu a0.Params
 (gq ((Ai.length+ [(⟨(a0.Params.getD (Int.toNat Bu) default).Name,(a0.Params.getD (Int.toNat Bu) default).N⟩:Ae)].length)*24≤140737488355328)
 (gq (Ai.length+ [(⟨(a0.Params.getD (Int.toNat Bu) default).Name,(a0.Params.getD (Int.toNat Bu) default).N⟩:Ae)].length≤maxLen)
 (rec (Ai++ [(⟨(a0.Params.getD (Int.toNat Bu) default).Name,(a0.Params.getD (Int.toNat Bu) default).N⟩:Ae)]) (B7 (Bu+1)))))
 (lf (0,Ai,Bu)))
def I3(L:Nat)(a0:Ac):Nat→List Ae→Int→Option (Nat×List Ae×Int)
 |0,_,_=>none
 |n+1,Ai,Bu=>V1 L a0 (I3 L a0 n) Ai Bu
theorem Cci(a0:Ac):LP (EV (O12 L) L 9 c12.w.l.u.l.l) [0,1,2,3,7,8,9] [1] (Byd a0) [.exit 0] (fun n v=>I3 L a0 n v.1 v.2) K:=lE (fun _=>rfl) fun n v ih=>eE (V1 L a0 (fun Ai Bu=>re (ih (Ai,Bu))) v.1 v.2)
def Ra [An A (List Ae)](L:Nat)(o1:Nat×List Ae×Int):A:=
 (sl o1.1 [(lf o1.2.1)])
def Bv2:Ba:=(Av 0 (Be (EV (O12 L) L 9 c12.w.r) (Cp Tryz.prog (RS Tryz.f12) kk)))
theorem Cmi(a0:Ac)(o1:Nat×List Ae×Int):kX [.exit 0] (Byd a0) (Bv2 L kk) o1=ob (Ra L o1) (Cqj kk):=eE (Ra L o1)
def Asa [An A (List Ae)](a0:Ac):A:=(bd (I3 L a0 L [] 0) fun o1=>Ra L o1)
def Wf(a0:Ac):Option (List Ae):=Asa L a0
def X12:F7:=E1 (fun(x:List Ae)=>lv (.t41 x)) 12 Cu (Wf L) fun a0 r h=>hF Tryz.func12 (C:=O12 L) (oS _) L (fun kk=>eE ((ho (Cci L (Bv2 L kk) a0 L ([],0)) fun o1=>Cmi L kk a0 o1))) h
end
end Go.Proofs.YtofcpkmnhmnfcaaGreatR.Ev
