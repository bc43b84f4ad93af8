import Derived.Test.YtofcpkmnhmnfcaaGreatRG0
namespace Go.Proofs.YtofcpkmnhmnfcaaGreatR.Ev
open Go An
set_option maxRecDepth 100000
set_option maxHeartbeats 4000000
set_option linter.unusedVariables false
set_option linter.unusedSimpArgs false
set_option linter.unnecessarySimpa false
noncomputable section
variable {A:Type} (L n:Nat) (kk:Cz) (K:Ba) (k:Bq)
def c13:=CC Tryz.f13
def O13(L:Nat):Bd:=oL []
def Cqk:(List Ae)→Prop:=fun x=>kk ((fun(x:List Ae)=>lv (.t41 x)) x)
def Bye(a0:Ac)(v:List Ae×Int):St:=⟨[(0,.any),(1,.loc 1 0),(2,.lst true (.t41 [])),(3,.lst true (.t41 v.1)),(4,I v.2)],[(1,(Au a0))],0⟩
def Xu [An A (Nat×List Ae×Int)](L:Nat)(a0:Ac)(rec:List Ae→Int→A)(Ai:List Ae)(Ak:Int):A:=
 (lw Ak a0.Params
 (gi Ak a0.Params
 (gq ((Ai.length+ [(⟨(a0.Params.getD (Int.toNat Ak) default).Name,(a0.Params.getD (Int.toNat Ak) default).N⟩:Ae)].length)*24≤140737488355328)
 (gq (Ai.length+ [(⟨(a0.Params.getD (Int.toNat Ak) default).Name,(a0.Params.getD (Int.toNat Ak) default).N⟩:Ae)].length≤maxLen)
 (rec (Ai++ [(⟨(a0.Params.getD (Int.toNat Ak) default).Name,(a0.Params.getD (Int.toNat Ak) default).N⟩:Ae)]) (B7 (Ak+1))))))
 (lf (0,Ai,Ak)))
def J2(L:Nat)(a0:Ac):Nat→List Ae→Int→Option (Nat×List Ae×Int)
 |0,_,_=>none
 |n+1,Ai,Ak=>Xu L a0 (J2 L a0 n) Ai Ak
theorem Ccj(a0:Ac):LP (EV (O13 L) L 9 c13.w.l.u.l.l) [0,1,2,3,4] [1] (Bye a0) [.exit 0] (fun n v=>J2 L a0 n v.1 v.2) K:=lE (fun _=>rfl) fun n v ih=>eE (Xu L a0 (fun Ai Ak=>re (ih (Ai,Ak))) v.1 v.2)
def S3 [An A (List Ae)](L:Nat)(o1:Nat×List Ae×Int):A:=
 (sl o1.1 [(lf o1.2.1)])
def Bv3:Ba:=(Av 0 (Be (EV (O13 L) L 9 c13.w.r) (Cp Tryz.prog (RS Tryz.f13) kk)))
theorem Cmj(a0:Ac)(o1:Nat×List Ae×Int):kX [.exit 0] (Bye a0) (Bv3 L kk) o1=ob (S3 L o1) (Cqk kk):=eE (S3 L o1)
def Atw [An A (List Ae)](a0:Ac):A:=(bd (J2 L a0 L [] 0) fun o1=>S3 L o1)
def Ac7(a0:Ac):Option (List Ae):=Atw L a0
def X13:F7:=E1 (fun(x:List Ae)=>lv (.t41 x)) 13 Cu (Ac7 L) fun a0 r h=>hF Tryz.func13 (C:=O13 L) (oS _) L (fun kk=>eE ((ho (Ccj L (Bv3 L kk) a0 L ([],0)) fun o1=>Cmj L kk a0 o1))) h
def c11:=CC Tryz.f11
def O11(L:Nat):Bd:=oL []
def Byc(a0:List Ae)(a1:List Ae)(v:Yq):St:=⟨[(0,lv (.t41 a0)),(1,lv (.t41 a1)),(4,B v.1),(5,I v.2)],[],0⟩
def Rk [An A M3](L:Nat)(a0:List Ae)(a1:List Ae)(rec:Bool→Int→A)(Ak:Bool)(Aj:Int):A:=
 (lw Aj a0
 (gi Aj a1
 (cn (!(((a0.getD (Int.toNat Aj) default).Name == (a1.getD (Int.toNat Aj) default).Name) && (((a0.getD (Int.toNat Aj) default).N == (a1.getD (Int.toNat Aj) default).N) && true)))
 (lf (0,false,Aj))
 (rec Ak (B7 (Aj+1)))))
 (lf (1,Ak,Aj)))
def Gu(L:Nat)(a0:List Ae)(a1:List Ae):Nat→Bool→Int→Option M3
 |0,_,_=>none
 |n+1,Ak,Aj=>Rk L a0 a1 (Gu L a0 a1 n) Ak Aj
theorem Cch(a0:List Ae)(a1:List Ae):LP (EV (O11 L) L 9 c11.w.l.u.l.l) [0,1,4,5] [] (Byc a0 a1) [.ret,.exit 0] (fun n v=>Gu L a0 a1 n v.1 v.2) K:=lE (fun _=>rfl) fun n v ih=>eE (Rk L a0 a1 (fun Ak Aj=>re (ih (Ak,Aj))) v.1 v.2)
def K4 [An A Bool](L:Nat)(o1:Nat×Yq):A:=
 (sl o1.1 [(lf o1.2.1),
 (lf true)])
def Bv1:Ba:=(Av 0 (Be (EV (O11 L) L 9 c11.w.r) (Cp Tryz.prog (RS Tryz.f11) kk)))
theorem Cmh(a0:List Ae)(a1:List Ae)(o1:Nat×Yq):kX [.ret,.exit 0] (Byc a0 a1) (Bv1 L kk) o1=ob (K4 L o1) (kQ B kk):=eE (K4 L o1)
def Ro [An A Bool](L:Nat)(a0:List Ae)(a1:List Ae)(nx1:A):A:=
 (cn ((a0.length:Int) != (a1.length:Int))
 (lf false)
 nx1)
def Al4 [An A Bool](a0:List Ae)(a1:List Ae):A:=Ro L a0 a1 (bd (Gu L a0 a1 L false 0) fun o1=>K4 L o1)
def Vt(a0:List Ae)(a1:List Ae):Option Bool:=Al4 L a0 a1
def X11:F7:=E2 B 11 B1b B1b (Vt L) fun a0 a1 r h=>hF Tryz.func11 (C:=O11 L) (oS _) L (fun kk=>eE (Ro L a0 a1 (ho (Cch L (Bv1 L kk) a0 a1 L (false,0)) fun o1=>Cmh L kk a0 a1 o1))) h
end
end Go.Proofs.YtofcpkmnhmnfcaaGreatR.Ev
