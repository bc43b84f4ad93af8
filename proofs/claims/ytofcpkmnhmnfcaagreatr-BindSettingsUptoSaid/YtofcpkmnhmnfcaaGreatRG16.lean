import Derived.Test.YtofcpkmnhmnfcaaGreatRG0
namespace Go.Proofs.YtofcpkmnhmnfcaaGreatR.Ev
open Go An
set_option maxRecDepth 100000
set_option maxHeartbeats 4000000
set_option linter.unusedVariables false
set_option linter.unusedSimpArgs false
set_option linter.unnecessarySimpa false
noncomputable section
variable {A:Type} (L n:Nat) (kk:Cz) (K:Ax) (k:Bk)
def c13:=CC Tryz.f13
def O13(L:Nat):Ba:=oL []
def Ckh:(List Ae)→Prop:=fun x=>kk ((fun(x:List Ae)=>lv (.t41 x)) x)
def Br9(a0:Ac)(v:List Ae×Int):St:=⟨[(0,.any),(1,.loc 1 0),(2,.lst true (.t41 [])),(3,.lst true (.t41 v.1)),(4,I v.2)],[(1,(Aq a0))],0⟩
def Ag8 [An A (Nat×List Ae×Int)](L:Nat)(a0:Ac)(rec:List Ae→Int→A)(Aj:List Ae)(Ak:Int):A:=
 (lw Ak a0.Params
 (gi Ak a0.Params
 (gq ((Aj.length+ [(⟨(a0.Params.getD (Int.toNat Ak) default).Name,(a0.Params.getD (Int.toNat Ak) default).N⟩:Ae)].length)*24≤140737488355328)
 (gq (Aj.length+ [(⟨(a0.Params.getD (Int.toNat Ak) default).Name,(a0.Params.getD (Int.toNat Ak) default).N⟩:Ae)].length≤maxLen)
 (rec (Aj++ [(⟨(a0.Params.getD (Int.toNat Ak) default).Name,(a0.Params.getD (Int.toNat Ak) default).N⟩:Ae)]) (B6 (Ak+1))))))
 (lf (0,Aj,Ak)))
def j8(L:Nat)(a0:Ac):Nat→List Ae→Int→Option (Nat×List Ae×Int)
 |0,_,_=>none
 |n+1,Aj,Ak=>Ag8 L a0 (j8 L a0 n) Aj Ak
theorem B57(a0:Ac):LP (EV (O13 L) L 9 c13.w.l.u.l.l) [0,1,2,3,4] [1] (Br9 a0) [.exit 0] (fun n v=>j8 L a0 n v.1 v.2) K:=lE (fun _=>rfl) fun n v ih=>eE (Ag8 L a0 (fun Aj Ak=>re (ih (Aj,Ak))) v.1 v.2)
def m0 [An A (List Ae)](L:Nat)(o1:Nat×List Ae×Int):A:=
 (sl o1.1 [(lf o1.2.1)])
def Bpr:Ax:=(Av 0 (Bb (EV (O13 L) L 9 c13.w.r) (Cm Tryz.prog (RS Tryz.f13) kk)))
theorem Cf8(a0:Ac)(o1:Nat×List Ae×Int):kX [.exit 0] (Br9 a0) (Bpr L kk) o1=ob (m0 L o1) (Ckh kk):=eE (m0 L o1)
def A14 [An A (List Ae)](a0:Ac):A:=(bd (j8 L a0 L [] 0) fun o1=>m0 L o1)
def Amg(a0:Ac):Option (List Ae):=A14 L a0
def X13:Ew:=E1 (fun(x:List Ae)=>lv (.t41 x)) 13 Cq (Amg L) fun a0 r h=>hF Tryz.func13 (C:=O13 L) (oS _) L (fun kk=>eE ((ho (B57 L (Bpr L kk) a0 L ([],0)) fun o1=>Cf8 L kk a0 o1))) h
def c11:=CC Tryz.f11
def O11(L:Nat):Ba:=oL []
def Br7(a0:List Ae)(a1:List Ae)(v:U4):St:=⟨[(0,lv (.t41 a0)),(1,lv (.t41 a1)),(4,B v.1),(5,I v.2)],[],0⟩
def t8 [An A Ln](L:Nat)(a0:List Ae)(a1:List Ae)(rec:Bool→Int→A)(Ak:Bool)(Ai:Int):A:=
 (lw Ai a0
 (gi Ai a1
 (cn (!(((a0.getD (Int.toNat Ai) default).Name == (a1.getD (Int.toNat Ai) default).Name) && (((a0.getD (Int.toNat Ai) default).N == (a1.getD (Int.toNat Ai) default).N) && true)))
 (lf (0,false,Ai))
 (rec Ak (B6 (Ai+1)))))
 (lf (1,Ak,Ai)))
def Ty(L:Nat)(a0:List Ae)(a1:List Ae):Nat→Bool→Int→Option Ln
 |0,_,_=>none
 |n+1,Ak,Ai=>t8 L a0 a1 (Ty L a0 a1 n) Ak Ai
theorem B55(a0:List Ae)(a1:List Ae):LP (EV (O11 L) L 9 c11.w.l.u.l.l) [0,1,4,5] [] (Br7 a0 a1) [.ret,.exit 0] (fun n v=>Ty L a0 a1 n v.1 v.2) K:=lE (fun _=>rfl) fun n v ih=>eE (t8 L a0 a1 (fun Ak Ai=>re (ih (Ak,Ai))) v.1 v.2)
def T0 [An A Bool](L:Nat)(o1:Nat×U4):A:=
 (sl o1.1 [(lf o1.2.1),
 (lf true)])
def Bpp:Ax:=(Av 0 (Bb (EV (O11 L) L 9 c11.w.r) (Cm Tryz.prog (RS Tryz.f11) kk)))
theorem Cf6(a0:List Ae)(a1:List Ae)(o1:Nat×U4):kX [.ret,.exit 0] (Br7 a0 a1) (Bpp L kk) o1=ob (T0 L o1) (kQ B kk):=eE (T0 L o1)
def u4 [An A Bool](L:Nat)(a0:List Ae)(a1:List Ae)(nx1:A):A:=
 (cn ((a0.length:Int) != (a1.length:Int))
 (lf false)
 nx1)
def Art [An A Bool](a0:List Ae)(a1:List Ae):A:=u4 L a0 a1 (bd (Ty L a0 a1 L false 0) fun o1=>T0 L o1)
def Aeg(a0:List Ae)(a1:List Ae):Option Bool:=Art L a0 a1
def X11:Ew:=E2 B 11 Bu0 Bu0 (Aeg L) fun a0 a1 r h=>hF Tryz.func11 (C:=O11 L) (oS _) L (fun kk=>eE (u4 L a0 a1 (ho (B55 L (Bpp L kk) a0 a1 L (false,0)) fun o1=>Cf6 L kk a0 a1 o1))) h
end
end Go.Proofs.YtofcpkmnhmnfcaaGreatR.Ev
