import Derived.Test.YtckmlfboedljeaaDoorG0
namespace Go.Proofs.YtckmlfboedljeaaDoor.Ev
open Go An
set_option maxRecDepth 100000
set_option maxHeartbeats 4000000
set_option linter.unusedVariables false
set_option linter.unusedSimpArgs false
set_option linter.unnecessarySimpa false
noncomputable section
variable {A:Type} (L n:Nat) (kk:R5) (K:Bu) (k:Tv)
def c13:=CC Tryd.f13
def O13(L:Nat):Aq:=oL []
def A1c:((List Ab)×Int)→Prop:=fun x=>kk ((fun(x:(List Ab)×Int)=> .tup [lv (.t39 x.1),I x.2]) x)
def Aqa(a0:Int)(v:Int×List Ab):St:=⟨[(0,.any),(2,.lst true (.t39 [])),(3,I 0),(4,.vw false 13 39 3 (Int.toNat a0)),(15,I ((Int.toNat a0):Int)),(16,I v.1)],[(13,[.arrO (.t39 v.2)])],0⟩
def Ke [An A (Nat×Int×List Ab)](L:Nat)(a0:Int)(rec:Int→List Ab→A)(Ai:Int)(Ar:List Ab):A:=
 (cn (decide (Ai < ((Int.toNat a0):Int)))
 (gq (0≤Ai)
 (gq (Ai < (((Int.toNat a0):Nat):Int))
 (rec (B1 (Ai+1)) (Ar.set (Int.toNat Ai) (⟨Ai,(Ar.getD (Int.toNat Ai) default).Seen,(Ar.getD (Int.toNat Ai) default).Out⟩:Ab)))))
 (lf (0,Ai,Ar)))
def C8(L:Nat)(a0:Int):Nat→Int→List Ab→Option (Nat×Int×List Ab)
 |0,_,_=>none
 |n+1,Ai,Ar=>Ke L a0 (C8 L a0 n) Ai Ar
theorem Avr(a0:Int):LP (EV (O13 L) L 9 c13.w.u.l.u.l.l) [0,2,3,4,15,16] [13] (Aqa a0) [.exit 0] (fun n v=>C8 L a0 n v.1 v.2) K:=lE (fun _=>rfl) fun n v ih=>eE (Ke L a0 (fun Ai Ar=>re (ih (Ai,Ar))) v.1 v.2)
def Hx [An A ((List Ab)×Int)](L:Nat)(o2:Nat×Int×List Ab):A:=
 (sl o2.1 [(lf (o2.2.2,0))])
def An0:Bu:=(Bi 0 (Ek (EV (O13 L) L 9 c13.w.u.r) (Gv Tryd.prog (RS Tryd.f13) kk)))
theorem Ayk(a0:Int)(o2:Nat×Int×List Ab):kX [.exit 0] (Aqa a0) (An0 L kk) o2=ob (Hx L o2) (A1c kk):=eE (Hx L o2)
def Ki [An A ((List Ab)×Int)](L:Nat)(a0:Int)(nx1:A):A:=
 (jp (.cn (decide (a0 < 1))
 (.lf true)
 (.lf (decide (a0 > 200)))) (fun b1=>
 (cn b1
 (lf ([],2))
 (gq (0≤a0)
 (gq (a0*((40:Nat):Int)≤140737488355328)
 (gq (a0≤9223372036854775807)
 nx1))))))
def Vp [An A ((List Ab)×Int)](a0:Int):A:=Ki L a0 (bd (C8 L a0 L 0 (List.replicate (Int.toNat a0) (⟨0,[],0⟩:Ab))) fun o2=>Hx L o2)
def Oa(a0:Int):Option ((List Ab)×Int):=Vp L a0
def X13:Hy:=E1 (fun(x:(List Ab)×Int)=> .tup [lv (.t39 x.1),I x.2]) 13 (cI .i64) (Oa L) fun a0 r h=>hF Tryd.func13 (C:=O13 L) (oS _) L (fun kk=>eE (Ki L a0 (ho (Avr L (An0 L kk) a0 L (0,(List.replicate (Int.toNat a0) (⟨0,[],0⟩:Ab)))) fun o2=>Ayk L kk a0 o2))) h
end
end Go.Proofs.YtckmlfboedljeaaDoor.Ev
