import Derived.Test.YthjhkpgonleelaaGreatDoorBG6
import Derived.Test.YthjhkpgonleelaaGreatDoorBG7
namespace Go.Proofs.YthjhkpgonleelaaGreatDoor.Ev
open Go An
set_option maxRecDepth 100000
set_option maxHeartbeats 4000000
set_option linter.unusedVariables false
set_option linter.unusedSimpArgs false
set_option linter.unnecessarySimpa false
noncomputable section
variable {A:Type} (L n:Nat) (kk:Ep) (K:Ci) (k:Bn)
def c10:=CC Tryz.f10
def O10:Bt:=oL [X20 L,X21 L,X22 L]
def Boe:((List Bc)×Int)→Prop:=fun x=>kk ((fun(x:(List Bc)×Int)=> .tup [lv (.t32 x.1),I x.2]) x)
def A7r(a1:List Bo)(a2:Int)(a3:Int)(a4:Int)(a5:Int)(a0:Ad)(v:List Bc×Int):St:=⟨[(0,.any),(1,lv (.t46 a1)),(2,I a2),(3,I a3),(4,I a4),(5,.any),(6,.loc 6 0),(12,.lst true (.t32 [])),(13,I 0),(14,.any),(15,.lst true (.t32 v.1)),(51,I a5),(52,I v.2)],[(6,(B4 a0))],0⟩
def Mc [An A (Nat×List Bc×Int)](a1:List Bo)(a2:Int)(a3:Int)(a4:Int)(a5:Int)(a0:Ad)(rec:List Bc→Int→A)(Avg:List Bc)(Bl:Int):A:=
 (cn (decide (Bl < a5))
 (bd (Gp L (⟨a0.Name,a0.Sites,a0.Links⟩:Ad) a1 a2 (Bi (a3+(Bi (Bl*a4))))) fun r8=>
 (gq ((Avg.length+ [r8].length)*112≤140737488355328)
 (gq (Avg.length+ [r8].length≤maxLen)
 (rec (Avg++ [r8]) (Bi (Bl+1))))))
 (lf (0,Avg,Bl)))
def F0(L:Nat)(a1:List Bo)(a2:Int)(a3:Int)(a4:Int)(a5:Int)(a0:Ad):Nat→List Bc→Int→Option (Nat×List Bc×Int)
 |0,_,_=>none
 |n+1,Avg,Bl=>Mc L a1 a2 a3 a4 a5 a0 (F0 L a1 a2 a3 a4 a5 a0 n) Avg Bl
theorem Bfz(a1:List Bo)(a2:Int)(a3:Int)(a4:Int)(a5:Int)(a0:Ad):LP (EV (O10 L) L 9 c10.x.l.u.l.l) [0,1,2,3,4,5,6,12,13,14,15,51,52] [6] (A7r a1 a2 a3 a4 a5 a0) [.exit 0] (fun n v=>F0 L a1 a2 a3 a4 a5 a0 n v.1 v.2) K:=lE (fun _=>rfl) fun n v ih=>eE (Mc L a1 a2 a3 a4 a5 a0 (fun Avg Bl=>re (ih (Avg,Bl))) v.1 v.2)
def Je [An A ((List Bc)×Int)](L:Nat)(o9:Nat×List Bc×Int):A:=
 (sl o9.1 [(lf (o9.2.1,0))])
def A58:Ci:=(Bs 0 (Bz (EV (O10 L) L 9 c10.x.r) (Kb Tryz.prog (RS Tryz.f10) kk)))
theorem Bk6(a1:List Bo)(a2:Int)(a3:Int)(a4:Int)(a5:Int)(a0:Ad)(o9:Nat×List Bc×Int):kX [.exit 0] (A7r a1 a2 a3 a4 a5 a0) (A58 L kk) o9=ob (Je L o9) (Boe kk):=eE (Je L o9)
def Me [An A ((List Bc)×Int)](a0:Ad)(a1:List Bo)(a2:Int)(a3:Int)(a4:Int)(a5:Int)(nx1:A):A:=
 (bd (Nk L (⟨a0.Name,a0.Sites,a0.Links⟩:Ad)) fun r1=>
 (cn (r1 != 0)
 (lf ([],r1))
 (bd (L2 L (⟨a0.Name,a0.Sites,a0.Links⟩:Ad) a2 a3) fun r2=>
 (jp (.cn r2
 (.lf true)
 (.lf (decide (a4 < 1)))) (fun b3=>
 (jp (.cn b3
 (.lf true)
 (.lf (decide (a4 > 1000000000)))) (fun b4=>
 (jp (.cn b4
 (.lf true)
 (.lf (decide (a5 < 0)))) (fun b5=>
 (jp (.cn b5
 (.lf true)
 (.lf (decide (a5 > 1000)))) (fun b6=>
 (jp (.cn b6
 (.lf true)
 (.lf (decide ((Bi (a3+(Bi ((Bi (a5 - 1))*a4)))) > 1000000000)))) (fun b7=>
 (cn b7
 (lf ([],2))
 nx1))))))))))))))
def z6 [An A ((List Bc)×Int)](a0:Ad)(a1:List Bo)(a2:Int)(a3:Int)(a4:Int)(a5:Int):A:=Me L a0 a1 a2 a3 a4 a5 (bd (F0 L a1 a2 a3 a4 a5 a0 L [] 0) fun o9=>Je L o9)
def Mg(a0:Ad)(a1:List Bo)(a2:Int)(a3:Int)(a4:Int)(a5:Int):Option ((List Bc)×Int):=z6 L a0 a1 a2 a3 a4 a5
def X10:Qi:=E6 (fun(x:(List Bc)×Int)=> .tup [lv (.t32 x.1),I x.2]) 10 H5 Bfa (cI .i64) (cI .i64) (cI .i64) (cI .i64) (Mg L) fun a0 a1 a2 a3 a4 a5 r h=>hF Tryz.func10 (C:=O10 L) (oS _) L (fun kk=>eE (Me L a0 a1 a2 a3 a4 a5 (ho (Bfz L (A58 L kk) a1 a2 a3 a4 a5 a0 L ([],0)) fun o9=>Bk6 L kk a1 a2 a3 a4 a5 a0 o9))) h
end
end Go.Proofs.YthjhkpgonleelaaGreatDoor.Ev
