import Derived.Test.YthjhkpgonleelaaGreatDoorAG6
import Derived.Test.YthjhkpgonleelaaGreatDoorAG7
namespace Go.Proofs.YthjhkpgonleelaaGreatDoor.Ev
open Go An
set_option maxRecDepth 100000
set_option maxHeartbeats 4000000
set_option linter.unusedVariables false
set_option linter.unusedSimpArgs false
set_option linter.unnecessarySimpa false
noncomputable section
variable {A:Type} (L n:Nat) (kk:Cc) (K:Bg) (k:Bu)
def c10:=CC Tryz.f10
def O10:Bi:=oL [X20 L,X21 L,X22 L]
def Bzo:((List Ak)×Int)→Prop:=fun x=>kk ((fun(x:(List Ak)×Int)=> .tup [lv (.t32 x.1),I x.2]) x)
def Bdh(a1:List Bl)(a2:Int)(a3:Int)(a4:Int)(a5:Int)(a0:Ac)(v:List Ak×Int):St:=⟨[(0,.any),(1,lv (.t46 a1)),(2,I a2),(3,I a3),(4,I a4),(5,.any),(6,.loc 6 0),(12,.lst true (.t32 [])),(13,I 0),(14,.any),(15,.lst true (.t32 v.1)),(51,I a5),(52,I v.2)],[(6,(Bh a0))],0⟩
def Sv [An A (Nat×List Ak×Int)](a1:List Bl)(a2:Int)(a3:Int)(a4:Int)(a5:Int)(a0:Ac)(rec:List Ak→Int→A)(Ay2:List Ak)(Cl:Int):A:=
 (cn (decide (Cl < a5))
 (bd (Mm L (⟨a0.Name,a0.Sites,a0.Links⟩:Ac) a1 a2 (Bo (a3+(Bo (Cl*a4))))) fun r8=>
 (gq ((Ay2.length+ [r8].length)*112≤140737488355328)
 (gq (Ay2.length+ [r8].length≤maxLen)
 (rec (Ay2++ [r8]) (Bo (Cl+1))))))
 (lf (0,Ay2,Cl)))
def Kr(L:Nat)(a1:List Bl)(a2:Int)(a3:Int)(a4:Int)(a5:Int)(a0:Ac):Nat→List Ak→Int→Option (Nat×List Ak×Int)
 |0,_,_=>none
 |n+1,Ay2,Cl=>Sv L a1 a2 a3 a4 a5 a0 (Kr L a1 a2 a3 a4 a5 a0 n) Ay2 Cl
theorem Bni(a1:List Bl)(a2:Int)(a3:Int)(a4:Int)(a5:Int)(a0:Ac):LP (EV (O10 L) L 9 c10.x.l.u.l.l) [0,1,2,3,4,5,6,12,13,14,15,51,52] [6] (Bdh a1 a2 a3 a4 a5 a0) [.exit 0] (fun n v=>Kr L a1 a2 a3 a4 a5 a0 n v.1 v.2) K:=lE (fun _=>rfl) fun n v ih=>eE (Sv L a1 a2 a3 a4 a5 a0 (fun Ay2 Cl=>re (ih (Ay2,Cl))) v.1 v.2)
def Kt [An A ((List Ak)×Int)](L:Nat)(o9:Nat×List Ak×Int):A:=
 (sl o9.1 [(lf (o9.2.1,0))])
def Ba2:Bg:=(Bb 0 (Bp (EV (O10 L) L 9 c10.x.r) (Ct Tryz.prog (RS Tryz.f10) kk)))
theorem Bvh(a1:List Bl)(a2:Int)(a3:Int)(a4:Int)(a5:Int)(a0:Ac)(o9:Nat×List Ak×Int):kX [.exit 0] (Bdh a1 a2 a3 a4 a5 a0) (Ba2 L kk) o9=ob (Kt L o9) (Bzo kk):=eE (Kt L o9)
def Sy [An A ((List Ak)×Int)](a0:Ac)(a1:List Bl)(a2:Int)(a3:Int)(a4:Int)(a5:Int)(nx1:A):A:=
 (bd (w5 L (⟨a0.Name,a0.Sites,a0.Links⟩:Ac)) fun r1=>
 (cn (r1 != 0)
 (lf ([],r1))
 (bd (Xn L (⟨a0.Name,a0.Sites,a0.Links⟩:Ac) a2 a3) fun r2=>
 (jp (.cn r2
 (.lf true)
 (.lf (decide (a4 < 1)))) (fun b3=>
 (jp (.cn b3
 (.lf true)
 (.lf (decide (a4 > 1000000000)))) (fun b4=>
 (jp (.cn b4
 (.lf true)
 (.lf (decide (a5 < 0)))) (fun b5=>
 (jp (.cn b5
 (.lf true)
 (.lf (decide (a5 > 1000)))) (fun b6=>
 (jp (.cn b6
 (.lf true)
 (.lf (decide ((Bo (a3+(Bo ((Bo (a5 - 1))*a4)))) > 1000000000)))) (fun b7=>
 (cn b7
 (lf ([],2))
 nx1))))))))))))))
def Aka [An A ((List Ak)×Int)](a0:Ac)(a1:List Bl)(a2:Int)(a3:Int)(a4:Int)(a5:Int):A:=Sy L a0 a1 a2 a3 a4 a5 (bd (Kr L a1 a2 a3 a4 a5 a0 L [] 0) fun o9=>Kt L o9)
def N7(a0:Ac)(a1:List Bl)(a2:Int)(a3:Int)(a4:Int)(a5:Int):Option ((List Ak)×Int):=Aka L a0 a1 a2 a3 a4 a5
def X10:Di:=E6 (fun(x:(List Ak)×Int)=> .tup [lv (.t32 x.1),I x.2]) 10 B6 A7y (cI .i64) (cI .i64) (cI .i64) (cI .i64) (N7 L) fun a0 a1 a2 a3 a4 a5 r h=>hF Tryz.func10 (C:=O10 L) (oS _) L (fun kk=>eE (Sy L a0 a1 a2 a3 a4 a5 (ho (Bni L (Ba2 L kk) a1 a2 a3 a4 a5 a0 L ([],0)) fun o9=>Bvh L kk a1 a2 a3 a4 a5 a0 o9))) h
end
end Go.Proofs.YthjhkpgonleelaaGreatDoor.Ev
