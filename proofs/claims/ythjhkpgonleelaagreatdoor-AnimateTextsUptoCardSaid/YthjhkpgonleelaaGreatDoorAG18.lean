import Derived.Test.YthjhkpgonleelaaGreatDoorAG1
import Derived.Test.YthjhkpgonleelaaGreatDoorAG8
import Derived.Test.YthjhkpgonleelaaGreatDoorAG12
import Derived.Test.YthjhkpgonleelaaGreatDoorAG15
import Derived.Test.YthjhkpgonleelaaGreatDoorAG16
import Derived.Test.YthjhkpgonleelaaGreatDoorAG17
namespace Go.Proofs.YthjhkpgonleelaaGreatDoor.Ev
open Go An
set_option maxRecDepth 100000
set_option maxHeartbeats 4000000
set_option linter.unusedVariables false
set_option linter.unusedSimpArgs false
set_option linter.unnecessarySimpa false
noncomputable section
variable {A:Type} (L n:Nat) (kk:Cc) (K:Bg) (k:Bu)
def Tx [An A Bool](a0:Ak)(a1:Ak):A:=
 (jp (.cn (a0.Time == a1.Time)
 (.lf (a0.Site == a1.Site))
 (.lf false)) (fun b1=>
 (jb (.cn b1
 (.bd (Df L a0.Procs a1.Procs) fun r3=>
 (.lf r3))
 (.lf false)) (fun b2=>
 (jb (.cn b2
 (.bd (Df L a0.Held a1.Held) fun r5=>
 (.lf r5))
 (.lf false)) (fun b4=>
 (jb (.cn b4
 (.bd (Df L a0.Waiting a1.Waiting) fun r7=>
 (.lf r7))
 (.lf false)) (fun b6=>
 (jb (.cn b6
 (.bd (Df L a0.Items a1.Items) fun r9=>
 (.lf r9))
 (.lf false)) (fun b8=>
 (lf b8)))))))))))
def Ml(a0:Ak)(a1:Ak):Option Bool:=Tx L a0 a1
def X17:Di:=E2 B 17 Ia Ia (Ml L) fun a0 a1 r h=>hF Tryz.func17 (oS [X29 L]) L (fun kk=>eE (Tx L a0 a1)) h
def Ly [An A Bool](a0:Ak)(a1:Ak):A:=
 (bd (Qb L a0) fun r1=>
 (jb (.cn (!r1)
 (.lf true)
 (.bd (Qb L a1) fun r3=>
 (.lf (!r3)))) (fun b2=>
 (cn b2
 (bd (Ew L) fun r4=>
 (lf r4))
 (bd (Hw L a0) fun r5=>
 (bd (w4 L a0) fun r6=>
 (cn (r5.toList == r6.toList)
 (bd (Ml L a0 a1) fun r7=>
 (bd (H8 L a0 a1) fun r8=>
 (cn (r7 == r8)
 (bd (Hw L a0) fun r9=>
 (bd (Hw L a1) fun r10=>
 (bd (H8 L a0 a1) fun r11=>
 (cn ((r9.toList == r10.toList) == r11)
 (bd (Ew L) fun r12=>
 (lf r12))
 (lf false)))))
 (lf false))))
 (lf false))))))))
def Lt(a0:Ak)(a1:Ak):Option Bool:=Ly L a0 a1
theorem h5(a0:Ak)(a1:Ak)(r:Bool)(h:Lt L a0 a1=some r):Kx Tryz.prog 5 [.agg (Em a0),.agg (Em a1)] (B r):=(show Ho Tryz.prog 5 [.agg (Em a0),.agg (Em a1)] B r from hF Tryz.func5 (oS [X7 L,X12 L,X14 L,X15 L,X16 L,X17 L]) L (fun kk=>eE (Ly L a0 a1)) h)
def Tw [An A Bool](a0:F6)(a1:Bl)(a2:Int):A:=
 (jb (.cn (decide ((a0.Recs.length:Int) > 300))
 (.lf true)
 (.bd (V5 L (⟨a0.P.Name,a0.P.Sites,a0.P.Links⟩:Ac)) fun r2=>
 (.lf (r2 != 0)))) (fun b1=>
 (jp (.cn b1
 (.lf true)
 (.cn (a1.Site == a0.Site)
 (.lf (decide (a1.Time≤a0.T)))
 (.lf false))) (fun b3=>
 (cn b3
 (bd (Ew L) fun r4=>
 (lf r4))
 (cn (!decide ((Bo ((a0.Recs.length:Int)+1))=0))
 (gq ((0:Int)≤0)
 (gq (0≤(Int.tmod (Bo (a2)) (Bo ((a0.Recs.length:Int)+1))))
 (gq (((Int.tmod (Bo (a2)) (Bo ((a0.Recs.length:Int)+1))):Int)≤(a0.Recs.length:Int))
 (gq (((a0.Recs.length:Int):Int)≤(a0.Recs.length:Int))
 (gq ((0+((a0.Recs.take (Int.toNat (Int.tmod (Bo (a2)) (Bo ((a0.Recs.length:Int)+1))))).drop 0).length)*48≤140737488355328)
 (gq (0+((a0.Recs.take (Int.toNat (Int.tmod (Bo (a2)) (Bo ((a0.Recs.length:Int)+1))))).drop 0).length≤maxLen)
 (gq ((((a0.Recs.take (Int.toNat (Int.tmod (Bo (a2)) (Bo ((a0.Recs.length:Int)+1))))).drop 0).length+ [a1].length)*48≤140737488355328)
 (gq (((a0.Recs.take (Int.toNat (Int.tmod (Bo (a2)) (Bo ((a0.Recs.length:Int)+1))))).drop 0).length+ [a1].length≤maxLen)
 (gq (0≤(Int.tmod (Bo (a2)) (Bo ((a0.Recs.length:Int)+1))))
 (gq (((Int.tmod (Bo (a2)) (Bo ((a0.Recs.length:Int)+1))):Int)≤(a0.Recs.length:Int))
 (gq (((a0.Recs.length:Int):Int)≤(a0.Recs.length:Int))
 (gq (((a0.Recs.length:Int):Int)≤(a0.Recs.length:Int))
 (gq (((((a0.Recs.take (Int.toNat (Int.tmod (Bo (a2)) (Bo ((a0.Recs.length:Int)+1))))).drop 0)++ [a1]).length+((a0.Recs.take (Int.toNat (a0.Recs.length:Int))).drop (Int.toNat (Int.tmod (Bo (a2)) (Bo ((a0.Recs.length:Int)+1))))).length)*48≤140737488355328)
 (gq ((((a0.Recs.take (Int.toNat (Int.tmod (Bo (a2)) (Bo ((a0.Recs.length:Int)+1))))).drop 0)++ [a1]).length+((a0.Recs.take (Int.toNat (a0.Recs.length:Int))).drop (Int.toNat (Int.tmod (Bo (a2)) (Bo ((a0.Recs.length:Int)+1))))).length≤maxLen)
 (bd (Mk L (⟨a0.P.Name,a0.P.Sites,a0.P.Links⟩:Ac) a0.Recs a0.Site a0.T) fun r5=>
 (bd (Mk L (⟨a0.P.Name,a0.P.Sites,a0.P.Links⟩:Ac) ((((a0.Recs.take (Int.toNat (Int.tmod (Bo (a2)) (Bo ((a0.Recs.length:Int)+1))))).drop 0)++ [a1])++((a0.Recs.take (Int.toNat (a0.Recs.length:Int))).drop (Int.toNat (Int.tmod (Bo (a2)) (Bo ((a0.Recs.length:Int)+1)))))) a0.Site a0.T) fun r6=>
 (jb (.cn (r5.2 == r6.2)
 (.bd (H8 L r5.1 r6.1) fun r8=>
 (.lf r8))
 (.lf false)) (fun b7=>
 (jb (.cn b7
 (.bd (Ew L) fun r10=>
 (.lf r10))
 (.lf false)) (fun b9=>
 (lf b9)))))))))))))))))))))
 fl))))))
def Ag5(a0:F6)(a1:Bl)(a2:Int):Option Bool:=Tw L a0 a1 a2
theorem h6(a0:F6)(a1:Bl)(a2:Int)(r:Bool)(h:Ag5 L a0 a1 a2=some r):Kx Tryz.prog 6 [.agg (L2 a0),.agg (Dd a1),V .u8 a2] (B r):=(show Ho Tryz.prog 6 [.agg (L2 a0),.agg (Dd a1),V .u8 a2] B r from hF Tryz.func6 (oS [X7 L,X8 L,X12 L,X18 L]) L (fun kk=>eE (Tw L a0 a1 a2)) h)
end
end Go.Proofs.YthjhkpgonleelaaGreatDoor.Ev
