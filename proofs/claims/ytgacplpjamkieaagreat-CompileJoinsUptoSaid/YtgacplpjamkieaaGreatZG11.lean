import Derived.Test.YtgacplpjamkieaaGreatZG1
import Derived.Test.YtgacplpjamkieaaGreatZG2
import Derived.Test.YtgacplpjamkieaaGreatZG6
import Derived.Test.YtgacplpjamkieaaGreatZG7
import Derived.Test.YtgacplpjamkieaaGreatZG8
import Derived.Test.YtgacplpjamkieaaGreatZG9
import Derived.Test.YtgacplpjamkieaaGreatZG9b
import Derived.Test.YtgacplpjamkieaaGreatZG10
set_option maxRecDepth 100000
set_option maxHeartbeats 4000000
set_option linter.unusedVariables false
set_option linter.unusedSimpArgs false
set_option linter.unnecessarySimpa false
namespace Go.Proofs.YtgacplpjamkieaaGreat.Ev
open Go An
noncomputable section
variable {A:Type} (L n:Nat) (kk:Tb) (K:Hp) (k:Ei)
def R1 [An A Bool](a0:Ag)(a1:Int)(a2:Ac6):A:=
 (bd (Z0 L a0) λr1=>
 (jp (.cn (!r1)
 (.lf true)
 (.lf (decide (a1<0)))) (λb2=>
 (jp (.cn b2
 (.lf true)
 (.lf (decide (a1>=(a0.aD.length:Int))))) (λb3=>
 (jb (.cn b3
 (.lf true)
 (.gq (0<=a1)
 (.gq (a1<(a0.aD.length:Int))
 (.lf (((gD a0.aD a1).aA.length:Int) == 0))))) (λb4=>
 (cn b4
 (bd (Bc L) λr5=>
 (lf r5))
 (gi a1 a0.aD
 (gi a1 a0.aD
 (cn (!decide (((gD a0.aD a1).aA.length:Int)=0))
 (gi (Int.tmod (Bb (a2.a0)) ((gD a0.aD a1).aA.length:Int)) ((gD a0.aD a1).aA)
 (cn (!decide ((Bb ((((gD ((gD a0.aD a1).aA) (Int.tmod (Bb (a2.a0)) ((gD a0.aD a1).aA.length:Int))).aK).length:Int)+1))=0))
 (bd (Ach L (gD ((gD a0.aD a1).aA) (Int.tmod (Bb (a2.a0)) ((gD a0.aD a1).aA.length:Int)))) λr6=>
 (bd (C0 L a0 a1 r6 ((gD ((gD a0.aD a1).aA) (Int.tmod (Bb (a2.a0)) ((gD a0.aD a1).aA.length:Int))).aK)) λr7=>
 (cn (r7 != 0)
 (gq ((0:Int)<=0)
 (gq (0<=(Int.tmod (Bb (a2.a1)) (Bb ((((gD ((gD a0.aD a1).aA) (Int.tmod (Bb (a2.a0)) ((gD a0.aD a1).aA.length:Int))).aK).length:Int)+1))))
 (gq (((Int.tmod (Bb (a2.a1)) (Bb ((((gD ((gD a0.aD a1).aA) (Int.tmod (Bb (a2.a0)) ((gD a0.aD a1).aA.length:Int))).aK).length:Int)+1))):Int)<=(((gD ((gD a0.aD a1).aA) (Int.tmod (Bb (a2.a0)) ((gD a0.aD a1).aA.length:Int))).aK).length:Int))
 (gq (((((gD ((gD a0.aD a1).aA) (Int.tmod (Bb (a2.a0)) ((gD a0.aD a1).aA.length:Int))).aK).length:Int):Int)<=(((gD ((gD a0.aD a1).aA) (Int.tmod (Bb (a2.a0)) ((gD a0.aD a1).aA.length:Int))).aK).length:Int))
 (bd (C0 L a0 a1 r6 ((((gD ((gD a0.aD a1).aA) (Int.tmod (Bb (a2.a0)) ((gD a0.aD a1).aA.length:Int))).aK).take (Int.toNat (Int.tmod (Bb (a2.a1)) (Bb ((((gD ((gD a0.aD a1).aA) (Int.tmod (Bb (a2.a0)) ((gD a0.aD a1).aA.length:Int))).aK).length:Int)+1))))).drop 0)) λr8=>
 (cn (r8 != 0)
 (gq (0<=(Int.tmod (Bb (a2.a1)) (Bb ((((gD ((gD a0.aD a1).aA) (Int.tmod (Bb (a2.a0)) ((gD a0.aD a1).aA.length:Int))).aK).length:Int)+1))))
 (gq (((Int.tmod (Bb (a2.a1)) (Bb ((((gD ((gD a0.aD a1).aA) (Int.tmod (Bb (a2.a0)) ((gD a0.aD a1).aA.length:Int))).aK).length:Int)+1))):Int)<=(((gD ((gD a0.aD a1).aA) (Int.tmod (Bb (a2.a0)) ((gD a0.aD a1).aA.length:Int))).aK).length:Int))
 (gq (((((gD ((gD a0.aD a1).aA) (Int.tmod (Bb (a2.a0)) ((gD a0.aD a1).aA.length:Int))).aK).length:Int):Int)<=(((gD ((gD a0.aD a1).aA) (Int.tmod (Bb (a2.a0)) ((gD a0.aD a1).aA.length:Int))).aK).length:Int))
 (gq (((((gD ((gD a0.aD a1).aA) (Int.tmod (Bb (a2.a0)) ((gD a0.aD a1).aA.length:Int))).aK).length:Int):Int)<=(((gD ((gD a0.aD a1).aA) (Int.tmod (Bb (a2.a0)) ((gD a0.aD a1).aA.length:Int))).aK).length:Int))
 (bd (C0 L a0 a1 r6 ((((gD ((gD a0.aD a1).aA) (Int.tmod (Bb (a2.a0)) ((gD a0.aD a1).aA.length:Int))).aK).take (Int.toNat (((gD ((gD a0.aD a1).aA) (Int.tmod (Bb (a2.a0)) ((gD a0.aD a1).aA.length:Int))).aK).length:Int))).drop (Int.toNat (Int.tmod (Bb (a2.a1)) (Bb ((((gD ((gD a0.aD a1).aA) (Int.tmod (Bb (a2.a0)) ((gD a0.aD a1).aA.length:Int))).aK).length:Int)+1)))))) λr9=>
 (cn (r9 != 0)
 (cn (r7 != 0)
 (jp (.cn (r8 != 0)
 (.lf true)
 (.lf (r9 != 0))) (λb10=>
 (jb (.cn b10
 (.bd (Bc L) λr12=>
 (.lf r12))
 (.lf false)) (λb11=>
 (lf b11)))))
 (jp (.cn (r8 == 0)
 (.lf (r9 == 0))
 (.lf false)) (λb13=>
 (cn b13
 (gq ((0+0)*256<=140737488355328)
 (gq (0+0<=maxLen)
 (bd (Cn L [] 0) λr14=>
 (gq ((0+r14.length)*256<=140737488355328)
 (gq (0+r14.length<=maxLen)
 (jb (.bd (Bi L [] r14) λr16=>
 (.lf r16)) (λb15=>
 (jb (.cn b15
 (.bd (Bc L) λr18=>
 (.lf r18))
 (.lf false)) (λb17=>
 (lf b17))))))))))
 (nq (nq (lf false)))))))
 (gi a1 a0.aD
 (bd (Au L (⟨a0,(⟨a0.aJ,r6,(gD a0.aD a1)⟩:Az),0⟩:Ab) ((((gD ((gD a0.aD a1).aA) (Int.tmod (Bb (a2.a0)) ((gD a0.aD a1).aA.length:Int))).aK).take (Int.toNat (((gD ((gD a0.aD a1).aA) (Int.tmod (Bb (a2.a0)) ((gD a0.aD a1).aA.length:Int))).aK).length:Int))).drop (Int.toNat (Int.tmod (Bb (a2.a1)) (Bb ((((gD ((gD a0.aD a1).aA) (Int.tmod (Bb (a2.a0)) ((gD a0.aD a1).aA.length:Int))).aK).length:Int)+1)))))) λr19=>
 (cn (r19.2.aW != 0)
 (cn (r7 != 0)
 (jp (.cn (r8 != 0)
 (.lf true)
 (.lf (r19.2.aW != 0))) (λb20=>
 (jb (.cn b20
 (.bd (Bc L) λr22=>
 (.lf r22))
 (.lf false)) (λb21=>
 (lf b21)))))
 (jp (.cn (r8 == 0)
 (.lf (r19.2.aW == 0))
 (.lf false)) (λb23=>
 (cn b23
 (gq ((0+0)*256<=140737488355328)
 (gq (0+0<=maxLen)
 (bd (Cn L [] 0) λr24=>
 (gq ((0+r24.length)*256<=140737488355328)
 (gq (0+r24.length<=maxLen)
 (jb (.bd (Bi L [] r24) λr26=>
 (.lf r26)) (λb25=>
 (jb (.cn b25
 (.bd (Bc L) λr28=>
 (.lf r28))
 (.lf false)) (λb27=>
 (lf b27))))))))))
 (nq (nq (lf false)))))))
 (cn (r7 != 0)
 (jp (.cn (r8 != 0)
 (.lf true)
 (.lf false)) (λb29=>
 (jb (.cn b29
 (.bd (Bc L) λr31=>
 (.lf r31))
 (.lf false)) (λb30=>
 (lf b30)))))
 (jp (.cn (r8 == 0)
 (.lf true)
 (.lf false)) (λb32=>
 (cn b32
 (gq ((0+0)*256<=140737488355328)
 (gq (0+0<=maxLen)
 (bd (Cn L r19.1 0) λr33=>
 (gq ((0+r33.length)*256<=140737488355328)
 (gq (0+r33.length<=maxLen)
 (jb (.bd (Bi L [] r33) λr35=>
 (.lf r35)) (λb34=>
 (jb (.cn b34
 (.bd (Bc L) λr37=>
 (.lf r37))
 (.lf false)) (λb36=>
 (lf b36))))))))))
 (nq (nq (lf false))))))))))))))))
 (gi a1 a0.aD
 (bd (Au L (⟨a0,(⟨a0.aJ,r6,(gD a0.aD a1)⟩:Az),0⟩:Ab) ((((gD ((gD a0.aD a1).aA) (Int.tmod (Bb (a2.a0)) ((gD a0.aD a1).aA.length:Int))).aK).take (Int.toNat (Int.tmod (Bb (a2.a1)) (Bb ((((gD ((gD a0.aD a1).aA) (Int.tmod (Bb (a2.a0)) ((gD a0.aD a1).aA.length:Int))).aK).length:Int)+1))))).drop 0)) λr38=>
 (cn (r38.2.aW != 0)
 (gq (0<=(Int.tmod (Bb (a2.a1)) (Bb ((((gD ((gD a0.aD a1).aA) (Int.tmod (Bb (a2.a0)) ((gD a0.aD a1).aA.length:Int))).aK).length:Int)+1))))
 (gq (((Int.tmod (Bb (a2.a1)) (Bb ((((gD ((gD a0.aD a1).aA) (Int.tmod (Bb (a2.a0)) ((gD a0.aD a1).aA.length:Int))).aK).length:Int)+1))):Int)<=(((gD ((gD a0.aD a1).aA) (Int.tmod (Bb (a2.a0)) ((gD a0.aD a1).aA.length:Int))).aK).length:Int))
 (gq (((((gD ((gD a0.aD a1).aA) (Int.tmod (Bb (a2.a0)) ((gD a0.aD a1).aA.length:Int))).aK).length:Int):Int)<=(((gD ((gD a0.aD a1).aA) (Int.tmod (Bb (a2.a0)) ((gD a0.aD a1).aA.length:Int))).aK).length:Int))
 (gq (((((gD ((gD a0.aD a1).aA) (Int.tmod (Bb (a2.a0)) ((gD a0.aD a1).aA.length:Int))).aK).length:Int):Int)<=(((gD ((gD a0.aD a1).aA) (Int.tmod (Bb (a2.a0)) ((gD a0.aD a1).aA.length:Int))).aK).length:Int))
 (bd (C0 L a0 a1 r6 ((((gD ((gD a0.aD a1).aA) (Int.tmod (Bb (a2.a0)) ((gD a0.aD a1).aA.length:Int))).aK).take (Int.toNat (((gD ((gD a0.aD a1).aA) (Int.tmod (Bb (a2.a0)) ((gD a0.aD a1).aA.length:Int))).aK).length:Int))).drop (Int.toNat (Int.tmod (Bb (a2.a1)) (Bb ((((gD ((gD a0.aD a1).aA) (Int.tmod (Bb (a2.a0)) ((gD a0.aD a1).aA.length:Int))).aK).length:Int)+1)))))) λr39=>
 (cn (r39 != 0)
 (cn (r7 != 0)
 (jp (.cn (r38.2.aW != 0)
 (.lf true)
 (.lf (r39 != 0))) (λb40=>
 (jb (.cn b40
 (.bd (Bc L) λr42=>
 (.lf r42))
 (.lf false)) (λb41=>
 (lf b41)))))
 (jp (.cn (r38.2.aW == 0)
 (.lf (r39 == 0))
 (.lf false)) (λb43=>
 (cn b43
 (gq ((0+0)*256<=140737488355328)
 (gq (0+0<=maxLen)
 (bd (Cn L [] 0) λr44=>
 (gq ((0+r44.length)*256<=140737488355328)
 (gq (0+r44.length<=maxLen)
 (jb (.bd (Bi L [] r44) λr46=>
 (.lf r46)) (λb45=>
 (jb (.cn b45
 (.bd (Bc L) λr48=>
 (.lf r48))
 (.lf false)) (λb47=>
 (lf b47))))))))))
 (nq (nq (lf false)))))))
 (gi a1 a0.aD
 (bd (Au L (⟨a0,(⟨a0.aJ,r6,(gD a0.aD a1)⟩:Az),0⟩:Ab) ((((gD ((gD a0.aD a1).aA) (Int.tmod (Bb (a2.a0)) ((gD a0.aD a1).aA.length:Int))).aK).take (Int.toNat (((gD ((gD a0.aD a1).aA) (Int.tmod (Bb (a2.a0)) ((gD a0.aD a1).aA.length:Int))).aK).length:Int))).drop (Int.toNat (Int.tmod (Bb (a2.a1)) (Bb ((((gD ((gD a0.aD a1).aA) (Int.tmod (Bb (a2.a0)) ((gD a0.aD a1).aA.length:Int))).aK).length:Int)+1)))))) λr49=>
 (cn (r49.2.aW != 0)
 (cn (r7 != 0)
 (jp (.cn (r38.2.aW != 0)
 (.lf true)
 (.lf (r49.2.aW != 0))) (λb50=>
 (jb (.cn b50
 (.bd (Bc L) λr52=>
 (.lf r52))
 (.lf false)) (λb51=>
 (lf b51)))))
 (jp (.cn (r38.2.aW == 0)
 (.lf (r49.2.aW == 0))
 (.lf false)) (λb53=>
 (cn b53
 (gq ((0+0)*256<=140737488355328)
 (gq (0+0<=maxLen)
 (bd (Cn L [] 0) λr54=>
 (gq ((0+r54.length)*256<=140737488355328)
 (gq (0+r54.length<=maxLen)
 (jb (.bd (Bi L [] r54) λr56=>
 (.lf r56)) (λb55=>
 (jb (.cn b55
 (.bd (Bc L) λr58=>
 (.lf r58))
 (.lf false)) (λb57=>
 (lf b57))))))))))
 (nq (nq (lf false)))))))
 (cn (r7 != 0)
 (jp (.cn (r38.2.aW != 0)
 (.lf true)
 (.lf false)) (λb59=>
 (jb (.cn b59
 (.bd (Bc L) λr61=>
 (.lf r61))
 (.lf false)) (λb60=>
 (lf b60)))))
 (jp (.cn (r38.2.aW == 0)
 (.lf true)
 (.lf false)) (λb62=>
 (cn b62
 (gq ((0+0)*256<=140737488355328)
 (gq (0+0<=maxLen)
 (bd (Cn L r49.1 0) λr63=>
 (gq ((0+r63.length)*256<=140737488355328)
 (gq (0+r63.length<=maxLen)
 (jb (.bd (Bi L [] r63) λr65=>
 (.lf r65)) (λb64=>
 (jb (.cn b64
 (.bd (Bc L) λr67=>
 (.lf r67))
 (.lf false)) (λb66=>
 (lf b66))))))))))
 (nq (nq (lf false))))))))))))))))
 (gq (0<=(Int.tmod (Bb (a2.a1)) (Bb ((((gD ((gD a0.aD a1).aA) (Int.tmod (Bb (a2.a0)) ((gD a0.aD a1).aA.length:Int))).aK).length:Int)+1))))
 (gq (((Int.tmod (Bb (a2.a1)) (Bb ((((gD ((gD a0.aD a1).aA) (Int.tmod (Bb (a2.a0)) ((gD a0.aD a1).aA.length:Int))).aK).length:Int)+1))):Int)<=(((gD ((gD a0.aD a1).aA) (Int.tmod (Bb (a2.a0)) ((gD a0.aD a1).aA.length:Int))).aK).length:Int))
 (gq (((((gD ((gD a0.aD a1).aA) (Int.tmod (Bb (a2.a0)) ((gD a0.aD a1).aA.length:Int))).aK).length:Int):Int)<=(((gD ((gD a0.aD a1).aA) (Int.tmod (Bb (a2.a0)) ((gD a0.aD a1).aA.length:Int))).aK).length:Int))
 (gq (((((gD ((gD a0.aD a1).aA) (Int.tmod (Bb (a2.a0)) ((gD a0.aD a1).aA.length:Int))).aK).length:Int):Int)<=(((gD ((gD a0.aD a1).aA) (Int.tmod (Bb (a2.a0)) ((gD a0.aD a1).aA.length:Int))).aK).length:Int))
 (bd (C0 L a0 a1 r6 ((((gD ((gD a0.aD a1).aA) (Int.tmod (Bb (a2.a0)) ((gD a0.aD a1).aA.length:Int))).aK).take (Int.toNat (((gD ((gD a0.aD a1).aA) (Int.tmod (Bb (a2.a0)) ((gD a0.aD a1).aA.length:Int))).aK).length:Int))).drop (Int.toNat (Int.tmod (Bb (a2.a1)) (Bb ((((gD ((gD a0.aD a1).aA) (Int.tmod (Bb (a2.a0)) ((gD a0.aD a1).aA.length:Int))).aK).length:Int)+1)))))) λr68=>
 (cn (r68 != 0)
 (cn (r7 != 0)
 (nq (jb (.cn (r68 != 0)
 (.bd (Bc L) λr70=>
 (.lf r70))
 (.lf false)) (λb69=>
 (lf b69))))
 (nq (cn (r68 == 0)
 (gq ((0+r38.1.length)*256<=140737488355328)
 (gq (0+r38.1.length<=maxLen)
 (bd (Cn L [] (r38.1.length:Int)) λr71=>
 (gq ((r38.1.length+r71.length)*256<=140737488355328)
 (gq (r38.1.length+r71.length<=maxLen)
 (jb (.bd (Bi L [] (r38.1++r71)) λr73=>
 (.lf r73)) (λb72=>
 (jb (.cn b72
 (.bd (Bc L) λr75=>
 (.lf r75))
 (.lf false)) (λb74=>
 (lf b74))))))))))
 (nq (nq (lf false))))))
 (gi a1 a0.aD
 (bd (Au L (⟨a0,(⟨a0.aJ,r6,(gD a0.aD a1)⟩:Az),0⟩:Ab) ((((gD ((gD a0.aD a1).aA) (Int.tmod (Bb (a2.a0)) ((gD a0.aD a1).aA.length:Int))).aK).take (Int.toNat (((gD ((gD a0.aD a1).aA) (Int.tmod (Bb (a2.a0)) ((gD a0.aD a1).aA.length:Int))).aK).length:Int))).drop (Int.toNat (Int.tmod (Bb (a2.a1)) (Bb ((((gD ((gD a0.aD a1).aA) (Int.tmod (Bb (a2.a0)) ((gD a0.aD a1).aA.length:Int))).aK).length:Int)+1)))))) λr76=>
 (cn (r76.2.aW != 0)
 (cn (r7 != 0)
 (nq (jb (.cn (r76.2.aW != 0)
 (.bd (Bc L) λr78=>
 (.lf r78))
 (.lf false)) (λb77=>
 (lf b77))))
 (nq (cn (r76.2.aW == 0)
 (gq ((0+r38.1.length)*256<=140737488355328)
 (gq (0+r38.1.length<=maxLen)
 (bd (Cn L [] (r38.1.length:Int)) λr79=>
 (gq ((r38.1.length+r79.length)*256<=140737488355328)
 (gq (r38.1.length+r79.length<=maxLen)
 (jb (.bd (Bi L [] (r38.1++r79)) λr81=>
 (.lf r81)) (λb80=>
 (jb (.cn b80
 (.bd (Bc L) λr83=>
 (.lf r83))
 (.lf false)) (λb82=>
 (lf b82))))))))))
 (nq (nq (lf false))))))
 (cn (r7 != 0)
 (nq (nq (lf false)))
 (nq (gq ((0+r38.1.length)*256<=140737488355328)
 (gq (0+r38.1.length<=maxLen)
 (bd (Cn L r76.1 (r38.1.length:Int)) λr84=>
 (gq ((r38.1.length+r84.length)*256<=140737488355328)
 (gq (r38.1.length+r84.length<=maxLen)
 (jb (.bd (Bi L [] (r38.1++r84)) λr86=>
 (.lf r86)) (λb85=>
 (jb (.cn b85
 (.bd (Bc L) λr88=>
 (.lf r88))
 (.lf false)) (λb87=>
 (lf b87))))))))))))))))))))))))))))))
 (gi a1 a0.aD
 (bd (Au L (⟨a0,(⟨a0.aJ,r6,(gD a0.aD a1)⟩:Az),0⟩:Ab) ((gD ((gD a0.aD a1).aA) (Int.tmod (Bb (a2.a0)) ((gD a0.aD a1).aA.length:Int))).aK)) λr89=>
 (cn (r89.2.aW != 0)
 (gq ((0:Int)<=0)
 (gq (0<=(Int.tmod (Bb (a2.a1)) (Bb ((((gD ((gD a0.aD a1).aA) (Int.tmod (Bb (a2.a0)) ((gD a0.aD a1).aA.length:Int))).aK).length:Int)+1))))
 (gq (((Int.tmod (Bb (a2.a1)) (Bb ((((gD ((gD a0.aD a1).aA) (Int.tmod (Bb (a2.a0)) ((gD a0.aD a1).aA.length:Int))).aK).length:Int)+1))):Int)<=(((gD ((gD a0.aD a1).aA) (Int.tmod (Bb (a2.a0)) ((gD a0.aD a1).aA.length:Int))).aK).length:Int))
 (gq (((((gD ((gD a0.aD a1).aA) (Int.tmod (Bb (a2.a0)) ((gD a0.aD a1).aA.length:Int))).aK).length:Int):Int)<=(((gD ((gD a0.aD a1).aA) (Int.tmod (Bb (a2.a0)) ((gD a0.aD a1).aA.length:Int))).aK).length:Int))
 (bd (C0 L a0 a1 r6 ((((gD ((gD a0.aD a1).aA) (Int.tmod (Bb (a2.a0)) ((gD a0.aD a1).aA.length:Int))).aK).take (Int.toNat (Int.tmod (Bb (a2.a1)) (Bb ((((gD ((gD a0.aD a1).aA) (Int.tmod (Bb (a2.a0)) ((gD a0.aD a1).aA.length:Int))).aK).length:Int)+1))))).drop 0)) λr90=>
 (cn (r90 != 0)
 (gq (0<=(Int.tmod (Bb (a2.a1)) (Bb ((((gD ((gD a0.aD a1).aA) (Int.tmod (Bb (a2.a0)) ((gD a0.aD a1).aA.length:Int))).aK).length:Int)+1))))
 (gq (((Int.tmod (Bb (a2.a1)) (Bb ((((gD ((gD a0.aD a1).aA) (Int.tmod (Bb (a2.a0)) ((gD a0.aD a1).aA.length:Int))).aK).length:Int)+1))):Int)<=(((gD ((gD a0.aD a1).aA) (Int.tmod (Bb (a2.a0)) ((gD a0.aD a1).aA.length:Int))).aK).length:Int))
 (gq (((((gD ((gD a0.aD a1).aA) (Int.tmod (Bb (a2.a0)) ((gD a0.aD a1).aA.length:Int))).aK).length:Int):Int)<=(((gD ((gD a0.aD a1).aA) (Int.tmod (Bb (a2.a0)) ((gD a0.aD a1).aA.length:Int))).aK).length:Int))
 (gq (((((gD ((gD a0.aD a1).aA) (Int.tmod (Bb (a2.a0)) ((gD a0.aD a1).aA.length:Int))).aK).length:Int):Int)<=(((gD ((gD a0.aD a1).aA) (Int.tmod (Bb (a2.a0)) ((gD a0.aD a1).aA.length:Int))).aK).length:Int))
 (bd (C0 L a0 a1 r6 ((((gD ((gD a0.aD a1).aA) (Int.tmod (Bb (a2.a0)) ((gD a0.aD a1).aA.length:Int))).aK).take (Int.toNat (((gD ((gD a0.aD a1).aA) (Int.tmod (Bb (a2.a0)) ((gD a0.aD a1).aA.length:Int))).aK).length:Int))).drop (Int.toNat (Int.tmod (Bb (a2.a1)) (Bb ((((gD ((gD a0.aD a1).aA) (Int.tmod (Bb (a2.a0)) ((gD a0.aD a1).aA.length:Int))).aK).length:Int)+1)))))) λr91=>
 (cn (r91 != 0)
 (cn (r89.2.aW != 0)
 (jp (.cn (r90 != 0)
 (.lf true)
 (.lf (r91 != 0))) (λb92=>
 (jb (.cn b92
 (.bd (Bc L) λr94=>
 (.lf r94))
 (.lf false)) (λb93=>
 (lf b93)))))
 (jp (.cn (r90 == 0)
 (.lf (r91 == 0))
 (.lf false)) (λb95=>
 (cn b95
 (gq ((0+0)*256<=140737488355328)
 (gq (0+0<=maxLen)
 (bd (Cn L [] 0) λr96=>
 (gq ((0+r96.length)*256<=140737488355328)
 (gq (0+r96.length<=maxLen)
 (jb (.bd (Bi L [] r96) λr98=>
 (.lf r98)) (λb97=>
 (jb (.cn b97
 (.bd (Bc L) λr100=>
 (.lf r100))
 (.lf false)) (λb99=>
 (lf b99))))))))))
 (nq (nq (lf false)))))))
 (gi a1 a0.aD
 (bd (Au L (⟨a0,(⟨a0.aJ,r6,(gD a0.aD a1)⟩:Az),0⟩:Ab) ((((gD ((gD a0.aD a1).aA) (Int.tmod (Bb (a2.a0)) ((gD a0.aD a1).aA.length:Int))).aK).take (Int.toNat (((gD ((gD a0.aD a1).aA) (Int.tmod (Bb (a2.a0)) ((gD a0.aD a1).aA.length:Int))).aK).length:Int))).drop (Int.toNat (Int.tmod (Bb (a2.a1)) (Bb ((((gD ((gD a0.aD a1).aA) (Int.tmod (Bb (a2.a0)) ((gD a0.aD a1).aA.length:Int))).aK).length:Int)+1)))))) λr101=>
 (cn (r101.2.aW != 0)
 (cn (r89.2.aW != 0)
 (jp (.cn (r90 != 0)
 (.lf true)
 (.lf (r101.2.aW != 0))) (λb102=>
 (jb (.cn b102
 (.bd (Bc L) λr104=>
 (.lf r104))
 (.lf false)) (λb103=>
 (lf b103)))))
 (jp (.cn (r90 == 0)
 (.lf (r101.2.aW == 0))
 (.lf false)) (λBku=>
 (cn Bku
 (gq ((0+0)*256<=140737488355328)
 (gq (0+0<=maxLen)
 (bd (Cn L [] 0) λr106=>
 (gq ((0+r106.length)*256<=140737488355328)
 (gq (0+r106.length<=maxLen)
 (jb (.bd (Bi L [] r106) λr108=>
 (.lf r108)) (λb107=>
 (jb (.cn b107
 (.bd (Bc L) λr110=>
 (.lf r110))
 (.lf false)) (λb109=>
 (lf b109))))))))))
 (nq (nq (lf false)))))))
 (cn (r89.2.aW != 0)
 (jp (.cn (r90 != 0)
 (.lf true)
 (.lf false)) (λb111=>
 (jb (.cn b111
 (.bd (Bc L) λr113=>
 (.lf r113))
 (.lf false)) (λb112=>
 (lf b112)))))
 (jp (.cn (r90 == 0)
 (.lf true)
 (.lf false)) (λb114=>
 (cn b114
 (gq ((0+0)*256<=140737488355328)
 (gq (0+0<=maxLen)
 (bd (Cn L r101.1 0) λr115=>
 (gq ((0+r115.length)*256<=140737488355328)
 (gq (0+r115.length<=maxLen)
 (jb (.bd (Bi L [] r115) λr117=>
 (.lf r117)) (λb116=>
 (jb (.cn b116
 (.bd (Bc L) λr119=>
 (.lf r119))
 (.lf false)) (λb118=>
 (lf b118))))))))))
 (nq (nq (lf false))))))))))))))))
 (gi a1 a0.aD
 (bd (Au L (⟨a0,(⟨a0.aJ,r6,(gD a0.aD a1)⟩:Az),0⟩:Ab) ((((gD ((gD a0.aD a1).aA) (Int.tmod (Bb (a2.a0)) ((gD a0.aD a1).aA.length:Int))).aK).take (Int.toNat (Int.tmod (Bb (a2.a1)) (Bb ((((gD ((gD a0.aD a1).aA) (Int.tmod (Bb (a2.a0)) ((gD a0.aD a1).aA.length:Int))).aK).length:Int)+1))))).drop 0)) λr120=>
 (cn (r120.2.aW != 0)
 (gq (0<=(Int.tmod (Bb (a2.a1)) (Bb ((((gD ((gD a0.aD a1).aA) (Int.tmod (Bb (a2.a0)) ((gD a0.aD a1).aA.length:Int))).aK).length:Int)+1))))
 (gq (((Int.tmod (Bb (a2.a1)) (Bb ((((gD ((gD a0.aD a1).aA) (Int.tmod (Bb (a2.a0)) ((gD a0.aD a1).aA.length:Int))).aK).length:Int)+1))):Int)<=(((gD ((gD a0.aD a1).aA) (Int.tmod (Bb (a2.a0)) ((gD a0.aD a1).aA.length:Int))).aK).length:Int))
 (gq (((((gD ((gD a0.aD a1).aA) (Int.tmod (Bb (a2.a0)) ((gD a0.aD a1).aA.length:Int))).aK).length:Int):Int)<=(((gD ((gD a0.aD a1).aA) (Int.tmod (Bb (a2.a0)) ((gD a0.aD a1).aA.length:Int))).aK).length:Int))
 (gq (((((gD ((gD a0.aD a1).aA) (Int.tmod (Bb (a2.a0)) ((gD a0.aD a1).aA.length:Int))).aK).length:Int):Int)<=(((gD ((gD a0.aD a1).aA) (Int.tmod (Bb (a2.a0)) ((gD a0.aD a1).aA.length:Int))).aK).length:Int))
 (bd (C0 L a0 a1 r6 ((((gD ((gD a0.aD a1).aA) (Int.tmod (Bb (a2.a0)) ((gD a0.aD a1).aA.length:Int))).aK).take (Int.toNat (((gD ((gD a0.aD a1).aA) (Int.tmod (Bb (a2.a0)) ((gD a0.aD a1).aA.length:Int))).aK).length:Int))).drop (Int.toNat (Int.tmod (Bb (a2.a1)) (Bb ((((gD ((gD a0.aD a1).aA) (Int.tmod (Bb (a2.a0)) ((gD a0.aD a1).aA.length:Int))).aK).length:Int)+1)))))) λr121=>
 (cn (r121 != 0)
 (cn (r89.2.aW != 0)
 (jp (.cn (r120.2.aW != 0)
 (.lf true)
 (.lf (r121 != 0))) (λb122=>
 (jb (.cn b122
 (.bd (Bc L) λr124=>
 (.lf r124))
 (.lf false)) (λb123=>
 (lf b123)))))
 (jp (.cn (r120.2.aW == 0)
 (.lf (r121 == 0))
 (.lf false)) (λb125=>
 (cn b125
 (gq ((0+0)*256<=140737488355328)
 (gq (0+0<=maxLen)
 (bd (Cn L [] 0) λr126=>
 (gq ((0+r126.length)*256<=140737488355328)
 (gq (0+r126.length<=maxLen)
 (jb (.bd (Bi L [] r126) λr128=>
 (.lf r128)) (λb127=>
 (jb (.cn b127
 (.bd (Bc L) λr130=>
 (.lf r130))
 (.lf false)) (λb129=>
 (lf b129))))))))))
 (nq (nq (lf false)))))))
 (gi a1 a0.aD
 (bd (Au L (⟨a0,(⟨a0.aJ,r6,(gD a0.aD a1)⟩:Az),0⟩:Ab) ((((gD ((gD a0.aD a1).aA) (Int.tmod (Bb (a2.a0)) ((gD a0.aD a1).aA.length:Int))).aK).take (Int.toNat (((gD ((gD a0.aD a1).aA) (Int.tmod (Bb (a2.a0)) ((gD a0.aD a1).aA.length:Int))).aK).length:Int))).drop (Int.toNat (Int.tmod (Bb (a2.a1)) (Bb ((((gD ((gD a0.aD a1).aA) (Int.tmod (Bb (a2.a0)) ((gD a0.aD a1).aA.length:Int))).aK).length:Int)+1)))))) λr131=>
 (cn (r131.2.aW != 0)
 (cn (r89.2.aW != 0)
 (jp (.cn (r120.2.aW != 0)
 (.lf true)
 (.lf (r131.2.aW != 0))) (λb132=>
 (jb (.cn b132
 (.bd (Bc L) λr134=>
 (.lf r134))
 (.lf false)) (λb133=>
 (lf b133)))))
 (jp (.cn (r120.2.aW == 0)
 (.lf (r131.2.aW == 0))
 (.lf false)) (λb135=>
 (cn b135
 (gq ((0+0)*256<=140737488355328)
 (gq (0+0<=maxLen)
 (bd (Cn L [] 0) λr136=>
 (gq ((0+r136.length)*256<=140737488355328)
 (gq (0+r136.length<=maxLen)
 (jb (.bd (Bi L [] r136) λr138=>
 (.lf r138)) (λb137=>
 (jb (.cn b137
 (.bd (Bc L) λr140=>
 (.lf r140))
 (.lf false)) (λb139=>
 (lf b139))))))))))
 (nq (nq (lf false)))))))
 (cn (r89.2.aW != 0)
 (jp (.cn (r120.2.aW != 0)
 (.lf true)
 (.lf false)) (λb141=>
 (jb (.cn b141
 (.bd (Bc L) λr143=>
 (.lf r143))
 (.lf false)) (λb142=>
 (lf b142)))))
 (jp (.cn (r120.2.aW == 0)
 (.lf true)
 (.lf false)) (λb144=>
 (cn b144
 (gq ((0+0)*256<=140737488355328)
 (gq (0+0<=maxLen)
 (bd (Cn L r131.1 0) λr145=>
 (gq ((0+r145.length)*256<=140737488355328)
 (gq (0+r145.length<=maxLen)
 (jb (.bd (Bi L [] r145) λr147=>
 (.lf r147)) (λb146=>
 (jb (.cn b146
 (.bd (Bc L) λr149=>
 (.lf r149))
 (.lf false)) (λb148=>
 (lf b148))))))))))
 (nq (nq (lf false))))))))))))))))
 (gq (0<=(Int.tmod (Bb (a2.a1)) (Bb ((((gD ((gD a0.aD a1).aA) (Int.tmod (Bb (a2.a0)) ((gD a0.aD a1).aA.length:Int))).aK).length:Int)+1))))
 (gq (((Int.tmod (Bb (a2.a1)) (Bb ((((gD ((gD a0.aD a1).aA) (Int.tmod (Bb (a2.a0)) ((gD a0.aD a1).aA.length:Int))).aK).length:Int)+1))):Int)<=(((gD ((gD a0.aD a1).aA) (Int.tmod (Bb (a2.a0)) ((gD a0.aD a1).aA.length:Int))).aK).length:Int))
 (gq (((((gD ((gD a0.aD a1).aA) (Int.tmod (Bb (a2.a0)) ((gD a0.aD a1).aA.length:Int))).aK).length:Int):Int)<=(((gD ((gD a0.aD a1).aA) (Int.tmod (Bb (a2.a0)) ((gD a0.aD a1).aA.length:Int))).aK).length:Int))
 (gq (((((gD ((gD a0.aD a1).aA) (Int.tmod (Bb (a2.a0)) ((gD a0.aD a1).aA.length:Int))).aK).length:Int):Int)<=(((gD ((gD a0.aD a1).aA) (Int.tmod (Bb (a2.a0)) ((gD a0.aD a1).aA.length:Int))).aK).length:Int))
 (bd (C0 L a0 a1 r6 ((((gD ((gD a0.aD a1).aA) (Int.tmod (Bb (a2.a0)) ((gD a0.aD a1).aA.length:Int))).aK).take (Int.toNat (((gD ((gD a0.aD a1).aA) (Int.tmod (Bb (a2.a0)) ((gD a0.aD a1).aA.length:Int))).aK).length:Int))).drop (Int.toNat (Int.tmod (Bb (a2.a1)) (Bb ((((gD ((gD a0.aD a1).aA) (Int.tmod (Bb (a2.a0)) ((gD a0.aD a1).aA.length:Int))).aK).length:Int)+1)))))) λr150=>
 (cn (r150 != 0)
 (cn (r89.2.aW != 0)
 (nq (jb (.cn (r150 != 0)
 (.bd (Bc L) λr152=>
 (.lf r152))
 (.lf false)) (λb151=>
 (lf b151))))
 (nq (cn (r150 == 0)
 (gq ((0+r120.1.length)*256<=140737488355328)
 (gq (0+r120.1.length<=maxLen)
 (bd (Cn L [] (r120.1.length:Int)) λr153=>
 (gq ((r120.1.length+r153.length)*256<=140737488355328)
 (gq (r120.1.length+r153.length<=maxLen)
 (jb (.bd (Bi L [] (r120.1++r153)) λr155=>
 (.lf r155)) (λb154=>
 (jb (.cn b154
 (.bd (Bc L) λr157=>
 (.lf r157))
 (.lf false)) (λb156=>
 (lf b156))))))))))
 (nq (nq (lf false))))))
 (gi a1 a0.aD
 (bd (Au L (⟨a0,(⟨a0.aJ,r6,(gD a0.aD a1)⟩:Az),0⟩:Ab) ((((gD ((gD a0.aD a1).aA) (Int.tmod (Bb (a2.a0)) ((gD a0.aD a1).aA.length:Int))).aK).take (Int.toNat (((gD ((gD a0.aD a1).aA) (Int.tmod (Bb (a2.a0)) ((gD a0.aD a1).aA.length:Int))).aK).length:Int))).drop (Int.toNat (Int.tmod (Bb (a2.a1)) (Bb ((((gD ((gD a0.aD a1).aA) (Int.tmod (Bb (a2.a0)) ((gD a0.aD a1).aA.length:Int))).aK).length:Int)+1)))))) λr158=>
 (cn (r158.2.aW != 0)
 (cn (r89.2.aW != 0)
 (nq (jb (.cn (r158.2.aW != 0)
 (.bd (Bc L) λr160=>
 (.lf r160))
 (.lf false)) (λb159=>
 (lf b159))))
 (nq (cn (r158.2.aW == 0)
 (gq ((0+r120.1.length)*256<=140737488355328)
 (gq (0+r120.1.length<=maxLen)
 (bd (Cn L [] (r120.1.length:Int)) λr161=>
 (gq ((r120.1.length+r161.length)*256<=140737488355328)
 (gq (r120.1.length+r161.length<=maxLen)
 (jb (.bd (Bi L [] (r120.1++r161)) λr163=>
 (.lf r163)) (λb162=>
 (jb (.cn b162
 (.bd (Bc L) λr165=>
 (.lf r165))
 (.lf false)) (λb164=>
 (lf b164))))))))))
 (nq (nq (lf false))))))
 (cn (r89.2.aW != 0)
 (nq (nq (lf false)))
 (nq (gq ((0+r120.1.length)*256<=140737488355328)
 (gq (0+r120.1.length<=maxLen)
 (bd (Cn L r158.1 (r120.1.length:Int)) λr166=>
 (gq ((r120.1.length+r166.length)*256<=140737488355328)
 (gq (r120.1.length+r166.length<=maxLen)
 (jb (.bd (Bi L [] (r120.1++r166)) λr168=>
 (.lf r168)) (λb167=>
 (jb (.cn b167
 (.bd (Bc L) λr170=>
 (.lf r170))
 (.lf false)) (λb169=>
 (lf b169))))))))))))))))))))))))))))))
 (gq ((0:Int)<=0)
 (gq (0<=(Int.tmod (Bb (a2.a1)) (Bb ((((gD ((gD a0.aD a1).aA) (Int.tmod (Bb (a2.a0)) ((gD a0.aD a1).aA.length:Int))).aK).length:Int)+1))))
 (gq (((Int.tmod (Bb (a2.a1)) (Bb ((((gD ((gD a0.aD a1).aA) (Int.tmod (Bb (a2.a0)) ((gD a0.aD a1).aA.length:Int))).aK).length:Int)+1))):Int)<=(((gD ((gD a0.aD a1).aA) (Int.tmod (Bb (a2.a0)) ((gD a0.aD a1).aA.length:Int))).aK).length:Int))
 (gq (((((gD ((gD a0.aD a1).aA) (Int.tmod (Bb (a2.a0)) ((gD a0.aD a1).aA.length:Int))).aK).length:Int):Int)<=(((gD ((gD a0.aD a1).aA) (Int.tmod (Bb (a2.a0)) ((gD a0.aD a1).aA.length:Int))).aK).length:Int))
 (bd (C0 L a0 a1 r6 ((((gD ((gD a0.aD a1).aA) (Int.tmod (Bb (a2.a0)) ((gD a0.aD a1).aA.length:Int))).aK).take (Int.toNat (Int.tmod (Bb (a2.a1)) (Bb ((((gD ((gD a0.aD a1).aA) (Int.tmod (Bb (a2.a0)) ((gD a0.aD a1).aA.length:Int))).aK).length:Int)+1))))).drop 0)) λr171=>
 (cn (r171 != 0)
 (gq (0<=(Int.tmod (Bb (a2.a1)) (Bb ((((gD ((gD a0.aD a1).aA) (Int.tmod (Bb (a2.a0)) ((gD a0.aD a1).aA.length:Int))).aK).length:Int)+1))))
 (gq (((Int.tmod (Bb (a2.a1)) (Bb ((((gD ((gD a0.aD a1).aA) (Int.tmod (Bb (a2.a0)) ((gD a0.aD a1).aA.length:Int))).aK).length:Int)+1))):Int)<=(((gD ((gD a0.aD a1).aA) (Int.tmod (Bb (a2.a0)) ((gD a0.aD a1).aA.length:Int))).aK).length:Int))
 (gq (((((gD ((gD a0.aD a1).aA) (Int.tmod (Bb (a2.a0)) ((gD a0.aD a1).aA.length:Int))).aK).length:Int):Int)<=(((gD ((gD a0.aD a1).aA) (Int.tmod (Bb (a2.a0)) ((gD a0.aD a1).aA.length:Int))).aK).length:Int))
 (gq (((((gD ((gD a0.aD a1).aA) (Int.tmod (Bb (a2.a0)) ((gD a0.aD a1).aA.length:Int))).aK).length:Int):Int)<=(((gD ((gD a0.aD a1).aA) (Int.tmod (Bb (a2.a0)) ((gD a0.aD a1).aA.length:Int))).aK).length:Int))
 (bd (C0 L a0 a1 r6 ((((gD ((gD a0.aD a1).aA) (Int.tmod (Bb (a2.a0)) ((gD a0.aD a1).aA.length:Int))).aK).take (Int.toNat (((gD ((gD a0.aD a1).aA) (Int.tmod (Bb (a2.a0)) ((gD a0.aD a1).aA.length:Int))).aK).length:Int))).drop (Int.toNat (Int.tmod (Bb (a2.a1)) (Bb ((((gD ((gD a0.aD a1).aA) (Int.tmod (Bb (a2.a0)) ((gD a0.aD a1).aA.length:Int))).aK).length:Int)+1)))))) λr172=>
 (cn (r172 != 0)
 (jp (.cn (r171 == 0)
 (.lf (r172 == 0))
 (.lf false)) (λb173=>
 (cn b173
 (gq ((0+0)*256<=140737488355328)
 (gq (0+0<=maxLen)
 (bd (Cn L [] 0) λr174=>
 (gq ((0+r174.length)*256<=140737488355328)
 (gq (0+r174.length<=maxLen)
 (jb (.bd (Bi L r89.1 r174) λr176=>
 (.lf r176)) (λb175=>
 (jb (.cn b175
 (.bd (Bc L) λr178=>
 (.lf r178))
 (.lf false)) (λb177=>
 (lf b177))))))))))
 (nq (nq (lf false))))))
 (gi a1 a0.aD
 (bd (Au L (⟨a0,(⟨a0.aJ,r6,(gD a0.aD a1)⟩:Az),0⟩:Ab) ((((gD ((gD a0.aD a1).aA) (Int.tmod (Bb (a2.a0)) ((gD a0.aD a1).aA.length:Int))).aK).take (Int.toNat (((gD ((gD a0.aD a1).aA) (Int.tmod (Bb (a2.a0)) ((gD a0.aD a1).aA.length:Int))).aK).length:Int))).drop (Int.toNat (Int.tmod (Bb (a2.a1)) (Bb ((((gD ((gD a0.aD a1).aA) (Int.tmod (Bb (a2.a0)) ((gD a0.aD a1).aA.length:Int))).aK).length:Int)+1)))))) λr179=>
 (cn (r179.2.aW != 0)
 (jp (.cn (r171 == 0)
 (.lf (r179.2.aW == 0))
 (.lf false)) (λb180=>
 (cn b180
 (gq ((0+0)*256<=140737488355328)
 (gq (0+0<=maxLen)
 (bd (Cn L [] 0) λr181=>
 (gq ((0+r181.length)*256<=140737488355328)
 (gq (0+r181.length<=maxLen)
 (jb (.bd (Bi L r89.1 r181) λr183=>
 (.lf r183)) (λb182=>
 (jb (.cn b182
 (.bd (Bc L) λr185=>
 (.lf r185))
 (.lf false)) (λb184=>
 (lf b184))))))))))
 (nq (nq (lf false))))))
 (jp (.cn (r171 == 0)
 (.lf true)
 (.lf false)) (λb186=>
 (cn b186
 (gq ((0+0)*256<=140737488355328)
 (gq (0+0<=maxLen)
 (bd (Cn L r179.1 0) λr187=>
 (gq ((0+r187.length)*256<=140737488355328)
 (gq (0+r187.length<=maxLen)
 (jb (.bd (Bi L r89.1 r187) λr189=>
 (.lf r189)) (λb188=>
 (jb (.cn b188
 (.bd (Bc L) λr191=>
 (.lf r191))
 (.lf false)) (λb190=>
 (lf b190))))))))))
 (nq (nq (lf false)))))))))))))))
 (gi a1 a0.aD
 (bd (Au L (⟨a0,(⟨a0.aJ,r6,(gD a0.aD a1)⟩:Az),0⟩:Ab) ((((gD ((gD a0.aD a1).aA) (Int.tmod (Bb (a2.a0)) ((gD a0.aD a1).aA.length:Int))).aK).take (Int.toNat (Int.tmod (Bb (a2.a1)) (Bb ((((gD ((gD a0.aD a1).aA) (Int.tmod (Bb (a2.a0)) ((gD a0.aD a1).aA.length:Int))).aK).length:Int)+1))))).drop 0)) λr192=>
 (cn (r192.2.aW != 0)
 (gq (0<=(Int.tmod (Bb (a2.a1)) (Bb ((((gD ((gD a0.aD a1).aA) (Int.tmod (Bb (a2.a0)) ((gD a0.aD a1).aA.length:Int))).aK).length:Int)+1))))
 (gq (((Int.tmod (Bb (a2.a1)) (Bb ((((gD ((gD a0.aD a1).aA) (Int.tmod (Bb (a2.a0)) ((gD a0.aD a1).aA.length:Int))).aK).length:Int)+1))):Int)<=(((gD ((gD a0.aD a1).aA) (Int.tmod (Bb (a2.a0)) ((gD a0.aD a1).aA.length:Int))).aK).length:Int))
 (gq (((((gD ((gD a0.aD a1).aA) (Int.tmod (Bb (a2.a0)) ((gD a0.aD a1).aA.length:Int))).aK).length:Int):Int)<=(((gD ((gD a0.aD a1).aA) (Int.tmod (Bb (a2.a0)) ((gD a0.aD a1).aA.length:Int))).aK).length:Int))
 (gq (((((gD ((gD a0.aD a1).aA) (Int.tmod (Bb (a2.a0)) ((gD a0.aD a1).aA.length:Int))).aK).length:Int):Int)<=(((gD ((gD a0.aD a1).aA) (Int.tmod (Bb (a2.a0)) ((gD a0.aD a1).aA.length:Int))).aK).length:Int))
 (bd (C0 L a0 a1 r6 ((((gD ((gD a0.aD a1).aA) (Int.tmod (Bb (a2.a0)) ((gD a0.aD a1).aA.length:Int))).aK).take (Int.toNat (((gD ((gD a0.aD a1).aA) (Int.tmod (Bb (a2.a0)) ((gD a0.aD a1).aA.length:Int))).aK).length:Int))).drop (Int.toNat (Int.tmod (Bb (a2.a1)) (Bb ((((gD ((gD a0.aD a1).aA) (Int.tmod (Bb (a2.a0)) ((gD a0.aD a1).aA.length:Int))).aK).length:Int)+1)))))) λr193=>
 (cn (r193 != 0)
 (jp (.cn (r192.2.aW == 0)
 (.lf (r193 == 0))
 (.lf false)) (λb194=>
 (cn b194
 (gq ((0+0)*256<=140737488355328)
 (gq (0+0<=maxLen)
 (bd (Cn L [] 0) λr195=>
 (gq ((0+r195.length)*256<=140737488355328)
 (gq (0+r195.length<=maxLen)
 (jb (.bd (Bi L r89.1 r195) λr197=>
 (.lf r197)) (λb196=>
 (jb (.cn b196
 (.bd (Bc L) λr199=>
 (.lf r199))
 (.lf false)) (λb198=>
 (lf b198))))))))))
 (nq (nq (lf false))))))
 (gi a1 a0.aD
 (bd (Au L (⟨a0,(⟨a0.aJ,r6,(gD a0.aD a1)⟩:Az),0⟩:Ab) ((((gD ((gD a0.aD a1).aA) (Int.tmod (Bb (a2.a0)) ((gD a0.aD a1).aA.length:Int))).aK).take (Int.toNat (((gD ((gD a0.aD a1).aA) (Int.tmod (Bb (a2.a0)) ((gD a0.aD a1).aA.length:Int))).aK).length:Int))).drop (Int.toNat (Int.tmod (Bb (a2.a1)) (Bb ((((gD ((gD a0.aD a1).aA) (Int.tmod (Bb (a2.a0)) ((gD a0.aD a1).aA.length:Int))).aK).length:Int)+1)))))) λr200=>
 (cn (r200.2.aW != 0)
 (jp (.cn (r192.2.aW == 0)
 (.lf (r200.2.aW == 0))
 (.lf false)) (λb201=>
 (cn b201
 (gq ((0+0)*256<=140737488355328)
 (gq (0+0<=maxLen)
 (bd (Cn L [] 0) λr202=>
 (gq ((0+r202.length)*256<=140737488355328)
 (gq (0+r202.length<=maxLen)
 (jb (.bd (Bi L r89.1 r202) λr204=>
 (.lf r204)) (λb203=>
 (jb (.cn b203
 (.bd (Bc L) λr206=>
 (.lf r206))
 (.lf false)) (λb205=>
 (lf b205))))))))))
 (nq (nq (lf false))))))
 (jp (.cn (r192.2.aW == 0)
 (.lf true)
 (.lf false)) (λb207=>
 (cn b207
 (gq ((0+0)*256<=140737488355328)
 (gq (0+0<=maxLen)
 (bd (Cn L r200.1 0) λr208=>
 (gq ((0+r208.length)*256<=140737488355328)
 (gq (0+r208.length<=maxLen)
 (jb (.bd (Bi L r89.1 r208) λr210=>
 (.lf r210)) (λb209=>
 (jb (.cn b209
 (.bd (Bc L) λr212=>
 (.lf r212))
 (.lf false)) (λb211=>
 (lf b211))))))))))
 (nq (nq (lf false)))))))))))))))
 (gq (0<=(Int.tmod (Bb (a2.a1)) (Bb ((((gD ((gD a0.aD a1).aA) (Int.tmod (Bb (a2.a0)) ((gD a0.aD a1).aA.length:Int))).aK).length:Int)+1))))
 (gq (((Int.tmod (Bb (a2.a1)) (Bb ((((gD ((gD a0.aD a1).aA) (Int.tmod (Bb (a2.a0)) ((gD a0.aD a1).aA.length:Int))).aK).length:Int)+1))):Int)<=(((gD ((gD a0.aD a1).aA) (Int.tmod (Bb (a2.a0)) ((gD a0.aD a1).aA.length:Int))).aK).length:Int))
 (gq (((((gD ((gD a0.aD a1).aA) (Int.tmod (Bb (a2.a0)) ((gD a0.aD a1).aA.length:Int))).aK).length:Int):Int)<=(((gD ((gD a0.aD a1).aA) (Int.tmod (Bb (a2.a0)) ((gD a0.aD a1).aA.length:Int))).aK).length:Int))
 (gq (((((gD ((gD a0.aD a1).aA) (Int.tmod (Bb (a2.a0)) ((gD a0.aD a1).aA.length:Int))).aK).length:Int):Int)<=(((gD ((gD a0.aD a1).aA) (Int.tmod (Bb (a2.a0)) ((gD a0.aD a1).aA.length:Int))).aK).length:Int))
 (bd (C0 L a0 a1 r6 ((((gD ((gD a0.aD a1).aA) (Int.tmod (Bb (a2.a0)) ((gD a0.aD a1).aA.length:Int))).aK).take (Int.toNat (((gD ((gD a0.aD a1).aA) (Int.tmod (Bb (a2.a0)) ((gD a0.aD a1).aA.length:Int))).aK).length:Int))).drop (Int.toNat (Int.tmod (Bb (a2.a1)) (Bb ((((gD ((gD a0.aD a1).aA) (Int.tmod (Bb (a2.a0)) ((gD a0.aD a1).aA.length:Int))).aK).length:Int)+1)))))) λr213=>
 (cn (r213 != 0)
 (nq (cn (r213 == 0)
 (gq ((0+r192.1.length)*256<=140737488355328)
 (gq (0+r192.1.length<=maxLen)
 (bd (Cn L [] (r192.1.length:Int)) λr214=>
 (gq ((r192.1.length+r214.length)*256<=140737488355328)
 (gq (r192.1.length+r214.length<=maxLen)
 (jb (.bd (Bi L r89.1 (r192.1++r214)) λr216=>
 (.lf r216)) (λb215=>
 (jb (.cn b215
 (.bd (Bc L) λr218=>
 (.lf r218))
 (.lf false)) (λb217=>
 (lf b217))))))))))
 (nq (nq (lf false)))))
 (gi a1 a0.aD
 (bd (Au L (⟨a0,(⟨a0.aJ,r6,(gD a0.aD a1)⟩:Az),0⟩:Ab) ((((gD ((gD a0.aD a1).aA) (Int.tmod (Bb (a2.a0)) ((gD a0.aD a1).aA.length:Int))).aK).take (Int.toNat (((gD ((gD a0.aD a1).aA) (Int.tmod (Bb (a2.a0)) ((gD a0.aD a1).aA.length:Int))).aK).length:Int))).drop (Int.toNat (Int.tmod (Bb (a2.a1)) (Bb ((((gD ((gD a0.aD a1).aA) (Int.tmod (Bb (a2.a0)) ((gD a0.aD a1).aA.length:Int))).aK).length:Int)+1)))))) λr219=>
 (cn (r219.2.aW != 0)
 (nq (cn (r219.2.aW == 0)
 (gq ((0+r192.1.length)*256<=140737488355328)
 (gq (0+r192.1.length<=maxLen)
 (bd (Cn L [] (r192.1.length:Int)) λr220=>
 (gq ((r192.1.length+r220.length)*256<=140737488355328)
 (gq (r192.1.length+r220.length<=maxLen)
 (jb (.bd (Bi L r89.1 (r192.1++r220)) λr222=>
 (.lf r222)) (λb221=>
 (jb (.cn b221
 (.bd (Bc L) λr224=>
 (.lf r224))
 (.lf false)) (λb223=>
 (lf b223))))))))))
 (nq (nq (lf false)))))
 (nq (gq ((0+r192.1.length)*256<=140737488355328)
 (gq (0+r192.1.length<=maxLen)
 (bd (Cn L r219.1 (r192.1.length:Int)) λr225=>
 (gq ((r192.1.length+r225.length)*256<=140737488355328)
 (gq (r192.1.length+r225.length<=maxLen)
 (jb (.bd (Bi L r89.1 (r192.1++r225)) λr227=>
 (.lf r227)) (λb226=>
 (jb (.cn b226
 (.bd (Bc L) λr229=>
 (.lf r229))
 (.lf false)) (λb228=>
 (lf b228)))))))))))))))))))))))))))))))))))
 fl))
 fl)))))))))))
def Ac7(a0:Ag)(a1:Int)(a2:Ac6):Option Bool:=R1 L a0 a1 a2
theorem h4(a0:Ag)(a1:Int)(a2:Ac6)(r:Bool)(h:Ac7 L a0 a1 a2=some r):Yi Tryz.prog 4 [.agg (Br a0),I a1,.agg (Amu a2)] (B r):=(show Ho Tryz.prog 4 [.agg (Br a0),I a1,.agg (Amu a2)] B r from hF Tryz.func4 (oS [X6 L,X7 L,X11 L,X13 L,X14 L,X30 L,X31 L]) L (λkk=>eE (R1 L a0 a1 a2)) h)
end
end Go.Proofs.YtgacplpjamkieaaGreat.Ev
