import Derived.Test.YtckmlfboedljeaaDoorG1
import Derived.Test.YtckmlfboedljeaaDoorG2
import Derived.Test.YtckmlfboedljeaaDoorG3
import Derived.Test.YtckmlfboedljeaaDoorG4
import Derived.Test.YtckmlfboedljeaaDoorG5
import Derived.Test.YtckmlfboedljeaaDoorG6
import Derived.Test.YtckmlfboedljeaaDoorG7
namespace Go.Proofs.YtckmlfboedljeaaDoor.Ev
open Go An
set_option maxRecDepth 100000
set_option maxHeartbeats 4000000
set_option linter.unusedVariables false
set_option linter.unusedSimpArgs false
set_option linter.unnecessarySimpa false
noncomputable section
variable {A:Type} (L n:Nat) (kk:R5) (K:Bu) (k:Tv)
def Bs(L:Nat):Option Bool:=some true
def oA8:Aq:=orN [(59,X59 100),(60,X60 100),(28,X28 100),(86,X86 100),(66,X66 100),(84,X84 100),(85,X85 100),(65,X65 100),(99,X99 100),(98,X98 100),(91,X91 100),(80,X80 100),(81,X81 100),(82,X82 100),(55,X55 100),(22,X22 100),(63,X63 100),(90,X90 100),(83,X83 100),(64,X64 100),(87,X87 100),(67,X67 100),(58,X58 100),(88,X88 100),(97,X97 100),(89,X89 100),(68,X68 100),(69,X69 100),(70,X70 100),(71,X71 100),(37,X37 100),(34,X34 100),(36,X36 100),(40,X40 100),(16,X16 100),(7,X7 100),(9,X9 100),(62,X62 100),(47,X47 100),(75,X75 100),(76,X76 100),(77,X77 100),(45,X45 100),(61,X61 100),(31,X31 100),(10,X10 100),(32,X32 100),(11,X11 100),(46,X46 100),(44,X44 100),(54,X54 100),(53,X53 100),(78,X78 100),(51,X51 100),(56,X56 100),(49,X49 100),(57,X57 100),(23,X23 100),(52,X52 100),(21,X21 100),(12,X12 100),(13,X13 100),(14,X14 100),(18,X18 100),(15,X15 100)]
def iA8:Nat→Bool:=fun f=>inL f [26,27,29,30,33,35,38,39,93,94,1102465827296,1102465827297,1102465827302,1102466745200,1102469137828,1102476312640,2199023255576,4398046511134,1099915002060]
def nA8:Nat→Bool:=fun f=>inL f [59,60,28,86,66,84,85,65,99,98,91,80,81,82,55,22,63,90,83,64,87,67,58,88,97,89,68,69,70,71,37,34,36,40,16,7,9,62,47,75,76,77,45,61,31,10,32,11,46,44,54,53,78,51,56,49,57,23,52,21,12,13,14,18,15]
def X8(L:Nat):Hy:=E0 B 8 (Bs L) fun r h=>by
 injection h with h
 subst h
 exact Ak0 (inl:=iA8) (nb:=nA8) (base:=oA8) At4 Abh (Ale _ (by kernel_rfl)) 100 9 40 (fun kk=>by kernel_rfl)
def L7 [An A Bool](a0:List Ab)(a1:Int)(a2:Aa):A:=
 (bd (H1 L a0) fun r1=>
 (cn (!r1)
 (bd (Bs L) fun r2=>
 (lf r2))
 (bd (N9 L a0 a1 a2) fun r3=>
 (bd (U3 L a0 a1 a2) fun r4=>
 (bd (Hm L a0) fun r5=>
 (bd (Sq L a0) fun r6=>
 (bd (Oa L a1) fun r7=>
 (bd (U4 L a1) fun r8=>
 (bd (M6 L r3.1 r4.1) fun r9=>
 (jp (.cn r9
 (.lf (r3.2 == r4.2))
 (.lf false)) (fun b10=>
 (jp (.cn b10
 (.lf (r5.1 == r6.1))
 (.lf false)) (fun b11=>
 (jp (.cn b11
 (.lf (r5.2 == r6.2))
 (.lf false)) (fun b12=>
 (jb (.cn b12
 (.bd (M6 L r7.1 r8.1) fun r14=>
 (.lf r14))
 (.lf false)) (fun b13=>
 (jp (.cn b13
 (.lf (r7.2 == r8.2))
 (.lf false)) (fun b15=>
 (jb (.cn b15
 (.bd (Bs L) fun r17=>
 (.lf r17))
 (.lf false)) (fun b16=>
 (lf b16))))))))))))))))))))))
def L2(a0:List Ab)(a1:Int)(a2:Aa):Option Bool:=L7 L a0 a1 a2
theorem h3(a0:List Ab)(a1:Int)(a2:Aa)(r:Bool)(h:L2 L a0 a1 a2=some r):Jy Tryd.prog 3 [lv (.t39 a0),I a1,.agg (Al a2)] (B r):=(show Ho Tryd.prog 3 [lv (.t39 a0),I a1,.agg (Al a2)] B r from hF Tryd.func3 (oS [X7 L,X8 L,X9 L,X10 L,X11 L,X12 L,X13 L,X14 L,X15 L]) L (fun kk=>eE (L7 L a0 a1 a2)) h)
end
end Go.Proofs.YtckmlfboedljeaaDoor.Ev
