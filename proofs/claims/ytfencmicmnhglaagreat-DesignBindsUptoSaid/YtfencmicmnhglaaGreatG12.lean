import Derived.Test.YtfencmicmnhglaaGreatG1
import Derived.Test.YtfencmicmnhglaaGreatG2
import Derived.Test.YtfencmicmnhglaaGreatG3
import Derived.Test.YtfencmicmnhglaaGreatG4
import Derived.Test.YtfencmicmnhglaaGreatG5
import Derived.Test.YtfencmicmnhglaaGreatG6
import Derived.Test.YtfencmicmnhglaaGreatG7
import Derived.Test.YtfencmicmnhglaaGreatG8
import Derived.Test.YtfencmicmnhglaaGreatG9
import Derived.Test.YtfencmicmnhglaaGreatG10
import Derived.Test.YtfencmicmnhglaaGreatG11
namespace Go.Proofs.YtfencmicmnhglaaGreat.Ev
open Go An
set_option maxRecDepth 100000
set_option maxHeartbeats 4000000
set_option linter.unusedVariables false
set_option linter.unusedSimpArgs false
set_option linter.unnecessarySimpa false
noncomputable section
variable {A:Type} (L n:Nat) (kk:Il) (K:Br) (k:Bn)
def Acx(L:Nat):Option Bool:=some true
def oA7:Bq:=orN [(5,X5 100),(41,X41 100),(16,X16 100),(6,X6 100),(80,X80 100),(81,X81 100),(60,X60 100),(135,Biy 100),(59,X59 100),(91,X91 100),(136,Biz 100),(92,X92 100),(171,Bwq 100),(137,Bp4 100),(172,Bqc 100),(138,Bp5 100),(173,Bwr 100),(174,Bws 100),(139,Bp6 100),(93,X93 100),(140,Bwk 100),(118,Bwh 100),(119,Bwi 100),(149,Bp7 100),(181,Bwt 100),(150,Bp8 100),(215,Bw0 100),(216,Bw1 100),(238,Bqk 100),(237,Bw3 100),(244,Bql 100),(239,Bw4 100),(240,Bw5 100),(232,Bqi 100),(217,Bw2 100),(202,Bwx 100),(182,Bqd 100),(151,Bp9 100),(120,Bwj 100),(67,X67 100),(108,Bwe 100),(141,Bbn 100),(112,Bwf 100),(146,Bwl 100),(114,Bwg 100),(65,X65 100),(117,Bp2 100),(66,X66 100),(43,X43 100),(183,Bdu 100),(224,Bqe 100),(203,Bwy 100),(185,Bi0 100),(225,Bqf 100),(233,Bqj 100),(226,Bqg 100),(227,Bqh 100),(204,Bwz 100),(186,Bwv 100),(155,Bdt 100),(152,Bwm 100),(154,Bqa 100),(184,Bwu 100),(153,Bwn 100),(156,Bwo 100),(187,Bww 100),(158,Bqb 100),(157,Bwp 100),(121,Bp3 100),(68,X68 100),(44,X44 100),(24,X24 100),(46,X46 100),(29,X29 100),(52,X52 100),(54,X54 100),(53,X53 100),(32,X32 100),(10,X10 100),(8,X8 100),(34,X34 100),(12,X12 100),(35,X35 100),(13,X13 100),(40,X40 100),(14,X14 100),(15,X15 100)]
def iA7:Nat→Bool:=fun f=>inL f [25,26,27,28,36,37,38,39,45,57,58,61,62,63,64,82,83,84,85,86,87,88,89,90,94,95,96,97,98,99,100,101,102,103,104,105,106,107,109,110,111,113,115,116,142,143,144,145,147,148,175,176,177,178,179,180,199,200,201,205,206,214,218,219,220,221,222,223,36,1102476312640,1103003124228,42, 1103140979177, 1104221143104]
def nA7:Nat→Bool:=fun f=>inL f [5,41,16,6,80,81,60,135,59,91,136,92,171,137,172,138,173,174,139,93,140,118,119,149,181,150,215,216,238,237,244,239,240,232,217,202,182,151,120,67,108,141,112,146,114,65,117,66,43,183,224,203,185,225,233,226,227,204,186,155,152,154,184,153,156,187,158,157,121,68,44,24,46,29,52,54,53,32,10,8,34,12,35,13,40,14,15]
def X7(L:Nat):N2:=E0 B 7 (Acx L) fun r h=>by
 injection h with h
 subst h
 exact Bcb (inl:=iA7) (nb:=nA7) (base:=oA7) Boj mixed (Bcl _ (by kernel_rfl)) 100 9 40 (fun kk=>by kernel_rfl)
def Yd [An A Bool](a0:Ad)(a1:List Af)(a2:Int)(a3:Int):A:=
 (bd (Acy L a1) fun r1=>
 (jb (.cn (!r1)
 (.lf true)
 (.bd (Afr L a0) fun r3=>
 (.lf (decide (r3 > 3000))))) (fun b2=>
 (jb (.cn b2
 (.lf true)
 (.bd (Xx L a0 a1) fun r5=>
 (.lf (r5 != 0)))) (fun b4=>
 (cn b4
 (bd (Acx L) fun r6=>
 (lf r6))
 (bd (Py L a1) fun r7=>
 (jp (.cn (decide (r7 < 1))
 (.lf true)
 (.lf (decide (r7 > 200)))) (fun b8=>
 (cn b8
 (lf false)
 (cn (!decide (r7=0))
 (cn (!decide (r7=0))
 (bd (Tv L a1 (Int.tmod (Dp (a2)) r7)) fun r9=>
 (bd (Tv L a1 (Int.tmod (Dp (a3)) r7)) fun r10=>
 (bd (Og L a1 r9.1) fun r11=>
 (bd (Og L a1 r10.1) fun r12=>
 (bd (Abi L a0 r11.1) fun r13=>
 (jp (.cn (r9.2 == 0)
 (.lf (r10.2 == 0))
 (.lf false)) (fun b14=>
 (jp (.cn b14
 (.lf (r11.2 == 0))
 (.lf false)) (fun b15=>
 (jp (.cn b15
 (.lf (r12.2 == 0))
 (.lf false)) (fun b16=>
 (jp (.cn b16
 (.lf (r13.2 == 0))
 (.lf false)) (fun b17=>
 (jb (.cn b17
 (.bd (Rl L r11.1 r12.1) fun r19=>
 (.lf (r19 == ((Int.tmod (Dp (a2)) r7) == (Int.tmod (Dp (a3)) r7)))))
 (.lf false)) (fun b18=>
 (jb (.cn b18
 (.bd (Acx L) fun r21=>
 (.lf r21))
 (.lf false)) (fun b20=>
 (lf b20))))))))))))))))))
 fl)
 fl)))))))))))
def Xw(a0:Ad)(a1:List Af)(a2:Int)(a3:Int):Option Bool:=Yd L a0 a1 a2 a3
theorem h4(a0:Ad)(a1:List Af)(a2:Int)(a3:Int)(r:Bool)(h:Xw L a0 a1 a2 a3=some r):Ij Tryz.prog 4 [.agg (Ar a0),lv (.t46 a1),V .u8 a2,V .u8 a3] (B r):=(show Ho Tryz.prog 4 [.agg (Ar a0),lv (.t46 a1),V .u8 a2,V .u8 a3] B r from hF Tryz.func4 (oS [X5 L,X6 L,X7 L,X8 L,X10 L,X12 L,X13 L,X14 L,X15 L]) L (fun kk=>eE (Yd L a0 a1 a2 a3)) h)
end
end Go.Proofs.YtfencmicmnhglaaGreat.Ev
