import Derived.Test.YtogleahbpobaiaaGreatG1
import Derived.Test.YtogleahbpobaiaaGreatG2
import Derived.Test.YtogleahbpobaiaaGreatG3
import Derived.Test.YtogleahbpobaiaaGreatG4
import Derived.Test.YtogleahbpobaiaaGreatG5
import Derived.Test.YtogleahbpobaiaaGreatG6
import Derived.Test.YtogleahbpobaiaaGreatG7
import Derived.Test.YtogleahbpobaiaaGreatG8
import Derived.Test.YtogleahbpobaiaaGreatG9
import Derived.Test.YtogleahbpobaiaaGreatG10
import Derived.Test.YtogleahbpobaiaaGreatG11
import Derived.Test.YtogleahbpobaiaaGreatG12
import Derived.Test.YtogleahbpobaiaaGreatG13
namespace Go.Proofs.YtogleahbpobaiaaGreat.Ev
open Go An
set_option maxRecDepth 100000
set_option maxHeartbeats 4000000
set_option linter.unusedVariables false
set_option linter.unusedSimpArgs false
set_option linter.unnecessarySimpa false
variable {A:Type} (L n:Nat) (kk:Ct) (K:Be) (k:Bx)
def Ajd(L:Nat):Option Bool:=some true
def oA6:Bk:=orN [(5,X5 100),(23,X23 100),(11,X11 100),(69,X69 100),(70,X70 100),(39,X39 100),(146,Bvt 100),(157,Bvv 100),(80,X80 100),(147,Bvu 100),(81,X81 100),(180,Cbv 100),(148,B2t 100),(141,B2p 100),(149,B2u 100),(181,Cbw 100),(182,Cbx 100),(150,B2v 100),(82,X82 100),(151,Cbg 100),(55,X55 100),(56,X56 100),(121,B2j 100),(171,Cbp 100),(122,B2k 100),(59,X59 100),(60,X60 100),(177,B2y 100),(176,Cbs 100),(196,B22 100),(178,Cbt 100),(179,Cbu 100),(132,B2o 100),(61,X61 100),(30,X30 100),(16,X16 100),(123,B2l 100),(57,X57 100),(28,X28 100),(97,X97 100),(130,Bm7 100),(101,Ca3 100),(156,Cbh 100),(103,Ca4 100),(44,X44 100),(106,B2g 100),(45,X45 100),(24,X24 100),(20,X20 100),(9,X9 100),(62,X62 100),(32,X32 100),(31,X31 100),(63,X63 100),(33,X33 100),(34,X34 100),(17,X17 100),(7,X7 100),(127,Bpg 100),(124,Cbc 100),(126,B2m 100),(172,Cbq 100),(125,Cbd 100),(128,Cbe 100),(173,Cbr 100),(131,B2n 100),(129,Cbf 100),(58,X58 100),(29,X29 100),(15,X15 100),(12,X12 100),(107,Ca5 100),(160,Cbi 100),(111,Bm6 100),(108,Ca6 100),(47,X47 100),(48,X48 100),(46,X46 100),(50,X50 100),(109,Bvp 100),(144,Bph 100),(117,Bcb 100),(110,Bvq 100),(49,X49 100),(112,Bvs 100),(186,Cby 100),(199,Cb3 100),(187,B2z 100),(200,Cb5 100),(201,B23 100),(202,Cb6 100),(188,B20 100),(161,Cbj 100),(118,Cba 100),(189,B21 100),(203,Cb7 100),(190,Cbz 100),(64,X64 100),(65,X65 100),(142,B2q 100),(143,B2r 100),(145,B2s 100),(66,X66 100),(35,X35 100),(18,X18 100),(191,Cb0 100),(165,B2x 100),(119,Cbb 100),(53,X53 100),(162,Cbk 100),(113,Ca7 100),(163,B2w 100),(114,Ca8 100),(67,X67 100),(164,Cbl 100),(115,Ca9 100),(51,X51 100),(116,B2h 100),(52,X52 100),(25,X25 100),(27,X27 100),(166,Cbm 100),(21,X21 100),(22,X22 100),(10,X10 100),(36,X36 100),(68,X68 100),(37,X37 100),(38,X38 100),(19,X19 100),(8,X8 100),(168,Bvw 100),(167,Cbn 100),(192,Cb1 100),(193,Cb2 100),(169,Cbo 100),(120,B2i 100),(54,X54 100),(26,X26 100),(13,X13 100)]
def nA6:Nat→Bool:=fun f=>inL f [5,23,11,69,70,39,146,157,80,147,81,180,148,141,149,181,182,150,82,151,55,56,121,171,122,59,60,177,176,196,178,179,132,61,30,16,123,57,28,97,130,101,156,103,44,106,45,24,20,9,62,32,31,63,33,34,17,7,127,124,126,172,125,128,173,131,129,58,29,15,12,107,160,111,108,47,48,46,50,109,144,117,110,49,112,186,199,187,200,201,202,188,161,118,189,203,190,64,65,142,143,145,66,35,18,191,165,119,53,162,113,163,114,67,164,115,51,116,52,25,27,166,21,22,10,36,68,37,38,19,8,168,167,192,193,169,120,54,26,13]
def X6(L:Nat):Gk:=E0 B 6 (Ajd L) fun r h=>by
 injection h with h
 subst h
 exact Bnw (inl:=inl) (nb:=nA6) (base:=oA6) B06 mixed (Bn8 _ (by kernel_rfl)) 100 9 40 (fun kk=>by kernel_rfl)
def Z9 [An A Bool](a0:Ad):A:=
 (bd (Arp L a0) fun r1=>
 (cn (!r1)
 (bd (Ajd L) fun r2=>
 (lf r2))
 (bd (s9 L a0) fun r3=>
 (bd (Ajk L a0) fun r4=>
 (cn (r3 == r4)
 (bd (Ajd L) fun r5=>
 (lf r5))
 (lf false))))))
def Z5(a0:Ad):Option Bool:=Z9 L a0
theorem h4(a0:Ad)(r:Bool)(h:Z5 L a0=some r):I0 Tryz.prog 4 [.agg (Az a0)] (B r):=(show Ho Tryz.prog 4 [.agg (Az a0)] B r from hF Tryz.func4 (oS [X6 L,X11 L,X12 L,X13 L]) L (fun kk=>eE (Z9 L a0)) h)
end Go.Proofs.YtogleahbpobaiaaGreat.Ev
