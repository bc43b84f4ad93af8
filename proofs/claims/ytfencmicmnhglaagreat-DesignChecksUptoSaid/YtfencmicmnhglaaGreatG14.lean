import Derived.Test.YtfencmicmnhglaaGreatG1
import Derived.Test.YtfencmicmnhglaaGreatG2
import Derived.Test.YtfencmicmnhglaaGreatG3
import Derived.Test.YtfencmicmnhglaaGreatG4
import Derived.Test.YtfencmicmnhglaaGreatG5
import Derived.Test.YtfencmicmnhglaaGreatG6
import Derived.Test.YtfencmicmnhglaaGreatG7
import Derived.Test.YtfencmicmnhglaaGreatG8
import Derived.Test.YtfencmicmnhglaaGreatG9
import Derived.Test.YtfencmicmnhglaaGreatG10
import Derived.Test.YtfencmicmnhglaaGreatG11
import Derived.Test.YtfencmicmnhglaaGreatG12
import Derived.Test.YtfencmicmnhglaaGreatG13
namespace Go.Proofs.YtfencmicmnhglaaGreat.Ev
open Go An
set_option maxRecDepth 100000
set_option maxHeartbeats 4000000
set_option linter.unusedVariables false
set_option linter.unusedSimpArgs false
set_option linter.unnecessarySimpa false
noncomputable section
variable {A:Type} (L n:Nat) (kk:Dm) (K:Be) (k:Bx)
def Akt(L:Nat):Option Bool:=some true
def oA7:Bi:=orN [(5,X5 100),(41,X41 100),(16,X16 100),(6,X6 100),(80,X80 100),(81,X81 100),(60,X60 100),(135,Bz9 100),(59,X59 100),(91,X91 100),(136,B0a 100),(92,X92 100),(171,Ch4 100),(137,B9n 100),(172,B9x 100),(138,B9o 100),(173,Ch5 100),(174,Ch6 100),(139,B9p 100),(93,X93 100),(140,Chr 100),(118,Chg 100),(119,Chh 100),(149,B9q 100),(181,Ch7 100),(150,B9r 100),(215,Cip 100),(216,Ciq 100),(238,Cae 100),(237,Ciw 100),(244,Cai 100),(239,Cix 100),(240,Ciy 100),(232,Cac 100),(217,Cir 100),(202,Cih 100),(182,B9y 100),(151,B9s 100),(120,Chi 100),(67,X67 100),(108,Chd 100),(141,Bsn 100),(112,Che 100),(146,Chs 100),(114,Chf 100),(65,X65 100),(117,B9j 100),(66,X66 100),(43,X43 100),(183,Bu1 100),(224,B95 100),(203,Cii 100),(185,B0d 100),(225,B96 100),(233,Cad 100),(226,B97 100),(227,B98 100),(204,Cij 100),(186,Ch9 100),(155,Buz 100),(152,Cht 100),(154,B9t 100),(184,Ch8 100),(153,Chu 100),(156,Chv 100),(187,Cia 100),(158,B9u 100),(157,Chw 100),(121,B9k 100),(68,X68 100),(44,X44 100),(24,X24 100),(46,X46 100),(29,X29 100),(52,X52 100),(54,X54 100),(53,X53 100),(32,X32 100),(10,X10 100),(8,X8 100),(122,Chj 100),(159,Chx 100),(125,Bsm 100),(123,Chk 100),(70,X70 100),(71,X71 100),(69,X69 100),(73,X73 100),(124,Bz7 100),(78,X78 100),(79,X79 100),(51,X51 100),(72,X72 100),(126,Bz8 100),(188,Cib 100),(207,Cik 100),(189,B9z 100),(208,Cil 100),(209,B93 100),(210,Cim 100),(190,B90 100),(160,Chy 100),(131,Cho 100),(132,Chp 100),(191,B91 100),(211,Cin 100),(192,Cic 100),(234,Cit 100),(241,Caf 100),(242,Cag 100),(243,Cah 100),(235,Ciu 100),(228,Cis 100),(212,B94 100),(193,Cid 100),(164,B9w 100),(133,Chq 100),(76,X76 100),(161,Chz 100),(127,Chl 100),(162,B9v 100),(128,Chm 100),(166,Bu0 100),(163,Ch0 100),(129,Chn 100),(74,X74 100),(130,B9l 100),(75,X75 100),(47,X47 100),(49,X49 100),(165,Ch1 100),(169,B0c 100),(194,B92 100),(236,Civ 100),(229,B99 100),(195,B0e 100),(230,Caa 100),(231,Cab 100),(213,Cio 100),(196,Cie 100),(168,B0b 100),(167,Ch2 100),(197,Cif 100),(198,Cig 100),(170,Ch3 100),(134,B9m 100),(77,X77 100),(48,X48 100),(30,X30 100),(50,X50 100),(31,X31 100),(55,X55 100),(56,X56 100),(33,X33 100),(11,X11 100),(9,X9 100)]
def iA7:Nat→Bool:=fun f=>inL f [25,26,27,28,36,37,38,39,45,57,58,61,62,63,64,82,83,84,85,86,87,88,89,90,94,95,96,97,98,99,100,101,102,103,104,105,106,107,109,110,111,113,115,116,142,143,144,145,147,148,175,176,177,178,179,180,199,200,201,205,206,214,218,219,220,221,222,223,42, 1103140979177, 1104221143104]
def nA7:Nat→Bool:=fun f=>inL f [5,41,16,6,80,81,60,135,59,91,136,92,171,137,172,138,173,174,139,93,140,118,119,149,181,150,215,216,238,237,244,239,240,232,217,202,182,151,120,67,108,141,112,146,114,65,117,66,43,183,224,203,185,225,233,226,227,204,186,155,152,154,184,153,156,187,158,157,121,68,44,24,46,29,52,54,53,32,10,8,122,159,125,123,70,71,69,73,124,78,79,51,72,126,188,207,189,208,209,210,190,160,131,132,191,211,192,234,241,242,243,235,228,212,193,164,133,76,161,127,162,128,166,163,129,74,130,75,47,49,165,169,194,236,229,195,230,231,213,196,168,167,197,198,170,134,77,48,30,50,31,55,56,33,11,9]
def X7(L:Nat):Gh:=E0 B 7 (Akt L) fun r h=>by
 injection h with h
 subst h
 exact Btf (inl:=iA7) (nb:=nA7) (base:=oA7) B7i mixed (Btr _ (by kernel_rfl)) 100 9 40 (fun kk=>by kernel_rfl)
def Aad [An A Bool](a0:Ad)(a1:List Ah):A:=
 (bd (Aku L a1) fun r1=>
 (jb (.cn (!r1)
 (.lf true)
 (.bd (Aoq L a0) fun r3=>
 (.lf (decide (r3 > 3000))))) (fun b2=>
 (cn b2
 (bd (Akt L) fun r4=>
 (lf r4))
 (bd (W1 L a0 a1) fun r5=>
 (bd (Agw L a0 a1) fun r6=>
 (cn (r5 == r6)
 (bd (j6 L a1) fun r7=>
 (bd (Ajm L a1) fun r8=>
 (cn (r7 == r8)
 (bd (Akt L) fun r9=>
 (lf r9))
 (lf false))))
 (lf false))))))))
def Aaa(a0:Ad)(a1:List Ah):Option Bool:=Aad L a0 a1
theorem h3(a0:Ad)(a1:List Ah)(r:Bool)(h:Aaa L a0 a1=some r):Jd Tryz.prog 3 [.agg (Aw a0),lv (.t46 a1)] (B r):=(show Ho Tryz.prog 3 [.agg (Aw a0),lv (.t46 a1)] B r from hF Tryz.func3 (oS [X5 L,X6 L,X7 L,X8 L,X9 L,X10 L,X11 L]) L (fun kk=>eE (Aad L a0 a1)) h)
end
end Go.Proofs.YtfencmicmnhglaaGreat.Ev
