import Derived.Test.YtgacplpjamkieaaGreatZG9
set_option maxRecDepth 100000
set_option maxHeartbeats 4000000
set_option linter.unusedVariables false
set_option linter.unusedSimpArgs false
set_option linter.unnecessarySimpa false
namespace Go.Proofs.YtgacplpjamkieaaGreat.Ev
open Go An
noncomputable section
variable {A:Type} (L n:Nat) (kk:Tb) (K:Hp) (k:Ei)
def Bc(L:Nat):Option Bool:=some true
def oA7:Bj:=orN [(29,X29 100),(40,X40 100),(49,X49 100),(60,X60 100),(35,X35 100),(28,X28 100),(36,X36 100),(8,X8 100)]
def iA7:Nat->Bool:=λf=>inL f [12,31,36,51,55,58,61,73,74,76,77,78,79,85,86,89,117,119,120,121,125,126,127,128,129,130,131,132,133,137,138,139,140,141,142,143,144,145,146,147,148,149,150,152,153,154,156,158,159,170,171,173,174,177,178,179,180,181,182,183,199,206,207,208,209,212,215,216,235,236,240,241,246,1103007711601,1103007711605,1104615440720,1104623796288,1108774945284,1113070731461,17593881010243,35184372088863,35184372088868,35184372088887,35184372088890,35184372088893,35184372088918,35184372088921,70369181188142,70369902555173,70370438946874,70370438983702,70370439065624,70370439143491,70370439172149,70370439372938,140739183124538,140739183161366,140739183243288,140739183321155,140739183349813,140739183550602,281475413807193,48,70,118,1102476312640,1102610530368,1102610530370,1103007613515,1103009252153,1103009252156,1103818489920,562950390624359]
def nA7:Nat->Bool:=λf=>inL f [29,40,49,60,35,28,36,8]
def X7(L:Nat):N1:=E0 B 7 (Bc L) λr h=>by
 injection h with h
 subst h;exact A8t (inl:=iA7) (nb:=nA7) (base:=oA7) Bbf mixed (A83 _ (by kernel_rfl)) 100 9 40 (λkk=>by kernel_rfl)
def Xs [An A Bool](a0:Ag)(a1:Int)(a2:Int):A:=
 (bd (Z0 L a0) λr1=>
 (jp (.cn (!r1)
 (.lf true)
 (.lf (decide (a1<0)))) (λb2=>
 (jp (.cn b2
 (.lf true)
 (.lf (decide (a1>=(a0.aD.length:Int))))) (λb3=>
 (jp (.cn b3
 (.lf true)
 (.lf (decide (a2<0)))) (λb4=>
 (jb (.cn b4
 (.lf true)
 (.gq (0<=a1)
 (.gq (a1<(a0.aD.length:Int))
 (.lf (decide (a2>=((gD a0.aD a1).aA.length:Int))))))) (λb5=>
 (cn b5
 (bd (Bc L) λr6=>
 (lf r6))
 (bd (S8 L a0 a1 a2) λr7=>
 (cn (r7.2 != 0)
 (jb (.cn ((r7.1.eP.length:Int) == 0)
 (.bd (Bc L) λr9=>
 (.lf r9))
 (.lf false)) (λb8=>
 (lf b8)))
 (gi a1 a0.aD
 (gi a2 ((gD a0.aD a1).aA)
 (cn (decide ((r7.1.eP.length:Int)>0))
 (bd (Lb L ((gD ((gD a0.aD a1).aA) a2).aK)) λr10=>
 (bd (Na L ((gD ((gD a0.aD a1).aA) a2).aK)) λr11=>
 (cn ((r7.1.eP.length:Int) == (Bb ((Bb (r10+r11))+1)))
 (gi (Bb ((r7.1.eP.length:Int)-1)) r7.1.eP
 (cn ((gD r7.1.eP (Bb ((r7.1.eP.length:Int)-1))).Op == 19)
 (cn (r7.1.aJ == (((gD ((gD a0.aD a1).aA) a2).aJ).length:Int))
 (cn (r7.1.gU == (Bb ((((gD ((gD a0.aD a1).aA) a2).aJ).length:Int)+(((gD ((gD a0.aD a1).aA) a2).aL).length:Int))))
 (bd (Bc L) λr12=>
 (lf r12))
 (lf false))
 (lf false))
 (lf false)))
 (lf false))))
 (lf false))))))))))))))))
def Xp(a0:Ag)(a1:Int)(a2:Int):Option Bool:=Xs L a0 a1 a2
theorem h3(a0:Ag)(a1:Int)(a2:Int)(r:Bool)(h:Xp L a0 a1 a2=some r):Yi Tryz.prog 3 [.agg (Br a0),I a1,I a2] (B r):=(show Ho Tryz.prog 3 [.agg (Br a0),I a1,I a2] B r from hF Tryz.func3 (oS [X6 L,X7 L,X8 L,X9 L,X10 L]) L (λkk=>eE (Xs L a0 a1 a2)) h)
end
end Go.Proofs.YtgacplpjamkieaaGreat.Ev
