import Derived.Test.YtgacplpjamkieaaGreatHG1
import Derived.Test.YtgacplpjamkieaaGreatHG2
import Derived.Test.YtgacplpjamkieaaGreatHG5
import Derived.Test.YtgacplpjamkieaaGreatHG6
import Derived.Test.YtgacplpjamkieaaGreatHG9
import Derived.Test.YtgacplpjamkieaaGreatHG11
set_option maxRecDepth 100000
set_option maxHeartbeats 4000000
set_option linter.unusedVariables false
set_option linter.unusedSimpArgs false
set_option linter.unnecessarySimpa false
namespace Go.Proofs.YtgacplpjamkieaaGreat.Ev
open Go An
noncomputable section
variable {A:Type} (L n:Nat) (kk:Hf) (K:De) (k:C3)
def Rb(L:Nat)(a0:Aa):Option (List Yb):=(Iv L a0).bind λe=>if ndE a0<=1048576/\(e≠0\/nmE a0= [])then some []else none
def X20(L:Nat):Fs:=E1 (λ(x:List Yb)=>lv (.t9 x)) 20 Ay (Rb L) λa0 r h=>by
 unfold Rb at h;cases hc:Iv L a0 with
 |none=>rw[hc]at h;cases h
 |some e=>
  rw[hc,Option.bind_some]at h;split at h
  ·rename_i hn;injection h with h
   subst h;obtain⟨r,h1,h2⟩:=(X40 L).h [.agg (Bm a0)] (λp=>p=I e) (by
    cases a0 with
    |mk a b c d=>
     show ob (Iv L (.mk a b c d)) (λr=>I r=I e)
     rw[hc];rfl)
   subst h2;exact Ay3 a0 e h1 hn.1 hn.2
  ·cases h
def Us(L:Nat):Option Bool:=some true
def oA7:Ba:=orN [(29,X29 100),(40,X40 100),(49,X49 100),(60,X60 100),(35,X35 100),(28,X28 100),(8,X8 100),(17,X17 100),(19,X19 100)]
def iA7:Nat->Bool:=λf=>inL f [12,31,36,51,55,58,61,73,74,76,77,78,79,85,86,89,117,119,120,121,125,126,127,128,129,130,131,132,133,137,138,139,140,141,142,143,144,145,146,147,148,149,150,152,153,154,156,158,159,170,171,173,174,177,178,179,180,181,182,183,199,206,207,208,209,212,215,216,235,236,240,241,246,1103007711601,1103007711605,1104615440720,1104623796288,1108774945284,1113070731461,17593881010243,35184372088863,35184372088868,35184372088887,35184372088890,35184372088893,35184372088918,35184372088921,70369181188142,70369902555173,70370438946874,70370438983702,70370439065624,70370439143491,70370439172149,70370439372938,140739183124538,140739183161366,140739183243288,140739183321155,140739183349813,140739183550602,281475413807193,48,70,118,1102476312640,1102610530368,1102610530370,1103007613515,1103009252153,1103009252156,1103818489920,562950390624359]
def nA7:Nat->Bool:=λf=>inL f [29,40,49,60,35,28,8,17,19]
def X7(L:Nat):Fs:=E0 B 7 (Us L) λr h=>by
 injection h with h
 subst h;exact Alp (inl:=iA7) (nb:=nA7) (base:=oA7) A6q mixed (Amt _ (by kernel_rfl)) 100 9 40 (λkk=>by kernel_rfl)
def P6 [An A Bool](a0:Ao)(a1:Aa):A:=
 (bd (Acm L a0) λr1=>
 (jb (.cn (!r1)
 (.lf true)
 (.bd (Yx L (Aa.cp a1)) λr3=>
 (.lf (!r3)))) (λb2=>
 (cn b2
 (bd (Us L) λr4=>
 (lf r4))
 (bd (W6 L a0 (Aa.cp a1)) λr5=>
 (bd (Ah8 L a0 (Aa.cp a1)) λr6=>
 (jb (.cn (r5.2 != r6.2)
 (.lf true)
 (.bd (F1 L (Aa.cp r5.1) (Aa.cp r6.1)) λr8=>
 (.lf (!r8)))) (λb7=>
 (cn b7
 (lf false)
 (cn (r5.2 != 0)
 (bd (Us L) λr9=>
 (lf r9))
 (bd (Rb L (Aa.cp r5.1)) λr10=>
 (cn ((r10.length:Int) == 0)
 (bd (F3 L (Aa.cp r5.1)) λr11=>
 (bd (F3 L (Aa.cp a1)) λr12=>
 (cn (r11 == r12)
 (bd (F2 L (Aa.cp r5.1)) λr13=>
 (bd (F2 L (Aa.cp a1)) λr14=>
 (cn (r13 == r14)
 (bd (Us L) λr15=>
 (lf r15))
 (lf false))))
 (lf false))))
 (lf false)))))))))))))
def P2(a0:Ao)(a1:Aa):Option Bool:=P6 L a0 a1
theorem h5(a0:Ao)(a1:Aa)(r:Bool)(h:P2 L a0 a1=some r):Holds Tryz.prog 5 [.agg (Nq a0),.agg (Bm a1)] (B r):=(show Ho Tryz.prog 5 [.agg (Nq a0),.agg (Bm a1)] B r from hF Tryz.func5 (oS [X7 L,X15 L,X16 L,X17 L,X18 L,X19 L,X20 L,X21 L,X22 L]) L (λkk=>eE (P6 L a0 a1)) h)
end
end Go.Proofs.YtgacplpjamkieaaGreat.Ev
