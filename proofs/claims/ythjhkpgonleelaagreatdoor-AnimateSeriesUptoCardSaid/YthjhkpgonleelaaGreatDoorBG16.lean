import Derived.Test.YthjhkpgonleelaaGreatDoorBG1
import Derived.Test.YthjhkpgonleelaaGreatDoorBG8
import Derived.Test.YthjhkpgonleelaaGreatDoorBG13
import Derived.Test.YthjhkpgonleelaaGreatDoorBG14
import Derived.Test.YthjhkpgonleelaaGreatDoorBG15
import Derived.Test.YthjhkpgonleelaaGreatDoorBIA
namespace Go.Proofs.YthjhkpgonleelaaGreatDoor.Ev
open Go An
set_option maxRecDepth 100000
set_option maxHeartbeats 4000000
set_option linter.unusedVariables false
set_option linter.unusedSimpArgs false
set_option linter.unnecessarySimpa false
noncomputable section
variable {A:Type} (L n:Nat) (kk:Ep) (K:Ci) (k:Bn)
def Xe(L:Nat):Option Bool:=some true
def oA7:Bt:=orN [(29,X29 100),(8,X8 100),(10,X10 100),(12,X12 100),(13,X13 100)]
def iA7:Nat→Bool:=fun f=>inL f [40,41,42,43,56,57,58,59,62,63,65,66,86,87,88,89,90,91,92,93,94,98,99,100,101,102,103,104,105,106,107,108,109,110,111,113,114,115,117,119,120,153,154,155,156,159,160,163,164,166,167,184,188,189,190,191,196,197,198,213,215,219,1102869988105,1102869988110,1114410582365,4398046511170]
def nA7:Nat→Bool:=fun f=>inL f [29,8,10,12,13]
def X7(L:Nat):Qi:=E0 B 7 (Xe L) fun r h=>by
 injection h with h
 subst h
 exact A3d (inl:=iA7) (nb:=nA7) (base:=oA7) Bdm mixed (A3m _ (by kernel_rfl)) 100 9 40 (fun kk=>by kernel_rfl)
def c4:=CC Tryz.f4
def O4:Bt:=oL [X7 L,X8 L,X10 L,X12 L]
def Bec(r3:(List Bc)×Int)(a0:Kg)(v:Tu5):St:=⟨[(0,.any),(1,.loc 1 0),(2,B v.1),(3,lv (.t32 r3.1)),(4,.any),(5,I v.2)],[(1,(Abw a0))],0⟩
def Jt [An A (Nat×Tu5)](r3:(List Bc)×Int)(a0:Kg)(rec:Bool→Int→A)(Au:Bool)(C8:Int):A:=
 (cn (decide (C8 < (r3.1.length:Int)))
 (bd (Qj L (⟨a0.P.Name,a0.P.Sites,a0.P.Links⟩:Ad) a0.Recs a0.Site (Bi (a0.T+(Bi (C8*a0.Step))))) fun r6=>
 (cn (r6.2 != 0)
 (lf (0,false,C8))
 (gi C8 r3.1
 (bd (Vg L r6.1 (r3.1.getD (Int.toNat C8) default)) fun r7=>
 (cn (!r7)
 (lf (0,false,C8))
 (rec Au (Bi (C8+1))))))))
 (lf (1,Au,C8)))
def Ee(L:Nat)(r3:(List Bc)×Int)(a0:Kg):Nat→Bool→Int→Option (Nat×Tu5)
 |0,_,_=>none
 |n+1,Au,C8=>Jt L r3 a0 (Ee L r3 a0 n) Au C8
theorem Bky(r3:(List Bc)×Int)(a0:Kg):LP (EV (O4 L) L 9 c4.x.u.l.u.l.l) [0,1,2,3,4,5] [1] (Bec r3 a0) [.ret,.exit 0] (fun n v=>Ee L r3 a0 n v.1 v.2) K:=lE (fun _=>rfl) fun n v ih=>eE (Jt L r3 a0 (fun Au C8=>re (ih (Au,C8))) v.1 v.2)
def Jw [An A Bool](o8:Nat×Tu5):A:=
 (sl o8.1 [(lf o8.2.1),
 (bd (Xe L) fun r9=>
 (lf r9))])
def Bdn:Ci:=(Bs 0 (Bz (EV (O4 L) L 9 c4.x.u.r) (Kb Tryz.prog (RS Tryz.f4) kk)))
theorem Boj(r3:(List Bc)×Int)(a0:Kg)(o8:Nat×Tu5):kX [.ret,.exit 0] (Bec r3 a0) (Bdn L kk) o8=ob (Jw L o8) (kQ B kk):=eE (Jw L o8)
def Nw [An A Bool](a0:Kg)(nx1:((List Bc)×Int)→A):A:=
 (jp (.cn (decide ((a0.Recs.length:Int) > 300))
 (.lf true)
 (.cn (decide (a0.N > 60))
 (.lf (decide (a0.N≤1000)))
 (.lf false))) (fun b1=>
 (cn b1
 (bd (Xe L) fun r2=>
 (lf r2))
 (bd (Mg L (⟨a0.P.Name,a0.P.Sites,a0.P.Links⟩:Ad) a0.Recs a0.Site a0.T a0.Step a0.N) fun r3=>
 (cn (r3.2 != 0)
 (jb (.cn ((r3.1.length:Int) == 0)
 (.bd (Xe L) fun r5=>
 (.lf r5))
 (.lf false)) (fun b4=>
 (lf b4)))
 (cn ((r3.1.length:Int) != a0.N)
 (lf false)
 (nx1 r3)))))))
def Yt [An A Bool](a0:Kg):A:=Nw L a0 (fun r3=>bd (Ee L r3 a0 L false 0) fun o8=>Jw L o8)
def R2(a0:Kg):Option Bool:=Yt L a0
theorem h4(a0:Kg)(r:Bool)(h:R2 L a0=some r):Xj Tryz.prog 4 [.agg (Abw a0)] (B r):=(show Ho Tryz.prog 4 [.agg (Abw a0)] B r from hF Tryz.func4 (C:=O4 L) (oS _) L (fun kk=>eE (Nw L a0 (fun r3=>ho (Bky L (Bdn L kk) r3 a0 L (false,0)) fun o8=>Boj L kk r3 a0 o8))) h)
end
end Go.Proofs.YthjhkpgonleelaaGreatDoor.Ev
