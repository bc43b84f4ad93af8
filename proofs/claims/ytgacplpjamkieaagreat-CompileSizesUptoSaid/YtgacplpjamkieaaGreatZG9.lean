import Derived.Test.YtgacplpjamkieaaGreatZG1
import Derived.Test.YtgacplpjamkieaaGreatZG2
import Derived.Test.YtgacplpjamkieaaGreatZG5
import Derived.Test.YtgacplpjamkieaaGreatZG6
import Derived.Test.YtgacplpjamkieaaGreatZG7
import Derived.Test.YtgacplpjamkieaaGreatZG8
set_option maxRecDepth 100000
set_option maxHeartbeats 4000000
set_option linter.unusedVariables false
set_option linter.unusedSimpArgs false
set_option linter.unnecessarySimpa false
namespace Go.Proofs.YtgacplpjamkieaaGreat.Ev
open Go An
noncomputable section
variable {A:Type} (L n:Nat) (kk:Tb) (K:Hp) (k:Ei)
def Yj [An A (J6×Int)](a0:Ag)(a1:Int)(a2:Int):A:=
 (bd (Yg L a0) λr1=>
 (cn (r1 != 0)
 (lf ((⟨(⟨#[]⟩:Yb),0,0,[]⟩:J6),r1))
 (jp (.cn (decide (a1<0))
 (.lf true)
 (.lf (decide (a1>=(a0.aD.length:Int))))) (λb2=>
 (jp (.cn b2
 (.lf true)
 (.lf (decide (a2<0)))) (λb3=>
 (jb (.cn b3
 (.lf true)
 (.gq (0<=a1)
 (.gq (a1<(a0.aD.length:Int))
 (.lf (decide (a2>=((gD a0.aD a1).aA.length:Int))))))) (λb4=>
 (cn b4
 (lf ((⟨(⟨#[]⟩:Yb),0,0,[]⟩:J6),2))
 (gi a1 a0.aD
 (gi a2 ((gD a0.aD a1).aA)
 (bd (Hn L [(gD ((gD a0.aD a1).aA) a2).aJ,(gD ((gD a0.aD a1).aA) a2).aL]) λr5=>
 (bd (C0 L a0 a1 r5 ((gD ((gD a0.aD a1).aA) a2).aK)) λr6=>
 (cn (r6 != 0)
 (cn (r6 != 0)
 (lf ((⟨(⟨#[]⟩:Yb),0,0,[]⟩:J6),r6))
 (gq ((0+ [(⟨19,0,0,0,(Aa.mk 0 (⟨#[]⟩:Yb) 0 []),(Aa.mk 0 (⟨#[]⟩:Yb) 0 []),[],(⟨0,0,0,0,[],[]⟩:Aj),false⟩:Ae)].length)*256<=140737488355328)
 (gq (0+ [(⟨19,0,0,0,(Aa.mk 0 (⟨#[]⟩:Yb) 0 []),(Aa.mk 0 (⟨#[]⟩:Yb) 0 []),[],(⟨0,0,0,0,[],[]⟩:Aj),false⟩:Ae)].length<=maxLen)
 (cn (decide (([(⟨19,0,0,0,(Aa.mk 0 (⟨#[]⟩:Yb) 0 []),(Aa.mk 0 (⟨#[]⟩:Yb) 0 []),[],(⟨0,0,0,0,[],[]⟩:Aj),false⟩:Ae)].length:Int)>1000))
 (lf ((⟨(⟨#[]⟩:Yb),0,0,[]⟩:J6),6))
 (lf ((⟨(gD ((gD a0.aD a1).aA) a2).aG,(((gD ((gD a0.aD a1).aA) a2).aJ).length:Int),(r5.length:Int),[(⟨19,0,0,0,(Aa.mk 0 (⟨#[]⟩:Yb) 0 []),(Aa.mk 0 (⟨#[]⟩:Yb) 0 []),[],(⟨0,0,0,0,[],[]⟩:Aj),false⟩:Ae)]⟩:J6),0))))))
 (gi a1 a0.aD
 (bd (Au L (⟨a0,(⟨a0.aJ,r5,(gD a0.aD a1)⟩:Az),0⟩:Ab) ((gD ((gD a0.aD a1).aA) a2).aK)) λr7=>
 (cn (r7.2.aW != 0)
 (cn (r7.2.aW != 0)
 (lf ((⟨(⟨#[]⟩:Yb),0,0,[]⟩:J6),r7.2.aW))
 (gq ((0+ [(⟨19,0,0,0,(Aa.mk 0 (⟨#[]⟩:Yb) 0 []),(Aa.mk 0 (⟨#[]⟩:Yb) 0 []),[],(⟨0,0,0,0,[],[]⟩:Aj),false⟩:Ae)].length)*256<=140737488355328)
 (gq (0+ [(⟨19,0,0,0,(Aa.mk 0 (⟨#[]⟩:Yb) 0 []),(Aa.mk 0 (⟨#[]⟩:Yb) 0 []),[],(⟨0,0,0,0,[],[]⟩:Aj),false⟩:Ae)].length<=maxLen)
 (cn (decide (([(⟨19,0,0,0,(Aa.mk 0 (⟨#[]⟩:Yb) 0 []),(Aa.mk 0 (⟨#[]⟩:Yb) 0 []),[],(⟨0,0,0,0,[],[]⟩:Aj),false⟩:Ae)].length:Int)>1000))
 (lf ((⟨(⟨#[]⟩:Yb),0,0,[]⟩:J6),6))
 (lf ((⟨(gD ((gD a0.aD a1).aA) a2).aG,(((gD ((gD a0.aD a1).aA) a2).aJ).length:Int),(r5.length:Int),[(⟨19,0,0,0,(Aa.mk 0 (⟨#[]⟩:Yb) 0 []),(Aa.mk 0 (⟨#[]⟩:Yb) 0 []),[],(⟨0,0,0,0,[],[]⟩:Aj),false⟩:Ae)]⟩:J6),0))))))
 (gq ((r7.1.length+ [(⟨19,0,0,0,(Aa.mk 0 (⟨#[]⟩:Yb) 0 []),(Aa.mk 0 (⟨#[]⟩:Yb) 0 []),[],(⟨0,0,0,0,[],[]⟩:Aj),false⟩:Ae)].length)*256<=140737488355328)
 (gq (r7.1.length+ [(⟨19,0,0,0,(Aa.mk 0 (⟨#[]⟩:Yb) 0 []),(Aa.mk 0 (⟨#[]⟩:Yb) 0 []),[],(⟨0,0,0,0,[],[]⟩:Aj),false⟩:Ae)].length<=maxLen)
 (cn (decide (((r7.1++ [(⟨19,0,0,0,(Aa.mk 0 (⟨#[]⟩:Yb) 0 []),(Aa.mk 0 (⟨#[]⟩:Yb) 0 []),[],(⟨0,0,0,0,[],[]⟩:Aj),false⟩:Ae)]).length:Int)>1000))
 (lf ((⟨(⟨#[]⟩:Yb),0,0,[]⟩:J6),6))
 (lf ((⟨(gD ((gD a0.aD a1).aA) a2).aG,(((gD ((gD a0.aD a1).aA) a2).aJ).length:Int),(r5.length:Int),(r7.1++ [(⟨19,0,0,0,(Aa.mk 0 (⟨#[]⟩:Yb) 0 []),(Aa.mk 0 (⟨#[]⟩:Yb) 0 []),[],(⟨0,0,0,0,[],[]⟩:Aj),false⟩:Ae)])⟩:J6),0))))))))))))))))))))))
def S8(a0:Ag)(a1:Int)(a2:Int):Option (J6×Int):=Yj L a0 a1 a2
def X8:N1:=E3 (λ(x:J6×Int)=>.bI [.agg (Auw x.1),I x.2]) 8 Pq (cI .i64) (cI .i64) (S8 L) λa0 a1 a2 r h=>hF Tryz.func8 (oS [X28 L,X29 L,X30 L,X31 L]) L (λkk=>eE (Yj L a0 a1 a2)) h
def Bem(F:(List Ad)->Option Int):Prop:=∀y0 r,F y0=some r->Ho Tryz.prog 10 [Aax.en y0] I r
def c10:=CC Tryz.f10
def O10(Iz:(List Ad)->Option Int)(L:Nat):Bj:=(orc 10 (A1 I Aax Iz) (oL []))
theorem s10(Iz:(List Ad)->Option Int)(Bl0:Bem Iz)(L:Nat):Df Tryz.prog (O10 Iz L):=(Dc (a1 _ Bl0) (oS []))
def Bop(a0:List Ad)(v:Lw):St:=⟨[(0,lv (.eZ a0)),(2,I 0),(3,I v.1),(4,I v.2)],[],0⟩
def Wr [An A Rs](Iz:(List Ad)->Option Int)(L:Nat)(a0:List Ad)(rec:Int->Int->A)(Bl:Int)(Ak:Int):A:=
 (lw Ak a0
 (jb (.cn ((gD a0 Ak).Op == 4)
 (.lf true)
 (.gq (0<=Ak)
 (.gq (Ak<(a0.length:Int))
 (.cn ((gD a0 Ak).Op == 3)
 (.gq (0<=Ak)
 (.gq (Ak<(a0.length:Int))
 (.lf (decide (((gD a0 Ak).aY.length:Int)>0)))))
 (.lf false))))) (λb1=>
 (cn b1
 (gi Ak a0
 (bd (Iz ((gD a0 Ak).aK)) λr2=>
 (gi Ak a0
 (bd (Iz ((gD a0 Ak).aY)) λr3=>
 (rec (Bb ((Bb ((Bb (Bl+1))+r2))+r3)) (Bb (Ak+1)))))))
 (gi Ak a0
 (bd (Iz ((gD a0 Ak).aK)) λr4=>
 (gi Ak a0
 (bd (Iz ((gD a0 Ak).aY)) λr5=>
 (rec (Bb ((Bb (Bl+r4))+r5)) (Bb (Ak+1))))))))))
 (lf (0,Bl,Ak)))
def Mc(Iz:(List Ad)->Option Int)(L:Nat)(a0:List Ad):Nat->Int->Int->Option Rs
 |0,_,_=>none
 |n+1,Bl,Ak=>Wr Iz L a0 (Mc Iz L a0 n) Bl Ak
theorem Bmv(Iz:(List Ad)->Option Int)(L:Nat)(K:Hp)(a0:List Ad):LP (EV (O10 Iz L) L 9 c10.w.l.u.l.l) [0,2,3,4] [] (Bop a0) [.exit 0] (λn v=>Mc Iz L a0 n v.1 v.2) K:=lE (λ_=>rfl) λn v ih=>eE (Wr Iz L a0 (λBl Ak=>re (ih (Bl,Ak))) v.1 v.2)
def W6 [An A Int](Iz:(List Ad)->Option Int)(L:Nat)(o6:Nat×Lw):A:=
 (sl o6.1 [(lf o6.2.1)])
def Anv [An A Int](Iz:(List Ad)->Option Int)(L:Nat)(a0:List Ad):A:=(bd (Mc Iz L a0 L 0 0) λo6=>W6 Iz L o6)
def Ahp(Iz:(List Ad)->Option Int)(L:Nat)(a0:List Ad):Option Int:=Anv Iz L a0
theorem b10(Iz:(List Ad)->Option Int)(Bl0:Bem Iz)(L:Nat):Bem (Ahp Iz L):=λa0 r h=>hF Tryz.func10 (s10 Iz Bl0 L) L (λkk=>eE ((hq (Bmv Iz L (KA (O10 Iz L) L 9 c10 (rl [4,1,2,1]) (KE Tryz.f10 kk)) a0 L (0,0)) λo6=>W6 Iz L o6))) h
def Na:Nat->(List Ad)->Option Int
 |0,_=>none
 |L+1,a0=>Ahp (Na L) L a0
theorem Blp(L:Nat):Bem (Na L):=by
 induction L with
 |zero=>exact λ_ _ h=>(by cases h)
 |succ L ih=>
  have i10:=ih;exact b10 (Na L) i10 L
def X10(L:Nat):N1:=E1 I 10 Aax (Na L) (Blp L)
end
end Go.Proofs.YtgacplpjamkieaaGreat.Ev
