import Derived.Test.YtgacplpjamkieaaGreatHG1
import Derived.Test.YtgacplpjamkieaaGreatHG6
import Derived.Test.YtgacplpjamkieaaGreatHG7
import Derived.Test.YtgacplpjamkieaaGreatHG8
set_option maxRecDepth 100000
set_option maxHeartbeats 4000000
set_option linter.unusedVariables false
set_option linter.unusedSimpArgs false
set_option linter.unnecessarySimpa false
namespace Go.Proofs.YtgacplpjamkieaaGreat.Ev
open Go An
noncomputable section
variable {A:Type} (L n:Nat) (kk:Hf) (K:De) (k:C3)
def Y6 [An A (Gi×Int)](a0:Al)(a1:Int)(a2:Int):A:=
 (bd (Afe L a0) λr1=>
 (cn (r1 != 0)
 (lf ((⟨(⟨#[]⟩:Yb),0,0,[]⟩:Gi),r1))
 (jp (.cn (decide (a1<0))
 (.lf true)
 (.lf (decide (a1>=(a0.aU.length:Int))))) (λb2=>
 (jp (.cn b2
 (.lf true)
 (.lf (decide (a2<0)))) (λb3=>
 (jb (.cn b3
 (.lf true)
 (.gq (0<=a1)
 (.gq (a1<(a0.aU.length:Int))
 (.lf (decide (a2>=((gD a0.aU a1).aG.length:Int))))))) (λb4=>
 (cn b4
 (lf ((⟨(⟨#[]⟩:Yb),0,0,[]⟩:Gi),2))
 (gi a1 a0.aU
 (gi a2 ((gD a0.aU a1).aG)
 (bd (Jt L [(gD ((gD a0.aU a1).aG) a2).aK,(gD ((gD a0.aU a1).aG) a2).aP]) λr5=>
 (bd (W8 L a0 a1 r5 ((gD ((gD a0.aU a1).aG) a2).cK)) λr6=>
 (cn (r6 != 0)
 (cn (r6 != 0)
 (lf ((⟨(⟨#[]⟩:Yb),0,0,[]⟩:Gi),r6))
 (gq ((0+ [(⟨19,0,0,0,(Aa.mk 0 (⟨#[]⟩:Yb) 0 []),(Aa.mk 0 (⟨#[]⟩:Yb) 0 []),[],(⟨0,0,0,0,[],[]⟩:Ah),false⟩:Ad)].length)*256<=140737488355328)
 (gq (0+ [(⟨19,0,0,0,(Aa.mk 0 (⟨#[]⟩:Yb) 0 []),(Aa.mk 0 (⟨#[]⟩:Yb) 0 []),[],(⟨0,0,0,0,[],[]⟩:Ah),false⟩:Ad)].length<=maxLen)
 (cn (decide (([(⟨19,0,0,0,(Aa.mk 0 (⟨#[]⟩:Yb) 0 []),(Aa.mk 0 (⟨#[]⟩:Yb) 0 []),[],(⟨0,0,0,0,[],[]⟩:Ah),false⟩:Ad)].length:Int)>1000))
 (lf ((⟨(⟨#[]⟩:Yb),0,0,[]⟩:Gi),6))
 (lf ((⟨(gD ((gD a0.aU a1).aG) a2).aD,(((gD ((gD a0.aU a1).aG) a2).aK).length:Int),(r5.length:Int),[(⟨19,0,0,0,(Aa.mk 0 (⟨#[]⟩:Yb) 0 []),(Aa.mk 0 (⟨#[]⟩:Yb) 0 []),[],(⟨0,0,0,0,[],[]⟩:Ah),false⟩:Ad)]⟩:Gi),0))))))
 (gi a1 a0.aU
 (bd (C4 L (⟨a0,(⟨a0.aK,r5,(gD a0.aU a1)⟩:Ao),0⟩:Ac) ((gD ((gD a0.aU a1).aG) a2).cK)) λr7=>
 (cn (r7.2.bQ != 0)
 (cn (r7.2.bQ != 0)
 (lf ((⟨(⟨#[]⟩:Yb),0,0,[]⟩:Gi),r7.2.bQ))
 (gq ((0+ [(⟨19,0,0,0,(Aa.mk 0 (⟨#[]⟩:Yb) 0 []),(Aa.mk 0 (⟨#[]⟩:Yb) 0 []),[],(⟨0,0,0,0,[],[]⟩:Ah),false⟩:Ad)].length)*256<=140737488355328)
 (gq (0+ [(⟨19,0,0,0,(Aa.mk 0 (⟨#[]⟩:Yb) 0 []),(Aa.mk 0 (⟨#[]⟩:Yb) 0 []),[],(⟨0,0,0,0,[],[]⟩:Ah),false⟩:Ad)].length<=maxLen)
 (cn (decide (([(⟨19,0,0,0,(Aa.mk 0 (⟨#[]⟩:Yb) 0 []),(Aa.mk 0 (⟨#[]⟩:Yb) 0 []),[],(⟨0,0,0,0,[],[]⟩:Ah),false⟩:Ad)].length:Int)>1000))
 (lf ((⟨(⟨#[]⟩:Yb),0,0,[]⟩:Gi),6))
 (lf ((⟨(gD ((gD a0.aU a1).aG) a2).aD,(((gD ((gD a0.aU a1).aG) a2).aK).length:Int),(r5.length:Int),[(⟨19,0,0,0,(Aa.mk 0 (⟨#[]⟩:Yb) 0 []),(Aa.mk 0 (⟨#[]⟩:Yb) 0 []),[],(⟨0,0,0,0,[],[]⟩:Ah),false⟩:Ad)]⟩:Gi),0))))))
 (gq ((r7.1.length+ [(⟨19,0,0,0,(Aa.mk 0 (⟨#[]⟩:Yb) 0 []),(Aa.mk 0 (⟨#[]⟩:Yb) 0 []),[],(⟨0,0,0,0,[],[]⟩:Ah),false⟩:Ad)].length)*256<=140737488355328)
 (gq (r7.1.length+ [(⟨19,0,0,0,(Aa.mk 0 (⟨#[]⟩:Yb) 0 []),(Aa.mk 0 (⟨#[]⟩:Yb) 0 []),[],(⟨0,0,0,0,[],[]⟩:Ah),false⟩:Ad)].length<=maxLen)
 (cn (decide (((r7.1++ [(⟨19,0,0,0,(Aa.mk 0 (⟨#[]⟩:Yb) 0 []),(Aa.mk 0 (⟨#[]⟩:Yb) 0 []),[],(⟨0,0,0,0,[],[]⟩:Ah),false⟩:Ad)]).length:Int)>1000))
 (lf ((⟨(⟨#[]⟩:Yb),0,0,[]⟩:Gi),6))
 (lf ((⟨(gD ((gD a0.aU a1).aG) a2).aD,(((gD ((gD a0.aU a1).aG) a2).aK).length:Int),(r5.length:Int),(r7.1++ [(⟨19,0,0,0,(Aa.mk 0 (⟨#[]⟩:Yb) 0 []),(Aa.mk 0 (⟨#[]⟩:Yb) 0 []),[],(⟨0,0,0,0,[],[]⟩:Ah),false⟩:Ad)])⟩:Gi),0))))))))))))))))))))))
def Ajf(a0:Al)(a1:Int)(a2:Int):Option (Gi×Int):=Y6 L a0 a1 a2
def X8:Fs:=E3 (λ(x:Gi×Int)=>.aY [.agg (Aq7 x.1),I x.2]) 8 Lb (cI .i64) (cI .i64) (Ajf L) λa0 a1 a2 r h=>hF Tryz.func8 (oS [X28 L,X29 L,X30 L,X31 L]) L (λkk=>eE (Y6 L a0 a1 a2)) h
def Aib [An A Bool](L:Nat)(a0:Ao):A:=
 (jp (.cn (decide ((a0.aK.length:Int)<=20))
 (.lf (decide ((a0.aP.length:Int)<=20)))
 (.lf false)) (λb1=>
 (jp (.cn b1
 (.lf (decide ((a0.aF.aX.length:Int)<=20)))
 (.lf false)) (λb2=>
 (jp (.cn b2
 (.lf (decide ((a0.aF.aI.length:Int)<=20)))
 (.lf false)) (λb3=>
 (jp (.cn b3
 (.lf (decide ((a0.aF.aJ.length:Int)<=20)))
 (.lf false)) (λb4=>
 (jp (.cn b4
 (.lf (decide ((a0.aF.aV.length:Int)<=20)))
 (.lf false)) (λb5=>
 (jp (.cn b5
 (.lf (decide ((a0.aF.aZ.length:Int)<=20)))
 (.lf false)) (λb6=>
 (jp (.cn b6
 (.lf (decide ((a0.aF.aR.length:Int)<=20)))
 (.lf false)) (λb7=>
 (jp (.cn b7
 (.lf (decide ((a0.aF.aS.length:Int)<=20)))
 (.lf false)) (λb8=>
 (jp (.cn b8
 (.lf (decide ((a0.aF.aW.length:Int)<=20)))
 (.lf false)) (λb9=>
 (jp (.cn b9
 (.lf (decide ((a0.aF.aT.length:Int)<=20)))
 (.lf false)) (λb10=>
 (jp (.cn b10
 (.lf (decide ((a0.aF.aG.length:Int)<=20)))
 (.lf false)) (λb11=>
 (lf b11)))))))))))))))))))))))
def Acm(a0:Ao):Option Bool:=Aib L a0
def X15:Fs:=E1 B 15 Dy (Acm L) λa0 r h=>hF Tryz.func15 (oS []) L (λkk=>eE (Aib L a0)) h
def A9m(F:Aa->Int->Option Int):Prop:=∀y0 y1 r,F y0 y1=some r->Ho Tryz.prog 34 [Ay.en y0,(cI .i64).en y1] I r
def c34:=CC Tryz.f34
def O34(K6:Aa->Int->Option Int)(L:Nat):Ba:=(orc 34 (A2 I Ay (cI .i64) K6) (oL []))
theorem s34(K6:Aa->Int->Option Int)(Bhv:A9m K6)(L:Nat):B8 Tryz.prog (O34 K6 L):=(B5 (a2 _ Bhv) (oS []))
def Bka(a0:Aa)(v:Ef):St:=⟨[(0,.any),(1,I v.1),zq9,(4,I 0),(5,I v.2)],[(2,(Bm a0))],0⟩
def Xq [An A C0](K6:Aa->Int->Option Int)(L:Nat)(a0:Aa)(rec:Int->Int->A)(A9:Int)(Az:Int):A:=
 (jp (.cn (decide (Az<(a0.aQ.length:Int)))
 (.lf (decide (A9>=0)))
 (.lf false)) (λb1=>
 (cn b1
 (gi Az a0.aQ
 (bd (K6 (Aa.cp (gD a0.aQ Az)) A9) λr2=>
 (rec r2 (Cp (Az+1)))))
 (lf (0,A9,Az)))))
def M8(K6:Aa->Int->Option Int)(L:Nat)(a0:Aa):Nat->Int->Int->Option C0
 |0,_,_=>none
 |n+1,A9,Az=>Xq K6 L a0 (M8 K6 L a0 n) A9 Az
theorem Biv(K6:Aa->Int->Option Int)(L:Nat)(K:De)(a0:Aa):LP (EV (O34 K6 L) L 9 c34.w.l.u.l.l) [0,1,2,4,5] [2] (Bka a0) [.exit 0] (λn v=>M8 K6 L a0 n v.1 v.2) K:=lE (λ_=>rfl) λn v ih=>eE (Xq K6 L a0 (λA9 Az=>re (ih (A9,Az))) v.1 v.2)
def Sd [An A Int](K6:Aa->Int->Option Int)(L:Nat)(o3:Nat×Ef):A:=
 (sl o3.1 [(lf o3.2.1)])
def Anl [An A Int](K6:Aa->Int->Option Int)(L:Nat)(a0:Aa)(a1:Int):A:=(bd (M8 K6 L a0 L (Cp (a1-1)) 0) λo3=>Sd K6 L o3)
def Afa(K6:Aa->Int->Option Int)(L:Nat)(a0:Aa)(a1:Int):Option Int:=Anl K6 L a0 a1
theorem b34(K6:Aa->Int->Option Int)(Bhv:A9m K6)(L:Nat):A9m (Afa K6 L):=λa0 a1 r h=>hF Tryz.func34 (s34 K6 Bhv L) L (λkk=>eE ((hq (Biv K6 L (KA (O34 K6 L) L 9 c34 (rl [4,1,2,1]) (KE Tryz.f34 kk)) a0 L ((Cp (a1-1)),0)) λo3=>Sd K6 L o3))) h
def K4:Nat->Aa->Int->Option Int
 |0,_,_=>none
 |L+1,a0,a1=>Afa (K4 L) L a0 a1
theorem Bhm(L:Nat):A9m (K4 L):=by
 induction L with
 |zero=>exact λ_ _ _ h=>(by cases h)
 |succ L ih=>
  have i34:=ih;exact b34 (K4 L) i34 L
def X34(L:Nat):Fs:=E2 I 34 Ay (cI .i64) (K4 L) (Bhm L)
def Afj [An A Bool](a0:Aa):A:=
 (bd (K4 L (Aa.cp a0) 60) λr1=>
 (lf (decide (r1>=0))))
def Yx(a0:Aa):Option Bool:=Afj L a0
def X16:Fs:=E1 B 16 Ay (Yx L) λa0 r h=>hF Tryz.func16 (oS [X34 L]) L (λkk=>eE (Afj L a0)) h
def Xc [An A Tu6](a0:Ao)(a1:Aa):A:=
 (bd (O0 L a0 (Aa.cp a1)) λr1=>
 (cn (r1.2 != 0)
 (lf ((Aa.mk 0 (⟨#[]⟩:Yb) 0 []),r1.2))
 (bd (Bf L (⟨(⟨(⟨#[]⟩:Yb),[],[],[]⟩:Al),a0,0⟩:Ac) (Aa.cp a1)) λr2=>
 (cn (r2.2.bQ != 0)
 (lf ((Aa.mk 0 (⟨#[]⟩:Yb) 0 []),r2.2.bQ))
 (lf ((Aa.cp r2.1),0))))))
def W6(a0:Ao)(a1:Aa):Option Tu6:=Xc L a0 a1
def X17:Fs:=E2 (λ(x:Tu6)=>.aY [.agg (Bm x.1),I x.2]) 17 Dy Ay (W6 L) λa0 a1 r h=>hF Tryz.func17 (oS [X35 L,X36 L]) L (λkk=>eE (Xc L a0 a1)) h
end
end Go.Proofs.YtgacplpjamkieaaGreat.Ev
