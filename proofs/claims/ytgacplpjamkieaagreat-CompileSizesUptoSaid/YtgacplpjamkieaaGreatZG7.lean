import Derived.Test.YtgacplpjamkieaaGreatZG2
import Derived.Test.YtgacplpjamkieaaGreatZG5
import Derived.Test.YtgacplpjamkieaaGreatZG6
set_option maxRecDepth 100000
set_option maxHeartbeats 4000000
set_option linter.unusedVariables false
set_option linter.unusedSimpArgs false
set_option linter.unnecessarySimpa false
namespace Go.Proofs.YtgacplpjamkieaaGreat.Ev
open Go An
noncomputable section
variable {A:Type} (L n:Nat) (kk:Tb) (K:Hp) (k:Ei)
def A70(F:Ab->Aa->Option Tu5):Prop:=∀y0 y1 r,F y0 y1=some r->Ho Tryz.prog 36 [B8.en y0,B4.en y1] (λ(x:Tu5)=>.bI [.agg (Hv x.1),.agg (Bk x.2)]) r
def A72(F:Ab->(List Aa)->Option ((List Aa)×Ab)):Prop:=∀y0 y1 r,F y0 y1=some r->Ho Tryz.prog 61 [B8.en y0,Aur.en y1] (λ(x:(List Aa)×Ab)=>.bI [lv (.t53 x.1),.agg (Bk x.2)]) r
def O36(D6:Ab->Aa->Option Tu5)(Hb:Ab->(List Aa)->Option ((List Aa)×Ab))(L:Nat):Bj:=(orc 36 (A2 (λ(x:Tu5)=>.bI [.agg (Hv x.1),.agg (Bk x.2)]) B8 B4 D6) (orc 61 (A2 (λ(x:(List Aa)×Ab)=>.bI [lv (.t53 x.1),.agg (Bk x.2)]) B8 Aur Hb) (oL [X58 L,X59 L,X60 L])))
theorem s36(D6:Ab->Aa->Option Tu5)(Hb:Ab->(List Aa)->Option ((List Aa)×Ab))(A43:A70 D6)(A45:A72 Hb)(L:Nat):Df Tryz.prog (O36 D6 Hb L):=(Dc (a2 _ A43) (Dc (a2 _ A45) (oS [X58 L,X59 L,X60 L])))
def O4 [An A Tu5](D6:Ab->Aa->Option Tu5)(Hb:Ab->(List Aa)->Option ((List Aa)×Ab))(L:Nat)(a0:Ab)(a1:Aa):A:=
 (cn (a1.Op == 3)
 (bd (Gw L a0 a1.aG) λr1=>
 (lf ((Aa.cp r1.1),r1.2)))
 (cn (a1.Op == 22)
 (cn (a1.Op == 22)
 (bd (Db L a0 a1.aG) λr2=>
 (lf ((Aa.mk a1.Op (⟨#[]⟩:Yb) r2 []),a0)))
 (cn (a1.Op == 24)
 (bd (Db L a0 a1.aG) λr3=>
 (bd (Rw L a0.aF.aI a1.aG) λr4=>
 (cn (r4.toList == (⟨#[113,117,101,117,101]⟩:Yb).toList)
 (lf ((Aa.mk a1.Op (⟨#[]⟩:Yb) (Bb (r3+(a0.aF.aI.aM.length:Int))) []),a0))
 (lf ((Aa.mk a1.Op (⟨#[]⟩:Yb) r3 []),a0)))))
 (bd (Hb a0 a1.bJ) λr5=>
 (lf ((Aa.mk a1.Op a1.aG a1.N r5.1),r5.2)))))
 (cn (a1.Op == 23)
 (bd (Db L a0 a1.aG) λr6=>
 (lf ((Aa.mk a1.Op (⟨#[]⟩:Yb) r6 []),a0)))
 (cn (a1.Op == 24)
 (bd (Db L a0 a1.aG) λr7=>
 (bd (Rw L a0.aF.aI a1.aG) λr8=>
 (cn (r8.toList == (⟨#[113,117,101,117,101]⟩:Yb).toList)
 (lf ((Aa.mk a1.Op (⟨#[]⟩:Yb) (Bb (r7+(a0.aF.aI.aM.length:Int))) []),a0))
 (lf ((Aa.mk a1.Op (⟨#[]⟩:Yb) r7 []),a0)))))
 (bd (Hb a0 a1.bJ) λr9=>
 (lf ((Aa.mk a1.Op a1.aG a1.N r9.1),r9.2)))))))
def Ox(D6:Ab->Aa->Option Tu5)(Hb:Ab->(List Aa)->Option ((List Aa)×Ab))(L:Nat)(a0:Ab)(a1:Aa):Option Tu5:=O4 D6 Hb L a0 a1
theorem b36(D6:Ab->Aa->Option Tu5)(Hb:Ab->(List Aa)->Option ((List Aa)×Ab))(A43:A70 D6)(A45:A72 Hb)(L:Nat):A70 (Ox D6 Hb L):=λa0 a1 r h=>hFS (o0:=false) Tryz.func36 (s36 D6 Hb A43 A45 L) L (λkk=>eE (O4 D6 Hb L a0 a1)) h
def c61:=CC Tryz.f61
def O61(D6:Ab->Aa->Option Tu5)(Hb:Ab->(List Aa)->Option ((List Aa)×Ab))(L:Nat):Bj:=(orc 36 (A2 (λ(x:Tu5)=>.bI [.agg (Hv x.1),.agg (Bk x.2)]) B8 B4 D6) (orc 61 (A2 (λ(x:(List Aa)×Ab)=>.bI [lv (.t53 x.1),.agg (Bk x.2)]) B8 Aur Hb) (oL [])))
theorem s61(D6:Ab->Aa->Option Tu5)(Hb:Ab->(List Aa)->Option ((List Aa)×Ab))(A43:A70 D6)(A45:A72 Hb)(L:Nat):Df Tryz.prog (O61 D6 Hb L):=(Dc (a2 _ A43) (Dc (a2 _ A45) (oS [])))
def Bpe(a1:List Aa)(v:Tu7):St:=⟨[(0,.loc 0 0),(1,.any),(4,.aV true (.t53 [])),(5,.aV true (.t53 v.1)),(8,lv (.t53 a1)),(9,I (a1.length:Int)),(10,I v.2.1)],[(0,[S v.2.2.1,lv (.t83 v.2.2.2.1),lv (.t36 v.2.2.2.2.1),lv (.dF v.2.2.2.2.2.1),lv (.t83 v.2.2.2.2.2.2.1),lv (.dW v.2.2.2.2.2.2.2.1),S v.2.2.2.2.2.2.2.2.1,lv (.t83 v.2.2.2.2.2.2.2.2.2.1),lv (.t206 v.2.2.2.2.2.2.2.2.2.2.1),lv (.t213 v.2.2.2.2.2.2.2.2.2.2.2.1),lv (.bY v.2.2.2.2.2.2.2.2.2.2.2.2.1),lv (.t9 v.2.2.2.2.2.2.2.2.2.2.2.2.2.1),lv (.t9 v.2.2.2.2.2.2.2.2.2.2.2.2.2.2.1),lv (.t9 v.2.2.2.2.2.2.2.2.2.2.2.2.2.2.2.1),lv (.t9 v.2.2.2.2.2.2.2.2.2.2.2.2.2.2.2.2.1),lv (.t9 v.2.2.2.2.2.2.2.2.2.2.2.2.2.2.2.2.2.1),lv (.t47 v.2.2.2.2.2.2.2.2.2.2.2.2.2.2.2.2.2.2.1),lv (.cZ v.2.2.2.2.2.2.2.2.2.2.2.2.2.2.2.2.2.2.2.1),lv (.cO v.2.2.2.2.2.2.2.2.2.2.2.2.2.2.2.2.2.2.2.2.1),I v.2.2.2.2.2.2.2.2.2.2.2.2.2.2.2.2.2.2.2.2.2])],1001⟩
def Ld [An A (Nat×Tu7)](D6:Ab->Aa->Option Tu5)(Hb:Ab->(List Aa)->Option ((List Aa)×Ab))(L:Nat)(a1:List Aa)(rec:List Aa->Int->Yb->List Ai->List Ac->List Bf->List Ai->List Ap->Yb->List Ai->List Ah->List Ao->List Ar->List Yb->List Yb->List Yb->List Yb->List Yb->List Al->List Bt->List Bg->Int->A)(Aq:List Aa)(Cs:Int)(Hs:Yb)(S6:List Ai)(S7:List Ac)(C4:List Bf)(C5:List Ai)(J9:List Ap)(Ka:Yb)(Kb:List Ai)(Kc:List Ah)(Kd:List Ao)(Ke:List Ar)(Kf:List Yb)(Ct:List Yb)(Cu:List Yb)(Kg:List Yb)(B6:List Yb)(H3:List Al)(Gs:List Bt)(Dd:List Bg)(Gv:Int):A:=
 (lw Cs a1
 (bd (D6 (⟨(⟨Hs,S6,S7,C4⟩:Ag),(⟨C5,J9,(⟨Ka,Kb,Kc,Kd,Ke,Kf,Ct,Cu,Kg,B6,H3,Gs,Dd⟩:Ac)⟩:Az),Gv⟩:Ab) (Aa.cp (gD a1 Cs))) λr1=>
 (gq ((Aq.length+ [(Aa.cp r1.1)].length)*56<=140737488355328)
 (gq (Aq.length+ [(Aa.cp r1.1)].length<=maxLen)
 (rec (Aq++ [(Aa.cp r1.1)]) (Bb (Cs+1)) r1.2.bM.aG r1.2.bM.aJ r1.2.bM.aD r1.2.bM.bC r1.2.aF.aJ r1.2.aF.aL r1.2.aF.aI.aG r1.2.aF.aI.bG r1.2.aF.aI.aM r1.2.aF.aI.aO r1.2.aF.aI.bH r1.2.aF.aI.aX r1.2.aF.aI.aR r1.2.aF.aI.aT r1.2.aF.aI.bA r1.2.aF.aI.aU r1.2.aF.aI.aA r1.2.aF.aI.aZ r1.2.aF.aI.Laws r1.2.aW))))
 (lf (0,Aq,Cs,Hs,S6,S7,C4,C5,J9,Ka,Kb,Kc,Kd,Ke,Kf,Ct,Cu,Kg,B6,H3,Gs,Dd,Gv)))
def Ep(D6:Ab->Aa->Option Tu5)(Hb:Ab->(List Aa)->Option ((List Aa)×Ab))(L:Nat)(a1:List Aa):Nat->List Aa->Int->Yb->List Ai->List Ac->List Bf->List Ai->List Ap->Yb->List Ai->List Ah->List Ao->List Ar->List Yb->List Yb->List Yb->List Yb->List Yb->List Al->List Bt->List Bg->Int->Option (Nat×Tu7)
 |0,_,_,_,_,_,_,_,_,_,_,_,_,_,_,_,_,_,_,_,_,_,_=>none
 |n+1,Aq,Cs,Hs,S6,S7,C4,C5,J9,Ka,Kb,Kc,Kd,Ke,Kf,Ct,Cu,Kg,B6,H3,Gs,Dd,Gv=>Ld D6 Hb L a1 (Ep D6 Hb L a1 n) Aq Cs Hs S6 S7 C4 C5 J9 Ka Kb Kc Kd Ke Kf Ct Cu Kg B6 H3 Gs Dd Gv
theorem Bni(D6:Ab->Aa->Option Tu5)(Hb:Ab->(List Aa)->Option ((List Aa)×Ab))(L:Nat)(K:Hp)(a1:List Aa):LP (EV (O61 D6 Hb L) L 9 c61.w.l.u.l.l) [0,1,4,5,8,9,10] [0] (Bpe a1) [.exit 0] (λn v=>Ep D6 Hb L a1 n v.1 v.2.1 v.2.2.1 v.2.2.2.1 v.2.2.2.2.1 v.2.2.2.2.2.1 v.2.2.2.2.2.2.1 v.2.2.2.2.2.2.2.1 v.2.2.2.2.2.2.2.2.1 v.2.2.2.2.2.2.2.2.2.1 v.2.2.2.2.2.2.2.2.2.2.1 v.2.2.2.2.2.2.2.2.2.2.2.1 v.2.2.2.2.2.2.2.2.2.2.2.2.1 v.2.2.2.2.2.2.2.2.2.2.2.2.2.1 v.2.2.2.2.2.2.2.2.2.2.2.2.2.2.1 v.2.2.2.2.2.2.2.2.2.2.2.2.2.2.2.1 v.2.2.2.2.2.2.2.2.2.2.2.2.2.2.2.2.1 v.2.2.2.2.2.2.2.2.2.2.2.2.2.2.2.2.2.1 v.2.2.2.2.2.2.2.2.2.2.2.2.2.2.2.2.2.2.1 v.2.2.2.2.2.2.2.2.2.2.2.2.2.2.2.2.2.2.2.1 v.2.2.2.2.2.2.2.2.2.2.2.2.2.2.2.2.2.2.2.2.1 v.2.2.2.2.2.2.2.2.2.2.2.2.2.2.2.2.2.2.2.2.2) K:=lE (λ_=>rfl) λn v ih=>eE (Ld D6 Hb L a1 (λAq Cs Hs S6 S7 C4 C5 J9 Ka Kb Kc Kd Ke Kf Ct Cu Kg B6 H3 Gs Dd Gv=>re (ih (Aq,Cs,Hs,S6,S7,C4,C5,J9,Ka,Kb,Kc,Kd,Ke,Kf,Ct,Cu,Kg,B6,H3,Gs,Dd,Gv))) v.1 v.2.1 v.2.2.1 v.2.2.2.1 v.2.2.2.2.1 v.2.2.2.2.2.1 v.2.2.2.2.2.2.1 v.2.2.2.2.2.2.2.1 v.2.2.2.2.2.2.2.2.1 v.2.2.2.2.2.2.2.2.2.1 v.2.2.2.2.2.2.2.2.2.2.1 v.2.2.2.2.2.2.2.2.2.2.2.1 v.2.2.2.2.2.2.2.2.2.2.2.2.1 v.2.2.2.2.2.2.2.2.2.2.2.2.2.1 v.2.2.2.2.2.2.2.2.2.2.2.2.2.2.1 v.2.2.2.2.2.2.2.2.2.2.2.2.2.2.2.1 v.2.2.2.2.2.2.2.2.2.2.2.2.2.2.2.2.1 v.2.2.2.2.2.2.2.2.2.2.2.2.2.2.2.2.2.1 v.2.2.2.2.2.2.2.2.2.2.2.2.2.2.2.2.2.2.1 v.2.2.2.2.2.2.2.2.2.2.2.2.2.2.2.2.2.2.2.1 v.2.2.2.2.2.2.2.2.2.2.2.2.2.2.2.2.2.2.2.2.1 v.2.2.2.2.2.2.2.2.2.2.2.2.2.2.2.2.2.2.2.2.2)
def Gd [An A ((List Aa)×Ab)](D6:Ab->Aa->Option Tu5)(Hb:Ab->(List Aa)->Option ((List Aa)×Ab))(L:Nat)(o2:Nat×Tu7):A:=
 (sl o2.1 [(lf (o2.2.1,(⟨(⟨o2.2.2.2.1,o2.2.2.2.2.1,o2.2.2.2.2.2.1,o2.2.2.2.2.2.2.1⟩:Ag),(⟨o2.2.2.2.2.2.2.2.1,o2.2.2.2.2.2.2.2.2.1,(⟨o2.2.2.2.2.2.2.2.2.2.1,o2.2.2.2.2.2.2.2.2.2.2.1,o2.2.2.2.2.2.2.2.2.2.2.2.1,o2.2.2.2.2.2.2.2.2.2.2.2.2.1,o2.2.2.2.2.2.2.2.2.2.2.2.2.2.1,o2.2.2.2.2.2.2.2.2.2.2.2.2.2.2.1,o2.2.2.2.2.2.2.2.2.2.2.2.2.2.2.2.1,o2.2.2.2.2.2.2.2.2.2.2.2.2.2.2.2.2.1,o2.2.2.2.2.2.2.2.2.2.2.2.2.2.2.2.2.2.1,o2.2.2.2.2.2.2.2.2.2.2.2.2.2.2.2.2.2.2.1,o2.2.2.2.2.2.2.2.2.2.2.2.2.2.2.2.2.2.2.2.1,o2.2.2.2.2.2.2.2.2.2.2.2.2.2.2.2.2.2.2.2.2.1,o2.2.2.2.2.2.2.2.2.2.2.2.2.2.2.2.2.2.2.2.2.2.1⟩:Ac)⟩:Az),o2.2.2.2.2.2.2.2.2.2.2.2.2.2.2.2.2.2.2.2.2.2.2⟩:Ab)))])
def S2 [An A ((List Aa)×Ab)](D6:Ab->Aa->Option Tu5)(Hb:Ab->(List Aa)->Option ((List Aa)×Ab))(L:Nat)(a0:Ab)(a1:List Aa):A:=(bd (Ep D6 Hb L a1 L [] 0 a0.bM.aG a0.bM.aJ a0.bM.aD a0.bM.bC a0.aF.aJ a0.aF.aL a0.aF.aI.aG a0.aF.aI.bG a0.aF.aI.aM a0.aF.aI.aO a0.aF.aI.bH a0.aF.aI.aX a0.aF.aI.aR a0.aF.aI.aT a0.aF.aI.bA a0.aF.aI.aU a0.aF.aI.aA a0.aF.aI.aZ a0.aF.aI.Laws a0.aW) λo2=>Gd D6 Hb L o2)
def N9(D6:Ab->Aa->Option Tu5)(Hb:Ab->(List Aa)->Option ((List Aa)×Ab))(L:Nat)(a0:Ab)(a1:List Aa):Option ((List Aa)×Ab):=S2 D6 Hb L a0 a1
theorem b61(D6:Ab->Aa->Option Tu5)(Hb:Ab->(List Aa)->Option ((List Aa)×Ab))(A43:A70 D6)(A45:A72 Hb)(L:Nat):A72 (N9 D6 Hb L):=λa0 a1 r h=>hFS (o0:=false) Tryz.func61 (s61 D6 Hb A43 A45 L) L (λkk=>eE ((hq (Bni D6 Hb L (KA (O61 D6 Hb L) L 9 c61 (rl [4,1,2,1]) (KJ Tryz.f61 (kSt false kk))) a1 L ([],0,a0.bM.aG,a0.bM.aJ,a0.bM.aD,a0.bM.bC,a0.aF.aJ,a0.aF.aL,a0.aF.aI.aG,a0.aF.aI.bG,a0.aF.aI.aM,a0.aF.aI.aO,a0.aF.aI.bH,a0.aF.aI.aX,a0.aF.aI.aR,a0.aF.aI.aT,a0.aF.aI.bA,a0.aF.aI.aU,a0.aF.aI.aA,a0.aF.aI.aZ,a0.aF.aI.Laws,a0.aW)) λo2=>Gd D6 Hb L o2))) h
mutual
def Ba:Nat->Ab->Aa->Option Tu5
 |0,_,_=>none
 |L+1,a0,a1=>Ox (Ba L) (Bw L) L a0 a1
def Bw:Nat->Ab->(List Aa)->Option ((List Aa)×Ab)
 |0,_,_=>none
 |L+1,a0,a1=>N9 (Ba L) (Bw L) L a0 a1
end
theorem Bbg(L:Nat):A70 (Ba L)/\A72 (Bw L):=by
 induction L with
 |zero=>exact⟨λ_ _ _ h=>(by cases h),λ_ _ _ h=>(by cases h)⟩
 |succ L ih=>
  obtain⟨i36,i61⟩:=ih;exact⟨b36 (Ba L) (Bw L) i36 i61 L,b61 (Ba L) (Bw L) i36 i61 L⟩
def X36(L:Nat):N1:=E2 (λ(x:Tu5)=>.bI [.agg (Hv x.1),.agg (Bk x.2)]) 36 B8 B4 (Ba L) ((Bbg L).1)
def X61(L:Nat):N1:=E2 (λ(x:(List Aa)×Ab)=>.bI [lv (.t53 x.1),.agg (Bk x.2)]) 61 B8 Aur (Bw L) ((Bbg L).2)
def c54:=CC Tryz.f54
def O54(L:Nat):Bj:=oL []
def Bpa(a1:Int)(v:Int):St:=⟨[(0,.any),(1,I a1),(4,Axx),(5,Axx),(10,I 0),(11,I v)],[],0⟩
def R4 [An A (Nat×Int)](L:Nat)(a1:Int)(rec:Int->A)(Cs:Int):A:=
 (cn (decide (Cs<0))
 (gq (0<=Cs)
 (gq (Cs<((0:Nat):Int))
 (jb (.cn ((gD ([]:List Ae) Cs).Op == 4)
 (.lf true)
 (.gq (0<=Cs)
 (.gq (Cs<((0:Nat):Int))
 (.lf ((gD ([]:List Ae) Cs).Op == 5))))) (λb1=>
 (cn b1
 (gq (0<=Cs)
 (gq (Cs<((0:Nat):Int))
 (gq (0<=Cs)
 (gq (Cs<((0:Nat):Int))
 fl))))
 (rec (Bb (Cs+1))))))))
 (lf (0,Cs)))
def Km(L:Nat)(a1:Int):Nat->Int->Option (Nat×Int)
 |0,_=>none
 |n+1,Cs=>R4 L a1 (Km L a1 n) Cs
theorem Bbu(a1:Int):LP (EV (O54 L) L 9 c54.w.l.u.l.l) [0,1,4,5,10,11] [] (Bpa a1) [.exit 0] (Km L a1) K:=lE (λ_=>rfl) λn v ih=>eE (R4 L a1 (λCs=>re (ih Cs)) v)
def Bpb(a1:Int)(a0:List Ae)(v:Int×List Ae):St:=⟨[(0,.any),(1,I a1),(4,Axx),(5,.vw false 1007 59 20 a0.length),(10,I (a0.length:Int)),(11,I v.1)],[(1007,[.bU (.t59 v.2)])],0⟩
def R5 [An A (Nat×Int×List Ae)](L:Nat)(a1:Int)(a0:List Ae)(rec:Int->List Ae->A)(Dp:Int)(Lv:List Ae):A:=
 (lw Dp a0
 (jb (.cn ((gD Lv Dp).Op == 4)
 (.lf true)
 (.gq (0<=Dp)
 (.gq (Dp<(a0.length:Int))
 (.lf ((gD Lv Dp).Op == 5))))) (λb2=>
 (cn b2
 (gi Dp a0
 (gi Dp a0
 (rec (Bb (Dp+1)) (Lv.set (Int.toNat Dp) (⟨(gD Lv Dp).Op,(Bb ((gD Lv Dp).A+a1)),(gD Lv Dp).B,(gD Lv Dp).C,(Aa.cp ((gD Lv Dp).E)),(Aa.cp ((gD Lv Dp).F)),(gD Lv Dp).aS,((gD Lv Dp).bR),(gD Lv Dp).bZ⟩:Ae)))))
 (rec (Bb (Dp+1)) Lv))))
 (lf (0,Dp,Lv)))
def Ip(L:Nat)(a1:Int)(a0:List Ae):Nat->Int->List Ae->Option (Nat×Int×List Ae)
 |0,_,_=>none
 |n+1,Dp,Lv=>R5 L a1 a0 (Ip L a1 a0 n) Dp Lv
theorem Bnf(a1:Int)(a0:List Ae):LP (EV (O54 L) L 9 c54.w.l.u.l.l) [0,1,4,5,10,11] [1007] (Bpb a1 a0) [.exit 0] (λn v=>Ip L a1 a0 n v.1 v.2) K:=lE (λ_=>rfl) λn v ih=>eE (R5 L a1 a0 (λDp Lv=>re (ih (Dp,Lv))) v.1 v.2)
def E6 [An A (List Ae)](L:Nat)(o3:Nat×Int):A:=
 (sl o3.1 [(lf [])])
def E7 [An A (List Ae)](L:Nat)(o4:Nat×Int):A:=
 (sl o4.1 [(lf [])])
def E8 [An A (List Ae)](L:Nat)(o5:Nat×Int×List Ae):A:=
 (sl o5.1 [(lf o5.2.2)])
def E9 [An A (List Ae)](L:Nat)(a0:List Ae)(a1:Int)(nx1:A)(nx2:A)(nx3:A):A:=
 (cn (Nat.beq a0.length 0)
 nx1
 (gq (0<a0.length)
 (cn (Nat.beq a0.length 0)
 nx2
 (gq (a0.length*256<=140737488355328)
 (gq (a0.length<=maxLen)
 nx3)))))
def Sk [An A (List Ae)](a0:List Ae)(a1:Int):A:=E9 L a0 a1 (bd (Km L a1 L 0) λo3=>E6 L o3) (bd (Km L a1 L 0) λo4=>E7 L o4) (bd (Ip L a1 a0 L 0 a0) λo5=>E8 L o5)
def F2(a0:List Ae)(a1:Int):Option (List Ae):=Sk L a0 a1
def X54:N1:=E2 (λ(x:List Ae)=>lv (.t59 x)) 54 Bas (cI .i64) (F2 L) λa0 a1 r h=>hF Tryz.func54 (C:=O54 L) (oS _) L (λkk=>eE (E9 L a0 a1 (hq (Bbu L (KA (O54 L) L 9 c54 (rl [4,1,2,1]) (KE Tryz.f54 kk)) a1 L 0) λo3=>E6 L o3) (hq (Bbu L (KA (O54 L) L 9 c54 (rl [4,1,2,1]) (KE Tryz.f54 kk)) a1 L 0) λo4=>E7 L o4) (hq (Bnf L (KA (O54 L) L 9 c54 (rl [4,1,2,1]) (KE Tryz.f54 kk)) a1 a0 L (0,a0)) λo5=>E8 L o5))) h
def O7 [An A (Ae×Ab)](a0:Ab)(a1:Ad):A:=
 (bd (Rx L a0.bM a1.Of) λr1=>
 (bd (Yd L a0.bM a0.aF.aI.aG a1.Of) λr2=>
 (gi r1 a0.bM.aD
 (bd (Ej L (gD a0.bM.aD r1) a1.aG) λr3=>
 (bd (Ba L a0 (Aa.cp a1.E)) λr4=>
 (bd (Bw L r4.2 a1.aS) λr5=>
 (lf ((⟨14,r1,r3,r2.1,(Aa.cp r4.1),(Aa.mk 0 (⟨#[]⟩:Yb) 0 []),r5.1,(⟨0,0,0,0,[],[]⟩:Aj),false⟩:Ae),r5.2))))))))
def Gx(a0:Ab)(a1:Ad):Option (Ae×Ab):=O7 L a0 a1
def X89:N1:=E2 (λ(x:Ae×Ab)=>.bI [.agg (Ael x.1),.agg (Bk x.2)]) 89 B8 Gg (Gx L) λa0 a1 r h=>hFS (o0:=false) Tryz.func89 (oS [X36 L,X49 L,X61 L,X90 L,Bqy L]) L (λkk=>eE (O7 L a0 a1)) h
end
end Go.Proofs.YtgacplpjamkieaaGreat.Ev
