import Derived.Test.YtgacplpjamkieaaGreatHG2
import Derived.Test.YtgacplpjamkieaaGreatHG5
import Derived.Test.YtgacplpjamkieaaGreatHG6
set_option maxRecDepth 100000
set_option maxHeartbeats 4000000
set_option linter.unusedVariables false
set_option linter.unusedSimpArgs false
set_option linter.unnecessarySimpa false
namespace Go.Proofs.YtgacplpjamkieaaGreat.Ev
open Go An
noncomputable section
variable {A:Type} (L n:Nat) (kk:Hf) (K:De) (k:C3)
def A3r(F:Ac->Aa->Option Tu7):Prop:=∀y0 y1 r,F y0 y1=some r->Ho Tryz.prog 36 [Bp.en y0,Ay.en y1] (λ(x:Tu7)=>.aY [.agg (Bm x.1),.agg (Bc x.2)]) r
def A3t(F:Ac->(List Aa)->Option ((List Aa)×Ac)):Prop:=∀y0 y1 r,F y0 y1=some r->Ho Tryz.prog 61 [Bp.en y0,Aq4.en y1] (λ(x:(List Aa)×Ac)=>.aY [lv (.t53 x.1),.agg (Bc x.2)]) r
def O36(Ec:Ac->Aa->Option Tu7)(Ed:Ac->(List Aa)->Option ((List Aa)×Ac))(L:Nat):Ba:=(orc 36 (A2 (λ(x:Tu7)=>.aY [.agg (Bm x.1),.agg (Bc x.2)]) Bp Ay Ec) (orc 61 (A2 (λ(x:(List Aa)×Ac)=>.aY [lv (.t53 x.1),.agg (Bc x.2)]) Bp Aq4 Ed) (oL [X58 L,X59 L,X60 L])))
theorem s36(Ec:Ac->Aa->Option Tu7)(Ed:Ac->(List Aa)->Option ((List Aa)×Ac))(A0w:A3r Ec)(A0y:A3t Ed)(L:Nat):B8 Tryz.prog (O36 Ec Ed L):=(B5 (a2 _ A0w) (B5 (a2 _ A0y) (oS [X58 L,X59 L,X60 L])))
def D9 [An A Tu7](Ec:Ac->Aa->Option Tu7)(Ed:Ac->(List Aa)->Option ((List Aa)×Ac))(L:Nat)(a0:Ac)(a1:Aa):A:=
 (cn (a1.Op == 3)
 (bd (Hn L a0 a1.aD) λr1=>
 (lf ((Aa.cp r1.1),r1.2)))
 (cn (a1.Op == 22)
 (cn (a1.Op == 22)
 (bd (Ch L a0 a1.aD) λr2=>
 (lf ((Aa.mk a1.Op (⟨#[]⟩:Yb) r2 []),a0)))
 (cn (a1.Op == 24)
 (bd (Ch L a0 a1.aD) λr3=>
 (bd (K9 L a0.aA.aF a1.aD) λr4=>
 (cn (r4.toList == (⟨#[113,117,101,117,101]⟩:Yb).toList)
 (lf ((Aa.mk a1.Op (⟨#[]⟩:Yb) (Cp (r3+(a0.aA.aF.aI.length:Int))) []),a0))
 (lf ((Aa.mk a1.Op (⟨#[]⟩:Yb) r3 []),a0)))))
 (bd (Ed a0 a1.aQ) λr5=>
 (lf ((Aa.mk a1.Op a1.aD a1.N r5.1),r5.2)))))
 (cn (a1.Op == 23)
 (bd (Ch L a0 a1.aD) λr6=>
 (lf ((Aa.mk a1.Op (⟨#[]⟩:Yb) r6 []),a0)))
 (cn (a1.Op == 24)
 (bd (Ch L a0 a1.aD) λr7=>
 (bd (K9 L a0.aA.aF a1.aD) λr8=>
 (cn (r8.toList == (⟨#[113,117,101,117,101]⟩:Yb).toList)
 (lf ((Aa.mk a1.Op (⟨#[]⟩:Yb) (Cp (r7+(a0.aA.aF.aI.length:Int))) []),a0))
 (lf ((Aa.mk a1.Op (⟨#[]⟩:Yb) r7 []),a0)))))
 (bd (Ed a0 a1.aQ) λr9=>
 (lf ((Aa.mk a1.Op a1.aD a1.N r9.1),r9.2)))))))
def D6(Ec:Ac->Aa->Option Tu7)(Ed:Ac->(List Aa)->Option ((List Aa)×Ac))(L:Nat)(a0:Ac)(a1:Aa):Option Tu7:=D9 Ec Ed L a0 a1
theorem b36(Ec:Ac->Aa->Option Tu7)(Ed:Ac->(List Aa)->Option ((List Aa)×Ac))(A0w:A3r Ec)(A0y:A3t Ed)(L:Nat):A3r (D6 Ec Ed L):=λa0 a1 r h=>hFS (o0:=false) Tryz.func36 (s36 Ec Ed A0w A0y L) L (λkk=>eE (D9 Ec Ed L a0 a1)) h
def c61:=CC Tryz.f61
def O61(Ec:Ac->Aa->Option Tu7)(Ed:Ac->(List Aa)->Option ((List Aa)×Ac))(L:Nat):Ba:=(orc 36 (A2 (λ(x:Tu7)=>.aY [.agg (Bm x.1),.agg (Bc x.2)]) Bp Ay Ec) (orc 61 (A2 (λ(x:(List Aa)×Ac)=>.aY [lv (.t53 x.1),.agg (Bc x.2)]) Bp Aq4 Ed) (oL [])))
theorem s61(Ec:Ac->Aa->Option Tu7)(Ed:Ac->(List Aa)->Option ((List Aa)×Ac))(A0w:A3r Ec)(A0y:A3t Ed)(L:Nat):B8 Tryz.prog (O61 Ec Ed L):=(B5 (a2 _ A0w) (B5 (a2 _ A0y) (oS [])))
def Bkk(a1:List Aa)(v:A9t):St:=⟨[(0,.loc 0 0),(1,.any),(4,.aO true (.t53 [])),(5,.aO true (.t53 v.1)),(8,lv (.t53 a1)),(9,I (a1.length:Int)),(10,I v.2.1)],[(0,[S v.2.2.1,lv (.t83 v.2.2.2.1),lv (.t36 v.2.2.2.2.1),lv (.bZ v.2.2.2.2.2.1),lv (.t83 v.2.2.2.2.2.2.1),lv (.dG v.2.2.2.2.2.2.2.1),S v.2.2.2.2.2.2.2.2.1,lv (.t83 v.2.2.2.2.2.2.2.2.2.1),lv (.t206 v.2.2.2.2.2.2.2.2.2.2.1),lv (.t213 v.2.2.2.2.2.2.2.2.2.2.2.1),lv (.bR v.2.2.2.2.2.2.2.2.2.2.2.2.1),lv (.t9 v.2.2.2.2.2.2.2.2.2.2.2.2.2.1),lv (.t9 v.2.2.2.2.2.2.2.2.2.2.2.2.2.2.1),lv (.t9 v.2.2.2.2.2.2.2.2.2.2.2.2.2.2.2.1),lv (.t9 v.2.2.2.2.2.2.2.2.2.2.2.2.2.2.2.2.1),lv (.t9 v.2.2.2.2.2.2.2.2.2.2.2.2.2.2.2.2.2.1),lv (.t47 v.2.2.2.2.2.2.2.2.2.2.2.2.2.2.2.2.2.2.1),lv (.bU v.2.2.2.2.2.2.2.2.2.2.2.2.2.2.2.2.2.2.2.1),lv (.bT v.2.2.2.2.2.2.2.2.2.2.2.2.2.2.2.2.2.2.2.2.1),I v.2.2.2.2.2.2.2.2.2.2.2.2.2.2.2.2.2.2.2.2.2])],1001⟩
def Hi [An A (Nat×A9t)](Ec:Ac->Aa->Option Tu7)(Ed:Ac->(List Aa)->Option ((List Aa)×Ac))(L:Nat)(a1:List Aa)(rec:List Aa->Int->Yb->List Ag->List Ab->List Bs->List Ag->List Aw->Yb->List Ag->List Ai->List Ak->List Av->List Yb->List Yb->List Yb->List Yb->List Yb->List Am->List Bq->List Bh->Int->A)(Aq:List Aa)(Bj:Int)(Gl:Yb)(Wd:List Ag)(We:List Ab)(D2:List Bs)(D3:List Ag)(Lw:List Aw)(Lx:Yb)(Ly:List Ag)(Lz:List Ai)(L1:List Ak)(D5:List Av)(L2:List Yb)(Dc:List Yb)(Dd:List Yb)(L3:List Yb)(Dp:List Yb)(Dt:List Am)(Df:List Bq)(B6:List Bh)(Hg:Int):A:=
 (lw Bj a1
 (bd (Ec (⟨(⟨Gl,Wd,We,D2⟩:Al),(⟨D3,Lw,(⟨Lx,Ly,Lz,L1,D5,L2,Dc,Dd,L3,Dp,Dt,Df,B6⟩:Ab)⟩:Ao),Hg⟩:Ac) (Aa.cp (gD a1 Bj))) λr1=>
 (gq ((Aq.length+ [(Aa.cp r1.1)].length)*56<=140737488355328)
 (gq (Aq.length+ [(Aa.cp r1.1)].length<=maxLen)
 (rec (Aq++ [(Aa.cp r1.1)]) (Cp (Bj+1)) r1.2.bK.aD r1.2.bK.aK r1.2.bK.aU r1.2.bK.bJ r1.2.aA.aK r1.2.aA.aP r1.2.aA.aF.aD r1.2.aA.aF.aX r1.2.aA.aF.aI r1.2.aA.aF.aJ r1.2.aA.aF.aZ r1.2.aA.aF.aV r1.2.aA.aF.aR r1.2.aA.aF.aS r1.2.aA.aF.aW r1.2.aA.aF.aT r1.2.aA.aF.aG r1.2.aA.aF.bB r1.2.aA.aF.Laws r1.2.bQ))))
 (lf (0,Aq,Bj,Gl,Wd,We,D2,D3,Lw,Lx,Ly,Lz,L1,D5,L2,Dc,Dd,L3,Dp,Dt,Df,B6,Hg)))
def C7(Ec:Ac->Aa->Option Tu7)(Ed:Ac->(List Aa)->Option ((List Aa)×Ac))(L:Nat)(a1:List Aa):Nat->List Aa->Int->Yb->List Ag->List Ab->List Bs->List Ag->List Aw->Yb->List Ag->List Ai->List Ak->List Av->List Yb->List Yb->List Yb->List Yb->List Yb->List Am->List Bq->List Bh->Int->Option (Nat×A9t)
 |0,_,_,_,_,_,_,_,_,_,_,_,_,_,_,_,_,_,_,_,_,_,_=>none
 |n+1,Aq,Bj,Gl,Wd,We,D2,D3,Lw,Lx,Ly,Lz,L1,D5,L2,Dc,Dd,L3,Dp,Dt,Df,B6,Hg=>Hi Ec Ed L a1 (C7 Ec Ed L a1 n) Aq Bj Gl Wd We D2 D3 Lw Lx Ly Lz L1 D5 L2 Dc Dd L3 Dp Dt Df B6 Hg
theorem Bi3(Ec:Ac->Aa->Option Tu7)(Ed:Ac->(List Aa)->Option ((List Aa)×Ac))(L:Nat)(K:De)(a1:List Aa):LP (EV (O61 Ec Ed L) L 9 c61.w.l.u.l.l) [0,1,4,5,8,9,10] [0] (Bkk a1) [.exit 0] (λn v=>C7 Ec Ed L a1 n v.1 v.2.1 v.2.2.1 v.2.2.2.1 v.2.2.2.2.1 v.2.2.2.2.2.1 v.2.2.2.2.2.2.1 v.2.2.2.2.2.2.2.1 v.2.2.2.2.2.2.2.2.1 v.2.2.2.2.2.2.2.2.2.1 v.2.2.2.2.2.2.2.2.2.2.1 v.2.2.2.2.2.2.2.2.2.2.2.1 v.2.2.2.2.2.2.2.2.2.2.2.2.1 v.2.2.2.2.2.2.2.2.2.2.2.2.2.1 v.2.2.2.2.2.2.2.2.2.2.2.2.2.2.1 v.2.2.2.2.2.2.2.2.2.2.2.2.2.2.2.1 v.2.2.2.2.2.2.2.2.2.2.2.2.2.2.2.2.1 v.2.2.2.2.2.2.2.2.2.2.2.2.2.2.2.2.2.1 v.2.2.2.2.2.2.2.2.2.2.2.2.2.2.2.2.2.2.1 v.2.2.2.2.2.2.2.2.2.2.2.2.2.2.2.2.2.2.2.1 v.2.2.2.2.2.2.2.2.2.2.2.2.2.2.2.2.2.2.2.2.1 v.2.2.2.2.2.2.2.2.2.2.2.2.2.2.2.2.2.2.2.2.2) K:=lE (λ_=>rfl) λn v ih=>eE (Hi Ec Ed L a1 (λAq Bj Gl Wd We D2 D3 Lw Lx Ly Lz L1 D5 L2 Dc Dd L3 Dp Dt Df B6 Hg=>re (ih (Aq,Bj,Gl,Wd,We,D2,D3,Lw,Lx,Ly,Lz,L1,D5,L2,Dc,Dd,L3,Dp,Dt,Df,B6,Hg))) v.1 v.2.1 v.2.2.1 v.2.2.2.1 v.2.2.2.2.1 v.2.2.2.2.2.1 v.2.2.2.2.2.2.1 v.2.2.2.2.2.2.2.1 v.2.2.2.2.2.2.2.2.1 v.2.2.2.2.2.2.2.2.2.1 v.2.2.2.2.2.2.2.2.2.2.1 v.2.2.2.2.2.2.2.2.2.2.2.1 v.2.2.2.2.2.2.2.2.2.2.2.2.1 v.2.2.2.2.2.2.2.2.2.2.2.2.2.1 v.2.2.2.2.2.2.2.2.2.2.2.2.2.2.1 v.2.2.2.2.2.2.2.2.2.2.2.2.2.2.2.1 v.2.2.2.2.2.2.2.2.2.2.2.2.2.2.2.2.1 v.2.2.2.2.2.2.2.2.2.2.2.2.2.2.2.2.2.1 v.2.2.2.2.2.2.2.2.2.2.2.2.2.2.2.2.2.2.1 v.2.2.2.2.2.2.2.2.2.2.2.2.2.2.2.2.2.2.2.1 v.2.2.2.2.2.2.2.2.2.2.2.2.2.2.2.2.2.2.2.2.1 v.2.2.2.2.2.2.2.2.2.2.2.2.2.2.2.2.2.2.2.2.2)
def Hk [An A ((List Aa)×Ac)](Ec:Ac->Aa->Option Tu7)(Ed:Ac->(List Aa)->Option ((List Aa)×Ac))(L:Nat)(o2:Nat×A9t):A:=
 (sl o2.1 [(lf (o2.2.1,(⟨(⟨o2.2.2.2.1,o2.2.2.2.2.1,o2.2.2.2.2.2.1,o2.2.2.2.2.2.2.1⟩:Al),(⟨o2.2.2.2.2.2.2.2.1,o2.2.2.2.2.2.2.2.2.1,(⟨o2.2.2.2.2.2.2.2.2.2.1,o2.2.2.2.2.2.2.2.2.2.2.1,o2.2.2.2.2.2.2.2.2.2.2.2.1,o2.2.2.2.2.2.2.2.2.2.2.2.2.1,o2.2.2.2.2.2.2.2.2.2.2.2.2.2.1,o2.2.2.2.2.2.2.2.2.2.2.2.2.2.2.1,o2.2.2.2.2.2.2.2.2.2.2.2.2.2.2.2.1,o2.2.2.2.2.2.2.2.2.2.2.2.2.2.2.2.2.1,o2.2.2.2.2.2.2.2.2.2.2.2.2.2.2.2.2.2.1,o2.2.2.2.2.2.2.2.2.2.2.2.2.2.2.2.2.2.2.1,o2.2.2.2.2.2.2.2.2.2.2.2.2.2.2.2.2.2.2.2.1,o2.2.2.2.2.2.2.2.2.2.2.2.2.2.2.2.2.2.2.2.2.1,o2.2.2.2.2.2.2.2.2.2.2.2.2.2.2.2.2.2.2.2.2.2.1⟩:Ab)⟩:Ao),o2.2.2.2.2.2.2.2.2.2.2.2.2.2.2.2.2.2.2.2.2.2.2⟩:Ac)))])
def S3 [An A ((List Aa)×Ac)](Ec:Ac->Aa->Option Tu7)(Ed:Ac->(List Aa)->Option ((List Aa)×Ac))(L:Nat)(a0:Ac)(a1:List Aa):A:=(bd (C7 Ec Ed L a1 L [] 0 a0.bK.aD a0.bK.aK a0.bK.aU a0.bK.bJ a0.aA.aK a0.aA.aP a0.aA.aF.aD a0.aA.aF.aX a0.aA.aF.aI a0.aA.aF.aJ a0.aA.aF.aZ a0.aA.aF.aV a0.aA.aF.aR a0.aA.aF.aS a0.aA.aF.aW a0.aA.aF.aT a0.aA.aF.aG a0.aA.aF.bB a0.aA.aF.Laws a0.bQ) λo2=>Hk Ec Ed L o2)
def L9(Ec:Ac->Aa->Option Tu7)(Ed:Ac->(List Aa)->Option ((List Aa)×Ac))(L:Nat)(a0:Ac)(a1:List Aa):Option ((List Aa)×Ac):=S3 Ec Ed L a0 a1
theorem b61(Ec:Ac->Aa->Option Tu7)(Ed:Ac->(List Aa)->Option ((List Aa)×Ac))(A0w:A3r Ec)(A0y:A3t Ed)(L:Nat):A3t (L9 Ec Ed L):=λa0 a1 r h=>hFS (o0:=false) Tryz.func61 (s61 Ec Ed A0w A0y L) L (λkk=>eE ((hq (Bi3 Ec Ed L (KA (O61 Ec Ed L) L 9 c61 (rl [4,1,2,1]) (KJ Tryz.f61 (kSt false kk))) a1 L ([],0,a0.bK.aD,a0.bK.aK,a0.bK.aU,a0.bK.bJ,a0.aA.aK,a0.aA.aP,a0.aA.aF.aD,a0.aA.aF.aX,a0.aA.aF.aI,a0.aA.aF.aJ,a0.aA.aF.aZ,a0.aA.aF.aV,a0.aA.aF.aR,a0.aA.aF.aS,a0.aA.aF.aW,a0.aA.aF.aT,a0.aA.aF.aG,a0.aA.aF.bB,a0.aA.aF.Laws,a0.bQ)) λo2=>Hk Ec Ed L o2))) h
mutual
def Bf:Nat->Ac->Aa->Option Tu7
 |0,_,_=>none
 |L+1,a0,a1=>D6 (Bf L) (Ca L) L a0 a1
def Ca:Nat->Ac->(List Aa)->Option ((List Aa)×Ac)
 |0,_,_=>none
 |L+1,a0,a1=>L9 (Bf L) (Ca L) L a0 a1
end
theorem A6r(L:Nat):A3r (Bf L)/\A3t (Ca L):=by
 induction L with
 |zero=>exact⟨λ_ _ _ h=>(by cases h),λ_ _ _ h=>(by cases h)⟩
 |succ L ih=>
  obtain⟨i36,i61⟩:=ih;exact⟨b36 (Bf L) (Ca L) i36 i61 L,b61 (Bf L) (Ca L) i36 i61 L⟩
def X36(L:Nat):Fs:=E2 (λ(x:Tu7)=>.aY [.agg (Bm x.1),.agg (Bc x.2)]) 36 Bp Ay (Bf L) ((A6r L).1)
def X61(L:Nat):Fs:=E2 (λ(x:(List Aa)×Ac)=>.aY [lv (.t53 x.1),.agg (Bc x.2)]) 61 Bp Aq4 (Ca L) ((A6r L).2)
def c54:=CC Tryz.f54
def O54(L:Nat):Ba:=oL []
def Bkh(a1:Int)(v:Int):St:=⟨[(0,.any),(1,I a1),(4,A2a),(5,A2a),(10,I 0),(11,I v)],[],0⟩
def Xr [An A (Nat×Int)](L:Nat)(a1:Int)(rec:Int->A)(Bj:Int):A:=
 (cn (decide (Bj<0))
 (gq (0<=Bj)
 (gq (Bj<((0:Nat):Int))
 (jb (.cn ((gD ([]:List Ad) Bj).Op == 4)
 (.lf true)
 (.gq (0<=Bj)
 (.gq (Bj<((0:Nat):Int))
 (.lf ((gD ([]:List Ad) Bj).Op == 5))))) (λb1=>
 (cn b1
 (gq (0<=Bj)
 (gq (Bj<((0:Nat):Int))
 (gq (0<=Bj)
 (gq (Bj<((0:Nat):Int))
 fl))))
 (rec (Cp (Bj+1))))))))
 (lf (0,Bj)))
def Lh(L:Nat)(a1:Int):Nat->Int->Option (Nat×Int)
 |0,_=>none
 |n+1,Bj=>Xr L a1 (Lh L a1 n) Bj
theorem A67(a1:Int):LP (EV (O54 L) L 9 c54.w.l.u.l.l) [0,1,4,5,10,11] [] (Bkh a1) [.exit 0] (Lh L a1) K:=lE (λ_=>rfl) λn v ih=>eE (Xr L a1 (λBj=>re (ih Bj)) v)
def Bki(a1:Int)(a0:List Ad)(v:Int×List Ad):St:=⟨[(0,.any),(1,I a1),(4,A2a),(5,.vw false 1007 59 20 a0.length),(10,I (a0.length:Int)),(11,I v.1)],[(1007,[.bG (.t59 v.2)])],0⟩
def Xs [An A (Nat×Int×List Ad)](L:Nat)(a1:Int)(a0:List Ad)(rec:Int->List Ad->A)(Nd:Int)(Sp:List Ad):A:=
 (lw Nd a0
 (jb (.cn ((gD Sp Nd).Op == 4)
 (.lf true)
 (.gq (0<=Nd)
 (.gq (Nd<(a0.length:Int))
 (.lf ((gD Sp Nd).Op == 5))))) (λb2=>
 (cn b2
 (gi Nd a0
 (gi Nd a0
 (rec (Cp (Nd+1)) (Sp.set (Int.toNat Nd) (⟨(gD Sp Nd).Op,(Cp ((gD Sp Nd).A+a1)),(gD Sp Nd).B,(gD Sp Nd).C,(Aa.cp ((gD Sp Nd).E)),(Aa.cp ((gD Sp Nd).F)),(gD Sp Nd).bM,((gD Sp Nd).bW),(gD Sp Nd).cZ⟩:Ad)))))
 (rec (Cp (Nd+1)) Sp))))
 (lf (0,Nd,Sp)))
def P8(L:Nat)(a1:Int)(a0:List Ad):Nat->Int->List Ad->Option (Nat×Int×List Ad)
 |0,_,_=>none
 |n+1,Nd,Sp=>Xs L a1 a0 (P8 L a1 a0 n) Nd Sp
theorem Bi1(a1:Int)(a0:List Ad):LP (EV (O54 L) L 9 c54.w.l.u.l.l) [0,1,4,5,10,11] [1007] (Bki a1 a0) [.exit 0] (λn v=>P8 L a1 a0 n v.1 v.2) K:=lE (λ_=>rfl) λn v ih=>eE (Xs L a1 a0 (λNd Sp=>re (ih (Nd,Sp))) v.1 v.2)
def X0 [An A (List Ad)](L:Nat)(o3:Nat×Int):A:=
 (sl o3.1 [(lf [])])
def X1 [An A (List Ad)](L:Nat)(o4:Nat×Int):A:=
 (sl o4.1 [(lf [])])
def X2 [An A (List Ad)](L:Nat)(o5:Nat×Int×List Ad):A:=
 (sl o5.1 [(lf o5.2.2)])
def Ym [An A (List Ad)](L:Nat)(a0:List Ad)(a1:Int)(nx1:A)(nx2:A)(nx3:A):A:=
 (cn (Nat.beq a0.length 0)
 nx1
 (gq (0<a0.length)
 (cn (Nat.beq a0.length 0)
 nx2
 (gq (a0.length*256<=140737488355328)
 (gq (a0.length<=maxLen)
 nx3)))))
def Aol [An A (List Ad)](a0:List Ad)(a1:Int):A:=Ym L a0 a1 (bd (Lh L a1 L 0) λo3=>X0 L o3) (bd (Lh L a1 L 0) λo4=>X1 L o4) (bd (P8 L a1 a0 L 0 a0) λo5=>X2 L o5)
def Pn(a0:List Ad)(a1:Int):Option (List Ad):=Aol L a0 a1
def X54:Fs:=E2 (λ(x:List Ad)=>lv (.t59 x)) 54 Brx (cI .i64) (Pn L) λa0 a1 r h=>hF Tryz.func54 (C:=O54 L) (oS _) L (λkk=>eE (Ym L a0 a1 (hq (A67 L (KA (O54 L) L 9 c54 (rl [4,1,2,1]) (KE Tryz.f54 kk)) a1 L 0) λo3=>X0 L o3) (hq (A67 L (KA (O54 L) L 9 c54 (rl [4,1,2,1]) (KE Tryz.f54 kk)) a1 L 0) λo4=>X1 L o4) (hq (Bi1 L (KA (O54 L) L 9 c54 (rl [4,1,2,1]) (KE Tryz.f54 kk)) a1 a0 L (0,a0)) λo5=>X2 L o5))) h
def Uz [An A (Ad×Ac)](a0:Ac)(a1:Ae):A:=
 (bd (Rc L a0.bK a1.Of) λr1=>
 (bd (Acr L a0.bK a0.aA.aF.aD a1.Of) λr2=>
 (gi r1 a0.bK.aU
 (bd (Dg L (gD a0.bK.aU r1) a1.aD) λr3=>
 (bd (Bf L a0 (Aa.cp a1.E)) λr4=>
 (bd (Ca L r4.2 a1.bM) λr5=>
 (lf ((⟨14,r1,r3,r2.1,(Aa.cp r4.1),(Aa.mk 0 (⟨#[]⟩:Yb) 0 []),r5.1,(⟨0,0,0,0,[],[]⟩:Ah),false⟩:Ad),r5.2))))))))
def Uv(a0:Ac)(a1:Ae):Option (Ad×Ac):=Uz L a0 a1
def X89:Fs:=E2 (λ(x:Ad×Ac)=>.aY [.agg (An0 x.1),.agg (Bc x.2)]) 89 Bp Dv (Uv L) λa0 a1 r h=>hFS (o0:=false) Tryz.func89 (oS [X36 L,X49 L,X61 L,X90 L,Bl3 L]) L (λkk=>eE (Uz L a0 a1)) h
end
end Go.Proofs.YtgacplpjamkieaaGreat.Ev
