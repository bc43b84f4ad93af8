import Derived.Test.YthjhkpgonleelaaGreatDoorDG8
import Derived.Test.YthjhkpgonleelaaGreatDoorDG9
set_option maxRecDepth 100000
set_option maxHeartbeats 4000000
set_option linter.unusedVariables false
set_option linter.unusedSimpArgs false
set_option linter.unnecessarySimpa false
namespace Go.Proofs.YthjhkpgonleelaaGreatDoor.Ev
open Go An
noncomputable section
variable {A:Type} (L n:Nat) (kk:Lr) (K:Ei) (k:Dj)
def c31:=CC Tryz.f31
def O31:Bc:=oL [X30 L,X47 L,X48 L,X49 L,X50 L,X51 L,X52 L]
def B46(a0:Aj)(v:A7c):St:=⟨[(0,.any),zq7,(2,I v.1),(3,I v.2.1),(4,.bB true (.t9 v.2.2.1)),(5,I v.2.2.2),(6,.any),(7,.any)],[(1,(Bu a0))],0⟩
def w3 [An A (Nat×A7c)](a0:Aj)(rec:Int->Int->List Yb->Int->A)(Ai:Int)(Ag:Int)(Al:List Yb)(Af:Int):A:=
 (lw Af a0.aJ
 (bd (Afm L (gD a0.aJ Af) Al) λr4=>
 (cn (r4 != 0)
 (lf (0,r4,r4,Al,Af))
 (gi Af a0.aJ
 (gq ((Al.length+ [(gD a0.aJ Af).aF].length)*16<=140737488355328)
 (gq (Al.length+ [(gD a0.aJ Af).aF].length<=maxLen)
 (rec Ai r4 (Al++ [(gD a0.aJ Af).aF]) (Bs (Af+1))))))))
 (lf (1,Ai,Ag,Al,Af)))
def M9(L:Nat)(a0:Aj):Nat->Int->Int->List Yb->Int->Option (Nat×A7c)
 |0,_,_,_,_=>none
 |n+1,Ai,Ag,Al,Af=>w3 L a0 (M9 L a0 n) Ai Ag Al Af
theorem B25(a0:Aj):LP (EV (O31 L) L 9 c31.x.l.u.l.l) [0,1,2,3,4,5,6,7] [1] (B46 a0) [.ret,.exit 0] (λn v=>M9 L a0 n v.1 v.2.1 v.2.2.1 v.2.2.2) K:=lE (λ_=>rfl) λn v ih=>eE (w3 L a0 (λAi Ag Al Af=>re (ih (Ai,Ag,Al,Af))) v.1 v.2.1 v.2.2.1 v.2.2.2)
def B47(a0:Aj)(v:A7c):St:=⟨[(0,.any),zq7,(2,I v.1),(3,I v.2.1),(4,.any),(5,.any),(6,.bB true (.t9 v.2.2.1)),(7,I v.2.2.2)],[(1,(Bu a0))],0⟩
def x0 [An A (Nat×A7c)](a0:Aj)(rec:Int->Int->List Yb->Int->A)(Bz:Int)(Gi:Int)(R7:List Yb)(Bq:Int):A:=
 (lw Bq a0.aA
 (bd (L4 L ((gD a0.aA Bq).aF) R7) λr9=>
 (gi Bq a0.aA
 (bd (Ail L (gD a0.aA Bq)) λr10=>
 (bd (Cy L r9 r10) λr11=>
 (cn (r11 != 0)
 (lf (0,r11,r11,R7,Bq))
 (gi Bq a0.aA
 (gq ((R7.length+ [(gD a0.aA Bq).aF].length)*16<=140737488355328)
 (gq (R7.length+ [(gD a0.aA Bq).aF].length<=maxLen)
 (rec Bz r11 (R7++ [(gD a0.aA Bq).aF]) (Bs (Bq+1)))))))))))
 (lf (1,Bz,Gi,R7,Bq)))
def Na(L:Nat)(a0:Aj):Nat->Int->Int->List Yb->Int->Option (Nat×A7c)
 |0,_,_,_,_=>none
 |n+1,Bz,Gi,R7,Bq=>x0 L a0 (Na L a0 n) Bz Gi R7 Bq
theorem B26(a0:Aj):LP (EV (O31 L) L 9 c31.x.x.l.u.l.l) [0,1,2,3,4,5,6,7] [1] (B47 a0) [.ret,.exit 2] (λn v=>Na L a0 n v.1 v.2.1 v.2.2.1 v.2.2.2) K:=lE (λ_=>rfl) λn v ih=>eE (x0 L a0 (λBz Gi R7 Bq=>re (ih (Bz,Gi,R7,Bq))) v.1 v.2.1 v.2.2.1 v.2.2.2)
def Aa6 [An A Int](a0:Aj)(o12:Nat×A7c):A:=
 (sl o12.1 [(lf o12.2.1),
 (bd (Akc L a0) λr13=>
 (lf r13))])
def Aby [An A Int](a0:Aj)(o5:Nat×A7c)(nx2:(Nat×A7c)->Int->A):A:=
 (sl o5.1 [(lf o5.2.1),
 (bd (Cj L (decide ((a0.aA.length:Int)>0)) 7) λr6=>
 (bd (Cj L (decide ((a0.aA.length:Int)<=16)) 6) λr7=>
 (bd (Cy L r6 r7) λr8=>
 (cn (r8 != 0)
 (lf r8)
 (nx2 o5 r8)))))])
def Ajp [An A Int](a0:Aj)(o5:Nat×A7c):A:=Aby L a0 o5 (λo5 r8=>bd (Na L a0 L o5.2.1 r8 [] 0) λo12=>Aa6 L a0 o12)
def Abx [An A Int](a0:Aj)(nx1:Int->A):A:=
 (bd (Jz L a0.aF) λr1=>
 (bd (Cj L (decide ((a0.aJ.length:Int)<=32)) 6) λr2=>
 (bd (Cy L r1 r2) λr3=>
 (cn (r3 != 0)
 (lf r3)
 (nx1 r3)))))
def A01 [An A Int](a0:Aj):A:=Abx L a0 (λr3=>bd (M9 L a0 L 0 r3 [] 0) λo5=>Ajp L a0 o5)
def Zz(a0:Aj):Option Int:=A01 L a0
def X31:F6:=E1 I 31 V6 (Zz L) λa0 r h=>hF Tryz.func31 (C:=O31 L) (oS _) L (λkk=>eE (Abx L a0 (λr3=>hq (B25 L (KA (O31 L) L 9 c31 (rl [8,1,2,1]) (KE Tryz.f31 kk)) a0 L (0,r3,[],0)) λo5=>Aby L a0 o5 (λo5 r8=>hq (B26 L (KA (O31 L) L 9 c31 (rl [16,1,2,1]) (KE Tryz.f31 kk)) a0 L (o5.2.1,r8,[],0)) λo12=>Aa6 L a0 o12)))) h
def c32:=CC Tryz.f32
def O32(L:Nat):Bc:=oL []
def B48(a0:A9)(v:Tu5):St:=⟨[(0,.any),zq7,(2,B v.1),(3,I v.2)],[(1,(My a0))],0⟩
def Aex [An A (Nat×Tu5)](L:Nat)(a0:A9)(rec:Bool->Int->A)(Ai:Bool)(Ag:Int):A:=
 (cn (decide (Ag<(a0.aD.length:Int)))
 (gi Ag a0.aL.aD
 (cn (decide (((gD a0.aL.aD Ag).bE.length:Int)>0))
 (lf (0,false,Ag))
 (gi Ag a0.aD
 (cn (!((gD a0.aL.aD Ag).aF.toList == (gD a0.aD Ag).aF.toList))
 (lf (0,false,Ag))
 (gi Ag a0.aD
 (cn (((gD a0.aL.aD Ag).aJ.length:Int) != (gD a0.aD Ag).aJ)
 (lf (0,false,Ag))
 (rec Ai (Bs (Ag+1)))))))))
 (lf (1,Ai,Ag)))
def Qi(L:Nat)(a0:A9):Nat->Bool->Int->Option (Nat×Tu5)
 |0,_,_=>none
 |n+1,Ai,Ag=>Aex L a0 (Qi L a0 n) Ai Ag
theorem B27(a0:A9):LP (EV (O32 L) L 9 c32.w.l.u.l.l) [0,1,2,3] [1] (B48 a0) [.ret,.exit 0] (λn v=>Qi L a0 n v.1 v.2) K:=lE (λ_=>rfl) λn v ih=>eE (Aex L a0 (λAi Ag=>re (ih (Ai,Ag))) v.1 v.2)
def Al2 [An A Bool](L:Nat)(o1:Nat×Tu5):A:=
 (sl o1.1 [(lf o1.2.1),
 (lf true)])
def Amh [An A Bool](L:Nat)(a0:A9)(nx1:A):A:=
 (cn ((a0.aD.length:Int) != (a0.aL.aD.length:Int))
 (lf false)
 nx1)
def A4c [An A Bool](a0:A9):A:=Amh L a0 (bd (Qi L a0 L false 0) λo1=>Al2 L o1)
def Acu(a0:A9):Option Bool:=A4c L a0
def X32:F6:=E1 B 32 Ap6 (Acu L) λa0 r h=>hF Tryz.func32 (C:=O32 L) (oS _) L (λkk=>eE (Amh L a0 (hq (B27 L (KA (O32 L) L 9 c32 (rl [4,1,2,1]) (KE Tryz.f32 kk)) a0 L (false,0)) λo1=>Al2 L o1))) h
def c33:=CC Tryz.f33
def O33(L:Nat):Bc:=oL []
def B5a(a0:Ac)(Al:Int)(v:Js):St:=⟨[(0,.any),zq7,(2,I v.1),(3,I (a0.aA.length:Int)),(4,I Al),Bja,(6,I v.2)],[(1,(Cm a0)),(5,(Ays (gD a0.aH Al)))],0⟩
def Aew [An A C3](L:Nat)(a0:Ac)(Al:Int)(rec:Int->Int->A)(Bz:Int)(Bq:Int):A:=
 (cn (decide (Bq<Al))
 (gi Bq a0.aH
 (cn ((gD a0.aH Bq).aV == (gD a0.aH Al).aV)
 (gi Bq a0.aH
 (cn ((gD a0.aH Bq).To == (gD a0.aH Al).To)
 (lf (0,4,Bq))
 (rec Bz (Bs (Bq+1)))))
 (rec Bz (Bs (Bq+1)))))
 (lf (1,Bz,Bq)))
def Md(L:Nat)(a0:Ac)(Al:Int):Nat->Int->Int->Option C3
 |0,_,_=>none
 |n+1,Bz,Bq=>Aew L a0 Al (Md L a0 Al n) Bz Bq
theorem B29(a0:Ac)(Al:Int):LP (EV (O33 L) L 9 c33.w.u.l.u.l.l.u.l.l.w.u.l.l) [0,1,2,3,4,5,6] [1,5] (B5a a0 Al) [.ret,.exit 2] (λn v=>Md L a0 Al n v.1 v.2) K:=lE (λ_=>rfl) λn v ih=>eE (Aew L a0 Al (λBz Bq=>re (ih (Bz,Bq))) v.1 v.2)
def B49(a0:Ac)(v:Js):St:=⟨[(0,.any),zq7,(2,I v.1),(3,I (a0.aA.length:Int)),(4,I v.2)],[(1,(Cm a0))],0⟩
def Afa [An A C3](L:Nat)(Al:Int)(rec:Int->Int->A)(o7:Nat×Js):A:=
 (sl o7.1 [(lf (0,o7.2.1,Al)),
 (rec o7.2.1 (Bs (Al+1)))])
def Afj [An A C3](L:Nat)(a0:Ac)(rec:Int->Int->A)(Ai:Int)(Al:Int)(nx1:Int->Int->A):A:=
 (lw Al a0.aH
 (jp (.cn (decide ((gD a0.aH Al).aV<0))
 (.lf true)
 (.lf (decide ((gD a0.aH Al).aV>=(a0.aA.length:Int))))) (λb1=>
 (jp (.cn b1
 (.lf true)
 (.lf (decide ((gD a0.aH Al).To<0)))) (λb2=>
 (jp (.cn b2
 (.lf true)
 (.lf (decide ((gD a0.aH Al).To>=(a0.aA.length:Int))))) (λb3=>
 (jp (.cn b3
 (.lf true)
 (.lf ((gD a0.aH Al).aV == (gD a0.aH Al).To))) (λb4=>
 (jp (.cn b4
 (.lf true)
 (.lf (decide ((gD a0.aH Al).bU<1)))) (λb5=>
 (jp (.cn b5
 (.lf true)
 (.lf (decide ((gD a0.aH Al).bU>1000000000)))) (λb6=>
 (cn b6
 (lf (0,2,Al))
 (nx1 Al Ai))))))))))))))
 (lf (1,Ai,Al)))
def Alr [An A C3](a0:Ac)(rec:Int->Int->A)(Ai:Int)(Al:Int):A:=Afj L a0 rec Ai Al (λAl Ai=>bd (Md L a0 Al L Ai 0) λo7=>Afa L Al rec o7)
def Qh(L:Nat)(a0:Ac):Nat->Int->Int->Option C3
 |0,_,_=>none
 |n+1,Ai,Al=>Alr L a0 (Qh L a0 n) Ai Al
theorem B28(a0:Ac):LP (EV (O33 L) L 9 c33.w.u.l.u.l.l) [0,1,2,3,4] [1] (B49 a0) [.ret,.exit 0] (λn v=>Qh L a0 n v.1 v.2) K:=lE (λ_=>rfl) λn v ih=>eE (Afj L a0 (λAi Al=>re (ih (Ai,Al))) v.1 v.2 (λAl Ai=>hq (B29 L (KA (O33 L) L 9 c33.w.u.l.u.l.l (rl [2,2,6,1]) (Hm (I2 (EV (O33 L) L 9 c33.w.u.l.u.l.l) [0,1,2,3,4] [1] n) [0,1,2,3,4] [1] K)) a0 Al L (Ai,0)) λo7=>Afa L Al (λAi Al=>re (ih (Ai,Al))) o7))
def Afb [An A Int](L:Nat)(o8:Nat×Js):A:=
 (sl o8.1 [(lf o8.2.1),
 (lf 0)])
def Afk [An A Int](L:Nat)(a0:Ac)(nx2:A):A:=
 (cn (decide ((a0.aH.length:Int)>32))
 (lf 6)
 nx2)
def A4b [An A Int](a0:Ac):A:=Afk L a0 (bd (Qh L a0 L 0 0) λo8=>Afb L o8)
def Ain(a0:Ac):Option Int:=A4b L a0
def X33:F6:=E1 I 33 B7 (Ain L) λa0 r h=>hF Tryz.func33 (C:=O33 L) (oS _) L (λkk=>eE (Afk L a0 (hq (B28 L (KA (O33 L) L 9 c33 (rl [6,1,2,1]) (KE Tryz.f33 kk)) a0 L (0,0)) λo8=>Afb L o8))) h
def Ark [An A Bool](L:Nat)(a0:Int):A:=
 (jp (.cn (decide (a0>=1))
 (.lf (decide (a0<=19)))
 (.lf false)) (λb1=>
 (lf b1)))
def Afp(a0:Int):Option Bool:=Ark L a0
def X79:F6:=E1 B 79 (cI .i64) (Afp L) λa0 r h=>hF Tryz.func79 (oS []) L (λkk=>eE (Ark L a0)) h
def A06 [An A (List Ct)](L:Nat):A:=
 (lf [(⟨(⟨#[]⟩:Yb),(⟨#[]⟩:Yb),(⟨#[]⟩:Yb),false,false,false,false,false,false⟩:Ct),(⟨(⟨#[115,108,111,116]⟩:Yb),(⟨#[115,108,111,116]⟩:Yb),(⟨#[]⟩:Yb),false,true,false,false,false,false⟩:Ct),(⟨(⟨#[118,97,114]⟩:Yb),(⟨#[118,97,114]⟩:Yb),(⟨#[]⟩:Yb),false,true,false,false,false,false⟩:Ct),(⟨(⟨#[100,114,97,119]⟩:Yb),(⟨#[115,108,111,116]⟩:Yb),(⟨#[115,116,114,101,97,109]⟩:Yb),false,false,false,false,false,true⟩:Ct),(⟨(⟨#[106,117,109,112]⟩:Yb),(⟨#[105,110,115,116,114]⟩:Yb),(⟨#[]⟩:Yb),false,false,false,false,false,false⟩:Ct),(⟨(⟨#[98,114,97,110,99,104]⟩:Yb),(⟨#[105,110,115,116,114]⟩:Yb),(⟨#[]⟩:Yb),false,true,false,false,false,false⟩:Ct),(⟨(⟨#[104,111,108,100]⟩:Yb),(⟨#[]⟩:Yb),(⟨#[]⟩:Yb),false,true,false,false,false,false⟩:Ct),(⟨(⟨#[115,101,105,122,101]⟩:Yb),(⟨#[114,101,115,111,117,114,99,101]⟩:Yb),(⟨#[]⟩:Yb),false,true,true,true,false,false⟩:Ct),(⟨(⟨#[114,101,108,101,97,115,101]⟩:Yb),(⟨#[114,101,115,111,117,114,99,101]⟩:Yb),(⟨#[]⟩:Yb),false,true,false,false,false,false⟩:Ct),(⟨(⟨#[112,117,116]⟩:Yb),(⟨#[115,116,111,114,101]⟩:Yb),(⟨#[]⟩:Yb),false,true,false,false,false,false⟩:Ct),(⟨(⟨#[103,101,116]⟩:Yb),(⟨#[115,116,111,114,101]⟩:Yb),(⟨#[115,108,111,116]⟩:Yb),false,false,false,false,false,false⟩:Ct),(⟨(⟨#[114,105,100,101]⟩:Yb),(⟨#[98,101,108,116]⟩:Yb),(⟨#[]⟩:Yb),false,false,false,false,false,false⟩:Ct),(⟨(⟨#[119,97,105,116]⟩:Yb),(⟨#[113,117,101,117,101]⟩:Yb),(⟨#[]⟩:Yb),false,false,false,false,false,false⟩:Ct),(⟨(⟨#[115,105,103,110,97,108]⟩:Yb),(⟨#[113,117,101,117,101]⟩:Yb),(⟨#[]⟩:Yb),false,true,false,false,false,false⟩:Ct),(⟨(⟨#[115,101,110,100]⟩:Yb),(⟨#[115,105,116,101]⟩:Yb),(⟨#[114,111,117,116,105,110,101]⟩:Yb),true,true,false,false,true,false⟩:Ct),(⟨(⟨#[115,112,97,119,110]⟩:Yb),(⟨#[]⟩:Yb),(⟨#[114,111,117,116,105,110,101]⟩:Yb),false,true,false,false,true,false⟩:Ct),(⟨(⟨#[111,98,115,101,114,118,101]⟩:Yb),(⟨#[116,97,108,108,121]⟩:Yb),(⟨#[]⟩:Yb),false,true,false,false,false,false⟩:Ct),(⟨(⟨#[108,101,118,101,108]⟩:Yb),(⟨#[108,101,118,101,108]⟩:Yb),(⟨#[]⟩:Yb),false,true,false,false,false,false⟩:Ct),(⟨(⟨#[99,111,117,110,116]⟩:Yb),(⟨#[99,111,117,110,116]⟩:Yb),(⟨#[]⟩:Yb),false,true,false,false,false,false⟩:Ct),(⟨(⟨#[101,110,100]⟩:Yb),(⟨#[]⟩:Yb),(⟨#[]⟩:Yb),false,false,false,false,false,false⟩:Ct)])
def Z2:Option (List Ct):=A06 L
def B00:F6:=E0 (λ(x:List Ct)=>lv (.fK x)) 136 (Z2 L) λr h=>hF Tryz.func136 (oS []) L (λkk=>eE (A06 L)) h
def A8t(F:Ab->Ab->Option Bool):Prop:=∀y0 y1 r,F y0 y1=some r->Ho Tryz.prog 137 [Bi.en y0,Bi.en y1] B r
def A8u(F:(List Ab)->(List Ab)->Option Bool):Prop:=∀y0 y1 r,F y0 y1=some r->Ho Tryz.prog 177 [Blq.en y0,Blq.en y1] B r
def Cak(De:Ab->Ab->Option Bool)(Di:(List Ab)->(List Ab)->Option Bool)(L:Nat):Bc:=(orc 137 (A2 B Bi Bi De) (orc 177 (A2 B Blq Blq Di) (oL [])))
theorem Ceb(De:Ab->Ab->Option Bool)(Di:(List Ab)->(List Ab)->Option Bool)(A5b:A8t De)(A5c:A8u Di)(L:Nat):Dl Tryz.prog (Cak De Di L):=(Er (a2 _ A5b) (Er (a2 _ A5c) (oS [])))
def Auo [An A Bool](De:Ab->Ab->Option Bool)(Di:(List Ab)->(List Ab)->Option Bool)(L:Nat)(a0:Ab)(a1:Ab):A:=
 (jp (.cn (a0.Op != a1.Op)
 (.lf true)
 (.lf (!(a0.aF.toList == a1.aF.toList)))) (λb1=>
 (jp (.cn b1
 (.lf true)
 (.lf (a0.N != a1.N))) (λb2=>
 (cn b2
 (lf false)
 (bd (Di a0.aY a1.aY) λr3=>
 (lf r3)))))))
def Aod(De:Ab->Ab->Option Bool)(Di:(List Ab)->(List Ab)->Option Bool)(L:Nat)(a0:Ab)(a1:Ab):Option Bool:=Auo De Di L a0 a1
theorem Ccs(De:Ab->Ab->Option Bool)(Di:(List Ab)->(List Ab)->Option Bool)(A5b:A8t De)(A5c:A8u Di)(L:Nat):A8t (Aod De Di L):=λa0 a1 r h=>hF Tryz.func137 (Ceb De Di A5b A5c L) L (λkk=>eE (Auo De Di L a0 a1)) h
def B74:=CC Tryz.f177
def B0i(De:Ab->Ab->Option Bool)(Di:(List Ab)->(List Ab)->Option Bool)(L:Nat):Bc:=(orc 137 (A2 B Bi Bi De) (orc 177 (A2 B Blq Blq Di) (oL [])))
theorem Cec(De:Ab->Ab->Option Bool)(Di:(List Ab)->(List Ab)->Option Bool)(A5b:A8t De)(A5c:A8u Di)(L:Nat):Dl Tryz.prog (B0i De Di L):=(Er (a2 _ A5b) (Er (a2 _ A5c) (oS [])))
def Bxs(a0:List Ab)(a1:List Ab)(v:Tu5):St:=⟨[(0,lv (.dU a0)),(1,lv (.dU a1)),(4,B v.1),(5,I v.2)],[],0⟩
def V9 [An A (Nat×Tu5)](De:Ab->Ab->Option Bool)(Di:(List Ab)->(List Ab)->Option Bool)(L:Nat)(a0:List Ab)(a1:List Ab)(rec:Bool->Int->A)(Al:Bool)(Af:Int):A:=
 (lw Af a0
 (gi Af a1
 (bd (De (Ab.cp (gD a0 Af)) (Ab.cp (gD a1 Af))) λr1=>
 (cn (!r1)
 (lf (0,false,Af))
 (rec Al (Bs (Af+1))))))
 (lf (1,Al,Af)))
def Jb(De:Ab->Ab->Option Bool)(Di:(List Ab)->(List Ab)->Option Bool)(L:Nat)(a0:List Ab)(a1:List Ab):Nat->Bool->Int->Option (Nat×Tu5)
 |0,_,_=>none
 |n+1,Al,Af=>V9 De Di L a0 a1 (Jb De Di L a0 a1 n) Al Af
theorem Bv4(De:Ab->Ab->Option Bool)(Di:(List Ab)->(List Ab)->Option Bool)(L:Nat)(K:Ei)(a0:List Ab)(a1:List Ab):LP (EV (B0i De Di L) L 9 B74.w.l.u.l.l) [0,1,4,5] [] (Bxs a0 a1) [.ret,.exit 0] (λn v=>Jb De Di L a0 a1 n v.1 v.2) K:=lE (λ_=>rfl) λn v ih=>eE (V9 De Di L a0 a1 (λAl Af=>re (ih (Al,Af))) v.1 v.2)
def Ank [An A Bool](De:Ab->Ab->Option Bool)(Di:(List Ab)->(List Ab)->Option Bool)(L:Nat)(o2:Nat×Tu5):A:=
 (sl o2.1 [(lf o2.2.1),
 (lf true)])
def Ad7 [An A Bool](De:Ab->Ab->Option Bool)(Di:(List Ab)->(List Ab)->Option Bool)(L:Nat)(a0:List Ab)(a1:List Ab)(nx1:A):A:=
 (cn ((a0.length:Int) != (a1.length:Int))
 (lf false)
 nx1)
def Atq [An A Bool](De:Ab->Ab->Option Bool)(Di:(List Ab)->(List Ab)->Option Bool)(L:Nat)(a0:List Ab)(a1:List Ab):A:=Ad7 De Di L a0 a1 (bd (Jb De Di L a0 a1 L false 0) λo2=>Ank De Di L o2)
def Aeg(De:Ab->Ab->Option Bool)(Di:(List Ab)->(List Ab)->Option Bool)(L:Nat)(a0:List Ab)(a1:List Ab):Option Bool:=Atq De Di L a0 a1
theorem Cct(De:Ab->Ab->Option Bool)(Di:(List Ab)->(List Ab)->Option Bool)(A5b:A8t De)(A5c:A8u Di)(L:Nat):A8u (Aeg De Di L):=λa0 a1 r h=>hF Tryz.func177 (Cec De Di A5b A5c L) L (λkk=>eE (Ad7 De Di L a0 a1 (hq (Bv4 De Di L (KA (B0i De Di L) L 9 B74 (rl [4,1,2,1]) (KE Tryz.f177 kk)) a0 a1 L (false,0)) λo2=>Ank De Di L o2))) h
mutual
def Mv:Nat->Ab->Ab->Option Bool
 |0,_,_=>none
 |L+1,a0,a1=>Aod (Mv L) (L3 L) L a0 a1
def L3:Nat->(List Ab)->(List Ab)->Option Bool
 |0,_,_=>none
 |L+1,a0,a1=>Aeg (Mv L) (L3 L) L a0 a1
end
theorem Bt8(L:Nat):A8t (Mv L)/\A8u (L3 L):=by
 induction L with
 |zero=>exact⟨λ_ _ _ h=>(by cases h),λ_ _ _ h=>(by cases h)⟩
 |succ L ih=>
  obtain⟨i137,i177⟩:=ih;exact⟨Ccs (Mv L) (L3 L) i137 i177 L,Cct (Mv L) (L3 L) i137 i177 L⟩
def Cbg(L:Nat):F6:=E2 B 137 Bi Bi (Mv L) ((Bt8 L).1)
def c80:=CC Tryz.f80
def O80:Bc:=oL [B00 L,Cbg L,B01 L]
def Bp3(a0:Ar)(r1:List Ct):St:=⟨[zq7,(2,B false),T4],[(1,(Sc a0)),(3,(Auz (gD r1 a0.Op))),(4,[I 0,S (⟨#[]⟩:Yb),I 0,lv (.dU [])])],0⟩
def Bpc(L:Nat)(kk:Lr):Ei:=(KE Tryz.f80 kk)
def Abp [An A Bool](a0:Ar)(r1:List Ct):A:=
 (cn ((gD r1 a0.Op).bF)
 (nq (lf true))
 (jb (.bd (Zm L a0.bF (⟨0,0,0,0,[],[]⟩:Bk)) λr7=>
 (.lf r7)) (λb6=>
 (lf b6))))
theorem B1o(a0:Ar)(r1:List Ct):EV (O80 L) L 9 c80.x (Bp3 a0 r1) (Bpc L kk)=ob (Abp L a0 r1) (kQ B kk):=eE (Abp L a0 r1)
def Bcw(a0:Ar)(r1:List Ct)(p802_1:Bool):St:=⟨[zq7,(2,B false),T4,Bgt,(11,B p802_1)],[(1,(Sc a0)),(3,(Auz (gD r1 a0.Op))),(4,[I 0,S (⟨#[]⟩:Yb),I 0,lv (.dU [])])],0⟩
def Bbj(e0:EC):Ei:=(Gn 0 (Rn (EV (O80 L) L 9 e0) (KE Tryz.f80 kk)))
def sx_R17_plain_2 [An A Bool](a0:Ar)(r1:List Ct)(p802_1:Bool)(nx1:Ar->(List Ct)->A):A:=
 (cn p802_1
 (lf false)
 (jb (.cn (!((gD r1 a0.Op).E))
 (.bd (Mv L (Ab.cp a0.E) (Ab.mk 0 (⟨#[]⟩:Yb) 0 [])) λr9=>
 (.lf (!r9)))
 (.lf false)) (λb8=>
 (cn b8
 (cn b8
 (lf false)
 (nx1 a0 r1))
 (jb (.cn (!((gD r1 a0.Op).F))
 (.bd (Mv L (Ab.cp a0.F) (Ab.mk 0 (⟨#[]⟩:Yb) 0 [])) λr11=>
 (.lf (!r11)))
 (.lf false)) (λb10=>
 (cn b10
 (cn b10
 (lf false)
 (nx1 a0 r1))
 (jp (.cn (!((gD r1 a0.Op).aP))
 (.lf (decide ((a0.aP.length:Int)>0)))
 (.lf false)) (λb12=>
 (cn b12
 (lf false)
 (nx1 a0 r1)))))))))))
def Ajw [An A Bool](a0:Ar)(r1:List Ct)(p802_1:Bool):A:=sx_R17_plain_2 L a0 r1 p802_1 (λa0 r1=>Abp L a0 r1)
theorem B1r(a0:Ar)(r1:List Ct)(p802_1:Bool)(z1:EC):EV (O80 L) L 9 c80.w.u.l.l.u (Bcw a0 r1 p802_1) (Bbj L kk (EC.put (rl [1]) z1 c80.w.u.r))= @sx_R17_plain_2 Prop L (anP (kQ B kk)) a0 r1 p802_1 (λa0 r1=>EV (O80 L) L 9 z1 (Bp3 a0 r1) (Bpc L kk)):=by kernel_rfl
theorem B1p(a0:Ar)(r1:List Ct)(p802_1:Bool):EV (O80 L) L 9 c80.w.u.l.l.u (Bcw a0 r1 p802_1) (Bbj L kk c80.w.u.r)=ob (Ajw L a0 r1 p802_1) (kQ B kk):=Eq.trans (b:=EV (O80 L) L 9 c80.w.u.l.l.u (Bcw a0 r1 p802_1) (Bbj L kk (EC.put (rl [1]) c80.x c80.w.u.r))) (by kernel_rfl) ((B1r L kk a0 r1 p802_1 c80.x).trans (eE (sx_R17_plain_2 L a0 r1 p802_1 (λa0 r1=>re (B1o L kk a0 r1)))))
def sx_R17_plain_0 [An A Bool](a0:Ar)(nx2:Ar->(List Ct)->Bool->A):A:=
 (bd (Z2 L) λr1=>
 (gi a0.Op r1
 (jp (.cn ((gD r1 a0.Op).A.toList == (⟨#[]⟩:Yb).toList)
 (.lf (a0.A != 0))
 (.lf false)) (λb2=>
 (cn b2
 (nx2 a0 r1 b2)
 (jp (.cn ((gD r1 a0.Op).B.toList == (⟨#[]⟩:Yb).toList)
 (.lf (a0.B != 0))
 (.lf false)) (λb3=>
 (cn b3
 (nx2 a0 r1 b3)
 (jp (.cn (!((gD r1 a0.Op).C))
 (.lf (a0.C != 0))
 (.lf false)) (λb4=>
 (cn b4
 (nx2 a0 r1 b4)
 (jp (.cn (!((gD r1 a0.Op).bY))
 (.lf a0.bY)
 (.lf false)) (λb5=>
 (nx2 a0 r1 b5))))))))))))))
def A08 [An A Bool](a0:Ar):A:=sx_R17_plain_0 L a0 (λa0 r1 p802_1=>Ajw L a0 r1 p802_1)
theorem B1q(a0:Ar)(z2:EC):EW (O80 L) L 9 (RS Tryz.f80) (EC.put (rl [6,2,2]) z2 c80) [.agg (Sc a0)] kk= @sx_R17_plain_0 Prop L (anP (kQ B kk)) a0 (λa0 r1 p802_1=>EV (O80 L) L 9 z2 (Bcw a0 r1 p802_1) (Bbj L kk c80.w.u.r)):=by kernel_rfl
def Afq(a0:Ar):Option Bool:=A08 L a0
def X80:F6:=E1 B 80 Oz (Afq L) λa0 r h=>hF Tryz.func80 (C:=O80 L) (oS _) L (λkk=>Eq.trans (b:=EW (O80 L) L 9 (RS Tryz.f80) (EC.put (rl [6,2,2]) c80.w.u.l.l.u c80) [.agg (Sc a0)] kk) (by kernel_rfl) ((B1q L kk a0 c80.w.u.l.l.u).trans (eE (sx_R17_plain_0 L a0 (λa0 r1 p802_1=>re (B1p L kk a0 r1 p802_1)))))) h
def Arj [An A Int](L:Nat)(a0:Ac)(a1:Int)(a2:Aq)(a3:Yb):A:=
 (gi a1 a0.aA
 (cn (a3.toList == (⟨#[115,108,111,116]⟩:Yb).toList)
 (lf a2.dD)
 (cn (a3.toList == (⟨#[105,110,115,116,114]⟩:Yb).toList)
 (lf (a2.aR.length:Int))
 (cn (a3.toList == (⟨#[115,105,116,101]⟩:Yb).toList)
 (lf (a0.aA.length:Int))
 (cn (a3.toList == (⟨#[118,97,114]⟩:Yb).toList)
 (lf ((gD a0.aA a1).aL.bX.length:Int))
 (cn (a3.toList == (⟨#[114,101,115,111,117,114,99,101]⟩:Yb).toList)
 (lf ((gD a0.aA a1).aL.aG.length:Int))
 (cn (a3.toList == (⟨#[115,116,111,114,101]⟩:Yb).toList)
 (lf ((gD a0.aA a1).aL.aM.length:Int))
 (cn (a3.toList == (⟨#[98,101,108,116]⟩:Yb).toList)
 (lf ((gD a0.aA a1).aL.bL.length:Int))
 (cn (a3.toList == (⟨#[113,117,101,117,101]⟩:Yb).toList)
 (lf ((gD a0.aA a1).aL.bJ.length:Int))
 (cn (a3.toList == (⟨#[115,116,114,101,97,109]⟩:Yb).toList)
 (lf ((gD a0.aA a1).aL.aZ.length:Int))
 (cn (a3.toList == (⟨#[116,97,108,108,121]⟩:Yb).toList)
 (lf ((gD a0.aA a1).aL.bH.length:Int))
 (cn (a3.toList == (⟨#[108,101,118,101,108]⟩:Yb).toList)
 (lf ((gD a0.aA a1).aL.bP.length:Int))
 (lf ((gD a0.aA a1).aL.bD.length:Int))))))))))))))
def Afo(a0:Ac)(a1:Int)(a2:Aq)(a3:Yb):Option Int:=Arj L a0 a1 a2 a3
def Cbw:F6:=E4 I 179 B7 (cI .i64) Ox cS (Afo L) λa0 a1 a2 a3 r h=>hF Tryz.func179 (oS []) L (λkk=>eE (Arj L a0 a1 a2 a3)) h
def Aot [An A Bool](a0:Ac)(a1:Int)(a2:Aq)(a3:Yb)(a4:Int):A:=
 (jb (.cn (a3.toList == (⟨#[]⟩:Yb).toList)
 (.lf true)
 (.cn (decide (a4>=0))
 (.bd (Afo L (⟨a0.aF,a0.aA,a0.aH⟩:Ac) a1 a2 a3) λr2=>
 (.lf (decide (a4<r2))))
 (.lf false))) (λb1=>
 (lf b1)))
def Si(a0:Ac)(a1:Int)(a2:Aq)(a3:Yb)(a4:Int):Option Bool:=Aot L a0 a1 a2 a3 a4
def Cbh:F6:=E5 B 139 B7 (cI .i64) Ox cS (cI .i64) (Si L) λa0 a1 a2 a3 a4 r h=>hF Tryz.func139 (oS [Cbw L]) L (λkk=>eE (Aot L a0 a1 a2 a3 a4)) h
def Ari [An A Int](L:Nat)(a0:Ac)(a1:Int)(a2:Ar):A:=
 (gi a1 a0.aA
 (jp (.cn (decide (a2.B<0))
 (.lf true)
 (.lf (decide (a2.B>=((gD a0.aA a1).aD.length:Int))))) (λb1=>
 (cn b1
 (lf 2)
 (gi a2.B ((gD a0.aA a1).aD)
 (cn ((a2.aP.length:Int) != (gD ((gD a0.aA a1).aD) a2.B).aJ)
 (lf 8)
 (lf 0)))))))
def Vh(a0:Ac)(a1:Int)(a2:Ar):Option Int:=Ari L a0 a1 a2
def Cbi:F6:=E3 I 140 B7 (cI .i64) Oz (Vh L) λa0 a1 a2 r h=>hF Tryz.func140 (oS []) L (λkk=>eE (Ari L a0 a1 a2)) h
def B7v:=CC Tryz.f141
def B0e(L:Nat):Bc:=oL []
def Bxj(a1:Int)(a2:Int)(a0:Ac)(v:Int×Bool×Int):St:=⟨[(0,.any),(1,I a1),(2,I a2),T4,(6,I v.1),(7,B v.2.1),(8,I v.2.2)],[(3,(Cm a0))],0⟩
def Ah5 [An A (Nat×Int×Bool×Int)](L:Nat)(a1:Int)(a2:Int)(a0:Ac)(rec:Int->Bool->Int->A)(Al:Int)(Af:Bool)(Bj:Int):A:=
 (lw Bj a0.aH
 (jb (.cn ((gD a0.aH Bj).aV == a1)
 (.gq (0<=Bj)
 (.gq (Bj<(a0.aH.length:Int))
 (.lf ((gD a0.aH Bj).To == a2))))
 (.lf false)) (λb1=>
 (cn b1
 (gi Bj a0.aH
 (lf (0,(((gD a0.aH Bj).bU),true,Bj))))
 (rec Al Af (Bs (Bj+1))))))
 (lf (1,Al,Af,Bj)))
def Sx(L:Nat)(a1:Int)(a2:Int)(a0:Ac):Nat->Int->Bool->Int->Option (Nat×Int×Bool×Int)
 |0,_,_,_=>none
 |n+1,Al,Af,Bj=>Ah5 L a1 a2 a0 (Sx L a1 a2 a0 n) Al Af Bj
theorem Bvv(a1:Int)(a2:Int)(a0:Ac):LP (EV (B0e L) L 9 B7v.u.l.u.l.l) [0,1,2,3,6,7,8] [3] (Bxj a1 a2 a0) [.ret,.exit 0] (λn v=>Sx L a1 a2 a0 n v.1 v.2.1 v.2.2) K:=lE (λ_=>rfl) λn v ih=>eE (Ah5 L a1 a2 a0 (λAl Af Bj=>re (ih (Al,Af,Bj))) v.1 v.2.1 v.2.2)
def Aic [An A (Int×Bool)](L:Nat)(o2:Nat×Int×Bool×Int):A:=
 (sl o2.1 [(lf (o2.2.1,o2.2.2.1)),
 (lf (0,false))])
def A8w [An A (Int×Bool)](a0:Ac)(a1:Int)(a2:Int):A:=(bd (Sx L a1 a2 a0 L 0 false 0) λo2=>Aic L o2)
def Amn(a0:Ac)(a1:Int)(a2:Int):Option (Int×Bool):=A8w L a0 a1 a2
def Cbj:F6:=E3 (λ(x:Int×Bool)=>.cK [I x.1,B x.2]) 141 B7 (cI .i64) (cI .i64) (Amn L) λa0 a1 a2 r h=>hF Tryz.func141 (C:=B0e L) (oS _) L (λkk=>eE ((hq (Bvv L (KA (B0e L) L 9 B7v (rl [2,1,2,1]) (KE Tryz.f141 kk)) a1 a2 a0 L (0,false,0)) λo2=>Aic L o2))) h
def Alg [An A Int](a0:Ac)(a1:Int)(a2:Aq)(a3:Ar):A:=
 (bd (Z2 L) λr1=>
 (gi a3.Op r1
 (bd (Si L (⟨a0.aF,a0.aA,a0.aH⟩:Ac) a1 a2 ((gD r1 a3.Op).A) a3.A) λr2=>
 (cn (!r2)
 (lf 2)
 (cn (a3.Op == 15)
 (bd (Vh L (⟨a0.aF,a0.aA,a0.aH⟩:Ac) a1 (⟨a3.Op,a3.A,a3.B,a3.C,(Ab.cp a3.E),(Ab.cp a3.F),a3.aP,a3.bF,a3.bY⟩:Ar)) λr3=>
 (lf r3))
 (cn (a3.Op == 14)
 (bd (Amn L (⟨a0.aF,a0.aA,a0.aH⟩:Ac) a1 a3.A) λr4=>
 (jp (.cn (!r4.2)
 (.lf true)
 (.lf (r4.1 != a3.C))) (λb5=>
 (cn b5
 (lf 16)
 (bd (Vh L (⟨a0.aF,a0.aA,a0.aH⟩:Ac) a3.A (⟨a3.Op,a3.A,a3.B,a3.C,(Ab.cp a3.E),(Ab.cp a3.F),a3.aP,a3.bF,a3.bY⟩:Ar)) λr6=>
 (lf r6))))))
 (bd (Si L (⟨a0.aF,a0.aA,a0.aH⟩:Ac) a1 a2 ((gD r1 a3.Op).B) a3.B) λr7=>
 (cn (!r7)
 (lf 2)
 (lf 0)))))))))
def Xz(a0:Ac)(a1:Int)(a2:Aq)(a3:Ar):Option Int:=Alg L a0 a1 a2 a3
def X81:F6:=E4 I 81 B7 (cI .i64) Ox Oz (Xz L) λa0 a1 a2 a3 r h=>hF Tryz.func81 (oS [B00 L,Cbh L,Cbi L,Cbj L]) L (λkk=>eE (Alg L a0 a1 a2 a3)) h
def Arh [An A (List Ab)](a0:Ar):A:=
 (bd (Afp L a0.Op) λr1=>
 (cn (!r1)
 (lf [])
 (bd (Z2 L) λr2=>
 (gi a0.Op r2
 (cn ((gD r2 a0.Op).E)
 (gq ((0+ [(Ab.cp a0.E)].length)*56<=140737488355328)
 (gq (0+ [(Ab.cp a0.E)].length<=maxLen)
 (cn ((gD r2 a0.Op).F)
 (gq (([(Ab.cp a0.E)].length+ [(Ab.cp a0.F)].length)*56<=140737488355328)
 (gq ([(Ab.cp a0.E)].length+ [(Ab.cp a0.F)].length<=maxLen)
 (cn ((gD r2 a0.Op).aP)
 (gq ((([(Ab.cp a0.E)]++ [(Ab.cp a0.F)]).length+a0.aP.length)*56<=140737488355328)
 (gq (([(Ab.cp a0.E)]++ [(Ab.cp a0.F)]).length+a0.aP.length<=maxLen)
 (lf (([(Ab.cp a0.E)]++ [(Ab.cp a0.F)])++a0.aP))))
 (lf ([(Ab.cp a0.E)]++ [(Ab.cp a0.F)])))))
 (cn ((gD r2 a0.Op).aP)
 (gq (([(Ab.cp a0.E)].length+a0.aP.length)*56<=140737488355328)
 (gq ([(Ab.cp a0.E)].length+a0.aP.length<=maxLen)
 (lf ([(Ab.cp a0.E)]++a0.aP))))
 (lf [(Ab.cp a0.E)])))))
 (cn ((gD r2 a0.Op).F)
 (gq ((0+ [(Ab.cp a0.F)].length)*56<=140737488355328)
 (gq (0+ [(Ab.cp a0.F)].length<=maxLen)
 (cn ((gD r2 a0.Op).aP)
 (gq (([(Ab.cp a0.F)].length+a0.aP.length)*56<=140737488355328)
 (gq ([(Ab.cp a0.F)].length+a0.aP.length<=maxLen)
 (lf ([(Ab.cp a0.F)]++a0.aP))))
 (lf [(Ab.cp a0.F)]))))
 (cn ((gD r2 a0.Op).aP)
 (gq ((0+a0.aP.length)*56<=140737488355328)
 (gq (0+a0.aP.length<=maxLen)
 (lf a0.aP)))
 (lf []))))))))
def Afn(a0:Ar):Option (List Ab):=Arh L a0
def X82:F6:=E1 (λ(x:List Ab)=>lv (.dU x)) 82 Oz (Afn L) λa0 r h=>hF Tryz.func82 (oS [X79 L,B00 L]) L (λkk=>eE (Arh L a0)) h
def Agn [An A Int](a0:Ab):A:=
 (bd (Afl L (Ab.cp a0) true) λr1=>
 (lf r1))
def Te(a0:Ab):Option Int:=Agn L a0
def X83:F6:=E1 I 83 Bi (Te L) λa0 r h=>hF Tryz.func83 (oS [B6t L]) L (λkk=>eE (Agn L a0)) h
def Bso(F:Ac->Int->Aq->Ab->Option Bool):Prop:=∀y0 y1 y2 y3 r,F y0 y1 y2 y3=some r->Ho Tryz.prog 84 [B7.en y0,(cI .i64).en y1,Ox.en y2,Bi.en y3] B r
def c84:=CC Tryz.f84
def O84(Eg:Ac->Int->Aq->Ab->Option Bool)(L:Nat):Bc:=(orc 84 (A4 B B7 (cI .i64) Ox Bi Eg) (oL []))
theorem s84(Eg:Ac->Int->Aq->Ab->Option Bool)(B10:Bso Eg)(L:Nat):Dl Tryz.prog (O84 Eg L):=(Er (a4 _ B10) (oS []))
def B56(a1:Int)(a0:Ac)(a2:Aq)(a3:Ab)(v:Tu5):St:=⟨[(0,.any),(1,I a1),(2,.any),(3,.any),Bgt,(6,.loc 6 0),(7,.loc 7 0),(8,B v.1),(9,.any),(10,I v.2),(17,.any),(39,.any),(62,.any)],[(4,(Cm a0)),(6,(Ac3 a2)),(7,(Cl a3)),(9,(Ae ((gD a0.aA a1).aL)))],0⟩
def Aey [An A (Nat×Tu5)](Eg:Ac->Int->Aq->Ab->Option Bool)(L:Nat)(a1:Int)(a0:Ac)(a2:Aq)(a3:Ab)(rec:Bool->Int->A)(Ag:Bool)(Al:Int):A:=
 (lw Al a3.aY
 (bd (Eg (⟨a0.aF,a0.aA,a0.aH⟩:Ac) a1 a2 (Ab.cp (gD a3.aY Al))) λr4=>
 (cn (!r4)
 (lf (0,false,Al))
 (rec Ag (Bs (Al+1)))))
 (lf (1,Ag,Al)))
def Hn(Eg:Ac->Int->Aq->Ab->Option Bool)(L:Nat)(a1:Int)(a0:Ac)(a2:Aq)(a3:Ab):Nat->Bool->Int->Option (Nat×Tu5)
 |0,_,_=>none
 |n+1,Ag,Al=>Aey Eg L a1 a0 a2 a3 (Hn Eg L a1 a0 a2 a3 n) Ag Al
theorem Bbk(Eg:Ac->Int->Aq->Ab->Option Bool)(L:Nat)(K:Ei)(a1:Int)(a0:Ac)(a2:Aq)(a3:Ab):LP (EV (O84 Eg L) L 9 c84.w.u.l.u.l.l) [0,1,2,3,4,6,7,8,9,10,17,39,62] [4,6,7,9] (B56 a1 a0 a2 a3) [.ret,.exit 1] (λn v=>Hn Eg L a1 a0 a2 a3 n v.1 v.2) K:=lE (λ_=>rfl) λn v ih=>eE (Aey Eg L a1 a0 a2 a3 (λAg Al=>re (ih (Ag,Al))) v.1 v.2)
def Al3 [An A Bool](Eg:Ac->Int->Aq->Ab->Option Bool)(L:Nat)(o12:Nat×Tu5):A:=
 (sl o12.1 [(lf o12.2.1),
 (lf true)])
def Al4 [An A Bool](Eg:Ac->Int->Aq->Ab->Option Bool)(L:Nat)(o13:Nat×Tu5):A:=
 (sl o13.1 [(lf o13.2.1),
 (lf true)])
def Al5 [An A Bool](Eg:Ac->Int->Aq->Ab->Option Bool)(L:Nat)(o14:Nat×Tu5):A:=
 (sl o14.1 [(lf o14.2.1),
 (lf true)])
def Al6 [An A Bool](Eg:Ac->Int->Aq->Ab->Option Bool)(L:Nat)(o15:Nat×Tu5):A:=
 (sl o15.1 [(lf o15.2.1),
 (lf true)])
def Ami [An A Bool](Eg:Ac->Int->Aq->Ab->Option Bool)(L:Nat)(a0:Ac)(a1:Int)(a2:Aq)(a3:Ab)(nx1:A)(nx2:A)(nx3:A)(nx4:A):A:=
 (gi a1 a0.aA
 (jp (.cn (a3.Op == 25)
 (.lf (decide (a3.N>=a2.dD)))
 (.lf false)) (λb1=>
 (cn b1
 (cn b1
 (lf false)
 (jp (.cn (a3.Op == 22)
 (.lf (decide (a3.N>=((gD a0.aA a1).aL.aG.length:Int))))
 (.lf false)) (λb2=>
 (cn b2
 (cn b2
 (lf false)
 (jp (.cn (a3.Op == 24)
 (.lf (decide (a3.N>=(Bs (((gD a0.aA a1).aL.aG.length:Int)+((gD a0.aA a1).aL.bJ.length:Int))))))
 (.lf false)) (λb3=>
 (cn b3
 (lf false)
 nx1))))
 (jp (.cn (a3.Op == 23)
 (.lf (decide (a3.N>=((gD a0.aA a1).aL.aM.length:Int))))
 (.lf false)) (λb5=>
 (cn b5
 (lf false)
 (jp (.cn (a3.Op == 24)
 (.lf (decide (a3.N>=(Bs (((gD a0.aA a1).aL.aG.length:Int)+((gD a0.aA a1).aL.bJ.length:Int))))))
 (.lf false)) (λb6=>
 (cn b6
 (lf false)
 nx2))))))))))
 (jp (.cn (a3.Op == 26)
 (.lf (decide (a3.N>=((gD a0.aA a1).aL.bX.length:Int))))
 (.lf false)) (λb7=>
 (cn b7
 (lf false)
 (jp (.cn (a3.Op == 22)
 (.lf (decide (a3.N>=((gD a0.aA a1).aL.aG.length:Int))))
 (.lf false)) (λb8=>
 (cn b8
 (cn b8
 (lf false)
 (jp (.cn (a3.Op == 24)
 (.lf (decide (a3.N>=(Bs (((gD a0.aA a1).aL.aG.length:Int)+((gD a0.aA a1).aL.bJ.length:Int))))))
 (.lf false)) (λb9=>
 (cn b9
 (lf false)
 nx3))))
 (jp (.cn (a3.Op == 23)
 (.lf (decide (a3.N>=((gD a0.aA a1).aL.aM.length:Int))))
 (.lf false)) (λb10=>
 (cn b10
 (lf false)
 (jp (.cn (a3.Op == 24)
 (.lf (decide (a3.N>=(Bs (((gD a0.aA a1).aL.aG.length:Int)+((gD a0.aA a1).aL.bJ.length:Int))))))
 (.lf false)) (λb11=>
 (cn b11
 (lf false)
 nx4))))))))))))))))
def A4d [An A Bool](Eg:Ac->Int->Aq->Ab->Option Bool)(L:Nat)(a0:Ac)(a1:Int)(a2:Aq)(a3:Ab):A:=Ami Eg L a0 a1 a2 a3 (bd (Hn Eg L a1 a0 a2 a3 L false 0) λo12=>Al3 Eg L o12) (bd (Hn Eg L a1 a0 a2 a3 L false 0) λo13=>Al4 Eg L o13) (bd (Hn Eg L a1 a0 a2 a3 L false 0) λo14=>Al5 Eg L o14) (bd (Hn Eg L a1 a0 a2 a3 L false 0) λo15=>Al6 Eg L o15)
def Aoe(Eg:Ac->Int->Aq->Ab->Option Bool)(L:Nat)(a0:Ac)(a1:Int)(a2:Aq)(a3:Ab):Option Bool:=A4d Eg L a0 a1 a2 a3
theorem b84(Eg:Ac->Int->Aq->Ab->Option Bool)(B10:Bso Eg)(L:Nat):Bso (Aoe Eg L):=λa0 a1 a2 a3 r h=>hF Tryz.func84 (s84 Eg B10 L) L (λkk=>eE (Ami Eg L a0 a1 a2 a3 (hq (Bbk Eg L (KA (O84 Eg L) L 9 c84 (rl [6,1,2,1]) (KE Tryz.f84 kk)) a1 a0 a2 a3 L (false,0)) λo12=>Al3 Eg L o12) (hq (Bbk Eg L (KA (O84 Eg L) L 9 c84 (rl [6,1,2,1]) (KE Tryz.f84 kk)) a1 a0 a2 a3 L (false,0)) λo13=>Al4 Eg L o13) (hq (Bbk Eg L (KA (O84 Eg L) L 9 c84 (rl [6,1,2,1]) (KE Tryz.f84 kk)) a1 a0 a2 a3 L (false,0)) λo14=>Al5 Eg L o14) (hq (Bbk Eg L (KA (O84 Eg L) L 9 c84 (rl [6,1,2,1]) (KE Tryz.f84 kk)) a1 a0 a2 a3 L (false,0)) λo15=>Al6 Eg L o15))) h
def I4:Nat->Ac->Int->Aq->Ab->Option Bool
 |0,_,_,_,_=>none
 |L+1,a0,a1,a2,a3=>Aoe (I4 L) L a0 a1 a2 a3
theorem B1y(L:Nat):Bso (I4 L):=by
 induction L with
 |zero=>exact λ_ _ _ _ _ h=>(by cases h)
 |succ L ih=>
  have i84:=ih;exact b84 (I4 L) i84 L
def X84(L:Nat):F6:=E4 B 84 B7 (cI .i64) Ox Bi (I4 L) (B1y L)
def c53:=CC Tryz.f53
def O53:Bc:=oL [X79 L,X80 L,X81 L,X82 L,X83 L,X84 L,X85 L]
def B5o(a1:Int)(r5:List Ab)(a0:Ac)(a2:Aq)(a3:Ar)(v:Tu6):St:=⟨[(0,.any),(1,I a1),(2,.any),(3,.any),Bgt,(6,.loc 6 0),(7,.loc 7 0),(8,I v.1),(9,I v.2.1),(10,lv (.dU r5)),(11,I v.2.2)],[(4,(Cm a0)),(6,(Ac3 a2)),(7,(Sc a3))],0⟩
def Aae [An A (Nat×Tu6)](a1:Int)(r5:List Ab)(a0:Ac)(a2:Aq)(a3:Ar)(rec:Int->Int->Int->A)(Ag:Int)(Al:Int)(Bj:Int):A:=
 (lw Bj r5
 (bd (Te L (Ab.cp (gD r5 Bj))) λr6=>
 (cn (r6 == 0)
 (gi Bj r5
 (bd (I4 L (⟨a0.aF,a0.aA,a0.aH⟩:Ac) a1 a2 (Ab.cp (gD r5 Bj))) λr7=>
 (cn (!r7)
 (lf (0,2,2,Bj))
 (cn (r6 != 0)
 (lf (0,r6,r6,Bj))
 (rec Ag r6 (Bs (Bj+1)))))))
 (cn (r6 != 0)
 (lf (0,r6,r6,Bj))
 (rec Ag r6 (Bs (Bj+1))))))
 (lf (1,Ag,Al,Bj)))
def Nl(L:Nat)(a1:Int)(r5:List Ab)(a0:Ac)(a2:Aq)(a3:Ar):Nat->Int->Int->Int->Option (Nat×Tu6)
 |0,_,_,_=>none
 |n+1,Ag,Al,Bj=>Aae L a1 r5 a0 a2 a3 (Nl L a1 r5 a0 a2 a3 n) Ag Al Bj
theorem B3n(a1:Int)(r5:List Ab)(a0:Ac)(a2:Aq)(a3:Ar):LP (EV (O53 L) L 9 c53.x.u.l.u.l.l) [0,1,2,3,4,6,7,8,9,10,11] [4,6,7] (B5o a1 r5 a0 a2 a3) [.ret,.exit 0] (λn v=>Nl L a1 r5 a0 a2 a3 n v.1 v.2.1 v.2.2) K:=lE (λ_=>rfl) λn v ih=>eE (Aae L a1 r5 a0 a2 a3 (λAg Al Bj=>re (ih (Ag,Al,Bj))) v.1 v.2.1 v.2.2)
def Ast [An A Int](a3:Ar)(o8:Nat×Tu6):A:=
 (sl o8.1 [(lf o8.2.1),
 (cn (a3.Op == 3)
 (bd (R8 L a3.bF) λr9=>
 (lf r9))
 (lf 0))])
def Aj2 [An A Int](a0:Ac)(a1:Int)(a2:Aq)(a3:Ar)(nx1:(List Ab)->Int->A):A:=
 (bd (Afp L a3.Op) λr1=>
 (jb (.cn (!r1)
 (.lf true)
 (.bd (Afq L (⟨a3.Op,a3.A,a3.B,a3.C,(Ab.cp a3.E),(Ab.cp a3.F),a3.aP,a3.bF,a3.bY⟩:Ar)) λr3=>
 (.lf (!r3)))) (λb2=>
 (cn b2
 (lf 1)
 (bd (Xz L (⟨a0.aF,a0.aA,a0.aH⟩:Ac) a1 a2 (⟨a3.Op,a3.A,a3.B,a3.C,(Ab.cp a3.E),(Ab.cp a3.F),a3.aP,a3.bF,a3.bY⟩:Ar)) λr4=>
 (cn (r4 != 0)
 (lf r4)
 (bd (Afn L (⟨a3.Op,a3.A,a3.B,a3.C,(Ab.cp a3.E),(Ab.cp a3.F),a3.aP,a3.bF,a3.bY⟩:Ar)) λr5=>
 (nx1 r5 r4))))))))
def A07 [An A Int](a0:Ac)(a1:Int)(a2:Aq)(a3:Ar):A:=Aj2 L a0 a1 a2 a3 (λr5 r4=>bd (Nl L a1 r5 a0 a2 a3 L 0 r4 0) λo8=>Ast L a3 o8)
def Z3(a0:Ac)(a1:Int)(a2:Aq)(a3:Ar):Option Int:=A07 L a0 a1 a2 a3
def X53:F6:=E4 I 53 B7 (cI .i64) Ox Oz (Z3 L) λa0 a1 a2 a3 r h=>hF Tryz.func53 (C:=O53 L) (oS _) L (λkk=>eE (Aj2 L a0 a1 a2 a3 (λr5 r4=>hq (B3n L (KA (O53 L) L 9 c53 (rl [10,1,2,1]) (KE Tryz.f53 kk)) a1 r5 a0 a2 a3 L (0,r4,0)) λo8=>Ast L a3 o8))) h
def c34:=CC Tryz.f34
def O34:Bc:=oL [X30 L,X53 L]
def B5b(a1:Int)(a0:Ac)(a2:Aq)(v:Tu6):St:=⟨[(0,.any),(1,I a1),(2,.any),T4,Bja,(6,I v.1),(7,I v.2.1),(8,I v.2.2),(9,.any),(25,.any),(46,.any),(51,.any)],[(3,(Cm a0)),(5,(Ac3 a2))],0⟩
def Wb [An A (Nat×Tu6)](a1:Int)(a0:Ac)(a2:Aq)(rec:Int->Int->Int->A)(Ag:Int)(Al:Int)(Af:Int):A:=
 (lw Af a2.aR
 (bd (Z3 L (⟨a0.aF,a0.aA,a0.aH⟩:Ac) a1 a2 (⟨(gD a2.aR Af).Op,(gD a2.aR Af).A,(gD a2.aR Af).B,(gD a2.aR Af).C,(Ab.cp ((gD a2.aR Af).E)),(Ab.cp ((gD a2.aR Af).F)),(gD a2.aR Af).aP,((gD a2.aR Af).bF),(gD a2.aR Af).bY⟩:Ar)) λr6=>
 (cn (r6 != 0)
 (lf (0,r6,r6,Af))
 (rec Ag r6 (Bs (Af+1)))))
 (lf (1,Ag,Al,Af)))
def Jd(L:Nat)(a1:Int)(a0:Ac)(a2:Aq):Nat->Int->Int->Int->Option (Nat×Tu6)
 |0,_,_,_=>none
 |n+1,Ag,Al,Af=>Wb L a1 a0 a2 (Jd L a1 a0 a2 n) Ag Al Af
theorem B3a(a1:Int)(a0:Ac)(a2:Aq):LP (EV (O34 L) L 9 c34.x.u.l.u.l.l) [0,1,2,3,5,6,7,8,9,25,46,51] [3,5] (B5b a1 a0 a2) [.ret,.exit 1] (λn v=>Jd L a1 a0 a2 n v.1 v.2.1 v.2.2) K:=lE (λ_=>rfl) λn v ih=>eE (Wb L a1 a0 a2 (λAg Al Af=>re (ih (Ag,Al,Af))) v.1 v.2.1 v.2.2)
def Wm [An A Int](L:Nat)(a2:Aq)(o7:Nat×Tu6):A:=
 (sl o7.1 [(lf o7.2.1),
 (gi (Bs ((a2.aR.length:Int)-1)) a2.aR
 (jp (.cn ((gD a2.aR (Bs ((a2.aR.length:Int)-1))).Op != 19)
 (.lf ((gD a2.aR (Bs ((a2.aR.length:Int)-1))).Op != 4))
 (.lf false)) (λb8=>
 (cn b8
 (lf 8)
 (lf 0)))))])
def W9 [An A Int](a0:Ac)(a1:Int)(a2:Aq)(nx1:Int->A):A:=
 (jp (.cn (decide (a1<0))
 (.lf true)
 (.lf (decide (a1>=(a0.aA.length:Int))))) (λb1=>
 (cn b1
 (lf 2)
 (bd (Jz L a2.aF) λr2=>
 (cn (r2 != 0)
 (lf r2)
 (jp (.cn (decide (a2.aJ<0))
 (.lf true)
 (.lf (decide (a2.aJ>a2.dD)))) (λb3=>
 (jp (.cn b3
 (.lf true)
 (.lf (decide (a2.aJ>6)))) (λb4=>
 (jp (.cn b4
 (.lf true)
 (.lf (decide (a2.dD>16)))) (λb5=>
 (cn b5
 (lf 2)
 (cn ((a2.aR.length:Int) == 0)
 (lf 7)
 (cn (decide ((a2.aR.length:Int)>1000))
 (lf 6)
 (nx1 r2)))))))))))))))
def Ats [An A Int](a0:Ac)(a1:Int)(a2:Aq):A:=W9 L a0 a1 a2 (λr2=>bd (Jd L a1 a0 a2 L 0 r2 0) λo7=>Wm L a2 o7)
def Xy(a0:Ac)(a1:Int)(a2:Aq):Option Int:=Ats L a0 a1 a2
def X34:F6:=E3 I 34 B7 (cI .i64) Ox (Xy L) λa0 a1 a2 r h=>hF Tryz.func34 (C:=O34 L) (oS _) L (λkk=>eE (W9 L a0 a1 a2 (λr2=>hq (B3a L (KA (O34 L) L 9 c34 (rl [10,1,2,1]) (KE Tryz.f34 kk)) a1 a0 a2 L (0,r2,0)) λo7=>Wm L a2 o7))) h
def c18:=CC Tryz.f18
def O18:Bc:=oL [X30 L,X31 L,X32 L,X33 L,X34 L]
def B4o(r2:Int)(Al:Int)(a0:Ac)(v:Js):St:=⟨[(0,.any),zq7,(2,I v.1),(3,I r2),(4,I Al),(5,I v.2),(6,.any),(7,.any),A8s,(15,.any),(20,.any)],[(1,(Cm a0))],0⟩
def Aac [An A C3](L:Nat)(r2:Int)(Al:Int)(a0:Ac)(rec:Int->Int->A)(Bz:Int)(Bq:Int):A:=
 (cn (decide (Bq<Al))
 (gi Bq a0.aA
 (gi Al a0.aA
 (cn ((gD a0.aA Bq).aL.aF.toList == (gD a0.aA Al).aL.aF.toList)
 (lf (0,4,Bq))
 (rec Bz (Bs (Bq+1))))))
 (lf (1,Bz,Bq)))
def J4(L:Nat)(r2:Int)(Al:Int)(a0:Ac):Nat->Int->Int->Option C3
 |0,_,_=>none
 |n+1,Bz,Bq=>Aac L r2 Al a0 (J4 L r2 Al a0 n) Bz Bq
theorem B2o(r2:Int)(Al:Int)(a0:Ac):LP (EV (O18 L) L 9 c18.w.u.l.u.l.l.u.l.l.w.l.u.l.l) [0,1,2,3,4,5,6,7,11,15,20] [1] (B4o r2 Al a0) [.ret,.exit 3] (λn v=>J4 L r2 Al a0 n v.1 v.2) K:=lE (λ_=>rfl) λn v ih=>eE (Aac L r2 Al a0 (λBz Bq=>re (ih (Bz,Bq))) v.1 v.2)
def B4n(a0:Ac)(v:Tu6):St:=⟨[(0,.any),zq7,(2,I v.1),(3,I v.2.1),(4,I v.2.2),(6,.any),(7,.any),A8s,(15,.any),(20,.any)],[(1,(Cm a0))],0⟩
def Abc [An A (Nat×Tu6)](r2:Int)(Al:Int)(a0:Ac)(rec:Int->Int->Int->A)(o3:Nat×Js):A:=
 (sl o3.1 [(lf (0,o3.2.1,r2,Al)),
 (gi Al a0.aA
 (bd (Acu L (⟨((gD a0.aA Al).aL),(gD a0.aA Al).aD⟩:A9)) λr4=>
 (cn (!r4)
 (lf (0,8,r2,Al))
 (rec o3.2.1 r2 (Bs (Al+1))))))])
def Ab6 [An A (Nat×Tu6)](a0:Ac)(rec:Int->Int->Int->A)(Ai:Int)(Ag:Int)(Al:Int)(nx1:Int->Int->Int->A):A:=
 (lw Al a0.aA
 (bd (Zz L (⟨a0.aF,[],[((gD a0.aA Al).aL)],[]⟩:Aj)) λr2=>
 (cn (r2 != 0)
 (lf (0,r2,r2,Al))
 (nx1 r2 Al Ai)))
 (lf (1,Ai,Ag,Al)))
def Ajh [An A (Nat×Tu6)](a0:Ac)(rec:Int->Int->Int->A)(Ai:Int)(Ag:Int)(Al:Int):A:=Ab6 L a0 rec Ai Ag Al (λr2 Al Ai=>bd (J4 L r2 Al a0 L Ai 0) λo3=>Abc L r2 Al a0 rec o3)
def Nj(L:Nat)(a0:Ac):Nat->Int->Int->Int->Option (Nat×Tu6)
 |0,_,_,_=>none
 |n+1,Ai,Ag,Al=>Ajh L a0 (Nj L a0 n) Ai Ag Al
theorem B2n(a0:Ac):LP (EV (O18 L) L 9 c18.w.u.l.u.l.l) [0,1,2,3,4,6,7,11,15,20] [1] (B4n a0) [.ret,.exit 1] (λn v=>Nj L a0 n v.1 v.2.1 v.2.2) K:=lE (λ_=>rfl) λn v ih=>eE (Ab6 L a0 (λAi Ag Al=>re (ih (Ai,Ag,Al))) v.1 v.2.1 v.2.2 (λr2 Al Ai=>hq (B2o L (KA (O18 L) L 9 c18.w.u.l.u.l.l (rl [2,2,4,1,2,1]) (Hm (I2 (EV (O18 L) L 9 c18.w.u.l.u.l.l) [0,1,2,3,4,6,7,11,15,20] [1] n) [0,1,2,3,4,6,7,11,15,20] [1] K)) r2 Al a0 L (Ai,0)) λo3=>Abc L r2 Al a0 (λAi Ag Al=>re (ih (Ai,Ag,Al))) o3))
def B4q(o5:Nat×Tu6)(Vz:Int)(a0:Ac)(v:Js):St:=⟨[(0,.any),zq7,(2,I o5.2.1),(3,I v.1),(4,.any),(5,.any),(6,I Vz),(7,I v.2),A8s,(15,.any),(20,.any)],[(1,(Cm a0))],0⟩
def Aad [An A C3](o5:Nat×Tu6)(Vz:Int)(a0:Ac)(rec:Int->Int->A)(H6:Int)(S7:Int):A:=
 (gi Vz a0.aA
 (cn (decide (S7<((gD a0.aA Vz).aD.length:Int)))
 (cn (H6 == 0)
 (gi Vz a0.aA
 (gi S7 ((gD a0.aA Vz).aD)
 (bd (Xy L (⟨a0.aF,a0.aA,a0.aH⟩:Ac) Vz (gD ((gD a0.aA Vz).aD) S7)) λr7=>
 (rec r7 (Bs (S7+1))))))
 (rec H6 (Bs (S7+1))))
 (lf (0,H6,S7))))
def J5(L:Nat)(o5:Nat×Tu6)(Vz:Int)(a0:Ac):Nat->Int->Int->Option C3
 |0,_,_=>none
 |n+1,H6,S7=>Aad L o5 Vz a0 (J5 L o5 Vz a0 n) H6 S7
theorem B2q(o5:Nat×Tu6)(Vz:Int)(a0:Ac):LP (EV (O18 L) L 9 c18.x.u.l.u.l.l.u.l.l.u.l.l) [0,1,2,3,4,5,6,7,11,15,20] [1] (B4q o5 Vz a0) [.exit 7] (λn v=>J5 L o5 Vz a0 n v.1 v.2) K:=lE (λ_=>rfl) λn v ih=>eE (Aad L o5 Vz a0 (λH6 S7=>re (ih (H6,S7))) v.1 v.2)
def B4p(o5:Nat×Tu6)(a0:Ac)(v:Js):St:=⟨[(0,.any),zq7,(2,I o5.2.1),(3,I v.1),(4,.any),(5,.any),(6,I v.2),A8s,(15,.any),(20,.any)],[(1,(Cm a0))],0⟩
def Abd [An A C3](L:Nat)(Vz:Int)(rec:Int->Int->A)(o8:Nat×Js):A:=
 (sl o8.1 [(rec o8.2.1 (Bs (Vz+1)))])
def Ab7 [An A C3](L:Nat)(o5:Nat×Tu6)(a0:Ac)(rec:Int->Int->A)(Iv:Int)(Vz:Int)(nx3:Int->Int->A):A:=
 (cn (decide (Vz<(a0.aA.length:Int)))
 (nx3 Vz Iv)
 (lf (0,Iv,Vz)))
def Aji [An A C3](o5:Nat×Tu6)(a0:Ac)(rec:Int->Int->A)(Iv:Int)(Vz:Int):A:=Ab7 L o5 a0 rec Iv Vz (λVz Iv=>bd (J5 L o5 Vz a0 L Iv 0) λo8=>Abd L Vz rec o8)
def Nk(L:Nat)(o5:Nat×Tu6)(a0:Ac):Nat->Int->Int->Option C3
 |0,_,_=>none
 |n+1,Iv,Vz=>Aji L o5 a0 (Nk L o5 a0 n) Iv Vz
theorem B2p(o5:Nat×Tu6)(a0:Ac):LP (EV (O18 L) L 9 c18.x.u.l.u.l.l) [0,1,2,3,4,5,6,11,15,20] [1] (B4p o5 a0) [.exit 5] (λn v=>Nk L o5 a0 n v.1 v.2) K:=lE (λ_=>rfl) λn v ih=>eE (Ab7 L o5 a0 (λIv Vz=>re (ih (Iv,Vz))) v.1 v.2 (λVz Iv=>hq (B2q L (KA (O18 L) L 9 c18.x.u.l.u.l.l (rl [2,2,2,1]) (Hm (I2 (EV (O18 L) L 9 c18.x.u.l.u.l.l) [0,1,2,3,4,5,6,11,15,20] [1] n) [0,1,2,3,4,5,6,11,15,20] [1] K)) o5 Vz a0 L (Iv,0)) λo8=>Abd L Vz (λIv Vz=>re (ih (Iv,Vz))) o8))
def Ajt [An A Int](L:Nat)(o9:Nat×Js):A:=
 (sl o9.1 [(lf o9.2.1)])
def Aj1 [An A Int](a0:Ac)(o5:Nat×Tu6)(nx4:(Nat×Tu6)->Int->A):A:=
 (sl o5.1 [(lf o5.2.1),
 (bd (Ain L (⟨a0.aF,a0.aA,a0.aH⟩:Ac)) λr6=>
 (nx4 o5 r6))])
def Ass [An A Int](a0:Ac)(o5:Nat×Tu6):A:=Aj1 L a0 o5 (λo5 r6=>bd (Nk L o5 a0 L r6 0) λo9=>Ajt L o9)
def Aj0 [An A Int](a0:Ac)(nx2:Int->A):A:=
 (bd (Jz L a0.aF) λr1=>
 (cn (r1 != 0)
 (lf r1)
 (cn ((a0.aA.length:Int) == 0)
 (lf 7)
 (cn (decide ((a0.aA.length:Int)>16))
 (lf 6)
 (nx2 r1)))))
def A05 [An A Int](a0:Ac):A:=Aj0 L a0 (λr1=>bd (Nj L a0 L 0 r1 0) λo5=>Ass L a0 o5)
def Sa(a0:Ac):Option Int:=A05 L a0
def X18:F6:=E1 I 18 B7 (Sa L) λa0 r h=>hF Tryz.func18 (C:=O18 L) (oS _) L (λkk=>eE (Aj0 L a0 (λr1=>hq (B2n L (KA (O18 L) L 9 c18 (rl [6,1,2,1]) (KE Tryz.f18 kk)) a0 L (0,r1,0)) λo5=>Aj1 L a0 o5 (λo5 r6=>hq (B2p L (KA (O18 L) L 9 c18 (rl [10,1,2,1]) (KE Tryz.f18 kk)) o5 a0 L (r6,0)) λo9=>Ajt L o9)))) h
def Arn [An A Bool](L:Nat)(a0:Int):A:=
 (jp (.cn (decide (a0>=1))
 (.lf (decide (a0<=1000)))
 (.lf false)) (λb1=>
 (lf b1)))
def Z4(a0:Int):Option Bool:=Arn L a0
def X67:F6:=E1 B 67 (cI .i64) (Z4 L) λa0 r h=>hF Tryz.func67 (oS []) L (λkk=>eE (Arn L a0)) h
end
end Go.Proofs.YthjhkpgonleelaaGreatDoor.Ev
