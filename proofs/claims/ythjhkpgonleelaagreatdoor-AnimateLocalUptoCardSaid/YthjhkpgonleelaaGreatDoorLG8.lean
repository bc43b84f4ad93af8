import Derived.Test.YthjhkpgonleelaaGreatDoorLG0
set_option maxRecDepth 100000
set_option maxHeartbeats 4000000
set_option linter.unusedVariables false
set_option linter.unusedSimpArgs false
set_option linter.unnecessarySimpa false
namespace Go.Proofs.YthjhkpgonleelaaGreatDoor.Ev
open Go An
noncomputable section
variable {A:Type} (L n:Nat) (kk:K5) (K:Ef) (k:Dj)
def Anp [An A Bool](L:Nat)(a0:Int):A:=
 (jp (.cn (decide (a0>=97))
 (.lf (decide (a0<=122)))
 (.lf false)) (λb1=>
 (lf b1)))
def Zg(a0:Int):Option Bool:=Anp L a0
def X45:F3:=E1 B 45 (cI .u8) (Zg L) λa0 r h=>hF Tryz.func45 (oS []) L (λkk=>eE (Anp L a0)) h
def Aqa [An A (List Yb)](L:Nat):A:=
 (lf [(⟨#[97,100,100]⟩:Yb),(⟨#[97,102,116,101,114]⟩:Yb),(⟨#[97,110,100]⟩:Yb),(⟨#[97,116]⟩:Yb),(⟨#[98,101,108,116]⟩:Yb),(⟨#[98,111,111,108]⟩:Yb),(⟨#[99,111,110,115,101,114,118,101]⟩:Yb),(⟨#[99,111,110,115,116]⟩:Yb),(⟨#[99,111,117,110,116]⟩:Yb),(⟨#[99,121,99,108,101]⟩:Yb),(⟨#[100,111,119,110]⟩:Yb),(⟨#[100,114,97,119]⟩:Yb),(⟨#[100,117,114]⟩:Yb),(⟨#[101,108,115,101]⟩:Yb),(⟨#[101,110,100]⟩:Yb),(⟨#[101,118,101,114,121]⟩:Yb),(⟨#[102,97,108,115,101]⟩:Yb),(⟨#[102,97,117,108,116]⟩:Yb),(⟨#[102,105,102,111]⟩:Yb),(⟨#[102,114,101,101]⟩:Yb),(⟨#[102,114,111,109]⟩:Yb),(⟨#[103,101,111,109]⟩:Yb),(⟨#[103,101,116]⟩:Yb),(⟨#[104,111,108,100]⟩:Yb),(⟨#[105,102]⟩:Yb),(⟨#[105,110,116]⟩:Yb),(⟨#[105,110,116,111]⟩:Yb),(⟨#[108,101,97,115,116]⟩:Yb),(⟨#[108,101,118,101,108]⟩:Yb),(⟨#[108,105,102,111]⟩:Yb),(⟨#[108,105,110,107]⟩:Yb),(⟨#[108,111,99,97,108]⟩:Yb),(⟨#[109,97,120]⟩:Yb),(⟨#[109,105,110]⟩:Yb),(⟨#[109,111,100,101,108]⟩:Yb),(⟨#[110,111,116]⟩:Yb),(⟨#[110,111,119]⟩:Yb),(⟨#[111,98,115,101,114,118,101]⟩:Yb),(⟨#[111,114]⟩:Yb),(⟨#[112,97,114,97,109]⟩:Yb),(⟨#[112,114,101,101,109,112,116]⟩:Yb),(⟨#[112,114,105,111]⟩:Yb),(⟨#[112,117,116]⟩:Yb),(⟨#[113,117,101,117,101]⟩:Yb),(⟨#[114,101,108,101,97,115,101]⟩:Yb),(⟨#[114,101,115,111,117,114,99,101]⟩:Yb),(⟨#[114,105,100,101]⟩:Yb),(⟨#[114,111,117,116,105,110,101]⟩:Yb),(⟨#[115,101,105,122,101]⟩:Yb),(⟨#[115,101,110,100]⟩:Yb),(⟨#[115,101,116]⟩:Yb),(⟨#[115,104,105,102,116]⟩:Yb),(⟨#[115,105,103,110,97,108]⟩:Yb),(⟨#[115,105,116,101]⟩:Yb),(⟨#[115,105,122,101]⟩:Yb),(⟨#[115,112,97,119,110]⟩:Yb),(⟨#[115,116,97,114,116]⟩:Yb),(⟨#[115,116,111,112]⟩:Yb),(⟨#[115,116,111,114,101]⟩:Yb),(⟨#[115,116,114,101,97,109]⟩:Yb),(⟨#[115,117,109]⟩:Yb),(⟨#[116,97,98,108,101]⟩:Yb),(⟨#[116,97,108,108,121]⟩:Yb),(⟨#[116,105,99,107,115]⟩:Yb),(⟨#[116,105,109,101]⟩:Yb),(⟨#[116,114,117,101]⟩:Yb),(⟨#[117,110,105,102,111,114,109]⟩:Yb),(⟨#[117,110,116,105,108]⟩:Yb),(⟨#[117,112]⟩:Yb),(⟨#[118,97,114]⟩:Yb),(⟨#[119,97,105,116]⟩:Yb),(⟨#[119,97,105,116,105,110,103]⟩:Yb),(⟨#[119,104,105,108,101]⟩:Yb)])
def Ag6:Option (List Yb):=Aqa L
def X70:F3:=E0 (λ(x:List Yb)=>lv (.t9 x)) 70 (Ag6 L) λr h=>hF Tryz.func70 (oS []) L (λkk=>eE (Aqa L)) h
def c69:=CC Tryz.f69
def O69(L:Nat):Bc:=oL []
def B3z(a0:List Yb)(a1:Yb)(v:Jc):St:=⟨[(0,lv (.t9 a0)),(1,S a1),(4,I v.1),(5,I v.2)],[],0⟩
def Adc [An A C3](L:Nat)(a0:List Yb)(a1:Yb)(rec:Int->Int->A)(Ak:Int)(Af:Int):A:=
 (lw Af a0
 (cn ((gD a0 Af).toList == a1.toList)
 (lf (0,Af,Af))
 (rec Ak (Bu (Af+1))))
 (lf (1,Ak,Af)))
def Pr(L:Nat)(a0:List Yb)(a1:Yb):Nat->Int->Int->Option C3
 |0,_,_=>none
 |n+1,Ak,Af=>Adc L a0 a1 (Pr L a0 a1 n) Ak Af
theorem B1y(a0:List Yb)(a1:Yb):LP (EV (O69 L) L 9 c69.u.l.u.l.l) [0,1,4,5] [] (B3z a0 a1) [.ret,.exit 0] (λn v=>Pr L a0 a1 n v.1 v.2) K:=lE (λ_=>rfl) λn v ih=>eE (Adc L a0 a1 (λAk Af=>re (ih (Ak,Af))) v.1 v.2)
def Ads [An A Int](L:Nat)(o1:Nat×Jc):A:=
 (sl o1.1 [(lf o1.2.1),
 (lf (-1))])
def A2t [An A Int](a0:List Yb)(a1:Yb):A:=(bd (Pr L a0 a1 L 0 0) λo1=>Ads L o1)
def J7(a0:List Yb)(a1:Yb):Option Int:=A2t L a0 a1
def X69:F3:=E2 I 69 cl9 cS (J7 L) λa0 a1 r h=>hF Tryz.func69 (C:=O69 L) (oS _) L (λkk=>eE ((hq (B1y L (KA (O69 L) L 9 c69 (rl [2,1,2,1]) (KE Tryz.f69 kk)) a0 a1 L (0,0)) λo1=>Ads L o1))) h
def Aka [An A Bool](a0:Yb):A:=
 (bd (Ag6 L) λr1=>
 (bd (J7 L r1 a0) λr2=>
 (lf (decide (r2>=0)))))
def Ac6(a0:Yb):Option Bool:=Aka L a0
def X46:F3:=E1 B 46 cS (Ac6 L) λa0 r h=>hF Tryz.func46 (oS [X69 L,X70 L]) L (λkk=>eE (Aka L a0)) h
def c30:=CC Tryz.f30
def O30:Bc:=oL [X45 L,X46 L]
def B26(a0:Yb)(v:Jc):St:=⟨[(0,S a0),(2,I v.1),(3,I v.2)],[],0⟩
def Uy [An A C3](a0:Yb)(rec:Int->Int->A)(Ag:Int)(Ak:Int):A:=
 (cn (decide (Ak<(a0.size:Int)))
 (cn ((if 0<=Ak then a0[Int.toNat Ak]? else none).isSome)
 (bd (Zg L (D1 (if 0<=Ak then a0[Int.toNat Ak]? else none))) λr6=>
 (jb (.cn (!r6)
 (.cn ((if 0<=Ak then a0[Int.toNat Ak]? else none).isSome)
 (.lf ((D1 (if 0<=Ak then a0[Int.toNat Ak]? else none)) != 95))
 .fl)
 (.lf false)) (λb7=>
 (jb (.cn b7
 (.cn ((if 0<=Ak then a0[Int.toNat Ak]? else none).isSome)
 (.cn (decide ((D1 (if 0<=Ak then a0[Int.toNat Ak]? else none))<48))
 (.lf true)
 (.cn ((if 0<=Ak then a0[Int.toNat Ak]? else none).isSome)
 (.lf (decide ((D1 (if 0<=Ak then a0[Int.toNat Ak]? else none))>57)))
 .fl))
 .fl)
 (.lf false)) (λb8=>
 (cn b8
 (lf (0,3,Ak))
 (rec Ag (Bu (Ak+1)))))))))
 fl)
 (lf (1,Ag,Ak)))
def Mh(L:Nat)(a0:Yb):Nat->Int->Int->Option C3
 |0,_,_=>none
 |n+1,Ag,Ak=>Uy L a0 (Mh L a0 n) Ag Ak
theorem B06(a0:Yb):LP (EV (O30 L) L 9 c30.w.l.u.l.l) [0,2,3] [] (B26 a0) [.ret,.exit 0] (λn v=>Mh L a0 n v.1 v.2) K:=lE (λ_=>rfl) λn v ih=>eE (Uy L a0 (λAg Ak=>re (ih (Ag,Ak))) v.1 v.2)
def q8 [An A Int](L:Nat)(o9:Nat×Jc):A:=
 (sl o9.1 [(lf o9.2.1),
 (lf 0)])
def Aap [An A Int](a0:Yb)(nx1:A):A:=
 (jp (.cn (decide ((a0.size:Int)<1))
 (.lf true)
 (.lf (decide ((a0.size:Int)>24)))) (λb1=>
 (jb (.cn b1
 (.lf true)
 (.cn ((if 0<=0 then a0[Int.toNat 0]? else none).isSome)
 (.bd (Zg L (D1 (if 0<=0 then a0[Int.toNat 0]? else none))) λr3=>
 (.lf (!r3)))
 .fl)) (λb2=>
 (jb (.cn b2
 (.lf true)
 (.bd (Ac6 L a0) λr5=>
 (.lf r5))) (λb4=>
 (cn b4
 (lf 3)
 nx1)))))))
def Azk [An A Int](a0:Yb):A:=Aap L a0 (bd (Mh L a0 L 0 0) λo9=>q8 L o9)
def Jk(a0:Yb):Option Int:=Azk L a0
def X30:F3:=E1 I 30 cS (Jk L) λa0 r h=>hF Tryz.func30 (C:=O30 L) (oS _) L (λkk=>eE (Aap L a0 (hq (B06 L (KA (O30 L) L 9 c30 (rl [4,1,2,1]) (KE Tryz.f30 kk)) a0 L (0,0)) λo9=>q8 L o9))) h
def Ans [An A Int](L:Nat)(a0:Bool)(a1:Int):A:=
 (cn a0
 (lf 0)
 (lf a1))
def Cj(a0:Bool)(a1:Int):Option Int:=Ans L a0 a1
def X48:F3:=E2 I 48 cB (cI .i64) (Cj L) λa0 a1 r h=>hF Tryz.func48 (oS []) L (λkk=>eE (Ans L a0 a1)) h
def Aqh [An A Int](L:Nat)(a0:Int)(a1:Int):A:=
 (cn (a0 != 0)
 (lf a0)
 (lf a1))
def Cw(a0:Int)(a1:Int):Option Int:=Aqh L a0 a1
def X47:F3:=E2 I 47 (cI .i64) (cI .i64) (Cw L) λa0 a1 r h=>hF Tryz.func47 (oS []) L (λkk=>eE (Aqh L a0 a1)) h
def Aqi [An A Int](a0:Yb)(a1:List Yb):A:=
 (bd (Jk L a0) λr1=>
 (bd (J7 L a1 a0) λr2=>
 (bd (Cj L (decide (r2<0)) 4) λr3=>
 (bd (Cw L r1 r3) λr4=>
 (lf r4)))))
def Lk(a0:Yb)(a1:List Yb):Option Int:=Aqi L a0 a1
def X50:F3:=E2 I 50 cS cl9 (Lk L) λa0 a1 r h=>hF Tryz.func50 (oS [X30 L,X47 L,X48 L,X69 L]) L (λkk=>eE (Aqi L a0 a1)) h
def Aqg [An A Bool](L:Nat)(a0:Int):A:=
 (jp (.cn (a0 == 1)
 (.lf true)
 (.lf (a0 == 2))) (λb1=>
 (jp (.cn b1
 (.lf true)
 (.lf (a0 == 3))) (λb2=>
 (lf b2)))))
def Um(a0:Int):Option Bool:=Aqg L a0
def X71:F3:=E1 B 71 (cI .i64) (Um L) λa0 r h=>hF Tryz.func71 (oS []) L (λkk=>eE (Aqg L a0)) h
def A2r [An A Bool](L:Nat)(a0:Int):A:=
 (jp (.cn (decide (a0>=(-1000000000000)))
 (.lf (decide (a0<=1000000000000)))
 (.lf false)) (λb1=>
 (lf b1)))
def Ale(a0:Int):Option Bool:=A2r L a0
def Bqw:F3:=E1 B 131 (cI .i64) (Ale L) λa0 r h=>hF Tryz.func131 (oS []) L (λkk=>eE (A2r L a0)) h
def Ant [An A Bool](L:Nat)(a0:Int)(a1:Int)(a2:Int):A:=
 (jp (.cn (decide (a0>=a1))
 (.lf (decide (a0<=a2)))
 (.lf false)) (λb1=>
 (lf b1)))
def Dh(a0:Int)(a1:Int)(a2:Int):Option Bool:=Ant L a0 a1 a2
def X78:F3:=E3 B 78 (cI .i64) (cI .i64) (cI .i64) (Dh L) λa0 a1 a2 r h=>hF Tryz.func78 (oS []) L (λkk=>eE (Ant L a0 a1 a2)) h
def Atl [An A Bool](a0:Int)(a1:Int):A:=
 (cn (a0 == 1)
 (bd (Ale L a1) λr1=>
 (lf r1))
 (cn (a0 == 2)
 (jp (.cn (a1 == 0)
 (.lf true)
 (.lf (a1 == 1))) (λb2=>
 (lf b2)))
 (cn (a0 == 3)
 (bd (Dh L a1 0 1000000000) λr3=>
 (lf r3))
 (lf false))))
def Ym(a0:Int)(a1:Int):Option Bool:=Atl L a0 a1
def X72:F3:=E2 B 72 (cI .i64) (cI .i64) (Ym L) λa0 a1 r h=>hF Tryz.func72 (oS [X78 L,Bqw L]) L (λkk=>eE (Atl L a0 a1)) h
def Aqj [An A Int](a0:Aw)(a1:List Yb):A:=
 (bd (Lk L a0.aF a1) λr1=>
 (bd (Um L a0.bM) λr2=>
 (bd (Cj L r2 1) λr3=>
 (bd (Cw L r1 r3) λr4=>
 (bd (Ym L a0.bM a0.N) λr5=>
 (bd (Cj L r5 2) λr6=>
 (bd (Cw L r4 r6) λr7=>
 (lf r7))))))))
def Aeb(a0:Aw)(a1:List Yb):Option Int:=Aqj L a0 a1
def X49:F3:=E2 I 49 A9h cl9 (Aeb L) λa0 a1 r h=>hF Tryz.func49 (oS [X47 L,X48 L,X50 L,X71 L,X72 L]) L (λkk=>eE (Aqj L a0 a1)) h
def c73:=CC Tryz.f73
def O73(L:Nat):Bc:=oL []
def Ca9:(List (List Yb))->Prop:=λx=>kk ((λ(x:List (List Yb))=>lv (.t61 x)) x)
def B30(a0:Aa)(v:Nl):St:=⟨[(0,.any),zq7,Bo7,Bo8,(4,I v.1),(5,.any),(6,.any),(7,.any),(8,.any)],[(1,(Ae a0)),(9,[.bA true (.t9 v.2),zq6,zq6,zq6,zq6,zq6,zq6,zq6,zq6,zq6])],0⟩
def Z8 [An A (Nat×Nl)](L:Nat)(a0:Aa)(rec:Int->List Yb->A)(Ag:Int)(Ws:List Yb):A:=
 (cn (decide (Ag<(a0.bX.length:Int)))
 (gq ((0:Int)<=0)
 (gq (0<((10:Nat):Int))
 (gi Ag a0.bX
 (gq ((Ws.length+ [(gD a0.bX Ag).aF].length)*16<=140737488355328)
 (gq (Ws.length+ [(gD a0.bX Ag).aF].length<=maxLen)
 (gq ((0:Int)<=0)
 (gq (0<((10:Nat):Int))
 (rec (Bu (Ag+1)) (Ws++ [(gD a0.bX Ag).aF])))))))))
 (lf (0,Ag,Ws)))
def Mo(L:Nat)(a0:Aa):Nat->Int->List Yb->Option (Nat×Nl)
 |0,_,_=>none
 |n+1,Ag,Ws=>Z8 L a0 (Mo L a0 n) Ag Ws
theorem B1z(a0:Aa):LP (EV (O73 L) L 9 c73.w.l.u.l.l) [0,1,2,3,4,5,6,7,8] [1,9] (B30 a0) [.exit 0] (λn v=>Mo L a0 n v.1 v.2) K:=lE (λ_=>rfl) λn v ih=>eE (Z8 L a0 (λAg Ws=>re (ih (Ag,Ws))) v.1 v.2)
def B31(a0:Aa)(o1:Nat×Nl)(v:Nl):St:=⟨[(0,.any),zq7,Bo7,Bo8,(4,.any),(5,I v.1),(6,.any),(7,.any),(8,.any)],[(1,(Ae a0)),(9,[.bA true (.t9 o1.2.2),.bA true (.t9 v.2),zq6,zq6,zq6,zq6,zq6,zq6,zq6,zq6])],0⟩
def Z9 [An A (Nat×Nl)](L:Nat)(a0:Aa)(o1:Nat×Nl)(rec:Int->List Yb->A)(Gf:Int)(Wt:List Yb):A:=
 (cn (decide (Gf<(a0.aG.length:Int)))
 (gq ((0:Int)<=1)
 (gq (1<((10:Nat):Int))
 (gi Gf a0.aG
 (gq ((Wt.length+ [(gD a0.aG Gf).aF].length)*16<=140737488355328)
 (gq (Wt.length+ [(gD a0.aG Gf).aF].length<=maxLen)
 (gq ((0:Int)<=1)
 (gq (1<((10:Nat):Int))
 (rec (Bu (Gf+1)) (Wt++ [(gD a0.aG Gf).aF])))))))))
 (lf (0,Gf,Wt)))
def Mp(L:Nat)(a0:Aa)(o1:Nat×Nl):Nat->Int->List Yb->Option (Nat×Nl)
 |0,_,_=>none
 |n+1,Gf,Wt=>Z9 L a0 o1 (Mp L a0 o1 n) Gf Wt
theorem B10(a0:Aa)(o1:Nat×Nl):LP (EV (O73 L) L 9 c73.w.u.l.u.l.l) [0,1,2,3,4,5,6,7,8] [1,9] (B31 a0 o1) [.exit 2] (λn v=>Mp L a0 o1 n v.1 v.2) K:=lE (λ_=>rfl) λn v ih=>eE (Z9 L a0 o1 (λGf Wt=>re (ih (Gf,Wt))) v.1 v.2)
def Boa(a0:Aa)(o1:Nat×Nl)(o2:Nat×Nl)(v:Nl):St:=⟨[(0,.any),zq7,Bo7,Bo8,(4,.any),(5,.any),(6,I v.1),(7,.any),(8,.any)],[(1,(Ae a0)),(9,[.bA true (.t9 o1.2.2),.bA true (.t9 o2.2.2),.bA true (.t9 v.2),zq6,zq6,zq6,zq6,zq6,zq6,zq6])],0⟩
def b0 [An A (Nat×Nl)](L:Nat)(a0:Aa)(o1:Nat×Nl)(o2:Nat×Nl)(rec:Int->List Yb->A)(Ig:Int)(E7:List Yb):A:=
 (cn (decide (Ig<(a0.aL.length:Int)))
 (gq ((0:Int)<=2)
 (gq (2<((10:Nat):Int))
 (gi Ig a0.aL
 (gq ((E7.length+ [(gD a0.aL Ig).aF].length)*16<=140737488355328)
 (gq (E7.length+ [(gD a0.aL Ig).aF].length<=maxLen)
 (gq ((0:Int)<=2)
 (gq (2<((10:Nat):Int))
 (rec (Bu (Ig+1)) (E7++ [(gD a0.aL Ig).aF])))))))))
 (lf (0,Ig,E7)))
def Mq(L:Nat)(a0:Aa)(o1:Nat×Nl)(o2:Nat×Nl):Nat->Int->List Yb->Option (Nat×Nl)
 |0,_,_=>none
 |n+1,Ig,E7=>b0 L a0 o1 o2 (Mq L a0 o1 o2 n) Ig E7
theorem B11(a0:Aa)(o1:Nat×Nl)(o2:Nat×Nl):LP (EV (O73 L) L 9 c73.x.l.u.l.l) [0,1,2,3,4,5,6,7,8] [1,9] (Boa a0 o1 o2) [.exit 4] (λn v=>Mq L a0 o1 o2 n v.1 v.2) K:=lE (λ_=>rfl) λn v ih=>eE (b0 L a0 o1 o2 (λIg E7=>re (ih (Ig,E7))) v.1 v.2)
def B32(a0:Aa)(o1:Nat×Nl)(o2:Nat×Nl)(o3:Nat×Nl)(v:Nl):St:=⟨[(0,.any),zq7,Bo7,Bo8,(4,.any),(5,.any),(6,.any),(7,I v.1),(8,.any)],[(1,(Ae a0)),(9,[.bA true (.t9 o1.2.2),.bA true (.t9 o2.2.2),.bA true (.t9 o3.2.2),.bA true (.t9 v.2),zq6,zq6,zq6,zq6,zq6,zq6])],0⟩
def d4 [An A (Nat×Nl)](L:Nat)(a0:Aa)(o1:Nat×Nl)(o2:Nat×Nl)(o3:Nat×Nl)(rec:Int->List Yb->A)(Hw:Int)(E8:List Yb):A:=
 (cn (decide (Hw<(a0.bN.length:Int)))
 (gq ((0:Int)<=3)
 (gq (3<((10:Nat):Int))
 (gi Hw a0.bN
 (gq ((E8.length+ [(gD a0.bN Hw).aF].length)*16<=140737488355328)
 (gq (E8.length+ [(gD a0.bN Hw).aF].length<=maxLen)
 (gq ((0:Int)<=3)
 (gq (3<((10:Nat):Int))
 (rec (Bu (Hw+1)) (E8++ [(gD a0.bN Hw).aF])))))))))
 (lf (0,Hw,E8)))
def Mr(L:Nat)(a0:Aa)(o1:Nat×Nl)(o2:Nat×Nl)(o3:Nat×Nl):Nat->Int->List Yb->Option (Nat×Nl)
 |0,_,_=>none
 |n+1,Hw,E8=>d4 L a0 o1 o2 o3 (Mr L a0 o1 o2 o3 n) Hw E8
theorem B12(a0:Aa)(o1:Nat×Nl)(o2:Nat×Nl)(o3:Nat×Nl):LP (EV (O73 L) L 9 c73.x.u.l.u.l.l) [0,1,2,3,4,5,6,7,8] [1,9] (B32 a0 o1 o2 o3) [.exit 6] (λn v=>Mr L a0 o1 o2 o3 n v.1 v.2) K:=lE (λ_=>rfl) λn v ih=>eE (d4 L a0 o1 o2 o3 (λHw E8=>re (ih (Hw,E8))) v.1 v.2)
def B33(a0:Aa)(o1:Nat×Nl)(o2:Nat×Nl)(o3:Nat×Nl)(o4:Nat×Nl)(v:Nl):St:=⟨[(0,.any),zq7,Bo7,Bo8,(4,.any),(5,.any),(6,.any),(7,.any),(8,I v.1)],[(1,(Ae a0)),(9,[.bA true (.t9 o1.2.2),.bA true (.t9 o2.2.2),.bA true (.t9 o3.2.2),.bA true (.t9 o4.2.2),lv (.t9 a0.bH),lv (.t9 a0.bB),lv (.t9 a0.bG),lv (.t9 a0.bP),lv (.t9 a0.bF),.bA true (.t9 v.2)])],0⟩
def d5 [An A (Nat×Nl)](L:Nat)(a0:Aa)(o1:Nat×Nl)(o2:Nat×Nl)(o3:Nat×Nl)(o4:Nat×Nl)(rec:Int->List Yb->A)(A5x:Int)(Wu:List Yb):A:=
 (cn (decide (A5x<(a0.aD.length:Int)))
 (gq ((0:Int)<=9)
 (gq (9<((10:Nat):Int))
 (gi A5x a0.aD
 (gq ((Wu.length+ [(gD a0.aD A5x).aF].length)*16<=140737488355328)
 (gq (Wu.length+ [(gD a0.aD A5x).aF].length<=maxLen)
 (gq ((0:Int)<=9)
 (gq (9<((10:Nat):Int))
 (rec (Bu (A5x+1)) (Wu++ [(gD a0.aD A5x).aF])))))))))
 (lf (0,A5x,Wu)))
def Ms(L:Nat)(a0:Aa)(o1:Nat×Nl)(o2:Nat×Nl)(o3:Nat×Nl)(o4:Nat×Nl):Nat->Int->List Yb->Option (Nat×Nl)
 |0,_,_=>none
 |n+1,A5x,Wu=>d5 L a0 o1 o2 o3 o4 (Ms L a0 o1 o2 o3 o4 n) A5x Wu
theorem B13(a0:Aa)(o1:Nat×Nl)(o2:Nat×Nl)(o3:Nat×Nl)(o4:Nat×Nl):LP (EV (O73 L) L 9 c73.x.x.w.u.l.u.l.l) [0,1,2,3,4,5,6,7,8] [1,9] (B33 a0 o1 o2 o3 o4) [.exit 8] (λn v=>Ms L a0 o1 o2 o3 o4 n v.1 v.2) K:=lE (λ_=>rfl) λn v ih=>eE (d5 L a0 o1 o2 o3 o4 (λA5x Wu=>re (ih (A5x,Wu))) v.1 v.2)
def x9 [An A (List (List Yb))](L:Nat)(o1:Nat×Nl)(o2:Nat×Nl)(o3:Nat×Nl)(o4:Nat×Nl)(a0:Aa)(o5:Nat×Nl):A:=
 (sl o5.1 [(lf [o1.2.2,o2.2.2,o3.2.2,o4.2.2,a0.bH,a0.bB,a0.bG,a0.bP,a0.bF,o5.2.2])])
def Aaw [An A (List (List Yb))](L:Nat)(o1:Nat×Nl)(o2:Nat×Nl)(o3:Nat×Nl)(a0:Aa)(o4:Nat×Nl)(nx5:(Nat×Nl)->(Nat×Nl)->(Nat×Nl)->(Nat×Nl)->A):A:=
 (sl o4.1 [(gq ((0:Int)<=4)
 (gq (4<((10:Nat):Int))
 (gq ((0:Int)<=5)
 (gq (5<((10:Nat):Int))
 (gq ((0:Int)<=6)
 (gq (6<((10:Nat):Int))
 (gq ((0:Int)<=7)
 (gq (7<((10:Nat):Int))
 (gq ((0:Int)<=8)
 (gq (8<((10:Nat):Int))
 (nx5 o1 o2 o3 o4)))))))))))])
def Aic [An A (List (List Yb))](o1:Nat×Nl)(o2:Nat×Nl)(o3:Nat×Nl)(a0:Aa)(o4:Nat×Nl):A:=Aaw L o1 o2 o3 a0 o4 (λo1 o2 o3 o4=>bd (Ms L a0 o1 o2 o3 o4 L 0 []) λo5=>x9 L o1 o2 o3 o4 a0 o5)
def Aav [An A (List (List Yb))](L:Nat)(o1:Nat×Nl)(o2:Nat×Nl)(a0:Aa)(o3:Nat×Nl)(nx4:(Nat×Nl)->(Nat×Nl)->(Nat×Nl)->A):A:=
 (sl o3.1 [(nx4 o1 o2 o3)])
def x0 [An A (List (List Yb))](o1:Nat×Nl)(o2:Nat×Nl)(a0:Aa)(o3:Nat×Nl):A:=Aav L o1 o2 a0 o3 (λo1 o2 o3=>bd (Mr L a0 o1 o2 o3 L 0 []) λo4=>Aic L o1 o2 o3 a0 o4)
def Bne:Ef:=(KA (O73 L) L 9 c73 (rl [8,1,2,1]) (KE Tryz.f73 kk))
theorem B7g(a0:Aa)(o1:Nat×Nl)(o2:Nat×Nl)(o3:Nat×Nl):kX [.exit 4] (Boa a0 o1 o2) (Bne L kk) o3=ob (x0 L o1 o2 a0 o3) (Ca9 kk):=eE (Aav L o1 o2 a0 o3 (λo1 o2 o3=>hq (B12 L (KA (O73 L) L 9 c73 (rl [10,1,2,1]) (KE Tryz.f73 kk)) a0 o1 o2 o3 L (0,[])) λo4=>Aaw L o1 o2 o3 a0 o4 (λo1 o2 o3 o4=>hq (B13 L (KA (O73 L) L 9 c73 (rl [22,1,2,1]) (KE Tryz.f73 kk)) a0 o1 o2 o3 o4 L (0,[])) λo5=>x9 L o1 o2 o3 o4 a0 o5)))
def Aau [An A (List (List Yb))](L:Nat)(o1:Nat×Nl)(a0:Aa)(o2:Nat×Nl)(nx3:(Nat×Nl)->(Nat×Nl)->A):A:=
 (sl o2.1 [(nx3 o1 o2)])
def Aib [An A (List (List Yb))](o1:Nat×Nl)(a0:Aa)(o2:Nat×Nl):A:=Aau L o1 a0 o2 (λo1 o2=>bd (Mq L a0 o1 o2 L 0 []) λo3=>x0 L o1 o2 a0 o3)
def Aat [An A (List (List Yb))](L:Nat)(a0:Aa)(o1:Nat×Nl)(nx2:(Nat×Nl)->A):A:=
 (sl o1.1 [(nx2 o1)])
def Aia [An A (List (List Yb))](a0:Aa)(o1:Nat×Nl):A:=Aat L a0 o1 (λo1=>bd (Mp L a0 o1 L 0 []) λo2=>Aib L o1 a0 o2)
def Azr [An A (List (List Yb))](a0:Aa):A:=(bd (Mo L a0 L 0 []) λo1=>Aia L a0 o1)
def Y0(a0:Aa):Option (List (List Yb)):=Azr L a0
def X73:F3:=E1 (λ(x:List (List Yb))=>lv (.t61 x)) 73 C7 (Y0 L) λa0 r h=>hF Tryz.func73 (C:=O73 L) (oS _) L (λkk=>eE ((hq (B1z L (KA (O73 L) L 9 c73 (rl [4,1,2,1]) (KE Tryz.f73 kk)) a0 L (0,[])) λo1=>Aat L a0 o1 (λo1=>hq (B10 L (KA (O73 L) L 9 c73 (rl [6,1,2,1]) (KE Tryz.f73 kk)) a0 o1 L (0,[])) λo2=>Aau L o1 a0 o2 (λo1 o2=>ho (B11 L (Bne L kk) a0 o1 o2 L (0,[])) λo3=>B7g L kk a0 o1 o2 o3))))) h
def B51:=CC Tryz.f174
def Byh:Bc:=oL [X48 L,X78 L]
def Bvv(a0:Aj)(v:Jc):St:=⟨[(0,.any),zq7,(2,I v.1),(3,I v.2)],[(1,(B3 a0))],0⟩
def Tk [An A C3](a0:Aj)(rec:Int->Int->A)(Ah:Int)(Ag:Int):A:=
 (lw Ag a0.aZ
 (bd (Dh L ((gD a0.aZ Ag).At) 0 (Bu (a0.cZ-1))) λr3=>
 (jb (.cn (!r3)
 (.lf true)
 (.bd (Dh L ((gD a0.aZ Ag).Units) 0 1000) λr5=>
 (.lf (!r5)))) (λb4=>
 (cn b4
 (lf (0,2,Ag))
 (cn (decide (Ag>0))
 (gi (Bu (Ag-1)) a0.aZ
 (cn (decide ((gD a0.aZ Ag).At<=(gD a0.aZ (Bu (Ag-1))).At))
 (lf (0,12,Ag))
 (rec Ah (Bu (Ag+1)))))
 (rec Ah (Bu (Ag+1))))))))
 (lf (1,Ah,Ag)))
def H6(L:Nat)(a0:Aj):Nat->Int->Int->Option C3
 |0,_,_=>none
 |n+1,Ah,Ag=>Tk L a0 (H6 L a0 n) Ah Ag
theorem Bt7(a0:Aj):LP (EV (Byh L) L 9 B51.x.l.u.l.l) [0,1,2,3] [1] (Bvv a0) [.ret,.exit 0] (λn v=>H6 L a0 n v.1 v.2) K:=lE (λ_=>rfl) λn v ih=>eE (Tk L a0 (λAh Ag=>re (ih (Ah,Ag))) v.1 v.2)
def Tq [An A Int](L:Nat)(o6:Nat×Jc):A:=
 (sl o6.1 [(lf o6.2.1),
 (lf 0)])
def Ty [An A Int](a0:Aj)(nx1:A):A:=
 (cn ((a0.aZ.length:Int) == 0)
 (bd (Cj L (a0.cZ == 0) 1) λr1=>
 (lf r1))
 (cn (decide ((a0.aZ.length:Int)>20))
 (lf 6)
 (bd (Dh L a0.cZ 1 1000000000) λr2=>
 (cn (!r2)
 (lf 2)
 nx1))))
def Aqf [An A Int](a0:Aj):A:=Ty L a0 (bd (H6 L a0 L 0 0) λo6=>Tq L o6)
def Zi(a0:Aj):Option Int:=Aqf L a0
def B9q:F3:=E1 I 174 Ww (Zi L) λa0 r h=>hF Tryz.func174 (C:=Byh L) (oS _) L (λkk=>eE (Ty L a0 (hq (Bt7 L (KA (Byh L) L 9 B51 (rl [8,1,2,1]) (KE Tryz.f174 kk)) a0 L (0,0)) λo6=>Tq L o6))) h
def B54:=CC Tryz.f178
def Byk(L:Nat):Bc:=oL []
def Bvy(a0:List Int)(a1:List Int)(v:Tu5):St:=⟨[(0,lv (.t3 a0)),(1,lv (.t3 a1)),(4,B v.1),(5,I v.2)],[],0⟩
def Tj [An A (Nat×Tu5)](L:Nat)(a0:List Int)(a1:List Int)(rec:Bool->Int->A)(Ak:Bool)(Af:Int):A:=
 (lw Af a0
 (gi Af a1
 (cn ((gD a0 Af) != (gD a1 Af))
 (lf (0,false,Af))
 (rec Ak (Bu (Af+1)))))
 (lf (1,Ak,Af)))
def H5(L:Nat)(a0:List Int)(a1:List Int):Nat->Bool->Int->Option (Nat×Tu5)
 |0,_,_=>none
 |n+1,Ak,Af=>Tj L a0 a1 (H5 L a0 a1 n) Ak Af
theorem Bua(a0:List Int)(a1:List Int):LP (EV (Byk L) L 9 B54.w.l.u.l.l) [0,1,4,5] [] (Bvy a0 a1) [.ret,.exit 0] (λn v=>H5 L a0 a1 n v.1 v.2) K:=lE (λ_=>rfl) λn v ih=>eE (Tj L a0 a1 (λAk Af=>re (ih (Ak,Af))) v.1 v.2)
def Tp [An A Bool](L:Nat)(o1:Nat×Tu5):A:=
 (sl o1.1 [(lf o1.2.1),
 (lf true)])
def Tx [An A Bool](L:Nat)(a0:List Int)(a1:List Int)(nx1:A):A:=
 (cn ((a0.length:Int) != (a1.length:Int))
 (lf false)
 nx1)
def Ap9 [An A Bool](a0:List Int)(a1:List Int):A:=Tx L a0 a1 (bd (H5 L a0 a1 L false 0) λo1=>Tp L o1)
def T9(a0:List Int)(a1:List Int):Option Bool:=Ap9 L a0 a1
def B9t:F3:=E2 B 178 cl3 cl3 (T9 L) λa0 a1 r h=>hF Tryz.func178 (C:=Byk L) (oS _) L (λkk=>eE (Tx L a0 a1 (hq (Bua L (KA (Byk L) L 9 B54 (rl [4,1,2,1]) (KE Tryz.f178 kk)) a0 a1 L (false,0)) λo1=>Tp L o1))) h
def Ath [An A Bool](a0:Bk)(a1:Bk):A:=
 (jp (.cn (a0.Op == a1.Op)
 (.lf (a0.A == a1.A))
 (.lf false)) (λb1=>
 (jp (.cn b1
 (.lf (a0.B == a1.B))
 (.lf false)) (λb2=>
 (jp (.cn b2
 (.lf (a0.N == a1.N))
 (.lf false)) (λb3=>
 (jb (.cn b3
 (.bd (T9 L a0.aW a1.aW) λr5=>
 (.lf r5))
 (.lf false)) (λb4=>
 (jb (.cn b4
 (.bd (T9 L a0.aU a1.aU) λr7=>
 (.lf r7))
 (.lf false)) (λb6=>
 (lf b6)))))))))))
def Yl(a0:Bk)(a1:Bk):Option Bool:=Ath L a0 a1
def By2:F3:=E2 B 138 Ob Ob (Yl L) λa0 a1 r h=>hF Tryz.func138 (oS [B9t L]) L (λkk=>eE (Ath L a0 a1)) h
def Ano [An A Bool](L:Nat)(a0:Bk):A:=
 (jp (.cn ((a0.aW.length:Int) == 0)
 (.lf ((a0.aU.length:Int) == 0))
 (.lf false)) (λb1=>
 (cn (a0.Op == 1)
 (jp (.cn (a0.B == 0)
 (.lf (a0.N == 0))
 (.lf false)) (λb2=>
 (jp (.cn b2
 (.lf b1)
 (.lf false)) (λb3=>
 (lf b3)))))
 (cn (a0.Op == 2)
 (cn (a0.Op == 2)
 (jp (.cn (a0.N == 0)
 (.lf b1)
 (.lf false)) (λb4=>
 (lf b4)))
 (cn (a0.Op == 3)
 (jp (.cn (a0.A == 0)
 (.lf (a0.B == 0))
 (.lf false)) (λb5=>
 (jp (.cn b5
 (.lf (a0.N == 0))
 (.lf false)) (λb6=>
 (lf b6)))))
 (cn (a0.Op == 4)
 (lf b1)
 (lf false))))
 (cn (a0.Op == 5)
 (jp (.cn (a0.N == 0)
 (.lf b1)
 (.lf false)) (λb7=>
 (lf b7)))
 (cn (a0.Op == 3)
 (jp (.cn (a0.A == 0)
 (.lf (a0.B == 0))
 (.lf false)) (λb8=>
 (jp (.cn b8
 (.lf (a0.N == 0))
 (.lf false)) (λb9=>
 (lf b9)))))
 (cn (a0.Op == 4)
 (lf b1)
 (lf false))))))))
def Age(a0:Bk):Option Bool:=Ano L a0
def B9i:F3:=E1 B 143 Ob (Age L) λa0 r h=>hF Tryz.func143 (oS []) L (λkk=>eE (Ano L a0)) h
def Aj9 [An A Bool](L:Nat)(a0:Int)(a1:Int)(a2:Int):A:=
 (jp (.cn (decide (a0>=a1))
 (.lf (decide (a0<=a2)))
 (.lf false)) (λb1=>
 (lf b1)))
def Ew(a0:Int)(a1:Int)(a2:Int):Option Bool:=Aj9 L a0 a1 a2
def B4t:F3:=E3 B 144 (cI .i64) (cI .i64) (cI .i64) (Ew L) λa0 a1 a2 r h=>hF Tryz.func144 (oS []) L (λkk=>eE (Aj9 L a0 a1 a2)) h
def B5v:=CC Tryz.f145
def Byg:Bc:=oL [B4t L]
def Bvo(a0:Bk)(v:Jc):St:=⟨[(0,.any),zq7,(2,I v.1),(3,I v.2)],[(1,(Att a0))],0⟩
def Z1 [An A C3](a0:Bk)(rec:Int->Int->A)(Ah:Int)(Ag:Int):A:=
 (lw Ag a0.aW
 (bd (Ew L (gD a0.aW Ag) 0 1000000000) λr1=>
 (jb (.cn (!r1)
 (.lf true)
 (.gq (0<=Ag)
 (.gq (Ag<(a0.aU.length:Int))
 (.bd (Ew L (gD a0.aU Ag) 1 1000) λr3=>
 (.lf (!r3)))))) (λb2=>
 (cn b2
 (lf (0,2,Ag))
 (rec Ah (Bu (Ag+1)))))))
 (lf (1,Ah,Ag)))
def Mg(L:Nat)(a0:Bk):Nat->Int->Int->Option C3
 |0,_,_=>none
 |n+1,Ah,Ag=>Z1 L a0 (Mg L a0 n) Ah Ag
theorem Bt1(a0:Bk):LP (EV (Byg L) L 9 B5v.x.l.u.l.l) [0,1,2,3] [1] (Bvo a0) [.ret,.exit 0] (λn v=>Mg L a0 n v.1 v.2) K:=lE (λ_=>rfl) λn v ih=>eE (Z1 L a0 (λAh Ag=>re (ih (Ah,Ag))) v.1 v.2)
def q7 [An A Int](L:Nat)(o4:Nat×Jc):A:=
 (sl o4.1 [(lf o4.2.1),
 (lf 0)])
def Aao [An A Int](L:Nat)(a0:Bk)(nx1:A):A:=
 (cn ((a0.aW.length:Int) != (a0.aU.length:Int))
 (lf 8)
 (cn ((a0.aW.length:Int) == 0)
 (lf 7)
 (cn (decide ((a0.aW.length:Int)>20))
 (lf 6)
 nx1)))
def Azj [An A Int](a0:Bk):A:=Aao L a0 (bd (Mg L a0 L 0 0) λo4=>q7 L o4)
def Ait(a0:Bk):Option Int:=Azj L a0
def B9j:F3:=E1 I 145 Ob (Ait L) λa0 r h=>hF Tryz.func145 (C:=Byg L) (oS _) L (λkk=>eE (Aao L a0 (hq (Bt1 L (KA (Byg L) L 9 B5v (rl [8,1,2,1]) (KE Tryz.f145 kk)) a0 L (0,0)) λo4=>q7 L o4))) h
def Ap8 [An A Int](a0:Bk):A:=
 (bd (Age L a0) λr1=>
 (cn (!r1)
 (lf 1)
 (cn (a0.Op == 1)
 (bd (Ew L a0.A 0 1000000000) λr2=>
 (cn (!r2)
 (lf 2)
 (lf 0)))
 (cn (a0.Op == 2)
 (bd (Ew L a0.A 0 a0.B) λr3=>
 (jp (.cn r3
 (.lf (decide (a0.B<=1000000000)))
 (.lf false)) (λb4=>
 (cn (!b4)
 (lf 2)
 (lf 0)))))
 (cn (a0.Op == 3)
 (bd (Ait L a0) λr5=>
 (lf r5))
 (cn (a0.Op == 4)
 (bd (Ew L a0.N 1 20) λr6=>
 (jb (.cn r6
 (.bd (Ew L a0.A 0 a0.B) λr8=>
 (.lf r8))
 (.lf false)) (λb7=>
 (jp (.cn b7
 (.lf (decide (a0.B<=1000000)))
 (.lf false)) (λb9=>
 (cn (!b9)
 (lf 2)
 (lf 0)))))))
 (cn (a0.Op == 5)
 (bd (Ew L a0.A 1 1000) λr10=>
 (jb (.cn r10
 (.bd (Ew L a0.B 1 1000) λr12=>
 (.lf r12))
 (.lf false)) (λb11=>
 (cn (!b11)
 (lf 2)
 (lf 0)))))
 (lf 0))))))))
def Rl(a0:Bk):Option Int:=Ap8 L a0
def X85:F3:=E1 I 85 Ob (Rl L) λa0 r h=>hF Tryz.func85 (oS [B9i L,B4t L,B9j L]) L (λkk=>eE (Ap8 L a0)) h
def Ahj [An A Int](a0:Aa)(a1:Aj):A:=
 (bd (Dh L a1.Units 0 1000) λr1=>
 (bd (Cj L r1 2) λr2=>
 (bd (Zi L a1) λr3=>
 (bd (Cw L r2 r3) λr4=>
 (cn (r4 != 0)
 (lf r4)
 (cn (a1.bQ.dH.toList == (⟨#[]⟩:Yb).toList)
 (bd (Yl L a1.bQ.Up (⟨0,0,0,0,[],[]⟩:Bk)) λr5=>
 (cn r5
 (jb (.bd (Yl L a1.bQ.Down (⟨0,0,0,0,[],[]⟩:Bk)) λr7=>
 (.lf r7)) (λb6=>
 (bd (Cj L b6 1) λr8=>
 (lf r8))))
 (nq (bd (Cj L false 1) λr9=>
 (lf r9)))))
 (bd (J7 L a0.bB a1.bQ.dH) λr10=>
 (cn (decide (r10<0))
 (lf 5)
 (bd (Rl L a1.bQ.Up) λr11=>
 (bd (Rl L a1.bQ.Down) λr12=>
 (bd (Cw L r11 r12) λr13=>
 (lf r13))))))))))))
def Un(a0:Aa)(a1:Aj):Option Int:=Ahj L a0 a1
def B9a:F3:=E2 I 132 C7 Ww (Un L) λa0 a1 r h=>hF Tryz.func132 (oS [X47 L,X48 L,X69 L,X78 L,X85 L,By2 L,B9q L]) L (λkk=>eE (Ahj L a0 a1)) h
def Bhz(F:(List Ad)->Option Int):Prop:=∀y0 r,F y0=some r->Ho Tryz.prog 204 [Y7.en y0] I r
def B6i:=CC Tryz.f204
def Byv(Gc:(List Ad)->Option Int)(L:Nat):Bc:=(orc 204 (A1 I Y7 Gc) (oL []))
theorem Ccl(Gc:(List Ad)->Option Int)(Bm4:Bhz Gc)(L:Nat):Dl Tryz.prog (Byv Gc L):=(Em (a1 _ Bm4) (oS []))
def Bwa(a0:List Ad)(v:Jc):St:=⟨[(0,lv (.dW a0)),(2,I 0),(3,I v.1),(4,I v.2)],[],0⟩
def Z4 [An A C3](Gc:(List Ad)->Option Int)(L:Nat)(a0:List Ad)(rec:Int->Int->A)(Ak:Int)(Af:Int):A:=
 (lw Af a0
 (bd (Gc ((gD a0 Af).bD)) λr1=>
 (gi Af a0
 (bd (Gc ((gD a0 Af).bL)) λr2=>
 (rec (Bu ((Bu ((Bu (Ak+1))+r1))+r2)) (Bu (Af+1))))))
 (lf (0,Ak,Af)))
def Mk(Gc:(List Ad)->Option Int)(L:Nat)(a0:List Ad):Nat->Int->Int->Option C3
 |0,_,_=>none
 |n+1,Ak,Af=>Z4 Gc L a0 (Mk Gc L a0 n) Ak Af
theorem Bum(Gc:(List Ad)->Option Int)(L:Nat)(K:Ef)(a0:List Ad):LP (EV (Byv Gc L) L 9 B6i.w.l.u.l.l) [0,2,3,4] [] (Bwa a0) [.exit 0] (λn v=>Mk Gc L a0 n v.1 v.2) K:=lE (λ_=>rfl) λn v ih=>eE (Z4 Gc L a0 (λAk Af=>re (ih (Ak,Af))) v.1 v.2)
def s8 [An A Int](Gc:(List Ad)->Option Int)(L:Nat)(o3:Nat×Jc):A:=
 (sl o3.1 [(lf o3.2.1)])
def Azn [An A Int](Gc:(List Ad)->Option Int)(L:Nat)(a0:List Ad):A:=(bd (Mk Gc L a0 L 0 0) λo3=>s8 Gc L o3)
def Apy(Gc:(List Ad)->Option Int)(L:Nat)(a0:List Ad):Option Int:=Azn Gc L a0
theorem Ca2(Gc:(List Ad)->Option Int)(Bm4:Bhz Gc)(L:Nat):Bhz (Apy Gc L):=λa0 r h=>hF Tryz.func204 (Ccl Gc Bm4 L) L (λkk=>eE ((hq (Bum Gc L (KA (Byv Gc L) L 9 B6i (rl [4,1,2,1]) (KE Tryz.f204 kk)) a0 L (0,0)) λo3=>s8 Gc L o3))) h
def N3:Nat->(List Ad)->Option Int
 |0,_=>none
 |L+1,a0=>Apy (N3 L) L a0
theorem Bsp(L:Nat):Bhz (N3 L):=by
 induction L with
 |zero=>exact λ_ _ h=>(by cases h)
 |succ L ih=>
  have i204:=ih;exact Ca2 (N3 L) i204 L
def B96(L:Nat):F3:=E1 I 204 Y7 (N3 L) (Bsp L)
def Bh0(F:(List Ad)->Option Int):Prop:=∀y0 r,F y0=some r->Ho Tryz.prog 205 [Y7.en y0] I r
def B6j:=CC Tryz.f205
def Byw(Gd:(List Ad)->Option Int)(L:Nat):Bc:=(orc 205 (A1 I Y7 Gd) (oL []))
theorem Ccm(Gd:(List Ad)->Option Int)(Bm5:Bh0 Gd)(L:Nat):Dl Tryz.prog (Byw Gd L):=(Em (a1 _ Bm5) (oS []))
def Bwb(a0:List Ad)(v:Jc):St:=⟨[(0,lv (.dW a0)),(2,I 0),(3,I v.1),(4,I v.2)],[],0⟩
def Z5 [An A C3](Gd:(List Ad)->Option Int)(L:Nat)(a0:List Ad)(rec:Int->Int->A)(Ak:Int)(Af:Int):A:=
 (lw Af a0
 (bd (Gd ((gD a0 Af).bD)) λr1=>
 (gi Af a0
 (bd (Gd ((gD a0 Af).bL)) λr2=>
 (rec (if(Bu (1+r2))>(if(Bu (1+r1))>Ak then(Bu (1+r1))else Ak) then(Bu (1+r2)) else(if(Bu (1+r1))>Ak then(Bu (1+r1))else Ak)) (Bu (Af+1))))))
 (lf (0,Ak,Af)))
def Ml(Gd:(List Ad)->Option Int)(L:Nat)(a0:List Ad):Nat->Int->Int->Option C3
 |0,_,_=>none
 |n+1,Ak,Af=>Z5 Gd L a0 (Ml Gd L a0 n) Ak Af
theorem Bun(Gd:(List Ad)->Option Int)(L:Nat)(K:Ef)(a0:List Ad):LP (EV (Byw Gd L) L 9 B6j.w.l.u.l.l) [0,2,3,4] [] (Bwb a0) [.exit 0] (λn v=>Ml Gd L a0 n v.1 v.2) K:=lE (λ_=>rfl) λn v ih=>eE (Z5 Gd L a0 (λAk Af=>re (ih (Ak,Af))) v.1 v.2)
def s9 [An A Int](Gd:(List Ad)->Option Int)(L:Nat)(o3:Nat×Jc):A:=
 (sl o3.1 [(lf o3.2.1)])
def Azo [An A Int](Gd:(List Ad)->Option Int)(L:Nat)(a0:List Ad):A:=(bd (Ml Gd L a0 L 0 0) λo3=>s9 Gd L o3)
def Apz(Gd:(List Ad)->Option Int)(L:Nat)(a0:List Ad):Option Int:=Azo Gd L a0
theorem Ca3(Gd:(List Ad)->Option Int)(Bm5:Bh0 Gd)(L:Nat):Bh0 (Apz Gd L):=λa0 r h=>hF Tryz.func205 (Ccm Gd Bm5 L) L (λkk=>eE ((hq (Bun Gd L (KA (Byw Gd L) L 9 B6j (rl [4,1,2,1]) (KE Tryz.f205 kk)) a0 L (0,0)) λo3=>s9 Gd L o3))) h
def N4:Nat->(List Ad)->Option Int
 |0,_=>none
 |L+1,a0=>Apz (N4 L) L a0
theorem Bsq(L:Nat):Bh0 (N4 L):=by
 induction L with
 |zero=>exact λ_ _ h=>(by cases h)
 |succ L ih=>
  have i205:=ih;exact Ca3 (N4 L) i205 L
def B97(L:Nat):F3:=E1 I 205 Y7 (N4 L) (Bsq L)
def Ahq:=CC Tryz.f225
def Atf(L:Nat):Bc:=oL []
def A73:(Cz×Bool)->Prop:=λx=>kk ((λ(x:Cz×Bool)=>.bY [.agg (Aoc x.1),B x.2]) x)
def Bi9:St:=⟨[Sw,(3,B false)],Blb,0⟩
def Bis(L:Nat)(kk:K5):Ef:=(KE Tryz.f225 kk)
def Ajz [An A (Cz×Bool)](L:Nat):A:=
 (lf ((⟨false,false,false,false,false,false,false,false,false⟩:Cz),false))
theorem Brn:EV (Atf L) L 9 Ahq.w (Bi9) (Bis L kk)=ob (Ajz L) (A73 kk):=eE (Ajz L)
def A2h(a0:Int)(p803_2:Bool):St:=⟨[Sw,(3,B false),(4,I a0),(32,B p803_2)],Blb,0⟩
def A17(e0:EC):Ef:=(Gi 0 (Qr (EV (Atf L) L 9 e0) (KE Tryz.f225 kk)))
def sx_R10_Of_3 [An A (Cz×Bool)](L:Nat)(a0:Int)(p803_2:Bool)(nx1:A):A:=
 (cn p803_2
 (lf ((⟨true,false,false,false,false,false,false,false,false⟩:Cz),true))
 (cn (a0 == 13)
 (lf ((⟨true,true,true,false,true,false,false,false,false⟩:Cz),true))
 (cn (a0 == 14)
 (lf ((⟨true,false,true,false,true,false,false,false,false⟩:Cz),true))
 (cn (a0 == 18)
 (lf ((⟨false,false,false,false,false,false,false,false,false⟩:Cz),true))
 nx1))))
def Ary [An A (Cz×Bool)](a0:Int)(p803_2:Bool):A:=sx_R10_Of_3 L a0 p803_2 (Ajz L)
theorem Br2(a0:Int)(p803_2:Bool)(z1:EC):EV (Atf L) L 9 Ahq.u.l.u.l.x.x.w.u.r (A2h a0 p803_2) (A17 L kk (EC.put (rl [1]) z1 Ahq.u.r))= @sx_R10_Of_3 Prop (anP (A73 kk)) L a0 p803_2 (EV (Atf L) L 9 z1 (Bi9) (Bis L kk)):=by kernel_rfl
theorem Brp(a0:Int)(p803_2:Bool):EV (Atf L) L 9 Ahq.u.l.u.l.x.x.w.u.r (A2h a0 p803_2) (A17 L kk Ahq.u.r)=ob (Ary L a0 p803_2) (A73 kk):=Eq.trans (b:=EV (Atf L) L 9 Ahq.u.l.u.l.x.x.w.u.r (A2h a0 p803_2) (A17 L kk (EC.put (rl [1]) Ahq.w Ahq.u.r))) (by kernel_rfl) ((Br2 L kk a0 p803_2 Ahq.w).trans (eE (sx_R10_Of_3 L a0 p803_2 (re (Brn L kk)))))
def A2g(a0:Int)(p802_2:Bool):St:=⟨[Sw,(3,B false),(4,I a0),(5,B p802_2)],Blb,0⟩
def A16(e0:EC):Ef:=(Gi 0 (Qr (EV (Atf L) L 9 e0) (KE Tryz.f225 kk)))
def sx_R10_Of_2 [An A (Cz×Bool)](L:Nat)(a0:Int)(p802_2:Bool)(nx3:Int->Bool->A):A:=
 (cn p802_2
 (lf ((⟨true,false,true,false,false,false,false,false,false⟩:Cz),true))
 (cn (a0 == 2)
 (lf ((⟨true,true,false,false,false,true,false,false,false⟩:Cz),true))
 (cn (a0 == 3)
 (lf ((⟨false,false,true,false,false,false,false,true,true⟩:Cz),true))
 (cn (a0 == 4)
 (lf ((⟨false,false,true,false,false,false,false,true,false⟩:Cz),true))
 (cn (a0 == 5)
 (lf ((⟨false,false,true,false,false,false,false,false,false⟩:Cz),true))
 (cn (a0 == 6)
 (lf ((⟨true,false,true,true,false,false,true,false,false⟩:Cz),true))
 (cn (a0 == 9)
 (lf ((⟨true,true,false,false,false,false,false,false,false⟩:Cz),true))
 (cn (a0 == 10)
 (nx3 a0 (a0 == 10))
 (nx3 a0 (a0 == 11))))))))))
def Arx [An A (Cz×Bool)](a0:Int)(p802_2:Bool):A:=sx_R10_Of_2 L a0 p802_2 (λa0 p803_2=>Ary L a0 p803_2)
theorem Br1(a0:Int)(p802_2:Bool)(z3:EC):EV (Atf L) L 9 (EC.put (rl [21]) z3 Ahq.u.l.u.l.u) (A2g a0 p802_2) (A16 L kk Ahq.u.r)= @sx_R10_Of_2 Prop (anP (A73 kk)) L a0 p802_2 (λa0 p803_2=>EV (Atf L) L 9 z3 (A2h a0 p803_2) (A17 L kk Ahq.u.r)):=by kernel_rfl
theorem Bro(a0:Int)(p802_2:Bool):EV (Atf L) L 9 Ahq.u.l.u.l.u (A2g a0 p802_2) (A16 L kk Ahq.u.r)=ob (Arx L a0 p802_2) (A73 kk):=Eq.trans (b:=EV (Atf L) L 9 (EC.put (rl [21]) Ahq.u.l.u.l.x.x.w.u.r Ahq.u.l.u.l.u) (A2g a0 p802_2) (A16 L kk Ahq.u.r)) (by kernel_rfl) ((Br1 L kk a0 p802_2 Ahq.u.l.u.l.x.x.w.u.r).trans (eE (sx_R10_Of_2 L a0 p802_2 (λa0 p803_2=>re (Brp L kk a0 p803_2)))))
def sx_R10_Of_0 [An A (Cz×Bool)](L:Nat)(a0:Int)(nx2:Int->Bool->A):A:=
 (cn (a0 == 1)
 (nx2 a0 (a0 == 1))
 (cn (a0 == 7)
 (nx2 a0 (a0 == 7))
 (cn (a0 == 8)
 (nx2 a0 (a0 == 8))
 (cn (a0 == 12)
 (nx2 a0 (a0 == 12))
 (cn (a0 == 15)
 (nx2 a0 (a0 == 15))
 (cn (a0 == 16)
 (nx2 a0 (a0 == 16))
 (nx2 a0 (a0 == 17))))))))
def Bb3 [An A (Cz×Bool)](a0:Int):A:=sx_R10_Of_0 L a0 (λa0 p802_2=>Arx L a0 p802_2)
theorem Br0(a0:Int)(z2:EC):EW (Atf L) L 9 (RS Tryz.f225) (EC.put (rl [2,1,2,1,2]) z2 Ahq) [I a0] kk= @sx_R10_Of_0 Prop (anP (A73 kk)) L a0 (λa0 p802_2=>EV (Atf L) L 9 z2 (A2g a0 p802_2) (A16 L kk Ahq.u.r)):=by kernel_rfl
def Ap2(a0:Int):Option (Cz×Bool):=Bb3 L a0
def B47:F3:=E1 (λ(x:Cz×Bool)=>.bY [.agg (Aoc x.1),B x.2]) 225 (cI .i64) (Ap2 L) λa0 r h=>hF Tryz.func225 (C:=Atf L) (oS _) L (λkk=>Eq.trans (b:=EW (Atf L) L 9 (RS Tryz.f225) (EC.put (rl [2,1,2,1,2]) Ahq.u.l.u.l.u Ahq) [I a0] kk) (by kernel_rfl) ((Br0 L kk a0 Ahq.u.l.u.l.u).trans (eE (sx_R10_Of_0 L a0 (λa0 p802_2=>re (Bro L kk a0 p802_2)))))) h
def Atk [An A Bool](L:Nat)(a0:Ab):A:=
 (jp (.cn (a0.Op == 0)
 (.lf (a0.aF.toList == (⟨#[]⟩:Yb).toList))
 (.lf false)) (λb1=>
 (jp (.cn b1
 (.lf (a0.N == 0))
 (.lf false)) (λb2=>
 (jp (.cn b2
 (.lf ((a0.aY.length:Int) == 0))
 (.lf false)) (λb3=>
 (lf b3)))))))
def Ag7(a0:Ab):Option Bool:=Atk L a0
def Caf:F3:=E1 B 229 Bi (Ag7 L) λa0 r h=>hF Tryz.func229 (oS []) L (λkk=>eE (Atk L a0)) h
def Anr [An A Bool](a0:Ad):A:=
 (bd (Ap2 L a0.Op) λr1=>
 (jp (.cn r1.1.aF
 (.lf true)
 (.lf (a0.aF.toList == (⟨#[]⟩:Yb).toList))) (λb2=>
 (jp (.cn b2
 (.cn r1.1.Of
 (.lf true)
 (.lf (a0.Of.toList == (⟨#[]⟩:Yb).toList)))
 (.lf false)) (λb3=>
 (jb (.cn r1.1.E
 (.lf true)
 (.bd (Ag7 L (Ab.cp a0.E)) λr5=>
 (.lf r5))) (λb4=>
 (jb (.cn b4
 (.cn r1.1.F
 (.lf true)
 (.bd (Ag7 L (Ab.cp a0.F)) λr7=>
 (.lf r7)))
 (.lf false)) (λb6=>
 (jp (.cn b6
 (.cn r1.1.aM
 (.lf true)
 (.lf ((a0.aM.length:Int) == 0)))
 (.lf false)) (λb8=>
 (jp (.cn r1.1.bD
 (.lf true)
 (.lf ((a0.bD.length:Int) == 0))) (λb9=>
 (jp (.cn b9
 (.cn r1.1.bL
 (.lf true)
 (.lf ((a0.bL.length:Int) == 0)))
 (.lf false)) (λb10=>
 (jp (.cn r1.2
 (.lf b3)
 (.lf false)) (λb11=>
 (jp (.cn b11
 (.lf b8)
 (.lf false)) (λb12=>
 (jp (.cn b12
 (.lf b10)
 (.lf false)) (λb13=>
 (cn b13
 (cn r1.1.bE
 (nq (jp (.cn r1.1.bU
 (.lf true)
 (.lf (!a0.bU))) (λb14=>
 (lf b14))))
 (bd (Yl L a0.bE (⟨0,0,0,0,[],[]⟩:Bk)) λr15=>
 (nq (jp (.cn r15
 (.cn r1.1.bU
 (.lf true)
 (.lf (!a0.bU)))
 (.lf false)) (λb16=>
 (lf b16))))))
 (nq (nq (lf false)))))))))))))))))))))))))
def Agf(a0:Ad):Option Bool:=Anr L a0
def Cad:F3:=E1 B 226 Aem (Agf L) λa0 r h=>hF Tryz.func226 (oS [By2 L,B47 L,Caf L]) L (λkk=>eE (Anr L a0)) h
def Bhp(F:Ab->Option Int):Prop:=∀y0 r,F y0=some r->Ho Tryz.prog 180 [Bi.en y0] I r
def B55:=CC Tryz.f180
def Byl(Gw:Ab->Option Int)(L:Nat):Bc:=(orc 180 (A1 I Bi Gw) (oL []))
theorem Ccb(Gw:Ab->Option Int)(Bmu:Bhp Gw)(L:Nat):Dl Tryz.prog (Byl Gw L):=(Em (a1 _ Bmu) (oS []))
def Bvz(a0:Ab)(v:Jc):St:=⟨[(0,.any),zq7,(2,I 0),(3,I v.1),(4,I v.2)],[(1,(Cl a0))],0⟩
def Z3 [An A C3](Gw:Ab->Option Int)(L:Nat)(a0:Ab)(rec:Int->Int->A)(Ag:Int)(Ak:Int):A:=
 (lw Ak a0.aY
 (bd (Gw (Ab.cp (gD a0.aY Ak))) λr1=>
 (rec (Bu (Ag+r1)) (Bu (Ak+1))))
 (lf (0,Ag,Ak)))
def Mj(Gw:Ab->Option Int)(L:Nat)(a0:Ab):Nat->Int->Int->Option C3
 |0,_,_=>none
 |n+1,Ag,Ak=>Z3 Gw L a0 (Mj Gw L a0 n) Ag Ak
theorem Bub(Gw:Ab->Option Int)(L:Nat)(K:Ef)(a0:Ab):LP (EV (Byl Gw L) L 9 B55.w.l.u.l.l) [0,1,2,3,4] [1] (Bvz a0) [.exit 0] (λn v=>Mj Gw L a0 n v.1 v.2) K:=lE (λ_=>rfl) λn v ih=>eE (Z3 Gw L a0 (λAg Ak=>re (ih (Ag,Ak))) v.1 v.2)
def s7 [An A Int](Gw:Ab->Option Int)(L:Nat)(o2:Nat×Jc):A:=
 (sl o2.1 [(lf o2.2.1)])
def Azm [An A Int](Gw:Ab->Option Int)(L:Nat)(a0:Ab):A:=(bd (Mj Gw L a0 L 1 0) λo2=>s7 Gw L o2)
def Apx(Gw:Ab->Option Int)(L:Nat)(a0:Ab):Option Int:=Azm Gw L a0
theorem Cas(Gw:Ab->Option Int)(Bmu:Bhp Gw)(L:Nat):Bhp (Apx Gw L):=λa0 r h=>hF Tryz.func180 (Ccb Gw Bmu L) L (λkk=>eE ((hq (Bub Gw L (KA (Byl Gw L) L 9 B55 (rl [4,1,2,1]) (KE Tryz.f180 kk)) a0 L (1,0)) λo2=>s7 Gw L o2))) h
def N2:Nat->Ab->Option Int
 |0,_=>none
 |L+1,a0=>Apx (N2 L) L a0
theorem Bsf(L:Nat):Bhp (N2 L):=by
 induction L with
 |zero=>exact λ_ _ h=>(by cases h)
 |succ L ih=>
  have i180:=ih;exact Cas (N2 L) i180 L
def B9w(L:Nat):F3:=E1 I 180 Bi (N2 L) (Bsf L)
def Bhq(F:Ab->Option Int):Prop:=∀y0 r,F y0=some r->Ho Tryz.prog 181 [Bi.en y0] I r
def B56:=CC Tryz.f181
def Bym(Gx:Ab->Option Int)(L:Nat):Bc:=(orc 181 (A1 I Bi Gx) (oL []))
theorem Ccc(Gx:Ab->Option Int)(Bmv:Bhq Gx)(L:Nat):Dl Tryz.prog (Bym Gx L):=(Em (a1 _ Bmv) (oS []))
def Bv0(a0:Ab)(v:Jc):St:=⟨[(0,.any),zq7,(2,I 0),(3,I v.1),(4,I v.2)],[(1,(Cl a0))],0⟩
def Z2 [An A C3](Gx:Ab->Option Int)(L:Nat)(a0:Ab)(rec:Int->Int->A)(Ag:Int)(Ak:Int):A:=
 (lw Ak a0.aY
 (bd (Gx (Ab.cp (gD a0.aY Ak))) λr1=>
 (rec (if r1>Ag then r1 else Ag) (Bu (Ak+1))))
 (lf (0,Ag,Ak)))
def Mi(Gx:Ab->Option Int)(L:Nat)(a0:Ab):Nat->Int->Int->Option C3
 |0,_,_=>none
 |n+1,Ag,Ak=>Z2 Gx L a0 (Mi Gx L a0 n) Ag Ak
theorem Buc(Gx:Ab->Option Int)(L:Nat)(K:Ef)(a0:Ab):LP (EV (Bym Gx L) L 9 B56.w.l.u.l.l) [0,1,2,3,4] [1] (Bv0 a0) [.exit 0] (λn v=>Mi Gx L a0 n v.1 v.2) K:=lE (λ_=>rfl) λn v ih=>eE (Z2 Gx L a0 (λAg Ak=>re (ih (Ag,Ak))) v.1 v.2)
def q9 [An A Int](Gx:Ab->Option Int)(L:Nat)(o2:Nat×Jc):A:=
 (sl o2.1 [(lf (Bu (o2.2.1+1)))])
def Azl [An A Int](Gx:Ab->Option Int)(L:Nat)(a0:Ab):A:=(bd (Mi Gx L a0 L 0 0) λo2=>q9 Gx L o2)
def Apw(Gx:Ab->Option Int)(L:Nat)(a0:Ab):Option Int:=Azl Gx L a0
theorem Cat(Gx:Ab->Option Int)(Bmv:Bhq Gx)(L:Nat):Bhq (Apw Gx L):=λa0 r h=>hF Tryz.func181 (Ccc Gx Bmv L) L (λkk=>eE ((hq (Buc Gx L (KA (Bym Gx L) L 9 B56 (rl [4,1,2,1]) (KE Tryz.f181 kk)) a0 L (0,0)) λo2=>q9 Gx L o2))) h
def N1:Nat->Ab->Option Int
 |0,_=>none
 |L+1,a0=>Apw (N1 L) L a0
theorem Bsg(L:Nat):Bhq (N1 L):=by
 induction L with
 |zero=>exact λ_ _ h=>(by cases h)
 |succ L ih=>
  have i181:=ih;exact Cat (N1 L) i181 L
def B9x(L:Nat):F3:=E1 I 181 Bi (N1 L) (Bsg L)
def Aqb [An A Int](L:Nat)(a0:Int):A:=
 (jp (.cn (decide (a0<1))
 (.lf true)
 (.lf (decide (a0>26)))) (λb1=>
 (cn b1
 (lf (-1))
 (jp (.cn (decide (a0>=5))
 (.lf (decide (a0<=8)))
 (.lf false)) (λb2=>
 (cn b2
 (lf 1)
 (jp (.cn (decide (a0>=9))
 (.lf (decide (a0<=21)))
 (.lf false)) (λb3=>
 (cn b3
 (lf 2)
 (lf 0))))))))))
def Aiu(a0:Int):Option Int:=Aqb L a0
def B4y:F3:=E1 I 207 (cI .i64) (Aiu L) λa0 r h=>hF Tryz.func207 (oS []) L (λkk=>eE (Aqb L a0)) h
def Anq [An A Bool](L:Nat)(a0:Int):A:=
 (jp (.cn (decide (a0>=22))
 (.lf (decide (a0<=24)))
 (.lf false)) (λb1=>
 (lf b1)))
def Zh(a0:Int):Option Bool:=Anq L a0
def B4z:F3:=E1 B 208 (cI .i64) (Zh L) λa0 r h=>hF Tryz.func208 (oS []) L (λkk=>eE (Anq L a0)) h
def Atj [An A Int](L:Nat)(a0:Int):A:=
 (cn (a0 == 25)
 (lf 15)
 (cn (a0 == 26)
 (lf 31)
 (lf 63)))
def Rs(a0:Int):Option Int:=Atj L a0
def B40:F3:=E1 I 209 (cI .i64) (Rs L) λa0 r h=>hF Tryz.func209 (oS []) L (λkk=>eE (Atj L a0)) h
end
end Go.Proofs.YthjhkpgonleelaaGreatDoor.Ev
