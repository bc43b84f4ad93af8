import Derived.Test.YthjhkpgonleelaaGreatDoorDG1
set_option maxRecDepth 100000
set_option maxHeartbeats 4000000
set_option linter.unusedVariables false
set_option linter.unusedSimpArgs false
set_option linter.unnecessarySimpa false
namespace Go.Proofs.YthjhkpgonleelaaGreatDoor.Ev
open Go An
noncomputable section
variable {A:Type} (L n:Nat) (kk:Lr) (K:Ei) (k:Dj)
def Bjn(F:Ab->Option Int):Prop:=∀y0 r,F y0=some r->Ho Tryz.prog 194 [Bi.en y0] I r
def B8f:=CC Tryz.f194
def B0s(Hf:Ab->Option Int)(L:Nat):Bc:=(orc 194 (A1 I Bi Hf) (oL []))
theorem Cel(Hf:Ab->Option Int)(Boy:Bjn Hf)(L:Nat):Dl Tryz.prog (B0s Hf L):=(Er (a1 _ Boy) (oS []))
def Bx3(a0:Ab)(v:Js):St:=⟨[(0,.any),(1,.any),(2,I 0),(3,I v.1),(7,lv (.dU a0.aY)),(8,I (a0.aY.length:Int)),(9,I v.2)],[(1,(Cl a0))],0⟩
def Yl [An A C3](Hf:Ab->Option Int)(L:Nat)(a0:Ab)(rec:Int->Int->A)(Ag:Int)(Bj:Int):A:=
 (lw Bj a0.aY
 (bd (Hf (Ab.cp (gD a0.aY Bj))) λr1=>
 (rec (if r1>Ag then r1 else Ag) (Bs (Bj+1))))
 (lf (0,Ag,Bj)))
def Kt(Hf:Ab->Option Int)(L:Nat)(a0:Ab):Nat->Int->Int->Option C3
 |0,_,_=>none
 |n+1,Ag,Bj=>Yl Hf L a0 (Kt Hf L a0 n) Ag Bj
theorem Bwf(Hf:Ab->Option Int)(L:Nat)(K:Ei)(a0:Ab):LP (EV (B0s Hf L) L 9 B8f.w.l.u.l.l) [0,1,2,3,7,8,9] [1] (Bx3 a0) [.exit 0] (λn v=>Kt Hf L a0 n v.1 v.2) K:=lE (λ_=>rfl) λn v ih=>eE (Yl Hf L a0 (λAg Bj=>re (ih (Ag,Bj))) v.1 v.2)
def Y0 [An A Int](Hf:Ab->Option Int)(L:Nat)(o2:Nat×Js):A:=
 (sl o2.1 [(lf (Bs (o2.2.1+1)))])
def Av6 [An A Int](Hf:Ab->Option Int)(L:Nat)(a0:Ab):A:=(bd (Kt Hf L a0 L 0 0) λo2=>Y0 Hf L o2)
def Aof(Hf:Ab->Option Int)(L:Nat)(a0:Ab):Option Int:=Av6 Hf L a0
theorem Cc2(Hf:Ab->Option Int)(Boy:Bjn Hf)(L:Nat):Bjn (Aof Hf L):=λa0 r h=>hF Tryz.func194 (Cel Hf Boy L) L (λkk=>eE ((hq (Bwf Hf L (KA (B0s Hf L) L 9 B8f (rl [4,1,2,1]) (KE Tryz.f194 kk)) a0 L (0,0)) λo2=>Y0 Hf L o2))) h
def Lv:Nat->Ab->Option Int
 |0,_=>none
 |L+1,a0=>Aof (Lv L) L a0
theorem Buh(L:Nat):Bjn (Lv L):=by
 induction L with
 |zero=>exact λ_ _ h=>(by cases h)
 |succ L ih=>
  have i194:=ih;exact Cc2 (Lv L) i194 L
def Cb6(L:Nat):F6:=E1 I 194 Bi (Lv L) (Buh L)
def Art [An A Int](L:Nat)(a0:Int):A:=
 (jp (.cn (a0 == 1)
 (.lf true)
 (.lf (a0 == 2))) (λb1=>
 (jp (.cn b1
 (.lf true)
 (.lf (a0 == 3))) (λb2=>
 (jp (.cn b2
 (.lf true)
 (.lf (a0 == 4))) (λb3=>
 (cn b3
 (lf 0)
 (jp (.cn (decide (a0>=5))
 (.lf (decide (a0<=8)))
 (.lf false)) (λb4=>
 (cn b4
 (lf 1)
 (jp (.cn (decide (a0>=9))
 (.lf (decide (a0<=21)))
 (.lf false)) (λb5=>
 (cn b5
 (lf 2)
 (jp (.cn (decide (a0>=22))
 (.lf (decide (a0<=26)))
 (.lf false)) (λb6=>
 (cn b6
 (lf 0)
 (lf (-1))))))))))))))))))
def Z5(a0:Int):Option Int:=Art L a0
def B67:F6:=E1 I 222 (cI .i64) (Z5 L) λa0 r h=>hF Tryz.func222 (oS []) L (λkk=>eE (Art L a0)) h
def p9 [An A Bool](a0:Bm)(a1:Int):A:=
 (cn (a1 == 3)
 (lf (!a0.bW))
 (cn (a1 == 25)
 (cn (a1 == 25)
 (lf a0.bW)
 (bd (Z5 L a1) λr1=>
 (lf (decide (r1>=0)))))
 (cn (a1 == 26)
 (lf a0.bW)
 (bd (Z5 L a1) λr2=>
 (lf (decide (r2>=0)))))))
def T5(a0:Bm)(a1:Int):Option Bool:=p9 L a0 a1
def Ccc:F6:=E2 B 221 O0 (cI .i64) (T5 L) λa0 a1 r h=>hF Tryz.func221 (oS [B67 L]) L (λkk=>eE (p9 L a0 a1)) h
def Alj [An A Bool](L:Nat)(a0:Int):A:=
 (jp (.cn (decide (a0>=22))
 (.lf (decide (a0<=24)))
 (.lf false)) (λb1=>
 (lf b1)))
def X0(a0:Int):Option Bool:=Alj L a0
def B69:F6:=E1 B 228 (cI .i64) (X0 L) λa0 r h=>hF Tryz.func228 (oS []) L (λkk=>eE (Alj L a0)) h
def q6 [An A Bool](a0:Bm)(a1:Int):A:=
 (jb (.cn (a1 == 3)
 (.lf true)
 (.bd (X0 L a1) λr2=>
 (.cn r2
 (.lf (!a0.bW))
 (.lf false)))) (λb1=>
 (lf b1)))
def Kh(a0:Bm)(a1:Int):Option Bool:=q6 L a0 a1
def Ccd:F6:=E2 B 223 O0 (cI .i64) (Kh L) λa0 a1 r h=>hF Tryz.func223 (oS [B69 L]) L (λkk=>eE (q6 L a0 a1)) h
def Xt [An A (Int×Int×Bool)](a0:Bm)(a1:Int):A:=
 (cn (a1 == 2)
 (lf (0,1,true))
 (cn (a1 == 25)
 (lf (0,15,true))
 (cn (a1 == 26)
 (lf (0,31,true))
 (bd (X0 L a1) λr1=>
 (jp (.cn r1
 (.lf a0.bW)
 (.lf false)) (λb2=>
 (cn b2
 (lf (0,63,true))
 (lf (0,0,false)))))))))
def Lp(a0:Bm)(a1:Int):Option (Int×Int×Bool):=Xt L a0 a1
def Cce:F6:=E2 (λ(x:Int×Int×Bool)=>.cK [I x.1,I x.2.1,B x.2.2]) 224 O0 (cI .i64) (Lp L) λa0 a1 r h=>hF Tryz.func224 (oS [B69 L]) L (λkk=>eE (Xt L a0 a1)) h
def Acy [An A Int](a0:Bm)(a1:Ab):A:=
 (bd (T5 L (⟨a0.bW⟩:Bm) a1.Op) λr1=>
 (cn (!r1)
 (lf 1)
 (bd (Z5 L a1.Op) λr2=>
 (cn ((a1.aY.length:Int) != r2)
 (lf 1)
 (cn (!(a1.aF.toList == (⟨#[]⟩:Yb).toList))
 (bd (Kh L (⟨a0.bW⟩:Bm) a1.Op) λr3=>
 (cn (!r3)
 (lf 1)
 (cn (a1.Op == 1)
 (bd (Aiq L a1.N) λr4=>
 (cn (!r4)
 (lf 2)
 (lf 0)))
 (bd (Lp L (⟨a0.bW⟩:Bm) a1.Op) λr5=>
 (jp (.cn (!r5.2.2)
 (.lf (a1.N != 0))
 (.lf false)) (λb6=>
 (cn b6
 (lf 1)
 (jp (.cn r5.2.2
 (.cn (decide (a1.N<r5.1))
 (.lf true)
 (.lf (decide (a1.N>r5.2.1))))
 (.lf false)) (λb7=>
 (cn b7
 (lf 2)
 (bd (Kh L (⟨a0.bW⟩:Bm) a1.Op) λr8=>
 (cn r8
 (bd (Cw L a1.aF) λr9=>
 (lf r9))
 (lf 0)))))))))))))
 (cn (a1.Op == 1)
 (bd (Aiq L a1.N) λr10=>
 (cn (!r10)
 (lf 2)
 (lf 0)))
 (bd (Lp L (⟨a0.bW⟩:Bm) a1.Op) λr11=>
 (jp (.cn (!r11.2.2)
 (.lf (a1.N != 0))
 (.lf false)) (λb12=>
 (cn b12
 (lf 1)
 (jp (.cn r11.2.2
 (.cn (decide (a1.N<r11.1))
 (.lf true)
 (.lf (decide (a1.N>r11.2.1))))
 (.lf false)) (λb13=>
 (cn b13
 (lf 2)
 (bd (Kh L (⟨a0.bW⟩:Bm) a1.Op) λr14=>
 (cn r14
 (bd (Cw L a1.aF) λr15=>
 (lf r15))
 (lf 0))))))))))))))))
def V0(a0:Bm)(a1:Ab):Option Int:=Acy L a0 a1
def B65:F6:=E2 I 214 O0 Bi (V0 L) λa0 a1 r h=>hF Tryz.func214 (oS [X35 L,B05 L,Ccc L,B67 L,Ccd L,Cce L]) L (λkk=>eE (Acy L a0 a1)) h
def Bjo(F:Bm->Ab->Option Int):Prop:=∀y0 y1 r,F y0 y1=some r->Ho Tryz.prog 195 [O0.en y0,Bi.en y1] I r
def B8g:=CC Tryz.f195
def B0t(F5:Bm->Ab->Option Int)(L:Nat):Bc:=(orc 195 (A2 I O0 Bi F5) (oL [B65 L]))
theorem Cem(F5:Bm->Ab->Option Int)(Boz:Bjo F5)(L:Nat):Dl Tryz.prog (B0t F5 L):=(Er (a2 _ Boz) (oS [B65 L]))
def Bx4(a1:Ab)(a0:Bm)(v:Js):St:=⟨[(0,.any),(1,.any),Tp,(3,.any),(4,I v.1),(5,.any),(16,lv (.dU a1.aY)),(17,I (a1.aY.length:Int)),(18,I v.2)],[(2,[B a0.bW]),(3,(Cl a1))],0⟩
def O5 [An A C3](F5:Bm->Ab->Option Int)(L:Nat)(a1:Ab)(a0:Bm)(rec:Int->Int->A)(Ai:Int)(Af:Int):A:=
 (lw Af a1.aY
 (bd (F5 (⟨a0.bW⟩:Bm) (Ab.cp (gD a1.aY Af))) λr2=>
 (cn (r2 != 0)
 (lf (0,r2,Af))
 (rec Ai (Bs (Af+1)))))
 (lf (1,Ai,Af)))
def Gs(F5:Bm->Ab->Option Int)(L:Nat)(a1:Ab)(a0:Bm):Nat->Int->Int->Option C3
 |0,_,_=>none
 |n+1,Ai,Af=>O5 F5 L a1 a0 (Gs F5 L a1 a0 n) Ai Af
theorem Bwg(F5:Bm->Ab->Option Int)(L:Nat)(K:Ei)(a1:Ab)(a0:Bm):LP (EV (B0t F5 L) L 9 B8g.w.l.u.l.l) [0,1,2,3,4,5,16,17,18] [2,3] (Bx4 a1 a0) [.ret,.exit 0] (λn v=>Gs F5 L a1 a0 n v.1 v.2) K:=lE (λ_=>rfl) λn v ih=>eE (O5 F5 L a1 a0 (λAi Af=>re (ih (Ai,Af))) v.1 v.2)
def Pu [An A Int](F5:Bm->Ab->Option Int)(L:Nat)(o3:Nat×Js):A:=
 (sl o3.1 [(lf o3.2.1),
 (lf 0)])
def P1 [An A Int](F5:Bm->Ab->Option Int)(L:Nat)(a0:Bm)(a1:Ab)(nx1:A):A:=
 (bd (V0 L (⟨a0.bW⟩:Bm) (Ab.cp a1)) λr1=>
 (cn (r1 != 0)
 (lf r1)
 nx1))
def Akh [An A Int](F5:Bm->Ab->Option Int)(L:Nat)(a0:Bm)(a1:Ab):A:=P1 F5 L a0 a1 (bd (Gs F5 L a1 a0 L 0 0) λo3=>Pu F5 L o3)
def f9(F5:Bm->Ab->Option Int)(L:Nat)(a0:Bm)(a1:Ab):Option Int:=Akh F5 L a0 a1
theorem Cc3(F5:Bm->Ab->Option Int)(Boz:Bjo F5)(L:Nat):Bjo (f9 F5 L):=λa0 a1 r h=>hF Tryz.func195 (Cem F5 Boz L) L (λkk=>eE (P1 F5 L a0 a1 (hq (Bwg F5 L (KA (B0t F5 L) L 9 B8g (rl [4,1,2,1]) (KE Tryz.f195 kk)) a1 a0 L (0,0)) λo3=>Pu F5 L o3))) h
def F8:Nat->Bm->Ab->Option Int
 |0,_,_=>none
 |L+1,a0,a1=>f9 (F8 L) L a0 a1
theorem Bui(L:Nat):Bjo (F8 L):=by
 induction L with
 |zero=>exact λ_ _ _ h=>(by cases h)
 |succ L ih=>
  have i195:=ih;exact Cc3 (F8 L) i195 L
def Cb7(L:Nat):F6:=E2 I 195 O0 Bi (F8 L) (Bui L)
def o0 [An A Int](a0:Bm)(a1:Ab):A:=
 (bd (Lw L (Ab.cp a1)) λr1=>
 (cn (decide (r1>60))
 (lf 6)
 (bd (Lv L (Ab.cp a1)) λr2=>
 (cn (decide (r2>12))
 (lf 11)
 (bd (F8 L (⟨a0.bW⟩:Bm) (Ab.cp a1)) λr3=>
 (lf r3))))))
def Oq(a0:Bm)(a1:Ab):Option Int:=o0 L a0 a1
def B6x:F6:=E2 I 165 O0 Bi (Oq L) λa0 a1 r h=>hF Tryz.func165 (oS [Cb5 L,Cb6 L,Cb7 L]) L (λkk=>eE (o0 L a0 a1)) h
def Aoy [An A Int](a0:Ab):A:=
 (bd (Oq L (⟨false⟩:Bm) (Ab.cp a0)) λr1=>
 (lf r1))
def Sk(a0:Ab):Option Int:=Aoy L a0
def Ccb:F6:=E1 I 220 Bi (Sk L) λa0 r h=>hF Tryz.func220 (oS [B6x L]) L (λkk=>eE (Aoy L a0)) h
def Blm:=CC Tryz.f212
def Bgy:Bc:=oL [X35 L,B0z L,Ccb L]
def Bx8(a1:Bt)(a0:Ad)(v:Js):St:=⟨[(0,.any),(1,.any),Tp,T4,(4,I v.1),(9,.any),(10,.any),Bdf,(13,.any),(24,.bB true (.fO [(⟨a1.dP,a0.aF⟩:Hg),(⟨a1.fT,a0.Of⟩:Hg)])),(25,I ([(⟨a1.dP,a0.aF⟩:Hg),(⟨a1.fT,a0.Of⟩:Hg)].length:Int)),(26,I v.2),(53,.any),(74,.any)],[(2,(Zt a0)),(3,(Ac4 a1))],0⟩
def Ag0 [An A C3](a1:Bt)(a0:Ad)(rec:Int->Int->A)(Ai:Int)(Af:Int):A:=
 (cn (decide (Af<([(⟨a1.dP,a0.aF⟩:Hg),(⟨a1.fT,a0.Of⟩:Hg)].length:Int)))
 (gq (0<=Af)
 (gq (Af<(([(⟨a1.dP,a0.aF⟩:Hg),(⟨a1.fT,a0.Of⟩:Hg)].length:Nat):Int))
 (bd (Cw L (([(⟨a1.dP,a0.aF⟩:Hg),(⟨a1.fT,a0.Of⟩:Hg)].getD (Int.toNat Af) default).dP)) λr1=>
 (jp (.cn (([(⟨a1.dP,a0.aF⟩:Hg),(⟨a1.fT,a0.Of⟩:Hg)].getD (Int.toNat Af) default).gX)
 (.lf (r1 != 0))
 (.lf false)) (λb2=>
 (cn b2
 (lf (0,r1,Af))
 (rec Ai (Bs (Af+1)))))))))
 (lf (1,Ai,Af)))
def K9(L:Nat)(a1:Bt)(a0:Ad):Nat->Int->Int->Option C3
 |0,_,_=>none
 |n+1,Ai,Af=>Ag0 L a1 a0 (K9 L a1 a0 n) Ai Af
theorem Bwk(a1:Bt)(a0:Ad):LP (EV (Bgy L) L 9 Blm.u.l.u.l.l) [0,1,2,3,4,9,10,12,13,24,25,26,53,74] [2,3] (Bx8 a1 a0) [.ret,.exit 0] (λn v=>K9 L a1 a0 n v.1 v.2) K:=lE (λ_=>rfl) λn v ih=>eE (Ag0 L a1 a0 (λAi Af=>re (ih (Ai,Af))) v.1 v.2)
def Bx9(a1:Bt)(a0:Ad)(v:Js):St:=⟨[(0,.any),(1,.any),Tp,T4,(4,I v.1),(6,.any),(7,.any),Bdf,(13,.any),(26,.any),(51,.bB true (.fM [(⟨a1.fI,(Ab.cp a0.E)⟩:Qw),(⟨a1.fP,(Ab.cp a0.F)⟩:Qw)])),(52,I ([(⟨a1.fI,(Ab.cp a0.E)⟩:Qw),(⟨a1.fP,(Ab.cp a0.F)⟩:Qw)].length:Int)),(53,I v.2),(74,.any)],[(2,(Zt a0)),(3,(Ac4 a1))],0⟩
def Ag1 [An A C3](a1:Bt)(a0:Ad)(rec:Int->Int->A)(Bz:Int)(Bq:Int):A:=
 (cn (decide (Bq<([(⟨a1.fI,(Ab.cp a0.E)⟩:Qw),(⟨a1.fP,(Ab.cp a0.F)⟩:Qw)].length:Int)))
 (gq (0<=Bq)
 (gq (Bq<(([(⟨a1.fI,(Ab.cp a0.E)⟩:Qw),(⟨a1.fP,(Ab.cp a0.F)⟩:Qw)].length:Nat):Int))
 (cn (!(([(⟨a1.fI,(Ab.cp a0.E)⟩:Qw),(⟨a1.fP,(Ab.cp a0.F)⟩:Qw)].getD (Int.toNat Bq) default).gX))
 (rec Bz (Bs (Bq+1)))
 (bd (Sk L (Ab.cp (([(⟨a1.fI,(Ab.cp a0.E)⟩:Qw),(⟨a1.fP,(Ab.cp a0.F)⟩:Qw)].getD (Int.toNat Bq) default).fI))) λr4=>
 (cn (r4 != 0)
 (lf (0,r4,Bq))
 (rec Bz (Bs (Bq+1))))))))
 (lf (1,Bz,Bq)))
def La(L:Nat)(a1:Bt)(a0:Ad):Nat->Int->Int->Option C3
 |0,_,_=>none
 |n+1,Bz,Bq=>Ag1 L a1 a0 (La L a1 a0 n) Bz Bq
theorem Bwl(a1:Bt)(a0:Ad):LP (EV (Bgy L) L 9 Blm.w.l.u.l.l) [0,1,2,3,4,6,7,12,13,26,51,52,53,74] [2,3] (Bx9 a1 a0) [.ret,.exit 2] (λn v=>La L a1 a0 n v.1 v.2) K:=lE (λ_=>rfl) λn v ih=>eE (Ag1 L a1 a0 (λBz Bq=>re (ih (Bz,Bq))) v.1 v.2)
def Bya(a0:Ad)(a1:Bt)(v:Js):St:=⟨[(0,.any),(1,.any),Tp,T4,(4,I v.1),(6,.any),(7,.any),(9,.any),(10,.any),(26,.any),(53,.any),(72,lv (.dU a0.aP)),(73,I (a0.aP.length:Int)),(74,I v.2)],[(2,(Zt a0)),(3,(Ac4 a1))],0⟩
def Yv [An A C3](a0:Ad)(a1:Bt)(rec:Int->Int->A)(D9:Int)(Tl:Int):A:=
 (lw Tl a0.aP
 (bd (Sk L (Ab.cp (gD a0.aP Tl))) λr6=>
 (cn (r6 != 0)
 (lf (0,r6,Tl))
 (rec D9 (Bs (Tl+1)))))
 (lf (1,D9,Tl)))
def Lb(L:Nat)(a0:Ad)(a1:Bt):Nat->Int->Int->Option C3
 |0,_,_=>none
 |n+1,D9,Tl=>Yv L a0 a1 (Lb L a0 a1 n) D9 Tl
theorem Bwm(a0:Ad)(a1:Bt):LP (EV (Bgy L) L 9 Blm.x.l.u.l.l) [0,1,2,3,4,6,7,9,10,26,53,72,73,74] [2,3] (Bya a0 a1) [.ret,.exit 4] (λn v=>Lb L a0 a1 n v.1 v.2) K:=lE (λ_=>rfl) λn v ih=>eE (Yv L a0 a1 (λD9 Tl=>re (ih (D9,Tl))) v.1 v.2)
def Zd [An A Int](a1:Bt)(a0:Ad)(o7:Nat×Js):A:=
 (sl o7.1 [(lf o7.2.1),
 (cn a1.bR
 (bd (F7 L a0.bF) λr8=>
 (lf r8))
 (lf 0))])
def Zj [An A Int](L:Nat)(a0:Ad)(a1:Bt)(o5:Nat×Js)(nx3:C3->A):A:=
 (sl o5.1 [(lf o5.2.1),
 (cn (decide ((a0.aP.length:Int)>6))
 (lf 6)
 (nx3 o5))])
def Ahe [An A Int](a0:Ad)(a1:Bt)(o5:Nat×Js):A:=Zj L a0 a1 o5 (λo5=>bd (Lb L a0 a1 L o5.2.1 0) λo7=>Zd L a1 a0 o7)
def Zi [An A Int](L:Nat)(a1:Bt)(a0:Ad)(o3:Nat×Js)(nx2:C3->A):A:=
 (sl o3.1 [(lf o3.2.1),
 (nx2 o3)])
def Ahd [An A Int](a1:Bt)(a0:Ad)(o3:Nat×Js):A:=Zi L a1 a0 o3 (λo3=>bd (La L a1 a0 L o3.2.1 0) λo5=>Ahe L a0 a1 o5)
def Awf [An A Int](a0:Ad)(a1:Bt):A:=(bd (K9 L a1 a0 L 0 0) λo3=>Ahd L a1 a0 o3)
def m7(a0:Ad)(a1:Bt):Option Int:=Awf L a0 a1
def B64:F6:=E2 I 212 Afx A1e (m7 L) λa0 a1 r h=>hF Tryz.func212 (C:=Bgy L) (oS _) L (λkk=>eE ((hq (Bwk L (KA (Bgy L) L 9 Blm (rl [2,1,2,1]) (KE Tryz.f212 kk)) a1 a0 L (0,0)) λo3=>Zi L a1 a0 o3 (λo3=>hq (Bwl L (KA (Bgy L) L 9 Blm (rl [4,1,2,1]) (KE Tryz.f212 kk)) a1 a0 L (o3.2.1,0)) λo5=>Zj L a0 a1 o5 (λo5=>hq (Bwm L (KA (Bgy L) L 9 Blm (rl [8,1,2,1]) (KE Tryz.f212 kk)) a0 a1 L (o5.2.1,0)) λo7=>Zd L a1 a0 o7))))) h
def Bjk(F:(List Ad)->Option Int):Prop:=∀y0 r,F y0=some r->Ho Tryz.prog 187 [Z8.en y0] I r
def B8b:=CC Tryz.f187
def B0p(Ge:(List Ad)->Option Int)(L:Nat):Bc:=(orc 187 (A1 I Z8 Ge) (oL [B62 L,B63 L,B64 L]))
theorem Cei(Ge:(List Ad)->Option Int)(Bov:Bjk Ge)(L:Nat):Dl Tryz.prog (B0p Ge L):=(Er (a1 _ Bov) (oS [B62 L,B63 L,B64 L]))
def Bx0(a0:List Ad)(v:Js):St:=⟨[(0,.any),(2,I v.1),(10,lv (.dX a0)),(11,I (a0.length:Int)),(12,I v.2)],[],0⟩
def Yu [An A C3](Ge:(List Ad)->Option Int)(L:Nat)(a0:List Ad)(rec:Int->Int->A)(Ai:Int)(Af:Int):A:=
 (lw Af a0
 (bd (Afu L ((gD a0 Af).Op)) λr1=>
 (jb (.cn (!r1.2)
 (.lf true)
 (.bd (Aft L (Ad.cp (gD a0 Af)) r1.1) λr3=>
 (.lf (!r3)))) (λb2=>
 (cn b2
 (lf (0,1,Af))
 (bd (m7 L (Ad.cp (gD a0 Af)) r1.1) λr4=>
 (cn (r4 != 0)
 (lf (0,r4,Af))
 (bd (Ge ((gD a0 Af).bE)) λr5=>
 (cn (r5 != 0)
 (lf (0,r5,Af))
 (bd (Ge ((gD a0 Af).bN)) λr6=>
 (cn (r6 != 0)
 (lf (0,r6,Af))
 (rec Ai (Bs (Af+1)))))))))))))
 (lf (1,Ai,Af)))
def K8(Ge:(List Ad)->Option Int)(L:Nat)(a0:List Ad):Nat->Int->Int->Option C3
 |0,_,_=>none
 |n+1,Ai,Af=>Yu Ge L a0 (K8 Ge L a0 n) Ai Af
theorem Bwc(Ge:(List Ad)->Option Int)(L:Nat)(K:Ei)(a0:List Ad):LP (EV (B0p Ge L) L 9 B8b.u.l.u.l.l) [0,2,10,11,12] [] (Bx0 a0) [.ret,.exit 0] (λn v=>K8 Ge L a0 n v.1 v.2) K:=lE (λ_=>rfl) λn v ih=>eE (Yu Ge L a0 (λAi Af=>re (ih (Ai,Af))) v.1 v.2)
def Zc [An A Int](Ge:(List Ad)->Option Int)(L:Nat)(o7:Nat×Js):A:=
 (sl o7.1 [(lf o7.2.1),
 (lf 0)])
def Awe [An A Int](Ge:(List Ad)->Option Int)(L:Nat)(a0:List Ad):A:=(bd (K8 Ge L a0 L 0 0) λo7=>Zc Ge L o7)
def Aoj(Ge:(List Ad)->Option Int)(L:Nat)(a0:List Ad):Option Int:=Awe Ge L a0
theorem Ccz(Ge:(List Ad)->Option Int)(Bov:Bjk Ge)(L:Nat):Bjk (Aoj Ge L):=λa0 r h=>hF Tryz.func187 (Cei Ge Bov L) L (λkk=>eE ((hq (Bwc Ge L (KA (B0p Ge L) L 9 B8b (rl [2,1,2,1]) (KE Tryz.f187 kk)) a0 L (0,0)) λo7=>Zc Ge L o7))) h
def Lz:Nat->(List Ad)->Option Int
 |0,_=>none
 |L+1,a0=>Aoj (Lz L) L a0
theorem Bue(L:Nat):Bjk (Lz L):=by
 induction L with
 |zero=>exact λ_ _ h=>(by cases h)
 |succ L ih=>
  have i187:=ih;exact Ccz (Lz L) i187 L
def Cb4(L:Nat):F6:=E1 I 187 Z8 (Lz L) (Bue L)
def Ao0 [An A Int](a0:List Ad):A:=
 (bd (Lx L a0) λr1=>
 (cn (decide (r1>200))
 (lf 6)
 (bd (Ly L a0) λr2=>
 (cn (decide (r2>12))
 (lf 11)
 (bd (Lz L a0) λr3=>
 (lf r3))))))
def Ahu(a0:List Ad):Option Int:=Ao0 L a0
def Cbn:F6:=E1 I 151 Z8 (Ahu L) λa0 r h=>hF Tryz.func151 (oS [Cb2 L,Cb3 L,Cb4 L]) L (λkk=>eE (Ao0 L a0)) h
def Bnu:=CC Tryz.f112
def Bgx:Bc:=oL [X35 L,B02 L,Cbm L,Cbn L]
def Bru(p1_0:Yb)(p1_1:Am)(p1_2:Ba)(p1_3:List Yb)(p1_4:List Bool)(k:Dj):Df->Prop:=λo=>k (I o.1) [(1,(Cs p1_1)),(5,(Vo p1_2)),(21,[.aQ false false (.t9 o.2.1) (.t4 o.2.2)])]
def Ajc [An A Df](p1_0:Yb)(p1_1:Am)(p1_2:Ba)(p1_3:List Yb)(p1_4:List Bool):A:=
 (bd (Cw L p1_0) λr3=>
 (cn (r3 != 0)
 (lf (r3,p1_3,p1_4))
 (fq (p1_3.findIdx? λb=>p1_0 == b) (λi4=>
 (cn (p1_4.getD i4 default)
 (lf (4,p1_3,p1_4))
 (fq (p1_3.findIdx? λb=>p1_0 == b) (λi5=>
 (lf (0,p1_3,(p1_4.set i5 true))))
 (lf (0,(p1_3++ [p1_0]),(p1_4++ [true]))))))
 (fq (p1_3.findIdx? λb=>p1_0 == b) (λi6=>
 (lf (0,p1_3,(p1_4.set i6 true))))
 (lf (0,(p1_3++ [p1_0]),(p1_4++ [true])))))))
def I9(p1_0:Yb)(p1_1:Am)(p1_2:Ba)(p1_3:List Yb)(p1_4:List Bool):Option Df:=Ajc L p1_0 p1_1 p1_2 p1_3 p1_4
theorem Bup(p1_0:Yb)(p1_1:Am)(p1_2:Ba)(p1_3:List Yb)(p1_4:List Bool):YO (Bgx L) L 9 59 [.mp 21,S p1_0] [(1,(Cs p1_1)),(5,(Vo p1_2)),(21,[.aQ false false (.t9 p1_3) (.t4 p1_4)])] k=ob (I9 L p1_0 p1_1 p1_2 p1_3 p1_4) (Bru p1_0 p1_1 p1_2 p1_3 p1_4 k):=(C4 _ _ _ jn4 _ _ _ _ _ _ _).trans (eE (Ajc L p1_0 p1_1 p1_2 p1_3 p1_4))
def Bxb(r2:List Ba)(a0:Am)(v:Tu4):St:=⟨[(0,.any),zq7,(2,I v.1),(3,.mp 21),(27,lv (.dQ r2)),(28,I (r2.length:Int)),(29,I v.2.1)],[(1,(Cs a0)),(21,[.aQ false false (.t9 v.2.2.1) (.t4 v.2.2.2)])],0⟩
def S3 [An A P8](Af:Int)(r2:List Ba)(Ai:Int)(rec:Int->Int->List Yb->List Bool->A)(o7:Df):A:=
 (cn (o7.1 != 0)
 (lf (0,o7.1,Af,o7.2.1,o7.2.2))
 (bd (Ju L ((gD r2 Af).bO)) λr8=>
 (cn (!r8)
 (lf (0,1,Af,o7.2.1,o7.2.2))
 (rec Ai (Bs (Af+1)) o7.2.1 o7.2.2))))
def S8 [An A P8](L:Nat)(r2:List Ba)(a0:Am)(rec:Int->Int->List Yb->List Bool->A)(Ai:Int)(Af:Int)(Br:List Yb)(Eh:List Bool)(nx1:Int->(List Yb)->(List Bool)->Int->A):A:=
 (lw Af r2
 (nx1 Af Br Eh Ai)
 (lf (1,Ai,Af,Br,Eh)))
def Zx [An A P8](r2:List Ba)(a0:Am)(rec:Int->Int->List Yb->List Bool->A)(Ai:Int)(Af:Int)(Br:List Yb)(Eh:List Bool):A:=S8 L r2 a0 rec Ai Af Br Eh (λAf Br Eh Ai=>bd (I9 L ((gD r2 Af).aF) a0 (gD r2 Af) Br Eh) λo7=>S3 L Af r2 Ai rec o7)
def Hy(L:Nat)(r2:List Ba)(a0:Am):Nat->Int->Int->List Yb->List Bool->Option P8
 |0,_,_,_,_=>none
 |n+1,Ai,Af,Br,Eh=>Zx L r2 a0 (Hy L r2 a0 n) Ai Af Br Eh
theorem Bvm(r2:List Ba)(a0:Am):LP (EV (Bgx L) L 9 Bnu.w.u.l.u.l.l) [0,1,2,3,27,28,29] [1,21] (Bxb r2 a0) [.ret,.exit 0] (λn v=>Hy L r2 a0 n v.1 v.2.1 v.2.2.1 v.2.2.2) K:=lE (λ_=>rfl) λn v ih=>eE (S8 L r2 a0 (λAi Af Br Eh=>re (ih (Ai,Af,Br,Eh))) v.1 v.2.1 v.2.2.1 v.2.2.2 (λAf Br Eh Ai=>hq (Bup L (Mx (Bgx L) L 9 1 4 Bnu.w.u.l.u.l.l.w.l.l.u.l.l ⟨[(35,S (gD r2 Af).aF),(34,.loc 5 0),(33,.mp 21),zq7,(2,I Ai),(3,.mp 21),Bja,(27,lv (.dQ r2)),(28,I (r2.length:Int)),(29,I Af),(30,B (decide (Af<(r2.length:Int)))),(31,.ref (Vo (gD r2 Af))),(32,.agg (Vo (gD r2 Af)))],[(1,(Cs a0)),(5,(Vo (gD r2 Af))),(21,[.aQ false false (.t9 Br) (.t4 Eh)])],0⟩ (some 36) (kN (KA (Bgx L) L 9 Bnu.w.u.l.u.l.l (rl [4,2,2,2]) (Hm (I2 (EV (Bgx L) L 9 Bnu.w.u.l.u.l.l) [0,1,2,3,27,28,29] [1,21] n) [0,1,2,3,27,28,29] [1,21] K)))) ((gD r2 Af).aF) a0 (gD r2 Af) Br Eh) λo7=>S3 L Af r2 Ai (λAi Af Br Eh=>re (ih (Ai,Af,Br,Eh))) o7))
def S4 [An A Int](a0:Am)(o9:Nat×Tu4):A:=
 (sl o9.1 [(lf o9.2.1),
 (bd (Ahu L a0.bE) λr10=>
 (lf r10))])
def S9 [An A Int](a0:Am)(nx2:(List Ba)->A):A:=
 (jp (.cn (decide ((a0.aJ.length:Int)>6))
 (.lf true)
 (.lf (decide ((Bs ((a0.aJ.length:Int)+(a0.bC.length:Int)))>16)))) (λb1=>
 (cn b1
 (lf 6)
 (bd (I0 L [a0.aJ,a0.bC]) λr2=>
 (nx2 r2)))))
def Ap3 [An A Int](a0:Am):A:=S9 L a0 (λr2=>bd (Hy L r2 a0 L 0 0 [] []) λo9=>S4 L a0 o9)
def Yd(a0:Am):Option Int:=Ap3 L a0
def Ca3:F6:=E1 I 112 Ar0 (Yd L) λa0 r h=>hF Tryz.func112 (C:=Bgx L) (oS _) L (λkk=>eE (S9 L a0 (λr2=>hq (Bvm L (KA (Bgx L) L 9 Bnu (rl [6,1,2,1]) (KE Tryz.f112 kk)) r2 a0 L (0,0,[],[])) λo9=>S4 L a0 o9))) h
def B8c:=CC Tryz.f188
def B7x:=CC Tryz.f152
def Blb(L:Nat):Bc:=oL []
def Bxn(p1_0:List Am)(p1_1:Aa)(p1_2:Yb)(v:Js):St:=⟨[(0,lv (.t93 p1_0)),(1,.bK 189 0 Agj),(4,I v.1),(7,I (p1_0.length:Int)),(8,I v.2)],[(2,(Ae p1_1)),(3,[S p1_2])],1004⟩
def Su [An A C3](L:Nat)(p1_0:List Am)(p1_1:Aa)(p1_2:Yb)(rec:Int->Int->A)(Ag:Int)(Af:Int):A:=
 (lw Af p1_0
 (cn ((gD p1_0 Af).aF.toList == p1_2.toList)
 (lf (0,Af,Af))
 (rec Ag (Bs (Af+1))))
 (lf (1,Ag,Af)))
def Hx(L:Nat)(p1_0:List Am)(p1_1:Aa)(p1_2:Yb):Nat->Int->Int->Option C3
 |0,_,_=>none
 |n+1,Ag,Af=>Su L p1_0 p1_1 p1_2 (Hx L p1_0 p1_1 p1_2 n) Ag Af
theorem Bvz(p1_0:List Am)(p1_1:Aa)(p1_2:Yb):LP (EV (Blb L) L 8 B8c.u.l.u.l.l) [0,1,4,7,8] [2,3] (Bxn p1_0 p1_1 p1_2) [.ret,.exit 0] (λn v=>Hx L p1_0 p1_1 p1_2 n v.1 v.2) K:=lE (λ_=>rfl) λn v ih=>eE (Su L p1_0 p1_1 p1_2 (λAg Af=>re (ih (Ag,Af))) v.1 v.2)
def Br0(p1_0:List Am)(p1_1:Aa)(p1_2:Yb)(k:Dj):Int->Prop:=λo=>k (I o) [(2,(Ae p1_1)),(3,[S p1_2])]
def Zy [An A Int](L:Nat)(o1:Nat×Js):A:=
 (sl o1.1 [(lf o1.2.1),
 (lf (-1))])
def Ajb [An A Int](p1_0:List Am)(p1_1:Aa)(p1_2:Yb):A:=(bd (Hx L p1_0 p1_1 p1_2 L 0 0) λo1=>Zy L o1)
def Sr(p1_0:List Am)(p1_1:Aa)(p1_2:Yb):Option Int:=Ajb L p1_0 p1_1 p1_2
theorem Buu(p1_0:List Am)(p1_1:Aa)(p1_2:Yb):YO (Blb L) L 9 188 [lv (.t93 p1_0),.bK 189 0 Agj] [(2,(Ae p1_1)),(3,[S p1_2])] k=ob (Sr L p1_0 p1_1 p1_2) (Br0 p1_0 p1_1 p1_2 k):=(C4 _ _ _ jn4 _ _ _ _ _ _ _).trans (eE ((hq (Bvz L (KA (Blb L) L 8 B8c (rl [2,1,2,1]) (KJ Tryz.f188 k)) p1_0 p1_1 p1_2 L (0,0)) λo1=>Zy L o1)))
def S2 [An A Int](L:Nat)(o2:Int):A:=
 (lf o2)
def Ap2 [An A Int](a0:Aa)(a1:Yb):A:=(bd (Sr L a0.aD a0 a1) λo2=>S2 L o2)
def Kn(a0:Aa)(a1:Yb):Option Int:=Ap2 L a0 a1
def B6w:F6:=E2 I 152 C7 cS (Kn L) λa0 a1 r h=>hF Tryz.func152 (C:=Blb L) (oS _) L (λkk=>eE ((hq (Buu L (Mx (Blb L) L 9 1 4 B7x.u.l ⟨[(7,.bK 189 0 Agj),(6,lv (.t93 a0.aD)),(5,.loc 2 10),Tp,T4,(4,I 0)],[(2,(Ae a0)),(3,[S a1])],0⟩ (some 8) (kN (KA (Blb L) L 9 B7x (rl [2,1]) (KE Tryz.f152 kk)))) a0.aD a0 a1) λo2=>S2 L o2))) h
def B7q:=CC Tryz.f116
def B0c:Bc:=oL [X95 L,B03 L,B6w L]
def Bxc(a0:Aa)(r1:Int)(a1:Bv)(v:Js):St:=⟨[(0,.any),(1,.any),(2,.any),T4,(4,I v.1),(5,.any),(6,lv (.dQ ((gD a0.aD r1).aJ))),(28,lv (.t3 a1.aP)),(29,I (a1.aP.length:Int)),(30,I v.2)],[(2,(Ae a0)),(3,(Akn a1))],0⟩
def Wh [An A C3](a0:Aa)(r1:Int)(a1:Bv)(rec:Int->Int->A)(Ai:Int)(Bj:Int):A:=
 (lw Bj a1.aP
 (gi Bj ((gD a0.aD r1).aJ)
 (bd (Sl L ((gD ((gD a0.aD r1).aJ) Bj).bO) (gD a1.aP Bj)) λr2=>
 (cn (!r2)
 (lf (0,2,Bj))
 (rec Ai (Bs (Bj+1))))))
 (lf (1,Ai,Bj)))
def Jl(L:Nat)(a0:Aa)(r1:Int)(a1:Bv):Nat->Int->Int->Option C3
 |0,_,_=>none
 |n+1,Ai,Bj=>Wh L a0 r1 a1 (Jl L a0 r1 a1 n) Ai Bj
theorem Bvn(a0:Aa)(r1:Int)(a1:Bv):LP (EV (B0c L) L 9 B7q.x.u.l.u.l.l) [0,1,2,3,4,5,6,28,29,30] [2,3] (Bxc a0 r1 a1) [.ret,.exit 0] (λn v=>Jl L a0 r1 a1 n v.1 v.2) K:=lE (λ_=>rfl) λn v ih=>eE (Wh L a0 r1 a1 (λAi Bj=>re (ih (Ai,Bj))) v.1 v.2)
def W4 [An A Int](a1:Bv)(o3:Nat×Js):A:=
 (sl o3.1 [(lf o3.2.1),
 (bd (Be L a1.At 0 1000000000) λr4=>
 (jb (.cn (!r4)
 (.lf true)
 (.bd (Be L a1.Every 0 1000000000) λr6=>
 (.lf (!r6)))) (λb5=>
 (jb (.cn b5
 (.lf true)
 (.bd (Be L a1.Until 0 1000000000) λr8=>
 (.lf (!r8)))) (λb7=>
 (jp (.cn b7
 (.lf true)
 (.cn (a1.Every == 0)
 (.lf (a1.Until != 0))
 (.lf false))) (λb9=>
 (cn b9
 (lf 2)
 (lf 0)))))))))])
def Xl [An A Int](a0:Aa)(a1:Bv)(nx1:Int->A):A:=
 (bd (Kn L a0 a1.dJ) λr1=>
 (cn (decide (r1<0))
 (lf 5)
 (gi r1 a0.aD
 (cn ((a1.aP.length:Int) != ((gD a0.aD r1).aJ.length:Int))
 (lf 8)
 (nx1 r1)))))
def Aty [An A Int](a0:Aa)(a1:Bv):A:=Xl L a0 a1 (λr1=>bd (Jl L a0 r1 a1 L 0 0) λo3=>W4 L a1 o3)
def Tr(a0:Aa)(a1:Bv):Option Int:=Aty L a0 a1
def Ca4:F6:=E2 I 116 C7 Awp (Tr L) λa0 a1 r h=>hF Tryz.func116 (C:=B0c L) (oS _) L (λkk=>eE (Xl L a0 a1 (λr1=>hq (Bvn L (KA (B0c L) L 9 B7q (rl [10,1,2,1]) (KE Tryz.f116 kk)) a0 r1 a1 L (0,0)) λo3=>W4 L a1 o3))) h
def Aql:=CC Tryz.f190
def B8m:=CC Tryz.f213
def Aqk:=CC Tryz.f157
def R5:Bc:=oL [X95 L,B6v L,B6w L]
def Bxo(p1_0:List Au)(p1_1:Aa)(p1_2:Bd)(v:Js):St:=⟨[(0,lv (.t89 p1_0)),(1,zq5),(4,I v.1),(7,I (p1_0.length:Int)),(8,I v.2)],[(2,(Ae p1_1)),(3,(Cv p1_2))],1004⟩
def Yr [An A C3](L:Nat)(p1_0:List Au)(p1_1:Aa)(p1_2:Bd)(rec:Int->Int->A)(Ag:Int)(Af:Int):A:=
 (lw Af p1_0
 (cn ((gD p1_0 Af).aF.toList == p1_2.aF.toList)
 (lf (0,Af,Af))
 (rec Ag (Bs (Af+1))))
 (lf (1,Ag,Af)))
def K5(L:Nat)(p1_0:List Au)(p1_1:Aa)(p1_2:Bd):Nat->Int->Int->Option C3
 |0,_,_=>none
 |n+1,Ag,Af=>Yr L p1_0 p1_1 p1_2 (K5 L p1_0 p1_1 p1_2 n) Ag Af
theorem Bv0(p1_0:List Au)(p1_1:Aa)(p1_2:Bd):LP (EV (R5 L) L 7 B8m.u.l.u.l.l) [0,1,4,7,8] [2,3] (Bxo p1_0 p1_1 p1_2) [.ret,.exit 0] (λn v=>K5 L p1_0 p1_1 p1_2 n v.1 v.2) K:=lE (λ_=>rfl) λn v ih=>eE (Yr L p1_0 p1_1 p1_2 (λAg Af=>re (ih (Ag,Af))) v.1 v.2)
def Br1(p1_0:List Au)(p1_1:Aa)(p1_2:Bd)(k:Dj):Int->Prop:=λo=>k (I o) [(2,(Ae p1_1)),(3,(Cv p1_2))]
def Ahc [An A Int](L:Nat)(o4:Nat×Js):A:=
 (sl o4.1 [(lf o4.2.1),
 (lf (-1))])
def Aqb [An A Int](p1_0:List Au)(p1_1:Aa)(p1_2:Bd):A:=(bd (K5 L p1_0 p1_1 p1_2 L 0 0) λo4=>Ahc L o4)
def Eb(p1_0:List Au)(p1_1:Aa)(p1_2:Bd):Option Int:=Aqb L p1_0 p1_1 p1_2
theorem Ah1(p1_0:List Au)(p1_1:Aa)(p1_2:Bd):YO (R5 L) L 8 213 [lv (.t89 p1_0),zq5] [(2,(Ae p1_1)),(3,(Cv p1_2))] k=ob (Eb L p1_0 p1_1 p1_2) (Br1 p1_0 p1_1 p1_2 k):=(C4 _ _ _ jn4 _ _ _ _ _ _ _).trans (eE ((hq (Bv0 L (KA (R5 L) L 7 B8m (rl [2,1,2,1]) (KJ Tryz.f213 k)) p1_0 p1_1 p1_2 L (0,0)) λo4=>Ahc L o4)))
def Y3 [An A Int](a1:Bd)(o38:Int):A:=
 (cn (!(decide (o38>=0)))
 (lf 5)
 (bd (Be L a1.cZ (-1000) 1000) λr39=>
 (jp (.cn (!r39)
 (.lf true)
 (.lf (a1.cZ == 0))) (λb40=>
 (cn b40
 (lf 2)
 (lf 0))))))
def Y4 [An A Int](a1:Bd)(o41:Int):A:=
 (cn (!(decide (o41>=0)))
 (lf 5)
 (bd (Be L a1.cZ (-1000) 1000) λr42=>
 (jp (.cn (!r42)
 (.lf true)
 (.lf (a1.cZ == 0))) (λb43=>
 (cn b43
 (lf 2)
 (lf 0))))))
def Y5 [An A Int](a1:Bd)(o44:Int):A:=
 (cn (!(decide (o44>=0)))
 (lf 5)
 (bd (Be L a1.cZ (-1000) 1000) λr45=>
 (jp (.cn (!r45)
 (.lf true)
 (.lf (a1.cZ == 0))) (λb46=>
 (cn b46
 (lf 2)
 (lf 0))))))
def Y6 [An A Int](a1:Bd)(o47:Int):A:=
 (cn (!(decide (o47>=0)))
 (lf 5)
 (bd (Be L a1.cZ (-1000) 1000) λr48=>
 (jp (.cn (!r48)
 (.lf true)
 (.lf (a1.cZ == 0))) (λb49=>
 (cn b49
 (lf 2)
 (lf 0))))))
def Y7 [An A Int](a1:Bd)(o50:Int):A:=
 (cn (!(decide (o50>=0)))
 (lf 5)
 (bd (Be L a1.cZ (-1000) 1000) λr51=>
 (jp (.cn (!r51)
 (.lf true)
 (.lf (a1.cZ == 0))) (λb52=>
 (cn b52
 (lf 2)
 (lf 0))))))
def Y8 [An A Int](a1:Bd)(o53:Int):A:=
 (cn (!(decide (o53>=0)))
 (lf 5)
 (bd (Be L a1.cZ (-1000) 1000) λr54=>
 (jp (.cn (!r54)
 (.lf true)
 (.lf (a1.cZ == 0))) (λb55=>
 (cn b55
 (lf 2)
 (lf 0))))))
def Y9 [An A Int](a1:Bd)(o56:Int):A:=
 (cn (!(decide (o56>=0)))
 (lf 5)
 (bd (Be L a1.cZ (-1000) 1000) λr57=>
 (jp (.cn (!r57)
 (.lf true)
 (.lf (a1.cZ == 0))) (λb58=>
 (cn b58
 (lf 2)
 (lf 0))))))
def W5 [An A Int](a1:Bd)(o59:Int):A:=
 (cn (!(decide (o59>=0)))
 (lf 5)
 (bd (Be L a1.cZ (-1000) 1000) λr60=>
 (jp (.cn (!r60)
 (.lf true)
 (.lf (a1.cZ == 0))) (λb61=>
 (cn b61
 (lf 2)
 (lf 0))))))
def W6 [An A Int](a1:Bd)(o62:Int):A:=
 (cn (!(decide (o62>=0)))
 (lf 5)
 (bd (Be L a1.cZ (-1000) 1000) λr63=>
 (jp (.cn (!r63)
 (.lf true)
 (.lf (a1.cZ == 0))) (λb64=>
 (cn b64
 (lf 2)
 (lf 0))))))
def Zh [An A Int](a0:Aa)(a1:Bd)(nx3:A)(nx4:A)(nx5:A)(nx6:A)(nx7:A)(nx8:A)(nx9:A)(nx10:A)(nx11:A):A:=
 (cn (a1.aO.toList == (⟨#[99,114,101,97,116,101,100]⟩:Yb).toList)
 (cn (a1.aO.toList == (⟨#[99,114,101,97,116,101,100]⟩:Yb).toList)
 (bd (Kn L a0 a1.aF) λr1=>
 (cn (!(decide (r1>=0)))
 (lf 5)
 (bd (Be L a1.cZ (-1000) 1000) λr2=>
 (jp (.cn (!r2)
 (.lf true)
 (.lf (a1.cZ == 0))) (λb3=>
 (cn b3
 (lf 2)
 (lf 0)))))))
 (cn (a1.aO.toList == (⟨#[115,116,111,114,101,100]⟩:Yb).toList)
 (cn (a1.aO.toList == (⟨#[115,116,111,114,101,100]⟩:Yb).toList)
 nx3
 (cn (a1.aO.toList == (⟨#[99,111,117,110,116,101,100]⟩:Yb).toList)
 (bd (Bx L a0.bD a1.aF) λr5=>
 (cn (!r5)
 (lf 5)
 (bd (Be L a1.cZ (-1000) 1000) λr6=>
 (jp (.cn (!r6)
 (.lf true)
 (.lf (a1.cZ == 0))) (λb7=>
 (cn b7
 (lf 2)
 (lf 0)))))))
 (lf 1)))
 (cn (a1.aO.toList == (⟨#[101,110,116,101,114,101,100]⟩:Yb).toList)
 (cn (a1.aO.toList == (⟨#[101,110,116,101,114,101,100]⟩:Yb).toList)
 nx4
 (cn (a1.aO.toList == (⟨#[99,111,117,110,116,101,100]⟩:Yb).toList)
 (bd (Bx L a0.bD a1.aF) λr8=>
 (cn (!r8)
 (lf 5)
 (bd (Be L a1.cZ (-1000) 1000) λr9=>
 (jp (.cn (!r9)
 (.lf true)
 (.lf (a1.cZ == 0))) (λb10=>
 (cn b10
 (lf 2)
 (lf 0)))))))
 (lf 1)))
 (cn (a1.aO.toList == (⟨#[108,101,102,116]⟩:Yb).toList)
 nx5
 (cn (a1.aO.toList == (⟨#[99,111,117,110,116,101,100]⟩:Yb).toList)
 (bd (Bx L a0.bD a1.aF) λr11=>
 (cn (!r11)
 (lf 5)
 (bd (Be L a1.cZ (-1000) 1000) λr12=>
 (jp (.cn (!r12)
 (.lf true)
 (.lf (a1.cZ == 0))) (λb13=>
 (cn b13
 (lf 2)
 (lf 0)))))))
 (lf 1))))))
 (cn (a1.aO.toList == (⟨#[101,110,100,101,100]⟩:Yb).toList)
 (cn (a1.aO.toList == (⟨#[101,110,100,101,100]⟩:Yb).toList)
 (bd (Kn L a0 a1.aF) λr14=>
 (cn (!(decide (r14>=0)))
 (lf 5)
 (bd (Be L a1.cZ (-1000) 1000) λr15=>
 (jp (.cn (!r15)
 (.lf true)
 (.lf (a1.cZ == 0))) (λb16=>
 (cn b16
 (lf 2)
 (lf 0)))))))
 (cn (a1.aO.toList == (⟨#[115,116,111,114,101,100]⟩:Yb).toList)
 (cn (a1.aO.toList == (⟨#[115,116,111,114,101,100]⟩:Yb).toList)
 nx6
 (cn (a1.aO.toList == (⟨#[99,111,117,110,116,101,100]⟩:Yb).toList)
 (bd (Bx L a0.bD a1.aF) λr17=>
 (cn (!r17)
 (lf 5)
 (bd (Be L a1.cZ (-1000) 1000) λr18=>
 (jp (.cn (!r18)
 (.lf true)
 (.lf (a1.cZ == 0))) (λb19=>
 (cn b19
 (lf 2)
 (lf 0)))))))
 (lf 1)))
 (cn (a1.aO.toList == (⟨#[101,110,116,101,114,101,100]⟩:Yb).toList)
 (cn (a1.aO.toList == (⟨#[101,110,116,101,114,101,100]⟩:Yb).toList)
 nx7
 (cn (a1.aO.toList == (⟨#[99,111,117,110,116,101,100]⟩:Yb).toList)
 (bd (Bx L a0.bD a1.aF) λr20=>
 (cn (!r20)
 (lf 5)
 (bd (Be L a1.cZ (-1000) 1000) λr21=>
 (jp (.cn (!r21)
 (.lf true)
 (.lf (a1.cZ == 0))) (λb22=>
 (cn b22
 (lf 2)
 (lf 0)))))))
 (lf 1)))
 (cn (a1.aO.toList == (⟨#[108,101,102,116]⟩:Yb).toList)
 nx8
 (cn (a1.aO.toList == (⟨#[99,111,117,110,116,101,100]⟩:Yb).toList)
 (bd (Bx L a0.bD a1.aF) λr23=>
 (cn (!r23)
 (lf 5)
 (bd (Be L a1.cZ (-1000) 1000) λr24=>
 (jp (.cn (!r24)
 (.lf true)
 (.lf (a1.cZ == 0))) (λb25=>
 (cn b25
 (lf 2)
 (lf 0)))))))
 (lf 1))))))
 (cn (a1.aO.toList == (⟨#[105,110,115,105,100,101]⟩:Yb).toList)
 (bd (Kn L a0 a1.aF) λr26=>
 (cn (!(decide (r26>=0)))
 (lf 5)
 (bd (Be L a1.cZ (-1000) 1000) λr27=>
 (jp (.cn (!r27)
 (.lf true)
 (.lf (a1.cZ == 0))) (λb28=>
 (cn b28
 (lf 2)
 (lf 0)))))))
 (cn (a1.aO.toList == (⟨#[115,116,111,114,101,100]⟩:Yb).toList)
 (cn (a1.aO.toList == (⟨#[115,116,111,114,101,100]⟩:Yb).toList)
 nx9
 (cn (a1.aO.toList == (⟨#[99,111,117,110,116,101,100]⟩:Yb).toList)
 (bd (Bx L a0.bD a1.aF) λr29=>
 (cn (!r29)
 (lf 5)
 (bd (Be L a1.cZ (-1000) 1000) λr30=>
 (jp (.cn (!r30)
 (.lf true)
 (.lf (a1.cZ == 0))) (λb31=>
 (cn b31
 (lf 2)
 (lf 0)))))))
 (lf 1)))
 (cn (a1.aO.toList == (⟨#[101,110,116,101,114,101,100]⟩:Yb).toList)
 (cn (a1.aO.toList == (⟨#[101,110,116,101,114,101,100]⟩:Yb).toList)
 nx10
 (cn (a1.aO.toList == (⟨#[99,111,117,110,116,101,100]⟩:Yb).toList)
 (bd (Bx L a0.bD a1.aF) λr32=>
 (cn (!r32)
 (lf 5)
 (bd (Be L a1.cZ (-1000) 1000) λr33=>
 (jp (.cn (!r33)
 (.lf true)
 (.lf (a1.cZ == 0))) (λb34=>
 (cn b34
 (lf 2)
 (lf 0)))))))
 (lf 1)))
 (cn (a1.aO.toList == (⟨#[108,101,102,116]⟩:Yb).toList)
 nx11
 (cn (a1.aO.toList == (⟨#[99,111,117,110,116,101,100]⟩:Yb).toList)
 (bd (Bx L a0.bD a1.aF) λr35=>
 (cn (!r35)
 (lf 5)
 (bd (Be L a1.cZ (-1000) 1000) λr36=>
 (jp (.cn (!r36)
 (.lf true)
 (.lf (a1.cZ == 0))) (λb37=>
 (cn b37
 (lf 2)
 (lf 0)))))))
 (lf 1))))))))
def Awb [An A Int](a0:Aa)(a1:Bd):A:=Zh L a0 a1 (bd (Eb L a0.aM a0 a1) λo38=>Y3 L a1 o38) (bd (Eb L a0.aM a0 a1) λo41=>Y4 L a1 o41) (bd (Eb L a0.aM a0 a1) λo44=>Y5 L a1 o44) (bd (Eb L a0.aM a0 a1) λo47=>Y6 L a1 o47) (bd (Eb L a0.aM a0 a1) λo50=>Y7 L a1 o50) (bd (Eb L a0.aM a0 a1) λo53=>Y8 L a1 o53) (bd (Eb L a0.aM a0 a1) λo56=>Y9 L a1 o56) (bd (Eb L a0.aM a0 a1) λo59=>W5 L a1 o59) (bd (Eb L a0.aM a0 a1) λo62=>W6 L a1 o62)
def V3(a0:Aa)(a1:Bd):Option Int:=Awb L a0 a1
def Cbo:F6:=E2 I 157 C7 A1d (V3 L) λa0 a1 r h=>hF Tryz.func157 (C:=R5 L) (oS _) L (λkk=>eE (Zh L a0 a1 (hq (Ah1 L (Mx (R5 L) L 8 2 3 Aql.u.l ⟨[(6,zq5),(5,lv (.t89 a0.aM)),(0,lv (.t89 a0.aM)),(1,zq5),Aj7],[(2,(Ae a0)),(3,(Cv a1))],1004⟩ (some 7) (kN (KA (R5 L) L 8 Aql (rl [2,1]) (KJ Tryz.f190 (Mx (R5 L) L 9 1 4 Aqk.w.l.u.l.w.r.l ⟨[(23,zq5),(22,lv (.t89 a0.aM)),Bdb,Tp,T4,(4,I 0),Bde,(7,S a1.aO),(17,B (a1.aO.toList == (⟨#[115,116,111,114,101,100]⟩:Yb).toList))],[(2,(Ae a0)),(3,(Cv a1))],0⟩ (some 24) (kN (KA (R5 L) L 9 Aqk (rl [4,1,2,1,5,1]) (KE Tryz.f157 kk)))))))) a0.aM a0 a1) λo38=>Y3 L a1 o38) (hq (Ah1 L (Mx (R5 L) L 8 2 3 Aql.u.l ⟨[(6,zq5),(5,lv (.t89 a0.aM)),(0,lv (.t89 a0.aM)),(1,zq5),Aj7],[(2,(Ae a0)),(3,(Cv a1))],1004⟩ (some 7) (kN (KA (R5 L) L 8 Aql (rl [2,1]) (KJ Tryz.f190 (Mx (R5 L) L 9 1 4 Aqk.w.l.u.l.w.r.l ⟨[(23,zq5),(22,lv (.t89 a0.aM)),Bdb,Tp,T4,(4,I 0),Bde,(7,S a1.aO),(17,B (a1.aO.toList == (⟨#[101,110,116,101,114,101,100]⟩:Yb).toList))],[(2,(Ae a0)),(3,(Cv a1))],0⟩ (some 24) (kN (KA (R5 L) L 9 Aqk (rl [4,1,2,1,5,1]) (KE Tryz.f157 kk)))))))) a0.aM a0 a1) λo41=>Y4 L a1 o41) (hq (Ah1 L (Mx (R5 L) L 8 2 3 Aql.u.l ⟨[(6,zq5),(5,lv (.t89 a0.aM)),(0,lv (.t89 a0.aM)),(1,zq5),Aj7],[(2,(Ae a0)),(3,(Cv a1))],1004⟩ (some 7) (kN (KA (R5 L) L 8 Aql (rl [2,1]) (KJ Tryz.f190 (Mx (R5 L) L 9 1 4 Aqk.w.l.u.l.w.r.l ⟨[(23,zq5),(22,lv (.t89 a0.aM)),Bdb,Tp,T4,(4,I 0),Bde,(7,S a1.aO),(17,B (a1.aO.toList == (⟨#[108,101,102,116]⟩:Yb).toList))],[(2,(Ae a0)),(3,(Cv a1))],0⟩ (some 24) (kN (KA (R5 L) L 9 Aqk (rl [4,1,2,1,5,1]) (KE Tryz.f157 kk)))))))) a0.aM a0 a1) λo44=>Y5 L a1 o44) (hq (Ah1 L (Mx (R5 L) L 8 2 3 Aql.u.l ⟨[(6,zq5),(5,lv (.t89 a0.aM)),(0,lv (.t89 a0.aM)),(1,zq5),Aj7],[(2,(Ae a0)),(3,(Cv a1))],1004⟩ (some 7) (kN (KA (R5 L) L 8 Aql (rl [2,1]) (KJ Tryz.f190 (Mx (R5 L) L 9 1 4 Aqk.w.l.u.l.w.r.l ⟨[(23,zq5),(22,lv (.t89 a0.aM)),Bdb,Tp,T4,(4,I 0),Bde,(7,S a1.aO),(17,B (a1.aO.toList == (⟨#[115,116,111,114,101,100]⟩:Yb).toList))],[(2,(Ae a0)),(3,(Cv a1))],0⟩ (some 24) (kN (KA (R5 L) L 9 Aqk (rl [4,1,2,1,5,1]) (KE Tryz.f157 kk)))))))) a0.aM a0 a1) λo47=>Y6 L a1 o47) (hq (Ah1 L (Mx (R5 L) L 8 2 3 Aql.u.l ⟨[(6,zq5),(5,lv (.t89 a0.aM)),(0,lv (.t89 a0.aM)),(1,zq5),Aj7],[(2,(Ae a0)),(3,(Cv a1))],1004⟩ (some 7) (kN (KA (R5 L) L 8 Aql (rl [2,1]) (KJ Tryz.f190 (Mx (R5 L) L 9 1 4 Aqk.w.l.u.l.w.r.l ⟨[(23,zq5),(22,lv (.t89 a0.aM)),Bdb,Tp,T4,(4,I 0),Bde,(7,S a1.aO),(17,B (a1.aO.toList == (⟨#[101,110,116,101,114,101,100]⟩:Yb).toList))],[(2,(Ae a0)),(3,(Cv a1))],0⟩ (some 24) (kN (KA (R5 L) L 9 Aqk (rl [4,1,2,1,5,1]) (KE Tryz.f157 kk)))))))) a0.aM a0 a1) λo50=>Y7 L a1 o50) (hq (Ah1 L (Mx (R5 L) L 8 2 3 Aql.u.l ⟨[(6,zq5),(5,lv (.t89 a0.aM)),(0,lv (.t89 a0.aM)),(1,zq5),Aj7],[(2,(Ae a0)),(3,(Cv a1))],1004⟩ (some 7) (kN (KA (R5 L) L 8 Aql (rl [2,1]) (KJ Tryz.f190 (Mx (R5 L) L 9 1 4 Aqk.w.l.u.l.w.r.l ⟨[(23,zq5),(22,lv (.t89 a0.aM)),Bdb,Tp,T4,(4,I 0),Bde,(7,S a1.aO),(17,B (a1.aO.toList == (⟨#[108,101,102,116]⟩:Yb).toList))],[(2,(Ae a0)),(3,(Cv a1))],0⟩ (some 24) (kN (KA (R5 L) L 9 Aqk (rl [4,1,2,1,5,1]) (KE Tryz.f157 kk)))))))) a0.aM a0 a1) λo53=>Y8 L a1 o53) (hq (Ah1 L (Mx (R5 L) L 8 2 3 Aql.u.l ⟨[(6,zq5),(5,lv (.t89 a0.aM)),(0,lv (.t89 a0.aM)),(1,zq5),Aj7],[(2,(Ae a0)),(3,(Cv a1))],1004⟩ (some 7) (kN (KA (R5 L) L 8 Aql (rl [2,1]) (KJ Tryz.f190 (Mx (R5 L) L 9 1 4 Aqk.w.l.u.l.w.r.l ⟨[(23,zq5),(22,lv (.t89 a0.aM)),Bdb,Tp,T4,(4,I 0),Bde,(7,S a1.aO),(17,B (a1.aO.toList == (⟨#[115,116,111,114,101,100]⟩:Yb).toList))],[(2,(Ae a0)),(3,(Cv a1))],0⟩ (some 24) (kN (KA (R5 L) L 9 Aqk (rl [4,1,2,1,5,1]) (KE Tryz.f157 kk)))))))) a0.aM a0 a1) λo56=>Y9 L a1 o56) (hq (Ah1 L (Mx (R5 L) L 8 2 3 Aql.u.l ⟨[(6,zq5),(5,lv (.t89 a0.aM)),(0,lv (.t89 a0.aM)),(1,zq5),Aj7],[(2,(Ae a0)),(3,(Cv a1))],1004⟩ (some 7) (kN (KA (R5 L) L 8 Aql (rl [2,1]) (KJ Tryz.f190 (Mx (R5 L) L 9 1 4 Aqk.w.l.u.l.w.r.l ⟨[(23,zq5),(22,lv (.t89 a0.aM)),Bdb,Tp,T4,(4,I 0),Bde,(7,S a1.aO),(17,B (a1.aO.toList == (⟨#[101,110,116,101,114,101,100]⟩:Yb).toList))],[(2,(Ae a0)),(3,(Cv a1))],0⟩ (some 24) (kN (KA (R5 L) L 9 Aqk (rl [4,1,2,1,5,1]) (KE Tryz.f157 kk)))))))) a0.aM a0 a1) λo59=>W5 L a1 o59) (hq (Ah1 L (Mx (R5 L) L 8 2 3 Aql.u.l ⟨[(6,zq5),(5,lv (.t89 a0.aM)),(0,lv (.t89 a0.aM)),(1,zq5),Aj7],[(2,(Ae a0)),(3,(Cv a1))],1004⟩ (some 7) (kN (KA (R5 L) L 8 Aql (rl [2,1]) (KJ Tryz.f190 (Mx (R5 L) L 9 1 4 Aqk.w.l.u.l.w.r.l ⟨[(23,zq5),(22,lv (.t89 a0.aM)),Bdb,Tp,T4,(4,I 0),Bde,(7,S a1.aO),(17,B (a1.aO.toList == (⟨#[108,101,102,116]⟩:Yb).toList))],[(2,(Ae a0)),(3,(Cv a1))],0⟩ (some 24) (kN (KA (R5 L) L 9 Aqk (rl [4,1,2,1,5,1]) (KE Tryz.f157 kk)))))))) a0.aM a0 a1) λo62=>W6 L a1 o62))) h
end
end Go.Proofs.YthjhkpgonleelaaGreatDoor.Ev
