import Derived.Test.YthjhkpgonleelaaGreatDoorLG1
set_option maxRecDepth 100000
set_option maxHeartbeats 4000000
set_option linter.unusedVariables false
set_option linter.unusedSimpArgs false
set_option linter.unnecessarySimpa false
namespace Go.Proofs.YthjhkpgonleelaaGreatDoor.Ev
open Go An
noncomputable section
variable {A:Type} (L n:Nat) (kk:K5) (K:Ef) (k:Dj)
def Bhx(F:Ab->Option Int):Prop:=∀y0 r,F y0=some r->Ho Tryz.prog 194 [Bi.en y0] I r
def B6e:=CC Tryz.f194
def Byt(Gz:Ab->Option Int)(L:Nat):Bc:=(orc 194 (A1 I Bi Gz) (oL []))
theorem Ccj(Gz:Ab->Option Int)(Bm2:Bhx Gz)(L:Nat):Dl Tryz.prog (Byt Gz L):=(Em (a1 _ Bm2) (oS []))
def Bv8(a0:Ab)(v:Jc):St:=⟨[(0,.any),(1,.any),(2,I 0),(3,I v.1),(7,lv (.dU a0.aY)),(8,I (a0.aY.length:Int)),(9,I v.2)],[(1,(Cl a0))],0⟩
def Xh [An A C3](Gz:Ab->Option Int)(L:Nat)(a0:Ab)(rec:Int->Int->A)(Ag:Int)(Bj:Int):A:=
 (lw Bj a0.aY
 (bd (Gz (Ab.cp (gD a0.aY Bj))) λr1=>
 (rec (if r1>Ag then r1 else Ag) (Bu (Bj+1))))
 (lf (0,Ag,Bj)))
def Kb(Gz:Ab->Option Int)(L:Nat)(a0:Ab):Nat->Int->Int->Option C3
 |0,_,_=>none
 |n+1,Ag,Bj=>Xh Gz L a0 (Kb Gz L a0 n) Ag Bj
theorem Buk(Gz:Ab->Option Int)(L:Nat)(K:Ef)(a0:Ab):LP (EV (Byt Gz L) L 9 B6e.w.l.u.l.l) [0,1,2,3,7,8,9] [1] (Bv8 a0) [.exit 0] (λn v=>Kb Gz L a0 n v.1 v.2) K:=lE (λ_=>rfl) λn v ih=>eE (Xh Gz L a0 (λAg Bj=>re (ih (Ag,Bj))) v.1 v.2)
def Xv [An A Int](Gz:Ab->Option Int)(L:Nat)(o2:Nat×Jc):A:=
 (sl o2.1 [(lf (Bu (o2.2.1+1)))])
def Auz [An A Int](Gz:Ab->Option Int)(L:Nat)(a0:Ab):A:=(bd (Kb Gz L a0 L 0 0) λo2=>Xv Gz L o2)
def Anf(Gz:Ab->Option Int)(L:Nat)(a0:Ab):Option Int:=Auz Gz L a0
theorem Ca0(Gz:Ab->Option Int)(Bm2:Bhx Gz)(L:Nat):Bhx (Anf Gz L):=λa0 r h=>hF Tryz.func194 (Ccj Gz Bm2 L) L (λkk=>eE ((hq (Buk Gz L (KA (Byt Gz L) L 9 B6e (rl [4,1,2,1]) (KE Tryz.f194 kk)) a0 L (0,0)) λo2=>Xv Gz L o2))) h
def La:Nat->Ab->Option Int
 |0,_=>none
 |L+1,a0=>Anf (La L) L a0
theorem Bsn(L:Nat):Bhx (La L):=by
 induction L with
 |zero=>exact λ_ _ h=>(by cases h)
 |succ L ih=>
  have i194:=ih;exact Ca0 (La L) i194 L
def B94(L:Nat):F3:=E1 I 194 Bi (La L) (Bsn L)
def Aqu [An A Int](L:Nat)(a0:Int):A:=
 (jp (.cn (a0 == 1)
 (.lf true)
 (.lf (a0 == 2))) (λb1=>
 (jp (.cn b1
 (.lf true)
 (.lf (a0 == 3))) (λb2=>
 (jp (.cn b2
 (.lf true)
 (.lf (a0 == 4))) (λb3=>
 (cn b3
 (lf 0)
 (jp (.cn (decide (a0>=5))
 (.lf (decide (a0<=8)))
 (.lf false)) (λb4=>
 (cn b4
 (lf 1)
 (jp (.cn (decide (a0>=9))
 (.lf (decide (a0<=21)))
 (.lf false)) (λb5=>
 (cn b5
 (lf 2)
 (jp (.cn (decide (a0>=22))
 (.lf (decide (a0<=26)))
 (.lf false)) (λb6=>
 (cn b6
 (lf 0)
 (lf (-1))))))))))))))))))
def Y4(a0:Int):Option Int:=Aqu L a0
def B46:F3:=E1 I 222 (cI .i64) (Y4 L) λa0 r h=>hF Tryz.func222 (oS []) L (λkk=>eE (Aqu L a0)) h
def Zr [An A Bool](a0:Bl)(a1:Int):A:=
 (cn (a1 == 3)
 (lf (!a0.bT))
 (cn (a1 == 25)
 (cn (a1 == 25)
 (lf a0.bT)
 (bd (Y4 L a1) λr1=>
 (lf (decide (r1>=0)))))
 (cn (a1 == 26)
 (lf a0.bT)
 (bd (Y4 L a1) λr2=>
 (lf (decide (r2>=0)))))))
def Ti(a0:Bl)(a1:Int):Option Bool:=Zr L a0 a1
def Caa:F3:=E2 B 221 Od (cI .i64) (Ti L) λa0 a1 r h=>hF Tryz.func221 (oS [B46 L]) L (λkk=>eE (Zr L a0 a1)) h
def Akf [An A Bool](L:Nat)(a0:Int):A:=
 (jp (.cn (decide (a0>=22))
 (.lf (decide (a0<=24)))
 (.lf false)) (λb1=>
 (lf b1)))
def W1(a0:Int):Option Bool:=Akf L a0
def B48:F3:=E1 B 228 (cI .i64) (W1 L) λa0 r h=>hF Tryz.func228 (oS []) L (λkk=>eE (Akf L a0)) h
def Zs [An A Bool](a0:Bl)(a1:Int):A:=
 (jb (.cn (a1 == 3)
 (.lf true)
 (.bd (W1 L a1) λr2=>
 (.cn r2
 (.lf (!a0.bT))
 (.lf false)))) (λb1=>
 (lf b1)))
def J2(a0:Bl)(a1:Int):Option Bool:=Zs L a0 a1
def Cab:F3:=E2 B 223 Od (cI .i64) (J2 L) λa0 a1 r h=>hF Tryz.func223 (oS [B48 L]) L (λkk=>eE (Zs L a0 a1)) h
def Wv [An A (Int×Int×Bool)](a0:Bl)(a1:Int):A:=
 (cn (a1 == 2)
 (lf (0,1,true))
 (cn (a1 == 25)
 (lf (0,15,true))
 (cn (a1 == 26)
 (lf (0,31,true))
 (bd (W1 L a1) λr1=>
 (jp (.cn r1
 (.lf a0.bT)
 (.lf false)) (λb2=>
 (cn b2
 (lf (0,63,true))
 (lf (0,0,false)))))))))
def K3(a0:Bl)(a1:Int):Option (Int×Int×Bool):=Wv L a0 a1
def Cac:F3:=E2 (λ(x:Int×Int×Bool)=>.bY [I x.1,I x.2.1,B x.2.2]) 224 Od (cI .i64) (K3 L) λa0 a1 r h=>hF Tryz.func224 (oS [B48 L]) L (λkk=>eE (Wv L a0 a1)) h
def Abl [An A Int](a0:Bl)(a1:Ab):A:=
 (bd (Ti L (⟨a0.bT⟩:Bl) a1.Op) λr1=>
 (cn (!r1)
 (lf 1)
 (bd (Y4 L a1.Op) λr2=>
 (cn ((a1.aY.length:Int) != r2)
 (lf 1)
 (cn (!(a1.aF.toList == (⟨#[]⟩:Yb).toList))
 (bd (J2 L (⟨a0.bT⟩:Bl) a1.Op) λr3=>
 (cn (!r3)
 (lf 1)
 (cn (a1.Op == 1)
 (bd (Ahd L a1.N) λr4=>
 (cn (!r4)
 (lf 2)
 (lf 0)))
 (bd (K3 L (⟨a0.bT⟩:Bl) a1.Op) λr5=>
 (jp (.cn (!r5.2.2)
 (.lf (a1.N != 0))
 (.lf false)) (λb6=>
 (cn b6
 (lf 1)
 (jp (.cn r5.2.2
 (.cn (decide (a1.N<r5.1))
 (.lf true)
 (.lf (decide (a1.N>r5.2.1))))
 (.lf false)) (λb7=>
 (cn b7
 (lf 2)
 (bd (J2 L (⟨a0.bT⟩:Bl) a1.Op) λr8=>
 (cn r8
 (bd (Cu L a1.aF) λr9=>
 (lf r9))
 (lf 0)))))))))))))
 (cn (a1.Op == 1)
 (bd (Ahd L a1.N) λr10=>
 (cn (!r10)
 (lf 2)
 (lf 0)))
 (bd (K3 L (⟨a0.bT⟩:Bl) a1.Op) λr11=>
 (jp (.cn (!r11.2.2)
 (.lf (a1.N != 0))
 (.lf false)) (λb12=>
 (cn b12
 (lf 1)
 (jp (.cn r11.2.2
 (.cn (decide (a1.N<r11.1))
 (.lf true)
 (.lf (decide (a1.N>r11.2.1))))
 (.lf false)) (λb13=>
 (cn b13
 (lf 2)
 (bd (J2 L (⟨a0.bT⟩:Bl) a1.Op) λr14=>
 (cn r14
 (bd (Cu L a1.aF) λr15=>
 (lf r15))
 (lf 0))))))))))))))))
def U8(a0:Bl)(a1:Ab):Option Int:=Abl L a0 a1
def B44:F3:=E2 I 214 Od Bi (U8 L) λa0 a1 r h=>hF Tryz.func214 (oS [X35 L,By6 L,Caa L,B46 L,Cab L,Cac L]) L (λkk=>eE (Abl L a0 a1)) h
def Bhy(F:Bl->Ab->Option Int):Prop:=∀y0 y1 r,F y0 y1=some r->Ho Tryz.prog 195 [Od.en y0,Bi.en y1] I r
def B6f:=CC Tryz.f195
def Byu(F2:Bl->Ab->Option Int)(L:Nat):Bc:=(orc 195 (A2 I Od Bi F2) (oL [B44 L]))
theorem Cck(F2:Bl->Ab->Option Int)(Bm3:Bhy F2)(L:Nat):Dl Tryz.prog (Byu F2 L):=(Em (a2 _ Bm3) (oS [B44 L]))
def Bv9(a1:Ab)(a0:Bl)(v:Jc):St:=⟨[(0,.any),(1,.any),Sw,(3,.any),(4,I v.1),(5,.any),(16,lv (.dU a1.aY)),(17,I (a1.aY.length:Int)),(18,I v.2)],[(2,[B a0.bT]),(3,(Cl a1))],0⟩
def Oi [An A C3](F2:Bl->Ab->Option Int)(L:Nat)(a1:Ab)(a0:Bl)(rec:Int->Int->A)(Ah:Int)(Af:Int):A:=
 (lw Af a1.aY
 (bd (F2 (⟨a0.bT⟩:Bl) (Ab.cp (gD a1.aY Af))) λr2=>
 (cn (r2 != 0)
 (lf (0,r2,Af))
 (rec Ah (Bu (Af+1)))))
 (lf (1,Ah,Af)))
def Gm(F2:Bl->Ab->Option Int)(L:Nat)(a1:Ab)(a0:Bl):Nat->Int->Int->Option C3
 |0,_,_=>none
 |n+1,Ah,Af=>Oi F2 L a1 a0 (Gm F2 L a1 a0 n) Ah Af
theorem Bul(F2:Bl->Ab->Option Int)(L:Nat)(K:Ef)(a1:Ab)(a0:Bl):LP (EV (Byu F2 L) L 9 B6f.w.l.u.l.l) [0,1,2,3,4,5,16,17,18] [2,3] (Bv9 a1 a0) [.ret,.exit 0] (λn v=>Gm F2 L a1 a0 n v.1 v.2) K:=lE (λ_=>rfl) λn v ih=>eE (Oi F2 L a1 a0 (λAh Af=>re (ih (Ah,Af))) v.1 v.2)
def Ox [An A Int](F2:Bl->Ab->Option Int)(L:Nat)(o3:Nat×Jc):A:=
 (sl o3.1 [(lf o3.2.1),
 (lf 0)])
def O5 [An A Int](F2:Bl->Ab->Option Int)(L:Nat)(a0:Bl)(a1:Ab)(nx1:A):A:=
 (bd (U8 L (⟨a0.bT⟩:Bl) (Ab.cp a1)) λr1=>
 (cn (r1 != 0)
 (lf r1)
 nx1))
def Ai3 [An A Int](F2:Bl->Ab->Option Int)(L:Nat)(a0:Bl)(a1:Ab):A:=O5 F2 L a0 a1 (bd (Gm F2 L a1 a0 L 0 0) λo3=>Ox F2 L o3)
def Ze(F2:Bl->Ab->Option Int)(L:Nat)(a0:Bl)(a1:Ab):Option Int:=Ai3 F2 L a0 a1
theorem Ca1(F2:Bl->Ab->Option Int)(Bm3:Bhy F2)(L:Nat):Bhy (Ze F2 L):=λa0 a1 r h=>hF Tryz.func195 (Cck F2 Bm3 L) L (λkk=>eE (O5 F2 L a0 a1 (hq (Bul F2 L (KA (Byu F2 L) L 9 B6f (rl [4,1,2,1]) (KE Tryz.f195 kk)) a1 a0 L (0,0)) λo3=>Ox F2 L o3))) h
def F5:Nat->Bl->Ab->Option Int
 |0,_,_=>none
 |L+1,a0,a1=>Ze (F5 L) L a0 a1
theorem Bso(L:Nat):Bhy (F5 L):=by
 induction L with
 |zero=>exact λ_ _ _ h=>(by cases h)
 |succ L ih=>
  have i195:=ih;exact Ca1 (F5 L) i195 L
def B95(L:Nat):F3:=E2 I 195 Od Bi (F5 L) (Bso L)
def Zq [An A Int](a0:Bl)(a1:Ab):A:=
 (bd (Lb L (Ab.cp a1)) λr1=>
 (cn (decide (r1>60))
 (lf 6)
 (bd (La L (Ab.cp a1)) λr2=>
 (cn (decide (r2>12))
 (lf 11)
 (bd (F5 L (⟨a0.bT⟩:Bl) (Ab.cp a1)) λr3=>
 (lf r3))))))
def N5(a0:Bl)(a1:Ab):Option Int:=Zq L a0 a1
def B4w:F3:=E2 I 165 Od Bi (N5 L) λa0 a1 r h=>hF Tryz.func165 (oS [B93 L,B94 L,B95 L]) L (λkk=>eE (Zq L a0 a1)) h
def An0 [An A Int](a0:Ab):A:=
 (bd (N5 L (⟨false⟩:Bl) (Ab.cp a0)) λr1=>
 (lf r1))
def Rv(a0:Ab):Option Int:=An0 L a0
def B99:F3:=E1 I 220 Bi (Rv L) λa0 r h=>hF Tryz.func220 (oS [B4w L]) L (λkk=>eE (An0 L a0)) h
def Bjz:=CC Tryz.f212
def Bfe:Bc:=oL [X35 L,By0 L,B99 L]
def Bwd(a1:Bs)(a0:Ad)(v:Jc):St:=⟨[(0,.any),(1,.any),Sw,Th,(4,I v.1),(9,.any),(10,.any),Bbw,(13,.any),(24,.bA true (.fI [(⟨a1.dP,a0.aF⟩:Ha),(⟨a1.fQ,a0.Of⟩:Ha)])),(25,I ([(⟨a1.dP,a0.aF⟩:Ha),(⟨a1.fQ,a0.Of⟩:Ha)].length:Int)),(26,I v.2),(53,.any),(74,.any)],[(2,(Yu a0)),(3,(Abr a1))],0⟩
def Afo [An A C3](a1:Bs)(a0:Ad)(rec:Int->Int->A)(Ah:Int)(Af:Int):A:=
 (cn (decide (Af<([(⟨a1.dP,a0.aF⟩:Ha),(⟨a1.fQ,a0.Of⟩:Ha)].length:Int)))
 (gq (0<=Af)
 (gq (Af<(([(⟨a1.dP,a0.aF⟩:Ha),(⟨a1.fQ,a0.Of⟩:Ha)].length:Nat):Int))
 (bd (Cu L (([(⟨a1.dP,a0.aF⟩:Ha),(⟨a1.fQ,a0.Of⟩:Ha)].getD (Int.toNat Af) default).dP)) λr1=>
 (jp (.cn (([(⟨a1.dP,a0.aF⟩:Ha),(⟨a1.fQ,a0.Of⟩:Ha)].getD (Int.toNat Af) default).gV)
 (.lf (r1 != 0))
 (.lf false)) (λb2=>
 (cn b2
 (lf (0,r1,Af))
 (rec Ah (Bu (Af+1)))))))))
 (lf (1,Ah,Af)))
def Ks(L:Nat)(a1:Bs)(a0:Ad):Nat->Int->Int->Option C3
 |0,_,_=>none
 |n+1,Ah,Af=>Afo L a1 a0 (Ks L a1 a0 n) Ah Af
theorem Bup(a1:Bs)(a0:Ad):LP (EV (Bfe L) L 9 Bjz.u.l.u.l.l) [0,1,2,3,4,9,10,12,13,24,25,26,53,74] [2,3] (Bwd a1 a0) [.ret,.exit 0] (λn v=>Ks L a1 a0 n v.1 v.2) K:=lE (λ_=>rfl) λn v ih=>eE (Afo L a1 a0 (λAh Af=>re (ih (Ah,Af))) v.1 v.2)
def Bwe(a1:Bs)(a0:Ad)(v:Jc):St:=⟨[(0,.any),(1,.any),Sw,Th,(4,I v.1),(6,.any),(7,.any),Bbw,(13,.any),(26,.any),(51,.bA true (.fK [(⟨a1.fH,(Ab.cp a0.E)⟩:Qd),(⟨a1.fM,(Ab.cp a0.F)⟩:Qd)])),(52,I ([(⟨a1.fH,(Ab.cp a0.E)⟩:Qd),(⟨a1.fM,(Ab.cp a0.F)⟩:Qd)].length:Int)),(53,I v.2),(74,.any)],[(2,(Yu a0)),(3,(Abr a1))],0⟩
def Afp [An A C3](a1:Bs)(a0:Ad)(rec:Int->Int->A)(Bz:Int)(Bp:Int):A:=
 (cn (decide (Bp<([(⟨a1.fH,(Ab.cp a0.E)⟩:Qd),(⟨a1.fM,(Ab.cp a0.F)⟩:Qd)].length:Int)))
 (gq (0<=Bp)
 (gq (Bp<(([(⟨a1.fH,(Ab.cp a0.E)⟩:Qd),(⟨a1.fM,(Ab.cp a0.F)⟩:Qd)].length:Nat):Int))
 (cn (!(([(⟨a1.fH,(Ab.cp a0.E)⟩:Qd),(⟨a1.fM,(Ab.cp a0.F)⟩:Qd)].getD (Int.toNat Bp) default).gV))
 (rec Bz (Bu (Bp+1)))
 (bd (Rv L (Ab.cp (([(⟨a1.fH,(Ab.cp a0.E)⟩:Qd),(⟨a1.fM,(Ab.cp a0.F)⟩:Qd)].getD (Int.toNat Bp) default).fH))) λr4=>
 (cn (r4 != 0)
 (lf (0,r4,Bp))
 (rec Bz (Bu (Bp+1))))))))
 (lf (1,Bz,Bp)))
def Kt(L:Nat)(a1:Bs)(a0:Ad):Nat->Int->Int->Option C3
 |0,_,_=>none
 |n+1,Bz,Bp=>Afp L a1 a0 (Kt L a1 a0 n) Bz Bp
theorem Buq(a1:Bs)(a0:Ad):LP (EV (Bfe L) L 9 Bjz.w.l.u.l.l) [0,1,2,3,4,6,7,12,13,26,51,52,53,74] [2,3] (Bwe a1 a0) [.ret,.exit 2] (λn v=>Kt L a1 a0 n v.1 v.2) K:=lE (λ_=>rfl) λn v ih=>eE (Afp L a1 a0 (λBz Bp=>re (ih (Bz,Bp))) v.1 v.2)
def Bwf(a0:Ad)(a1:Bs)(v:Jc):St:=⟨[(0,.any),(1,.any),Sw,Th,(4,I v.1),(6,.any),(7,.any),(9,.any),(10,.any),(26,.any),(53,.any),(72,lv (.dU a0.aM)),(73,I (a0.aM.length:Int)),(74,I v.2)],[(2,(Yu a0)),(3,(Abr a1))],0⟩
def Xq [An A C3](a0:Ad)(a1:Bs)(rec:Int->Int->A)(D7:Int)(Ss:Int):A:=
 (lw Ss a0.aM
 (bd (Rv L (Ab.cp (gD a0.aM Ss))) λr6=>
 (cn (r6 != 0)
 (lf (0,r6,Ss))
 (rec D7 (Bu (Ss+1)))))
 (lf (1,D7,Ss)))
def Ku(L:Nat)(a0:Ad)(a1:Bs):Nat->Int->Int->Option C3
 |0,_,_=>none
 |n+1,D7,Ss=>Xq L a0 a1 (Ku L a0 a1 n) D7 Ss
theorem Bur(a0:Ad)(a1:Bs):LP (EV (Bfe L) L 9 Bjz.x.l.u.l.l) [0,1,2,3,4,6,7,9,10,26,53,72,73,74] [2,3] (Bwf a0 a1) [.ret,.exit 4] (λn v=>Ku L a0 a1 n v.1 v.2) K:=lE (λ_=>rfl) λn v ih=>eE (Xq L a0 a1 (λD7 Ss=>re (ih (D7,Ss))) v.1 v.2)
def Yc [An A Int](a1:Bs)(a0:Ad)(o7:Nat×Jc):A:=
 (sl o7.1 [(lf o7.2.1),
 (cn a1.bO
 (bd (F4 L a0.bE) λr8=>
 (lf r8))
 (lf 0))])
def Yi [An A Int](L:Nat)(a0:Ad)(a1:Bs)(o5:Nat×Jc)(nx3:C3->A):A:=
 (sl o5.1 [(lf o5.2.1),
 (cn (decide ((a0.aM.length:Int)>6))
 (lf 6)
 (nx3 o5))])
def Af1 [An A Int](a0:Ad)(a1:Bs)(o5:Nat×Jc):A:=Yi L a0 a1 o5 (λo5=>bd (Ku L a0 a1 L o5.2.1 0) λo7=>Yc L a1 a0 o7)
def Yh [An A Int](L:Nat)(a1:Bs)(a0:Ad)(o3:Nat×Jc)(nx2:C3->A):A:=
 (sl o3.1 [(lf o3.2.1),
 (nx2 o3)])
def Af0 [An A Int](a1:Bs)(a0:Ad)(o3:Nat×Jc):A:=Yh L a1 a0 o3 (λo3=>bd (Kt L a1 a0 L o3.2.1 0) λo5=>Af1 L a0 a1 o5)
def Au8 [An A Int](a0:Ad)(a1:Bs):A:=(bd (Ks L a1 a0 L 0 0) λo3=>Af0 L a1 a0 o3)
def Zn(a0:Ad)(a1:Bs):Option Int:=Au8 L a0 a1
def B43:F3:=E2 I 212 Aem Az4 (Zn L) λa0 a1 r h=>hF Tryz.func212 (C:=Bfe L) (oS _) L (λkk=>eE ((hq (Bup L (KA (Bfe L) L 9 Bjz (rl [2,1,2,1]) (KE Tryz.f212 kk)) a1 a0 L (0,0)) λo3=>Yh L a1 a0 o3 (λo3=>hq (Buq L (KA (Bfe L) L 9 Bjz (rl [4,1,2,1]) (KE Tryz.f212 kk)) a1 a0 L (o3.2.1,0)) λo5=>Yi L a0 a1 o5 (λo5=>hq (Bur L (KA (Bfe L) L 9 Bjz (rl [8,1,2,1]) (KE Tryz.f212 kk)) a0 a1 L (o5.2.1,0)) λo7=>Yc L a1 a0 o7))))) h
def Bhu(F:(List Ad)->Option Int):Prop:=∀y0 r,F y0=some r->Ho Tryz.prog 187 [Y7.en y0] I r
def B6a:=CC Tryz.f187
def Byq(Gb:(List Ad)->Option Int)(L:Nat):Bc:=(orc 187 (A1 I Y7 Gb) (oL [B41 L,B42 L,B43 L]))
theorem Ccg(Gb:(List Ad)->Option Int)(Bmz:Bhu Gb)(L:Nat):Dl Tryz.prog (Byq Gb L):=(Em (a1 _ Bmz) (oS [B41 L,B42 L,B43 L]))
def Bv5(a0:List Ad)(v:Jc):St:=⟨[(0,.any),(2,I v.1),(10,lv (.dW a0)),(11,I (a0.length:Int)),(12,I v.2)],[],0⟩
def Xp [An A C3](Gb:(List Ad)->Option Int)(L:Nat)(a0:List Ad)(rec:Int->Int->A)(Ah:Int)(Af:Int):A:=
 (lw Af a0
 (bd (Aej L ((gD a0 Af).Op)) λr1=>
 (jb (.cn (!r1.2)
 (.lf true)
 (.bd (Aei L (Ad.cp (gD a0 Af)) r1.1) λr3=>
 (.lf (!r3)))) (λb2=>
 (cn b2
 (lf (0,1,Af))
 (bd (Zn L (Ad.cp (gD a0 Af)) r1.1) λr4=>
 (cn (r4 != 0)
 (lf (0,r4,Af))
 (bd (Gb ((gD a0 Af).bD)) λr5=>
 (cn (r5 != 0)
 (lf (0,r5,Af))
 (bd (Gb ((gD a0 Af).bL)) λr6=>
 (cn (r6 != 0)
 (lf (0,r6,Af))
 (rec Ah (Bu (Af+1)))))))))))))
 (lf (1,Ah,Af)))
def Kr(Gb:(List Ad)->Option Int)(L:Nat)(a0:List Ad):Nat->Int->Int->Option C3
 |0,_,_=>none
 |n+1,Ah,Af=>Xp Gb L a0 (Kr Gb L a0 n) Ah Af
theorem Buh(Gb:(List Ad)->Option Int)(L:Nat)(K:Ef)(a0:List Ad):LP (EV (Byq Gb L) L 9 B6a.u.l.u.l.l) [0,2,10,11,12] [] (Bv5 a0) [.ret,.exit 0] (λn v=>Kr Gb L a0 n v.1 v.2) K:=lE (λ_=>rfl) λn v ih=>eE (Xp Gb L a0 (λAh Af=>re (ih (Ah,Af))) v.1 v.2)
def Ya [An A Int](Gb:(List Ad)->Option Int)(L:Nat)(o7:Nat×Jc):A:=
 (sl o7.1 [(lf o7.2.1),
 (lf 0)])
def Au7 [An A Int](Gb:(List Ad)->Option Int)(L:Nat)(a0:List Ad):A:=(bd (Kr Gb L a0 L 0 0) λo7=>Ya Gb L o7)
def Anj(Gb:(List Ad)->Option Int)(L:Nat)(a0:List Ad):Option Int:=Au7 Gb L a0
theorem Cax(Gb:(List Ad)->Option Int)(Bmz:Bhu Gb)(L:Nat):Bhu (Anj Gb L):=λa0 r h=>hF Tryz.func187 (Ccg Gb Bmz L) L (λkk=>eE ((hq (Buh Gb L (KA (Byq Gb L) L 9 B6a (rl [2,1,2,1]) (KE Tryz.f187 kk)) a0 L (0,0)) λo7=>Ya Gb L o7))) h
def Lg:Nat->(List Ad)->Option Int
 |0,_=>none
 |L+1,a0=>Anj (Lg L) L a0
theorem Bsk(L:Nat):Bhu (Lg L):=by
 induction L with
 |zero=>exact λ_ _ h=>(by cases h)
 |succ L ih=>
  have i187:=ih;exact Cax (Lg L) i187 L
def B92(L:Nat):F3:=E1 I 187 Y7 (Lg L) (Bsk L)
def An2 [An A Int](a0:List Ad):A:=
 (bd (Lc L a0) λr1=>
 (cn (decide (r1>200))
 (lf 6)
 (bd (Lf L a0) λr2=>
 (cn (decide (r2>12))
 (lf 11)
 (bd (Lg L a0) λr3=>
 (lf r3))))))
def Agi(a0:List Ad):Option Int:=An2 L a0
def B9l:F3:=E1 I 151 Y7 (Agi L) λa0 r h=>hF Tryz.func151 (oS [B90 L,B91 L,B92 L]) L (λkk=>eE (An2 L a0)) h
def Bly:=CC Tryz.f112
def Bfd:Bc:=oL [X35 L,By3 L,B9k L,B9l L]
def Bp1(p1_0:Yb)(p1_1:Al)(p1_2:A9)(p1_3:List Yb)(p1_4:List Bool)(k:Dj):Df->Prop:=λo=>k (I o.1) [(1,(Cp p1_1)),(5,(Uw p1_2)),(21,[.aO false false (.t9 o.2.1) (.t4 o.2.2)])]
def Ahy [An A Df](p1_0:Yb)(p1_1:Al)(p1_2:A9)(p1_3:List Yb)(p1_4:List Bool):A:=
 (bd (Cu L p1_0) λr3=>
 (cn (r3 != 0)
 (lf (r3,p1_3,p1_4))
 (fq (p1_3.findIdx? λb=>p1_0 == b) (λi4=>
 (cn (p1_4.getD i4 default)
 (lf (4,p1_3,p1_4))
 (fq (p1_3.findIdx? λb=>p1_0 == b) (λi5=>
 (lf (0,p1_3,(p1_4.set i5 true))))
 (lf (0,(p1_3++ [p1_0]),(p1_4++ [true]))))))
 (fq (p1_3.findIdx? λb=>p1_0 == b) (λi6=>
 (lf (0,p1_3,(p1_4.set i6 true))))
 (lf (0,(p1_3++ [p1_0]),(p1_4++ [true])))))))
def Iw(p1_0:Yb)(p1_1:Al)(p1_2:A9)(p1_3:List Yb)(p1_4:List Bool):Option Df:=Ahy L p1_0 p1_1 p1_2 p1_3 p1_4
theorem Bsv(p1_0:Yb)(p1_1:Al)(p1_2:A9)(p1_3:List Yb)(p1_4:List Bool):YO (Bfd L) L 9 59 [.mp 21,S p1_0] [(1,(Cp p1_1)),(5,(Uw p1_2)),(21,[.aO false false (.t9 p1_3) (.t4 p1_4)])] k=ob (Iw L p1_0 p1_1 p1_2 p1_3 p1_4) (Bp1 p1_0 p1_1 p1_2 p1_3 p1_4 k):=(C4 _ _ _ jn4 _ _ _ _ _ _ _).trans (eE (Ahy L p1_0 p1_1 p1_2 p1_3 p1_4))
def Bvf(r2:List A9)(a0:Al)(v:Tu4):St:=⟨[(0,.any),zq7,(2,I v.1),(3,.mp 21),(27,lv (.dQ r2)),(28,I (r2.length:Int)),(29,I v.2.1)],[(1,(Cp a0)),(21,[.aO false false (.t9 v.2.2.1) (.t4 v.2.2.2)])],0⟩
def Sc [An A Po](Af:Int)(r2:List A9)(Ah:Int)(rec:Int->Int->List Yb->List Bool->A)(o7:Df):A:=
 (cn (o7.1 != 0)
 (lf (0,o7.1,Af,o7.2.1,o7.2.2))
 (bd (Jf L ((gD r2 Af).bM)) λr8=>
 (cn (!r8)
 (lf (0,1,Af,o7.2.1,o7.2.2))
 (rec Ah (Bu (Af+1)) o7.2.1 o7.2.2))))
def Sg [An A Po](L:Nat)(r2:List A9)(a0:Al)(rec:Int->Int->List Yb->List Bool->A)(Ah:Int)(Af:Int)(Bq:List Yb)(Ee:List Bool)(nx1:Int->(List Yb)->(List Bool)->Int->A):A:=
 (lw Af r2
 (nx1 Af Bq Ee Ah)
 (lf (1,Ah,Af,Bq,Ee)))
def Yx [An A Po](r2:List A9)(a0:Al)(rec:Int->Int->List Yb->List Bool->A)(Ah:Int)(Af:Int)(Bq:List Yb)(Ee:List Bool):A:=Sg L r2 a0 rec Ah Af Bq Ee (λAf Bq Ee Ah=>bd (Iw L ((gD r2 Af).aF) a0 (gD r2 Af) Bq Ee) λo7=>Sc L Af r2 Ah rec o7)
def Hp(L:Nat)(r2:List A9)(a0:Al):Nat->Int->Int->List Yb->List Bool->Option Po
 |0,_,_,_,_=>none
 |n+1,Ah,Af,Bq,Ee=>Yx L r2 a0 (Hp L r2 a0 n) Ah Af Bq Ee
theorem Bts(r2:List A9)(a0:Al):LP (EV (Bfd L) L 9 Bly.w.u.l.u.l.l) [0,1,2,3,27,28,29] [1,21] (Bvf r2 a0) [.ret,.exit 0] (λn v=>Hp L r2 a0 n v.1 v.2.1 v.2.2.1 v.2.2.2) K:=lE (λ_=>rfl) λn v ih=>eE (Sg L r2 a0 (λAh Af Bq Ee=>re (ih (Ah,Af,Bq,Ee))) v.1 v.2.1 v.2.2.1 v.2.2.2 (λAf Bq Ee Ah=>hq (Bsv L (Md (Bfd L) L 9 1 4 Bly.w.u.l.u.l.l.w.l.l.u.l.l ⟨[(35,S (gD r2 Af).aF),(34,.loc 5 0),(33,.mp 21),zq7,(2,I Ah),(3,.mp 21),Bhj,(27,lv (.dQ r2)),(28,I (r2.length:Int)),(29,I Af),(30,B (decide (Af<(r2.length:Int)))),(31,.ref (Uw (gD r2 Af))),(32,.agg (Uw (gD r2 Af)))],[(1,(Cp a0)),(5,(Uw (gD r2 Af))),(21,[.aO false false (.t9 Bq) (.t4 Ee)])],0⟩ (some 36) (kN (KA (Bfd L) L 9 Bly.w.u.l.u.l.l (rl [4,2,2,2]) (Hf (Io (EV (Bfd L) L 9 Bly.w.u.l.u.l.l) [0,1,2,3,27,28,29] [1,21] n) [0,1,2,3,27,28,29] [1,21] K)))) ((gD r2 Af).aF) a0 (gD r2 Af) Bq Ee) λo7=>Sc L Af r2 Ah (λAh Af Bq Ee=>re (ih (Ah,Af,Bq,Ee))) o7))
def Sd [An A Int](a0:Al)(o9:Nat×Tu4):A:=
 (sl o9.1 [(lf o9.2.1),
 (bd (Agi L a0.bD) λr10=>
 (lf r10))])
def Sh [An A Int](a0:Al)(nx2:(List A9)->A):A:=
 (jp (.cn (decide ((a0.aI.length:Int)>6))
 (.lf true)
 (.lf (decide ((Bu ((a0.aI.length:Int)+(a0.bC.length:Int)))>16)))) (λb1=>
 (cn b1
 (lf 6)
 (bd (Il L [a0.aI,a0.bC]) λr2=>
 (nx2 r2)))))
def Ao1 [An A Int](a0:Al):A:=Sh L a0 (λr2=>bd (Hp L r2 a0 L 0 0 [] []) λo9=>Sd L a0 o9)
def Xa(a0:Al):Option Int:=Ao1 L a0
def B81:F3:=E1 I 112 Aq1 (Xa L) λa0 r h=>hF Tryz.func112 (C:=Bfd L) (oS _) L (λkk=>eE (Sh L a0 (λr2=>hq (Bts L (KA (Bfd L) L 9 Bly (rl [6,1,2,1]) (KE Tryz.f112 kk)) r2 a0 L (0,0,[],[])) λo9=>Sd L a0 o9))) h
def B6b:=CC Tryz.f188
def B5w:=CC Tryz.f152
def Bjn(L:Nat):Bc:=oL []
def Bvs(p1_0:List Al)(p1_1:Aa)(p1_2:Yb)(v:Jc):St:=⟨[(0,lv (.t93 p1_0)),(1,.bI 189 0 Ae7),(4,I v.1),(7,I (p1_0.length:Int)),(8,I v.2)],[(2,(Ae p1_1)),(3,[S p1_2])],1004⟩
def R5 [An A C3](L:Nat)(p1_0:List Al)(p1_1:Aa)(p1_2:Yb)(rec:Int->Int->A)(Ag:Int)(Af:Int):A:=
 (lw Af p1_0
 (cn ((gD p1_0 Af).aF.toList == p1_2.toList)
 (lf (0,Af,Af))
 (rec Ag (Bu (Af+1))))
 (lf (1,Ag,Af)))
def Hn(L:Nat)(p1_0:List Al)(p1_1:Aa)(p1_2:Yb):Nat->Int->Int->Option C3
 |0,_,_=>none
 |n+1,Ag,Af=>R5 L p1_0 p1_1 p1_2 (Hn L p1_0 p1_1 p1_2 n) Ag Af
theorem Bt4(p1_0:List Al)(p1_1:Aa)(p1_2:Yb):LP (EV (Bjn L) L 8 B6b.u.l.u.l.l) [0,1,4,7,8] [2,3] (Bvs p1_0 p1_1 p1_2) [.ret,.exit 0] (λn v=>Hn L p1_0 p1_1 p1_2 n v.1 v.2) K:=lE (λ_=>rfl) λn v ih=>eE (R5 L p1_0 p1_1 p1_2 (λAg Af=>re (ih (Ag,Af))) v.1 v.2)
def Bp7(p1_0:List Al)(p1_1:Aa)(p1_2:Yb)(k:Dj):Int->Prop:=λo=>k (I o) [(2,(Ae p1_1)),(3,[S p1_2])]
def Yy [An A Int](L:Nat)(o1:Nat×Jc):A:=
 (sl o1.1 [(lf o1.2.1),
 (lf (-1))])
def Ahx [An A Int](p1_0:List Al)(p1_1:Aa)(p1_2:Yb):A:=(bd (Hn L p1_0 p1_1 p1_2 L 0 0) λo1=>Yy L o1)
def R3(p1_0:List Al)(p1_1:Aa)(p1_2:Yb):Option Int:=Ahx L p1_0 p1_1 p1_2
theorem Bs0(p1_0:List Al)(p1_1:Aa)(p1_2:Yb):YO (Bjn L) L 9 188 [lv (.t93 p1_0),.bI 189 0 Ae7] [(2,(Ae p1_1)),(3,[S p1_2])] k=ob (R3 L p1_0 p1_1 p1_2) (Bp7 p1_0 p1_1 p1_2 k):=(C4 _ _ _ jn4 _ _ _ _ _ _ _).trans (eE ((hq (Bt4 L (KA (Bjn L) L 8 B6b (rl [2,1,2,1]) (KJ Tryz.f188 k)) p1_0 p1_1 p1_2 L (0,0)) λo1=>Yy L o1)))
def Sb [An A Int](L:Nat)(o2:Int):A:=
 (lf o2)
def Ao0 [An A Int](a0:Aa)(a1:Yb):A:=(bd (R3 L a0.aD a0 a1) λo2=>Sb L o2)
def J8(a0:Aa)(a1:Yb):Option Int:=Ao0 L a0 a1
def B4v:F3:=E2 I 152 C7 cS (J8 L) λa0 a1 r h=>hF Tryz.func152 (C:=Bjn L) (oS _) L (λkk=>eE ((hq (Bs0 L (Md (Bjn L) L 9 1 4 B5w.u.l ⟨[(7,.bI 189 0 Ae7),(6,lv (.t93 a0.aD)),(5,.loc 2 10),Sw,Th,(4,I 0)],[(2,(Ae a0)),(3,[S a1])],0⟩ (some 8) (kN (KA (Bjn L) L 9 B5w (rl [2,1]) (KE Tryz.f152 kk)))) a0.aD a0 a1) λo2=>Sb L o2))) h
def B5p:=CC Tryz.f116
def Byd:Bc:=oL [X95 L,By4 L,B4v L]
def Bvg(a0:Aa)(r1:Int)(a1:Bv)(v:Jc):St:=⟨[(0,.any),(1,.any),(2,.any),Th,(4,I v.1),(5,.any),(6,lv (.dQ ((gD a0.aD r1).aI))),(28,lv (.t3 a1.aM)),(29,I (a1.aM.length:Int)),(30,I v.2)],[(2,(Ae a0)),(3,(Ai9 a1))],0⟩
def Vm [An A C3](a0:Aa)(r1:Int)(a1:Bv)(rec:Int->Int->A)(Ah:Int)(Bj:Int):A:=
 (lw Bj a1.aM
 (gi Bj ((gD a0.aD r1).aI)
 (bd (Rw L ((gD ((gD a0.aD r1).aI) Bj).bM) (gD a1.aM Bj)) λr2=>
 (cn (!r2)
 (lf (0,2,Bj))
 (rec Ah (Bu (Bj+1))))))
 (lf (1,Ah,Bj)))
def I6(L:Nat)(a0:Aa)(r1:Int)(a1:Bv):Nat->Int->Int->Option C3
 |0,_,_=>none
 |n+1,Ah,Bj=>Vm L a0 r1 a1 (I6 L a0 r1 a1 n) Ah Bj
theorem Btt(a0:Aa)(r1:Int)(a1:Bv):LP (EV (Byd L) L 9 B5p.x.u.l.u.l.l) [0,1,2,3,4,5,6,28,29,30] [2,3] (Bvg a0 r1 a1) [.ret,.exit 0] (λn v=>I6 L a0 r1 a1 n v.1 v.2) K:=lE (λ_=>rfl) λn v ih=>eE (Vm L a0 r1 a1 (λAh Bj=>re (ih (Ah,Bj))) v.1 v.2)
def V6 [An A Int](a1:Bv)(o3:Nat×Jc):A:=
 (sl o3.1 [(lf o3.2.1),
 (bd (Be L a1.At 0 1000000000) λr4=>
 (jb (.cn (!r4)
 (.lf true)
 (.bd (Be L a1.Every 0 1000000000) λr6=>
 (.lf (!r6)))) (λb5=>
 (jb (.cn b5
 (.lf true)
 (.bd (Be L a1.Until 0 1000000000) λr8=>
 (.lf (!r8)))) (λb7=>
 (jp (.cn b7
 (.lf true)
 (.cn (a1.Every == 0)
 (.lf (a1.Until != 0))
 (.lf false))) (λb9=>
 (cn b9
 (lf 2)
 (lf 0)))))))))])
def Wm [An A Int](a0:Aa)(a1:Bv)(nx1:Int->A):A:=
 (bd (J8 L a0 a1.dI) λr1=>
 (cn (decide (r1<0))
 (lf 5)
 (gi r1 a0.aD
 (cn ((a1.aM.length:Int) != ((gD a0.aD r1).aI.length:Int))
 (lf 8)
 (nx1 r1)))))
def Ast [An A Int](a0:Aa)(a1:Bv):A:=Wm L a0 a1 (λr1=>bd (I6 L a0 r1 a1 L 0 0) λo3=>V6 L a1 o3)
def Sz(a0:Aa)(a1:Bv):Option Int:=Ast L a0 a1
def B82:F3:=E2 I 116 C7 Avi (Sz L) λa0 a1 r h=>hF Tryz.func116 (C:=Byd L) (oS _) L (λkk=>eE (Wm L a0 a1 (λr1=>hq (Btt L (KA (Byd L) L 9 B5p (rl [10,1,2,1]) (KE Tryz.f116 kk)) a0 r1 a1 L (0,0)) λo3=>V6 L a1 o3))) h
def Apn:=CC Tryz.f190
def B6l:=CC Tryz.f213
def Apm:=CC Tryz.f157
def Ri:Bc:=oL [X95 L,B4u L,B4v L]
def Bvt(p1_0:List Ar)(p1_1:Aa)(p1_2:Bd)(v:Jc):St:=⟨[(0,lv (.t89 p1_0)),(1,zq5),(4,I v.1),(7,I (p1_0.length:Int)),(8,I v.2)],[(2,(Ae p1_1)),(3,(Ct p1_2))],1004⟩
def Xm [An A C3](L:Nat)(p1_0:List Ar)(p1_1:Aa)(p1_2:Bd)(rec:Int->Int->A)(Ag:Int)(Af:Int):A:=
 (lw Af p1_0
 (cn ((gD p1_0 Af).aF.toList == p1_2.aF.toList)
 (lf (0,Af,Af))
 (rec Ag (Bu (Af+1))))
 (lf (1,Ag,Af)))
def Kn(L:Nat)(p1_0:List Ar)(p1_1:Aa)(p1_2:Bd):Nat->Int->Int->Option C3
 |0,_,_=>none
 |n+1,Ag,Af=>Xm L p1_0 p1_1 p1_2 (Kn L p1_0 p1_1 p1_2 n) Ag Af
theorem Bt5(p1_0:List Ar)(p1_1:Aa)(p1_2:Bd):LP (EV (Ri L) L 7 B6l.u.l.u.l.l) [0,1,4,7,8] [2,3] (Bvt p1_0 p1_1 p1_2) [.ret,.exit 0] (λn v=>Kn L p1_0 p1_1 p1_2 n v.1 v.2) K:=lE (λ_=>rfl) λn v ih=>eE (Xm L p1_0 p1_1 p1_2 (λAg Af=>re (ih (Ag,Af))) v.1 v.2)
def Bp8(p1_0:List Ar)(p1_1:Aa)(p1_2:Bd)(k:Dj):Int->Prop:=λo=>k (I o) [(2,(Ae p1_1)),(3,(Ct p1_2))]
def Afz [An A Int](L:Nat)(o4:Nat×Jc):A:=
 (sl o4.1 [(lf o4.2.1),
 (lf (-1))])
def Apa [An A Int](p1_0:List Ar)(p1_1:Aa)(p1_2:Bd):A:=(bd (Kn L p1_0 p1_1 p1_2 L 0 0) λo4=>Afz L o4)
def D9(p1_0:List Ar)(p1_1:Aa)(p1_2:Bd):Option Int:=Apa L p1_0 p1_1 p1_2
theorem Ago(p1_0:List Ar)(p1_1:Aa)(p1_2:Bd):YO (Ri L) L 8 213 [lv (.t89 p1_0),zq5] [(2,(Ae p1_1)),(3,(Ct p1_2))] k=ob (D9 L p1_0 p1_1 p1_2) (Bp8 p1_0 p1_1 p1_2 k):=(C4 _ _ _ jn4 _ _ _ _ _ _ _).trans (eE ((hq (Bt5 L (KA (Ri L) L 7 B6l (rl [2,1,2,1]) (KJ Tryz.f213 k)) p1_0 p1_1 p1_2 L (0,0)) λo4=>Afz L o4)))
def Xy [An A Int](a1:Bd)(o38:Int):A:=
 (cn (!(decide (o38>=0)))
 (lf 5)
 (bd (Be L a1.cO (-1000) 1000) λr39=>
 (jp (.cn (!r39)
 (.lf true)
 (.lf (a1.cO == 0))) (λb40=>
 (cn b40
 (lf 2)
 (lf 0))))))
def Xz [An A Int](a1:Bd)(o41:Int):A:=
 (cn (!(decide (o41>=0)))
 (lf 5)
 (bd (Be L a1.cO (-1000) 1000) λr42=>
 (jp (.cn (!r42)
 (.lf true)
 (.lf (a1.cO == 0))) (λb43=>
 (cn b43
 (lf 2)
 (lf 0))))))
def X0 [An A Int](a1:Bd)(o44:Int):A:=
 (cn (!(decide (o44>=0)))
 (lf 5)
 (bd (Be L a1.cO (-1000) 1000) λr45=>
 (jp (.cn (!r45)
 (.lf true)
 (.lf (a1.cO == 0))) (λb46=>
 (cn b46
 (lf 2)
 (lf 0))))))
def X1 [An A Int](a1:Bd)(o47:Int):A:=
 (cn (!(decide (o47>=0)))
 (lf 5)
 (bd (Be L a1.cO (-1000) 1000) λr48=>
 (jp (.cn (!r48)
 (.lf true)
 (.lf (a1.cO == 0))) (λb49=>
 (cn b49
 (lf 2)
 (lf 0))))))
def X2 [An A Int](a1:Bd)(o50:Int):A:=
 (cn (!(decide (o50>=0)))
 (lf 5)
 (bd (Be L a1.cO (-1000) 1000) λr51=>
 (jp (.cn (!r51)
 (.lf true)
 (.lf (a1.cO == 0))) (λb52=>
 (cn b52
 (lf 2)
 (lf 0))))))
def X3 [An A Int](a1:Bd)(o53:Int):A:=
 (cn (!(decide (o53>=0)))
 (lf 5)
 (bd (Be L a1.cO (-1000) 1000) λr54=>
 (jp (.cn (!r54)
 (.lf true)
 (.lf (a1.cO == 0))) (λb55=>
 (cn b55
 (lf 2)
 (lf 0))))))
def X4 [An A Int](a1:Bd)(o56:Int):A:=
 (cn (!(decide (o56>=0)))
 (lf 5)
 (bd (Be L a1.cO (-1000) 1000) λr57=>
 (jp (.cn (!r57)
 (.lf true)
 (.lf (a1.cO == 0))) (λb58=>
 (cn b58
 (lf 2)
 (lf 0))))))
def V7 [An A Int](a1:Bd)(o59:Int):A:=
 (cn (!(decide (o59>=0)))
 (lf 5)
 (bd (Be L a1.cO (-1000) 1000) λr60=>
 (jp (.cn (!r60)
 (.lf true)
 (.lf (a1.cO == 0))) (λb61=>
 (cn b61
 (lf 2)
 (lf 0))))))
def V8 [An A Int](a1:Bd)(o62:Int):A:=
 (cn (!(decide (o62>=0)))
 (lf 5)
 (bd (Be L a1.cO (-1000) 1000) λr63=>
 (jp (.cn (!r63)
 (.lf true)
 (.lf (a1.cO == 0))) (λb64=>
 (cn b64
 (lf 2)
 (lf 0))))))
def Yg [An A Int](a0:Aa)(a1:Bd)(nx3:A)(nx4:A)(nx5:A)(nx6:A)(nx7:A)(nx8:A)(nx9:A)(nx10:A)(nx11:A):A:=
 (cn (a1.aQ.toList == (⟨#[99,114,101,97,116,101,100]⟩:Yb).toList)
 (cn (a1.aQ.toList == (⟨#[99,114,101,97,116,101,100]⟩:Yb).toList)
 (bd (J8 L a0 a1.aF) λr1=>
 (cn (!(decide (r1>=0)))
 (lf 5)
 (bd (Be L a1.cO (-1000) 1000) λr2=>
 (jp (.cn (!r2)
 (.lf true)
 (.lf (a1.cO == 0))) (λb3=>
 (cn b3
 (lf 2)
 (lf 0)))))))
 (cn (a1.aQ.toList == (⟨#[115,116,111,114,101,100]⟩:Yb).toList)
 (cn (a1.aQ.toList == (⟨#[115,116,111,114,101,100]⟩:Yb).toList)
 nx3
 (cn (a1.aQ.toList == (⟨#[99,111,117,110,116,101,100]⟩:Yb).toList)
 (bd (Bx L a0.bF a1.aF) λr5=>
 (cn (!r5)
 (lf 5)
 (bd (Be L a1.cO (-1000) 1000) λr6=>
 (jp (.cn (!r6)
 (.lf true)
 (.lf (a1.cO == 0))) (λb7=>
 (cn b7
 (lf 2)
 (lf 0)))))))
 (lf 1)))
 (cn (a1.aQ.toList == (⟨#[101,110,116,101,114,101,100]⟩:Yb).toList)
 (cn (a1.aQ.toList == (⟨#[101,110,116,101,114,101,100]⟩:Yb).toList)
 nx4
 (cn (a1.aQ.toList == (⟨#[99,111,117,110,116,101,100]⟩:Yb).toList)
 (bd (Bx L a0.bF a1.aF) λr8=>
 (cn (!r8)
 (lf 5)
 (bd (Be L a1.cO (-1000) 1000) λr9=>
 (jp (.cn (!r9)
 (.lf true)
 (.lf (a1.cO == 0))) (λb10=>
 (cn b10
 (lf 2)
 (lf 0)))))))
 (lf 1)))
 (cn (a1.aQ.toList == (⟨#[108,101,102,116]⟩:Yb).toList)
 nx5
 (cn (a1.aQ.toList == (⟨#[99,111,117,110,116,101,100]⟩:Yb).toList)
 (bd (Bx L a0.bF a1.aF) λr11=>
 (cn (!r11)
 (lf 5)
 (bd (Be L a1.cO (-1000) 1000) λr12=>
 (jp (.cn (!r12)
 (.lf true)
 (.lf (a1.cO == 0))) (λb13=>
 (cn b13
 (lf 2)
 (lf 0)))))))
 (lf 1))))))
 (cn (a1.aQ.toList == (⟨#[101,110,100,101,100]⟩:Yb).toList)
 (cn (a1.aQ.toList == (⟨#[101,110,100,101,100]⟩:Yb).toList)
 (bd (J8 L a0 a1.aF) λr14=>
 (cn (!(decide (r14>=0)))
 (lf 5)
 (bd (Be L a1.cO (-1000) 1000) λr15=>
 (jp (.cn (!r15)
 (.lf true)
 (.lf (a1.cO == 0))) (λb16=>
 (cn b16
 (lf 2)
 (lf 0)))))))
 (cn (a1.aQ.toList == (⟨#[115,116,111,114,101,100]⟩:Yb).toList)
 (cn (a1.aQ.toList == (⟨#[115,116,111,114,101,100]⟩:Yb).toList)
 nx6
 (cn (a1.aQ.toList == (⟨#[99,111,117,110,116,101,100]⟩:Yb).toList)
 (bd (Bx L a0.bF a1.aF) λr17=>
 (cn (!r17)
 (lf 5)
 (bd (Be L a1.cO (-1000) 1000) λr18=>
 (jp (.cn (!r18)
 (.lf true)
 (.lf (a1.cO == 0))) (λb19=>
 (cn b19
 (lf 2)
 (lf 0)))))))
 (lf 1)))
 (cn (a1.aQ.toList == (⟨#[101,110,116,101,114,101,100]⟩:Yb).toList)
 (cn (a1.aQ.toList == (⟨#[101,110,116,101,114,101,100]⟩:Yb).toList)
 nx7
 (cn (a1.aQ.toList == (⟨#[99,111,117,110,116,101,100]⟩:Yb).toList)
 (bd (Bx L a0.bF a1.aF) λr20=>
 (cn (!r20)
 (lf 5)
 (bd (Be L a1.cO (-1000) 1000) λr21=>
 (jp (.cn (!r21)
 (.lf true)
 (.lf (a1.cO == 0))) (λb22=>
 (cn b22
 (lf 2)
 (lf 0)))))))
 (lf 1)))
 (cn (a1.aQ.toList == (⟨#[108,101,102,116]⟩:Yb).toList)
 nx8
 (cn (a1.aQ.toList == (⟨#[99,111,117,110,116,101,100]⟩:Yb).toList)
 (bd (Bx L a0.bF a1.aF) λr23=>
 (cn (!r23)
 (lf 5)
 (bd (Be L a1.cO (-1000) 1000) λr24=>
 (jp (.cn (!r24)
 (.lf true)
 (.lf (a1.cO == 0))) (λb25=>
 (cn b25
 (lf 2)
 (lf 0)))))))
 (lf 1))))))
 (cn (a1.aQ.toList == (⟨#[105,110,115,105,100,101]⟩:Yb).toList)
 (bd (J8 L a0 a1.aF) λr26=>
 (cn (!(decide (r26>=0)))
 (lf 5)
 (bd (Be L a1.cO (-1000) 1000) λr27=>
 (jp (.cn (!r27)
 (.lf true)
 (.lf (a1.cO == 0))) (λb28=>
 (cn b28
 (lf 2)
 (lf 0)))))))
 (cn (a1.aQ.toList == (⟨#[115,116,111,114,101,100]⟩:Yb).toList)
 (cn (a1.aQ.toList == (⟨#[115,116,111,114,101,100]⟩:Yb).toList)
 nx9
 (cn (a1.aQ.toList == (⟨#[99,111,117,110,116,101,100]⟩:Yb).toList)
 (bd (Bx L a0.bF a1.aF) λr29=>
 (cn (!r29)
 (lf 5)
 (bd (Be L a1.cO (-1000) 1000) λr30=>
 (jp (.cn (!r30)
 (.lf true)
 (.lf (a1.cO == 0))) (λb31=>
 (cn b31
 (lf 2)
 (lf 0)))))))
 (lf 1)))
 (cn (a1.aQ.toList == (⟨#[101,110,116,101,114,101,100]⟩:Yb).toList)
 (cn (a1.aQ.toList == (⟨#[101,110,116,101,114,101,100]⟩:Yb).toList)
 nx10
 (cn (a1.aQ.toList == (⟨#[99,111,117,110,116,101,100]⟩:Yb).toList)
 (bd (Bx L a0.bF a1.aF) λr32=>
 (cn (!r32)
 (lf 5)
 (bd (Be L a1.cO (-1000) 1000) λr33=>
 (jp (.cn (!r33)
 (.lf true)
 (.lf (a1.cO == 0))) (λb34=>
 (cn b34
 (lf 2)
 (lf 0)))))))
 (lf 1)))
 (cn (a1.aQ.toList == (⟨#[108,101,102,116]⟩:Yb).toList)
 nx11
 (cn (a1.aQ.toList == (⟨#[99,111,117,110,116,101,100]⟩:Yb).toList)
 (bd (Bx L a0.bF a1.aF) λr35=>
 (cn (!r35)
 (lf 5)
 (bd (Be L a1.cO (-1000) 1000) λr36=>
 (jp (.cn (!r36)
 (.lf true)
 (.lf (a1.cO == 0))) (λb37=>
 (cn b37
 (lf 2)
 (lf 0)))))))
 (lf 1))))))))
def Au4 [An A Int](a0:Aa)(a1:Bd):A:=Yg L a0 a1 (bd (D9 L a0.aL a0 a1) λo38=>Xy L a1 o38) (bd (D9 L a0.aL a0 a1) λo41=>Xz L a1 o41) (bd (D9 L a0.aL a0 a1) λo44=>X0 L a1 o44) (bd (D9 L a0.aL a0 a1) λo47=>X1 L a1 o47) (bd (D9 L a0.aL a0 a1) λo50=>X2 L a1 o50) (bd (D9 L a0.aL a0 a1) λo53=>X3 L a1 o53) (bd (D9 L a0.aL a0 a1) λo56=>X4 L a1 o56) (bd (D9 L a0.aL a0 a1) λo59=>V7 L a1 o59) (bd (D9 L a0.aL a0 a1) λo62=>V8 L a1 o62)
def Vb(a0:Aa)(a1:Bd):Option Int:=Au4 L a0 a1
def B9m:F3:=E2 I 157 C7 Az3 (Vb L) λa0 a1 r h=>hF Tryz.func157 (C:=Ri L) (oS _) L (λkk=>eE (Yg L a0 a1 (hq (Ago L (Md (Ri L) L 8 2 3 Apn.u.l ⟨[(6,zq5),(5,lv (.t89 a0.aL)),(0,lv (.t89 a0.aL)),(1,zq5),Ais],[(2,(Ae a0)),(3,(Ct a1))],1004⟩ (some 7) (kN (KA (Ri L) L 8 Apn (rl [2,1]) (KJ Tryz.f190 (Md (Ri L) L 9 1 4 Apm.w.l.u.l.w.r.l ⟨[(23,zq5),(22,lv (.t89 a0.aL)),Bbs,Sw,Th,(4,I 0),Bbv,(7,S a1.aQ),(17,B (a1.aQ.toList == (⟨#[115,116,111,114,101,100]⟩:Yb).toList))],[(2,(Ae a0)),(3,(Ct a1))],0⟩ (some 24) (kN (KA (Ri L) L 9 Apm (rl [4,1,2,1,5,1]) (KE Tryz.f157 kk)))))))) a0.aL a0 a1) λo38=>Xy L a1 o38) (hq (Ago L (Md (Ri L) L 8 2 3 Apn.u.l ⟨[(6,zq5),(5,lv (.t89 a0.aL)),(0,lv (.t89 a0.aL)),(1,zq5),Ais],[(2,(Ae a0)),(3,(Ct a1))],1004⟩ (some 7) (kN (KA (Ri L) L 8 Apn (rl [2,1]) (KJ Tryz.f190 (Md (Ri L) L 9 1 4 Apm.w.l.u.l.w.r.l ⟨[(23,zq5),(22,lv (.t89 a0.aL)),Bbs,Sw,Th,(4,I 0),Bbv,(7,S a1.aQ),(17,B (a1.aQ.toList == (⟨#[101,110,116,101,114,101,100]⟩:Yb).toList))],[(2,(Ae a0)),(3,(Ct a1))],0⟩ (some 24) (kN (KA (Ri L) L 9 Apm (rl [4,1,2,1,5,1]) (KE Tryz.f157 kk)))))))) a0.aL a0 a1) λo41=>Xz L a1 o41) (hq (Ago L (Md (Ri L) L 8 2 3 Apn.u.l ⟨[(6,zq5),(5,lv (.t89 a0.aL)),(0,lv (.t89 a0.aL)),(1,zq5),Ais],[(2,(Ae a0)),(3,(Ct a1))],1004⟩ (some 7) (kN (KA (Ri L) L 8 Apn (rl [2,1]) (KJ Tryz.f190 (Md (Ri L) L 9 1 4 Apm.w.l.u.l.w.r.l ⟨[(23,zq5),(22,lv (.t89 a0.aL)),Bbs,Sw,Th,(4,I 0),Bbv,(7,S a1.aQ),(17,B (a1.aQ.toList == (⟨#[108,101,102,116]⟩:Yb).toList))],[(2,(Ae a0)),(3,(Ct a1))],0⟩ (some 24) (kN (KA (Ri L) L 9 Apm (rl [4,1,2,1,5,1]) (KE Tryz.f157 kk)))))))) a0.aL a0 a1) λo44=>X0 L a1 o44) (hq (Ago L (Md (Ri L) L 8 2 3 Apn.u.l ⟨[(6,zq5),(5,lv (.t89 a0.aL)),(0,lv (.t89 a0.aL)),(1,zq5),Ais],[(2,(Ae a0)),(3,(Ct a1))],1004⟩ (some 7) (kN (KA (Ri L) L 8 Apn (rl [2,1]) (KJ Tryz.f190 (Md (Ri L) L 9 1 4 Apm.w.l.u.l.w.r.l ⟨[(23,zq5),(22,lv (.t89 a0.aL)),Bbs,Sw,Th,(4,I 0),Bbv,(7,S a1.aQ),(17,B (a1.aQ.toList == (⟨#[115,116,111,114,101,100]⟩:Yb).toList))],[(2,(Ae a0)),(3,(Ct a1))],0⟩ (some 24) (kN (KA (Ri L) L 9 Apm (rl [4,1,2,1,5,1]) (KE Tryz.f157 kk)))))))) a0.aL a0 a1) λo47=>X1 L a1 o47) (hq (Ago L (Md (Ri L) L 8 2 3 Apn.u.l ⟨[(6,zq5),(5,lv (.t89 a0.aL)),(0,lv (.t89 a0.aL)),(1,zq5),Ais],[(2,(Ae a0)),(3,(Ct a1))],1004⟩ (some 7) (kN (KA (Ri L) L 8 Apn (rl [2,1]) (KJ Tryz.f190 (Md (Ri L) L 9 1 4 Apm.w.l.u.l.w.r.l ⟨[(23,zq5),(22,lv (.t89 a0.aL)),Bbs,Sw,Th,(4,I 0),Bbv,(7,S a1.aQ),(17,B (a1.aQ.toList == (⟨#[101,110,116,101,114,101,100]⟩:Yb).toList))],[(2,(Ae a0)),(3,(Ct a1))],0⟩ (some 24) (kN (KA (Ri L) L 9 Apm (rl [4,1,2,1,5,1]) (KE Tryz.f157 kk)))))))) a0.aL a0 a1) λo50=>X2 L a1 o50) (hq (Ago L (Md (Ri L) L 8 2 3 Apn.u.l ⟨[(6,zq5),(5,lv (.t89 a0.aL)),(0,lv (.t89 a0.aL)),(1,zq5),Ais],[(2,(Ae a0)),(3,(Ct a1))],1004⟩ (some 7) (kN (KA (Ri L) L 8 Apn (rl [2,1]) (KJ Tryz.f190 (Md (Ri L) L 9 1 4 Apm.w.l.u.l.w.r.l ⟨[(23,zq5),(22,lv (.t89 a0.aL)),Bbs,Sw,Th,(4,I 0),Bbv,(7,S a1.aQ),(17,B (a1.aQ.toList == (⟨#[108,101,102,116]⟩:Yb).toList))],[(2,(Ae a0)),(3,(Ct a1))],0⟩ (some 24) (kN (KA (Ri L) L 9 Apm (rl [4,1,2,1,5,1]) (KE Tryz.f157 kk)))))))) a0.aL a0 a1) λo53=>X3 L a1 o53) (hq (Ago L (Md (Ri L) L 8 2 3 Apn.u.l ⟨[(6,zq5),(5,lv (.t89 a0.aL)),(0,lv (.t89 a0.aL)),(1,zq5),Ais],[(2,(Ae a0)),(3,(Ct a1))],1004⟩ (some 7) (kN (KA (Ri L) L 8 Apn (rl [2,1]) (KJ Tryz.f190 (Md (Ri L) L 9 1 4 Apm.w.l.u.l.w.r.l ⟨[(23,zq5),(22,lv (.t89 a0.aL)),Bbs,Sw,Th,(4,I 0),Bbv,(7,S a1.aQ),(17,B (a1.aQ.toList == (⟨#[115,116,111,114,101,100]⟩:Yb).toList))],[(2,(Ae a0)),(3,(Ct a1))],0⟩ (some 24) (kN (KA (Ri L) L 9 Apm (rl [4,1,2,1,5,1]) (KE Tryz.f157 kk)))))))) a0.aL a0 a1) λo56=>X4 L a1 o56) (hq (Ago L (Md (Ri L) L 8 2 3 Apn.u.l ⟨[(6,zq5),(5,lv (.t89 a0.aL)),(0,lv (.t89 a0.aL)),(1,zq5),Ais],[(2,(Ae a0)),(3,(Ct a1))],1004⟩ (some 7) (kN (KA (Ri L) L 8 Apn (rl [2,1]) (KJ Tryz.f190 (Md (Ri L) L 9 1 4 Apm.w.l.u.l.w.r.l ⟨[(23,zq5),(22,lv (.t89 a0.aL)),Bbs,Sw,Th,(4,I 0),Bbv,(7,S a1.aQ),(17,B (a1.aQ.toList == (⟨#[101,110,116,101,114,101,100]⟩:Yb).toList))],[(2,(Ae a0)),(3,(Ct a1))],0⟩ (some 24) (kN (KA (Ri L) L 9 Apm (rl [4,1,2,1,5,1]) (KE Tryz.f157 kk)))))))) a0.aL a0 a1) λo59=>V7 L a1 o59) (hq (Ago L (Md (Ri L) L 8 2 3 Apn.u.l ⟨[(6,zq5),(5,lv (.t89 a0.aL)),(0,lv (.t89 a0.aL)),(1,zq5),Ais],[(2,(Ae a0)),(3,(Ct a1))],1004⟩ (some 7) (kN (KA (Ri L) L 8 Apn (rl [2,1]) (KJ Tryz.f190 (Md (Ri L) L 9 1 4 Apm.w.l.u.l.w.r.l ⟨[(23,zq5),(22,lv (.t89 a0.aL)),Bbs,Sw,Th,(4,I 0),Bbv,(7,S a1.aQ),(17,B (a1.aQ.toList == (⟨#[108,101,102,116]⟩:Yb).toList))],[(2,(Ae a0)),(3,(Ct a1))],0⟩ (some 24) (kN (KA (Ri L) L 9 Apm (rl [4,1,2,1,5,1]) (KE Tryz.f157 kk)))))))) a0.aL a0 a1) λo62=>V8 L a1 o62))) h
end
end Go.Proofs.YthjhkpgonleelaaGreatDoor.Ev
