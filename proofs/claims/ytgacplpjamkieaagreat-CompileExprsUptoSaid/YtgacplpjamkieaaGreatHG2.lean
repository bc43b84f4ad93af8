import Derived.Test.YtgacplpjamkieaaGreatHG1
set_option maxRecDepth 100000
set_option maxHeartbeats 4000000
set_option linter.unusedVariables false
set_option linter.unusedSimpArgs false
set_option linter.unnecessarySimpa false
namespace Go.Proofs.YtgacplpjamkieaaGreat.Ev
open Go An
noncomputable section
variable {A:Type} (L n:Nat) (kk:Hf) (K:De) (k:C3)
def A9l(F:Aa->Option Int):Prop:=∀y0 r,F y0=some r->Ho Tryz.prog 22 [Ay.en y0] I r
def c22:=CC Tryz.f22
def O22(H6:Aa->Option Int)(L:Nat):Ba:=(orc 22 (A1 I Ay H6) (oL []))
theorem s22(H6:Aa->Option Int)(Bhu:A9l H6)(L:Nat):B8 Tryz.prog (O22 H6 L):=(B5 (a1 _ Bhu) (oS []))
def Bj4(a0:Aa)(v:Ef):St:=⟨[(0,.any),(1,.any),(2,I 0),(3,I v.1),(7,lv (.t53 a0.aQ)),(8,I (a0.aQ.length:Int)),(9,I v.2)],[(1,(Bm a0))],0⟩
def Pu [An A C0](H6:Aa->Option Int)(L:Nat)(a0:Aa)(rec:Int->Int->A)(Aq:Int)(Bj:Int):A:=
 (lw Bj a0.aQ
 (bd (H6 (Aa.cp (gD a0.aQ Bj))) λr1=>
 (rec (if r1>Aq then r1 else Aq) (Cp (Bj+1))))
 (lf (0,Aq,Bj)))
def Ig(H6:Aa->Option Int)(L:Nat)(a0:Aa):Nat->Int->Int->Option C0
 |0,_,_=>none
 |n+1,Aq,Bj=>Pu H6 L a0 (Ig H6 L a0 n) Aq Bj
theorem Bio(H6:Aa->Option Int)(L:Nat)(K:De)(a0:Aa):LP (EV (O22 H6 L) L 9 c22.w.l.u.l.l) [0,1,2,3,7,8,9] [1] (Bj4 a0) [.exit 0] (λn v=>Ig H6 L a0 n v.1 v.2) K:=lE (λ_=>rfl) λn v ih=>eE (Pu H6 L a0 (λAq Bj=>re (ih (Aq,Bj))) v.1 v.2)
def Pz [An A Int](H6:Aa->Option Int)(L:Nat)(o2:Nat×Ef):A:=
 (sl o2.1 [(lf (Cp (o2.2.1+1)))])
def Ajp [An A Int](H6:Aa->Option Int)(L:Nat)(a0:Aa):A:=(bd (Ig H6 L a0 L 0 0) λo2=>Pz H6 L o2)
def Ack(H6:Aa->Option Int)(L:Nat)(a0:Aa):Option Int:=Ajp H6 L a0
theorem b22(H6:Aa->Option Int)(Bhu:A9l H6)(L:Nat):A9l (Ack H6 L):=λa0 r h=>hF Tryz.func22 (s22 H6 Bhu L) L (λkk=>eE ((hq (Bio H6 L (KA (O22 H6 L) L 9 c22 (rl [4,1,2,1]) (KE Tryz.f22 kk)) a0 L (0,0)) λo2=>Pz H6 L o2))) h
def F2:Nat->Aa->Option Int
 |0,_=>none
 |L+1,a0=>Ack (F2 L) L a0
theorem Bhk(L:Nat):A9l (F2 L):=by
 induction L with
 |zero=>exact λ_ _ h=>(by cases h)
 |succ L ih=>
  have i22:=ih;exact b22 (F2 L) i22 L
def X22(L:Nat):Fs:=E1 I 22 Ay (F2 L) (Bhk L)
def Afs [An A Int](L:Nat)(a0:Int):A:=
 (jp (.cn (a0 == 1)
 (.lf true)
 (.lf (a0 == 2))) (λb1=>
 (jp (.cn b1
 (.lf true)
 (.lf (a0 == 3))) (λb2=>
 (jp (.cn b2
 (.lf true)
 (.lf (a0 == 4))) (λb3=>
 (cn b3
 (lf 0)
 (jp (.cn (decide (a0>=5))
 (.lf (decide (a0<=8)))
 (.lf false)) (λb4=>
 (cn b4
 (lf 1)
 (jp (.cn (decide (a0>=9))
 (.lf (decide (a0<=21)))
 (.lf false)) (λb5=>
 (cn b5
 (lf 2)
 (jp (.cn (decide (a0>=22))
 (.lf (decide (a0<=26)))
 (.lf false)) (λb6=>
 (cn b6
 (lf 0)
 (lf (-1))))))))))))))))))
def Qf(a0:Int):Option Int:=Afs L a0
def Bmh:Fs:=E1 I 225 (cI .i64) (Qf L) λa0 r h=>hF Tryz.func225 (oS []) L (λkk=>eE (Afs L a0)) h
def Rl [An A Bool](a0:Bg)(a1:Int):A:=
 (cn (a1 == 3)
 (lf (!a0.bE))
 (cn (a1 == 25)
 (cn (a1 == 25)
 (lf a0.bE)
 (bd (Qf L a1) λr1=>
 (lf (decide (r1>=0)))))
 (cn (a1 == 26)
 (lf a0.bE)
 (bd (Qf L a1) λr2=>
 (lf (decide (r2>=0)))))))
def Mf(a0:Bg)(a1:Int):Option Bool:=Rl L a0 a1
def Bq3:Fs:=E2 B 224 J1 (cI .i64) (Mf L) λa0 a1 r h=>hF Tryz.func224 (oS [Bmh L]) L (λkk=>eE (Rl L a0 a1)) h
def f7 [An A Bool](L:Nat)(a0:Int):A:=
 (jp (.cn (decide (a0>=22))
 (.lf (decide (a0<=24)))
 (.lf false)) (λb1=>
 (lf b1)))
def Oy(a0:Int):Option Bool:=f7 L a0
def X67:Fs:=E1 B 67 (cI .i64) (Oy L) λa0 r h=>hF Tryz.func67 (oS []) L (λkk=>eE (f7 L a0)) h
def Rm [An A Bool](a0:Bg)(a1:Int):A:=
 (jb (.cn (a1 == 3)
 (.lf true)
 (.bd (Oy L a1) λr2=>
 (.cn r2
 (.lf (!a0.bE))
 (.lf false)))) (λb1=>
 (lf b1)))
def Hz(a0:Bg)(a1:Int):Option Bool:=Rm L a0 a1
def Bq4:Fs:=E2 B 226 J1 (cI .i64) (Hz L) λa0 a1 r h=>hF Tryz.func226 (oS [X67 L]) L (λkk=>eE (Rm L a0 a1)) h
def Ot [An A (Int×Int×Bool)](a0:Bg)(a1:Int):A:=
 (cn (a1 == 2)
 (lf (0,1,true))
 (cn (a1 == 25)
 (lf (0,15,true))
 (cn (a1 == 26)
 (lf (0,31,true))
 (bd (Oy L a1) λr1=>
 (jp (.cn r1
 (.lf a0.bE)
 (.lf false)) (λb2=>
 (cn b2
 (lf (0,63,true))
 (lf (0,0,false)))))))))
def Io(a0:Bg)(a1:Int):Option (Int×Int×Bool):=Ot L a0 a1
def Bq5:Fs:=E2 (λ(x:Int×Int×Bool)=>.aY [I x.1,I x.2.1,B x.2.2]) 227 J1 (cI .i64) (Io L) λa0 a1 r h=>hF Tryz.func227 (oS [X67 L]) L (λkk=>eE (Ot L a0 a1)) h
def Td [An A Int](a0:Bg)(a1:Aa):A:=
 (bd (Mf L (⟨a0.bE⟩:Bg) a1.Op) λr1=>
 (cn (!r1)
 (lf 1)
 (bd (Qf L a1.Op) λr2=>
 (cn ((a1.aQ.length:Int) != r2)
 (lf 1)
 (cn (!(a1.aD.toList == (⟨#[]⟩:Yb).toList))
 (bd (Hz L (⟨a0.bE⟩:Bg) a1.Op) λr3=>
 (cn (!r3)
 (lf 1)
 (cn (a1.Op == 1)
 (bd (W7 L a1.N) λr4=>
 (cn (!r4)
 (lf 2)
 (lf 0)))
 (bd (Io L (⟨a0.bE⟩:Bg) a1.Op) λr5=>
 (jp (.cn (!r5.2.2)
 (.lf (a1.N != 0))
 (.lf false)) (λb6=>
 (cn b6
 (lf 1)
 (jp (.cn r5.2.2
 (.cn (decide (a1.N<r5.1))
 (.lf true)
 (.lf (decide (a1.N>r5.2.1))))
 (.lf false)) (λb7=>
 (cn b7
 (lf 2)
 (bd (Hz L (⟨a0.bE⟩:Bg) a1.Op) λr8=>
 (cn r8
 (bd (Cq L a1.aD) λr9=>
 (lf r9))
 (lf 0)))))))))))))
 (cn (a1.Op == 1)
 (bd (W7 L a1.N) λr10=>
 (cn (!r10)
 (lf 2)
 (lf 0)))
 (bd (Io L (⟨a0.bE⟩:Bg) a1.Op) λr11=>
 (jp (.cn (!r11.2.2)
 (.lf (a1.N != 0))
 (.lf false)) (λb12=>
 (cn b12
 (lf 1)
 (jp (.cn r11.2.2
 (.cn (decide (a1.N<r11.1))
 (.lf true)
 (.lf (decide (a1.N>r11.2.1))))
 (.lf false)) (λb13=>
 (cn b13
 (lf 2)
 (bd (Hz L (⟨a0.bE⟩:Bg) a1.Op) λr14=>
 (cn r14
 (bd (Cq L a1.aD) λr15=>
 (lf r15))
 (lf 0))))))))))))))))
def Ni(a0:Bg)(a1:Aa):Option Int:=Td L a0 a1
def Bl8:Fs:=E2 I 192 J1 Ay (Ni L) λa0 a1 r h=>hF Tryz.func192 (oS [X75 L,Bgr L,Bq3 L,Bmh L,Bq4 L,Bq5 L]) L (λkk=>eE (Td L a0 a1)) h
def A2d(F:Bg->Aa->Option Int):Prop:=∀y0 y1 r,F y0 y1=some r->Ho Tryz.prog 105 [J1.en y0,Ay.en y1] I r
def Bmq:=CC Tryz.f105
def Bf5(Dz:Bg->Aa->Option Int)(L:Nat):Ba:=(orc 105 (A2 I J1 Ay Dz) (oL [Bl8 L]))
theorem Bsq(Dz:Bg->Aa->Option Int)(A6s:A2d Dz)(L:Nat):B8 Tryz.prog (Bf5 Dz L):=(B5 (a2 _ A6s) (oS [Bl8 L]))
def Bdu(a1:Aa)(a0:Bg)(v:Ef):St:=⟨[(0,.any),(1,.any),zq9,(3,.any),(4,I v.1),(5,.any),(16,lv (.t53 a1.aQ)),(17,I (a1.aQ.length:Int)),(18,I v.2)],[(2,[B a0.bE]),(3,(Bm a1))],0⟩
def J2 [An A C0](Dz:Bg->Aa->Option Int)(L:Nat)(a1:Aa)(a0:Bg)(rec:Int->Int->A)(A9:Int)(Aj:Int):A:=
 (lw Aj a1.aQ
 (bd (Dz (⟨a0.bE⟩:Bg) (Aa.cp (gD a1.aQ Aj))) λr2=>
 (cn (r2 != 0)
 (lf (0,r2,Aj))
 (rec A9 (Cp (Aj+1)))))
 (lf (1,A9,Aj)))
def Eb(Dz:Bg->Aa->Option Int)(L:Nat)(a1:Aa)(a0:Bg):Nat->Int->Int->Option C0
 |0,_,_=>none
 |n+1,A9,Aj=>J2 Dz L a1 a0 (Eb Dz L a1 a0 n) A9 Aj
theorem Bb7(Dz:Bg->Aa->Option Int)(L:Nat)(K:De)(a1:Aa)(a0:Bg):LP (EV (Bf5 Dz L) L 9 Bmq.w.l.u.l.l) [0,1,2,3,4,5,16,17,18] [2,3] (Bdu a1 a0) [.ret,.exit 0] (λn v=>Eb Dz L a1 a0 n v.1 v.2) K:=lE (λ_=>rfl) λn v ih=>eE (J2 Dz L a1 a0 (λA9 Aj=>re (ih (A9,Aj))) v.1 v.2)
def J4 [An A Int](Dz:Bg->Aa->Option Int)(L:Nat)(o3:Nat×Ef):A:=
 (sl o3.1 [(lf o3.2.1),
 (lf 0)])
def J6 [An A Int](Dz:Bg->Aa->Option Int)(L:Nat)(a0:Bg)(a1:Aa)(nx1:A):A:=
 (bd (Ni L (⟨a0.bE⟩:Bg) (Aa.cp a1)) λr1=>
 (cn (r1 != 0)
 (lf r1)
 nx1))
def Y7 [An A Int](Dz:Bg->Aa->Option Int)(L:Nat)(a0:Bg)(a1:Aa):A:=J6 Dz L a0 a1 (bd (Eb Dz L a1 a0 L 0 0) λo3=>J4 Dz L o3)
def Qx(Dz:Bg->Aa->Option Int)(L:Nat)(a0:Bg)(a1:Aa):Option Int:=Y7 Dz L a0 a1
theorem Brj(Dz:Bg->Aa->Option Int)(A6s:A2d Dz)(L:Nat):A2d (Qx Dz L):=λa0 a1 r h=>hF Tryz.func105 (Bsq Dz A6s L) L (λkk=>eE (J6 Dz L a0 a1 (hq (Bb7 Dz L (KA (Bf5 Dz L) L 9 Bmq (rl [4,1,2,1]) (KE Tryz.f105 kk)) a1 a0 L (0,0)) λo3=>J4 Dz L o3))) h
def D0:Nat->Bg->Aa->Option Int
 |0,_,_=>none
 |L+1,a0,a1=>Qx (D0 L) L a0 a1
theorem Ba6(L:Nat):A2d (D0 L):=by
 induction L with
 |zero=>exact λ_ _ _ h=>(by cases h)
 |succ L ih=>
  have i105:=ih;exact Brj (D0 L) i105 L
def Bqi(L:Nat):Fs:=E2 I 105 J1 Ay (D0 L) (Ba6 L)
def Rk [An A Int](a0:Bg)(a1:Aa):A:=
 (bd (F3 L (Aa.cp a1)) λr1=>
 (cn (decide (r1>60))
 (lf 6)
 (bd (F2 L (Aa.cp a1)) λr2=>
 (cn (decide (r2>12))
 (lf 11)
 (bd (D0 L (⟨a0.bE⟩:Bg) (Aa.cp a1)) λr3=>
 (lf r3))))))
def Me(a0:Bg)(a1:Aa):Option Int:=Rk L a0 a1
def X66:Fs:=E2 I 66 J1 Ay (Me L) λa0 a1 r h=>hF Tryz.func66 (oS [X21 L,X22 L,Bqi L]) L (λkk=>eE (Rk L a0 a1)) h
def Acy [An A Int](a0:Aa):A:=
 (bd (Me L (⟨false⟩:Bg) (Aa.cp a0)) λr1=>
 (lf r1))
def Iv(a0:Aa):Option Int:=Acy L a0
def X40:Fs:=E1 I 40 Ay (Iv L) λa0 r h=>hF Tryz.func40 (oS [X66 L]) L (λkk=>eE (Acy L a0)) h
def A34:=CC Tryz.f162
def A0b:Ba:=oL [X40 L,X75 L,Bmb L]
def Bd0(a1:Bu)(a0:Ae)(v:Ef):St:=⟨[(0,.any),(1,.any),zq9,Qe,(4,I v.1),(9,.any),(10,.any),(12,.any),(13,.any),(24,.aO true (.dZ [(⟨a1.dI,a0.aD⟩:El),(⟨a1.fP,a0.Of⟩:El)])),(25,I ([(⟨a1.dI,a0.aD⟩:El),(⟨a1.fP,a0.Of⟩:El)].length:Int)),(26,I v.2),(53,.any),(74,.any)],[(2,(Ea a0)),(3,(Tj a1))],0⟩
def Ad9 [An A C0](a1:Bu)(a0:Ae)(rec:Int->Int->A)(A9:Int)(Aj:Int):A:=
 (cn (decide (Aj<([(⟨a1.dI,a0.aD⟩:El),(⟨a1.fP,a0.Of⟩:El)].length:Int)))
 (gq (0<=Aj)
 (gq (Aj<(([(⟨a1.dI,a0.aD⟩:El),(⟨a1.fP,a0.Of⟩:El)].length:Nat):Int))
 (bd (Cq L (([(⟨a1.dI,a0.aD⟩:El),(⟨a1.fP,a0.Of⟩:El)].getD (Int.toNat Aj) default).dI)) λr1=>
 (jp (.cn (([(⟨a1.dI,a0.aD⟩:El),(⟨a1.fP,a0.Of⟩:El)].getD (Int.toNat Aj) default).gK)
 (.lf (r1 != 0))
 (.lf false)) (λb2=>
 (cn b2
 (lf (0,r1,Aj))
 (rec A9 (Cp (Aj+1)))))))))
 (lf (1,A9,Aj)))
def Vy(L:Nat)(a1:Bu)(a0:Ae):Nat->Int->Int->Option C0
 |0,_,_=>none
 |n+1,A9,Aj=>Ad9 L a1 a0 (Vy L a1 a0 n) A9 Aj
theorem Bcd(a1:Bu)(a0:Ae):LP (EV (A0b L) L 9 A34.u.l.u.l.l) [0,1,2,3,4,9,10,12,13,24,25,26,53,74] [2,3] (Bd0 a1 a0) [.ret,.exit 0] (λn v=>Vy L a1 a0 n v.1 v.2) K:=lE (λ_=>rfl) λn v ih=>eE (Ad9 L a1 a0 (λA9 Aj=>re (ih (A9,Aj))) v.1 v.2)
def Bd1(a1:Bu)(a0:Ae)(v:Ef):St:=⟨[(0,.any),(1,.any),zq9,Qe,(4,I v.1),(6,.any),(7,.any),(12,.any),(13,.any),(26,.any),(51,.aO true (.dY [(⟨a1.gH,(Aa.cp a0.E)⟩:Kl),(⟨a1.gN,(Aa.cp a0.F)⟩:Kl)])),(52,I ([(⟨a1.gH,(Aa.cp a0.E)⟩:Kl),(⟨a1.gN,(Aa.cp a0.F)⟩:Kl)].length:Int)),(53,I v.2),(74,.any)],[(2,(Ea a0)),(3,(Tj a1))],0⟩
def Aea [An A C0](a1:Bu)(a0:Ae)(rec:Int->Int->A)(Gf:Int)(C2:Int):A:=
 (cn (decide (C2<([(⟨a1.gH,(Aa.cp a0.E)⟩:Kl),(⟨a1.gN,(Aa.cp a0.F)⟩:Kl)].length:Int)))
 (gq (0<=C2)
 (gq (C2<(([(⟨a1.gH,(Aa.cp a0.E)⟩:Kl),(⟨a1.gN,(Aa.cp a0.F)⟩:Kl)].length:Nat):Int))
 (cn (!(([(⟨a1.gH,(Aa.cp a0.E)⟩:Kl),(⟨a1.gN,(Aa.cp a0.F)⟩:Kl)].getD (Int.toNat C2) default).gK))
 (rec Gf (Cp (C2+1)))
 (bd (Iv L (Aa.cp (([(⟨a1.gH,(Aa.cp a0.E)⟩:Kl),(⟨a1.gN,(Aa.cp a0.F)⟩:Kl)].getD (Int.toNat C2) default).gH))) λr4=>
 (cn (r4 != 0)
 (lf (0,r4,C2))
 (rec Gf (Cp (C2+1))))))))
 (lf (1,Gf,C2)))
def Vz(L:Nat)(a1:Bu)(a0:Ae):Nat->Int->Int->Option C0
 |0,_,_=>none
 |n+1,Gf,C2=>Aea L a1 a0 (Vz L a1 a0 n) Gf C2
theorem Bce(a1:Bu)(a0:Ae):LP (EV (A0b L) L 9 A34.w.l.u.l.l) [0,1,2,3,4,6,7,12,13,26,51,52,53,74] [2,3] (Bd1 a1 a0) [.ret,.exit 2] (λn v=>Vz L a1 a0 n v.1 v.2) K:=lE (λ_=>rfl) λn v ih=>eE (Aea L a1 a0 (λGf C2=>re (ih (Gf,C2))) v.1 v.2)
def Bd2(a0:Ae)(a1:Bu)(v:Ef):St:=⟨[(0,.any),(1,.any),zq9,Qe,(4,I v.1),(6,.any),(7,.any),(9,.any),(10,.any),(26,.any),(53,.any),(72,lv (.t53 a0.bM)),(73,I (a0.bM.length:Int)),(74,I v.2)],[(2,(Ea a0)),(3,(Tj a1))],0⟩
def Aeb [An A C0](a0:Ae)(a1:Bu)(rec:Int->Int->A)(W0:Int)(Iz:Int):A:=
 (lw Iz a0.bM
 (bd (Iv L (Aa.cp (gD a0.bM Iz))) λr6=>
 (cn (r6 != 0)
 (lf (0,r6,Iz))
 (rec W0 (Cp (Iz+1)))))
 (lf (1,W0,Iz)))
def V0(L:Nat)(a0:Ae)(a1:Bu):Nat->Int->Int->Option C0
 |0,_,_=>none
 |n+1,W0,Iz=>Aeb L a0 a1 (V0 L a0 a1 n) W0 Iz
theorem Bcf(a0:Ae)(a1:Bu):LP (EV (A0b L) L 9 A34.x.l.u.l.l) [0,1,2,3,4,6,7,9,10,26,53,72,73,74] [2,3] (Bd2 a0 a1) [.ret,.exit 4] (λn v=>V0 L a0 a1 n v.1 v.2) K:=lE (λ_=>rfl) λn v ih=>eE (Aeb L a0 a1 (λW0 Iz=>re (ih (W0,Iz))) v.1 v.2)
def Aeu [An A Int](a1:Bu)(a0:Ae)(o7:Nat×Ef):A:=
 (sl o7.1 [(lf o7.2.1),
 (cn a1.fB
 (bd (Nh L a0.bW) λr8=>
 (lf r8))
 (lf 0))])
def Aex [An A Int](L:Nat)(a0:Ae)(a1:Bu)(o5:Nat×Ef)(nx3:C0->A):A:=
 (sl o5.1 [(lf o5.2.1),
 (cn (decide ((a0.bM.length:Int)>6))
 (lf 6)
 (nx3 o5))])
def Apw [An A Int](a0:Ae)(a1:Bu)(o5:Nat×Ef):A:=Aex L a0 a1 o5 (λo5=>bd (V0 L a0 a1 L o5.2.1 0) λo7=>Aeu L a1 a0 o7)
def Aew [An A Int](L:Nat)(a1:Bu)(a0:Ae)(o3:Nat×Ef)(nx2:C0->A):A:=
 (sl o3.1 [(lf o3.2.1),
 (nx2 o3)])
def Apv [An A Int](a1:Bu)(a0:Ae)(o3:Nat×Ef):A:=Aew L a1 a0 o3 (λo3=>bd (Vz L a1 a0 L o3.2.1 0) λo5=>Apw L a0 a1 o5)
def Ave [An A Int](a0:Ae)(a1:Bu):A:=(bd (Vy L a1 a0 L 0 0) λo3=>Apv L a1 a0 o3)
def Ajj(a0:Ae)(a1:Bu):Option Int:=Ave L a0 a1
def Bl0:Fs:=E2 I 162 Dv Anw (Ajj L) λa0 a1 r h=>hF Tryz.func162 (C:=A0b L) (oS _) L (λkk=>eE ((hq (Bcd L (KA (A0b L) L 9 A34 (rl [2,1,2,1]) (KE Tryz.f162 kk)) a1 a0 L (0,0)) λo3=>Aew L a1 a0 o3 (λo3=>hq (Bce L (KA (A0b L) L 9 A34 (rl [4,1,2,1]) (KE Tryz.f162 kk)) a1 a0 L (o3.2.1,0)) λo5=>Aex L a0 a1 o5 (λo5=>hq (Bcf L (KA (A0b L) L 9 A34 (rl [8,1,2,1]) (KE Tryz.f162 kk)) a0 a1 L (o5.2.1,0)) λo7=>Aeu L a1 a0 o7))))) h
def A9s(F:(List Ae)->Option Int):Prop:=∀y0 r,F y0=some r->Ho Tryz.prog 83 [Ac6.en y0] I r
def c83:=CC Tryz.f83
def O83(Iu:(List Ae)->Option Int)(L:Nat):Ba:=(orc 83 (A1 I Ac6 Iu) (oL [Bly L,Blz L,Bl0 L]))
theorem s83(Iu:(List Ae)->Option Int)(Bh1:A9s Iu)(L:Nat):B8 Tryz.prog (O83 Iu L):=(B5 (a1 _ Bh1) (oS [Bly L,Blz L,Bl0 L]))
def Bkw(a0:List Ae)(v:Ef):St:=⟨[(0,.any),(2,I v.1),(10,lv (.eU a0)),(11,I (a0.length:Int)),(12,I v.2)],[],0⟩
def Ad8 [An A C0](Iu:(List Ae)->Option Int)(L:Nat)(a0:List Ae)(rec:Int->Int->A)(A9:Int)(Aj:Int):A:=
 (lw Aj a0
 (bd (Ank L ((gD a0 Aj).Op)) λr1=>
 (jb (.cn (!r1.2)
 (.lf true)
 (.bd (Anj L (Ae.cp (gD a0 Aj)) r1.1) λr3=>
 (.lf (!r3)))) (λb2=>
 (cn b2
 (lf (0,1,Aj))
 (bd (Ajj L (Ae.cp (gD a0 Aj)) r1.1) λr4=>
 (cn (r4 != 0)
 (lf (0,r4,Aj))
 (bd (Iu ((gD a0 Aj).cK)) λr5=>
 (cn (r5 != 0)
 (lf (0,r5,Aj))
 (bd (Iu ((gD a0 Aj).dM)) λr6=>
 (cn (r6 != 0)
 (lf (0,r6,Aj))
 (rec A9 (Cp (Aj+1)))))))))))))
 (lf (1,A9,Aj)))
def Vx(Iu:(List Ae)->Option Int)(L:Nat)(a0:List Ae):Nat->Int->Int->Option C0
 |0,_,_=>none
 |n+1,A9,Aj=>Ad8 Iu L a0 (Vx Iu L a0 n) A9 Aj
theorem Bjf(Iu:(List Ae)->Option Int)(L:Nat)(K:De)(a0:List Ae):LP (EV (O83 Iu L) L 9 c83.u.l.u.l.l) [0,2,10,11,12] [] (Bkw a0) [.ret,.exit 0] (λn v=>Vx Iu L a0 n v.1 v.2) K:=lE (λ_=>rfl) λn v ih=>eE (Ad8 Iu L a0 (λA9 Aj=>re (ih (A9,Aj))) v.1 v.2)
def Aet [An A Int](Iu:(List Ae)->Option Int)(L:Nat)(o7:Nat×Ef):A:=
 (sl o7.1 [(lf o7.2.1),
 (lf 0)])
def Avd [An A Int](Iu:(List Ae)->Option Int)(L:Nat)(a0:List Ae):A:=(bd (Vx Iu L a0 L 0 0) λo7=>Aet Iu L o7)
def Ajd(Iu:(List Ae)->Option Int)(L:Nat)(a0:List Ae):Option Int:=Avd Iu L a0
theorem b83(Iu:(List Ae)->Option Int)(Bh1:A9s Iu)(L:Nat):A9s (Ajd Iu L):=λa0 r h=>hF Tryz.func83 (s83 Iu Bh1 L) L (λkk=>eE ((hq (Bjf Iu L (KA (O83 Iu L) L 9 c83 (rl [2,1,2,1]) (KE Tryz.f83 kk)) a0 L (0,0)) λo7=>Aet Iu L o7))) h
def Rg:Nat->(List Ae)->Option Int
 |0,_=>none
 |L+1,a0=>Ajd (Rg L) L a0
theorem Bhs(L:Nat):A9s (Rg L):=by
 induction L with
 |zero=>exact λ_ _ h=>(by cases h)
 |succ L ih=>
  have i83:=ih;exact b83 (Rg L) i83 L
def X83(L:Nat):Fs:=E1 I 83 Ac6 (Rg L) (Bhs L)
def Ajs [An A Int](a0:List Ae):A:=
 (bd (Re L a0) λr1=>
 (cn (decide (r1>200))
 (lf 6)
 (bd (Rf L a0) λr2=>
 (cn (decide (r2>12))
 (lf 11)
 (bd (Rg L a0) λr3=>
 (lf r3))))))
def Acs(a0:List Ae):Option Int:=Ajs L a0
def X52:Fs:=E1 I 52 Ac6 (Acs L) λa0 r h=>hF Tryz.func52 (oS [X9 L,X82 L,X83 L]) L (λkk=>eE (Ajs L a0)) h
def A51:=CC Tryz.f151
def A0a:Ba:=oL [X29 L,X52 L,X75 L,Bgp L]
def A8w(p1_0:Yb)(p1_1:Am)(p1_2:Aw)(p1_3:List Yb)(p1_4:List Bool)(k:C3):Ck->Prop:=λo=>k (I o.1) [(1,(B7 p1_1)),(5,(M3 p1_2)),(21,[.aL false false (.t9 o.2.1) (.t4 o.2.2)])]
def Xn [An A Ck](p1_0:Yb)(p1_1:Am)(p1_2:Aw)(p1_3:List Yb)(p1_4:List Bool):A:=
 (bd (Cq L p1_0) λr3=>
 (cn (r3 != 0)
 (lf (r3,p1_3,p1_4))
 (fq (p1_3.findIdx? λb=>p1_0 == b) (λi4=>
 (cn (p1_4.getD i4 default)
 (lf (4,p1_3,p1_4))
 (fq (p1_3.findIdx? λb=>p1_0 == b) (λi5=>
 (lf (0,p1_3,(p1_4.set i5 true))))
 (lf (0,(p1_3++ [p1_0]),(p1_4++ [true]))))))
 (fq (p1_3.findIdx? λb=>p1_0 == b) (λi6=>
 (lf (0,p1_3,(p1_4.set i6 true))))
 (lf (0,(p1_3++ [p1_0]),(p1_4++ [true])))))))
def Xo(p1_0:Yb)(p1_1:Am)(p1_2:Aw)(p1_3:List Yb)(p1_4:List Bool):Option Ck:=Xn L p1_0 p1_1 p1_2 p1_3 p1_4
theorem Bbd(p1_0:Yb)(p1_1:Am)(p1_2:Aw)(p1_3:List Yb)(p1_4:List Bool):YO (A0a L) L 9 79 [.mp 21,S p1_0] [(1,(B7 p1_1)),(5,(M3 p1_2)),(21,[.aL false false (.t9 p1_3) (.t4 p1_4)])] k=ob (Xo L p1_0 p1_1 p1_2 p1_3 p1_4) (A8w p1_0 p1_1 p1_2 p1_3 p1_4 k):=(Cf _ _ _ Yr _ _ _ _ _ _ _).trans (eE (Xn L p1_0 p1_1 p1_2 p1_3 p1_4))
def Bdw(r2:List Aw)(a0:Am)(v:Tu4):St:=⟨[(0,.any),Yq,(2,I v.1),(3,.mp 21),(27,lv (.dG r2)),(28,I (r2.length:Int)),(29,I v.2.1)],[(1,(B7 a0)),(21,[.aL false false (.t9 v.2.2.1) (.t4 v.2.2.2)])],0⟩
def X3 [An A K3](Aj:Int)(r2:List Aw)(A9:Int)(rec:Int->Int->List Yb->List Bool->A)(o7:Ck):A:=
 (cn (o7.1 != 0)
 (lf (0,o7.1,Aj,o7.2.1,o7.2.2))
 (bd (T9 L ((gD r2 Aj).bL)) λr8=>
 (cn (!r8)
 (lf (0,1,Aj,o7.2.1,o7.2.2))
 (rec A9 (Cp (Aj+1)) o7.2.1 o7.2.2))))
def Yn [An A K3](L:Nat)(r2:List Aw)(a0:Am)(rec:Int->Int->List Yb->List Bool->A)(A9:Int)(Aj:Int)(D2:List Yb)(D3:List Bool)(nx1:Int->(List Yb)->(List Bool)->Int->A):A:=
 (lw Aj r2
 (nx1 Aj D2 D3 A9)
 (lf (1,A9,Aj,D2,D3)))
def Ais [An A K3](r2:List Aw)(a0:Am)(rec:Int->Int->List Yb->List Bool->A)(A9:Int)(Aj:Int)(D2:List Yb)(D3:List Bool):A:=Yn L r2 a0 rec A9 Aj D2 D3 (λAj D2 D3 A9=>bd (Xo L ((gD r2 Aj).aD) a0 (gD r2 Aj) D2 D3) λo7=>X3 L Aj r2 A9 rec o7)
def P9(L:Nat)(r2:List Aw)(a0:Am):Nat->Int->Int->List Yb->List Bool->Option K3
 |0,_,_,_,_=>none
 |n+1,A9,Aj,D2,D3=>Ais L r2 a0 (P9 L r2 a0 n) A9 Aj D2 D3
theorem Bb9(r2:List Aw)(a0:Am):LP (EV (A0a L) L 9 A51.w.u.l.u.l.l) [0,1,2,3,27,28,29] [1,21] (Bdw r2 a0) [.ret,.exit 0] (λn v=>P9 L r2 a0 n v.1 v.2.1 v.2.2.1 v.2.2.2) K:=lE (λ_=>rfl) λn v ih=>eE (Yn L r2 a0 (λA9 Aj D2 D3=>re (ih (A9,Aj,D2,D3))) v.1 v.2.1 v.2.2.1 v.2.2.2 (λAj D2 D3 A9=>hq (Bbd L (K1 (A0a L) L 9 1 4 A51.w.u.l.u.l.l.w.l.l.u.l.l ⟨[(35,S (gD r2 Aj).aD),(34,.loc 5 0),(33,.mp 21),Yq,(2,I A9),(3,.mp 21),(5,.loc 5 0),(27,lv (.dG r2)),(28,I (r2.length:Int)),(29,I Aj),(30,B (decide (Aj<(r2.length:Int)))),(31,.ref (M3 (gD r2 Aj))),(32,.agg (M3 (gD r2 Aj)))],[(1,(B7 a0)),(5,(M3 (gD r2 Aj))),(21,[.aL false false (.t9 D2) (.t4 D3)])],0⟩ (some 36) (kN (KA (A0a L) L 9 A51.w.u.l.u.l.l (rl [4,2,2,2]) (Ic (Js (EV (A0a L) L 9 A51.w.u.l.u.l.l) [0,1,2,3,27,28,29] [1,21] n) [0,1,2,3,27,28,29] [1,21] K)))) ((gD r2 Aj).aD) a0 (gD r2 Aj) D2 D3) λo7=>X3 L Aj r2 A9 (λA9 Aj D2 D3=>re (ih (A9,Aj,D2,D3))) o7))
def X4 [An A Int](a0:Am)(o9:Nat×Tu4):A:=
 (sl o9.1 [(lf o9.2.1),
 (bd (Acs L a0.cK) λr10=>
 (lf r10))])
def Yp [An A Int](a0:Am)(nx2:(List Aw)->A):A:=
 (jp (.cn (decide ((a0.aK.length:Int)>6))
 (.lf true)
 (.lf (decide ((Cp ((a0.aK.length:Int)+(a0.aP.length:Int)))>16)))) (λb1=>
 (cn b1
 (lf 6)
 (bd (Jt L [a0.aK,a0.aP]) λr2=>
 (nx2 r2)))))
def Aom [An A Int](a0:Am):A:=Yp L a0 (λr2=>bd (P9 L r2 a0 L 0 0 [] []) λo9=>X4 L a0 o9)
def Adr(a0:Am):Option Int:=Aom L a0
def Bqn:Fs:=E1 I 151 Af2 (Adr L) λa0 r h=>hF Tryz.func151 (C:=A0a L) (oS _) L (λkk=>eE (Yp L a0 (λr2=>hq (Bb9 L (KA (A0a L) L 9 A51 (rl [6,1,2,1]) (KE Tryz.f151 kk)) r2 a0 L (0,0,[],[])) λo9=>X4 L a0 o9))) h
def Bnf:=CC Tryz.f173
def c90:=CC Tryz.f90
def O90(L:Nat):Ba:=oL []
def Bkz(p1_0:List Am)(p1_1:Ab)(p1_2:Yb)(v:Ef):St:=⟨[(0,lv (.t47 p1_0)),(1,.bA 174 0 Kz),(4,I v.1),(7,I (p1_0.length:Int)),(8,I v.2)],[(2,(Af p1_1)),(3,[S p1_2])],1004⟩
def Lg [An A C0](L:Nat)(p1_0:List Am)(p1_1:Ab)(p1_2:Yb)(rec:Int->Int->A)(Aq:Int)(Aj:Int):A:=
 (lw Aj p1_0
 (cn ((gD p1_0 Aj).aD.toList == p1_2.toList)
 (lf (0,Aj,Aj))
 (rec Aq (Cp (Aj+1))))
 (lf (1,Aq,Aj)))
def Eu(L:Nat)(p1_0:List Am)(p1_1:Ab)(p1_2:Yb):Nat->Int->Int->Option C0
 |0,_,_=>none
 |n+1,Aq,Aj=>Lg L p1_0 p1_1 p1_2 (Eu L p1_0 p1_1 p1_2 n) Aq Aj
theorem Bji(p1_0:List Am)(p1_1:Ab)(p1_2:Yb):LP (EV (O90 L) L 8 Bnf.u.l.u.l.l) [0,1,4,7,8] [2,3] (Bkz p1_0 p1_1 p1_2) [.ret,.exit 0] (λn v=>Eu L p1_0 p1_1 p1_2 n v.1 v.2) K:=lE (λ_=>rfl) λn v ih=>eE (Lg L p1_0 p1_1 p1_2 (λAq Aj=>re (ih (Aq,Aj))) v.1 v.2)
def Bfx(p1_0:List Am)(p1_1:Ab)(p1_2:Yb)(k:C3):Int->Prop:=λo=>k (I o) [(2,(Af p1_1)),(3,[S p1_2])]
def Qa [An A Int](L:Nat)(o1:Nat×Ef):A:=
 (sl o1.1 [(lf o1.2.1),
 (lf (-1))])
def Xm [An A Int](p1_0:List Am)(p1_1:Ab)(p1_2:Yb):A:=(bd (Eu L p1_0 p1_1 p1_2 L 0 0) λo1=>Qa L o1)
def Lf(p1_0:List Am)(p1_1:Ab)(p1_2:Yb):Option Int:=Xm L p1_0 p1_1 p1_2
theorem Bib(p1_0:List Am)(p1_1:Ab)(p1_2:Yb):YO (O90 L) L 9 173 [lv (.t47 p1_0),.bA 174 0 Kz] [(2,(Af p1_1)),(3,[S p1_2])] k=ob (Lf L p1_0 p1_1 p1_2) (Bfx p1_0 p1_1 p1_2 k):=(Cf _ _ _ Yr _ _ _ _ _ _ _).trans (eE ((hq (Bji L (KA (O90 L) L 8 Bnf (rl [2,1,2,1]) (KJ Tryz.f173 k)) p1_0 p1_1 p1_2 L (0,0)) λo1=>Qa L o1)))
def Li [An A Int](L:Nat)(o2:Int):A:=
 (lf o2)
def Ads [An A Int](a0:Ab)(a1:Yb):A:=(bd (Lf L a0.aG a0 a1) λo2=>Li L o2)
def Dg(a0:Ab)(a1:Yb):Option Int:=Ads L a0 a1
def X90:Fs:=E2 I 90 Cr cS (Dg L) λa0 a1 r h=>hF Tryz.func90 (C:=O90 L) (oS _) L (λkk=>eE ((hq (Bib L (K1 (O90 L) L 9 1 4 c90.u.l ⟨[(7,.bA 174 0 Kz),(6,lv (.t47 a0.aG)),(5,.loc 2 10),zq9,Qe,(4,I 0)],[(2,(Af a0)),(3,[S a1])],0⟩ (some 8) (kN (KA (O90 L) L 9 c90 (rl [2,1]) (KE Tryz.f90 kk)))) a0.aG a0 a1) λo2=>Li L o2))) h
def Bm8:=CC Tryz.f155
def Bf7:Ba:=oL [X90 L,A3v L,Bgq L]
def Bdx(a0:Ab)(r1:Int)(a1:Bq)(v:Ef):St:=⟨[(0,.any),(1,.any),(2,.any),Qe,(4,I v.1),(5,.any),(6,lv (.dG ((gD a0.aG r1).aK))),(28,lv (.t3 a1.bM)),(29,I (a1.bM.length:Int)),(30,I v.2)],[(2,(Af a0)),(3,(Af7 a1))],0⟩
def Aam [An A C0](a0:Ab)(r1:Int)(a1:Bq)(rec:Int->Int->A)(A9:Int)(Bj:Int):A:=
 (lw Bj a1.bM
 (gi Bj ((gD a0.aG r1).aK)
 (bd (Wm L ((gD ((gD a0.aG r1).aK) Bj).bL) (gD a1.bM Bj)) λr2=>
 (cn (!r2)
 (lf (0,2,Bj))
 (rec A9 (Cp (Bj+1))))))
 (lf (1,A9,Bj)))
def Tp(L:Nat)(a0:Ab)(r1:Int)(a1:Bq):Nat->Int->Int->Option C0
 |0,_,_=>none
 |n+1,A9,Bj=>Aam L a0 r1 a1 (Tp L a0 r1 a1 n) A9 Bj
theorem Bca(a0:Ab)(r1:Int)(a1:Bq):LP (EV (Bf7 L) L 9 Bm8.x.u.l.u.l.l) [0,1,2,3,4,5,6,28,29,30] [2,3] (Bdx a0 r1 a1) [.ret,.exit 0] (λn v=>Tp L a0 r1 a1 n v.1 v.2) K:=lE (λ_=>rfl) λn v ih=>eE (Aam L a0 r1 a1 (λA9 Bj=>re (ih (A9,Bj))) v.1 v.2)
def Abl [An A Int](a1:Bq)(o3:Nat×Ef):A:=
 (sl o3.1 [(lf o3.2.1),
 (bd (Bd L a1.At 0 1000000000) λr4=>
 (jb (.cn (!r4)
 (.lf true)
 (.bd (Bd L a1.Every 0 1000000000) λr6=>
 (.lf (!r6)))) (λb5=>
 (jb (.cn b5
 (.lf true)
 (.bd (Bd L a1.Until 0 1000000000) λr8=>
 (.lf (!r8)))) (λb7=>
 (jp (.cn b7
 (.lf true)
 (.cn (a1.Every == 0)
 (.lf (a1.Until != 0))
 (.lf false))) (λb9=>
 (cn b9
 (lf 2)
 (lf 0)))))))))])
def Ach [An A Int](a0:Ab)(a1:Bq)(nx1:Int->A):A:=
 (bd (Dg L a0 a1.dW) λr1=>
 (cn (decide (r1<0))
 (lf 5)
 (gi r1 a0.aG
 (cn ((a1.bM.length:Int) != ((gD a0.aG r1).aK.length:Int))
 (lf 8)
 (nx1 r1)))))
def As1 [An A Int](a0:Ab)(a1:Bq):A:=Ach L a0 a1 (λr1=>bd (Tp L a0 r1 a1 L 0 0) λo3=>Abl L a1 o3)
def Ahq(a0:Ab)(a1:Bq):Option Int:=As1 L a0 a1
def Bqo:Fs:=E2 I 155 Cr Avm (Ahq L) λa0 a1 r h=>hF Tryz.func155 (C:=Bf7 L) (oS _) L (λkk=>eE (Ach L a0 a1 (λr1=>hq (Bca L (KA (Bf7 L) L 9 Bm8 (rl [10,1,2,1]) (KE Tryz.f155 kk)) a0 r1 a1 L (0,0)) λo3=>Abl L a1 o3))) h
def A93:=CC Tryz.f180
def Ae3:=CC Tryz.f235
def Ae2:=CC Tryz.f210
def K2:Ba:=oL [X90 L,A3v L,Bma L]
def Bei(p1_0:List Ak)(p1_1:Ab)(p1_2:Cb)(v:Ef):St:=⟨[(0,lv (.t213 p1_0)),(1,zq4),(4,I v.1),(7,I (p1_0.length:Int)),(8,I v.2)],[(2,(Af p1_1)),(3,(Cy p1_2))],1004⟩
def Ad5 [An A C0](L:Nat)(p1_0:List Ak)(p1_1:Ab)(p1_2:Cb)(rec:Int->Int->A)(Aq:Int)(Aj:Int):A:=
 (lw Aj p1_0
 (cn ((gD p1_0 Aj).aD.toList == p1_2.aD.toList)
 (lf (0,Aj,Aj))
 (rec Aq (Cp (Aj+1))))
 (lf (1,Aq,Aj)))
def Vu(L:Nat)(p1_0:List Ak)(p1_1:Ab)(p1_2:Cb):Nat->Int->Int->Option C0
 |0,_,_=>none
 |n+1,Aq,Aj=>Ad5 L p1_0 p1_1 p1_2 (Vu L p1_0 p1_1 p1_2 n) Aq Aj
theorem Bcw(p1_0:List Ak)(p1_1:Ab)(p1_2:Cb):LP (EV (K2 L) L 7 A93.u.l.u.l.l) [0,1,4,7,8] [2,3] (Bei p1_0 p1_1 p1_2) [.ret,.exit 0] (λn v=>Vu L p1_0 p1_1 p1_2 n v.1 v.2) K:=lE (λ_=>rfl) λn v ih=>eE (Ad5 L p1_0 p1_1 p1_2 (λAq Aj=>re (ih (Aq,Aj))) v.1 v.2)
def A80(p1_0:List Ak)(p1_1:Ab)(p1_2:Cb)(k:C3):Int->Prop:=λo=>k (I o) [(2,(Af p1_1)),(3,(Cy p1_2))]
def Aej [An A Int](L:Nat)(o4:Nat×Ef):A:=
 (sl o4.1 [(lf o4.2.1),
 (lf (-1))])
def Ao1 [An A Int](p1_0:List Ak)(p1_1:Ab)(p1_2:Cb):A:=(bd (Vu L p1_0 p1_1 p1_2 L 0 0) λo4=>Aej L o4)
def Ee(p1_0:List Ak)(p1_1:Ab)(p1_2:Cb):Option Int:=Ao1 L p1_0 p1_1 p1_2
theorem Wt(p1_0:List Ak)(p1_1:Ab)(p1_2:Cb):YO (K2 L) L 8 180 [lv (.t213 p1_0),zq4] [(2,(Af p1_1)),(3,(Cy p1_2))] k=ob (Ee L p1_0 p1_1 p1_2) (A80 p1_0 p1_1 p1_2 k):=(Cf _ _ _ Yr _ _ _ _ _ _ _).trans (eE ((hq (Bcw L (KA (K2 L) L 7 A93 (rl [2,1,2,1]) (KJ Tryz.f180 k)) p1_0 p1_1 p1_2 L (0,0)) λo4=>Aej L o4)))
def Aek [An A Int](a1:Cb)(o38:Int):A:=
 (cn (!(decide (o38>=0)))
 (lf 5)
 (bd (Bd L a1.bP (-1000) 1000) λr39=>
 (jp (.cn (!r39)
 (.lf true)
 (.lf (a1.bP == 0))) (λb40=>
 (cn b40
 (lf 2)
 (lf 0))))))
def Ael [An A Int](a1:Cb)(o41:Int):A:=
 (cn (!(decide (o41>=0)))
 (lf 5)
 (bd (Bd L a1.bP (-1000) 1000) λr42=>
 (jp (.cn (!r42)
 (.lf true)
 (.lf (a1.bP == 0))) (λb43=>
 (cn b43
 (lf 2)
 (lf 0))))))
def Aem [An A Int](a1:Cb)(o44:Int):A:=
 (cn (!(decide (o44>=0)))
 (lf 5)
 (bd (Bd L a1.bP (-1000) 1000) λr45=>
 (jp (.cn (!r45)
 (.lf true)
 (.lf (a1.bP == 0))) (λb46=>
 (cn b46
 (lf 2)
 (lf 0))))))
def Aen [An A Int](a1:Cb)(o47:Int):A:=
 (cn (!(decide (o47>=0)))
 (lf 5)
 (bd (Bd L a1.bP (-1000) 1000) λr48=>
 (jp (.cn (!r48)
 (.lf true)
 (.lf (a1.bP == 0))) (λb49=>
 (cn b49
 (lf 2)
 (lf 0))))))
def Aeo [An A Int](a1:Cb)(o50:Int):A:=
 (cn (!(decide (o50>=0)))
 (lf 5)
 (bd (Bd L a1.bP (-1000) 1000) λr51=>
 (jp (.cn (!r51)
 (.lf true)
 (.lf (a1.bP == 0))) (λb52=>
 (cn b52
 (lf 2)
 (lf 0))))))
def Aep [An A Int](a1:Cb)(o53:Int):A:=
 (cn (!(decide (o53>=0)))
 (lf 5)
 (bd (Bd L a1.bP (-1000) 1000) λr54=>
 (jp (.cn (!r54)
 (.lf true)
 (.lf (a1.bP == 0))) (λb55=>
 (cn b55
 (lf 2)
 (lf 0))))))
def Aeq [An A Int](a1:Cb)(o56:Int):A:=
 (cn (!(decide (o56>=0)))
 (lf 5)
 (bd (Bd L a1.bP (-1000) 1000) λr57=>
 (jp (.cn (!r57)
 (.lf true)
 (.lf (a1.bP == 0))) (λb58=>
 (cn b58
 (lf 2)
 (lf 0))))))
def Abm [An A Int](a1:Cb)(o59:Int):A:=
 (cn (!(decide (o59>=0)))
 (lf 5)
 (bd (Bd L a1.bP (-1000) 1000) λr60=>
 (jp (.cn (!r60)
 (.lf true)
 (.lf (a1.bP == 0))) (λb61=>
 (cn b61
 (lf 2)
 (lf 0))))))
def Abn [An A Int](a1:Cb)(o62:Int):A:=
 (cn (!(decide (o62>=0)))
 (lf 5)
 (bd (Bd L a1.bP (-1000) 1000) λr63=>
 (jp (.cn (!r63)
 (.lf true)
 (.lf (a1.bP == 0))) (λb64=>
 (cn b64
 (lf 2)
 (lf 0))))))
def Aev [An A Int](a0:Ab)(a1:Cb)(nx3:A)(nx4:A)(nx5:A)(nx6:A)(nx7:A)(nx8:A)(nx9:A)(nx10:A)(nx11:A):A:=
 (cn (a1.bF.toList == (⟨#[99,114,101,97,116,101,100]⟩:Yb).toList)
 (cn (a1.bF.toList == (⟨#[99,114,101,97,116,101,100]⟩:Yb).toList)
 (bd (Dg L a0 a1.aD) λr1=>
 (cn (!(decide (r1>=0)))
 (lf 5)
 (bd (Bd L a1.bP (-1000) 1000) λr2=>
 (jp (.cn (!r2)
 (.lf true)
 (.lf (a1.bP == 0))) (λb3=>
 (cn b3
 (lf 2)
 (lf 0)))))))
 (cn (a1.bF.toList == (⟨#[115,116,111,114,101,100]⟩:Yb).toList)
 (cn (a1.bF.toList == (⟨#[115,116,111,114,101,100]⟩:Yb).toList)
 nx3
 (cn (a1.bF.toList == (⟨#[99,111,117,110,116,101,100]⟩:Yb).toList)
 (bd (Bv L a0.aT a1.aD) λr5=>
 (cn (!r5)
 (lf 5)
 (bd (Bd L a1.bP (-1000) 1000) λr6=>
 (jp (.cn (!r6)
 (.lf true)
 (.lf (a1.bP == 0))) (λb7=>
 (cn b7
 (lf 2)
 (lf 0)))))))
 (lf 1)))
 (cn (a1.bF.toList == (⟨#[101,110,116,101,114,101,100]⟩:Yb).toList)
 (cn (a1.bF.toList == (⟨#[101,110,116,101,114,101,100]⟩:Yb).toList)
 nx4
 (cn (a1.bF.toList == (⟨#[99,111,117,110,116,101,100]⟩:Yb).toList)
 (bd (Bv L a0.aT a1.aD) λr8=>
 (cn (!r8)
 (lf 5)
 (bd (Bd L a1.bP (-1000) 1000) λr9=>
 (jp (.cn (!r9)
 (.lf true)
 (.lf (a1.bP == 0))) (λb10=>
 (cn b10
 (lf 2)
 (lf 0)))))))
 (lf 1)))
 (cn (a1.bF.toList == (⟨#[108,101,102,116]⟩:Yb).toList)
 nx5
 (cn (a1.bF.toList == (⟨#[99,111,117,110,116,101,100]⟩:Yb).toList)
 (bd (Bv L a0.aT a1.aD) λr11=>
 (cn (!r11)
 (lf 5)
 (bd (Bd L a1.bP (-1000) 1000) λr12=>
 (jp (.cn (!r12)
 (.lf true)
 (.lf (a1.bP == 0))) (λb13=>
 (cn b13
 (lf 2)
 (lf 0)))))))
 (lf 1))))))
 (cn (a1.bF.toList == (⟨#[101,110,100,101,100]⟩:Yb).toList)
 (cn (a1.bF.toList == (⟨#[101,110,100,101,100]⟩:Yb).toList)
 (bd (Dg L a0 a1.aD) λr14=>
 (cn (!(decide (r14>=0)))
 (lf 5)
 (bd (Bd L a1.bP (-1000) 1000) λr15=>
 (jp (.cn (!r15)
 (.lf true)
 (.lf (a1.bP == 0))) (λb16=>
 (cn b16
 (lf 2)
 (lf 0)))))))
 (cn (a1.bF.toList == (⟨#[115,116,111,114,101,100]⟩:Yb).toList)
 (cn (a1.bF.toList == (⟨#[115,116,111,114,101,100]⟩:Yb).toList)
 nx6
 (cn (a1.bF.toList == (⟨#[99,111,117,110,116,101,100]⟩:Yb).toList)
 (bd (Bv L a0.aT a1.aD) λr17=>
 (cn (!r17)
 (lf 5)
 (bd (Bd L a1.bP (-1000) 1000) λr18=>
 (jp (.cn (!r18)
 (.lf true)
 (.lf (a1.bP == 0))) (λb19=>
 (cn b19
 (lf 2)
 (lf 0)))))))
 (lf 1)))
 (cn (a1.bF.toList == (⟨#[101,110,116,101,114,101,100]⟩:Yb).toList)
 (cn (a1.bF.toList == (⟨#[101,110,116,101,114,101,100]⟩:Yb).toList)
 nx7
 (cn (a1.bF.toList == (⟨#[99,111,117,110,116,101,100]⟩:Yb).toList)
 (bd (Bv L a0.aT a1.aD) λr20=>
 (cn (!r20)
 (lf 5)
 (bd (Bd L a1.bP (-1000) 1000) λr21=>
 (jp (.cn (!r21)
 (.lf true)
 (.lf (a1.bP == 0))) (λb22=>
 (cn b22
 (lf 2)
 (lf 0)))))))
 (lf 1)))
 (cn (a1.bF.toList == (⟨#[108,101,102,116]⟩:Yb).toList)
 nx8
 (cn (a1.bF.toList == (⟨#[99,111,117,110,116,101,100]⟩:Yb).toList)
 (bd (Bv L a0.aT a1.aD) λr23=>
 (cn (!r23)
 (lf 5)
 (bd (Bd L a1.bP (-1000) 1000) λr24=>
 (jp (.cn (!r24)
 (.lf true)
 (.lf (a1.bP == 0))) (λb25=>
 (cn b25
 (lf 2)
 (lf 0)))))))
 (lf 1))))))
 (cn (a1.bF.toList == (⟨#[105,110,115,105,100,101]⟩:Yb).toList)
 (bd (Dg L a0 a1.aD) λr26=>
 (cn (!(decide (r26>=0)))
 (lf 5)
 (bd (Bd L a1.bP (-1000) 1000) λr27=>
 (jp (.cn (!r27)
 (.lf true)
 (.lf (a1.bP == 0))) (λb28=>
 (cn b28
 (lf 2)
 (lf 0)))))))
 (cn (a1.bF.toList == (⟨#[115,116,111,114,101,100]⟩:Yb).toList)
 (cn (a1.bF.toList == (⟨#[115,116,111,114,101,100]⟩:Yb).toList)
 nx9
 (cn (a1.bF.toList == (⟨#[99,111,117,110,116,101,100]⟩:Yb).toList)
 (bd (Bv L a0.aT a1.aD) λr29=>
 (cn (!r29)
 (lf 5)
 (bd (Bd L a1.bP (-1000) 1000) λr30=>
 (jp (.cn (!r30)
 (.lf true)
 (.lf (a1.bP == 0))) (λb31=>
 (cn b31
 (lf 2)
 (lf 0)))))))
 (lf 1)))
 (cn (a1.bF.toList == (⟨#[101,110,116,101,114,101,100]⟩:Yb).toList)
 (cn (a1.bF.toList == (⟨#[101,110,116,101,114,101,100]⟩:Yb).toList)
 nx10
 (cn (a1.bF.toList == (⟨#[99,111,117,110,116,101,100]⟩:Yb).toList)
 (bd (Bv L a0.aT a1.aD) λr32=>
 (cn (!r32)
 (lf 5)
 (bd (Bd L a1.bP (-1000) 1000) λr33=>
 (jp (.cn (!r33)
 (.lf true)
 (.lf (a1.bP == 0))) (λb34=>
 (cn b34
 (lf 2)
 (lf 0)))))))
 (lf 1)))
 (cn (a1.bF.toList == (⟨#[108,101,102,116]⟩:Yb).toList)
 nx11
 (cn (a1.bF.toList == (⟨#[99,111,117,110,116,101,100]⟩:Yb).toList)
 (bd (Bv L a0.aT a1.aD) λr35=>
 (cn (!r35)
 (lf 5)
 (bd (Bd L a1.bP (-1000) 1000) λr36=>
 (jp (.cn (!r36)
 (.lf true)
 (.lf (a1.bP == 0))) (λb37=>
 (cn b37
 (lf 2)
 (lf 0)))))))
 (lf 1))))))))
def Ava [An A Int](a0:Ab)(a1:Cb):A:=Aev L a0 a1 (bd (Ee L a0.aJ a0 a1) λo38=>Aek L a1 o38) (bd (Ee L a0.aJ a0 a1) λo41=>Ael L a1 o41) (bd (Ee L a0.aJ a0 a1) λo44=>Aem L a1 o44) (bd (Ee L a0.aJ a0 a1) λo47=>Aen L a1 o47) (bd (Ee L a0.aJ a0 a1) λo50=>Aeo L a1 o50) (bd (Ee L a0.aJ a0 a1) λo53=>Aep L a1 o53) (bd (Ee L a0.aJ a0 a1) λo56=>Aeq L a1 o56) (bd (Ee L a0.aJ a0 a1) λo59=>Abm L a1 o59) (bd (Ee L a0.aJ a0 a1) λo62=>Abn L a1 o62)
def Aji(a0:Ab)(a1:Cb):Option Int:=Ava L a0 a1
def Bqy:Fs:=E2 I 210 Cr Axz (Aji L) λa0 a1 r h=>hF Tryz.func210 (C:=K2 L) (oS _) L (λkk=>eE (Aev L a0 a1 (hq (Wt L (K1 (K2 L) L 8 2 3 Ae3.u.l ⟨[(6,zq4),(5,lv (.t213 a0.aJ)),(0,lv (.t213 a0.aJ)),(1,zq4),Atr],[(2,(Af a0)),(3,(Cy a1))],1004⟩ (some 7) (kN (KA (K2 L) L 8 Ae3 (rl [2,1]) (KJ Tryz.f235 (K1 (K2 L) L 9 1 4 Ae2.w.l.u.l.w.r.l ⟨[(23,zq4),(22,lv (.t213 a0.aJ)),Axh,zq9,Qe,(4,I 0),Axj,(7,S a1.bF),(17,B (a1.bF.toList == (⟨#[115,116,111,114,101,100]⟩:Yb).toList))],[(2,(Af a0)),(3,(Cy a1))],0⟩ (some 24) (kN (KA (K2 L) L 9 Ae2 (rl [4,1,2,1,5,1]) (KE Tryz.f210 kk)))))))) a0.aJ a0 a1) λo38=>Aek L a1 o38) (hq (Wt L (K1 (K2 L) L 8 2 3 Ae3.u.l ⟨[(6,zq4),(5,lv (.t213 a0.aJ)),(0,lv (.t213 a0.aJ)),(1,zq4),Atr],[(2,(Af a0)),(3,(Cy a1))],1004⟩ (some 7) (kN (KA (K2 L) L 8 Ae3 (rl [2,1]) (KJ Tryz.f235 (K1 (K2 L) L 9 1 4 Ae2.w.l.u.l.w.r.l ⟨[(23,zq4),(22,lv (.t213 a0.aJ)),Axh,zq9,Qe,(4,I 0),Axj,(7,S a1.bF),(17,B (a1.bF.toList == (⟨#[101,110,116,101,114,101,100]⟩:Yb).toList))],[(2,(Af a0)),(3,(Cy a1))],0⟩ (some 24) (kN (KA (K2 L) L 9 Ae2 (rl [4,1,2,1,5,1]) (KE Tryz.f210 kk)))))))) a0.aJ a0 a1) λo41=>Ael L a1 o41) (hq (Wt L (K1 (K2 L) L 8 2 3 Ae3.u.l ⟨[(6,zq4),(5,lv (.t213 a0.aJ)),(0,lv (.t213 a0.aJ)),(1,zq4),Atr],[(2,(Af a0)),(3,(Cy a1))],1004⟩ (some 7) (kN (KA (K2 L) L 8 Ae3 (rl [2,1]) (KJ Tryz.f235 (K1 (K2 L) L 9 1 4 Ae2.w.l.u.l.w.r.l ⟨[(23,zq4),(22,lv (.t213 a0.aJ)),Axh,zq9,Qe,(4,I 0),Axj,(7,S a1.bF),(17,B (a1.bF.toList == (⟨#[108,101,102,116]⟩:Yb).toList))],[(2,(Af a0)),(3,(Cy a1))],0⟩ (some 24) (kN (KA (K2 L) L 9 Ae2 (rl [4,1,2,1,5,1]) (KE Tryz.f210 kk)))))))) a0.aJ a0 a1) λo44=>Aem L a1 o44) (hq (Wt L (K1 (K2 L) L 8 2 3 Ae3.u.l ⟨[(6,zq4),(5,lv (.t213 a0.aJ)),(0,lv (.t213 a0.aJ)),(1,zq4),Atr],[(2,(Af a0)),(3,(Cy a1))],1004⟩ (some 7) (kN (KA (K2 L) L 8 Ae3 (rl [2,1]) (KJ Tryz.f235 (K1 (K2 L) L 9 1 4 Ae2.w.l.u.l.w.r.l ⟨[(23,zq4),(22,lv (.t213 a0.aJ)),Axh,zq9,Qe,(4,I 0),Axj,(7,S a1.bF),(17,B (a1.bF.toList == (⟨#[115,116,111,114,101,100]⟩:Yb).toList))],[(2,(Af a0)),(3,(Cy a1))],0⟩ (some 24) (kN (KA (K2 L) L 9 Ae2 (rl [4,1,2,1,5,1]) (KE Tryz.f210 kk)))))))) a0.aJ a0 a1) λo47=>Aen L a1 o47) (hq (Wt L (K1 (K2 L) L 8 2 3 Ae3.u.l ⟨[(6,zq4),(5,lv (.t213 a0.aJ)),(0,lv (.t213 a0.aJ)),(1,zq4),Atr],[(2,(Af a0)),(3,(Cy a1))],1004⟩ (some 7) (kN (KA (K2 L) L 8 Ae3 (rl [2,1]) (KJ Tryz.f235 (K1 (K2 L) L 9 1 4 Ae2.w.l.u.l.w.r.l ⟨[(23,zq4),(22,lv (.t213 a0.aJ)),Axh,zq9,Qe,(4,I 0),Axj,(7,S a1.bF),(17,B (a1.bF.toList == (⟨#[101,110,116,101,114,101,100]⟩:Yb).toList))],[(2,(Af a0)),(3,(Cy a1))],0⟩ (some 24) (kN (KA (K2 L) L 9 Ae2 (rl [4,1,2,1,5,1]) (KE Tryz.f210 kk)))))))) a0.aJ a0 a1) λo50=>Aeo L a1 o50) (hq (Wt L (K1 (K2 L) L 8 2 3 Ae3.u.l ⟨[(6,zq4),(5,lv (.t213 a0.aJ)),(0,lv (.t213 a0.aJ)),(1,zq4),Atr],[(2,(Af a0)),(3,(Cy a1))],1004⟩ (some 7) (kN (KA (K2 L) L 8 Ae3 (rl [2,1]) (KJ Tryz.f235 (K1 (K2 L) L 9 1 4 Ae2.w.l.u.l.w.r.l ⟨[(23,zq4),(22,lv (.t213 a0.aJ)),Axh,zq9,Qe,(4,I 0),Axj,(7,S a1.bF),(17,B (a1.bF.toList == (⟨#[108,101,102,116]⟩:Yb).toList))],[(2,(Af a0)),(3,(Cy a1))],0⟩ (some 24) (kN (KA (K2 L) L 9 Ae2 (rl [4,1,2,1,5,1]) (KE Tryz.f210 kk)))))))) a0.aJ a0 a1) λo53=>Aep L a1 o53) (hq (Wt L (K1 (K2 L) L 8 2 3 Ae3.u.l ⟨[(6,zq4),(5,lv (.t213 a0.aJ)),(0,lv (.t213 a0.aJ)),(1,zq4),Atr],[(2,(Af a0)),(3,(Cy a1))],1004⟩ (some 7) (kN (KA (K2 L) L 8 Ae3 (rl [2,1]) (KJ Tryz.f235 (K1 (K2 L) L 9 1 4 Ae2.w.l.u.l.w.r.l ⟨[(23,zq4),(22,lv (.t213 a0.aJ)),Axh,zq9,Qe,(4,I 0),Axj,(7,S a1.bF),(17,B (a1.bF.toList == (⟨#[115,116,111,114,101,100]⟩:Yb).toList))],[(2,(Af a0)),(3,(Cy a1))],0⟩ (some 24) (kN (KA (K2 L) L 9 Ae2 (rl [4,1,2,1,5,1]) (KE Tryz.f210 kk)))))))) a0.aJ a0 a1) λo56=>Aeq L a1 o56) (hq (Wt L (K1 (K2 L) L 8 2 3 Ae3.u.l ⟨[(6,zq4),(5,lv (.t213 a0.aJ)),(0,lv (.t213 a0.aJ)),(1,zq4),Atr],[(2,(Af a0)),(3,(Cy a1))],1004⟩ (some 7) (kN (KA (K2 L) L 8 Ae3 (rl [2,1]) (KJ Tryz.f235 (K1 (K2 L) L 9 1 4 Ae2.w.l.u.l.w.r.l ⟨[(23,zq4),(22,lv (.t213 a0.aJ)),Axh,zq9,Qe,(4,I 0),Axj,(7,S a1.bF),(17,B (a1.bF.toList == (⟨#[101,110,116,101,114,101,100]⟩:Yb).toList))],[(2,(Af a0)),(3,(Cy a1))],0⟩ (some 24) (kN (KA (K2 L) L 9 Ae2 (rl [4,1,2,1,5,1]) (KE Tryz.f210 kk)))))))) a0.aJ a0 a1) λo59=>Abm L a1 o59) (hq (Wt L (K1 (K2 L) L 8 2 3 Ae3.u.l ⟨[(6,zq4),(5,lv (.t213 a0.aJ)),(0,lv (.t213 a0.aJ)),(1,zq4),Atr],[(2,(Af a0)),(3,(Cy a1))],1004⟩ (some 7) (kN (KA (K2 L) L 8 Ae3 (rl [2,1]) (KJ Tryz.f235 (K1 (K2 L) L 9 1 4 Ae2.w.l.u.l.w.r.l ⟨[(23,zq4),(22,lv (.t213 a0.aJ)),Axh,zq9,Qe,(4,I 0),Axj,(7,S a1.bF),(17,B (a1.bF.toList == (⟨#[108,101,102,116]⟩:Yb).toList))],[(2,(Af a0)),(3,(Cy a1))],0⟩ (some 24) (kN (KA (K2 L) L 9 Ae2 (rl [4,1,2,1,5,1]) (KE Tryz.f210 kk)))))))) a0.aJ a0 a1) λo62=>Abn L a1 o62))) h
end
end Go.Proofs.YtgacplpjamkieaaGreat.Ev
