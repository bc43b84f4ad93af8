import Derived.Test.YthjhkpgonleelaaGreatDoorBG1
namespace Go.Proofs.YthjhkpgonleelaaGreatDoor.Ev
open Go An
set_option maxRecDepth 100000
set_option maxHeartbeats 4000000
set_option linter.unusedVariables false
set_option linter.unusedSimpArgs false
set_option linter.unnecessarySimpa false
noncomputable section
variable {A:Type} (L n:Nat) (kk:Ep) (K:Ci) (k:Bn)
def Ays(F:Ab→Option Int):Prop:=∀y0 r,F y0=some r→Ho Tryz.prog 193 [Cw.en y0] I r
def Bkc:=CC Tryz.f193
def Ben(D5:Ab→Option Int)(L:Nat):Bt:=(orc 193 (A1 I Cw D5) (oL []))
theorem Bpk(D5:Ab→Option Int)(A52:Ays D5)(L:Nat):Ed Tryz.prog (Ben D5 L):=(Mu (a1 _ A52) (oS []))
def A12(a0:Ab)(v:L1):St:=⟨[(0,.any),(1,.any),(2,I 0),(3,I v.1),(7,lv (.t98 a0.Kids)),(8,I (a0.Kids.length:Int)),(9,I v.2)],[(1,(Dc a0))],0⟩
def So [An A Hl](D5:Ab→Option Int)(L:Nat)(a0:Ab)(rec:Int→Int→A)(Bg:Int)(Af:Int):A:=
 (lw Af a0.Kids
 (bd (D5 (Ab.cp (a0.Kids.getD (Int.toNat Af) default))) fun r1=>
 (rec (Bi (Bg+r1)) (Bi (Af+1))))
 (lf (0,Bg,Af)))
def Ip(D5:Ab→Option Int)(L:Nat)(a0:Ab):Nat→Int→Int→Option Hl
 |0,_,_=>none
 |n+1,Bg,Af=>So D5 L a0 (Ip D5 L a0 n) Bg Af
theorem Bbm(D5:Ab→Option Int)(L:Nat)(K:Ci)(a0:Ab):LP (EV (Ben D5 L) L 9 Bkc.w.l.u.l.l) [0,1,2,3,7,8,9] [1] (A12 a0) [.exit 0] (fun n v=>Ip D5 L a0 n v.1 v.2) K:=lE (fun _=>rfl) fun n v ih=>eE (So D5 L a0 (fun Bg Af=>re (ih (Bg,Af))) v.1 v.2)
def N8 [An A Int](D5:Ab→Option Int)(L:Nat)(o2:Nat×L1):A:=
 (sl o2.1 [(lf o2.2.1)])
def A0e(D5:Ab→Option Int)(L:Nat)(kk:Ep):Ci:=(Bs 0 (Bz (EV (Ben D5 L) L 9 Bkc.w.r) (Kb Tryz.prog (RS Tryz.f193) kk)))
theorem Bhs(D5:Ab→Option Int)(L:Nat)(kk:Ep)(a0:Ab)(o2:Nat×L1):kX [.exit 0] (A12 a0) (A0e D5 L kk) o2=ob (N8 D5 L o2) (kQ I kk):=eE (N8 D5 L o2)
def Agh [An A Int](D5:Ab→Option Int)(L:Nat)(a0:Ab):A:=(bd (Ip D5 L a0 L 1 0) fun o2=>N8 D5 L o2)
def Aba(D5:Ab→Option Int)(L:Nat)(a0:Ab):Option Int:=Agh D5 L a0
theorem Bn5(D5:Ab→Option Int)(A52:Ays D5)(L:Nat):Ays (Aba D5 L):=fun a0 r h=>hF Tryz.func193 (Bpk D5 A52 L) L (fun kk=>eE ((ho (Bbm D5 L (A0e D5 L kk) a0 L (1,0)) fun o2=>Bhs D5 L kk a0 o2))) h
def Jp:Nat→Ab→Option Int
 |0,_=>none
 |L+1,a0=>Aba (Jp L) L a0
theorem A95(L:Nat):Ays (Jp L):=by
 induction L with
 |zero=>exact fun _ _ h=>(by cases h)
 |succ L ih=>
  have i193:=ih
  exact Bn5 (Jp L) i193 L
def Bnp(L:Nat):Qi:=E1 I 193 Cw (Jp L) (A95 L)
def Ayt(F:Ab→Option Int):Prop:=∀y0 r,F y0=some r→Ho Tryz.prog 194 [Cw.en y0] I r
def Bkd:=CC Tryz.f194
def Beo(D6:Ab→Option Int)(L:Nat):Bt:=(orc 194 (A1 I Cw D6) (oL []))
theorem Bpl(D6:Ab→Option Int)(A53:Ayt D6)(L:Nat):Ed Tryz.prog (Beo D6 L):=(Mu (a1 _ A53) (oS []))
def A13(a0:Ab)(v:L1):St:=⟨[(0,.any),(1,.any),(2,I 0),(3,I v.1),(7,lv (.t98 a0.Kids)),(8,I (a0.Kids.length:Int)),(9,I v.2)],[(1,(Dc a0))],0⟩
def Sm [An A Hl](D6:Ab→Option Int)(L:Nat)(a0:Ab)(rec:Int→Int→A)(Bg:Int)(Af:Int):A:=
 (lw Af a0.Kids
 (bd (D6 (Ab.cp (a0.Kids.getD (Int.toNat Af) default))) fun r1=>
 (rec (if r1 > Bg then r1 else Bg) (Bi (Af+1))))
 (lf (0,Bg,Af)))
def Io(D6:Ab→Option Int)(L:Nat)(a0:Ab):Nat→Int→Int→Option Hl
 |0,_,_=>none
 |n+1,Bg,Af=>Sm D6 L a0 (Io D6 L a0 n) Bg Af
theorem Bbn(D6:Ab→Option Int)(L:Nat)(K:Ci)(a0:Ab):LP (EV (Beo D6 L) L 9 Bkd.w.l.u.l.l) [0,1,2,3,7,8,9] [1] (A13 a0) [.exit 0] (fun n v=>Io D6 L a0 n v.1 v.2) K:=lE (fun _=>rfl) fun n v ih=>eE (Sm D6 L a0 (fun Bg Af=>re (ih (Bg,Af))) v.1 v.2)
def N7 [An A Int](D6:Ab→Option Int)(L:Nat)(o2:Nat×L1):A:=
 (sl o2.1 [(lf (Bi (o2.2.1+1)))])
def A0f(D6:Ab→Option Int)(L:Nat)(kk:Ep):Ci:=(Bs 0 (Bz (EV (Beo D6 L) L 9 Bkd.w.r) (Kb Tryz.prog (RS Tryz.f194) kk)))
theorem Bht(D6:Ab→Option Int)(L:Nat)(kk:Ep)(a0:Ab)(o2:Nat×L1):kX [.exit 0] (A13 a0) (A0f D6 L kk) o2=ob (N7 D6 L o2) (kQ I kk):=eE (N7 D6 L o2)
def Agg [An A Int](D6:Ab→Option Int)(L:Nat)(a0:Ab):A:=(bd (Io D6 L a0 L 0 0) fun o2=>N7 D6 L o2)
def Aa9(D6:Ab→Option Int)(L:Nat)(a0:Ab):Option Int:=Agg D6 L a0
theorem Bn6(D6:Ab→Option Int)(A53:Ayt D6)(L:Nat):Ayt (Aa9 D6 L):=fun a0 r h=>hF Tryz.func194 (Bpl D6 A53 L) L (fun kk=>eE ((ho (Bbn D6 L (A0f D6 L kk) a0 L (0,0)) fun o2=>Bht D6 L kk a0 o2))) h
def Jo:Nat→Ab→Option Int
 |0,_=>none
 |L+1,a0=>Aa9 (Jo L) L a0
theorem A96(L:Nat):Ayt (Jo L):=by
 induction L with
 |zero=>exact fun _ _ h=>(by cases h)
 |succ L ih=>
  have i194:=ih
  exact Bn6 (Jo L) i194 L
def Bnq(L:Nat):Qi:=E1 I 194 Cw (Jo L) (A96 L)
def Ac6 [An A Int](L:Nat)(a0:Int):A:=
 (jp (.cn (a0 == 1)
 (.lf true)
 (.lf (a0 == 2))) (fun b1=>
 (jp (.cn b1
 (.lf true)
 (.lf (a0 == 3))) (fun b2=>
 (jp (.cn b2
 (.lf true)
 (.lf (a0 == 4))) (fun b3=>
 (cn b3
 (lf 0)
 (jp (.cn (decide (a0≥5))
 (.lf (decide (a0≤8)))
 (.lf false)) (fun b4=>
 (cn b4
 (lf 1)
 (jp (.cn (decide (a0≥9))
 (.lf (decide (a0≤21)))
 (.lf false)) (fun b5=>
 (cn b5
 (lf 2)
 (jp (.cn (decide (a0≥22))
 (.lf (decide (a0≤26)))
 (.lf false)) (fun b6=>
 (cn b6
 (lf 0)
 (lf (-1))))))))))))))))))
def Tl(a0:Int):Option Int:=Ac6 L a0
def Bjj:Qi:=E1 I 222 (cI .i64) (Tl L) fun a0 r h=>hF Tryz.func222 (oS []) L (fun kk=>eE (Ac6 L a0)) h
def T4 [An A Bool](a0:Bj)(a1:Int):A:=
 (cn (a1 == 3)
 (lf (!a0.u_code))
 (cn (a1 == 25)
 (cn (a1 == 25)
 (lf a0.u_code)
 (bd (Tl L a1) fun r1=>
 (lf (decide (r1≥0)))))
 (cn (a1 == 26)
 (lf a0.u_code)
 (bd (Tl L a1) fun r2=>
 (lf (decide (r2≥0)))))))
def O2(a0:Bj)(a1:Int):Option Bool:=T4 L a0 a1
def Bnt:Qi:=E2 B 221 Li (cI .i64) (O2 L) fun a0 a1 r h=>hF Tryz.func221 (oS [Bjj L]) L (fun kk=>eE (T4 L a0 a1)) h
def t6 [An A Bool](L:Nat)(a0:Int):A:=
 (jp (.cn (decide (a0≥22))
 (.lf (decide (a0≤24)))
 (.lf false)) (fun b1=>
 (lf b1)))
def R6(a0:Int):Option Bool:=t6 L a0
def Bjk:Qi:=E1 B 228 (cI .i64) (R6 L) fun a0 r h=>hF Tryz.func228 (oS []) L (fun kk=>eE (t6 L a0)) h
def T5 [An A Bool](a0:Bj)(a1:Int):A:=
 (jb (.cn (a1 == 3)
 (.lf true)
 (.bd (R6 L a1) fun r2=>
 (.cn r2
 (.lf (!a0.u_code))
 (.lf false)))) (fun b1=>
 (lf b1)))
def Ii(a0:Bj)(a1:Int):Option Bool:=T5 L a0 a1
def Bnu:Qi:=E2 B 223 Li (cI .i64) (Ii L) fun a0 a1 r h=>hF Tryz.func223 (oS [Bjk L]) L (fun kk=>eE (T5 L a0 a1)) h
def R3 [An A (Int×Int×Bool)](a0:Bj)(a1:Int):A:=
 (cn (a1 == 2)
 (lf (0,1,true))
 (cn (a1 == 25)
 (lf (0,15,true))
 (cn (a1 == 26)
 (lf (0,31,true))
 (bd (R6 L a1) fun r1=>
 (jp (.cn r1
 (.lf a0.u_code)
 (.lf false)) (fun b2=>
 (cn b2
 (lf (0,63,true))
 (lf (0,0,false)))))))))
def I9(a0:Bj)(a1:Int):Option (Int×Int×Bool):=R3 L a0 a1
def Bnv:Qi:=E2 (fun(x:Int×Int×Bool)=> .tup [I x.1,I x.2.1,B x.2.2]) 224 Li (cI .i64) (I9 L) fun a0 a1 r h=>hF Tryz.func224 (oS [Bjk L]) L (fun kk=>eE (R3 L a0 a1)) h
def Vk [An A Int](a0:Bj)(a1:Ab):A:=
 (bd (O2 L (⟨a0.u_code⟩:Bj) a1.Op) fun r1=>
 (cn (!r1)
 (lf 1)
 (bd (Tl L a1.Op) fun r2=>
 (cn ((a1.Kids.length:Int) != r2)
 (lf 1)
 (cn (!(a1.Name.toList == (⟨#[]⟩:ByteArray).toList))
 (bd (Ii L (⟨a0.u_code⟩:Bj) a1.Op) fun r3=>
 (cn (!r3)
 (lf 1)
 (cn (a1.Op == 1)
 (bd (Zn L a1.N) fun r4=>
 (cn (!r4)
 (lf 2)
 (lf 0)))
 (bd (I9 L (⟨a0.u_code⟩:Bj) a1.Op) fun r5=>
 (jp (.cn (!r5.2.2)
 (.lf (a1.N != 0))
 (.lf false)) (fun b6=>
 (cn b6
 (lf 1)
 (jp (.cn r5.2.2
 (.cn (decide (a1.N < r5.1))
 (.lf true)
 (.lf (decide (a1.N > r5.2.1))))
 (.lf false)) (fun b7=>
 (cn b7
 (lf 2)
 (bd (Ii L (⟨a0.u_code⟩:Bj) a1.Op) fun r8=>
 (cn r8
 (bd (Cr L a1.Name) fun r9=>
 (lf r9))
 (lf 0)))))))))))))
 (cn (a1.Op == 1)
 (bd (Zn L a1.N) fun r10=>
 (cn (!r10)
 (lf 2)
 (lf 0)))
 (bd (I9 L (⟨a0.u_code⟩:Bj) a1.Op) fun r11=>
 (jp (.cn (!r11.2.2)
 (.lf (a1.N != 0))
 (.lf false)) (fun b12=>
 (cn b12
 (lf 1)
 (jp (.cn r11.2.2
 (.cn (decide (a1.N < r11.1))
 (.lf true)
 (.lf (decide (a1.N > r11.2.1))))
 (.lf false)) (fun b13=>
 (cn b13
 (lf 2)
 (bd (Ii L (⟨a0.u_code⟩:Bj) a1.Op) fun r14=>
 (cn r14
 (bd (Cr L a1.Name) fun r15=>
 (lf r15))
 (lf 0))))))))))))))))
def Qk(a0:Bj)(a1:Ab):Option Int:=Vk L a0 a1
def Bji:Qi:=E2 I 214 Li Cw (Qk L) fun a0 a1 r h=>hF Tryz.func214 (oS [X35 L,Bey L,Bnt L,Bjj L,Bnu L,Bnv L]) L (fun kk=>eE (Vk L a0 a1)) h
def Ayu(F:Bj→Ab→Option Int):Prop:=∀y0 y1 r,F y0 y1=some r→Ho Tryz.prog 195 [Li.en y0,Cw.en y1] I r
def Bke:=CC Tryz.f195
def Bep(Dv:Bj→Ab→Option Int)(L:Nat):Bt:=(orc 195 (A2 I Li Cw Dv) (oL [Bji L]))
theorem Bpm(Dv:Bj→Ab→Option Int)(A54:Ayu Dv)(L:Nat):Ed Tryz.prog (Bep Dv L):=(Mu (a2 _ A54) (oS [Bji L]))
def A14(a1:Ab)(a0:Bj)(v:L1):St:=⟨[(0,.any),(1,.any),(2,.loc 2 0),(3,.any),(4,I v.1),(5,.any),(16,lv (.t98 a1.Kids)),(17,I (a1.Kids.length:Int)),(18,I v.2)],[(2,[B a0.u_code]),(3,(Dc a1))],0⟩
def Lm [An A Hl](Dv:Bj→Ab→Option Int)(L:Nat)(a1:Ab)(a0:Bj)(rec:Int→Int→A)(Au:Int)(Am:Int):A:=
 (lw Am a1.Kids
 (bd (Dv (⟨a0.u_code⟩:Bj) (Ab.cp (a1.Kids.getD (Int.toNat Am) default))) fun r2=>
 (cn (r2 != 0)
 (lf (0,r2,Am))
 (rec Au (Bi (Am+1)))))
 (lf (1,Au,Am)))
def Ez(Dv:Bj→Ab→Option Int)(L:Nat)(a1:Ab)(a0:Bj):Nat→Int→Int→Option Hl
 |0,_,_=>none
 |n+1,Au,Am=>Lm Dv L a1 a0 (Ez Dv L a1 a0 n) Au Am
theorem Bbo(Dv:Bj→Ab→Option Int)(L:Nat)(K:Ci)(a1:Ab)(a0:Bj):LP (EV (Bep Dv L) L 9 Bke.w.l.u.l.l) [0,1,2,3,4,5,16,17,18] [2,3] (A14 a1 a0) [.ret,.exit 0] (fun n v=>Ez Dv L a1 a0 n v.1 v.2) K:=lE (fun _=>rfl) fun n v ih=>eE (Lm Dv L a1 a0 (fun Au Am=>re (ih (Au,Am))) v.1 v.2)
def Ih [An A Int](Dv:Bj→Ab→Option Int)(L:Nat)(o3:Nat×L1):A:=
 (sl o3.1 [(lf o3.2.1),
 (lf 0)])
def A0g(Dv:Bj→Ab→Option Int)(L:Nat)(kk:Ep):Ci:=(Bs 0 (Bz (EV (Bep Dv L) L 9 Bke.w.r) (Kb Tryz.prog (RS Tryz.f195) kk)))
theorem Bhu(Dv:Bj→Ab→Option Int)(L:Nat)(kk:Ep)(a1:Ab)(a0:Bj)(o3:Nat×L1):kX [.ret,.exit 0] (A14 a1 a0) (A0g Dv L kk) o3=ob (Ih Dv L o3) (kQ I kk):=eE (Ih Dv L o3)
def Lz [An A Int](Dv:Bj→Ab→Option Int)(L:Nat)(a0:Bj)(a1:Ab)(nx1:A):A:=
 (bd (Qk L (⟨a0.u_code⟩:Bj) (Ab.cp a1)) fun r1=>
 (cn (r1 != 0)
 (lf r1)
 nx1))
def k4 [An A Int](Dv:Bj→Ab→Option Int)(L:Nat)(a0:Bj)(a1:Ab):A:=Lz Dv L a0 a1 (bd (Ez Dv L a1 a0 L 0 0) fun o3=>Ih Dv L o3)
def Tu(Dv:Bj→Ab→Option Int)(L:Nat)(a0:Bj)(a1:Ab):Option Int:=k4 Dv L a0 a1
theorem Bn7(Dv:Bj→Ab→Option Int)(A54:Ayu Dv)(L:Nat):Ayu (Tu Dv L):=fun a0 a1 r h=>hF Tryz.func195 (Bpm Dv A54 L) L (fun kk=>eE (Lz Dv L a0 a1 (ho (Bbo Dv L (A0g Dv L kk) a1 a0 L (0,0)) fun o3=>Bhu Dv L kk a1 a0 o3))) h
def Eo:Nat→Bj→Ab→Option Int
 |0,_,_=>none
 |L+1,a0,a1=>Tu (Eo L) L a0 a1
theorem A97(L:Nat):Ayu (Eo L):=by
 induction L with
 |zero=>exact fun _ _ _ h=>(by cases h)
 |succ L ih=>
  have i195:=ih
  exact Bn7 (Eo L) i195 L
def Bnr(L:Nat):Qi:=E2 I 195 Li Cw (Eo L) (A97 L)
def T3 [An A Int](a0:Bj)(a1:Ab):A:=
 (bd (Jp L (Ab.cp a1)) fun r1=>
 (cn (decide (r1 > 60))
 (lf 6)
 (bd (Jo L (Ab.cp a1)) fun r2=>
 (cn (decide (r2 > 12))
 (lf 11)
 (bd (Eo L (⟨a0.u_code⟩:Bj) (Ab.cp a1)) fun r3=>
 (lf r3))))))
def Lf(a0:Bj)(a1:Ab):Option Int:=T3 L a0 a1
def Bjd:Qi:=E2 I 165 Li Cw (Lf L) fun a0 a1 r h=>hF Tryz.func165 (oS [Bnp L,Bnq L,Bnr L]) L (fun kk=>eE (T3 L a0 a1)) h
def Abk [An A Int](a0:Ab):A:=
 (bd (Lf L (⟨false⟩:Bj) (Ab.cp a0)) fun r1=>
 (lf r1))
def Nl(a0:Ab):Option Int:=Abk L a0
def Bns:Qi:=E1 I 220 Cw (Nl L) fun a0 r h=>hF Tryz.func220 (oS [Bjd L]) L (fun kk=>eE (Abk L a0)) h
def A22:=CC Tryz.f212
def Avt:Bt:=oL [X35 L,Beu L,Bns L]
def A15(a1:Bp)(a0:Ag)(v:L1):St:=⟨[(0,.any),(1,.any),(2,.loc 2 0),(3,.loc 3 0),(4,I v.1),(9,.any),(10,.any),(12,.any),(13,.any),(24,.lst true (.t275 [(⟨a1.u_name,a0.Name⟩:Fs),(⟨a1.u_of,a0.Of⟩:Fs)])),(25,I ([(⟨a1.u_name,a0.Name⟩:Fs),(⟨a1.u_of,a0.Of⟩:Fs)].length:Int)),(26,I v.2),(53,.any),(74,.any)],[(2,(Vp a0)),(3,(Vq a1))],0⟩
def Ym [An A Hl](a1:Bp)(a0:Ag)(rec:Int→Int→A)(Au:Int)(Am:Int):A:=
 (cn (decide (Am < ([(⟨a1.u_name,a0.Name⟩:Fs),(⟨a1.u_of,a0.Of⟩:Fs)].length:Int)))
 (gq (0≤Am)
 (gq (Am < (([(⟨a1.u_name,a0.Name⟩:Fs),(⟨a1.u_of,a0.Of⟩:Fs)].length:Nat):Int))
 (bd (Cr L (([(⟨a1.u_name,a0.Name⟩:Fs),(⟨a1.u_of,a0.Of⟩:Fs)].getD (Int.toNat Am) default).u_name)) fun r1=>
 (jp (.cn (([(⟨a1.u_name,a0.Name⟩:Fs),(⟨a1.u_of,a0.Of⟩:Fs)].getD (Int.toNat Am) default).u_is)
 (.lf (r1 != 0))
 (.lf false)) (fun b2=>
 (cn b2
 (lf (0,r1,Am))
 (rec Au (Bi (Am+1)))))))))
 (lf (1,Au,Am)))
def Iz(L:Nat)(a1:Bp)(a0:Ag):Nat→Int→Int→Option Hl
 |0,_,_=>none
 |n+1,Au,Am=>Ym L a1 a0 (Iz L a1 a0 n) Au Am
theorem Bbp(a1:Bp)(a0:Ag):LP (EV (Avt L) L 9 A22.u.l.u.l.l) [0,1,2,3,4,9,10,12,13,24,25,26,53,74] [2,3] (A15 a1 a0) [.ret,.exit 0] (fun n v=>Iz L a1 a0 n v.1 v.2) K:=lE (fun _=>rfl) fun n v ih=>eE (Ym L a1 a0 (fun Au Am=>re (ih (Au,Am))) v.1 v.2)
def A16(a1:Bp)(a0:Ag)(v:L1):St:=⟨[(0,.any),(1,.any),(2,.loc 2 0),(3,.loc 3 0),(4,I v.1),(6,.any),(7,.any),(12,.any),(13,.any),(26,.any),(51,.lst true (.t277 [(⟨a1.u_e,(Ab.cp a0.E)⟩:Ma),(⟨a1.u_f,(Ab.cp a0.F)⟩:Ma)])),(52,I ([(⟨a1.u_e,(Ab.cp a0.E)⟩:Ma),(⟨a1.u_f,(Ab.cp a0.F)⟩:Ma)].length:Int)),(53,I v.2),(74,.any)],[(2,(Vp a0)),(3,(Vq a1))],0⟩
def Yn [An A Hl](a1:Bp)(a0:Ag)(rec:Int→Int→A)(Cn:Int)(Bw:Int):A:=
 (cn (decide (Bw < ([(⟨a1.u_e,(Ab.cp a0.E)⟩:Ma),(⟨a1.u_f,(Ab.cp a0.F)⟩:Ma)].length:Int)))
 (gq (0≤Bw)
 (gq (Bw < (([(⟨a1.u_e,(Ab.cp a0.E)⟩:Ma),(⟨a1.u_f,(Ab.cp a0.F)⟩:Ma)].length:Nat):Int))
 (cn (!(([(⟨a1.u_e,(Ab.cp a0.E)⟩:Ma),(⟨a1.u_f,(Ab.cp a0.F)⟩:Ma)].getD (Int.toNat Bw) default).u_is))
 (rec Cn (Bi (Bw+1)))
 (bd (Nl L (Ab.cp (([(⟨a1.u_e,(Ab.cp a0.E)⟩:Ma),(⟨a1.u_f,(Ab.cp a0.F)⟩:Ma)].getD (Int.toNat Bw) default).u_e))) fun r4=>
 (cn (r4 != 0)
 (lf (0,r4,Bw))
 (rec Cn (Bi (Bw+1))))))))
 (lf (1,Cn,Bw)))
def I0(L:Nat)(a1:Bp)(a0:Ag):Nat→Int→Int→Option Hl
 |0,_,_=>none
 |n+1,Cn,Bw=>Yn L a1 a0 (I0 L a1 a0 n) Cn Bw
theorem Bbq(a1:Bp)(a0:Ag):LP (EV (Avt L) L 9 A22.w.l.u.l.l) [0,1,2,3,4,6,7,12,13,26,51,52,53,74] [2,3] (A16 a1 a0) [.ret,.exit 2] (fun n v=>I0 L a1 a0 n v.1 v.2) K:=lE (fun _=>rfl) fun n v ih=>eE (Yn L a1 a0 (fun Cn Bw=>re (ih (Cn,Bw))) v.1 v.2)
def A17(a0:Ag)(a1:Bp)(v:L1):St:=⟨[(0,.any),(1,.any),(2,.loc 2 0),(3,.loc 3 0),(4,I v.1),(6,.any),(7,.any),(9,.any),(10,.any),(26,.any),(53,.any),(72,lv (.t98 a0.Args)),(73,I (a0.Args.length:Int)),(74,I v.2)],[(2,(Vp a0)),(3,(Vq a1))],0⟩
def Sx [An A Hl](a0:Ag)(a1:Bp)(rec:Int→Int→A)(Et:Int)(Kx:Int):A:=
 (lw Kx a0.Args
 (bd (Nl L (Ab.cp (a0.Args.getD (Int.toNat Kx) default))) fun r6=>
 (cn (r6 != 0)
 (lf (0,r6,Kx))
 (rec Et (Bi (Kx+1)))))
 (lf (1,Et,Kx)))
def I1(L:Nat)(a0:Ag)(a1:Bp):Nat→Int→Int→Option Hl
 |0,_,_=>none
 |n+1,Et,Kx=>Sx L a0 a1 (I1 L a0 a1 n) Et Kx
theorem Bbr(a0:Ag)(a1:Bp):LP (EV (Avt L) L 9 A22.x.l.u.l.l) [0,1,2,3,4,6,7,9,10,26,53,72,73,74] [2,3] (A17 a0 a1) [.ret,.exit 4] (fun n v=>I1 L a0 a1 n v.1 v.2) K:=lE (fun _=>rfl) fun n v ih=>eE (Sx L a0 a1 (fun Et Kx=>re (ih (Et,Kx))) v.1 v.2)
def Ol [An A Int](a1:Bp)(a0:Ag)(o7:Nat×L1):A:=
 (sl o7.1 [(lf o7.2.1),
 (cn a1.u_dist
 (bd (Em L a0.Dist) fun r8=>
 (lf r8))
 (lf 0))])
def A0j:Ci:=(Bs 4 (Bz (EV (Avt L) L 9 A22.x.r) (Kb Tryz.prog (RS Tryz.f212) kk)))
theorem Bhx(a0:Ag)(a1:Bp)(o7:Nat×L1):kX [.ret,.exit 4] (A17 a0 a1) (A0j L kk) o7=ob (Ol L a1 a0 o7) (kQ I kk):=eE (Ol L a1 a0 o7)
def Tf [An A Int](L:Nat)(a0:Ag)(a1:Bp)(o5:Nat×L1)(nx3:Hl→A):A:=
 (sl o5.1 [(lf o5.2.1),
 (cn (decide ((a0.Args.length:Int) > 6))
 (lf 6)
 (nx3 o5))])
def S6 [An A Int](a0:Ag)(a1:Bp)(o5:Nat×L1):A:=Tf L a0 a1 o5 (fun o5=>bd (I1 L a0 a1 L o5.2.1 0) fun o7=>Ol L a1 a0 o7)
def A0i:Ci:=(Bs 2 (Bz (EV (Avt L) L 9 A22.w.r) (Kb Tryz.prog (RS Tryz.f212) kk)))
theorem Bhw(a1:Bp)(a0:Ag)(o5:Nat×L1):kX [.ret,.exit 2] (A16 a1 a0) (A0i L kk) o5=ob (S6 L a0 a1 o5) (kQ I kk):=eE (Tf L a0 a1 o5 (fun o5=>ho (Bbr L (A0j L kk) a0 a1 L (o5.2.1,0)) fun o7=>Bhx L kk a0 a1 o7))
def Te [An A Int](L:Nat)(a1:Bp)(a0:Ag)(o3:Nat×L1)(nx2:Hl→A):A:=
 (sl o3.1 [(lf o3.2.1),
 (nx2 o3)])
def S5 [An A Int](a1:Bp)(a0:Ag)(o3:Nat×L1):A:=Te L a1 a0 o3 (fun o3=>bd (I0 L a1 a0 L o3.2.1 0) fun o5=>S6 L a0 a1 o5)
def A0h:Ci:=(Bs 0 (Bz (EV (Avt L) L 9 A22.u.r) (Kb Tryz.prog (RS Tryz.f212) kk)))
theorem Bhv(a1:Bp)(a0:Ag)(o3:Nat×L1):kX [.ret,.exit 0] (A15 a1 a0) (A0h L kk) o3=ob (S5 L a1 a0 o3) (kQ I kk):=eE (Te L a1 a0 o3 (fun o3=>ho (Bbq L (A0i L kk) a1 a0 L (o3.2.1,0)) fun o5=>Bhw L kk a1 a0 o5))
def Agp [An A Int](a0:Ag)(a1:Bp):A:=(bd (Iz L a1 a0 L 0 0) fun o3=>S5 L a1 a0 o3)
def Tz(a0:Ag)(a1:Bp):Option Int:=Agp L a0 a1
def Bjh:Qi:=E2 I 212 Aj3 Aj4 (Tz L) fun a0 a1 r h=>hF Tryz.func212 (C:=Avt L) (oS _) L (fun kk=>eE ((ho (Bbp L (A0h L kk) a1 a0 L (0,0)) fun o3=>Bhv L kk a1 a0 o3))) h
def Ayq(F:(List Ag)→Option Int):Prop:=∀y0 r,F y0=some r→Ho Tryz.prog 187 [Aer.en y0] I r
def Bj9:=CC Tryz.f187
def Bek(D0:(List Ag)→Option Int)(L:Nat):Bt:=(orc 187 (A1 I Aer D0) (oL [Bjf L,Bjg L,Bjh L]))
theorem Bpi(D0:(List Ag)→Option Int)(A50:Ayq D0)(L:Nat):Ed Tryz.prog (Bek D0 L):=(Mu (a1 _ A50) (oS [Bjf L,Bjg L,Bjh L]))
def A10(a0:List Ag)(v:L1):St:=⟨[(0,.any),(2,I v.1),(10,lv (.t264 a0)),(11,I (a0.length:Int)),(12,I v.2)],[],0⟩
def Sw [An A Hl](D0:(List Ag)→Option Int)(L:Nat)(a0:List Ag)(rec:Int→Int→A)(Au:Int)(Am:Int):A:=
 (lw Am a0
 (bd (Xi L ((a0.getD (Int.toNat Am) default).Op)) fun r1=>
 (jb (.cn (!r1.2)
 (.lf true)
 (.bd (Xh L (Ag.cp (a0.getD (Int.toNat Am) default)) r1.1) fun r3=>
 (.lf (!r3)))) (fun b2=>
 (cn b2
 (lf (0,1,Am))
 (bd (Tz L (Ag.cp (a0.getD (Int.toNat Am) default)) r1.1) fun r4=>
 (cn (r4 != 0)
 (lf (0,r4,Am))
 (bd (D0 ((a0.getD (Int.toNat Am) default).Body)) fun r5=>
 (cn (r5 != 0)
 (lf (0,r5,Am))
 (bd (D0 ((a0.getD (Int.toNat Am) default).Else)) fun r6=>
 (cn (r6 != 0)
 (lf (0,r6,Am))
 (rec Au (Bi (Am+1)))))))))))))
 (lf (1,Au,Am)))
def Iy(D0:(List Ag)→Option Int)(L:Nat)(a0:List Ag):Nat→Int→Int→Option Hl
 |0,_,_=>none
 |n+1,Au,Am=>Sw D0 L a0 (Iy D0 L a0 n) Au Am
theorem Bbk(D0:(List Ag)→Option Int)(L:Nat)(K:Ci)(a0:List Ag):LP (EV (Bek D0 L) L 9 Bj9.u.l.u.l.l) [0,2,10,11,12] [] (A10 a0) [.ret,.exit 0] (fun n v=>Iy D0 L a0 n v.1 v.2) K:=lE (fun _=>rfl) fun n v ih=>eE (Sw D0 L a0 (fun Au Am=>re (ih (Au,Am))) v.1 v.2)
def Ok [An A Int](D0:(List Ag)→Option Int)(L:Nat)(o7:Nat×L1):A:=
 (sl o7.1 [(lf o7.2.1),
 (lf 0)])
def A0c(D0:(List Ag)→Option Int)(L:Nat)(kk:Ep):Ci:=(Bs 0 (Bz (EV (Bek D0 L) L 9 Bj9.u.r) (Kb Tryz.prog (RS Tryz.f187) kk)))
theorem Bhq(D0:(List Ag)→Option Int)(L:Nat)(kk:Ep)(a0:List Ag)(o7:Nat×L1):kX [.ret,.exit 0] (A10 a0) (A0c D0 L kk) o7=ob (Ok D0 L o7) (kQ I kk):=eE (Ok D0 L o7)
def Ago [An A Int](D0:(List Ag)→Option Int)(L:Nat)(a0:List Ag):A:=(bd (Iy D0 L a0 L 0 0) fun o7=>Ok D0 L o7)
def Abd(D0:(List Ag)→Option Int)(L:Nat)(a0:List Ag):Option Int:=Ago D0 L a0
theorem Bn3(D0:(List Ag)→Option Int)(A50:Ayq D0)(L:Nat):Ayq (Abd D0 L):=fun a0 r h=>hF Tryz.func187 (Bpi D0 A50 L) L (fun kk=>eE ((ho (Bbk D0 L (A0c D0 L kk) a0 L (0,0)) fun o7=>Bhq D0 L kk a0 o7))) h
def Js:Nat→(List Ag)→Option Int
 |0,_=>none
 |L+1,a0=>Abd (Js L) L a0
theorem A93(L:Nat):Ayq (Js L):=by
 induction L with
 |zero=>exact fun _ _ h=>(by cases h)
 |succ L ih=>
  have i187:=ih
  exact Bn3 (Js L) i187 L
def Bno(L:Nat):Qi:=E1 I 187 Aer (Js L) (A93 L)
def Abm [An A Int](a0:List Ag):A:=
 (bd (Jq L a0) fun r1=>
 (cn (decide (r1 > 200))
 (lf 6)
 (bd (Jr L a0) fun r2=>
 (cn (decide (r2 > 12))
 (lf 11)
 (bd (Js L a0) fun r3=>
 (lf r3))))))
def Y2(a0:List Ag):Option Int:=Abm L a0
def Bng:Qi:=E1 I 151 Aer (Y2 L) fun a0 r h=>hF Tryz.func151 (oS [Bnm L,Bnn L,Bno L]) L (fun kk=>eE (Abm L a0)) h
def Av1:=CC Tryz.f112
def Ans:Bt:=oL [X35 L,Bev L,Bnf L,Bng L]
def Ayf(p1_0:ByteArray)(p1_1:Ao)(p1_2:Ba)(p1_3:List ByteArray)(p1_4:List Bool)(k:Bn):Co→Prop:=fun o=>k (I o.1) [(1,(Cs p1_1)),(5,(P3 p1_2)),(21,[.mapO false false (.t9 o.2.1) (.t4 o.2.2)])]
def Z3 [An A Co](p1_0:ByteArray)(p1_1:Ao)(p1_2:Ba)(p1_3:List ByteArray)(p1_4:List Bool):A:=
 (bd (Cr L p1_0) fun r3=>
 (cn (r3 != 0)
 (lf (r3,p1_3,p1_4))
 (fq (p1_3.findIdx? fun b=>p1_0 == b) (fun i4=>
 (cn (p1_4.getD i4 default)
 (lf (4,p1_3,p1_4))
 (fq (p1_3.findIdx? fun b=>p1_0 == b) (fun i5=>
 (lf (0,p1_3,(p1_4.set i5 true))))
 (lf (0,(p1_3++ [p1_0]),(p1_4++ [true]))))))
 (fq (p1_3.findIdx? fun b=>p1_0 == b) (fun i6=>
 (lf (0,p1_3,(p1_4.set i6 true))))
 (lf (0,(p1_3++ [p1_0]),(p1_4++ [true])))))))
def Hs(p1_0:ByteArray)(p1_1:Ao)(p1_2:Ba)(p1_3:List ByteArray)(p1_4:List Bool):Option Co:=Z3 L p1_0 p1_1 p1_2 p1_3 p1_4
theorem Bab(p1_0:ByteArray)(p1_1:Ao)(p1_2:Ba)(p1_3:List ByteArray)(p1_4:List Bool):YO (Ans L) L 9 59 [.mp 21,S p1_0] [(1,(Cs p1_1)),(5,(P3 p1_2)),(21,[.mapO false false (.t9 p1_3) (.t4 p1_4)])] k=ob (Hs L p1_0 p1_1 p1_2 p1_3 p1_4) (Ayf p1_0 p1_1 p1_2 p1_3 p1_4 k):=(C6 _ _ _ y9 _ _ _ _ _ _ _).trans (eE (Z3 L p1_0 p1_1 p1_2 p1_3 p1_4))
def Ar6(r2:List Ba)(a0:Ao)(v:Y6):St:=⟨[(0,.any),(1,.loc 1 0),(2,I v.1),(3,.mp 21),(27,lv (.t200 r2)),(28,I (r2.length:Int)),(29,I v.2.1)],[(1,(Cs a0)),(21,[.mapO false false (.t9 v.2.2.1) (.t4 v.2.2.2)])],0⟩
def Ko [An A L5](Am:Int)(r2:List Ba)(Au:Int)(rec:Int→Int→List ByteArray→List Bool→A)(o7:Co):A:=
 (cn (o7.1 != 0)
 (lf (0,o7.1,Am,o7.2.1,o7.2.2))
 (bd (H0 L ((r2.getD (Int.toNat Am) default).Type_)) fun r8=>
 (cn (!r8)
 (lf (0,1,Am,o7.2.1,o7.2.2))
 (rec Au (Bi (Am+1)) o7.2.1 o7.2.2))))
def Nx [An A L5](L:Nat)(r2:List Ba)(a0:Ao)(rec:Int→Int→List ByteArray→List Bool→A)(Au:Int)(Am:Int)(Bl:List ByteArray)(C5:List Bool)(nx1:Int→(List ByteArray)→(List Bool)→Int→A):A:=
 (lw Am r2
 (nx1 Am Bl C5 Au)
 (lf (1,Au,Am,Bl,C5)))
def Tk [An A L5](r2:List Ba)(a0:Ao)(rec:Int→Int→List ByteArray→List Bool→A)(Au:Int)(Am:Int)(Bl:List ByteArray)(C5:List Bool):A:=Nx L r2 a0 rec Au Am Bl C5 (fun Am Bl C5 Au=>bd (Hs L ((r2.getD (Int.toNat Am) default).Name) a0 (r2.getD (Int.toNat Am) default) Bl C5) fun o7=>Ko L Am r2 Au rec o7)
def E5(L:Nat)(r2:List Ba)(a0:Ao):Nat→Int→Int→List ByteArray→List Bool→Option L5
 |0,_,_,_,_=>none
 |n+1,Au,Am,Bl,C5=>Tk L r2 a0 (E5 L r2 a0 n) Au Am Bl C5
def Ayd(r2:List Ba)(a0:Ao):Prop:=LI (EV (Ans L) L 9 Av1.w.u.l.u.l.l) [0,1,2,3,27,28,29] [1,21] (Ar6 r2 a0) [.ret,.exit 0] (fun n v=>E5 L r2 a0 n v.1 v.2.1 v.2.2.1 v.2.2.2) K n
def Azh(r2:List Ba)(Am:Int)(Au:Int)(a0:Ao)(Bl:List ByteArray)(C5:List Bool):Bn:=(Bx Tryz.prog (Ans L) (EI (Ans L) L 9) 1 (List.drop 4 Av1.w.u.l.u.l.l.w.l.l.u.l.l.ops) ⟨[(35,S (r2.getD (Int.toNat Am) default).Name),(34,.loc 5 0),(33,.mp 21),(1,.loc 1 0),(2,I Au),(3,.mp 21),(5,.loc 5 0),(27,lv (.t200 r2)),(28,I (r2.length:Int)),(29,I Am),(30,B (decide (Am < (r2.length:Int)))),(31,.ref (P3 (r2.getD (Int.toNat Am) default))),(32,.agg (P3 (r2.getD (Int.toNat Am) default)))],[(1,(Cs a0)),(5,(P3 (r2.getD (Int.toNat Am) default))),(21,[.mapO false false (.t9 Bl) (.t4 C5)])],0⟩ (some 36) (fun st9=>(Bz (EV (Ans L) L 9 Av1.w.u.l.u.l.l.w.l.l.u.l.r) (Bz (EV (Ans L) L 9 Av1.w.u.l.u.l.l.w.l.l.u.r) (Bs 1 (Bz (EV (Ans L) L 9 Av1.w.u.l.u.l.l.w.r) (H6 (Kj (EV (Ans L) L 9 Av1.w.u.l.u.l.l) [0,1,2,3,27,28,29] [1,21] n) [0,1,2,3,27,28,29] [1,21] K))))) .normal st9))
theorem Bgv(r2:List Ba)(Am:Int)(a0:Ao)(Bl:List ByteArray)(C5:List Bool)(Au:Int)(ih:Ayd L n K r2 a0)(o7:Co):Ayf ((r2.getD (Int.toNat Am) default).Name) a0 (r2.getD (Int.toNat Am) default) Bl C5 (Azh L n K r2 Am Au a0 Bl C5) o7=ob (Ko L Am r2 Au (E5 L r2 a0 n) o7) (kX [.ret,.exit 0] (Ar6 r2 a0) K):=eE (Ko L Am r2 Au (fun Au Am Bl C5=>re (ih (Au,Am,Bl,C5))) o7)
theorem Ba5(r2:List Ba)(a0:Ao):∀n,Ayd L n K r2 a0:=lE (fun _=>rfl) fun n v ih=>eE (Nx L r2 a0 (fun Au Am Bl C5=>re (ih (Au,Am,Bl,C5))) v.1 v.2.1 v.2.2.1 v.2.2.2 (fun Am Bl C5 Au=>ho (Bab L (Azh L n K r2 Am Au a0 Bl C5) ((r2.getD (Int.toNat Am) default).Name) a0 (r2.getD (Int.toNat Am) default) Bl C5) fun o7=>Bgv L n K r2 Am a0 Bl C5 Au ih o7))
def Kq [An A Int](a0:Ao)(o9:Nat×Y6):A:=
 (sl o9.1 [(lf o9.2.1),
 (bd (Y2 L a0.Body) fun r10=>
 (lf r10))])
def Azi:Ci:=(Bs 0 (Bz (EV (Ans L) L 9 Av1.w.u.r) (Kb Tryz.prog (RS Tryz.f112) kk)))
theorem Bgw(r2:List Ba)(a0:Ao)(o9:Nat×Y6):kX [.ret,.exit 0] (Ar6 r2 a0) (Azi L kk) o9=ob (Kq L a0 o9) (kQ I kk):=eE (Kq L a0 o9)
def Ny [An A Int](a0:Ao)(nx2:(List Ba)→A):A:=
 (jp (.cn (decide ((a0.Params.length:Int) > 6))
 (.lf true)
 (.lf (decide ((Bi ((a0.Params.length:Int)+(a0.Locals.length:Int))) > 16)))) (fun b1=>
 (cn b1
 (lf 6)
 (bd (Hk L [a0.Params,a0.Locals]) fun r2=>
 (nx2 r2)))))
def Acg [An A Int](a0:Ao):A:=Ny L a0 (fun r2=>bd (E5 L r2 a0 L 0 0 [] []) fun o9=>Kq L a0 o9)
def Sf(a0:Ao):Option Int:=Acg L a0
def Bm5:Qi:=E1 I 112 Alw (Sf L) fun a0 r h=>hF Tryz.func112 (C:=Ans L) (oS _) L (fun kk=>eE (Ny L a0 (fun r2=>ho (Ba5 L (Azi L kk) r2 a0 L (0,0,[],[])) fun o9=>Bgw L kk r2 a0 o9))) h
def Bka:=CC Tryz.f188
def Bj1:=CC Tryz.f152
def Avs(L:Nat):Bt:=oL []
def A1u(p1_0:List Ao)(p1_1:Aa)(p1_2:ByteArray)(v:L1):St:=⟨[(0,lv (.t93 p1_0)),(1,.clo 189 0 [.loc 3 0]),(4,I v.1),(7,I (p1_0.length:Int)),(8,I v.2)],[(2,(Ae p1_1)),(3,[S p1_2])],1004⟩
def Ns [An A Hl](L:Nat)(p1_0:List Ao)(p1_1:Aa)(p1_2:ByteArray)(rec:Int→Int→A)(Bg:Int)(Am:Int):A:=
 (lw Am p1_0
 (cn (((p1_0.getD (Int.toNat Am) default).Name).toList == p1_2.toList)
 (lf (0,Am,Am))
 (rec Bg (Bi (Am+1))))
 (lf (1,Bg,Am)))
def Gd(L:Nat)(p1_0:List Ao)(p1_1:Aa)(p1_2:ByteArray):Nat→Int→Int→Option Hl
 |0,_,_=>none
 |n+1,Bg,Am=>Ns L p1_0 p1_1 p1_2 (Gd L p1_0 p1_1 p1_2 n) Bg Am
theorem Bbe(p1_0:List Ao)(p1_1:Aa)(p1_2:ByteArray):LP (EV (Avs L) L 8 Bka.u.l.u.l.l) [0,1,4,7,8] [2,3] (A1u p1_0 p1_1 p1_2) [.ret,.exit 0] (fun n v=>Gd L p1_0 p1_1 p1_2 n v.1 v.2) K:=lE (fun _=>rfl) fun n v ih=>eE (Ns L p1_0 p1_1 p1_2 (fun Bg Am=>re (ih (Bg,Am))) v.1 v.2)
def Ap0(p1_0:List Ao)(p1_1:Aa)(p1_2:ByteArray)(k:Bn):Int→Prop:=fun o=>k (I o) [(2,(Ae p1_1)),(3,[S p1_2])]
def Nt [An A Int](L:Nat)(o1:Nat×L1):A:=
 (sl o1.1 [(lf o1.2.1),
 (lf (-1))])
def Azx:Ci:=(Bs 0 (Bz (EV (Avs L) L 8 Bka.u.r) (Dg Tryz.prog (RS Tryz.f188) k)))
theorem Bhb(p1_0:List Ao)(p1_1:Aa)(p1_2:ByteArray)(o1:Nat×L1):kX [.ret,.exit 0] (A1u p1_0 p1_1 p1_2) (Azx L k) o1=ob (Nt L o1) (Ap0 p1_0 p1_1 p1_2 k):=eE (Nt L o1)
def Z2 [An A Int](p1_0:List Ao)(p1_1:Aa)(p1_2:ByteArray):A:=(bd (Gd L p1_0 p1_1 p1_2 L 0 0) fun o1=>Nt L o1)
def Nr(p1_0:List Ao)(p1_1:Aa)(p1_2:ByteArray):Option Int:=Z2 L p1_0 p1_1 p1_2
theorem Bag(p1_0:List Ao)(p1_1:Aa)(p1_2:ByteArray):YO (Avs L) L 9 188 [lv (.t93 p1_0),.clo 189 0 [.loc 3 0]] [(2,(Ae p1_1)),(3,[S p1_2])] k=ob (Nr L p1_0 p1_1 p1_2) (Ap0 p1_0 p1_1 p1_2 k):=(C6 _ _ _ y9 _ _ _ _ _ _ _).trans (eE ((ho (Bbe L (Azx L k) p1_0 p1_1 p1_2 L (0,0)) fun o1=>Bhb L k p1_0 p1_1 p1_2 o1)))
def Kn [An A Int](L:Nat)(o2:Int):A:=
 (lf o2)
def Azy(a0:Aa)(a1:ByteArray):Bn:=(Bx Tryz.prog (Avs L) (EI (Avs L) L 9) 1 (List.drop 4 Bj1.u.l.ops) ⟨[(7,.clo 189 0 [.loc 3 0]),(6,lv (.t93 a0.Routines)),(5,.loc 2 10),(2,.loc 2 0),(3,.loc 3 0),(4,I 0)],[(2,(Ae a0)),(3,[S a1])],0⟩ (some 8) (fun st9=>(Bz (EV (Avs L) L 9 Bj1.u.r) (Kb Tryz.prog (RS Tryz.f152) kk)) .normal st9))
theorem Bhc(a0:Aa)(a1:ByteArray)(o2:Int):Ap0 a0.Routines a0 a1 (Azy L kk a0 a1) o2=ob (Kn L o2) (kQ I kk):=eE (Kn L o2)
def Acf [An A Int](a0:Aa)(a1:ByteArray):A:=(bd (Nr L a0.Routines a0 a1) fun o2=>Kn L o2)
def Il(a0:Aa)(a1:ByteArray):Option Int:=Acf L a0 a1
def Bjc:Qi:=E2 I 152 K2 cS (Il L) fun a0 a1 r h=>hF Tryz.func152 (C:=Avs L) (oS _) L (fun kk=>eE ((ho (Bag L (Azy L kk a0 a1) a0.Routines a0 a1) fun o2=>Bhc L kk a0 a1 o2))) h
def Bjx:=CC Tryz.f116
def Beg:Bt:=oL [X95 L,Bew L,Bjc L]
def A1n(a0:Aa)(r1:Int)(a1:Cl)(v:L1):St:=⟨[(0,.any),(1,.any),(2,.any),(3,.loc 3 0),(4,I v.1),(5,.any),(6,lv (.t200 ((a0.Routines.getD (Int.toNat r1) default).Params))),(28,lv (.t3 a1.Args)),(29,I (a1.Args.length:Int)),(30,I v.2)],[(2,(Ae a0)),(3,(Adi a1))],0⟩
def Qw [An A Hl](a0:Aa)(r1:Int)(a1:Cl)(rec:Int→Int→A)(Au:Int)(Af:Int):A:=
 (lw Af a1.Args
 (gi Af ((a0.Routines.getD (Int.toNat r1) default).Params)
 (bd (Nm L ((((a0.Routines.getD (Int.toNat r1) default).Params).getD (Int.toNat Af) default).Type_) (a1.Args.getD (Int.toNat Af) default)) fun r2=>
 (cn (!r2)
 (lf (0,2,Af))
 (rec Au (Bi (Af+1))))))
 (lf (1,Au,Af)))
def Hw(L:Nat)(a0:Aa)(r1:Int)(a1:Cl):Nat→Int→Int→Option Hl
 |0,_,_=>none
 |n+1,Au,Af=>Qw L a0 r1 a1 (Hw L a0 r1 a1 n) Au Af
theorem Ba6(a0:Aa)(r1:Int)(a1:Cl):LP (EV (Beg L) L 9 Bjx.x.u.l.u.l.l) [0,1,2,3,4,5,6,28,29,30] [2,3] (A1n a0 r1 a1) [.ret,.exit 0] (fun n v=>Hw L a0 r1 a1 n v.1 v.2) K:=lE (fun _=>rfl) fun n v ih=>eE (Qw L a0 r1 a1 (fun Au Af=>re (ih (Au,Af))) v.1 v.2)
def Nb [An A Int](a1:Cl)(o3:Nat×L1):A:=
 (sl o3.1 [(lf o3.2.1),
 (bd (Bf L a1.At 0 1000000000) fun r4=>
 (jb (.cn (!r4)
 (.lf true)
 (.bd (Bf L a1.Every 0 1000000000) fun r6=>
 (.lf (!r6)))) (fun b5=>
 (jb (.cn b5
 (.lf true)
 (.bd (Bf L a1.Until 0 1000000000) fun r8=>
 (.lf (!r8)))) (fun b7=>
 (jp (.cn b7
 (.lf true)
 (.cn (a1.Every == 0)
 (.lf (a1.Until != 0))
 (.lf false))) (fun b9=>
 (cn b9
 (lf 2)
 (lf 0)))))))))])
def Azj:Ci:=(Bs 0 (Bz (EV (Beg L) L 9 Bjx.x.u.r) (Kb Tryz.prog (RS Tryz.f116) kk)))
theorem Bgx(a0:Aa)(r1:Int)(a1:Cl)(o3:Nat×L1):kX [.ret,.exit 0] (A1n a0 r1 a1) (Azj L kk) o3=ob (Nb L a1 o3) (kQ I kk):=eE (Nb L a1 o3)
def Rt [An A Int](a0:Aa)(a1:Cl)(nx1:Int→A):A:=
 (bd (Il L a0 a1.Routine) fun r1=>
 (cn (decide (r1 < 0))
 (lf 5)
 (gi r1 a0.Routines
 (cn ((a1.Args.length:Int) != (((a0.Routines.getD (Int.toNat r1) default).Params).length:Int))
 (lf 8)
 (nx1 r1)))))
def Aep [An A Int](a0:Aa)(a1:Cl):A:=Rt L a0 a1 (fun r1=>bd (Hw L a0 r1 a1 L 0 0) fun o3=>Nb L a1 o3)
def Oq(a0:Aa)(a1:Cl):Option Int:=Aep L a0 a1
def Bm6:Qi:=E2 I 116 K2 Aqu (Oq L) fun a0 a1 r h=>hF Tryz.func116 (C:=Beg L) (oS _) L (fun kk=>eE (Rt L a0 a1 (fun r1=>ho (Ba6 L (Azj L kk) a0 r1 a1 L (0,0)) fun o3=>Bgx L kk a0 r1 a1 o3))) h
def A21:=CC Tryz.f190
def Bkh:=CC Tryz.f213
def A9f:=CC Tryz.f157
def z5:Bt:=oL [X95 L,Bjb L,Bjc L]
def Ard:Ci:=(Bs 0 (Bz (EV (z5 L) L 9 A9f.w.r) (Kb Tryz.prog (RS Tryz.f157) kk)))
def Ara(a0:Aa)(a1:Be)(kk:Ep):Bn:=(Bx Tryz.prog (z5 L) (EI (z5 L) L 8) 2 (List.drop 3 A21.u.l.ops) ⟨[(6,.clo 191 0 [.loc 3 0]),(5,lv (.t89 a0.Stores)),(0,lv (.t89 a0.Stores)),(1,.clo 191 0 [.loc 3 0]),(4,B false)],[(2,(Ae a0)),(3,(Ki a1))],1004⟩ (some 7) (fun st9=>(Bz (EV (z5 L) L 8 A21.u.r) (Dg Tryz.prog (RS Tryz.f190) (Bx Tryz.prog (z5 L) (EI (z5 L) L 9) 1 (List.drop 4 A9f.w.l.u.l.w.r.l.ops) ⟨[(23,.clo 191 0 [.loc 3 0]),(22,lv (.t89 a0.Stores)),(21,.loc 2 3),(2,.loc 2 0),(3,.loc 3 0),(4,I 0),(5,B false),(7,S a1.What),(17,B (a1.What.toList == (⟨#[101,110,116,101,114,101,100]⟩:ByteArray).toList))],[(2,(Ae a0)),(3,(Ki a1))],0⟩ (some 24) (fun st9=>(Ard L kk) .normal st9)))) .normal st9))
def Arb(a0:Aa)(a1:Be)(kk:Ep):Bn:=(Bx Tryz.prog (z5 L) (EI (z5 L) L 8) 2 (List.drop 3 A21.u.l.ops) ⟨[(6,.clo 191 0 [.loc 3 0]),(5,lv (.t89 a0.Stores)),(0,lv (.t89 a0.Stores)),(1,.clo 191 0 [.loc 3 0]),(4,B false)],[(2,(Ae a0)),(3,(Ki a1))],1004⟩ (some 7) (fun st9=>(Bz (EV (z5 L) L 8 A21.u.r) (Dg Tryz.prog (RS Tryz.f190) (Bx Tryz.prog (z5 L) (EI (z5 L) L 9) 1 (List.drop 4 A9f.w.l.u.l.w.r.l.ops) ⟨[(23,.clo 191 0 [.loc 3 0]),(22,lv (.t89 a0.Stores)),(21,.loc 2 3),(2,.loc 2 0),(3,.loc 3 0),(4,I 0),(5,B false),(7,S a1.What),(17,B (a1.What.toList == (⟨#[115,116,111,114,101,100]⟩:ByteArray).toList))],[(2,(Ae a0)),(3,(Ki a1))],0⟩ (some 24) (fun st9=>(Ard L kk) .normal st9)))) .normal st9))
def Arc(a0:Aa)(a1:Be)(kk:Ep):Bn:=(Bx Tryz.prog (z5 L) (EI (z5 L) L 8) 2 (List.drop 3 A21.u.l.ops) ⟨[(6,.clo 191 0 [.loc 3 0]),(5,lv (.t89 a0.Stores)),(0,lv (.t89 a0.Stores)),(1,.clo 191 0 [.loc 3 0]),(4,B false)],[(2,(Ae a0)),(3,(Ki a1))],1004⟩ (some 7) (fun st9=>(Bz (EV (z5 L) L 8 A21.u.r) (Dg Tryz.prog (RS Tryz.f190) (Bx Tryz.prog (z5 L) (EI (z5 L) L 9) 1 (List.drop 4 A9f.w.l.u.l.w.r.l.ops) ⟨[(23,.clo 191 0 [.loc 3 0]),(22,lv (.t89 a0.Stores)),(21,.loc 2 3),(2,.loc 2 0),(3,.loc 3 0),(4,I 0),(5,B false),(7,S a1.What),(17,B (a1.What.toList == (⟨#[108,101,102,116]⟩:ByteArray).toList))],[(2,(Ae a0)),(3,(Ki a1))],0⟩ (some 24) (fun st9=>(Ard L kk) .normal st9)))) .normal st9))
def A1v(p1_0:List Av)(p1_1:Aa)(p1_2:Be)(v:L1):St:=⟨[(0,lv (.t89 p1_0)),(1,.clo 191 0 [.loc 3 0]),(4,I v.1),(7,I (p1_0.length:Int)),(8,I v.2)],[(2,(Ae p1_1)),(3,(Ki p1_2))],1004⟩
def Ss [An A Hl](L:Nat)(p1_0:List Av)(p1_1:Aa)(p1_2:Be)(rec:Int→Int→A)(Bg:Int)(Am:Int):A:=
 (lw Am p1_0
 (cn (((p1_0.getD (Int.toNat Am) default).Name).toList == p1_2.Name.toList)
 (lf (0,Am,Am))
 (rec Bg (Bi (Am+1))))
 (lf (1,Bg,Am)))
def Iv(L:Nat)(p1_0:List Av)(p1_1:Aa)(p1_2:Be):Nat→Int→Int→Option Hl
 |0,_,_=>none
 |n+1,Bg,Am=>Ss L p1_0 p1_1 p1_2 (Iv L p1_0 p1_1 p1_2 n) Bg Am
theorem Bbf(p1_0:List Av)(p1_1:Aa)(p1_2:Be):LP (EV (z5 L) L 7 Bkh.u.l.u.l.l) [0,1,4,7,8] [2,3] (A1v p1_0 p1_1 p1_2) [.ret,.exit 0] (fun n v=>Iv L p1_0 p1_1 p1_2 n v.1 v.2) K:=lE (fun _=>rfl) fun n v ih=>eE (Ss L p1_0 p1_1 p1_2 (fun Bg Am=>re (ih (Bg,Am))) v.1 v.2)
def T0(p1_0:List Av)(p1_1:Aa)(p1_2:Be)(k:Bn):Int→Prop:=fun o=>k (I o) [(2,(Ae p1_1)),(3,(Ki p1_2))]
def S4 [An A Int](L:Nat)(o4:Nat×L1):A:=
 (sl o4.1 [(lf o4.2.1),
 (lf (-1))])
def Azz:Ci:=(Bs 0 (Bz (EV (z5 L) L 7 Bkh.u.r) (Dg Tryz.prog (RS Tryz.f213) k)))
theorem Bhd(p1_0:List Av)(p1_1:Aa)(p1_2:Be)(o4:Nat×L1):kX [.ret,.exit 0] (A1v p1_0 p1_1 p1_2) (Azz L k) o4=ob (S4 L o4) (T0 p1_0 p1_1 p1_2 k):=eE (S4 L o4)
def Acl [An A Int](p1_0:List Av)(p1_1:Aa)(p1_2:Be):A:=(bd (Iv L p1_0 p1_1 p1_2 L 0 0) fun o4=>S4 L o4)
def D3(p1_0:List Av)(p1_1:Aa)(p1_2:Be):Option Int:=Acl L p1_0 p1_1 p1_2
theorem Zb(p1_0:List Av)(p1_1:Aa)(p1_2:Be):YO (z5 L) L 8 213 [lv (.t89 p1_0),.clo 191 0 [.loc 3 0]] [(2,(Ae p1_1)),(3,(Ki p1_2))] k=ob (D3 L p1_0 p1_1 p1_2) (T0 p1_0 p1_1 p1_2 k):=(C6 _ _ _ y9 _ _ _ _ _ _ _).trans (eE ((ho (Bbf L (Azz L k) p1_0 p1_1 p1_2 L (0,0)) fun o4=>Bhd L k p1_0 p1_1 p1_2 o4)))
def Oa [An A Int](a1:Be)(o38:Int):A:=
 (cn (!(decide (o38≥0)))
 (lf 5)
 (bd (Bf L a1.Coef (-1000) 1000) fun r39=>
 (jp (.cn (!r39)
 (.lf true)
 (.lf (a1.Coef == 0))) (fun b40=>
 (cn b40
 (lf 2)
 (lf 0))))))
def Az0(a0:Aa)(a1:Be):Bn:=(Arb L a0 a1 kk)
theorem Bhe(a0:Aa)(a1:Be)(o38:Int):T0 a0.Stores a0 a1 (Az0 L kk a0 a1) o38=ob (Oa L a1 o38) (kQ I kk):=eE (Oa L a1 o38)
def Ob [An A Int](a1:Be)(o41:Int):A:=
 (cn (!(decide (o41≥0)))
 (lf 5)
 (bd (Bf L a1.Coef (-1000) 1000) fun r42=>
 (jp (.cn (!r42)
 (.lf true)
 (.lf (a1.Coef == 0))) (fun b43=>
 (cn b43
 (lf 2)
 (lf 0))))))
def Az1(a0:Aa)(a1:Be):Bn:=(Ara L a0 a1 kk)
theorem Bhf(a0:Aa)(a1:Be)(o41:Int):T0 a0.Stores a0 a1 (Az1 L kk a0 a1) o41=ob (Ob L a1 o41) (kQ I kk):=eE (Ob L a1 o41)
def Oc [An A Int](a1:Be)(o44:Int):A:=
 (cn (!(decide (o44≥0)))
 (lf 5)
 (bd (Bf L a1.Coef (-1000) 1000) fun r45=>
 (jp (.cn (!r45)
 (.lf true)
 (.lf (a1.Coef == 0))) (fun b46=>
 (cn b46
 (lf 2)
 (lf 0))))))
def Az2(a0:Aa)(a1:Be):Bn:=(Arc L a0 a1 kk)
theorem Bhg(a0:Aa)(a1:Be)(o44:Int):T0 a0.Stores a0 a1 (Az2 L kk a0 a1) o44=ob (Oc L a1 o44) (kQ I kk):=eE (Oc L a1 o44)
def Od [An A Int](a1:Be)(o47:Int):A:=
 (cn (!(decide (o47≥0)))
 (lf 5)
 (bd (Bf L a1.Coef (-1000) 1000) fun r48=>
 (jp (.cn (!r48)
 (.lf true)
 (.lf (a1.Coef == 0))) (fun b49=>
 (cn b49
 (lf 2)
 (lf 0))))))
def Az3(a0:Aa)(a1:Be):Bn:=(Arb L a0 a1 kk)
theorem Bhh(a0:Aa)(a1:Be)(o47:Int):T0 a0.Stores a0 a1 (Az3 L kk a0 a1) o47=ob (Od L a1 o47) (kQ I kk):=eE (Od L a1 o47)
def Oe [An A Int](a1:Be)(o50:Int):A:=
 (cn (!(decide (o50≥0)))
 (lf 5)
 (bd (Bf L a1.Coef (-1000) 1000) fun r51=>
 (jp (.cn (!r51)
 (.lf true)
 (.lf (a1.Coef == 0))) (fun b52=>
 (cn b52
 (lf 2)
 (lf 0))))))
def Az4(a0:Aa)(a1:Be):Bn:=(Ara L a0 a1 kk)
theorem Bhi(a0:Aa)(a1:Be)(o50:Int):T0 a0.Stores a0 a1 (Az4 L kk a0 a1) o50=ob (Oe L a1 o50) (kQ I kk):=eE (Oe L a1 o50)
def Og [An A Int](a1:Be)(o53:Int):A:=
 (cn (!(decide (o53≥0)))
 (lf 5)
 (bd (Bf L a1.Coef (-1000) 1000) fun r54=>
 (jp (.cn (!r54)
 (.lf true)
 (.lf (a1.Coef == 0))) (fun b55=>
 (cn b55
 (lf 2)
 (lf 0))))))
def Az5(a0:Aa)(a1:Be):Bn:=(Arc L a0 a1 kk)
theorem Bhj(a0:Aa)(a1:Be)(o53:Int):T0 a0.Stores a0 a1 (Az5 L kk a0 a1) o53=ob (Og L a1 o53) (kQ I kk):=eE (Og L a1 o53)
def Oh [An A Int](a1:Be)(o56:Int):A:=
 (cn (!(decide (o56≥0)))
 (lf 5)
 (bd (Bf L a1.Coef (-1000) 1000) fun r57=>
 (jp (.cn (!r57)
 (.lf true)
 (.lf (a1.Coef == 0))) (fun b58=>
 (cn b58
 (lf 2)
 (lf 0))))))
def Az6(a0:Aa)(a1:Be):Bn:=(Arb L a0 a1 kk)
theorem Bhk(a0:Aa)(a1:Be)(o56:Int):T0 a0.Stores a0 a1 (Az6 L kk a0 a1) o56=ob (Oh L a1 o56) (kQ I kk):=eE (Oh L a1 o56)
def Nc [An A Int](a1:Be)(o59:Int):A:=
 (cn (!(decide (o59≥0)))
 (lf 5)
 (bd (Bf L a1.Coef (-1000) 1000) fun r60=>
 (jp (.cn (!r60)
 (.lf true)
 (.lf (a1.Coef == 0))) (fun b61=>
 (cn b61
 (lf 2)
 (lf 0))))))
def Aty(a0:Aa)(a1:Be):Bn:=(Ara L a0 a1 kk)
theorem Bcb(a0:Aa)(a1:Be)(o59:Int):T0 a0.Stores a0 a1 (Aty L kk a0 a1) o59=ob (Nc L a1 o59) (kQ I kk):=eE (Nc L a1 o59)
def Nd [An A Int](a1:Be)(o62:Int):A:=
 (cn (!(decide (o62≥0)))
 (lf 5)
 (bd (Bf L a1.Coef (-1000) 1000) fun r63=>
 (jp (.cn (!r63)
 (.lf true)
 (.lf (a1.Coef == 0))) (fun b64=>
 (cn b64
 (lf 2)
 (lf 0))))))
def Atz(a0:Aa)(a1:Be):Bn:=(Arc L a0 a1 kk)
theorem Bcc(a0:Aa)(a1:Be)(o62:Int):T0 a0.Stores a0 a1 (Atz L kk a0 a1) o62=ob (Nd L a1 o62) (kQ I kk):=eE (Nd L a1 o62)
def Td [An A Int](a0:Aa)(a1:Be)(nx3:A)(nx4:A)(nx5:A)(nx6:A)(nx7:A)(nx8:A)(nx9:A)(nx10:A)(nx11:A):A:=
 (cn (a1.What.toList == (⟨#[99,114,101,97,116,101,100]⟩:ByteArray).toList)
 (cn (a1.What.toList == (⟨#[99,114,101,97,116,101,100]⟩:ByteArray).toList)
 (bd (Il L a0 a1.Name) fun r1=>
 (cn (!(decide (r1≥0)))
 (lf 5)
 (bd (Bf L a1.Coef (-1000) 1000) fun r2=>
 (jp (.cn (!r2)
 (.lf true)
 (.lf (a1.Coef == 0))) (fun b3=>
 (cn b3
 (lf 2)
 (lf 0)))))))
 (cn (a1.What.toList == (⟨#[115,116,111,114,101,100]⟩:ByteArray).toList)
 (cn (a1.What.toList == (⟨#[115,116,111,114,101,100]⟩:ByteArray).toList)
 nx3
 (cn (a1.What.toList == (⟨#[99,111,117,110,116,101,100]⟩:ByteArray).toList)
 (bd (Bv L a0.Counts a1.Name) fun r5=>
 (cn (!r5)
 (lf 5)
 (bd (Bf L a1.Coef (-1000) 1000) fun r6=>
 (jp (.cn (!r6)
 (.lf true)
 (.lf (a1.Coef == 0))) (fun b7=>
 (cn b7
 (lf 2)
 (lf 0)))))))
 (lf 1)))
 (cn (a1.What.toList == (⟨#[101,110,116,101,114,101,100]⟩:ByteArray).toList)
 (cn (a1.What.toList == (⟨#[101,110,116,101,114,101,100]⟩:ByteArray).toList)
 nx4
 (cn (a1.What.toList == (⟨#[99,111,117,110,116,101,100]⟩:ByteArray).toList)
 (bd (Bv L a0.Counts a1.Name) fun r8=>
 (cn (!r8)
 (lf 5)
 (bd (Bf L a1.Coef (-1000) 1000) fun r9=>
 (jp (.cn (!r9)
 (.lf true)
 (.lf (a1.Coef == 0))) (fun b10=>
 (cn b10
 (lf 2)
 (lf 0)))))))
 (lf 1)))
 (cn (a1.What.toList == (⟨#[108,101,102,116]⟩:ByteArray).toList)
 nx5
 (cn (a1.What.toList == (⟨#[99,111,117,110,116,101,100]⟩:ByteArray).toList)
 (bd (Bv L a0.Counts a1.Name) fun r11=>
 (cn (!r11)
 (lf 5)
 (bd (Bf L a1.Coef (-1000) 1000) fun r12=>
 (jp (.cn (!r12)
 (.lf true)
 (.lf (a1.Coef == 0))) (fun b13=>
 (cn b13
 (lf 2)
 (lf 0)))))))
 (lf 1))))))
 (cn (a1.What.toList == (⟨#[101,110,100,101,100]⟩:ByteArray).toList)
 (cn (a1.What.toList == (⟨#[101,110,100,101,100]⟩:ByteArray).toList)
 (bd (Il L a0 a1.Name) fun r14=>
 (cn (!(decide (r14≥0)))
 (lf 5)
 (bd (Bf L a1.Coef (-1000) 1000) fun r15=>
 (jp (.cn (!r15)
 (.lf true)
 (.lf (a1.Coef == 0))) (fun b16=>
 (cn b16
 (lf 2)
 (lf 0)))))))
 (cn (a1.What.toList == (⟨#[115,116,111,114,101,100]⟩:ByteArray).toList)
 (cn (a1.What.toList == (⟨#[115,116,111,114,101,100]⟩:ByteArray).toList)
 nx6
 (cn (a1.What.toList == (⟨#[99,111,117,110,116,101,100]⟩:ByteArray).toList)
 (bd (Bv L a0.Counts a1.Name) fun r17=>
 (cn (!r17)
 (lf 5)
 (bd (Bf L a1.Coef (-1000) 1000) fun r18=>
 (jp (.cn (!r18)
 (.lf true)
 (.lf (a1.Coef == 0))) (fun b19=>
 (cn b19
 (lf 2)
 (lf 0)))))))
 (lf 1)))
 (cn (a1.What.toList == (⟨#[101,110,116,101,114,101,100]⟩:ByteArray).toList)
 (cn (a1.What.toList == (⟨#[101,110,116,101,114,101,100]⟩:ByteArray).toList)
 nx7
 (cn (a1.What.toList == (⟨#[99,111,117,110,116,101,100]⟩:ByteArray).toList)
 (bd (Bv L a0.Counts a1.Name) fun r20=>
 (cn (!r20)
 (lf 5)
 (bd (Bf L a1.Coef (-1000) 1000) fun r21=>
 (jp (.cn (!r21)
 (.lf true)
 (.lf (a1.Coef == 0))) (fun b22=>
 (cn b22
 (lf 2)
 (lf 0)))))))
 (lf 1)))
 (cn (a1.What.toList == (⟨#[108,101,102,116]⟩:ByteArray).toList)
 nx8
 (cn (a1.What.toList == (⟨#[99,111,117,110,116,101,100]⟩:ByteArray).toList)
 (bd (Bv L a0.Counts a1.Name) fun r23=>
 (cn (!r23)
 (lf 5)
 (bd (Bf L a1.Coef (-1000) 1000) fun r24=>
 (jp (.cn (!r24)
 (.lf true)
 (.lf (a1.Coef == 0))) (fun b25=>
 (cn b25
 (lf 2)
 (lf 0)))))))
 (lf 1))))))
 (cn (a1.What.toList == (⟨#[105,110,115,105,100,101]⟩:ByteArray).toList)
 (bd (Il L a0 a1.Name) fun r26=>
 (cn (!(decide (r26≥0)))
 (lf 5)
 (bd (Bf L a1.Coef (-1000) 1000) fun r27=>
 (jp (.cn (!r27)
 (.lf true)
 (.lf (a1.Coef == 0))) (fun b28=>
 (cn b28
 (lf 2)
 (lf 0)))))))
 (cn (a1.What.toList == (⟨#[115,116,111,114,101,100]⟩:ByteArray).toList)
 (cn (a1.What.toList == (⟨#[115,116,111,114,101,100]⟩:ByteArray).toList)
 nx9
 (cn (a1.What.toList == (⟨#[99,111,117,110,116,101,100]⟩:ByteArray).toList)
 (bd (Bv L a0.Counts a1.Name) fun r29=>
 (cn (!r29)
 (lf 5)
 (bd (Bf L a1.Coef (-1000) 1000) fun r30=>
 (jp (.cn (!r30)
 (.lf true)
 (.lf (a1.Coef == 0))) (fun b31=>
 (cn b31
 (lf 2)
 (lf 0)))))))
 (lf 1)))
 (cn (a1.What.toList == (⟨#[101,110,116,101,114,101,100]⟩:ByteArray).toList)
 (cn (a1.What.toList == (⟨#[101,110,116,101,114,101,100]⟩:ByteArray).toList)
 nx10
 (cn (a1.What.toList == (⟨#[99,111,117,110,116,101,100]⟩:ByteArray).toList)
 (bd (Bv L a0.Counts a1.Name) fun r32=>
 (cn (!r32)
 (lf 5)
 (bd (Bf L a1.Coef (-1000) 1000) fun r33=>
 (jp (.cn (!r33)
 (.lf true)
 (.lf (a1.Coef == 0))) (fun b34=>
 (cn b34
 (lf 2)
 (lf 0)))))))
 (lf 1)))
 (cn (a1.What.toList == (⟨#[108,101,102,116]⟩:ByteArray).toList)
 nx11
 (cn (a1.What.toList == (⟨#[99,111,117,110,116,101,100]⟩:ByteArray).toList)
 (bd (Bv L a0.Counts a1.Name) fun r35=>
 (cn (!r35)
 (lf 5)
 (bd (Bf L a1.Coef (-1000) 1000) fun r36=>
 (jp (.cn (!r36)
 (.lf true)
 (.lf (a1.Coef == 0))) (fun b37=>
 (cn b37
 (lf 2)
 (lf 0)))))))
 (lf 1))))))))
def Agl [An A Int](a0:Aa)(a1:Be):A:=Td L a0 a1 (bd (D3 L a0.Stores a0 a1) fun o38=>Oa L a1 o38) (bd (D3 L a0.Stores a0 a1) fun o41=>Ob L a1 o41) (bd (D3 L a0.Stores a0 a1) fun o44=>Oc L a1 o44) (bd (D3 L a0.Stores a0 a1) fun o47=>Od L a1 o47) (bd (D3 L a0.Stores a0 a1) fun o50=>Oe L a1 o50) (bd (D3 L a0.Stores a0 a1) fun o53=>Og L a1 o53) (bd (D3 L a0.Stores a0 a1) fun o56=>Oh L a1 o56) (bd (D3 L a0.Stores a0 a1) fun o59=>Nc L a1 o59) (bd (D3 L a0.Stores a0 a1) fun o62=>Nd L a1 o62)
def Qn(a0:Aa)(a1:Be):Option Int:=Agl L a0 a1
def Bnh:Qi:=E2 I 157 K2 As1 (Qn L) fun a0 a1 r h=>hF Tryz.func157 (C:=z5 L) (oS _) L (fun kk=>eE (Td L a0 a1 (ho (Zb L (Az0 L kk a0 a1) a0.Stores a0 a1) fun o38=>Bhe L kk a0 a1 o38) (ho (Zb L (Az1 L kk a0 a1) a0.Stores a0 a1) fun o41=>Bhf L kk a0 a1 o41) (ho (Zb L (Az2 L kk a0 a1) a0.Stores a0 a1) fun o44=>Bhg L kk a0 a1 o44) (ho (Zb L (Az3 L kk a0 a1) a0.Stores a0 a1) fun o47=>Bhh L kk a0 a1 o47) (ho (Zb L (Az4 L kk a0 a1) a0.Stores a0 a1) fun o50=>Bhi L kk a0 a1 o50) (ho (Zb L (Az5 L kk a0 a1) a0.Stores a0 a1) fun o53=>Bhj L kk a0 a1 o53) (ho (Zb L (Az6 L kk a0 a1) a0.Stores a0 a1) fun o56=>Bhk L kk a0 a1 o56) (ho (Zb L (Aty L kk a0 a1) a0.Stores a0 a1) fun o59=>Bcb L kk a0 a1 o59) (ho (Zb L (Atz L kk a0 a1) a0.Stores a0 a1) fun o62=>Bcc L kk a0 a1 o62))) h
end
end Go.Proofs.YthjhkpgonleelaaGreatDoor.Ev
