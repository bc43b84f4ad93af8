import Derived.Test.YthjhkpgonleelaaGreatDoorAG1
namespace Go.Proofs.YthjhkpgonleelaaGreatDoor.Ev
open Go An
set_option maxRecDepth 100000
set_option maxHeartbeats 4000000
set_option linter.unusedVariables false
set_option linter.unusedSimpArgs false
set_option linter.unnecessarySimpa false
noncomputable section
variable {A:Type} (L n:Nat) (kk:Cc) (K:Bg) (k:Bu)
def A2t(F:Ab→Option Int):Prop:=∀y0 r,F y0=some r→Ho Tryz.prog 193 [Bq.en y0] I r
def Bun:=CC Tryz.f193
def Blp(D8:Ab→Option Int)(L:Nat):Bi:=(orc 193 (A1 I Bq D8) (oL []))
theorem B0u(D8:Ab→Option Int)(Baq:A2t D8)(L:Nat):Cz Tryz.prog (Blp D8 L):=(De (a1 _ Baq) (oS []))
def A6v(a0:Ab)(v:C8):St:=⟨[(0,.any),(1,.any),(2,I 0),(3,I v.1),(7,lv (.t98 a0.Kids)),(8,I (a0.Kids.length:Int)),(9,I v.2)],[(1,(Ca a0))],0⟩
def Abj [An A Cq](D8:Ab→Option Int)(L:Nat)(a0:Ab)(rec:Int→Int→A)(Aw:Int)(Ae:Int):A:=
 (lw Ae a0.Kids
 (bd (D8 (Ab.cp (a0.Kids.getD (Int.toNat Ae) default))) fun r1=>
 (rec (Bo (Aw+r1)) (Bo (Ae+1))))
 (lf (0,Aw,Ae)))
def Rv(D8:Ab→Option Int)(L:Nat)(a0:Ab):Nat→Int→Int→Option Cq
 |0,_,_=>none
 |n+1,Aw,Ae=>Abj D8 L a0 (Rv D8 L a0 n) Aw Ae
theorem Bi1(D8:Ab→Option Int)(L:Nat)(K:Bg)(a0:Ab):LP (EV (Blp D8 L) L 9 Bun.w.l.u.l.l) [0,1,2,3,7,8,9] [1] (A6v a0) [.exit 0] (fun n v=>Rv D8 L a0 n v.1 v.2) K:=lE (fun _=>rfl) fun n v ih=>eE (Abj D8 L a0 (fun Aw Ae=>re (ih (Aw,Ae))) v.1 v.2)
def Sc [An A Int](D8:Ab→Option Int)(L:Nat)(o2:Nat×C8):A:=
 (sl o2.1 [(lf o2.2.1)])
def A4i(D8:Ab→Option Int)(L:Nat)(kk:Cc):Bg:=(Bb 0 (Bp (EV (Blp D8 L) L 9 Bun.w.r) (Ct Tryz.prog (RS Tryz.f193) kk)))
theorem Bqe(D8:Ab→Option Int)(L:Nat)(kk:Cc)(a0:Ab)(o2:Nat×C8):kX [.exit 0] (A6v a0) (A4i D8 L kk) o2=ob (Sc D8 L o2) (kQ I kk):=eE (Sc D8 L o2)
def At2 [An A Int](D8:Ab→Option Int)(L:Nat)(a0:Ab):A:=(bd (Rv D8 L a0 L 1 0) fun o2=>Sc D8 L o2)
def Ah9(D8:Ab→Option Int)(L:Nat)(a0:Ab):Option Int:=At2 D8 L a0
theorem Bzd(D8:Ab→Option Int)(Baq:A2t D8)(L:Nat):A2t (Ah9 D8 L):=fun a0 r h=>hF Tryz.func193 (B0u D8 Baq L) L (fun kk=>eE ((ho (Bi1 D8 L (A4i D8 L kk) a0 L (1,0)) fun o2=>Bqe D8 L kk a0 o2))) h
def Mo:Nat→Ab→Option Int
 |0,_=>none
 |L+1,a0=>Ah9 (Mo L) L a0
theorem Bg6(L:Nat):A2t (Mo L):=by
 induction L with
 |zero=>exact fun _ _ h=>(by cases h)
 |succ L ih=>
  have i193:=ih
  exact Bzd (Mo L) i193 L
def Bta(L:Nat):Di:=E1 I 193 Bq (Mo L) (Bg6 L)
def A2u(F:Ab→Option Int):Prop:=∀y0 r,F y0=some r→Ho Tryz.prog 194 [Bq.en y0] I r
def Buo:=CC Tryz.f194
def Blq(D9:Ab→Option Int)(L:Nat):Bi:=(orc 194 (A1 I Bq D9) (oL []))
theorem B0v(D9:Ab→Option Int)(Bar:A2u D9)(L:Nat):Cz Tryz.prog (Blq D9 L):=(De (a1 _ Bar) (oS []))
def A6w(a0:Ab)(v:C8):St:=⟨[(0,.any),(1,.any),(2,I 0),(3,I v.1),(7,lv (.t98 a0.Kids)),(8,I (a0.Kids.length:Int)),(9,I v.2)],[(1,(Ca a0))],0⟩
def Abi [An A Cq](D9:Ab→Option Int)(L:Nat)(a0:Ab)(rec:Int→Int→A)(Aw:Int)(Ae:Int):A:=
 (lw Ae a0.Kids
 (bd (D9 (Ab.cp (a0.Kids.getD (Int.toNat Ae) default))) fun r1=>
 (rec (if r1 > Aw then r1 else Aw) (Bo (Ae+1))))
 (lf (0,Aw,Ae)))
def Ru(D9:Ab→Option Int)(L:Nat)(a0:Ab):Nat→Int→Int→Option Cq
 |0,_,_=>none
 |n+1,Aw,Ae=>Abi D9 L a0 (Ru D9 L a0 n) Aw Ae
theorem Bi2(D9:Ab→Option Int)(L:Nat)(K:Bg)(a0:Ab):LP (EV (Blq D9 L) L 9 Buo.w.l.u.l.l) [0,1,2,3,7,8,9] [1] (A6w a0) [.exit 0] (fun n v=>Ru D9 L a0 n v.1 v.2) K:=lE (fun _=>rfl) fun n v ih=>eE (Abi D9 L a0 (fun Aw Ae=>re (ih (Aw,Ae))) v.1 v.2)
def Sb [An A Int](D9:Ab→Option Int)(L:Nat)(o2:Nat×C8):A:=
 (sl o2.1 [(lf (Bo (o2.2.1+1)))])
def A4j(D9:Ab→Option Int)(L:Nat)(kk:Cc):Bg:=(Bb 0 (Bp (EV (Blq D9 L) L 9 Buo.w.r) (Ct Tryz.prog (RS Tryz.f194) kk)))
theorem Bqf(D9:Ab→Option Int)(L:Nat)(kk:Cc)(a0:Ab)(o2:Nat×C8):kX [.exit 0] (A6w a0) (A4j D9 L kk) o2=ob (Sb D9 L o2) (kQ I kk):=eE (Sb D9 L o2)
def At1 [An A Int](D9:Ab→Option Int)(L:Nat)(a0:Ab):A:=(bd (Ru D9 L a0 L 0 0) fun o2=>Sb D9 L o2)
def Ah8(D9:Ab→Option Int)(L:Nat)(a0:Ab):Option Int:=At1 D9 L a0
theorem Bze(D9:Ab→Option Int)(Bar:A2u D9)(L:Nat):A2u (Ah8 D9 L):=fun a0 r h=>hF Tryz.func194 (B0v D9 Bar L) L (fun kk=>eE ((ho (Bi2 D9 L (A4j D9 L kk) a0 L (0,0)) fun o2=>Bqf D9 L kk a0 o2))) h
def Mn:Nat→Ab→Option Int
 |0,_=>none
 |L+1,a0=>Ah8 (Mn L) L a0
theorem Bg7(L:Nat):A2u (Mn L):=by
 induction L with
 |zero=>exact fun _ _ h=>(by cases h)
 |succ L ih=>
  have i194:=ih
  exact Bze (Mn L) i194 L
def Btb(L:Nat):Di:=E1 I 194 Bq (Mn L) (Bg7 L)
def Amz [An A Int](L:Nat)(a0:Int):A:=
 (jp (.cn (a0 == 1)
 (.lf true)
 (.lf (a0 == 2))) (fun b1=>
 (jp (.cn b1
 (.lf true)
 (.lf (a0 == 3))) (fun b2=>
 (jp (.cn b2
 (.lf true)
 (.lf (a0 == 4))) (fun b3=>
 (cn b3
 (lf 0)
 (jp (.cn (decide (a0≥5))
 (.lf (decide (a0≤8)))
 (.lf false)) (fun b4=>
 (cn b4
 (lf 1)
 (jp (.cn (decide (a0≥9))
 (.lf (decide (a0≤21)))
 (.lf false)) (fun b5=>
 (cn b5
 (lf 2)
 (jp (.cn (decide (a0≥22))
 (.lf (decide (a0≤26)))
 (.lf false)) (fun b6=>
 (cn b6
 (lf 0)
 (lf (-1))))))))))))))))))
def V8(a0:Int):Option Int:=Amz L a0
def Bmd:Di:=E1 I 222 (cI .i64) (V8 L) fun a0 r h=>hF Tryz.func222 (oS []) L (fun kk=>eE (Amz L a0)) h
def Wd [An A Bool](a0:B1)(a1:Int):A:=
 (cn (a1 == 3)
 (lf (!a0.u_code))
 (cn (a1 == 25)
 (cn (a1 == 25)
 (lf a0.u_code)
 (bd (V8 L a1) fun r1=>
 (lf (decide (r1≥0)))))
 (cn (a1 == 26)
 (lf a0.u_code)
 (bd (V8 L a1) fun r2=>
 (lf (decide (r2≥0)))))))
def V9(a0:B1)(a1:Int):Option Bool:=Wd L a0 a1
def Bth:Di:=E2 B 221 Hg (cI .i64) (V9 L) fun a0 a1 r h=>hF Tryz.func221 (oS [Bmd L]) L (fun kk=>eE (Wd L a0 a1)) h
def Af1 [An A Bool](L:Nat)(a0:Int):A:=
 (jp (.cn (decide (a0≥22))
 (.lf (decide (a0≤24)))
 (.lf false)) (fun b1=>
 (lf b1)))
def Xp(a0:Int):Option Bool:=Af1 L a0
def Bmf:Di:=E1 B 228 (cI .i64) (Xp L) fun a0 r h=>hF Tryz.func228 (oS []) L (fun kk=>eE (Af1 L a0)) h
def We [An A Bool](a0:B1)(a1:Int):A:=
 (jb (.cn (a1 == 3)
 (.lf true)
 (.bd (Xp L a1) fun r2=>
 (.cn r2
 (.lf (!a0.u_code))
 (.lf false)))) (fun b1=>
 (lf b1)))
def I9(a0:B1)(a1:Int):Option Bool:=We L a0 a1
def Bti:Di:=E2 B 223 Hg (cI .i64) (I9 L) fun a0 a1 r h=>hF Tryz.func223 (oS [Bmf L]) L (fun kk=>eE (We L a0 a1)) h
def Su [An A (Int×Int×Bool)](a0:B1)(a1:Int):A:=
 (cn (a1 == 2)
 (lf (0,1,true))
 (cn (a1 == 25)
 (lf (0,15,true))
 (cn (a1 == 26)
 (lf (0,31,true))
 (bd (Xp L a1) fun r1=>
 (jp (.cn r1
 (.lf a0.u_code)
 (.lf false)) (fun b2=>
 (cn b2
 (lf (0,63,true))
 (lf (0,0,false)))))))))
def Km(a0:B1)(a1:Int):Option (Int×Int×Bool):=Su L a0 a1
def Btj:Di:=E2 (fun(x:Int×Int×Bool)=> .tup [I x.1,I x.2.1,B x.2.2]) 224 Hg (cI .i64) (Km L) fun a0 a1 r h=>hF Tryz.func224 (oS [Bmf L]) L (fun kk=>eE (Su L a0 a1)) h
def Y1 [An A Int](a0:B1)(a1:Ab):A:=
 (bd (V9 L (⟨a0.u_code⟩:B1) a1.Op) fun r1=>
 (cn (!r1)
 (lf 1)
 (bd (V8 L a1.Op) fun r2=>
 (cn ((a1.Kids.length:Int) != r2)
 (lf 1)
 (cn (!(a1.Name.toList == (⟨#[]⟩:ByteArray).toList))
 (bd (I9 L (⟨a0.u_code⟩:B1) a1.Op) fun r3=>
 (cn (!r3)
 (lf 1)
 (cn (a1.Op == 1)
 (bd (Acm L a1.N) fun r4=>
 (cn (!r4)
 (lf 2)
 (lf 0)))
 (bd (Km L (⟨a0.u_code⟩:B1) a1.Op) fun r5=>
 (jp (.cn (!r5.2.2)
 (.lf (a1.N != 0))
 (.lf false)) (fun b6=>
 (cn b6
 (lf 1)
 (jp (.cn r5.2.2
 (.cn (decide (a1.N < r5.1))
 (.lf true)
 (.lf (decide (a1.N > r5.2.1))))
 (.lf false)) (fun b7=>
 (cn b7
 (lf 2)
 (bd (I9 L (⟨a0.u_code⟩:B1) a1.Op) fun r8=>
 (cn r8
 (bd (Cy L a1.Name) fun r9=>
 (lf r9))
 (lf 0)))))))))))))
 (cn (a1.Op == 1)
 (bd (Acm L a1.N) fun r10=>
 (cn (!r10)
 (lf 2)
 (lf 0)))
 (bd (Km L (⟨a0.u_code⟩:B1) a1.Op) fun r11=>
 (jp (.cn (!r11.2.2)
 (.lf (a1.N != 0))
 (.lf false)) (fun b12=>
 (cn b12
 (lf 1)
 (jp (.cn r11.2.2
 (.cn (decide (a1.N < r11.1))
 (.lf true)
 (.lf (decide (a1.N > r11.2.1))))
 (.lf false)) (fun b13=>
 (cn b13
 (lf 2)
 (bd (I9 L (⟨a0.u_code⟩:B1) a1.Op) fun r14=>
 (cn r14
 (bd (Cy L a1.Name) fun r15=>
 (lf r15))
 (lf 0))))))))))))))))
def Yu(a0:B1)(a1:Ab):Option Int:=Y1 L a0 a1
def Bmb:Di:=E2 I 214 Hg Bq (Yu L) fun a0 a1 r h=>hF Tryz.func214 (oS [X35 L,Bfo L,Bth L,Bmd L,Bti L,Btj L]) L (fun kk=>eE (Y1 L a0 a1)) h
def A2v(F:B1→Ab→Option Int):Prop:=∀y0 y1 r,F y0 y1=some r→Ho Tryz.prog 195 [Hg.en y0,Bq.en y1] I r
def Bup:=CC Tryz.f195
def Blr(Dq:B1→Ab→Option Int)(L:Nat):Bi:=(orc 195 (A2 I Hg Bq Dq) (oL [Bmb L]))
theorem B0w(Dq:B1→Ab→Option Int)(Bas:A2v Dq)(L:Nat):Cz Tryz.prog (Blr Dq L):=(De (a2 _ Bas) (oS [Bmb L]))
def A6x(a1:Ab)(a0:B1)(v:C8):St:=⟨[(0,.any),(1,.any),(2,.loc 2 0),(3,.any),(4,I v.1),(5,.any),(16,lv (.t98 a1.Kids)),(17,I (a1.Kids.length:Int)),(18,I v.2)],[(2,[B a0.u_code]),(3,(Ca a1))],0⟩
def Qq [An A Cq](Dq:B1→Ab→Option Int)(L:Nat)(a1:Ab)(a0:B1)(rec:Int→Int→A)(Ar:Int)(Ag:Int):A:=
 (lw Ag a1.Kids
 (bd (Dq (⟨a0.u_code⟩:B1) (Ab.cp (a1.Kids.getD (Int.toNat Ag) default))) fun r2=>
 (cn (r2 != 0)
 (lf (0,r2,Ag))
 (rec Ar (Bo (Ag+1)))))
 (lf (1,Ar,Ag)))
def Js(Dq:B1→Ab→Option Int)(L:Nat)(a1:Ab)(a0:B1):Nat→Int→Int→Option Cq
 |0,_,_=>none
 |n+1,Ar,Ag=>Qq Dq L a1 a0 (Js Dq L a1 a0 n) Ar Ag
theorem Bi3(Dq:B1→Ab→Option Int)(L:Nat)(K:Bg)(a1:Ab)(a0:B1):LP (EV (Blr Dq L) L 9 Bup.w.l.u.l.l) [0,1,2,3,4,5,16,17,18] [2,3] (A6x a1 a0) [.ret,.exit 0] (fun n v=>Js Dq L a1 a0 n v.1 v.2) K:=lE (fun _=>rfl) fun n v ih=>eE (Qq Dq L a1 a0 (fun Ar Ag=>re (ih (Ar,Ag))) v.1 v.2)
def J4 [An A Int](Dq:B1→Ab→Option Int)(L:Nat)(o3:Nat×C8):A:=
 (sl o3.1 [(lf o3.2.1),
 (lf 0)])
def A4k(Dq:B1→Ab→Option Int)(L:Nat)(kk:Cc):Bg:=(Bb 0 (Bp (EV (Blr Dq L) L 9 Bup.w.r) (Ct Tryz.prog (RS Tryz.f195) kk)))
theorem Bqg(Dq:B1→Ab→Option Int)(L:Nat)(kk:Cc)(a1:Ab)(a0:B1)(o3:Nat×C8):kX [.ret,.exit 0] (A6x a1 a0) (A4k Dq L kk) o3=ob (J4 Dq L o3) (kQ I kk):=eE (J4 Dq L o3)
def Ri [An A Int](Dq:B1→Ab→Option Int)(L:Nat)(a0:B1)(a1:Ab)(nx1:A):A:=
 (bd (Yu L (⟨a0.u_code⟩:B1) (Ab.cp a1)) fun r1=>
 (cn (r1 != 0)
 (lf r1)
 nx1))
def Ai2 [An A Int](Dq:B1→Ab→Option Int)(L:Nat)(a0:B1)(a1:Ab):A:=Ri Dq L a0 a1 (bd (Js Dq L a1 a0 L 0 0) fun o3=>J4 Dq L o3)
def V2(Dq:B1→Ab→Option Int)(L:Nat)(a0:B1)(a1:Ab):Option Int:=Ai2 Dq L a0 a1
theorem Bzf(Dq:B1→Ab→Option Int)(Bas:A2v Dq)(L:Nat):A2v (V2 Dq L):=fun a0 a1 r h=>hF Tryz.func195 (B0w Dq Bas L) L (fun kk=>eE (Ri Dq L a0 a1 (ho (Bi3 Dq L (A4k Dq L kk) a1 a0 L (0,0)) fun o3=>Bqg Dq L kk a1 a0 o3))) h
def Hb:Nat→B1→Ab→Option Int
 |0,_,_=>none
 |L+1,a0,a1=>V2 (Hb L) L a0 a1
theorem Bg8(L:Nat):A2v (Hb L):=by
 induction L with
 |zero=>exact fun _ _ _ h=>(by cases h)
 |succ L ih=>
  have i195:=ih
  exact Bzf (Hb L) i195 L
def Btc(L:Nat):Di:=E2 I 195 Hg Bq (Hb L) (Bg8 L)
def Wc [An A Int](a0:B1)(a1:Ab):A:=
 (bd (Mo L (Ab.cp a1)) fun r1=>
 (cn (decide (r1 > 60))
 (lf 6)
 (bd (Mn L (Ab.cp a1)) fun r2=>
 (cn (decide (r2 > 12))
 (lf 11)
 (bd (Hb L (⟨a0.u_code⟩:B1) (Ab.cp a1)) fun r3=>
 (lf r3))))))
def Mp(a0:B1)(a1:Ab):Option Int:=Wc L a0 a1
def Bl3:Di:=E2 I 165 Hg Bq (Mp L) fun a0 a1 r h=>hF Tryz.func165 (oS [Bta L,Btb L,Btc L]) L (fun kk=>eE (Wc L a0 a1)) h
def Ai1 [An A Int](a0:Ab):A:=
 (bd (Mp L (⟨false⟩:B1) (Ab.cp a0)) fun r1=>
 (lf r1))
def w7(a0:Ab):Option Int:=Ai1 L a0
def Btg:Di:=E1 I 220 Bq (w7 L) fun a0 r h=>hF Tryz.func220 (oS [Bl3 L]) L (fun kk=>eE (Ai1 L a0)) h
def A7v:=CC Tryz.f212
def Azh:Bi:=oL [X35 L,Bfi L,Btg L]
def A61(a1:B4)(a0:Af)(v:C8):St:=⟨[(0,.any),(1,.any),(2,.loc 2 0),(3,.loc 3 0),(4,I v.1),(9,.any),(10,.any),(12,.any),(13,.any),(24,.lst true (.t275 [(⟨a1.u_name,a0.Name⟩:Dw),(⟨a1.u_of,a0.Of⟩:Dw)])),(25,I ([(⟨a1.u_name,a0.Name⟩:Dw),(⟨a1.u_of,a0.Of⟩:Dw)].length:Int)),(26,I v.2),(53,.any),(74,.any)],[(2,(L3 a0)),(3,(Og a1))],0⟩
def Abr [An A Cq](a1:B4)(a0:Af)(rec:Int→Int→A)(Ar:Int)(Ag:Int):A:=
 (cn (decide (Ag < ([(⟨a1.u_name,a0.Name⟩:Dw),(⟨a1.u_of,a0.Of⟩:Dw)].length:Int)))
 (gq (0≤Ag)
 (gq (Ag < (([(⟨a1.u_name,a0.Name⟩:Dw),(⟨a1.u_of,a0.Of⟩:Dw)].length:Nat):Int))
 (bd (Cy L (([(⟨a1.u_name,a0.Name⟩:Dw),(⟨a1.u_of,a0.Of⟩:Dw)].getD (Int.toNat Ag) default).u_name)) fun r1=>
 (jp (.cn (([(⟨a1.u_name,a0.Name⟩:Dw),(⟨a1.u_of,a0.Of⟩:Dw)].getD (Int.toNat Ag) default).u_is)
 (.lf (r1 != 0))
 (.lf false)) (fun b2=>
 (cn b2
 (lf (0,r1,Ag))
 (rec Ar (Bo (Ag+1)))))))))
 (lf (1,Ar,Ag)))
def R4(L:Nat)(a1:B4)(a0:Af):Nat→Int→Int→Option Cq
 |0,_,_=>none
 |n+1,Ar,Ag=>Abr L a1 a0 (R4 L a1 a0 n) Ar Ag
theorem Bi7(a1:B4)(a0:Af):LP (EV (Azh L) L 9 A7v.u.l.u.l.l) [0,1,2,3,4,9,10,12,13,24,25,26,53,74] [2,3] (A61 a1 a0) [.ret,.exit 0] (fun n v=>R4 L a1 a0 n v.1 v.2) K:=lE (fun _=>rfl) fun n v ih=>eE (Abr L a1 a0 (fun Ar Ag=>re (ih (Ar,Ag))) v.1 v.2)
def A62(a1:B4)(a0:Af)(v:C8):St:=⟨[(0,.any),(1,.any),(2,.loc 2 0),(3,.loc 3 0),(4,I v.1),(6,.any),(7,.any),(12,.any),(13,.any),(26,.any),(51,.lst true (.t277 [(⟨a1.u_e,(Ab.cp a0.E)⟩:Hu),(⟨a1.u_f,(Ab.cp a0.F)⟩:Hu)])),(52,I ([(⟨a1.u_e,(Ab.cp a0.E)⟩:Hu),(⟨a1.u_f,(Ab.cp a0.F)⟩:Hu)].length:Int)),(53,I v.2),(74,.any)],[(2,(L3 a0)),(3,(Og a1))],0⟩
def Abs [An A Cq](a1:B4)(a0:Af)(rec:Int→Int→A)(Cm:Int)(Bt:Int):A:=
 (cn (decide (Bt < ([(⟨a1.u_e,(Ab.cp a0.E)⟩:Hu),(⟨a1.u_f,(Ab.cp a0.F)⟩:Hu)].length:Int)))
 (gq (0≤Bt)
 (gq (Bt < (([(⟨a1.u_e,(Ab.cp a0.E)⟩:Hu),(⟨a1.u_f,(Ab.cp a0.F)⟩:Hu)].length:Nat):Int))
 (cn (!(([(⟨a1.u_e,(Ab.cp a0.E)⟩:Hu),(⟨a1.u_f,(Ab.cp a0.F)⟩:Hu)].getD (Int.toNat Bt) default).u_is))
 (rec Cm (Bo (Bt+1)))
 (bd (w7 L (Ab.cp (([(⟨a1.u_e,(Ab.cp a0.E)⟩:Hu),(⟨a1.u_f,(Ab.cp a0.F)⟩:Hu)].getD (Int.toNat Bt) default).u_e))) fun r4=>
 (cn (r4 != 0)
 (lf (0,r4,Bt))
 (rec Cm (Bo (Bt+1))))))))
 (lf (1,Cm,Bt)))
def R5(L:Nat)(a1:B4)(a0:Af):Nat→Int→Int→Option Cq
 |0,_,_=>none
 |n+1,Cm,Bt=>Abs L a1 a0 (R5 L a1 a0 n) Cm Bt
theorem Bi8(a1:B4)(a0:Af):LP (EV (Azh L) L 9 A7v.w.l.u.l.l) [0,1,2,3,4,6,7,12,13,26,51,52,53,74] [2,3] (A62 a1 a0) [.ret,.exit 2] (fun n v=>R5 L a1 a0 n v.1 v.2) K:=lE (fun _=>rfl) fun n v ih=>eE (Abs L a1 a0 (fun Cm Bt=>re (ih (Cm,Bt))) v.1 v.2)
def A63(a0:Af)(a1:B4)(v:C8):St:=⟨[(0,.any),(1,.any),(2,.loc 2 0),(3,.loc 3 0),(4,I v.1),(6,.any),(7,.any),(9,.any),(10,.any),(26,.any),(53,.any),(72,lv (.t98 a0.Args)),(73,I (a0.Args.length:Int)),(74,I v.2)],[(2,(L3 a0)),(3,(Og a1))],0⟩
def Abt [An A Cq](a0:Af)(a1:B4)(rec:Int→Int→A)(Hl:Int)(Gv:Int):A:=
 (lw Gv a0.Args
 (bd (w7 L (Ab.cp (a0.Args.getD (Int.toNat Gv) default))) fun r6=>
 (cn (r6 != 0)
 (lf (0,r6,Gv))
 (rec Hl (Bo (Gv+1)))))
 (lf (1,Hl,Gv)))
def R6(L:Nat)(a0:Af)(a1:B4):Nat→Int→Int→Option Cq
 |0,_,_=>none
 |n+1,Hl,Gv=>Abt L a0 a1 (R6 L a0 a1 n) Hl Gv
theorem Bi9(a0:Af)(a1:B4):LP (EV (Azh L) L 9 A7v.x.l.u.l.l) [0,1,2,3,4,6,7,9,10,26,53,72,73,74] [2,3] (A63 a0 a1) [.ret,.exit 4] (fun n v=>R6 L a0 a1 n v.1 v.2) K:=lE (fun _=>rfl) fun n v ih=>eE (Abt L a0 a1 (fun Hl Gv=>re (ih (Hl,Gv))) v.1 v.2)
def Sr [An A Int](a1:B4)(a0:Af)(o7:Nat×C8):A:=
 (sl o7.1 [(lf o7.2.1),
 (cn a1.u_dist
 (bd (F9 L a0.Dist) fun r8=>
 (lf r8))
 (lf 0))])
def A4q:Bg:=(Bb 4 (Bp (EV (Azh L) L 9 A7v.x.r) (Ct Tryz.prog (RS Tryz.f212) kk)))
theorem Bqm(a0:Af)(a1:B4)(o7:Nat×C8):kX [.ret,.exit 4] (A63 a0 a1) (A4q L kk) o7=ob (Sr L a1 a0 o7) (kQ I kk):=eE (Sr L a1 a0 o7)
def Ab7 [An A Int](L:Nat)(a0:Af)(a1:B4)(o5:Nat×C8)(nx3:Cq→A):A:=
 (sl o5.1 [(lf o5.2.1),
 (cn (decide ((a0.Args.length:Int) > 6))
 (lf 6)
 (nx3 o5))])
def Ab0 [An A Int](a0:Af)(a1:B4)(o5:Nat×C8):A:=Ab7 L a0 a1 o5 (fun o5=>bd (R6 L a0 a1 L o5.2.1 0) fun o7=>Sr L a1 a0 o7)
def A4p:Bg:=(Bb 2 (Bp (EV (Azh L) L 9 A7v.w.r) (Ct Tryz.prog (RS Tryz.f212) kk)))
theorem Bql(a1:B4)(a0:Af)(o5:Nat×C8):kX [.ret,.exit 2] (A62 a1 a0) (A4p L kk) o5=ob (Ab0 L a0 a1 o5) (kQ I kk):=eE (Ab7 L a0 a1 o5 (fun o5=>ho (Bi9 L (A4q L kk) a0 a1 L (o5.2.1,0)) fun o7=>Bqm L kk a0 a1 o7))
def Ab6 [An A Int](L:Nat)(a1:B4)(a0:Af)(o3:Nat×C8)(nx2:Cq→A):A:=
 (sl o3.1 [(lf o3.2.1),
 (nx2 o3)])
def Abz [An A Int](a1:B4)(a0:Af)(o3:Nat×C8):A:=Ab6 L a1 a0 o3 (fun o3=>bd (R5 L a1 a0 L o3.2.1 0) fun o5=>Ab0 L a0 a1 o5)
def A4o:Bg:=(Bb 0 (Bp (EV (Azh L) L 9 A7v.u.r) (Ct Tryz.prog (RS Tryz.f212) kk)))
theorem Bqk(a1:B4)(a0:Af)(o3:Nat×C8):kX [.ret,.exit 0] (A61 a1 a0) (A4o L kk) o3=ob (Abz L a1 a0 o3) (kQ I kk):=eE (Ab6 L a1 a0 o3 (fun o3=>ho (Bi8 L (A4p L kk) a1 a0 L (o3.2.1,0)) fun o5=>Bql L kk a1 a0 o5))
def Aua [An A Int](a0:Af)(a1:B4):A:=(bd (R4 L a1 a0 L 0 0) fun o3=>Abz L a1 a0 o3)
def Aim(a0:Af)(a1:B4):Option Int:=Aua L a0 a1
def Bma:Di:=E2 I 212 Qj Am3 (Aim L) fun a0 a1 r h=>hF Tryz.func212 (C:=Azh L) (oS _) L (fun kk=>eE ((ho (Bi7 L (A4o L kk) a1 a0 L (0,0)) fun o3=>Bqk L kk a1 a0 o3))) h
def A2r(F:(List Af)→Option Int):Prop:=∀y0 r,F y0=some r→Ho Tryz.prog 187 [Md.en y0] I r
def Buk:=CC Tryz.f187
def Bln(D0:(List Af)→Option Int)(L:Nat):Bi:=(orc 187 (A1 I Md D0) (oL [Bl8 L,Bl9 L,Bma L]))
theorem B0s(D0:(List Af)→Option Int)(Bao:A2r D0)(L:Nat):Cz Tryz.prog (Bln D0 L):=(De (a1 _ Bao) (oS [Bl8 L,Bl9 L,Bma L]))
def A6t(a0:List Af)(v:C8):St:=⟨[(0,.any),(2,I v.1),(10,lv (.t264 a0)),(11,I (a0.length:Int)),(12,I v.2)],[],0⟩
def Abq [An A Cq](D0:(List Af)→Option Int)(L:Nat)(a0:List Af)(rec:Int→Int→A)(Ar:Int)(Ag:Int):A:=
 (lw Ag a0
 (bd (Amh L ((a0.getD (Int.toNat Ag) default).Op)) fun r1=>
 (jb (.cn (!r1.2)
 (.lf true)
 (.bd (Amg L (Af.cp (a0.getD (Int.toNat Ag) default)) r1.1) fun r3=>
 (.lf (!r3)))) (fun b2=>
 (cn b2
 (lf (0,1,Ag))
 (bd (Aim L (Af.cp (a0.getD (Int.toNat Ag) default)) r1.1) fun r4=>
 (cn (r4 != 0)
 (lf (0,r4,Ag))
 (bd (D0 ((a0.getD (Int.toNat Ag) default).Body)) fun r5=>
 (cn (r5 != 0)
 (lf (0,r5,Ag))
 (bd (D0 ((a0.getD (Int.toNat Ag) default).Else)) fun r6=>
 (cn (r6 != 0)
 (lf (0,r6,Ag))
 (rec Ar (Bo (Ag+1)))))))))))))
 (lf (1,Ar,Ag)))
def R3(D0:(List Af)→Option Int)(L:Nat)(a0:List Af):Nat→Int→Int→Option Cq
 |0,_,_=>none
 |n+1,Ar,Ag=>Abq D0 L a0 (R3 D0 L a0 n) Ar Ag
theorem Biz(D0:(List Af)→Option Int)(L:Nat)(K:Bg)(a0:List Af):LP (EV (Bln D0 L) L 9 Buk.u.l.u.l.l) [0,2,10,11,12] [] (A6t a0) [.ret,.exit 0] (fun n v=>R3 D0 L a0 n v.1 v.2) K:=lE (fun _=>rfl) fun n v ih=>eE (Abq D0 L a0 (fun Ar Ag=>re (ih (Ar,Ag))) v.1 v.2)
def Sq [An A Int](D0:(List Af)→Option Int)(L:Nat)(o7:Nat×C8):A:=
 (sl o7.1 [(lf o7.2.1),
 (lf 0)])
def A4g(D0:(List Af)→Option Int)(L:Nat)(kk:Cc):Bg:=(Bb 0 (Bp (EV (Bln D0 L) L 9 Buk.u.r) (Ct Tryz.prog (RS Tryz.f187) kk)))
theorem Bqc(D0:(List Af)→Option Int)(L:Nat)(kk:Cc)(a0:List Af)(o7:Nat×C8):kX [.ret,.exit 0] (A6t a0) (A4g D0 L kk) o7=ob (Sq D0 L o7) (kQ I kk):=eE (Sq D0 L o7)
def At9 [An A Int](D0:(List Af)→Option Int)(L:Nat)(a0:List Af):A:=(bd (R3 D0 L a0 L 0 0) fun o7=>Sq D0 L o7)
def Aic(D0:(List Af)→Option Int)(L:Nat)(a0:List Af):Option Int:=At9 D0 L a0
theorem Bzb(D0:(List Af)→Option Int)(Bao:A2r D0)(L:Nat):A2r (Aic D0 L):=fun a0 r h=>hF Tryz.func187 (B0s D0 Bao L) L (fun kk=>eE ((ho (Biz D0 L (A4g D0 L kk) a0 L (0,0)) fun o7=>Bqc D0 L kk a0 o7))) h
def Ms:Nat→(List Af)→Option Int
 |0,_=>none
 |L+1,a0=>Aic (Ms L) L a0
theorem Bg4(L:Nat):A2r (Ms L):=by
 induction L with
 |zero=>exact fun _ _ h=>(by cases h)
 |succ L ih=>
  have i187:=ih
  exact Bzb (Ms L) i187 L
def Bs9(L:Nat):Di:=E1 I 187 Md (Ms L) (Bg4 L)
def Ai4 [An A Int](a0:List Af):A:=
 (bd (Mq L a0) fun r1=>
 (cn (decide (r1 > 200))
 (lf 6)
 (bd (Mr L a0) fun r2=>
 (cn (decide (r2 > 12))
 (lf 11)
 (bd (Ms L a0) fun r3=>
 (lf r3))))))
def Ail(a0:List Af):Option Int:=Ai4 L a0
def Bst:Di:=E1 I 151 Md (Ail L) fun a0 r h=>hF Tryz.func151 (oS [Bs7 L,Bs8 L,Bs9 L]) L (fun kk=>eE (Ai4 L a0)) h
def Az3:=CC Tryz.f112
def Arh:Bi:=oL [X35 L,Bfl L,Bss L,Bst L]
def A2c(p1_0:ByteArray)(p1_1:Aj)(p1_2:Bs)(p1_3:List ByteArray)(p1_4:List Bool)(k:Bu):Cj→Prop:=fun o=>k (I o.1) [(1,(Ck p1_1)),(5,(Jn p1_2)),(21,[.mapO false false (.t9 o.2.1) (.t4 o.2.2)])]
def T8 [An A Cj](p1_0:ByteArray)(p1_1:Aj)(p1_2:Bs)(p1_3:List ByteArray)(p1_4:List Bool):A:=
 (bd (Cy L p1_0) fun r3=>
 (cn (r3 != 0)
 (lf (r3,p1_3,p1_4))
 (fq (p1_3.findIdx? fun b=>p1_0 == b) (fun i4=>
 (cn (p1_4.getD i4 default)
 (lf (4,p1_3,p1_4))
 (fq (p1_3.findIdx? fun b=>p1_0 == b) (fun i5=>
 (lf (0,p1_3,(p1_4.set i5 true))))
 (lf (0,(p1_3++ [p1_0]),(p1_4++ [true]))))))
 (fq (p1_3.findIdx? fun b=>p1_0 == b) (fun i6=>
 (lf (0,p1_3,(p1_4.set i6 true))))
 (lf (0,(p1_3++ [p1_0]),(p1_4++ [true])))))))
def Ua(p1_0:ByteArray)(p1_1:Aj)(p1_2:Bs)(p1_3:List ByteArray)(p1_4:List Bool):Option Cj:=T8 L p1_0 p1_1 p1_2 p1_3 p1_4
theorem Bhe(p1_0:ByteArray)(p1_1:Aj)(p1_2:Bs)(p1_3:List ByteArray)(p1_4:List Bool):YO (Arh L) L 9 59 [.mp 21,S p1_0] [(1,(Ck p1_1)),(5,(Jn p1_2)),(21,[.mapO false false (.t9 p1_3) (.t4 p1_4)])] k=ob (Ua L p1_0 p1_1 p1_2 p1_3 p1_4) (A2c p1_0 p1_1 p1_2 p1_3 p1_4 k):=(Cu _ _ _ Xu _ _ _ _ _ _ _).trans (eE (T8 L p1_0 p1_1 p1_2 p1_3 p1_4))
def Avm(r2:List Bs)(a0:Aj)(v:T1):St:=⟨[(0,.any),(1,.loc 1 0),(2,I v.1),(3,.mp 21),(27,lv (.t200 r2)),(28,I (r2.length:Int)),(29,I v.2.1)],[(1,(Ck a0)),(21,[.mapO false false (.t9 v.2.2.1) (.t4 v.2.2.2)])],0⟩
def L8 [An A Hn](Ag:Int)(r2:List Bs)(Ar:Int)(rec:Int→Int→List ByteArray→List Bool→A)(o7:Cj):A:=
 (cn (o7.1 != 0)
 (lf (0,o7.1,Ag,o7.2.1,o7.2.2))
 (bd (P2 L ((r2.getD (Int.toNat Ag) default).Type_)) fun r8=>
 (cn (!r8)
 (lf (0,1,Ag,o7.2.1,o7.2.2))
 (rec Ar (Bo (Ag+1)) o7.2.1 o7.2.2))))
def Vv [An A Hn](L:Nat)(r2:List Bs)(a0:Aj)(rec:Int→Int→List ByteArray→List Bool→A)(Ar:Int)(Ag:Int)(Cl:List ByteArray)(Ec:List Bool)(nx1:Int→(List ByteArray)→(List Bool)→Int→A):A:=
 (lw Ag r2
 (nx1 Ag Cl Ec Ar)
 (lf (1,Ar,Ag,Cl,Ec)))
def Ahv [An A Hn](r2:List Bs)(a0:Aj)(rec:Int→Int→List ByteArray→List Bool→A)(Ar:Int)(Ag:Int)(Cl:List ByteArray)(Ec:List Bool):A:=Vv L r2 a0 rec Ar Ag Cl Ec (fun Ag Cl Ec Ar=>bd (Ua L ((r2.getD (Int.toNat Ag) default).Name) a0 (r2.getD (Int.toNat Ag) default) Cl Ec) fun o7=>L8 L Ag r2 Ar rec o7)
def Ie(L:Nat)(r2:List Bs)(a0:Aj):Nat→Int→Int→List ByteArray→List Bool→Option Hn
 |0,_,_,_,_=>none
 |n+1,Ar,Ag,Cl,Ec=>Ahv L r2 a0 (Ie L r2 a0 n) Ar Ag Cl Ec
def A2a(r2:List Bs)(a0:Aj):Prop:=LI (EV (Arh L) L 9 Az3.w.u.l.u.l.l) [0,1,2,3,27,28,29] [1,21] (Avm r2 a0) [.ret,.exit 0] (fun n v=>Ie L r2 a0 n v.1 v.2.1 v.2.2.1 v.2.2.2) K n
def A3b(r2:List Bs)(Ag:Int)(Ar:Int)(a0:Aj)(Cl:List ByteArray)(Ec:List Bool):Bu:=(B2 Tryz.prog (Arh L) (EI (Arh L) L 9) 1 (List.drop 4 Az3.w.u.l.u.l.l.w.l.l.u.l.l.ops) ⟨[(35,S (r2.getD (Int.toNat Ag) default).Name),(34,.loc 5 0),(33,.mp 21),(1,.loc 1 0),(2,I Ar),(3,.mp 21),(5,.loc 5 0),(27,lv (.t200 r2)),(28,I (r2.length:Int)),(29,I Ag),(30,B (decide (Ag < (r2.length:Int)))),(31,.ref (Jn (r2.getD (Int.toNat Ag) default))),(32,.agg (Jn (r2.getD (Int.toNat Ag) default)))],[(1,(Ck a0)),(5,(Jn (r2.getD (Int.toNat Ag) default))),(21,[.mapO false false (.t9 Cl) (.t4 Ec)])],0⟩ (some 36) (fun st9=>(Bp (EV (Arh L) L 9 Az3.w.u.l.u.l.l.w.l.l.u.l.r) (Bp (EV (Arh L) L 9 Az3.w.u.l.u.l.l.w.l.l.u.r) (Bb 1 (Bp (EV (Arh L) L 9 Az3.w.u.l.u.l.l.w.r) (D4 (Ep (EV (Arh L) L 9 Az3.w.u.l.u.l.l) [0,1,2,3,27,28,29] [1,21] n) [0,1,2,3,27,28,29] [1,21] K))))) .normal st9))
theorem Bo7(r2:List Bs)(Ag:Int)(a0:Aj)(Cl:List ByteArray)(Ec:List Bool)(Ar:Int)(ih:A2a L n K r2 a0)(o7:Cj):A2c ((r2.getD (Int.toNat Ag) default).Name) a0 (r2.getD (Int.toNat Ag) default) Cl Ec (A3b L n K r2 Ag Ar a0 Cl Ec) o7=ob (L8 L Ag r2 Ar (Ie L r2 a0 n) o7) (kX [.ret,.exit 0] (Avm r2 a0) K):=eE (L8 L Ag r2 Ar (fun Ar Ag Cl Ec=>re (ih (Ar,Ag,Cl,Ec))) o7)
theorem Bh9(r2:List Bs)(a0:Aj):∀n,A2a L n K r2 a0:=lE (fun _=>rfl) fun n v ih=>eE (Vv L r2 a0 (fun Ar Ag Cl Ec=>re (ih (Ar,Ag,Cl,Ec))) v.1 v.2.1 v.2.2.1 v.2.2.2 (fun Ag Cl Ec Ar=>ho (Bhe L (A3b L n K r2 Ag Ar a0 Cl Ec) ((r2.getD (Int.toNat Ag) default).Name) a0 (r2.getD (Int.toNat Ag) default) Cl Ec) fun o7=>Bo7 L n K r2 Ag a0 Cl Ec Ar ih o7))
def L9 [An A Int](a0:Aj)(o9:Nat×T1):A:=
 (sl o9.1 [(lf o9.2.1),
 (bd (Ail L a0.Body) fun r10=>
 (lf r10))])
def A3c:Bg:=(Bb 0 (Bp (EV (Arh L) L 9 Az3.w.u.r) (Ct Tryz.prog (RS Tryz.f112) kk)))
theorem Bo8(r2:List Bs)(a0:Aj)(o9:Nat×T1):kX [.ret,.exit 0] (Avm r2 a0) (A3c L kk) o9=ob (L9 L a0 o9) (kQ I kk):=eE (L9 L a0 o9)
def Vw [An A Int](a0:Aj)(nx2:(List Bs)→A):A:=
 (jp (.cn (decide ((a0.Params.length:Int) > 6))
 (.lf true)
 (.lf (decide ((Bo ((a0.Params.length:Int)+(a0.Locals.length:Int))) > 16)))) (fun b1=>
 (cn b1
 (lf 6)
 (bd (Kh L [a0.Params,a0.Locals]) fun r2=>
 (nx2 r2)))))
def Anu [An A Int](a0:Aj):A:=Vw L a0 (fun r2=>bd (Ie L r2 a0 L 0 0 [] []) fun o9=>L9 L a0 o9)
def Aa4(a0:Aj):Option Int:=Anu L a0
def Br9:Di:=E1 I 112 Ac4 (Aa4 L) fun a0 r h=>hF Tryz.func112 (C:=Arh L) (oS _) L (fun kk=>eE (Vw L a0 (fun r2=>ho (Bh9 L (A3c L kk) r2 a0 L (0,0,[],[])) fun o9=>Bo8 L kk r2 a0 o9))) h
def Bul:=CC Tryz.f188
def Bt6:=CC Tryz.f152
def Azg(L:Nat):Bi:=oL []
def A6g(p1_0:List Aj)(p1_1:Aa)(p1_2:ByteArray)(v:C8):St:=⟨[(0,lv (.t93 p1_0)),(1,.clo 189 0 [.loc 3 0]),(4,I v.1),(7,I (p1_0.length:Int)),(8,I v.2)],[(2,(Ad p1_1)),(3,[S p1_2])],1004⟩
def Ue [An A Cq](L:Nat)(p1_0:List Aj)(p1_1:Aa)(p1_2:ByteArray)(rec:Int→Int→A)(Aw:Int)(Ag:Int):A:=
 (lw Ag p1_0
 (cn (((p1_0.getD (Int.toNat Ag) default).Name).toList == p1_2.toList)
 (lf (0,Ag,Ag))
 (rec Aw (Bo (Ag+1))))
 (lf (1,Aw,Ag)))
def L5(L:Nat)(p1_0:List Aj)(p1_1:Aa)(p1_2:ByteArray):Nat→Int→Int→Option Cq
 |0,_,_=>none
 |n+1,Aw,Ag=>Ue L p1_0 p1_1 p1_2 (L5 L p1_0 p1_1 p1_2 n) Aw Ag
theorem Bil(p1_0:List Aj)(p1_1:Aa)(p1_2:ByteArray):LP (EV (Azg L) L 8 Bul.u.l.u.l.l) [0,1,4,7,8] [2,3] (A6g p1_0 p1_1 p1_2) [.ret,.exit 0] (fun n v=>L5 L p1_0 p1_1 p1_2 n v.1 v.2) K:=lE (fun _=>rfl) fun n v ih=>eE (Ue L p1_0 p1_1 p1_2 (fun Aw Ag=>re (ih (Aw,Ag))) v.1 v.2)
def Atj(p1_0:List Aj)(p1_1:Aa)(p1_2:ByteArray)(k:Bu):Int→Prop:=fun o=>k (I o) [(2,(Ad p1_1)),(3,[S p1_2])]
def L6 [An A Int](L:Nat)(o1:Nat×C8):A:=
 (sl o1.1 [(lf o1.2.1),
 (lf (-1))])
def A3u:Bg:=(Bb 0 (Bp (EV (Azg L) L 8 Bul.u.r) (Cx Tryz.prog (RS Tryz.f188) k)))
theorem Bpq(p1_0:List Aj)(p1_1:Aa)(p1_2:ByteArray)(o1:Nat×C8):kX [.ret,.exit 0] (A6g p1_0 p1_1 p1_2) (A3u L k) o1=ob (L6 L o1) (Atj p1_0 p1_1 p1_2 k):=eE (L6 L o1)
def Ahu [An A Int](p1_0:List Aj)(p1_1:Aa)(p1_2:ByteArray):A:=(bd (L5 L p1_0 p1_1 p1_2 L 0 0) fun o1=>L6 L o1)
def T9(p1_0:List Aj)(p1_1:Aa)(p1_2:ByteArray):Option Int:=Ahu L p1_0 p1_1 p1_2
theorem Bhj(p1_0:List Aj)(p1_1:Aa)(p1_2:ByteArray):YO (Azg L) L 9 188 [lv (.t93 p1_0),.clo 189 0 [.loc 3 0]] [(2,(Ad p1_1)),(3,[S p1_2])] k=ob (T9 L p1_0 p1_1 p1_2) (Atj p1_0 p1_1 p1_2 k):=(Cu _ _ _ Xu _ _ _ _ _ _ _).trans (eE ((ho (Bil L (A3u L k) p1_0 p1_1 p1_2 L (0,0)) fun o1=>Bpq L k p1_0 p1_1 p1_2 o1)))
def L7 [An A Int](L:Nat)(o2:Int):A:=
 (lf o2)
def A3v(a0:Aa)(a1:ByteArray):Bu:=(B2 Tryz.prog (Azg L) (EI (Azg L) L 9) 1 (List.drop 4 Bt6.u.l.ops) ⟨[(7,.clo 189 0 [.loc 3 0]),(6,lv (.t93 a0.Routines)),(5,.loc 2 10),(2,.loc 2 0),(3,.loc 3 0),(4,I 0)],[(2,(Ad a0)),(3,[S a1])],0⟩ (some 8) (fun st9=>(Bp (EV (Azg L) L 9 Bt6.u.r) (Ct Tryz.prog (RS Tryz.f152) kk)) .normal st9))
theorem Bpr(a0:Aa)(a1:ByteArray)(o2:Int):Atj a0.Routines a0 a1 (A3v L kk a0 a1) o2=ob (L7 L o2) (kQ I kk):=eE (L7 L o2)
def Ant [An A Int](a0:Aa)(a1:ByteArray):A:=(bd (T9 L a0.Routines a0 a1) fun o2=>L7 L o2)
def Ik(a0:Aa)(a1:ByteArray):Option Int:=Ant L a0 a1
def Bl2:Di:=E2 I 152 Cs cS (Ik L) fun a0 a1 r h=>hF Tryz.func152 (C:=Azg L) (oS _) L (fun kk=>eE ((ho (Bhj L (A3v L kk a0 a1) a0.Routines a0 a1) fun o2=>Bpr L kk a0 a1 o2))) h
def Btz:=CC Tryz.f116
def Bla:Bi:=oL [X95 L,Bfm L,Bl2 L]
def A56(a0:Aa)(r1:Int)(a1:Bv)(v:C8):St:=⟨[(0,.any),(1,.any),(2,.any),(3,.loc 3 0),(4,I v.1),(5,.any),(6,lv (.t200 ((a0.Routines.getD (Int.toNat r1) default).Params))),(28,lv (.t3 a1.Args)),(29,I (a1.Args.length:Int)),(30,I v.2)],[(2,(Ad a0)),(3,(Wi a1))],0⟩
def d9 [An A Cq](a0:Aa)(r1:Int)(a1:Bv)(rec:Int→Int→A)(Ar:Int)(Ae:Int):A:=
 (lw Ae a1.Args
 (gi Ae ((a0.Routines.getD (Int.toNat r1) default).Params)
 (bd (S2 L ((((a0.Routines.getD (Int.toNat r1) default).Params).getD (Int.toNat Ae) default).Type_) (a1.Args.getD (Int.toNat Ae) default)) fun r2=>
 (cn (!r2)
 (lf (0,2,Ae))
 (rec Ar (Bo (Ae+1))))))
 (lf (1,Ar,Ae)))
def On(L:Nat)(a0:Aa)(r1:Int)(a1:Bv):Nat→Int→Int→Option Cq
 |0,_,_=>none
 |n+1,Ar,Ae=>d9 L a0 r1 a1 (On L a0 r1 a1 n) Ar Ae
theorem Bia(a0:Aa)(r1:Int)(a1:Bv):LP (EV (Bla L) L 9 Btz.x.u.l.u.l.l) [0,1,2,3,4,5,6,28,29,30] [2,3] (A56 a0 r1 a1) [.ret,.exit 0] (fun n v=>On L a0 r1 a1 n v.1 v.2) K:=lE (fun _=>rfl) fun n v ih=>eE (d9 L a0 r1 a1 (fun Ar Ae=>re (ih (Ar,Ae))) v.1 v.2)
def Pw [An A Int](a1:Bv)(o3:Nat×C8):A:=
 (sl o3.1 [(lf o3.2.1),
 (bd (Br L a1.At 0 1000000000) fun r4=>
 (jb (.cn (!r4)
 (.lf true)
 (.bd (Br L a1.Every 0 1000000000) fun r6=>
 (.lf (!r6)))) (fun b5=>
 (jb (.cn b5
 (.lf true)
 (.bd (Br L a1.Until 0 1000000000) fun r8=>
 (.lf (!r8)))) (fun b7=>
 (jp (.cn b7
 (.lf true)
 (.cn (a1.Every == 0)
 (.lf (a1.Until != 0))
 (.lf false))) (fun b9=>
 (cn b9
 (lf 2)
 (lf 0)))))))))])
def A3d:Bg:=(Bb 0 (Bp (EV (Bla L) L 9 Btz.x.u.r) (Ct Tryz.prog (RS Tryz.f116) kk)))
theorem Bo9(a0:Aa)(r1:Int)(a1:Bv)(o3:Nat×C8):kX [.ret,.exit 0] (A56 a0 r1 a1) (A3d L kk) o3=ob (Pw L a1 o3) (kQ I kk):=eE (Pw L a1 o3)
def u3 [An A Int](a0:Aa)(a1:Bv)(nx1:Int→A):A:=
 (bd (Ik L a0 a1.Routine) fun r1=>
 (cn (decide (r1 < 0))
 (lf 5)
 (gi r1 a0.Routines
 (cn ((a1.Args.length:Int) != (((a0.Routines.getD (Int.toNat r1) default).Params).length:Int))
 (lf 8)
 (nx1 r1)))))
def Arr [An A Int](a0:Aa)(a1:Bv):A:=u3 L a0 a1 (fun r1=>bd (On L a0 r1 a1 L 0 0) fun o3=>Pw L a1 o3)
def Afu(a0:Aa)(a1:Bv):Option Int:=Arr L a0 a1
def Bsa:Di:=E2 I 116 Cs Ajd (Afu L) fun a0 a1 r h=>hF Tryz.func116 (C:=Bla L) (oS _) L (fun kk=>eE (u3 L a0 a1 (fun r1=>ho (Bia L (A3d L kk) a0 r1 a1 L (0,0)) fun o3=>Bo9 L kk a0 r1 a1 o3))) h
def A7u:=CC Tryz.f190
def Buv:=CC Tryz.f213
def Bfv:=CC Tryz.f157
def Yx:Bi:=oL [X95 L,Bl1 L,Bl2 L]
def Au0:Bg:=(Bb 0 (Bp (EV (Yx L) L 9 Bfv.w.r) (Ct Tryz.prog (RS Tryz.f157) kk)))
def Aux(a0:Aa)(a1:Bj)(kk:Cc):Bu:=(B2 Tryz.prog (Yx L) (EI (Yx L) L 8) 2 (List.drop 3 A7u.u.l.ops) ⟨[(6,.clo 191 0 [.loc 3 0]),(5,lv (.t89 a0.Stores)),(0,lv (.t89 a0.Stores)),(1,.clo 191 0 [.loc 3 0]),(4,B false)],[(2,(Ad a0)),(3,(Dx a1))],1004⟩ (some 7) (fun st9=>(Bp (EV (Yx L) L 8 A7u.u.r) (Cx Tryz.prog (RS Tryz.f190) (B2 Tryz.prog (Yx L) (EI (Yx L) L 9) 1 (List.drop 4 Bfv.w.l.u.l.w.r.l.ops) ⟨[(23,.clo 191 0 [.loc 3 0]),(22,lv (.t89 a0.Stores)),(21,.loc 2 3),(2,.loc 2 0),(3,.loc 3 0),(4,I 0),(5,B false),(7,S a1.What),(17,B (a1.What.toList == (⟨#[101,110,116,101,114,101,100]⟩:ByteArray).toList))],[(2,(Ad a0)),(3,(Dx a1))],0⟩ (some 24) (fun st9=>(Au0 L kk) .normal st9)))) .normal st9))
def Auy(a0:Aa)(a1:Bj)(kk:Cc):Bu:=(B2 Tryz.prog (Yx L) (EI (Yx L) L 8) 2 (List.drop 3 A7u.u.l.ops) ⟨[(6,.clo 191 0 [.loc 3 0]),(5,lv (.t89 a0.Stores)),(0,lv (.t89 a0.Stores)),(1,.clo 191 0 [.loc 3 0]),(4,B false)],[(2,(Ad a0)),(3,(Dx a1))],1004⟩ (some 7) (fun st9=>(Bp (EV (Yx L) L 8 A7u.u.r) (Cx Tryz.prog (RS Tryz.f190) (B2 Tryz.prog (Yx L) (EI (Yx L) L 9) 1 (List.drop 4 Bfv.w.l.u.l.w.r.l.ops) ⟨[(23,.clo 191 0 [.loc 3 0]),(22,lv (.t89 a0.Stores)),(21,.loc 2 3),(2,.loc 2 0),(3,.loc 3 0),(4,I 0),(5,B false),(7,S a1.What),(17,B (a1.What.toList == (⟨#[115,116,111,114,101,100]⟩:ByteArray).toList))],[(2,(Ad a0)),(3,(Dx a1))],0⟩ (some 24) (fun st9=>(Au0 L kk) .normal st9)))) .normal st9))
def Auz(a0:Aa)(a1:Bj)(kk:Cc):Bu:=(B2 Tryz.prog (Yx L) (EI (Yx L) L 8) 2 (List.drop 3 A7u.u.l.ops) ⟨[(6,.clo 191 0 [.loc 3 0]),(5,lv (.t89 a0.Stores)),(0,lv (.t89 a0.Stores)),(1,.clo 191 0 [.loc 3 0]),(4,B false)],[(2,(Ad a0)),(3,(Dx a1))],1004⟩ (some 7) (fun st9=>(Bp (EV (Yx L) L 8 A7u.u.r) (Cx Tryz.prog (RS Tryz.f190) (B2 Tryz.prog (Yx L) (EI (Yx L) L 9) 1 (List.drop 4 Bfv.w.l.u.l.w.r.l.ops) ⟨[(23,.clo 191 0 [.loc 3 0]),(22,lv (.t89 a0.Stores)),(21,.loc 2 3),(2,.loc 2 0),(3,.loc 3 0),(4,I 0),(5,B false),(7,S a1.What),(17,B (a1.What.toList == (⟨#[108,101,102,116]⟩:ByteArray).toList))],[(2,(Ad a0)),(3,(Dx a1))],0⟩ (some 24) (fun st9=>(Au0 L kk) .normal st9)))) .normal st9))
def A6h(p1_0:List Al)(p1_1:Aa)(p1_2:Bj)(v:C8):St:=⟨[(0,lv (.t89 p1_0)),(1,.clo 191 0 [.loc 3 0]),(4,I v.1),(7,I (p1_0.length:Int)),(8,I v.2)],[(2,(Ad p1_1)),(3,(Dx p1_2))],1004⟩
def Abn [An A Cq](L:Nat)(p1_0:List Al)(p1_1:Aa)(p1_2:Bj)(rec:Int→Int→A)(Aw:Int)(Ag:Int):A:=
 (lw Ag p1_0
 (cn (((p1_0.getD (Int.toNat Ag) default).Name).toList == p1_2.Name.toList)
 (lf (0,Ag,Ag))
 (rec Aw (Bo (Ag+1))))
 (lf (1,Aw,Ag)))
def Rz(L:Nat)(p1_0:List Al)(p1_1:Aa)(p1_2:Bj):Nat→Int→Int→Option Cq
 |0,_,_=>none
 |n+1,Aw,Ag=>Abn L p1_0 p1_1 p1_2 (Rz L p1_0 p1_1 p1_2 n) Aw Ag
theorem Bim(p1_0:List Al)(p1_1:Aa)(p1_2:Bj):LP (EV (Yx L) L 7 Buv.u.l.u.l.l) [0,1,4,7,8] [2,3] (A6h p1_0 p1_1 p1_2) [.ret,.exit 0] (fun n v=>Rz L p1_0 p1_1 p1_2 n v.1 v.2) K:=lE (fun _=>rfl) fun n v ih=>eE (Abn L p1_0 p1_1 p1_2 (fun Aw Ag=>re (ih (Aw,Ag))) v.1 v.2)
def Mu(p1_0:List Al)(p1_1:Aa)(p1_2:Bj)(k:Bu):Int→Prop:=fun o=>k (I o) [(2,(Ad p1_1)),(3,(Dx p1_2))]
def Sf [An A Int](L:Nat)(o4:Nat×C8):A:=
 (sl o4.1 [(lf o4.2.1),
 (lf (-1))])
def A3w:Bg:=(Bb 0 (Bp (EV (Yx L) L 7 Buv.u.r) (Cx Tryz.prog (RS Tryz.f213) k)))
theorem Bps(p1_0:List Al)(p1_1:Aa)(p1_2:Bj)(o4:Nat×C8):kX [.ret,.exit 0] (A6h p1_0 p1_1 p1_2) (A3w L k) o4=ob (Sf L o4) (Mu p1_0 p1_1 p1_2 k):=eE (Sf L o4)
def Aoa [An A Int](p1_0:List Al)(p1_1:Aa)(p1_2:Bj):A:=(bd (Rz L p1_0 p1_1 p1_2 L 0 0) fun o4=>Sf L o4)
def Dr(p1_0:List Al)(p1_1:Aa)(p1_2:Bj):Option Int:=Aoa L p1_0 p1_1 p1_2
theorem S9(p1_0:List Al)(p1_1:Aa)(p1_2:Bj):YO (Yx L) L 8 213 [lv (.t89 p1_0),.clo 191 0 [.loc 3 0]] [(2,(Ad p1_1)),(3,(Dx p1_2))] k=ob (Dr L p1_0 p1_1 p1_2) (Mu p1_0 p1_1 p1_2 k):=(Cu _ _ _ Xu _ _ _ _ _ _ _).trans (eE ((ho (Bim L (A3w L k) p1_0 p1_1 p1_2 L (0,0)) fun o4=>Bps L k p1_0 p1_1 p1_2 o4)))
def Sg [An A Int](a1:Bj)(o38:Int):A:=
 (cn (!(decide (o38≥0)))
 (lf 5)
 (bd (Br L a1.Coef (-1000) 1000) fun r39=>
 (jp (.cn (!r39)
 (.lf true)
 (.lf (a1.Coef == 0))) (fun b40=>
 (cn b40
 (lf 2)
 (lf 0))))))
def A3x(a0:Aa)(a1:Bj):Bu:=(Auy L a0 a1 kk)
theorem Bpt(a0:Aa)(a1:Bj)(o38:Int):Mu a0.Stores a0 a1 (A3x L kk a0 a1) o38=ob (Sg L a1 o38) (kQ I kk):=eE (Sg L a1 o38)
def Sh [An A Int](a1:Bj)(o41:Int):A:=
 (cn (!(decide (o41≥0)))
 (lf 5)
 (bd (Br L a1.Coef (-1000) 1000) fun r42=>
 (jp (.cn (!r42)
 (.lf true)
 (.lf (a1.Coef == 0))) (fun b43=>
 (cn b43
 (lf 2)
 (lf 0))))))
def A3y(a0:Aa)(a1:Bj):Bu:=(Aux L a0 a1 kk)
theorem Bpu(a0:Aa)(a1:Bj)(o41:Int):Mu a0.Stores a0 a1 (A3y L kk a0 a1) o41=ob (Sh L a1 o41) (kQ I kk):=eE (Sh L a1 o41)
def Si [An A Int](a1:Bj)(o44:Int):A:=
 (cn (!(decide (o44≥0)))
 (lf 5)
 (bd (Br L a1.Coef (-1000) 1000) fun r45=>
 (jp (.cn (!r45)
 (.lf true)
 (.lf (a1.Coef == 0))) (fun b46=>
 (cn b46
 (lf 2)
 (lf 0))))))
def A3z(a0:Aa)(a1:Bj):Bu:=(Auz L a0 a1 kk)
theorem Bpv(a0:Aa)(a1:Bj)(o44:Int):Mu a0.Stores a0 a1 (A3z L kk a0 a1) o44=ob (Si L a1 o44) (kQ I kk):=eE (Si L a1 o44)
def Sj [An A Int](a1:Bj)(o47:Int):A:=
 (cn (!(decide (o47≥0)))
 (lf 5)
 (bd (Br L a1.Coef (-1000) 1000) fun r48=>
 (jp (.cn (!r48)
 (.lf true)
 (.lf (a1.Coef == 0))) (fun b49=>
 (cn b49
 (lf 2)
 (lf 0))))))
def A30(a0:Aa)(a1:Bj):Bu:=(Auy L a0 a1 kk)
theorem Bpw(a0:Aa)(a1:Bj)(o47:Int):Mu a0.Stores a0 a1 (A30 L kk a0 a1) o47=ob (Sj L a1 o47) (kQ I kk):=eE (Sj L a1 o47)
def Sk [An A Int](a1:Bj)(o50:Int):A:=
 (cn (!(decide (o50≥0)))
 (lf 5)
 (bd (Br L a1.Coef (-1000) 1000) fun r51=>
 (jp (.cn (!r51)
 (.lf true)
 (.lf (a1.Coef == 0))) (fun b52=>
 (cn b52
 (lf 2)
 (lf 0))))))
def A31(a0:Aa)(a1:Bj):Bu:=(Aux L a0 a1 kk)
theorem Bpx(a0:Aa)(a1:Bj)(o50:Int):Mu a0.Stores a0 a1 (A31 L kk a0 a1) o50=ob (Sk L a1 o50) (kQ I kk):=eE (Sk L a1 o50)
def Sl [An A Int](a1:Bj)(o53:Int):A:=
 (cn (!(decide (o53≥0)))
 (lf 5)
 (bd (Br L a1.Coef (-1000) 1000) fun r54=>
 (jp (.cn (!r54)
 (.lf true)
 (.lf (a1.Coef == 0))) (fun b55=>
 (cn b55
 (lf 2)
 (lf 0))))))
def A32(a0:Aa)(a1:Bj):Bu:=(Auz L a0 a1 kk)
theorem Bpy(a0:Aa)(a1:Bj)(o53:Int):Mu a0.Stores a0 a1 (A32 L kk a0 a1) o53=ob (Sl L a1 o53) (kQ I kk):=eE (Sl L a1 o53)
def Sm [An A Int](a1:Bj)(o56:Int):A:=
 (cn (!(decide (o56≥0)))
 (lf 5)
 (bd (Br L a1.Coef (-1000) 1000) fun r57=>
 (jp (.cn (!r57)
 (.lf true)
 (.lf (a1.Coef == 0))) (fun b58=>
 (cn b58
 (lf 2)
 (lf 0))))))
def A33(a0:Aa)(a1:Bj):Bu:=(Auy L a0 a1 kk)
theorem Bpz(a0:Aa)(a1:Bj)(o56:Int):Mu a0.Stores a0 a1 (A33 L kk a0 a1) o56=ob (Sm L a1 o56) (kQ I kk):=eE (Sm L a1 o56)
def Px [An A Int](a1:Bj)(o59:Int):A:=
 (cn (!(decide (o59≥0)))
 (lf 5)
 (bd (Br L a1.Coef (-1000) 1000) fun r60=>
 (jp (.cn (!r60)
 (.lf true)
 (.lf (a1.Coef == 0))) (fun b61=>
 (cn b61
 (lf 2)
 (lf 0))))))
def Axq(a0:Aa)(a1:Bj):Bu:=(Aux L a0 a1 kk)
theorem Bjp(a0:Aa)(a1:Bj)(o59:Int):Mu a0.Stores a0 a1 (Axq L kk a0 a1) o59=ob (Px L a1 o59) (kQ I kk):=eE (Px L a1 o59)
def Py [An A Int](a1:Bj)(o62:Int):A:=
 (cn (!(decide (o62≥0)))
 (lf 5)
 (bd (Br L a1.Coef (-1000) 1000) fun r63=>
 (jp (.cn (!r63)
 (.lf true)
 (.lf (a1.Coef == 0))) (fun b64=>
 (cn b64
 (lf 2)
 (lf 0))))))
def Axr(a0:Aa)(a1:Bj):Bu:=(Auz L a0 a1 kk)
theorem Bjq(a0:Aa)(a1:Bj)(o62:Int):Mu a0.Stores a0 a1 (Axr L kk a0 a1) o62=ob (Py L a1 o62) (kQ I kk):=eE (Py L a1 o62)
def Ab5 [An A Int](a0:Aa)(a1:Bj)(nx3:A)(nx4:A)(nx5:A)(nx6:A)(nx7:A)(nx8:A)(nx9:A)(nx10:A)(nx11:A):A:=
 (cn (a1.What.toList == (⟨#[99,114,101,97,116,101,100]⟩:ByteArray).toList)
 (cn (a1.What.toList == (⟨#[99,114,101,97,116,101,100]⟩:ByteArray).toList)
 (bd (Ik L a0 a1.Name) fun r1=>
 (cn (!(decide (r1≥0)))
 (lf 5)
 (bd (Br L a1.Coef (-1000) 1000) fun r2=>
 (jp (.cn (!r2)
 (.lf true)
 (.lf (a1.Coef == 0))) (fun b3=>
 (cn b3
 (lf 2)
 (lf 0)))))))
 (cn (a1.What.toList == (⟨#[115,116,111,114,101,100]⟩:ByteArray).toList)
 (cn (a1.What.toList == (⟨#[115,116,111,114,101,100]⟩:ByteArray).toList)
 nx3
 (cn (a1.What.toList == (⟨#[99,111,117,110,116,101,100]⟩:ByteArray).toList)
 (bd (B7 L a0.Counts a1.Name) fun r5=>
 (cn (!r5)
 (lf 5)
 (bd (Br L a1.Coef (-1000) 1000) fun r6=>
 (jp (.cn (!r6)
 (.lf true)
 (.lf (a1.Coef == 0))) (fun b7=>
 (cn b7
 (lf 2)
 (lf 0)))))))
 (lf 1)))
 (cn (a1.What.toList == (⟨#[101,110,116,101,114,101,100]⟩:ByteArray).toList)
 (cn (a1.What.toList == (⟨#[101,110,116,101,114,101,100]⟩:ByteArray).toList)
 nx4
 (cn (a1.What.toList == (⟨#[99,111,117,110,116,101,100]⟩:ByteArray).toList)
 (bd (B7 L a0.Counts a1.Name) fun r8=>
 (cn (!r8)
 (lf 5)
 (bd (Br L a1.Coef (-1000) 1000) fun r9=>
 (jp (.cn (!r9)
 (.lf true)
 (.lf (a1.Coef == 0))) (fun b10=>
 (cn b10
 (lf 2)
 (lf 0)))))))
 (lf 1)))
 (cn (a1.What.toList == (⟨#[108,101,102,116]⟩:ByteArray).toList)
 nx5
 (cn (a1.What.toList == (⟨#[99,111,117,110,116,101,100]⟩:ByteArray).toList)
 (bd (B7 L a0.Counts a1.Name) fun r11=>
 (cn (!r11)
 (lf 5)
 (bd (Br L a1.Coef (-1000) 1000) fun r12=>
 (jp (.cn (!r12)
 (.lf true)
 (.lf (a1.Coef == 0))) (fun b13=>
 (cn b13
 (lf 2)
 (lf 0)))))))
 (lf 1))))))
 (cn (a1.What.toList == (⟨#[101,110,100,101,100]⟩:ByteArray).toList)
 (cn (a1.What.toList == (⟨#[101,110,100,101,100]⟩:ByteArray).toList)
 (bd (Ik L a0 a1.Name) fun r14=>
 (cn (!(decide (r14≥0)))
 (lf 5)
 (bd (Br L a1.Coef (-1000) 1000) fun r15=>
 (jp (.cn (!r15)
 (.lf true)
 (.lf (a1.Coef == 0))) (fun b16=>
 (cn b16
 (lf 2)
 (lf 0)))))))
 (cn (a1.What.toList == (⟨#[115,116,111,114,101,100]⟩:ByteArray).toList)
 (cn (a1.What.toList == (⟨#[115,116,111,114,101,100]⟩:ByteArray).toList)
 nx6
 (cn (a1.What.toList == (⟨#[99,111,117,110,116,101,100]⟩:ByteArray).toList)
 (bd (B7 L a0.Counts a1.Name) fun r17=>
 (cn (!r17)
 (lf 5)
 (bd (Br L a1.Coef (-1000) 1000) fun r18=>
 (jp (.cn (!r18)
 (.lf true)
 (.lf (a1.Coef == 0))) (fun b19=>
 (cn b19
 (lf 2)
 (lf 0)))))))
 (lf 1)))
 (cn (a1.What.toList == (⟨#[101,110,116,101,114,101,100]⟩:ByteArray).toList)
 (cn (a1.What.toList == (⟨#[101,110,116,101,114,101,100]⟩:ByteArray).toList)
 nx7
 (cn (a1.What.toList == (⟨#[99,111,117,110,116,101,100]⟩:ByteArray).toList)
 (bd (B7 L a0.Counts a1.Name) fun r20=>
 (cn (!r20)
 (lf 5)
 (bd (Br L a1.Coef (-1000) 1000) fun r21=>
 (jp (.cn (!r21)
 (.lf true)
 (.lf (a1.Coef == 0))) (fun b22=>
 (cn b22
 (lf 2)
 (lf 0)))))))
 (lf 1)))
 (cn (a1.What.toList == (⟨#[108,101,102,116]⟩:ByteArray).toList)
 nx8
 (cn (a1.What.toList == (⟨#[99,111,117,110,116,101,100]⟩:ByteArray).toList)
 (bd (B7 L a0.Counts a1.Name) fun r23=>
 (cn (!r23)
 (lf 5)
 (bd (Br L a1.Coef (-1000) 1000) fun r24=>
 (jp (.cn (!r24)
 (.lf true)
 (.lf (a1.Coef == 0))) (fun b25=>
 (cn b25
 (lf 2)
 (lf 0)))))))
 (lf 1))))))
 (cn (a1.What.toList == (⟨#[105,110,115,105,100,101]⟩:ByteArray).toList)
 (bd (Ik L a0 a1.Name) fun r26=>
 (cn (!(decide (r26≥0)))
 (lf 5)
 (bd (Br L a1.Coef (-1000) 1000) fun r27=>
 (jp (.cn (!r27)
 (.lf true)
 (.lf (a1.Coef == 0))) (fun b28=>
 (cn b28
 (lf 2)
 (lf 0)))))))
 (cn (a1.What.toList == (⟨#[115,116,111,114,101,100]⟩:ByteArray).toList)
 (cn (a1.What.toList == (⟨#[115,116,111,114,101,100]⟩:ByteArray).toList)
 nx9
 (cn (a1.What.toList == (⟨#[99,111,117,110,116,101,100]⟩:ByteArray).toList)
 (bd (B7 L a0.Counts a1.Name) fun r29=>
 (cn (!r29)
 (lf 5)
 (bd (Br L a1.Coef (-1000) 1000) fun r30=>
 (jp (.cn (!r30)
 (.lf true)
 (.lf (a1.Coef == 0))) (fun b31=>
 (cn b31
 (lf 2)
 (lf 0)))))))
 (lf 1)))
 (cn (a1.What.toList == (⟨#[101,110,116,101,114,101,100]⟩:ByteArray).toList)
 (cn (a1.What.toList == (⟨#[101,110,116,101,114,101,100]⟩:ByteArray).toList)
 nx10
 (cn (a1.What.toList == (⟨#[99,111,117,110,116,101,100]⟩:ByteArray).toList)
 (bd (B7 L a0.Counts a1.Name) fun r32=>
 (cn (!r32)
 (lf 5)
 (bd (Br L a1.Coef (-1000) 1000) fun r33=>
 (jp (.cn (!r33)
 (.lf true)
 (.lf (a1.Coef == 0))) (fun b34=>
 (cn b34
 (lf 2)
 (lf 0)))))))
 (lf 1)))
 (cn (a1.What.toList == (⟨#[108,101,102,116]⟩:ByteArray).toList)
 nx11
 (cn (a1.What.toList == (⟨#[99,111,117,110,116,101,100]⟩:ByteArray).toList)
 (bd (B7 L a0.Counts a1.Name) fun r35=>
 (cn (!r35)
 (lf 5)
 (bd (Br L a1.Coef (-1000) 1000) fun r36=>
 (jp (.cn (!r36)
 (.lf true)
 (.lf (a1.Coef == 0))) (fun b37=>
 (cn b37
 (lf 2)
 (lf 0)))))))
 (lf 1))))))))
def At6 [An A Int](a0:Aa)(a1:Bj):A:=Ab5 L a0 a1 (bd (Dr L a0.Stores a0 a1) fun o38=>Sg L a1 o38) (bd (Dr L a0.Stores a0 a1) fun o41=>Sh L a1 o41) (bd (Dr L a0.Stores a0 a1) fun o44=>Si L a1 o44) (bd (Dr L a0.Stores a0 a1) fun o47=>Sj L a1 o47) (bd (Dr L a0.Stores a0 a1) fun o50=>Sk L a1 o50) (bd (Dr L a0.Stores a0 a1) fun o53=>Sl L a1 o53) (bd (Dr L a0.Stores a0 a1) fun o56=>Sm L a1 o56) (bd (Dr L a0.Stores a0 a1) fun o59=>Px L a1 o59) (bd (Dr L a0.Stores a0 a1) fun o62=>Py L a1 o62)
def Aik(a0:Aa)(a1:Bj):Option Int:=At6 L a0 a1
def Bsu:Di:=E2 I 157 Cs Am2 (Aik L) fun a0 a1 r h=>hF Tryz.func157 (C:=Yx L) (oS _) L (fun kk=>eE (Ab5 L a0 a1 (ho (S9 L (A3x L kk a0 a1) a0.Stores a0 a1) fun o38=>Bpt L kk a0 a1 o38) (ho (S9 L (A3y L kk a0 a1) a0.Stores a0 a1) fun o41=>Bpu L kk a0 a1 o41) (ho (S9 L (A3z L kk a0 a1) a0.Stores a0 a1) fun o44=>Bpv L kk a0 a1 o44) (ho (S9 L (A30 L kk a0 a1) a0.Stores a0 a1) fun o47=>Bpw L kk a0 a1 o47) (ho (S9 L (A31 L kk a0 a1) a0.Stores a0 a1) fun o50=>Bpx L kk a0 a1 o50) (ho (S9 L (A32 L kk a0 a1) a0.Stores a0 a1) fun o53=>Bpy L kk a0 a1 o53) (ho (S9 L (A33 L kk a0 a1) a0.Stores a0 a1) fun o56=>Bpz L kk a0 a1 o56) (ho (S9 L (Axq L kk a0 a1) a0.Stores a0 a1) fun o59=>Bjp L kk a0 a1 o59) (ho (S9 L (Axr L kk a0 a1) a0.Stores a0 a1) fun o62=>Bjq L kk a0 a1 o62))) h
end
end Go.Proofs.YthjhkpgonleelaaGreatDoor.Ev
