import Derived.Test.YtfencmicmnhglaaGreatG3
namespace Go.Proofs.YtfencmicmnhglaaGreat.Ev
open Go An
set_option maxRecDepth 100000
set_option maxHeartbeats 4000000
set_option linter.unusedVariables false
set_option linter.unusedSimpArgs false
set_option linter.unnecessarySimpa false
noncomputable section
variable {A:Type} (L n:Nat) (kk:Il) (K:Br) (k:Bn)
def Ah3 [An A Bool](a0:Ac)(a1:Bm):A:=
 (jp (.cn a1.u_name
 (.lf true)
 (.lf (a0.Name.toList == (⟨#[]⟩:ByteArray).toList))) (fun b1=>
 (jp (.cn b1
 (.cn a1.u_of
 (.lf true)
 (.lf (a0.Of.toList == (⟨#[]⟩:ByteArray).toList)))
 (.lf false)) (fun b2=>
 (cn b2
 (cn a1.u_e
 (nq (cn a1.u_f
 (nq (jp (.cn a1.u_args
 (.lf true)
 (.lf ((a0.Args.length:Int) == 0))) (fun b3=>
 (cn b3
 (cn a1.u_dist
 (nq (jp (.cn a1.u_flag
 (.lf true)
 (.lf (!a0.Flag))) (fun b4=>
 (jp (.cn b4
 (.cn a1.u_body
 (.lf true)
 (.lf ((a0.Body.length:Int) == 0)))
 (.lf false)) (fun b5=>
 (jp (.cn b5
 (.cn a1.u_other
 (.lf true)
 (.lf ((a0.Else.length:Int) == 0)))
 (.lf false)) (fun b6=>
 (lf b6))))))))
 (bd (Oi L a0.Dist (⟨0,0,0,0,[],[]⟩:Bv)) fun r7=>
 (nq (jp (.cn r7
 (.cn a1.u_flag
 (.lf true)
 (.lf (!a0.Flag)))
 (.lf false)) (fun b8=>
 (jp (.cn b8
 (.cn a1.u_body
 (.lf true)
 (.lf ((a0.Body.length:Int) == 0)))
 (.lf false)) (fun b9=>
 (jp (.cn b9
 (.cn a1.u_other
 (.lf true)
 (.lf ((a0.Else.length:Int) == 0)))
 (.lf false)) (fun b10=>
 (lf b10))))))))))
 (nq (nq (nq (nq (lf false)))))))))
 (bd (Ok L (Ab.cp a0.F) (Ab.mk 0 (⟨#[]⟩:ByteArray) 0 [])) fun r11=>
 (nq (jp (.cn r11
 (.cn a1.u_args
 (.lf true)
 (.lf ((a0.Args.length:Int) == 0)))
 (.lf false)) (fun b12=>
 (cn b12
 (cn a1.u_dist
 (nq (jp (.cn a1.u_flag
 (.lf true)
 (.lf (!a0.Flag))) (fun b13=>
 (jp (.cn b13
 (.cn a1.u_body
 (.lf true)
 (.lf ((a0.Body.length:Int) == 0)))
 (.lf false)) (fun b14=>
 (jp (.cn b14
 (.cn a1.u_other
 (.lf true)
 (.lf ((a0.Else.length:Int) == 0)))
 (.lf false)) (fun b15=>
 (lf b15))))))))
 (bd (Oi L a0.Dist (⟨0,0,0,0,[],[]⟩:Bv)) fun r16=>
 (nq (jp (.cn r16
 (.cn a1.u_flag
 (.lf true)
 (.lf (!a0.Flag)))
 (.lf false)) (fun b17=>
 (jp (.cn b17
 (.cn a1.u_body
 (.lf true)
 (.lf ((a0.Body.length:Int) == 0)))
 (.lf false)) (fun b18=>
 (jp (.cn b18
 (.cn a1.u_other
 (.lf true)
 (.lf ((a0.Else.length:Int) == 0)))
 (.lf false)) (fun b19=>
 (lf b19))))))))))
 (nq (nq (nq (nq (lf false))))))))))))
 (bd (Ok L (Ab.cp a0.E) (Ab.mk 0 (⟨#[]⟩:ByteArray) 0 [])) fun r20=>
 (nq (cn r20
 (cn a1.u_f
 (nq (jp (.cn a1.u_args
 (.lf true)
 (.lf ((a0.Args.length:Int) == 0))) (fun b21=>
 (cn b21
 (cn a1.u_dist
 (nq (jp (.cn a1.u_flag
 (.lf true)
 (.lf (!a0.Flag))) (fun b22=>
 (jp (.cn b22
 (.cn a1.u_body
 (.lf true)
 (.lf ((a0.Body.length:Int) == 0)))
 (.lf false)) (fun b23=>
 (jp (.cn b23
 (.cn a1.u_other
 (.lf true)
 (.lf ((a0.Else.length:Int) == 0)))
 (.lf false)) (fun b24=>
 (lf b24))))))))
 (bd (Oi L a0.Dist (⟨0,0,0,0,[],[]⟩:Bv)) fun r25=>
 (nq (jp (.cn r25
 (.cn a1.u_flag
 (.lf true)
 (.lf (!a0.Flag)))
 (.lf false)) (fun b26=>
 (jp (.cn b26
 (.cn a1.u_body
 (.lf true)
 (.lf ((a0.Body.length:Int) == 0)))
 (.lf false)) (fun b27=>
 (jp (.cn b27
 (.cn a1.u_other
 (.lf true)
 (.lf ((a0.Else.length:Int) == 0)))
 (.lf false)) (fun b28=>
 (lf b28))))))))))
 (nq (nq (nq (nq (lf false)))))))))
 (bd (Ok L (Ab.cp a0.F) (Ab.mk 0 (⟨#[]⟩:ByteArray) 0 [])) fun r29=>
 (nq (jp (.cn r29
 (.cn a1.u_args
 (.lf true)
 (.lf ((a0.Args.length:Int) == 0)))
 (.lf false)) (fun b30=>
 (cn b30
 (cn a1.u_dist
 (nq (jp (.cn a1.u_flag
 (.lf true)
 (.lf (!a0.Flag))) (fun b31=>
 (jp (.cn b31
 (.cn a1.u_body
 (.lf true)
 (.lf ((a0.Body.length:Int) == 0)))
 (.lf false)) (fun b32=>
 (jp (.cn b32
 (.cn a1.u_other
 (.lf true)
 (.lf ((a0.Else.length:Int) == 0)))
 (.lf false)) (fun b33=>
 (lf b33))))))))
 (bd (Oi L a0.Dist (⟨0,0,0,0,[],[]⟩:Bv)) fun r34=>
 (nq (jp (.cn r34
 (.cn a1.u_flag
 (.lf true)
 (.lf (!a0.Flag)))
 (.lf false)) (fun b35=>
 (jp (.cn b35
 (.cn a1.u_body
 (.lf true)
 (.lf ((a0.Body.length:Int) == 0)))
 (.lf false)) (fun b36=>
 (jp (.cn b36
 (.cn a1.u_other
 (.lf true)
 (.lf ((a0.Else.length:Int) == 0)))
 (.lf false)) (fun b37=>
 (lf b37))))))))))
 (nq (nq (nq (nq (lf false)))))))))))
 (nq (nq (nq (nq (nq (nq (lf false)))))))))))
 (nq (nq (nq (nq (nq (nq (nq (lf false)))))))))))))
def w5(a0:Ac)(a1:Bm):Option Bool:=Ah3 L a0 a1
def Bp8:N2:=E2 B 150 Ty Aqn (w5 L) fun a0 a1 r h=>hF Tryz.func150 (oS [Bp4 L,Bwt L]) L (fun kk=>eE (Ah3 L a0 a1)) h
def A6r(F:Ab→Option Int):Prop:=∀y0 r,F y0=some r→Ho Tryz.prog 215 [Ct.en y0] I r
def Byq:=CC Tryz.f215
def Bpy(Eu:Ab→Option Int)(L:Nat):Bq:=(orc 215 (A1 I Ct Eu) (oL []))
theorem B4u(Eu:Ab→Option Int)(Be0:A6r Eu)(L:Nat):Gd Tryz.prog (Bpy Eu L):=(M5 (a1 _ Be0) (oS []))
def Ba6(a0:Ab)(v:D2):St:=⟨[(0,.any),(1,.any),(2,I 0),(3,I v.1),(7,lv (.t94 a0.Kids)),(8,I (a0.Kids.length:Int)),(9,I v.2)],[(1,F3 a0)],0⟩
def Ws [An A Ki](Eu:Ab→Option Int)(L:Nat)(a0:Ab)(rec:Int→Int→A)(Ao:Int)(Bi:Int):A:=
 (lw Bi a0.Kids
 (bd (Eu (Ab.cp (a0.Kids.getD (Int.toNat Bi) default))) fun r1=>
 (rec (Dp (Ao+r1)) (Dp (Bi+1))))
 (lf (0,Ao,Bi)))
def Lb(Eu:Ab→Option Int)(L:Nat)(a0:Ab):Nat→Int→Int→Option Ki
 |0,_,_=>none
 |n+1,Ao,Bi=>Ws Eu L a0 (Lb Eu L a0 n) Ao Bi
theorem Bl8(Eu:Ab→Option Int)(L:Nat)(K:Br)(a0:Ab):LP (EV (Bpy Eu L) L 9 Byq.w.l.u.l.l) [0,1,2,3,7,8,9] [1] (Ba6 a0) [.exit 0] (fun n v=>Lb Eu L a0 n v.1 v.2) K:=lE (fun _=>rfl) fun n v ih=>eE (Ws Eu L a0 (fun Ao Bi=>re (ih (Ao,Bi))) v.1 v.2)
def Sf [An A Int](Eu:Ab→Option Int)(L:Nat)(o2:Nat×D2):A:=
 (sl o2.1 [(lf o2.2.1)])
def A81(Eu:Ab→Option Int)(L:Nat)(kk:Il):Br:=(Ba 0 (Bg (EV (Bpy Eu L) L 9 Byq.w.r) (Gu Tryz.prog (RS Tryz.f215) kk)))
theorem Buh(Eu:Ab→Option Int)(L:Nat)(kk:Il)(a0:Ab)(o2:Nat×D2):kX [.exit 0] (Ba6 a0) (A81 Eu L kk) o2=ob (Sf Eu L o2) (kQ I kk):=eE (Sf Eu L o2)
def Amf [An A Int](Eu:Ab→Option Int)(L:Nat)(a0:Ab):A:=(bd (Lb Eu L a0 L 1 0) fun o2=>Sf Eu L o2)
def Afn(Eu:Ab→Option Int)(L:Nat)(a0:Ab):Option Int:=Amf Eu L a0
theorem B3h(Eu:Ab→Option Int)(Be0:A6r Eu)(L:Nat):A6r (Afn Eu L):=fun a0 r h=>hF Tryz.func215 (B4u Eu Be0 L) L (fun kk=>eE ((ho (Bl8 Eu L (A81 Eu L kk) a0 L (1,0)) fun o2=>Buh Eu L kk a0 o2))) h
def Mf:Nat→Ab→Option Int
 |0,_=>none
 |L+1,a0=>Afn (Mf L) L a0
theorem Bkc(L:Nat):A6r (Mf L):=by
 induction L with
 |zero=>exact fun _ _ h=>(by cases h)
 |succ L ih=>
  have i215:=ih
  exact B3h (Mf L) i215 L
def Bw0(L:Nat):N2:=E1 I 215 Ct (Mf L) (Bkc L)
def A6s(F:Ab→Option Int):Prop:=∀y0 r,F y0=some r→Ho Tryz.prog 216 [Ct.en y0] I r
def Byr:=CC Tryz.f216
def Bpz(Ew:Ab→Option Int)(L:Nat):Bq:=(orc 216 (A1 I Ct Ew) (oL []))
theorem B4v(Ew:Ab→Option Int)(Be1:A6s Ew)(L:Nat):Gd Tryz.prog (Bpz Ew L):=(M5 (a1 _ Be1) (oS []))
def Ba7(a0:Ab)(v:D2):St:=⟨[(0,.any),(1,.any),(2,I 0),(3,I v.1),(7,lv (.t94 a0.Kids)),(8,I (a0.Kids.length:Int)),(9,I v.2)],[(1,F3 a0)],0⟩
def Wr [An A Ki](Ew:Ab→Option Int)(L:Nat)(a0:Ab)(rec:Int→Int→A)(Ao:Int)(Bi:Int):A:=
 (lw Bi a0.Kids
 (bd (Ew (Ab.cp (a0.Kids.getD (Int.toNat Bi) default))) fun r1=>
 (rec (if r1 > Ao then r1 else Ao) (Dp (Bi+1))))
 (lf (0,Ao,Bi)))
def La(Ew:Ab→Option Int)(L:Nat)(a0:Ab):Nat→Int→Int→Option Ki
 |0,_,_=>none
 |n+1,Ao,Bi=>Wr Ew L a0 (La Ew L a0 n) Ao Bi
theorem Bl9(Ew:Ab→Option Int)(L:Nat)(K:Br)(a0:Ab):LP (EV (Bpz Ew L) L 9 Byr.w.l.u.l.l) [0,1,2,3,7,8,9] [1] (Ba7 a0) [.exit 0] (fun n v=>La Ew L a0 n v.1 v.2) K:=lE (fun _=>rfl) fun n v ih=>eE (Wr Ew L a0 (fun Ao Bi=>re (ih (Ao,Bi))) v.1 v.2)
def Se [An A Int](Ew:Ab→Option Int)(L:Nat)(o2:Nat×D2):A:=
 (sl o2.1 [(lf (Dp (o2.2.1+1)))])
def A82(Ew:Ab→Option Int)(L:Nat)(kk:Il):Br:=(Ba 0 (Bg (EV (Bpz Ew L) L 9 Byr.w.r) (Gu Tryz.prog (RS Tryz.f216) kk)))
theorem Bui(Ew:Ab→Option Int)(L:Nat)(kk:Il)(a0:Ab)(o2:Nat×D2):kX [.exit 0] (Ba7 a0) (A82 Ew L kk) o2=ob (Se Ew L o2) (kQ I kk):=eE (Se Ew L o2)
def Ame [An A Int](Ew:Ab→Option Int)(L:Nat)(a0:Ab):A:=(bd (La Ew L a0 L 0 0) fun o2=>Se Ew L o2)
def Afm(Ew:Ab→Option Int)(L:Nat)(a0:Ab):Option Int:=Ame Ew L a0
theorem B3i(Ew:Ab→Option Int)(Be1:A6s Ew)(L:Nat):A6s (Afm Ew L):=fun a0 r h=>hF Tryz.func216 (B4v Ew Be1 L) L (fun kk=>eE ((ho (Bl9 Ew L (A82 Ew L kk) a0 L (0,0)) fun o2=>Bui Ew L kk a0 o2))) h
def Me:Nat→Ab→Option Int
 |0,_=>none
 |L+1,a0=>Afm (Me L) L a0
theorem Bkd(L:Nat):A6s (Me L):=by
 induction L with
 |zero=>exact fun _ _ h=>(by cases h)
 |succ L ih=>
  have i216:=ih
  exact B3i (Me L) i216 L
def Bw1(L:Nat):N2:=E1 I 216 Ct (Me L) (Bkd L)
def Ah2 [An A Int](L:Nat)(a0:Int):A:=
 (jp (.cn (a0 == 1)
 (.lf true)
 (.lf (a0 == 2))) (fun b1=>
 (jp (.cn b1
 (.lf true)
 (.lf (a0 == 3))) (fun b2=>
 (jp (.cn b2
 (.lf true)
 (.lf (a0 == 4))) (fun b3=>
 (cn b3
 (lf 0)
 (jp (.cn (decide (a0≥5))
 (.lf (decide (a0≤8)))
 (.lf false)) (fun b4=>
 (cn b4
 (lf 1)
 (jp (.cn (decide (a0≥9))
 (.lf (decide (a0≤21)))
 (.lf false)) (fun b5=>
 (cn b5
 (lf 2)
 (jp (.cn (decide (a0≥22))
 (.lf (decide (a0≤26)))
 (.lf false)) (fun b6=>
 (cn b6
 (lf 0)
 (lf (-1))))))))))))))))))
def Xl(a0:Int):Option Int:=Ah2 L a0
def Bqk:N2:=E1 I 238 (cI .i64) (Xl L) fun a0 r h=>hF Tryz.func238 (oS []) L (fun kk=>eE (Ah2 L a0)) h
def Yf [An A Bool](a0:Bp)(a1:Int):A:=
 (cn (a1 == 3)
 (lf (!a0.u_code))
 (cn (a1 == 25)
 (cn (a1 == 25)
 (lf a0.u_code)
 (bd (Xl L a1) fun r1=>
 (lf (decide (r1≥0)))))
 (cn (a1 == 26)
 (lf a0.u_code)
 (bd (Xl L a1) fun r2=>
 (lf (decide (r2≥0)))))))
def S4(a0:Bp)(a1:Int):Option Bool:=Yf L a0 a1
def Bw3:N2:=E2 B 237 Oq (cI .i64) (S4 L) fun a0 a1 r h=>hF Tryz.func237 (oS [Bqk L]) L (fun kk=>eE (Yf L a0 a1)) h
def Adp [An A Bool](L:Nat)(a0:Int):A:=
 (jp (.cn (decide (a0≥22))
 (.lf (decide (a0≤24)))
 (.lf false)) (fun b1=>
 (lf b1)))
def V8(a0:Int):Option Bool:=Adp L a0
def Bql:N2:=E1 B 244 (cI .i64) (V8 L) fun a0 r h=>hF Tryz.func244 (oS []) L (fun kk=>eE (Adp L a0)) h
def Yg [An A Bool](a0:Bp)(a1:Int):A:=
 (jb (.cn (a1 == 3)
 (.lf true)
 (.bd (V8 L a1) fun r2=>
 (.cn r2
 (.lf (!a0.u_code))
 (.lf false)))) (fun b1=>
 (lf b1)))
def K1(a0:Bp)(a1:Int):Option Bool:=Yg L a0 a1
def Bw4:N2:=E2 B 239 Oq (cI .i64) (K1 L) fun a0 a1 r h=>hF Tryz.func239 (oS [Bql L]) L (fun kk=>eE (Yg L a0 a1)) h
def V3 [An A (Int×Int×Bool)](a0:Bp)(a1:Int):A:=
 (cn (a1 == 2)
 (lf (0,1,true))
 (cn (a1 == 25)
 (lf (0,15,true))
 (cn (a1 == 26)
 (lf (0,31,true))
 (bd (V8 L a1) fun r1=>
 (jp (.cn r1
 (.lf a0.u_code)
 (.lf false)) (fun b2=>
 (cn b2
 (lf (0,63,true))
 (lf (0,0,false)))))))))
def Ly(a0:Bp)(a1:Int):Option (Int×Int×Bool):=V3 L a0 a1
def Bw5:N2:=E2 (fun(x:Int×Int×Bool)=> .tup [I x.1,I x.2.1,B x.2.2]) 240 Oq (cI .i64) (Ly L) fun a0 a1 r h=>hF Tryz.func240 (oS [Bql L]) L (fun kk=>eE (V3 L a0 a1)) h
def Zx [An A Int](a0:Bp)(a1:Ab):A:=
 (bd (S4 L a0 a1.Op) fun r1=>
 (cn (!r1)
 (lf 1)
 (bd (Xl L a1.Op) fun r2=>
 (cn ((a1.Kids.length:Int) != r2)
 (lf 1)
 (cn (!(a1.Name.toList == (⟨#[]⟩:ByteArray).toList))
 (bd (K1 L a0 a1.Op) fun r3=>
 (cn (!r3)
 (lf 1)
 (cn (a1.Op == 1)
 (bd (X0 L a1.N) fun r4=>
 (cn (!r4)
 (lf 2)
 (lf 0)))
 (bd (Ly L a0 a1.Op) fun r5=>
 (jp (.cn (!r5.2.2)
 (.lf (a1.N != 0))
 (.lf false)) (fun b6=>
 (cn b6
 (lf 1)
 (jp (.cn r5.2.2
 (.cn (decide (a1.N < r5.1))
 (.lf true)
 (.lf (decide (a1.N > r5.2.1))))
 (.lf false)) (fun b7=>
 (cn b7
 (lf 2)
 (bd (K1 L a0 a1.Op) fun r8=>
 (cn r8
 (bd (C6 L a1.Name) fun r9=>
 (lf r9))
 (lf 0)))))))))))))
 (cn (a1.Op == 1)
 (bd (X0 L a1.N) fun r10=>
 (cn (!r10)
 (lf 2)
 (lf 0)))
 (bd (Ly L a0 a1.Op) fun r11=>
 (jp (.cn (!r11.2.2)
 (.lf (a1.N != 0))
 (.lf false)) (fun b12=>
 (cn b12
 (lf 1)
 (jp (.cn r11.2.2
 (.cn (decide (a1.N < r11.1))
 (.lf true)
 (.lf (decide (a1.N > r11.2.1))))
 (.lf false)) (fun b13=>
 (cn b13
 (lf 2)
 (bd (K1 L a0 a1.Op) fun r14=>
 (cn r14
 (bd (C6 L a1.Name) fun r15=>
 (lf r15))
 (lf 0))))))))))))))))
def Uc(a0:Bp)(a1:Ab):Option Int:=Zx L a0 a1
def Bqi:N2:=E2 I 232 Oq Ct (Uc L) fun a0 a1 r h=>hF Tryz.func232 (oS [X59 L,X60 L,Bw3 L,Bqk L,Bw4 L,Bw5 L]) L (fun kk=>eE (Zx L a0 a1)) h
def A6t(F:Bp→Ab→Option Int):Prop:=∀y0 y1 r,F y0 y1=some r→Ho Tryz.prog 217 [Oq.en y0,Ct.en y1] I r
def Bys:=CC Tryz.f217
def Bp0(Ei:Bp→Ab→Option Int)(L:Nat):Bq:=(orc 217 (A2 I Oq Ct Ei) (oL [Bqi L]))
theorem B4w(Ei:Bp→Ab→Option Int)(Be2:A6t Ei)(L:Nat):Gd Tryz.prog (Bp0 Ei L):=(M5 (a2 _ Be2) (oS [Bqi L]))
def Ba8(a1:Ab)(a0:Bp)(v:D2):St:=⟨[(0,.any),(1,.any),(2,.loc 2 0),(3,.any),(4,I v.1),(5,.any),(16,lv (.t94 a1.Kids)),(17,I (a1.Kids.length:Int)),(18,I v.2)],[(2,[B a0.u_code]),(3,F3 a1)],0⟩
def Oy [An A Ki](Ei:Bp→Ab→Option Int)(L:Nat)(a1:Ab)(a0:Bp)(rec:Int→Int→A)(Au:Int)(Al:Int):A:=
 (lw Al a1.Kids
 (bd (Ei a0 (Ab.cp (a1.Kids.getD (Int.toNat Al) default))) fun r2=>
 (cn (r2 != 0)
 (lf (0,r2,Al))
 (rec Au (Dp (Al+1)))))
 (lf (1,Au,Al)))
def Gn(Ei:Bp→Ab→Option Int)(L:Nat)(a1:Ab)(a0:Bp):Nat→Int→Int→Option Ki
 |0,_,_=>none
 |n+1,Au,Al=>Oy Ei L a1 a0 (Gn Ei L a1 a0 n) Au Al
theorem Bma(Ei:Bp→Ab→Option Int)(L:Nat)(K:Br)(a1:Ab)(a0:Bp):LP (EV (Bp0 Ei L) L 9 Bys.w.l.u.l.l) [0,1,2,3,4,5,16,17,18] [2,3] (Ba8 a1 a0) [.ret,.exit 0] (fun n v=>Gn Ei L a1 a0 n v.1 v.2) K:=lE (fun _=>rfl) fun n v ih=>eE (Oy Ei L a1 a0 (fun Au Al=>re (ih (Au,Al))) v.1 v.2)
def Ky [An A Int](Ei:Bp→Ab→Option Int)(L:Nat)(o3:Nat×D2):A:=
 (sl o3.1 [(lf o3.2.1),
 (lf 0)])
def A83(Ei:Bp→Ab→Option Int)(L:Nat)(kk:Il):Br:=(Ba 0 (Bg (EV (Bp0 Ei L) L 9 Bys.w.r) (Gu Tryz.prog (RS Tryz.f217) kk)))
theorem Buj(Ei:Bp→Ab→Option Int)(L:Nat)(kk:Il)(a1:Ab)(a0:Bp)(o3:Nat×D2):kX [.ret,.exit 0] (Ba8 a1 a0) (A83 Ei L kk) o3=ob (Ky Ei L o3) (kQ I kk):=eE (Ky Ei L o3)
def Pw [An A Int](Ei:Bp→Ab→Option Int)(L:Nat)(a0:Bp)(a1:Ab)(nx1:A):A:=
 (bd (Uc L a0 (Ab.cp a1)) fun r1=>
 (cn (r1 != 0)
 (lf r1)
 nx1))
def Ac2 [An A Int](Ei:Bp→Ab→Option Int)(L:Nat)(a0:Bp)(a1:Ab):A:=Pw Ei L a0 a1 (bd (Gn Ei L a1 a0 L 0 0) fun o3=>Ky Ei L o3)
def Xu(Ei:Bp→Ab→Option Int)(L:Nat)(a0:Bp)(a1:Ab):Option Int:=Ac2 Ei L a0 a1
theorem B3j(Ei:Bp→Ab→Option Int)(Be2:A6t Ei)(L:Nat):A6t (Xu Ei L):=fun a0 a1 r h=>hF Tryz.func217 (B4w Ei Be2 L) L (fun kk=>eE (Pw Ei L a0 a1 (ho (Bma Ei L (A83 Ei L kk) a1 a0 L (0,0)) fun o3=>Buj Ei L kk a1 a0 o3))) h
def F9:Nat→Bp→Ab→Option Int
 |0,_,_=>none
 |L+1,a0,a1=>Xu (F9 L) L a0 a1
theorem Bke(L:Nat):A6t (F9 L):=by
 induction L with
 |zero=>exact fun _ _ _ h=>(by cases h)
 |succ L ih=>
  have i217:=ih
  exact B3j (F9 L) i217 L
def Bw2(L:Nat):N2:=E2 I 217 Oq Ct (F9 L) (Bke L)
def Ye [An A Int](a0:Bp)(a1:Ab):A:=
 (bd (Mf L (Ab.cp a1)) fun r1=>
 (cn (decide (r1 > 60))
 (lf 6)
 (bd (Me L (Ab.cp a1)) fun r2=>
 (cn (decide (r2 > 12))
 (lf 11)
 (bd (F9 L a0 (Ab.cp a1)) fun r3=>
 (lf r3))))))
def S3(a0:Bp)(a1:Ab):Option Int:=Ye L a0 a1
def Bwx:N2:=E2 I 202 Oq Ct (S3 L) fun a0 a1 r h=>hF Tryz.func202 (oS [Bw0 L,Bw1 L,Bw2 L]) L (fun kk=>eE (Ye L a0 a1)) h
def Afy [An A Int](a0:Ab):A:=
 (bd (S3 L (⟨false⟩:Bp) (Ab.cp a0)) fun r1=>
 (lf r1))
def Oj(a0:Ab):Option Int:=Afy L a0
def Bqd:N2:=E1 I 182 Ct (Oj L) fun a0 r h=>hF Tryz.func182 (oS [Bwx L]) L (fun kk=>eE (Afy L a0)) h
def Bb2:=CC Tryz.f151
def A39:Bq:=oL [X60 L,Bp6 L,Bqd L]
def Ban(a1:Bm)(a0:Ac)(v:D2):St:=⟨[(0,.any),(1,.any),(2,.loc 2 0),(3,.loc 3 0),(4,I v.1),(9,.any),(10,.any),(12,.any),(13,.any),(24,.lst true (.t229 [(⟨a1.u_name,a0.Name⟩:E6),(⟨a1.u_of,a0.Of⟩:E6)])),(25,I ([(⟨a1.u_name,a0.Name⟩:E6),(⟨a1.u_of,a0.Of⟩:E6)].length:Int)),(26,I v.2),(53,.any),(74,.any)],[(2,Eo a0),(3,T1 a1)],0⟩
def Aa1 [An A Ki](a1:Bm)(a0:Ac)(rec:Int→Int→A)(Au:Int)(Al:Int):A:=
 (cn (decide (Al < ([(⟨a1.u_name,a0.Name⟩:E6),(⟨a1.u_of,a0.Of⟩:E6)].length:Int)))
 (gq (0≤Al)
 (gq (Al < (([(⟨a1.u_name,a0.Name⟩:E6),(⟨a1.u_of,a0.Of⟩:E6)].length:Nat):Int))
 (bd (C6 L (([(⟨a1.u_name,a0.Name⟩:E6),(⟨a1.u_of,a0.Of⟩:E6)].getD (Int.toNat Al) default).u_name)) fun r1=>
 (jp (.cn (([(⟨a1.u_name,a0.Name⟩:E6),(⟨a1.u_of,a0.Of⟩:E6)].getD (Int.toNat Al) default).u_is)
 (.lf (r1 != 0))
 (.lf false)) (fun b2=>
 (cn b2
 (lf (0,r1,Al))
 (rec Au (Dp (Al+1)))))))))
 (lf (1,Au,Al)))
def Ll(L:Nat)(a1:Bm)(a0:Ac):Nat→Int→Int→Option Ki
 |0,_,_=>none
 |n+1,Au,Al=>Aa1 L a1 a0 (Ll L a1 a0 n) Au Al
theorem Blp(a1:Bm)(a0:Ac):LP (EV (A39 L) L 9 Bb2.u.l.u.l.l) [0,1,2,3,4,9,10,12,13,24,25,26,53,74] [2,3] (Ban a1 a0) [.ret,.exit 0] (fun n v=>Ll L a1 a0 n v.1 v.2) K:=lE (fun _=>rfl) fun n v ih=>eE (Aa1 L a1 a0 (fun Au Al=>re (ih (Au,Al))) v.1 v.2)
def Bao(a1:Bm)(a0:Ac)(v:D2):St:=⟨[(0,.any),(1,.any),(2,.loc 2 0),(3,.loc 3 0),(4,I v.1),(6,.any),(7,.any),(12,.any),(13,.any),(26,.any),(51,.lst true (.t231 [(⟨a1.u_e,(Ab.cp a0.E)⟩:Mk),(⟨a1.u_f,(Ab.cp a0.F)⟩:Mk)])),(52,I ([(⟨a1.u_e,(Ab.cp a0.E)⟩:Mk),(⟨a1.u_f,(Ab.cp a0.F)⟩:Mk)].length:Int)),(53,I v.2),(74,.any)],[(2,Eo a0),(3,T1 a1)],0⟩
def Aa2 [An A Ki](a1:Bm)(a0:Ac)(rec:Int→Int→A)(Cv:Int)(B7:Int):A:=
 (cn (decide (B7 < ([(⟨a1.u_e,(Ab.cp a0.E)⟩:Mk),(⟨a1.u_f,(Ab.cp a0.F)⟩:Mk)].length:Int)))
 (gq (0≤B7)
 (gq (B7 < (([(⟨a1.u_e,(Ab.cp a0.E)⟩:Mk),(⟨a1.u_f,(Ab.cp a0.F)⟩:Mk)].length:Nat):Int))
 (cn (!(([(⟨a1.u_e,(Ab.cp a0.E)⟩:Mk),(⟨a1.u_f,(Ab.cp a0.F)⟩:Mk)].getD (Int.toNat B7) default).u_is))
 (rec Cv (Dp (B7+1)))
 (bd (Oj L (Ab.cp (([(⟨a1.u_e,(Ab.cp a0.E)⟩:Mk),(⟨a1.u_f,(Ab.cp a0.F)⟩:Mk)].getD (Int.toNat B7) default).u_e))) fun r4=>
 (cn (r4 != 0)
 (lf (0,r4,B7))
 (rec Cv (Dp (B7+1))))))))
 (lf (1,Cv,B7)))
def Lm(L:Nat)(a1:Bm)(a0:Ac):Nat→Int→Int→Option Ki
 |0,_,_=>none
 |n+1,Cv,B7=>Aa2 L a1 a0 (Lm L a1 a0 n) Cv B7
theorem Blq(a1:Bm)(a0:Ac):LP (EV (A39 L) L 9 Bb2.w.l.u.l.l) [0,1,2,3,4,6,7,12,13,26,51,52,53,74] [2,3] (Bao a1 a0) [.ret,.exit 2] (fun n v=>Lm L a1 a0 n v.1 v.2) K:=lE (fun _=>rfl) fun n v ih=>eE (Aa2 L a1 a0 (fun Cv B7=>re (ih (Cv,B7))) v.1 v.2)
def Bap(a0:Ac)(a1:Bm)(v:D2):St:=⟨[(0,.any),(1,.any),(2,.loc 2 0),(3,.loc 3 0),(4,I v.1),(6,.any),(7,.any),(9,.any),(10,.any),(26,.any),(53,.any),(72,lv (.t94 a0.Args)),(73,I (a0.Args.length:Int)),(74,I v.2)],[(2,Eo a0),(3,T1 a1)],0⟩
def W1 [An A Ki](a0:Ac)(a1:Bm)(rec:Int→Int→A)(Kq:Int)(E7:Int):A:=
 (lw E7 a0.Args
 (bd (Oj L (Ab.cp (a0.Args.getD (Int.toNat E7) default))) fun r6=>
 (cn (r6 != 0)
 (lf (0,r6,E7))
 (rec Kq (Dp (E7+1)))))
 (lf (1,Kq,E7)))
def Ln(L:Nat)(a0:Ac)(a1:Bm):Nat→Int→Int→Option Ki
 |0,_,_=>none
 |n+1,Kq,E7=>W1 L a0 a1 (Ln L a0 a1 n) Kq E7
theorem Blr(a0:Ac)(a1:Bm):LP (EV (A39 L) L 9 Bb2.x.l.u.l.l) [0,1,2,3,4,6,7,9,10,26,53,72,73,74] [2,3] (Bap a0 a1) [.ret,.exit 4] (fun n v=>Ln L a0 a1 n v.1 v.2) K:=lE (fun _=>rfl) fun n v ih=>eE (W1 L a0 a1 (fun Kq E7=>re (ih (Kq,E7))) v.1 v.2)
def Ss [An A Int](a1:Bm)(a0:Ac)(o7:Nat×D2):A:=
 (sl o7.1 [(lf o7.2.1),
 (cn a1.u_dist
 (bd (Oh L a0.Dist) fun r8=>
 (lf r8))
 (lf 0))])
def A8g:Br:=(Ba 4 (Bg (EV (A39 L) L 9 Bb2.x.r) (Gu Tryz.prog (RS Tryz.f151) kk)))
theorem Btw(a0:Ac)(a1:Bm)(o7:Nat×D2):kX [.ret,.exit 4] (Bap a0 a1) (A8g L kk) o7=ob (Ss L a1 a0 o7) (kQ I kk):=eE (Ss L a1 a0 o7)
def Xb [An A Int](L:Nat)(a0:Ac)(a1:Bm)(o5:Nat×D2)(nx3:Ki→A):A:=
 (sl o5.1 [(lf o5.2.1),
 (cn (decide ((a0.Args.length:Int) > 6))
 (lf 6)
 (nx3 o5))])
def W7 [An A Int](a0:Ac)(a1:Bm)(o5:Nat×D2):A:=Xb L a0 a1 o5 (fun o5=>bd (Ln L a0 a1 L o5.2.1 0) fun o7=>Ss L a1 a0 o7)
def A8f:Br:=(Ba 2 (Bg (EV (A39 L) L 9 Bb2.w.r) (Gu Tryz.prog (RS Tryz.f151) kk)))
theorem Btv(a1:Bm)(a0:Ac)(o5:Nat×D2):kX [.ret,.exit 2] (Bao a1 a0) (A8f L kk) o5=ob (W7 L a0 a1 o5) (kQ I kk):=eE (Xb L a0 a1 o5 (fun o5=>ho (Blr L (A8g L kk) a0 a1 L (o5.2.1,0)) fun o7=>Btw L kk a0 a1 o7))
def Xa [An A Int](L:Nat)(a1:Bm)(a0:Ac)(o3:Nat×D2)(nx2:Ki→A):A:=
 (sl o3.1 [(lf o3.2.1),
 (nx2 o3)])
def W6 [An A Int](a1:Bm)(a0:Ac)(o3:Nat×D2):A:=Xa L a1 a0 o3 (fun o3=>bd (Lm L a1 a0 L o3.2.1 0) fun o5=>W7 L a0 a1 o5)
def A8e:Br:=(Ba 0 (Bg (EV (A39 L) L 9 Bb2.u.r) (Gu Tryz.prog (RS Tryz.f151) kk)))
theorem Btu(a1:Bm)(a0:Ac)(o3:Nat×D2):kX [.ret,.exit 0] (Ban a1 a0) (A8e L kk) o3=ob (W6 L a1 a0 o3) (kQ I kk):=eE (Xa L a1 a0 o3 (fun o3=>ho (Blq L (A8f L kk) a1 a0 L (o3.2.1,0)) fun o5=>Btv L kk a1 a0 o5))
def Amo [An A Int](a0:Ac)(a1:Bm):A:=(bd (Ll L a1 a0 L 0 0) fun o3=>W6 L a1 a0 o3)
def X2(a0:Ac)(a1:Bm):Option Int:=Amo L a0 a1
def Bp9:N2:=E2 I 151 Ty Aqn (X2 L) fun a0 a1 r h=>hF Tryz.func151 (C:=A39 L) (oS _) L (fun kk=>eE ((ho (Blp L (A8e L kk) a1 a0 L (0,0)) fun o3=>Btu L kk a1 a0 o3))) h
def A6o(F:(List Ac)→Option Int):Prop:=∀y0 r,F y0=some r→Ho Tryz.prog 120 [Aib.en y0] I r
def Bx7:=CC Tryz.f120
def Bpo(El:(List Ac)→Option Int)(L:Nat):Bq:=(orc 120 (A1 I Aib El) (oL [Bp7 L,Bp8 L,Bp9 L]))
theorem B4r(El:(List Ac)→Option Int)(Bex:A6o El)(L:Nat):Gd Tryz.prog (Bpo El L):=(M5 (a1 _ Bex) (oS [Bp7 L,Bp8 L,Bp9 L]))
def Bai(a0:List Ac)(v:D2):St:=⟨[(0,.any),(2,I v.1),(10,lv (.t99 a0)),(11,I (a0.length:Int)),(12,I v.2)],[],0⟩
def W0 [An A Ki](El:(List Ac)→Option Int)(L:Nat)(a0:List Ac)(rec:Int→Int→A)(Au:Int)(Al:Int):A:=
 (lw Al a0
 (bd (w6 L ((a0.getD (Int.toNat Al) default).Op)) fun r1=>
 (jb (.cn (!r1.2)
 (.lf true)
 (.bd (w5 L (Ac.cp (a0.getD (Int.toNat Al) default)) r1.1) fun r3=>
 (.lf (!r3)))) (fun b2=>
 (cn b2
 (lf (0,1,Al))
 (bd (X2 L (Ac.cp (a0.getD (Int.toNat Al) default)) r1.1) fun r4=>
 (cn (r4 != 0)
 (lf (0,r4,Al))
 (bd (El ((a0.getD (Int.toNat Al) default).Body)) fun r5=>
 (cn (r5 != 0)
 (lf (0,r5,Al))
 (bd (El ((a0.getD (Int.toNat Al) default).Else)) fun r6=>
 (cn (r6 != 0)
 (lf (0,r6,Al))
 (rec Au (Dp (Al+1)))))))))))))
 (lf (1,Au,Al)))
def Lk(El:(List Ac)→Option Int)(L:Nat)(a0:List Ac):Nat→Int→Int→Option Ki
 |0,_,_=>none
 |n+1,Au,Al=>W0 El L a0 (Lk El L a0 n) Au Al
theorem Blk(El:(List Ac)→Option Int)(L:Nat)(K:Br)(a0:List Ac):LP (EV (Bpo El L) L 9 Bx7.u.l.u.l.l) [0,2,10,11,12] [] (Bai a0) [.ret,.exit 0] (fun n v=>Lk El L a0 n v.1 v.2) K:=lE (fun _=>rfl) fun n v ih=>eE (W0 El L a0 (fun Au Al=>re (ih (Au,Al))) v.1 v.2)
def Sr [An A Int](El:(List Ac)→Option Int)(L:Nat)(o7:Nat×D2):A:=
 (sl o7.1 [(lf o7.2.1),
 (lf 0)])
def A7x(El:(List Ac)→Option Int)(L:Nat)(kk:Il):Br:=(Ba 0 (Bg (EV (Bpo El L) L 9 Bx7.u.r) (Gu Tryz.prog (RS Tryz.f120) kk)))
theorem Btd(El:(List Ac)→Option Int)(L:Nat)(kk:Il)(a0:List Ac)(o7:Nat×D2):kX [.ret,.exit 0] (Bai a0) (A7x El L kk) o7=ob (Sr El L o7) (kQ I kk):=eE (Sr El L o7)
def Amn [An A Int](El:(List Ac)→Option Int)(L:Nat)(a0:List Ac):A:=(bd (Lk El L a0 L 0 0) fun o7=>Sr El L o7)
def Afq(El:(List Ac)→Option Int)(L:Nat)(a0:List Ac):Option Int:=Amn El L a0
theorem B3e(El:(List Ac)→Option Int)(Bex:A6o El)(L:Nat):A6o (Afq El L):=fun a0 r h=>hF Tryz.func120 (B4r El Bex L) L (fun kk=>eE ((ho (Blk El L (A7x El L kk) a0 L (0,0)) fun o7=>Btd El L kk a0 o7))) h
def Mi:Nat→(List Ac)→Option Int
 |0,_=>none
 |L+1,a0=>Afq (Mi L) L a0
theorem Bj9(L:Nat):A6o (Mi L):=by
 induction L with
 |zero=>exact fun _ _ h=>(by cases h)
 |succ L ih=>
  have i120:=ih
  exact B3e (Mi L) i120 L
def Bwj(L:Nat):N2:=E1 I 120 Aib (Mi L) (Bj9 L)
def Af1 [An A Int](a0:List Ac):A:=
 (bd (Mg L a0) fun r1=>
 (cn (decide (r1 > 200))
 (lf 6)
 (bd (Mh L a0) fun r2=>
 (cn (decide (r2 > 12))
 (lf 11)
 (bd (Mi L a0) fun r3=>
 (lf r3))))))
def X1(a0:List Ac):Option Int:=Af1 L a0
def X67:N2:=E1 I 67 Aib (X1 L) fun a0 r h=>hF Tryz.func67 (oS [Bwh L,Bwi L,Bwj L]) L (fun kk=>eE (Af1 L a0)) h
def A4d:=CC Tryz.f108
def Avp:Bq:=oL [X60 L,X67 L,Biy L,Bwk L]
def A6e(p1_0:ByteArray)(p1_1:Ak)(p1_2:Ap)(p1_3:List ByteArray)(p1_4:List Bool)(k:Bn):Cp→Prop:=fun o=>k (I o.1) [(1,Bw p1_1),(5,Mo p1_2),(21,[.mapO false false (.t9 o.2.1) (.t4 o.2.2)])]
def Ach [An A Cp](p1_0:ByteArray)(p1_1:Ak)(p1_2:Ap)(p1_3:List ByteArray)(p1_4:List Bool):A:=
 (bd (C6 L p1_0) fun r3=>
 (cn (r3 != 0)
 (lf (r3,p1_3,p1_4))
 (fq (p1_3.findIdx? fun b=>p1_0 == b) (fun i4=>
 (cn (p1_4.getD i4 default)
 (lf (4,p1_3,p1_4))
 (fq (p1_3.findIdx? fun b=>p1_0 == b) (fun i5=>
 (lf (0,p1_3,(p1_4.set i5 true))))
 (lf (0,(p1_3++ [p1_0]),(p1_4++ [true]))))))
 (fq (p1_3.findIdx? fun b=>p1_0 == b) (fun i6=>
 (lf (0,p1_3,(p1_4.set i6 true))))
 (lf (0,(p1_3++ [p1_0]),(p1_4++ [true])))))))
def Jw(p1_0:ByteArray)(p1_1:Ak)(p1_2:Ap)(p1_3:List ByteArray)(p1_4:List Bool):Option Cp:=Ach L p1_0 p1_1 p1_2 p1_3 p1_4
theorem Bkg(p1_0:ByteArray)(p1_1:Ak)(p1_2:Ap)(p1_3:List ByteArray)(p1_4:List Bool):YO (Avp L) L 9 64 [.mp 21,S p1_0] [(1,Bw p1_1),(5,Mo p1_2),(21,[.mapO false false (.t9 p1_3) (.t4 p1_4)])] k=ob (Jw L p1_0 p1_1 p1_2 p1_3 p1_4) (A6e p1_0 p1_1 p1_2 p1_3 p1_4 k):=(Cr _ _ _ jn4 _ _ _ _ _ _ _).trans (eE (Ach L p1_0 p1_1 p1_2 p1_3 p1_4))
def A0i(r2:List Ap)(a0:Ak)(v:Tu3):St:=⟨[(0,.any),(1,.loc 1 0),(2,I v.1),(3,.mp 21),(27,lv (.t190 r2)),(28,I (r2.length:Int)),(29,I v.2.1)],[(1,Bw a0),(21,[.mapO false false (.t9 v.2.2.1) (.t4 v.2.2.2)])],0⟩
def Nj [An A Tu9](Al:Int)(r2:List Ap)(Au:Int)(rec:Int→Int→List ByteArray→List Bool→A)(o7:Cp):A:=
 (cn (o7.1 != 0)
 (lf (0,o7.1,Al,o7.2.1,o7.2.2))
 (bd (Kj L ((r2.getD (Int.toNat Al) default).Type_)) fun r8=>
 (cn (!r8)
 (lf (0,1,Al,o7.2.1,o7.2.2))
 (rec Au (Dp (Al+1)) o7.2.1 o7.2.2))))
def R4 [An A Tu9](L:Nat)(r2:List Ap)(a0:Ak)(rec:Int→Int→List ByteArray→List Bool→A)(Au:Int)(Al:Int)(Dm:List ByteArray)(Dn:List Bool)(nx1:Int→(List ByteArray)→(List Bool)→Int→A):A:=
 (lw Al r2
 (nx1 Al Dm Dn Au)
 (lf (1,Au,Al,Dm,Dn)))
def Xg [An A Tu9](r2:List Ap)(a0:Ak)(rec:Int→Int→List ByteArray→List Bool→A)(Au:Int)(Al:Int)(Dm:List ByteArray)(Dn:List Bool):A:=R4 L r2 a0 rec Au Al Dm Dn (fun Al Dm Dn Au=>bd (Jw L ((r2.getD (Int.toNat Al) default).Name) a0 (r2.getD (Int.toNat Al) default) Dm Dn) fun o7=>Nj L Al r2 Au rec o7)
def Gp(L:Nat)(r2:List Ap)(a0:Ak):Nat→Int→Int→List ByteArray→List Bool→Option Tu9
 |0,_,_,_,_=>none
 |n+1,Au,Al,Dm,Dn=>Xg L r2 a0 (Gp L r2 a0 n) Au Al Dm Dn
def A6c(r2:List Ap)(a0:Ak):Prop:=LI (EV (Avp L) L 9 A4d.w.u.l.u.l.l) [0,1,2,3,27,28,29] [1,21] (A0i r2 a0) [.ret,.exit 0] (fun n v=>Gp L r2 a0 n v.1 v.2.1 v.2.2.1 v.2.2.2) K n
def A7q(r2:List Ap)(Al:Int)(Au:Int)(a0:Ak)(Dm:List ByteArray)(Dn:List Bool):Bn:=(Bu Tryz.prog (Avp L) (EI (Avp L) L 9) 1 (List.drop 4 A4d.w.u.l.u.l.l.w.l.l.u.l.l.ops) ⟨[(35,S (r2.getD (Int.toNat Al) default).Name),(34,.loc 5 0),(33,.mp 21),(1,.loc 1 0),(2,I Au),(3,.mp 21),(5,.loc 5 0),(27,lv (.t190 r2)),(28,I (r2.length:Int)),(29,I Al),(30,B (decide (Al < (r2.length:Int)))),(31,.ref (Mo (r2.getD (Int.toNat Al) default))),(32,.agg (Mo (r2.getD (Int.toNat Al) default)))],[(1,Bw a0),(5,(Mo (r2.getD (Int.toNat Al) default))),(21,[.mapO false false (.t9 Dm) (.t4 Dn)])],0⟩ (some 36) (fun st9=>(Bg (EV (Avp L) L 9 A4d.w.u.l.u.l.l.w.l.l.u.l.r) (Bg (EV (Avp L) L 9 A4d.w.u.l.u.l.l.w.l.l.u.r) (Ba 1 (Bg (EV (Avp L) L 9 A4d.w.u.l.u.l.l.w.r) (Ii (Kw (EV (Avp L) L 9 A4d.w.u.l.u.l.l) [0,1,2,3,27,28,29] [1,21] n) [0,1,2,3,27,28,29] [1,21] K))))) .normal st9))
theorem Bs6(r2:List Ap)(Al:Int)(a0:Ak)(Dm:List ByteArray)(Dn:List Bool)(Au:Int)(ih:A6c L n K r2 a0)(o7:Cp):A6e ((r2.getD (Int.toNat Al) default).Name) a0 (r2.getD (Int.toNat Al) default) Dm Dn (A7q L n K r2 Al Au a0 Dm Dn) o7=ob (Nj L Al r2 Au (Gp L r2 a0 n) o7) (kX [.ret,.exit 0] (A0i r2 a0) K):=eE (Nj L Al r2 Au (fun Au Al Dm Dn=>re (ih (Au,Al,Dm,Dn))) o7)
theorem Bld(r2:List Ap)(a0:Ak):∀n,A6c L n K r2 a0:=lE (fun _=>rfl) fun n v ih=>eE (R4 L r2 a0 (fun Au Al Dm Dn=>re (ih (Au,Al,Dm,Dn))) v.1 v.2.1 v.2.2.1 v.2.2.2 (fun Al Dm Dn Au=>ho (Bkg L (A7q L n K r2 Al Au a0 Dm Dn) ((r2.getD (Int.toNat Al) default).Name) a0 (r2.getD (Int.toNat Al) default) Dm Dn) fun o7=>Bs6 L n K r2 Al a0 Dm Dn Au ih o7))
def Nk [An A Int](a0:Ak)(o9:Nat×Tu3):A:=
 (sl o9.1 [(lf o9.2.1),
 (bd (X1 L a0.Body) fun r10=>
 (lf r10))])
def A7r:Br:=(Ba 0 (Bg (EV (Avp L) L 9 A4d.w.u.r) (Gu Tryz.prog (RS Tryz.f108) kk)))
theorem Bs7(r2:List Ap)(a0:Ak)(o9:Nat×Tu3):kX [.ret,.exit 0] (A0i r2 a0) (A7r L kk) o9=ob (Nk L a0 o9) (kQ I kk):=eE (Nk L a0 o9)
def R5 [An A Int](a0:Ak)(nx2:(List Ap)→A):A:=
 (jp (.cn (decide ((a0.Params.length:Int) > 6))
 (.lf true)
 (.lf (decide ((Dp ((a0.Params.length:Int)+(a0.Locals.length:Int))) > 16)))) (fun b1=>
 (cn b1
 (lf 6)
 (bd (Jk L [a0.Params,a0.Locals]) fun r2=>
 (nx2 r2)))))
def Agy [An A Int](a0:Ak):A:=R5 L a0 (fun r2=>bd (Gp L r2 a0 L 0 0 [] []) fun o9=>Nk L a0 o9)
def Wi(a0:Ak):Option Int:=Agy L a0
def Bwe:N2:=E1 I 108 Ah9 (Wi L) fun a0 r h=>hF Tryz.func108 (C:=Avp L) (oS _) L (fun kk=>eE (R5 L a0 (fun r2=>ho (Bld L (A7r L kk) r2 a0 L (0,0,[],[])) fun o9=>Bs7 L kk r2 a0 o9))) h
def Byh:=CC Tryz.f176
def Bx8:=CC Tryz.f141
def A38(L:Nat):Bq:=oL []
def Bal(p1_0:List Ak)(p1_1:Aa)(p1_2:ByteArray)(v:D2):St:=⟨[(0,lv (.t60 p1_0)),(1,.clo 177 0 [.loc 3 0]),(4,I v.1),(7,I (p1_0.length:Int)),(8,I v.2)],[(2,Ae p1_1),(3,[S p1_2])],4⟩
def Rt [An A Ki](L:Nat)(p1_0:List Ak)(p1_1:Aa)(p1_2:ByteArray)(rec:Int→Int→A)(Ao:Int)(Al:Int):A:=
 (lw Al p1_0
 (cn (((p1_0.getD (Int.toNat Al) default).Name).toList == p1_2.toList)
 (lf (0,Al,Al))
 (rec Ao (Dp (Al+1))))
 (lf (1,Ao,Al)))
def H0(L:Nat)(p1_0:List Ak)(p1_1:Aa)(p1_2:ByteArray):Nat→Int→Int→Option Ki
 |0,_,_=>none
 |n+1,Ao,Al=>Rt L p1_0 p1_1 p1_2 (H0 L p1_0 p1_1 p1_2 n) Ao Al
theorem Bln(p1_0:List Ak)(p1_1:Aa)(p1_2:ByteArray):LP (EV (A38 L) L 8 Byh.u.l.u.l.l) [0,1,4,7,8] [2,3] (Bal p1_0 p1_1 p1_2) [.ret,.exit 0] (fun n v=>H0 L p1_0 p1_1 p1_2 n v.1 v.2) K:=lE (fun _=>rfl) fun n v ih=>eE (Rt L p1_0 p1_1 p1_2 (fun Ao Al=>re (ih (Ao,Al))) v.1 v.2)
def Ayd(p1_0:List Ak)(p1_1:Aa)(p1_2:ByteArray)(k:Bn):Int→Prop:=fun o=>k (I o) [(2,Ae p1_1),(3,[S p1_2])]
def Rw [An A Int](L:Nat)(o1:Nat×D2):A:=
 (sl o1.1 [(lf o1.2.1),
 (lf (-1))])
def A70:Br:=(Ba 0 (Bg (EV (A38 L) L 8 Byh.u.r) (Dq Tryz.prog (RS Tryz.f176) k)))
theorem Btg(p1_0:List Ak)(p1_1:Aa)(p1_2:ByteArray)(o1:Nat×D2):kX [.ret,.exit 0] (Bal p1_0 p1_1 p1_2) (A70 L k) o1=ob (Rw L o1) (Ayd p1_0 p1_1 p1_2 k):=eE (Rw L o1)
def Acg [An A Int](p1_0:List Ak)(p1_1:Aa)(p1_2:ByteArray):A:=(bd (H0 L p1_0 p1_1 p1_2 L 0 0) fun o1=>Rw L o1)
def Rq(p1_0:List Ak)(p1_1:Aa)(p1_2:ByteArray):Option Int:=Acg L p1_0 p1_1 p1_2
theorem Bkk(p1_0:List Ak)(p1_1:Aa)(p1_2:ByteArray):YO (A38 L) L 9 176 [lv (.t60 p1_0),.clo 177 0 [.loc 3 0]] [(2,Ae p1_1),(3,[S p1_2])] k=ob (Rq L p1_0 p1_1 p1_2) (Ayd p1_0 p1_1 p1_2 k):=(Cr _ _ _ jn4 _ _ _ _ _ _ _).trans (eE ((ho (Bln L (A70 L k) p1_0 p1_1 p1_2 L (0,0)) fun o1=>Btg L k p1_0 p1_1 p1_2 o1)))
def Ni [An A Int](L:Nat)(o2:Int):A:=
 (lf o2)
def A71(a0:Aa)(a1:ByteArray):Bn:=(Bu Tryz.prog (A38 L) (EI (A38 L) L 9) 1 (List.drop 4 Bx8.u.l.ops) ⟨[(7,.clo 177 0 [.loc 3 0]),(6,lv (.t60 a0.Routines)),(5,.loc 2 10),(2,.loc 2 0),(3,.loc 3 0),(4,I 0)],[(2,Ae a0),(3,[S a1])],0⟩ (some 8) (fun st9=>(Bg (EV (A38 L) L 9 Bx8.u.r) (Gu Tryz.prog (RS Tryz.f141) kk)) .normal st9))
theorem Bth(a0:Aa)(a1:ByteArray)(o2:Int):Ayd a0.Routines a0 a1 (A71 L kk a0 a1) o2=ob (Ni L o2) (kQ I kk):=eE (Ni L o2)
def Agx [An A Int](a0:Aa)(a1:ByteArray):A:=(bd (Rq L a0.Routines a0 a1) fun o2=>Ni L o2)
def E8(a0:Aa)(a1:ByteArray):Option Int:=Agx L a0 a1
def Bbn:N2:=E2 I 141 I7 cS (E8 L) fun a0 a1 r h=>hF Tryz.func141 (C:=A38 L) (oS _) L (fun kk=>eE ((ho (Bkk L (A71 L kk a0 a1) a0.Routines a0 a1) fun o2=>Bth L kk a0 a1 o2))) h
def Bx2:=CC Tryz.f112
def Bpl:Bq:=oL [X91 L,Biz L,Bbn L]
def Bad(a0:Aa)(r1:Int)(a1:Bo)(v:D2):St:=⟨[(0,.any),(1,.any),(2,.any),(3,.loc 3 0),(4,I v.1),(5,.any),(6,lv (.t190 ((a0.Routines.getD (Int.toNat r1) default).Params))),(28,lv (.t3 a1.Args)),(29,I (a1.Args.length:Int)),(30,I v.2)],[(2,Ae a0),(3,Ou a1)],0⟩
def Ut [An A Ki](a0:Aa)(r1:Int)(a1:Bo)(rec:Int→Int→A)(Au:Int)(Bi:Int):A:=
 (lw Bi a1.Args
 (gi Bi ((a0.Routines.getD (Int.toNat r1) default).Params)
 (bd (Rm L ((((a0.Routines.getD (Int.toNat r1) default).Params).getD (Int.toNat Bi) default).Type_) (a1.Args.getD (Int.toNat Bi) default)) fun r2=>
 (cn (!r2)
 (lf (0,2,Bi))
 (rec Au (Dp (Bi+1))))))
 (lf (1,Au,Bi)))
def J4(L:Nat)(a0:Aa)(r1:Int)(a1:Bo):Nat→Int→Int→Option Ki
 |0,_,_=>none
 |n+1,Au,Bi=>Ut L a0 r1 a1 (J4 L a0 r1 a1 n) Au Bi
theorem Ble(a0:Aa)(r1:Int)(a1:Bo):LP (EV (Bpl L) L 9 Bx2.x.u.l.u.l.l) [0,1,2,3,4,5,6,28,29,30] [2,3] (Bad a0 r1 a1) [.ret,.exit 0] (fun n v=>J4 L a0 r1 a1 n v.1 v.2) K:=lE (fun _=>rfl) fun n v ih=>eE (Ut L a0 r1 a1 (fun Au Bi=>re (ih (Au,Bi))) v.1 v.2)
def Rb [An A Int](a1:Bo)(o3:Nat×D2):A:=
 (sl o3.1 [(lf o3.2.1),
 (bd (Bb L a1.At 0 1000000000) fun r4=>
 (jb (.cn (!r4)
 (.lf true)
 (.bd (Bb L a1.Every 0 1000000000) fun r6=>
 (.lf (!r6)))) (fun b5=>
 (jb (.cn b5
 (.lf true)
 (.bd (Bb L a1.Until 0 1000000000) fun r8=>
 (.lf (!r8)))) (fun b7=>
 (jp (.cn b7
 (.lf true)
 (.cn (a1.Every == 0)
 (.lf (a1.Until != 0))
 (.lf false))) (fun b9=>
 (cn b9
 (lf 2)
 (lf 0)))))))))])
def A7s:Br:=(Ba 0 (Bg (EV (Bpl L) L 9 Bx2.x.u.r) (Gu Tryz.prog (RS Tryz.f112) kk)))
theorem Bs8(a0:Aa)(r1:Int)(a1:Bo)(o3:Nat×D2):kX [.ret,.exit 0] (Bad a0 r1 a1) (A7s L kk) o3=ob (Rb L a1 o3) (kQ I kk):=eE (Rb L a1 o3)
def Vu [An A Int](a0:Aa)(a1:Bo)(nx1:Int→A):A:=
 (bd (E8 L a0 a1.Routine) fun r1=>
 (cn (decide (r1 < 0))
 (lf 5)
 (gi r1 a0.Routines
 (cn ((a1.Args.length:Int) != (((a0.Routines.getD (Int.toNat r1) default).Params).length:Int))
 (lf 8)
 (nx1 r1)))))
def Akf [An A Int](a0:Aa)(a1:Bo):A:=Vu L a0 a1 (fun r1=>bd (J4 L a0 r1 a1 L 0 0) fun o3=>Rb L a1 o3)
def Sv(a0:Aa)(a1:Bo):Option Int:=Akf L a0 a1
def Bwf:N2:=E2 I 112 I7 Ay4 (Sv L) fun a0 a1 r h=>hF Tryz.func112 (C:=Bpl L) (oS _) L (fun kk=>eE (Vu L a0 a1 (fun r1=>ho (Ble L (A7s L kk) a0 r1 a1 L (0,0)) fun o3=>Bs8 L kk a0 r1 a1 o3))) h
end
end Go.Proofs.YtfencmicmnhglaaGreat.Ev
