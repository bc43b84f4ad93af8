import Derived.Test.YtfencmicmnhglaaGreatG3
namespace Go.Proofs.YtfencmicmnhglaaGreat.Ev
open Go An
set_option maxRecDepth 100000
set_option maxHeartbeats 4000000
set_option linter.unusedVariables false
set_option linter.unusedSimpArgs false
set_option linter.unnecessarySimpa false
noncomputable section
variable {A:Type} (L n:Nat) (kk:Dm) (K:Be) (k:Bx)
def Arr [An A Bool](a0:Ac)(a1:Bs):A:=
 (jp (.cn a1.u_name
 (.lf true)
 (.lf (a0.Name.toList == (⟨#[]⟩:ByteArray).toList))) (fun b1=>
 (jp (.cn b1
 (.cn a1.u_of
 (.lf true)
 (.lf (a0.Of.toList == (⟨#[]⟩:ByteArray).toList)))
 (.lf false)) (fun b2=>
 (cn b2
 (cn a1.u_e
 (nq (cn a1.u_f
 (nq (jp (.cn a1.u_args
 (.lf true)
 (.lf ((a0.Args.length:Int) == 0))) (fun b3=>
 (cn b3
 (cn a1.u_dist
 (nq (jp (.cn a1.u_flag
 (.lf true)
 (.lf (!a0.Flag))) (fun b4=>
 (jp (.cn b4
 (.cn a1.u_body
 (.lf true)
 (.lf ((a0.Body.length:Int) == 0)))
 (.lf false)) (fun b5=>
 (jp (.cn b5
 (.cn a1.u_other
 (.lf true)
 (.lf ((a0.Else.length:Int) == 0)))
 (.lf false)) (fun b6=>
 (lf b6))))))))
 (bd (Ri L a0.Dist (⟨0,0,0,0,[],[]⟩:Bj)) fun r7=>
 (nq (jp (.cn r7
 (.cn a1.u_flag
 (.lf true)
 (.lf (!a0.Flag)))
 (.lf false)) (fun b8=>
 (jp (.cn b8
 (.cn a1.u_body
 (.lf true)
 (.lf ((a0.Body.length:Int) == 0)))
 (.lf false)) (fun b9=>
 (jp (.cn b9
 (.cn a1.u_other
 (.lf true)
 (.lf ((a0.Else.length:Int) == 0)))
 (.lf false)) (fun b10=>
 (lf b10))))))))))
 (nq (nq (nq (nq (lf false)))))))))
 (bd (Rk L (Ab.cp a0.F) (Ab.mk 0 (⟨#[]⟩:ByteArray) 0 [])) fun r11=>
 (nq (jp (.cn r11
 (.cn a1.u_args
 (.lf true)
 (.lf ((a0.Args.length:Int) == 0)))
 (.lf false)) (fun b12=>
 (cn b12
 (cn a1.u_dist
 (nq (jp (.cn a1.u_flag
 (.lf true)
 (.lf (!a0.Flag))) (fun b13=>
 (jp (.cn b13
 (.cn a1.u_body
 (.lf true)
 (.lf ((a0.Body.length:Int) == 0)))
 (.lf false)) (fun b14=>
 (jp (.cn b14
 (.cn a1.u_other
 (.lf true)
 (.lf ((a0.Else.length:Int) == 0)))
 (.lf false)) (fun b15=>
 (lf b15))))))))
 (bd (Ri L a0.Dist (⟨0,0,0,0,[],[]⟩:Bj)) fun r16=>
 (nq (jp (.cn r16
 (.cn a1.u_flag
 (.lf true)
 (.lf (!a0.Flag)))
 (.lf false)) (fun b17=>
 (jp (.cn b17
 (.cn a1.u_body
 (.lf true)
 (.lf ((a0.Body.length:Int) == 0)))
 (.lf false)) (fun b18=>
 (jp (.cn b18
 (.cn a1.u_other
 (.lf true)
 (.lf ((a0.Else.length:Int) == 0)))
 (.lf false)) (fun b19=>
 (lf b19))))))))))
 (nq (nq (nq (nq (lf false))))))))))))
 (bd (Rk L (Ab.cp a0.E) (Ab.mk 0 (⟨#[]⟩:ByteArray) 0 [])) fun r20=>
 (nq (cn r20
 (cn a1.u_f
 (nq (jp (.cn a1.u_args
 (.lf true)
 (.lf ((a0.Args.length:Int) == 0))) (fun b21=>
 (cn b21
 (cn a1.u_dist
 (nq (jp (.cn a1.u_flag
 (.lf true)
 (.lf (!a0.Flag))) (fun b22=>
 (jp (.cn b22
 (.cn a1.u_body
 (.lf true)
 (.lf ((a0.Body.length:Int) == 0)))
 (.lf false)) (fun b23=>
 (jp (.cn b23
 (.cn a1.u_other
 (.lf true)
 (.lf ((a0.Else.length:Int) == 0)))
 (.lf false)) (fun b24=>
 (lf b24))))))))
 (bd (Ri L a0.Dist (⟨0,0,0,0,[],[]⟩:Bj)) fun r25=>
 (nq (jp (.cn r25
 (.cn a1.u_flag
 (.lf true)
 (.lf (!a0.Flag)))
 (.lf false)) (fun b26=>
 (jp (.cn b26
 (.cn a1.u_body
 (.lf true)
 (.lf ((a0.Body.length:Int) == 0)))
 (.lf false)) (fun b27=>
 (jp (.cn b27
 (.cn a1.u_other
 (.lf true)
 (.lf ((a0.Else.length:Int) == 0)))
 (.lf false)) (fun b28=>
 (lf b28))))))))))
 (nq (nq (nq (nq (lf false)))))))))
 (bd (Rk L (Ab.cp a0.F) (Ab.mk 0 (⟨#[]⟩:ByteArray) 0 [])) fun r29=>
 (nq (jp (.cn r29
 (.cn a1.u_args
 (.lf true)
 (.lf ((a0.Args.length:Int) == 0)))
 (.lf false)) (fun b30=>
 (cn b30
 (cn a1.u_dist
 (nq (jp (.cn a1.u_flag
 (.lf true)
 (.lf (!a0.Flag))) (fun b31=>
 (jp (.cn b31
 (.cn a1.u_body
 (.lf true)
 (.lf ((a0.Body.length:Int) == 0)))
 (.lf false)) (fun b32=>
 (jp (.cn b32
 (.cn a1.u_other
 (.lf true)
 (.lf ((a0.Else.length:Int) == 0)))
 (.lf false)) (fun b33=>
 (lf b33))))))))
 (bd (Ri L a0.Dist (⟨0,0,0,0,[],[]⟩:Bj)) fun r34=>
 (nq (jp (.cn r34
 (.cn a1.u_flag
 (.lf true)
 (.lf (!a0.Flag)))
 (.lf false)) (fun b35=>
 (jp (.cn b35
 (.cn a1.u_body
 (.lf true)
 (.lf ((a0.Body.length:Int) == 0)))
 (.lf false)) (fun b36=>
 (jp (.cn b36
 (.cn a1.u_other
 (.lf true)
 (.lf ((a0.Else.length:Int) == 0)))
 (.lf false)) (fun b37=>
 (lf b37))))))))))
 (nq (nq (nq (nq (lf false)))))))))))
 (nq (nq (nq (nq (nq (nq (lf false)))))))))))
 (nq (nq (nq (nq (nq (nq (nq (lf false)))))))))))))
def Agy(a0:Ac)(a1:Bs):Option Bool:=Arr L a0 a1
def B9r:Gh:=E2 B 150 H3 A1k (Agy L) fun a0 a1 r h=>hF Tryz.func150 (oS [B9n L,Ch7 L]) L (fun kk=>eE (Arr L a0 a1)) h
def Bl2(F:Ab→Option Int):Prop:=∀y0 r,F y0=some r→Ho Tryz.prog 215 [Bu.en y0] I r
def Ck3:=CC Tryz.f215
def B9f(Gc:Ab→Option Int)(L:Nat):Bi:=(orc 215 (A1 I Bu Gc) (oL []))
theorem Crc(Gc:Ab→Option Int)(Bv5:Bl2 Gc)(L:Nat):Er Tryz.prog (B9f Gc L):=(Hk (a1 _ Bv5) (oS []))
def Br3(a0:Ab)(v:Cp):St:=⟨[(0,.any),(1,.any),(2,I 0),(3,I v.1),(7,lv (.t94 a0.Kids)),(8,I (a0.Kids.length:Int)),(9,I v.2)],[(1,(Dd a0))],0⟩
def u7 [An A B8](Gc:Ab→Option Int)(L:Nat)(a0:Ab)(rec:Int→Int→A)(Ag:Int)(Bg:Int):A:=
 (lw Bg a0.Kids
 (bd (Gc (Ab.cp (a0.Kids.getD (Int.toNat Bg) default))) fun r1=>
 (rec (Cq (Ag+r1)) (Cq (Bg+1))))
 (lf (0,Ag,Bg)))
def Mq(Gc:Ab→Option Int)(L:Nat)(a0:Ab):Nat→Int→Int→Option B8
 |0,_,_=>none
 |n+1,Ag,Bg=>u7 Gc L a0 (Mq Gc L a0 n) Ag Bg
theorem B5j(Gc:Ab→Option Int)(L:Nat)(K:Be)(a0:Ab):LP (EV (B9f Gc L) L 9 Ck3.w.l.u.l.l) [0,1,2,3,7,8,9] [1] (Br3 a0) [.exit 0] (fun n v=>Mq Gc L a0 n v.1 v.2) K:=lE (fun _=>rfl) fun n v ih=>eE (u7 Gc L a0 (fun Ag Bg=>re (ih (Ag,Bg))) v.1 v.2)
def Vd [An A Int](Gc:Ab→Option Int)(L:Nat)(o2:Nat×Cp):A:=
 (sl o2.1 [(lf o2.2.1)])
def Bo3(Gc:Ab→Option Int)(L:Nat)(kk:Dm):Be:=(Ax 0 (Bk (EV (B9f Gc L) L 9 Ck3.w.r) (C0 Tryz.prog (RS Tryz.f215) kk)))
theorem Cfd(Gc:Ab→Option Int)(L:Nat)(kk:Dm)(a0:Ab)(o2:Nat×Cp):kX [.exit 0] (Br3 a0) (Bo3 Gc L kk) o2=ob (Vd Gc L o2) (kQ I kk):=eE (Vd Gc L o2)
def Awl [An A Int](Gc:Ab→Option Int)(L:Nat)(a0:Ab):A:=(bd (Mq Gc L a0 L 1 0) fun o2=>Vd Gc L o2)
def Aom(Gc:Ab→Option Int)(L:Nat)(a0:Ab):Option Int:=Awl Gc L a0
theorem Cpw(Gc:Ab→Option Int)(Bv5:Bl2 Gc)(L:Nat):Bl2 (Aom Gc L):=fun a0 r h=>hF Tryz.func215 (Crc Gc Bv5 L) L (fun kk=>eE ((ho (B5j Gc L (Bo3 Gc L kk) a0 L (1,0)) fun o2=>Cfd Gc L kk a0 o2))) h
def Ns:Nat→Ab→Option Int
 |0,_=>none
 |L+1,a0=>Aom (Ns L) L a0
theorem B2r(L:Nat):Bl2 (Ns L):=by
 induction L with
 |zero=>exact fun _ _ h=>(by cases h)
 |succ L ih=>
  have i215:=ih
  exact Cpw (Ns L) i215 L
def Cip(L:Nat):Gh:=E1 I 215 Bu (Ns L) (B2r L)
def Bl3(F:Ab→Option Int):Prop:=∀y0 r,F y0=some r→Ho Tryz.prog 216 [Bu.en y0] I r
def Ck4:=CC Tryz.f216
def B9g(Gd:Ab→Option Int)(L:Nat):Bi:=(orc 216 (A1 I Bu Gd) (oL []))
theorem Crd(Gd:Ab→Option Int)(Bv6:Bl3 Gd)(L:Nat):Er Tryz.prog (B9g Gd L):=(Hk (a1 _ Bv6) (oS []))
def Br4(a0:Ab)(v:Cp):St:=⟨[(0,.any),(1,.any),(2,I 0),(3,I v.1),(7,lv (.t94 a0.Kids)),(8,I (a0.Kids.length:Int)),(9,I v.2)],[(1,(Dd a0))],0⟩
def u6 [An A B8](Gd:Ab→Option Int)(L:Nat)(a0:Ab)(rec:Int→Int→A)(Ag:Int)(Bg:Int):A:=
 (lw Bg a0.Kids
 (bd (Gd (Ab.cp (a0.Kids.getD (Int.toNat Bg) default))) fun r1=>
 (rec (if r1 > Ag then r1 else Ag) (Cq (Bg+1))))
 (lf (0,Ag,Bg)))
def Mp(Gd:Ab→Option Int)(L:Nat)(a0:Ab):Nat→Int→Int→Option B8
 |0,_,_=>none
 |n+1,Ag,Bg=>u6 Gd L a0 (Mp Gd L a0 n) Ag Bg
theorem B5k(Gd:Ab→Option Int)(L:Nat)(K:Be)(a0:Ab):LP (EV (B9g Gd L) L 9 Ck4.w.l.u.l.l) [0,1,2,3,7,8,9] [1] (Br4 a0) [.exit 0] (fun n v=>Mp Gd L a0 n v.1 v.2) K:=lE (fun _=>rfl) fun n v ih=>eE (u6 Gd L a0 (fun Ag Bg=>re (ih (Ag,Bg))) v.1 v.2)
def Vc [An A Int](Gd:Ab→Option Int)(L:Nat)(o2:Nat×Cp):A:=
 (sl o2.1 [(lf (Cq (o2.2.1+1)))])
def Bo4(Gd:Ab→Option Int)(L:Nat)(kk:Dm):Be:=(Ax 0 (Bk (EV (B9g Gd L) L 9 Ck4.w.r) (C0 Tryz.prog (RS Tryz.f216) kk)))
theorem Cfe(Gd:Ab→Option Int)(L:Nat)(kk:Dm)(a0:Ab)(o2:Nat×Cp):kX [.exit 0] (Br4 a0) (Bo4 Gd L kk) o2=ob (Vc Gd L o2) (kQ I kk):=eE (Vc Gd L o2)
def Awk [An A Int](Gd:Ab→Option Int)(L:Nat)(a0:Ab):A:=(bd (Mp Gd L a0 L 0 0) fun o2=>Vc Gd L o2)
def Aol(Gd:Ab→Option Int)(L:Nat)(a0:Ab):Option Int:=Awk Gd L a0
theorem Cpx(Gd:Ab→Option Int)(Bv6:Bl3 Gd)(L:Nat):Bl3 (Aol Gd L):=fun a0 r h=>hF Tryz.func216 (Crd Gd Bv6 L) L (fun kk=>eE ((ho (B5k Gd L (Bo4 Gd L kk) a0 L (0,0)) fun o2=>Cfe Gd L kk a0 o2))) h
def Nr:Nat→Ab→Option Int
 |0,_=>none
 |L+1,a0=>Aol (Nr L) L a0
theorem B2s(L:Nat):Bl3 (Nr L):=by
 induction L with
 |zero=>exact fun _ _ h=>(by cases h)
 |succ L ih=>
  have i216:=ih
  exact Cpx (Nr L) i216 L
def Ciq(L:Nat):Gh:=E1 I 216 Bu (Nr L) (B2s L)
def Arq [An A Int](L:Nat)(a0:Int):A:=
 (jp (.cn (a0 == 1)
 (.lf true)
 (.lf (a0 == 2))) (fun b1=>
 (jp (.cn b1
 (.lf true)
 (.lf (a0 == 3))) (fun b2=>
 (jp (.cn b2
 (.lf true)
 (.lf (a0 == 4))) (fun b3=>
 (cn b3
 (lf 0)
 (jp (.cn (decide (a0≥5))
 (.lf (decide (a0≤8)))
 (.lf false)) (fun b4=>
 (cn b4
 (lf 1)
 (jp (.cn (decide (a0≥9))
 (.lf (decide (a0≤21)))
 (.lf false)) (fun b5=>
 (cn b5
 (lf 2)
 (jp (.cn (decide (a0≥22))
 (.lf (decide (a0≤26)))
 (.lf false)) (fun b6=>
 (cn b6
 (lf 0)
 (lf (-1))))))))))))))))))
def Aaq(a0:Int):Option Int:=Arq L a0
def Cae:Gh:=E1 I 238 (cI .i64) (Aaq L) fun a0 r h=>hF Tryz.func238 (oS []) L (fun kk=>eE (Arq L a0)) h
def Abd [An A Bool](a0:Bv)(a1:Int):A:=
 (cn (a1 == 3)
 (lf (!a0.u_code))
 (cn (a1 == 25)
 (cn (a1 == 25)
 (lf a0.u_code)
 (bd (Aaq L a1) fun r1=>
 (lf (decide (r1≥0)))))
 (cn (a1 == 26)
 (lf a0.u_code)
 (bd (Aaq L a1) fun r2=>
 (lf (decide (r2≥0)))))))
def V3(a0:Bv)(a1:Int):Option Bool:=Abd L a0 a1
def Ciw:Gh:=E2 B 237 Ro (cI .i64) (V3 L) fun a0 a1 r h=>hF Tryz.func237 (oS [Cae L]) L (fun kk=>eE (Abd L a0 a1)) h
def Al3 [An A Bool](L:Nat)(a0:Int):A:=
 (jp (.cn (decide (a0≥22))
 (.lf (decide (a0≤24)))
 (.lf false)) (fun b1=>
 (lf b1)))
def j8(a0:Int):Option Bool:=Al3 L a0
def Cai:Gh:=E1 B 244 (cI .i64) (j8 L) fun a0 r h=>hF Tryz.func244 (oS []) L (fun kk=>eE (Al3 L a0)) h
def Abe [An A Bool](a0:Bv)(a1:Int):A:=
 (jb (.cn (a1 == 3)
 (.lf true)
 (.bd (j8 L a1) fun r2=>
 (.cn r2
 (.lf (!a0.u_code))
 (.lf false)))) (fun b1=>
 (lf b1)))
def Mh(a0:Bv)(a1:Int):Option Bool:=Abe L a0 a1
def Cix:Gh:=E2 B 239 Ro (cI .i64) (Mh L) fun a0 a1 r h=>hF Tryz.func239 (oS [Cai L]) L (fun kk=>eE (Abe L a0 a1)) h
def Z8 [An A (Int×Int×Bool)](a0:Bv)(a1:Int):A:=
 (cn (a1 == 2)
 (lf (0,1,true))
 (cn (a1 == 25)
 (lf (0,15,true))
 (cn (a1 == 26)
 (lf (0,31,true))
 (bd (j8 L a1) fun r1=>
 (jp (.cn r1
 (.lf a0.u_code)
 (.lf false)) (fun b2=>
 (cn b2
 (lf (0,63,true))
 (lf (0,0,false)))))))))
def Nd(a0:Bv)(a1:Int):Option (Int×Int×Bool):=Z8 L a0 a1
def Ciy:Gh:=E2 (fun(x:Int×Int×Bool)=> .tup [I x.1,I x.2.1,B x.2.2]) 240 Ro (cI .i64) (Nd L) fun a0 a1 r h=>hF Tryz.func240 (oS [Cai L]) L (fun kk=>eE (Z8 L a0 a1)) h
def Ad8 [An A Int](a0:Bv)(a1:Ab):A:=
 (bd (V3 L a0 a1.Op) fun r1=>
 (cn (!r1)
 (lf 1)
 (bd (Aaq L a1.Op) fun r2=>
 (cn ((a1.Kids.length:Int) != r2)
 (lf 1)
 (cn (!(a1.Name.toList == (⟨#[]⟩:ByteArray).toList))
 (bd (Mh L a0 a1.Op) fun r3=>
 (cn (!r3)
 (lf 1)
 (cn (a1.Op == 1)
 (bd (Agx L a1.N) fun r4=>
 (cn (!r4)
 (lf 2)
 (lf 0)))
 (bd (Nd L a0 a1.Op) fun r5=>
 (jp (.cn (!r5.2.2)
 (.lf (a1.N != 0))
 (.lf false)) (fun b6=>
 (cn b6
 (lf 1)
 (jp (.cn r5.2.2
 (.cn (decide (a1.N < r5.1))
 (.lf true)
 (.lf (decide (a1.N > r5.2.1))))
 (.lf false)) (fun b7=>
 (cn b7
 (lf 2)
 (bd (Mh L a0 a1.Op) fun r8=>
 (cn r8
 (bd (Dp L a1.Name) fun r9=>
 (lf r9))
 (lf 0)))))))))))))
 (cn (a1.Op == 1)
 (bd (Agx L a1.N) fun r10=>
 (cn (!r10)
 (lf 2)
 (lf 0)))
 (bd (Nd L a0 a1.Op) fun r11=>
 (jp (.cn (!r11.2.2)
 (.lf (a1.N != 0))
 (.lf false)) (fun b12=>
 (cn b12
 (lf 1)
 (jp (.cn r11.2.2
 (.cn (decide (a1.N < r11.1))
 (.lf true)
 (.lf (decide (a1.N > r11.2.1))))
 (.lf false)) (fun b13=>
 (cn b13
 (lf 2)
 (bd (Mh L a0 a1.Op) fun r14=>
 (cn r14
 (bd (Dp L a1.Name) fun r15=>
 (lf r15))
 (lf 0))))))))))))))))
def Ye(a0:Bv)(a1:Ab):Option Int:=Ad8 L a0 a1
def Cac:Gh:=E2 I 232 Ro Bu (Ye L) fun a0 a1 r h=>hF Tryz.func232 (oS [X59 L,X60 L,Ciw L,Cae L,Cix L,Ciy L]) L (fun kk=>eE (Ad8 L a0 a1)) h
def Bl4(F:Bv→Ab→Option Int):Prop:=∀y0 y1 r,F y0 y1=some r→Ho Tryz.prog 217 [Ro.en y0,Bu.en y1] I r
def Ck5:=CC Tryz.f217
def B9h(E7:Bv→Ab→Option Int)(L:Nat):Bi:=(orc 217 (A2 I Ro Bu E7) (oL [Cac L]))
theorem Cre(E7:Bv→Ab→Option Int)(Bv7:Bl4 E7)(L:Nat):Er Tryz.prog (B9h E7 L):=(Hk (a2 _ Bv7) (oS [Cac L]))
def Br5(a1:Ab)(a0:Bv)(v:Cp):St:=⟨[(0,.any),(1,.any),(2,.loc 2 0),(3,.any),(4,I v.1),(5,.any),(16,lv (.t94 a1.Kids)),(17,I (a1.Kids.length:Int)),(18,I v.2)],[(2,[B a0.u_code]),(3,(Dd a1))],0⟩
def Rs [An A B8](E7:Bv→Ab→Option Int)(L:Nat)(a1:Ab)(a0:Bv)(rec:Int→Int→A)(Ao:Int)(Ai:Int):A:=
 (lw Ai a1.Kids
 (bd (E7 a0 (Ab.cp (a1.Kids.getD (Int.toNat Ai) default))) fun r2=>
 (cn (r2 != 0)
 (lf (0,r2,Ai))
 (rec Ao (Cq (Ai+1)))))
 (lf (1,Ao,Ai)))
def Hp(E7:Bv→Ab→Option Int)(L:Nat)(a1:Ab)(a0:Bv):Nat→Int→Int→Option B8
 |0,_,_=>none
 |n+1,Ao,Ai=>Rs E7 L a1 a0 (Hp E7 L a1 a0 n) Ao Ai
theorem B5l(E7:Bv→Ab→Option Int)(L:Nat)(K:Be)(a1:Ab)(a0:Bv):LP (EV (B9h E7 L) L 9 Ck5.w.l.u.l.l) [0,1,2,3,4,5,16,17,18] [2,3] (Br5 a1 a0) [.ret,.exit 0] (fun n v=>Hp E7 L a1 a0 n v.1 v.2) K:=lE (fun _=>rfl) fun n v ih=>eE (Rs E7 L a1 a0 (fun Ao Ai=>re (ih (Ao,Ai))) v.1 v.2)
def Mc [An A Int](E7:Bv→Ab→Option Int)(L:Nat)(o3:Nat×Cp):A:=
 (sl o3.1 [(lf o3.2.1),
 (lf 0)])
def Bo5(E7:Bv→Ab→Option Int)(L:Nat)(kk:Dm):Be:=(Ax 0 (Bk (EV (B9h E7 L) L 9 Ck5.w.r) (C0 Tryz.prog (RS Tryz.f217) kk)))
theorem Cff(E7:Bv→Ab→Option Int)(L:Nat)(kk:Dm)(a1:Ab)(a0:Bv)(o3:Nat×Cp):kX [.ret,.exit 0] (Br5 a1 a0) (Bo5 E7 L kk) o3=ob (Mc E7 L o3) (kQ I kk):=eE (Mc E7 L o3)
def Sb [An A Int](E7:Bv→Ab→Option Int)(L:Nat)(a0:Bv)(a1:Ab)(nx1:A):A:=
 (bd (Ye L a0 (Ab.cp a1)) fun r1=>
 (cn (r1 != 0)
 (lf r1)
 nx1))
def Ak7 [An A Int](E7:Bv→Ab→Option Int)(L:Nat)(a0:Bv)(a1:Ab):A:=Sb E7 L a0 a1 (bd (Hp E7 L a1 a0 L 0 0) fun o3=>Mc E7 L o3)
def Aaz(E7:Bv→Ab→Option Int)(L:Nat)(a0:Bv)(a1:Ab):Option Int:=Ak7 E7 L a0 a1
theorem Cpy(E7:Bv→Ab→Option Int)(Bv7:Bl4 E7)(L:Nat):Bl4 (Aaz E7 L):=fun a0 a1 r h=>hF Tryz.func217 (Cre E7 Bv7 L) L (fun kk=>eE (Sb E7 L a0 a1 (ho (B5l E7 L (Bo5 E7 L kk) a1 a0 L (0,0)) fun o3=>Cff E7 L kk a1 a0 o3))) h
def Hd:Nat→Bv→Ab→Option Int
 |0,_,_=>none
 |L+1,a0,a1=>Aaz (Hd L) L a0 a1
theorem B2t(L:Nat):Bl4 (Hd L):=by
 induction L with
 |zero=>exact fun _ _ _ h=>(by cases h)
 |succ L ih=>
  have i217:=ih
  exact Cpy (Hd L) i217 L
def Cir(L:Nat):Gh:=E2 I 217 Ro Bu (Hd L) (B2t L)
def Abc [An A Int](a0:Bv)(a1:Ab):A:=
 (bd (Ns L (Ab.cp a1)) fun r1=>
 (cn (decide (r1 > 60))
 (lf 6)
 (bd (Nr L (Ab.cp a1)) fun r2=>
 (cn (decide (r2 > 12))
 (lf 11)
 (bd (Hd L a0 (Ab.cp a1)) fun r3=>
 (lf r3))))))
def V2(a0:Bv)(a1:Ab):Option Int:=Abc L a0 a1
def Cih:Gh:=E2 I 202 Ro Bu (V2 L) fun a0 a1 r h=>hF Tryz.func202 (oS [Cip L,Ciq L,Cir L]) L (fun kk=>eE (Abc L a0 a1)) h
def Ao9 [An A Int](a0:Ab):A:=
 (bd (V2 L (⟨false⟩:Bv) (Ab.cp a0)) fun r1=>
 (lf r1))
def Rj(a0:Ab):Option Int:=Ao9 L a0
def B9y:Gh:=E1 I 182 Bu (Rj L) fun a0 r h=>hF Tryz.func182 (oS [Cih L]) L (fun kk=>eE (Ao9 L a0)) h
def Bs1:=CC Tryz.f151
def Bjd:Bi:=oL [X60 L,B9p L,B9y L]
def Bra(a1:Bs)(a0:Ac)(v:Cp):St:=⟨[(0,.any),(1,.any),(2,.loc 2 0),(3,.loc 3 0),(4,I v.1),(9,.any),(10,.any),(12,.any),(13,.any),(24,.lst true (.t229 [(⟨a1.u_name,a0.Name⟩:Gi),(⟨a1.u_of,a0.Of⟩:Gi)])),(25,I ([(⟨a1.u_name,a0.Name⟩:Gi),(⟨a1.u_of,a0.Of⟩:Gi)].length:Int)),(26,I v.2),(53,.any),(74,.any)],[(2,(C5 a0)),(3,(W6 a1))],0⟩
def Ah1 [An A B8](a1:Bs)(a0:Ac)(rec:Int→Int→A)(Ao:Int)(Ai:Int):A:=
 (cn (decide (Ai < ([(⟨a1.u_name,a0.Name⟩:Gi),(⟨a1.u_of,a0.Of⟩:Gi)].length:Int)))
 (gq (0≤Ai)
 (gq (Ai < (([(⟨a1.u_name,a0.Name⟩:Gi),(⟨a1.u_of,a0.Of⟩:Gi)].length:Nat):Int))
 (bd (Dp L (([(⟨a1.u_name,a0.Name⟩:Gi),(⟨a1.u_of,a0.Of⟩:Gi)].getD (Int.toNat Ai) default).u_name)) fun r1=>
 (jp (.cn (([(⟨a1.u_name,a0.Name⟩:Gi),(⟨a1.u_of,a0.Of⟩:Gi)].getD (Int.toNat Ai) default).u_is)
 (.lf (r1 != 0))
 (.lf false)) (fun b2=>
 (cn b2
 (lf (0,r1,Ai))
 (rec Ao (Cq (Ai+1)))))))))
 (lf (1,Ao,Ai)))
def Mz(L:Nat)(a1:Bs)(a0:Ac):Nat→Int→Int→Option B8
 |0,_,_=>none
 |n+1,Ao,Ai=>Ah1 L a1 a0 (Mz L a1 a0 n) Ao Ai
theorem B4q(a1:Bs)(a0:Ac):LP (EV (Bjd L) L 9 Bs1.u.l.u.l.l) [0,1,2,3,4,9,10,12,13,24,25,26,53,74] [2,3] (Bra a1 a0) [.ret,.exit 0] (fun n v=>Mz L a1 a0 n v.1 v.2) K:=lE (fun _=>rfl) fun n v ih=>eE (Ah1 L a1 a0 (fun Ao Ai=>re (ih (Ao,Ai))) v.1 v.2)
def Brb(a1:Bs)(a0:Ac)(v:Cp):St:=⟨[(0,.any),(1,.any),(2,.loc 2 0),(3,.loc 3 0),(4,I v.1),(6,.any),(7,.any),(12,.any),(13,.any),(26,.any),(51,.lst true (.t231 [(⟨a1.u_e,(Ab.cp a0.E)⟩:Nz),(⟨a1.u_f,(Ab.cp a0.F)⟩:Nz)])),(52,I ([(⟨a1.u_e,(Ab.cp a0.E)⟩:Nz),(⟨a1.u_f,(Ab.cp a0.F)⟩:Nz)].length:Int)),(53,I v.2),(74,.any)],[(2,(C5 a0)),(3,(W6 a1))],0⟩
def Ah2 [An A B8](a1:Bs)(a0:Ac)(rec:Int→Int→A)(Bz:Int)(Bw:Int):A:=
 (cn (decide (Bw < ([(⟨a1.u_e,(Ab.cp a0.E)⟩:Nz),(⟨a1.u_f,(Ab.cp a0.F)⟩:Nz)].length:Int)))
 (gq (0≤Bw)
 (gq (Bw < (([(⟨a1.u_e,(Ab.cp a0.E)⟩:Nz),(⟨a1.u_f,(Ab.cp a0.F)⟩:Nz)].length:Nat):Int))
 (cn (!(([(⟨a1.u_e,(Ab.cp a0.E)⟩:Nz),(⟨a1.u_f,(Ab.cp a0.F)⟩:Nz)].getD (Int.toNat Bw) default).u_is))
 (rec Bz (Cq (Bw+1)))
 (bd (Rj L (Ab.cp (([(⟨a1.u_e,(Ab.cp a0.E)⟩:Nz),(⟨a1.u_f,(Ab.cp a0.F)⟩:Nz)].getD (Int.toNat Bw) default).u_e))) fun r4=>
 (cn (r4 != 0)
 (lf (0,r4,Bw))
 (rec Bz (Cq (Bw+1))))))))
 (lf (1,Bz,Bw)))
def M3(L:Nat)(a1:Bs)(a0:Ac):Nat→Int→Int→Option B8
 |0,_,_=>none
 |n+1,Bz,Bw=>Ah2 L a1 a0 (M3 L a1 a0 n) Bz Bw
theorem B4r(a1:Bs)(a0:Ac):LP (EV (Bjd L) L 9 Bs1.w.l.u.l.l) [0,1,2,3,4,6,7,12,13,26,51,52,53,74] [2,3] (Brb a1 a0) [.ret,.exit 2] (fun n v=>M3 L a1 a0 n v.1 v.2) K:=lE (fun _=>rfl) fun n v ih=>eE (Ah2 L a1 a0 (fun Bz Bw=>re (ih (Bz,Bw))) v.1 v.2)
def Brc(a0:Ac)(a1:Bs)(v:Cp):St:=⟨[(0,.any),(1,.any),(2,.loc 2 0),(3,.loc 3 0),(4,I v.1),(6,.any),(7,.any),(9,.any),(10,.any),(26,.any),(53,.any),(72,lv (.t94 a0.Args)),(73,I (a0.Args.length:Int)),(74,I v.2)],[(2,(C5 a0)),(3,(W6 a1))],0⟩
def w6 [An A B8](a0:Ac)(a1:Bs)(rec:Int→Int→A)(Hh:Int)(H0:Int):A:=
 (lw H0 a0.Args
 (bd (Rj L (Ab.cp (a0.Args.getD (Int.toNat H0) default))) fun r6=>
 (cn (r6 != 0)
 (lf (0,r6,H0))
 (rec Hh (Cq (H0+1)))))
 (lf (1,Hh,H0)))
def M4(L:Nat)(a0:Ac)(a1:Bs):Nat→Int→Int→Option B8
 |0,_,_=>none
 |n+1,Hh,H0=>w6 L a0 a1 (M4 L a0 a1 n) Hh H0
theorem B4s(a0:Ac)(a1:Bs):LP (EV (Bjd L) L 9 Bs1.x.l.u.l.l) [0,1,2,3,4,6,7,9,10,26,53,72,73,74] [2,3] (Brc a0 a1) [.ret,.exit 4] (fun n v=>M4 L a0 a1 n v.1 v.2) K:=lE (fun _=>rfl) fun n v ih=>eE (w6 L a0 a1 (fun Hh H0=>re (ih (Hh,H0))) v.1 v.2)
def Vq [An A Int](a1:Bs)(a0:Ac)(o7:Nat×Cp):A:=
 (sl o7.1 [(lf o7.2.1),
 (cn a1.u_dist
 (bd (Rh L a0.Dist) fun r8=>
 (lf r8))
 (lf 0))])
def Bnz:Be:=(Ax 4 (Bk (EV (Bjd L) L 9 Bs1.x.r) (C0 Tryz.prog (RS Tryz.f151) kk)))
theorem Cea(a0:Ac)(a1:Bs)(o7:Nat×Cp):kX [.ret,.exit 4] (Brc a0 a1) (Bnz L kk) o7=ob (Vq L a1 a0 o7) (kQ I kk):=eE (Vq L a1 a0 o7)
def y9 [An A Int](L:Nat)(a0:Ac)(a1:Bs)(o5:Nat×Cp)(nx3:B8→A):A:=
 (sl o5.1 [(lf o5.2.1),
 (cn (decide ((a0.Args.length:Int) > 6))
 (lf 6)
 (nx3 o5))])
def y5 [An A Int](a0:Ac)(a1:Bs)(o5:Nat×Cp):A:=y9 L a0 a1 o5 (fun o5=>bd (M4 L a0 a1 L o5.2.1 0) fun o7=>Vq L a1 a0 o7)
def Bny:Be:=(Ax 2 (Bk (EV (Bjd L) L 9 Bs1.w.r) (C0 Tryz.prog (RS Tryz.f151) kk)))
theorem Cd9(a1:Bs)(a0:Ac)(o5:Nat×Cp):kX [.ret,.exit 2] (Brb a1 a0) (Bny L kk) o5=ob (y5 L a0 a1 o5) (kQ I kk):=eE (y9 L a0 a1 o5 (fun o5=>ho (B4s L (Bnz L kk) a0 a1 L (o5.2.1,0)) fun o7=>Cea L kk a0 a1 o7))
def y8 [An A Int](L:Nat)(a1:Bs)(a0:Ac)(o3:Nat×Cp)(nx2:B8→A):A:=
 (sl o3.1 [(lf o3.2.1),
 (nx2 o3)])
def x0 [An A Int](a1:Bs)(a0:Ac)(o3:Nat×Cp):A:=y8 L a1 a0 o3 (fun o3=>bd (M3 L a1 a0 L o3.2.1 0) fun o5=>y5 L a0 a1 o5)
def Bnx:Be:=(Ax 0 (Bk (EV (Bjd L) L 9 Bs1.u.r) (C0 Tryz.prog (RS Tryz.f151) kk)))
theorem Cd8(a1:Bs)(a0:Ac)(o3:Nat×Cp):kX [.ret,.exit 0] (Bra a1 a0) (Bnx L kk) o3=ob (x0 L a1 a0 o3) (kQ I kk):=eE (y8 L a1 a0 o3 (fun o3=>ho (B4r L (Bny L kk) a1 a0 L (o3.2.1,0)) fun o5=>Cd9 L kk a1 a0 o5))
def Awu [An A Int](a0:Ac)(a1:Bs):A:=(bd (Mz L a1 a0 L 0 0) fun o3=>x0 L a1 a0 o3)
def Aa6(a0:Ac)(a1:Bs):Option Int:=Awu L a0 a1
def B9s:Gh:=E2 I 151 H3 A1k (Aa6 L) fun a0 a1 r h=>hF Tryz.func151 (C:=Bjd L) (oS _) L (fun kk=>eE ((ho (B4q L (Bnx L kk) a1 a0 L (0,0)) fun o3=>Cd8 L kk a1 a0 o3))) h
def Blv(F:(List Ac)→Option Int):Prop:=∀y0 r,F y0=some r→Ho Tryz.prog 120 [Aae.en y0] I r
def Cj2:=CC Tryz.f120
def B8n(F0:(List Ac)→Option Int)(L:Nat):Bi:=(orc 120 (A1 I Aae F0) (oL [B9q L,B9r L,B9s L]))
theorem Cq5(F0:(List Ac)→Option Int)(Bvy:Blv F0)(L:Nat):Er Tryz.prog (B8n F0 L):=(Hk (a1 _ Bvy) (oS [B9q L,B9r L,B9s L]))
def Bqt(a0:List Ac)(v:Cp):St:=⟨[(0,.any),(2,I v.1),(10,lv (.t99 a0)),(11,I (a0.length:Int)),(12,I v.2)],[],0⟩
def w5 [An A B8](F0:(List Ac)→Option Int)(L:Nat)(a0:List Ac)(rec:Int→Int→A)(Ao:Int)(Ai:Int):A:=
 (lw Ai a0
 (bd (Agz L ((a0.getD (Int.toNat Ai) default).Op)) fun r1=>
 (jb (.cn (!r1.2)
 (.lf true)
 (.bd (Agy L (Ac.cp (a0.getD (Int.toNat Ai) default)) r1.1) fun r3=>
 (.lf (!r3)))) (fun b2=>
 (cn b2
 (lf (0,1,Ai))
 (bd (Aa6 L (Ac.cp (a0.getD (Int.toNat Ai) default)) r1.1) fun r4=>
 (cn (r4 != 0)
 (lf (0,r4,Ai))
 (bd (F0 ((a0.getD (Int.toNat Ai) default).Body)) fun r5=>
 (cn (r5 != 0)
 (lf (0,r5,Ai))
 (bd (F0 ((a0.getD (Int.toNat Ai) default).Else)) fun r6=>
 (cn (r6 != 0)
 (lf (0,r6,Ai))
 (rec Ao (Cq (Ai+1)))))))))))))
 (lf (1,Ao,Ai)))
def My(F0:(List Ac)→Option Int)(L:Nat)(a0:List Ac):Nat→Int→Int→Option B8
 |0,_,_=>none
 |n+1,Ao,Ai=>w5 F0 L a0 (My F0 L a0 n) Ao Ai
theorem B39(F0:(List Ac)→Option Int)(L:Nat)(K:Be)(a0:List Ac):LP (EV (B8n F0 L) L 9 Cj2.u.l.u.l.l) [0,2,10,11,12] [] (Bqt a0) [.ret,.exit 0] (fun n v=>My F0 L a0 n v.1 v.2) K:=lE (fun _=>rfl) fun n v ih=>eE (w5 F0 L a0 (fun Ao Ai=>re (ih (Ao,Ai))) v.1 v.2)
def Vp [An A Int](F0:(List Ac)→Option Int)(L:Nat)(o7:Nat×Cp):A:=
 (sl o7.1 [(lf o7.2.1),
 (lf 0)])
def Bm8(F0:(List Ac)→Option Int)(L:Nat)(kk:Dm):Be:=(Ax 0 (Bk (EV (B8n F0 L) L 9 Cj2.u.r) (C0 Tryz.prog (RS Tryz.f120) kk)))
theorem Cdj(F0:(List Ac)→Option Int)(L:Nat)(kk:Dm)(a0:List Ac)(o7:Nat×Cp):kX [.ret,.exit 0] (Bqt a0) (Bm8 F0 L kk) o7=ob (Vp F0 L o7) (kQ I kk):=eE (Vp F0 L o7)
def Awt [An A Int](F0:(List Ac)→Option Int)(L:Nat)(a0:List Ac):A:=(bd (My F0 L a0 L 0 0) fun o7=>Vp F0 L o7)
def Aop(F0:(List Ac)→Option Int)(L:Nat)(a0:List Ac):Option Int:=Awt F0 L a0
theorem Cpp(F0:(List Ac)→Option Int)(Bvy:Blv F0)(L:Nat):Blv (Aop F0 L):=fun a0 r h=>hF Tryz.func120 (Cq5 F0 Bvy L) L (fun kk=>eE ((ho (B39 F0 L (Bm8 F0 L kk) a0 L (0,0)) fun o7=>Cdj F0 L kk a0 o7))) h
def Nv:Nat→(List Ac)→Option Int
 |0,_=>none
 |L+1,a0=>Aop (Nv L) L a0
theorem B2k(L:Nat):Blv (Nv L):=by
 induction L with
 |zero=>exact fun _ _ h=>(by cases h)
 |succ L ih=>
  have i120:=ih
  exact Cpp (Nv L) i120 L
def Chi(L:Nat):Gh:=E1 I 120 Aae (Nv L) (B2k L)
def Apc [An A Int](a0:List Ac):A:=
 (bd (Nt L a0) fun r1=>
 (cn (decide (r1 > 200))
 (lf 6)
 (bd (Nu L a0) fun r2=>
 (cn (decide (r2 > 12))
 (lf 11)
 (bd (Nv L a0) fun r3=>
 (lf r3))))))
def Aa5(a0:List Ac):Option Int:=Apc L a0
def X67:Gh:=E1 I 67 Aae (Aa5 L) fun a0 r h=>hF Tryz.func67 (oS [Chg L,Chh L,Chi L]) L (fun kk=>eE (Apc L a0)) h
def Bjk:=CC Tryz.f108
def A8n:Bi:=oL [X60 L,X67 L,Bz9 L,Chr L]
def Bll(p1_0:ByteArray)(p1_1:Ak)(p1_2:Ap)(p1_3:List ByteArray)(p1_4:List Bool)(k:Bx):Cw→Prop:=fun o=>k (I o.1) [(1,(B5 p1_1)),(5,(N3 p1_2)),(21,[.mapO false false (.t9 o.2.1) (.t4 o.2.2)])]
def Aj4 [An A Cw](p1_0:ByteArray)(p1_1:Ak)(p1_2:Ap)(p1_3:List ByteArray)(p1_4:List Bool):A:=
 (bd (Dp L p1_0) fun r3=>
 (cn (r3 != 0)
 (lf (r3,p1_3,p1_4))
 (fq (p1_3.findIdx? fun b=>p1_0 == b) (fun i4=>
 (cn (p1_4.getD i4 default)
 (lf (4,p1_3,p1_4))
 (fq (p1_3.findIdx? fun b=>p1_0 == b) (fun i5=>
 (lf (0,p1_3,(p1_4.set i5 true))))
 (lf (0,(p1_3++ [p1_0]),(p1_4++ [true]))))))
 (fq (p1_3.findIdx? fun b=>p1_0 == b) (fun i6=>
 (lf (0,p1_3,(p1_4.set i6 true))))
 (lf (0,(p1_3++ [p1_0]),(p1_4++ [true])))))))
def Kr(p1_0:ByteArray)(p1_1:Ak)(p1_2:Ap)(p1_3:List ByteArray)(p1_4:List Bool):Option Cw:=Aj4 L p1_0 p1_1 p1_2 p1_3 p1_4
theorem B2x(p1_0:ByteArray)(p1_1:Ak)(p1_2:Ap)(p1_3:List ByteArray)(p1_4:List Bool):YO (A8n L) L 9 64 [.mp 21,S p1_0] [(1,(B5 p1_1)),(5,(N3 p1_2)),(21,[.mapO false false (.t9 p1_3) (.t4 p1_4)])] k=ob (Kr L p1_0 p1_1 p1_2 p1_3 p1_4) (Bll p1_0 p1_1 p1_2 p1_3 p1_4 k):=(Dg _ _ _ jn4 _ _ _ _ _ _ _).trans (eE (Aj4 L p1_0 p1_1 p1_2 p1_3 p1_4))
def Bez(r2:List Ap)(a0:Ak)(v:Tu5):St:=⟨[(0,.any),(1,.loc 1 0),(2,I v.1),(3,.mp 21),(27,lv (.t190 r2)),(28,I (r2.length:Int)),(29,I v.2.1)],[(1,(B5 a0)),(21,[.mapO false false (.t9 v.2.2.1) (.t4 v.2.2.2)])],0⟩
def Qb [An A Ue](Ai:Int)(r2:List Ap)(Ao:Int)(rec:Int→Int→List ByteArray→List Bool→A)(o7:Cw):A:=
 (cn (o7.1 != 0)
 (lf (0,o7.1,Ai,o7.2.1,o7.2.2))
 (bd (Li L ((r2.getD (Int.toNat Ai) default).Type_)) fun r8=>
 (cn (!r8)
 (lf (0,1,Ai,o7.2.1,o7.2.2))
 (rec Ao (Cq (Ai+1)) o7.2.1 o7.2.2))))
def U5 [An A Ue](L:Nat)(r2:List Ap)(a0:Ak)(rec:Int→Int→List ByteArray→List Bool→A)(Ao:Int)(Ai:Int)(Dz:List ByteArray)(D0:List Bool)(nx1:Int→(List ByteArray)→(List Bool)→Int→A):A:=
 (lw Ai r2
 (nx1 Ai Dz D0 Ao)
 (lf (1,Ao,Ai,Dz,D0)))
def Aah [An A Ue](r2:List Ap)(a0:Ak)(rec:Int→Int→List ByteArray→List Bool→A)(Ao:Int)(Ai:Int)(Dz:List ByteArray)(D0:List Bool):A:=U5 L r2 a0 rec Ao Ai Dz D0 (fun Ai Dz D0 Ao=>bd (Kr L ((r2.getD (Int.toNat Ai) default).Name) a0 (r2.getD (Int.toNat Ai) default) Dz D0) fun o7=>Qb L Ai r2 Ao rec o7)
def Hq(L:Nat)(r2:List Ap)(a0:Ak):Nat→Int→Int→List ByteArray→List Bool→Option Ue
 |0,_,_,_,_=>none
 |n+1,Ao,Ai,Dz,D0=>Aah L r2 a0 (Hq L r2 a0 n) Ao Ai Dz D0
def Blj(r2:List Ap)(a0:Ak):Prop:=LI (EV (A8n L) L 9 Bjk.w.u.l.u.l.l) [0,1,2,3,27,28,29] [1,21] (Bez r2 a0) [.ret,.exit 0] (fun n v=>Hq L r2 a0 n v.1 v.2.1 v.2.2.1 v.2.2.2) K n
def Bm1(r2:List Ap)(Ai:Int)(Ao:Int)(a0:Ak)(Dz:List ByteArray)(D0:List Bool):Bx:=(Cm Tryz.prog (A8n L) (EI (A8n L) L 9) 1 (List.drop 4 Bjk.w.u.l.u.l.l.w.l.l.u.l.l.ops) ⟨[(35,S (r2.getD (Int.toNat Ai) default).Name),(34,.loc 5 0),(33,.mp 21),(1,.loc 1 0),(2,I Ao),(3,.mp 21),(5,.loc 5 0),(27,lv (.t190 r2)),(28,I (r2.length:Int)),(29,I Ai),(30,B (decide (Ai < (r2.length:Int)))),(31,.ref (N3 (r2.getD (Int.toNat Ai) default))),(32,.agg (N3 (r2.getD (Int.toNat Ai) default)))],[(1,(B5 a0)),(5,(N3 (r2.getD (Int.toNat Ai) default))),(21,[.mapO false false (.t9 Dz) (.t4 D0)])],0⟩ (some 36) (fun st9=>(Bk (EV (A8n L) L 9 Bjk.w.u.l.u.l.l.w.l.l.u.l.r) (Bk (EV (A8n L) L 9 Bjk.w.u.l.u.l.l.w.l.l.u.r) (Ax 1 (Bk (EV (A8n L) L 9 Bjk.w.u.l.u.l.l.w.r) (Ir (Lh (EV (A8n L) L 9 Bjk.w.u.l.u.l.l) [0,1,2,3,27,28,29] [1,21] n) [0,1,2,3,27,28,29] [1,21] K))))) .normal st9))
theorem Cdc(r2:List Ap)(Ai:Int)(a0:Ak)(Dz:List ByteArray)(D0:List Bool)(Ao:Int)(ih:Blj L n K r2 a0)(o7:Cw):Bll ((r2.getD (Int.toNat Ai) default).Name) a0 (r2.getD (Int.toNat Ai) default) Dz D0 (Bm1 L n K r2 Ai Ao a0 Dz D0) o7=ob (Qb L Ai r2 Ao (Hq L r2 a0 n) o7) (kX [.ret,.exit 0] (Bez r2 a0) K):=eE (Qb L Ai r2 Ao (fun Ao Ai Dz D0=>re (ih (Ao,Ai,Dz,D0))) o7)
theorem B32(r2:List Ap)(a0:Ak):∀n,Blj L n K r2 a0:=lE (fun _=>rfl) fun n v ih=>eE (U5 L r2 a0 (fun Ao Ai Dz D0=>re (ih (Ao,Ai,Dz,D0))) v.1 v.2.1 v.2.2.1 v.2.2.2 (fun Ai Dz D0 Ao=>ho (B2x L (Bm1 L n K r2 Ai Ao a0 Dz D0) ((r2.getD (Int.toNat Ai) default).Name) a0 (r2.getD (Int.toNat Ai) default) Dz D0) fun o7=>Cdc L n K r2 Ai a0 Dz D0 Ao ih o7))
def Qc [An A Int](a0:Ak)(o9:Nat×Tu5):A:=
 (sl o9.1 [(lf o9.2.1),
 (bd (Aa5 L a0.Body) fun r10=>
 (lf r10))])
def Bm2:Be:=(Ax 0 (Bk (EV (A8n L) L 9 Bjk.w.u.r) (C0 Tryz.prog (RS Tryz.f108) kk)))
theorem Cdd(r2:List Ap)(a0:Ak)(o9:Nat×Tu5):kX [.ret,.exit 0] (Bez r2 a0) (Bm2 L kk) o9=ob (Qc L a0 o9) (kQ I kk):=eE (Qc L a0 o9)
def U6 [An A Int](a0:Ak)(nx2:(List Ap)→A):A:=
 (jp (.cn (decide ((a0.Params.length:Int) > 6))
 (.lf true)
 (.lf (decide ((Cq ((a0.Params.length:Int)+(a0.Locals.length:Int))) > 16)))) (fun b1=>
 (cn b1
 (lf 6)
 (bd (Kg L [a0.Params,a0.Locals]) fun r2=>
 (nx2 r2)))))
def Aqc [An A Int](a0:Ak):A:=U6 L a0 (fun r2=>bd (Hq L r2 a0 L 0 0 [] []) fun o9=>Qc L a0 o9)
def s8(a0:Ak):Option Int:=Aqc L a0
def Chd:Gh:=E1 I 108 Abk (s8 L) fun a0 r h=>hF Tryz.func108 (C:=A8n L) (oS _) L (fun kk=>eE (U6 L a0 (fun r2=>ho (B32 L (Bm2 L kk) r2 a0 L (0,0,[],[])) fun o9=>Cdd L kk r2 a0 o9))) h
def Ckm:=CC Tryz.f176
def Cka:=CC Tryz.f141
def Bjc(L:Nat):Bi:=oL []
def Bq8(p1_0:List Ak)(p1_1:Aa)(p1_2:ByteArray)(v:Cp):St:=⟨[(0,lv (.t60 p1_0)),(1,.clo 177 0 [.loc 3 0]),(4,I v.1),(7,I (p1_0.length:Int)),(8,I v.2)],[(2,(Ae p1_1)),(3,[S p1_2])],4⟩
def Uu [An A B8](L:Nat)(p1_0:List Ak)(p1_1:Aa)(p1_2:ByteArray)(rec:Int→Int→A)(Ag:Int)(Ai:Int):A:=
 (lw Ai p1_0
 (cn (((p1_0.getD (Int.toNat Ai) default).Name).toList == p1_2.toList)
 (lf (0,Ai,Ai))
 (rec Ag (Cq (Ai+1))))
 (lf (1,Ag,Ai)))
def Iv(L:Nat)(p1_0:List Ak)(p1_1:Aa)(p1_2:ByteArray):Nat→Int→Int→Option B8
 |0,_,_=>none
 |n+1,Ag,Ai=>Uu L p1_0 p1_1 p1_2 (Iv L p1_0 p1_1 p1_2 n) Ag Ai
theorem B4o(p1_0:List Ak)(p1_1:Aa)(p1_2:ByteArray):LP (EV (Bjc L) L 8 Ckm.u.l.u.l.l) [0,1,4,7,8] [2,3] (Bq8 p1_0 p1_1 p1_2) [.ret,.exit 0] (fun n v=>Iv L p1_0 p1_1 p1_2 n v.1 v.2) K:=lE (fun _=>rfl) fun n v ih=>eE (Uu L p1_0 p1_1 p1_2 (fun Ag Ai=>re (ih (Ag,Ai))) v.1 v.2)
def Bb3(p1_0:List Ak)(p1_1:Aa)(p1_2:ByteArray)(k:Bx):Int→Prop:=fun o=>k (I o) [(2,(Ae p1_1)),(3,[S p1_2])]
def Uz [An A Int](L:Nat)(o1:Nat×Cp):A:=
 (sl o1.1 [(lf o1.2.1),
 (lf (-1))])
def Bnn:Be:=(Ax 0 (Bk (EV (Bjc L) L 8 Ckm.u.r) (E8 Tryz.prog (RS Tryz.f176) k)))
theorem Cdy(p1_0:List Ak)(p1_1:Aa)(p1_2:ByteArray)(o1:Nat×Cp):kX [.ret,.exit 0] (Bq8 p1_0 p1_1 p1_2) (Bnn L k) o1=ob (Uz L o1) (Bb3 p1_0 p1_1 p1_2 k):=eE (Uz L o1)
def Aj3 [An A Int](p1_0:List Ak)(p1_1:Aa)(p1_2:ByteArray):A:=(bd (Iv L p1_0 p1_1 p1_2 L 0 0) fun o1=>Uz L o1)
def Us(p1_0:List Ak)(p1_1:Aa)(p1_2:ByteArray):Option Int:=Aj3 L p1_0 p1_1 p1_2
theorem B21(p1_0:List Ak)(p1_1:Aa)(p1_2:ByteArray):YO (Bjc L) L 9 176 [lv (.t60 p1_0),.clo 177 0 [.loc 3 0]] [(2,(Ae p1_1)),(3,[S p1_2])] k=ob (Us L p1_0 p1_1 p1_2) (Bb3 p1_0 p1_1 p1_2 k):=(Dg _ _ _ jn4 _ _ _ _ _ _ _).trans (eE ((ho (B4o L (Bnn L k) p1_0 p1_1 p1_2 L (0,0)) fun o1=>Cdy L k p1_0 p1_1 p1_2 o1)))
def Qa [An A Int](L:Nat)(o2:Int):A:=
 (lf o2)
def Bno(a0:Aa)(a1:ByteArray):Bx:=(Cm Tryz.prog (Bjc L) (EI (Bjc L) L 9) 1 (List.drop 4 Cka.u.l.ops) ⟨[(7,.clo 177 0 [.loc 3 0]),(6,lv (.t60 a0.Routines)),(5,.loc 2 10),(2,.loc 2 0),(3,.loc 3 0),(4,I 0)],[(2,(Ae a0)),(3,[S a1])],0⟩ (some 8) (fun st9=>(Bk (EV (Bjc L) L 9 Cka.u.r) (C0 Tryz.prog (RS Tryz.f141) kk)) .normal st9))
theorem Cdz(a0:Aa)(a1:ByteArray)(o2:Int):Bb3 a0.Routines a0 a1 (Bno L kk a0 a1) o2=ob (Qa L o2) (kQ I kk):=eE (Qa L o2)
def Aqb [An A Int](a0:Aa)(a1:ByteArray):A:=(bd (Us L a0.Routines a0 a1) fun o2=>Qa L o2)
def Gm(a0:Aa)(a1:ByteArray):Option Int:=Aqb L a0 a1
def Bsn:Gh:=E2 I 141 C3 cS (Gm L) fun a0 a1 r h=>hF Tryz.func141 (C:=Bjc L) (oS _) L (fun kk=>eE ((ho (B21 L (Bno L kk a0 a1) a0.Routines a0 a1) fun o2=>Cdz L kk a0 a1 o2))) h
def Cjx:=CC Tryz.f112
def B8k:Bi:=oL [X91 L,B0a L,Bsn L]
def Bqo(a0:Aa)(r1:Int)(a1:Bm)(v:Cp):St:=⟨[(0,.any),(1,.any),(2,.any),(3,.loc 3 0),(4,I v.1),(5,.any),(6,lv (.t190 ((a0.Routines.getD (Int.toNat r1) default).Params))),(28,lv (.t3 a1.Args)),(29,I (a1.Args.length:Int)),(30,I v.2)],[(2,(Ae a0)),(3,(N4 a1))],0⟩
def Yz [An A B8](a0:Aa)(r1:Int)(a1:Bm)(rec:Int→Int→A)(Ao:Int)(Bg:Int):A:=
 (lw Bg a1.Args
 (gi Bg ((a0.Routines.getD (Int.toNat r1) default).Params)
 (bd (Un L ((((a0.Routines.getD (Int.toNat r1) default).Params).getD (Int.toNat Bg) default).Type_) (a1.Args.getD (Int.toNat Bg) default)) fun r2=>
 (cn (!r2)
 (lf (0,2,Bg))
 (rec Ao (Cq (Bg+1))))))
 (lf (1,Ao,Bg)))
def K0(L:Nat)(a0:Aa)(r1:Int)(a1:Bm):Nat→Int→Int→Option B8
 |0,_,_=>none
 |n+1,Ao,Bg=>Yz L a0 r1 a1 (K0 L a0 r1 a1 n) Ao Bg
theorem B33(a0:Aa)(r1:Int)(a1:Bm):LP (EV (B8k L) L 9 Cjx.x.u.l.u.l.l) [0,1,2,3,4,5,6,28,29,30] [2,3] (Bqo a0 r1 a1) [.ret,.exit 0] (fun n v=>K0 L a0 r1 a1 n v.1 v.2) K:=lE (fun _=>rfl) fun n v ih=>eE (Yz L a0 r1 a1 (fun Ao Bg=>re (ih (Ao,Bg))) v.1 v.2)
def T7 [An A Int](a1:Bm)(o3:Nat×Cp):A:=
 (sl o3.1 [(lf o3.2.1),
 (bd (Bn L a1.At 0 1000000000) fun r4=>
 (jb (.cn (!r4)
 (.lf true)
 (.bd (Bn L a1.Every 0 1000000000) fun r6=>
 (.lf (!r6)))) (fun b5=>
 (jb (.cn b5
 (.lf true)
 (.bd (Bn L a1.Until 0 1000000000) fun r8=>
 (.lf (!r8)))) (fun b7=>
 (jp (.cn b7
 (.lf true)
 (.cn (a1.Every == 0)
 (.lf (a1.Until != 0))
 (.lf false))) (fun b9=>
 (cn b9
 (lf 2)
 (lf 0)))))))))])
def Bm3:Be:=(Ax 0 (Bk (EV (B8k L) L 9 Cjx.x.u.r) (C0 Tryz.prog (RS Tryz.f112) kk)))
theorem Cde(a0:Aa)(r1:Int)(a1:Bm)(o3:Nat×Cp):kX [.ret,.exit 0] (Bqo a0 r1 a1) (Bm3 L kk) o3=ob (T7 L a1 o3) (kQ I kk):=eE (T7 L a1 o3)
def Zy [An A Int](a0:Aa)(a1:Bm)(nx1:Int→A):A:=
 (bd (Gm L a0 a1.Routine) fun r1=>
 (cn (decide (r1 < 0))
 (lf 5)
 (gi r1 a0.Routines
 (cn ((a1.Args.length:Int) != (((a0.Routines.getD (Int.toNat r1) default).Params).length:Int))
 (lf 8)
 (nx1 r1)))))
def Aua [An A Int](a0:Aa)(a1:Bm):A:=Zy L a0 a1 (fun r1=>bd (K0 L a0 r1 a1 L 0 0) fun o3=>T7 L a1 o3)
def Vs(a0:Aa)(a1:Bm):Option Int:=Aua L a0 a1
def Che:Gh:=E2 I 112 C3 Aw0 (Vs L) fun a0 a1 r h=>hF Tryz.func112 (C:=B8k L) (oS _) L (fun kk=>eE (Zy L a0 a1 (fun r1=>ho (B33 L (Bm3 L kk) a0 r1 a1 L (0,0)) fun o3=>Cde L kk a0 r1 a1 o3))) h
end
end Go.Proofs.YtfencmicmnhglaaGreat.Ev
