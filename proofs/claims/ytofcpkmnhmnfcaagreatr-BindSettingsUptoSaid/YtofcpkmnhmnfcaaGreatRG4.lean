import Derived.Test.YtofcpkmnhmnfcaaGreatRG2
import Derived.Test.YtofcpkmnhmnfcaaGreatRG3
namespace Go.Proofs.YtofcpkmnhmnfcaaGreatR.Ev
open Go An
set_option maxRecDepth 100000
set_option maxHeartbeats 4000000
set_option linter.unusedVariables false
set_option linter.unusedSimpArgs false
set_option linter.unnecessarySimpa false
noncomputable section
variable {A:Type} (L n:Nat) (kk:Cz) (K:Ax) (k:Bk)
def Bfl(F:Ab→Ab→Option Bool):Prop:=∀y0 y1 r,F y0 y1=some r→Ho Tryz.prog 222 [Bh.en y0,Bh.en y1] B r
def Cei:=CC Tryz.f222
def B3n(Ee:Ab→Ab→Option Bool)(L:Nat):Ba:=(orc 222 (A2 B Bh Bh Ee) (oL []))
theorem Clz(Ee:Ab→Ab→Option Bool)(Bpg:Bfl Ee)(L:Nat):Dm Tryz.prog (B3n Ee L):=(Dt (a2 _ Bpg) (oS []))
def Bkq(a0:Ab)(a1:Ab)(v:U4):St:=⟨[(0,.any),(1,.any),(2,.any),(3,.loc 3 0),(4,B v.1),(36,lv (.t63 a0.Kids)),(37,I (a0.Kids.length:Int)),(38,I v.2)],[(2,(Er a0)),(3,(Er a1))],0⟩
def f7 [An A Ln](Ee:Ab→Ab→Option Bool)(L:Nat)(a0:Ab)(a1:Ab)(rec:Bool→Int→A)(Al:Bool)(Ai:Int):A:=
 (lw Ai a0.Kids
 (gi Ai a1.Kids
 (bd (Ee (Ab.cp (a0.Kids.getD (Int.toNat Ai) default)) (Ab.cp (a1.Kids.getD (Int.toNat Ai) default))) fun r4=>
 (cn (!r4)
 (lf (0,false,Ai))
 (rec Al (B6 (Ai+1))))))
 (lf (1,Al,Ai)))
def N3(Ee:Ab→Ab→Option Bool)(L:Nat)(a0:Ab)(a1:Ab):Nat→Bool→Int→Option Ln
 |0,_,_=>none
 |n+1,Al,Ai=>f7 Ee L a0 a1 (N3 Ee L a0 a1 n) Al Ai
theorem By8(Ee:Ab→Ab→Option Bool)(L:Nat)(K:Ax)(a0:Ab)(a1:Ab):LP (EV (B3n Ee L) L 9 Cei.w.l.u.l.l) [0,1,2,3,4,36,37,38] [2,3] (Bkq a0 a1) [.ret,.exit 0] (fun n v=>N3 Ee L a0 a1 n v.1 v.2) K:=lE (fun _=>rfl) fun n v ih=>eE (f7 Ee L a0 a1 (fun Al Ai=>re (ih (Al,Ai))) v.1 v.2)
def Vn [An A Bool](Ee:Ab→Ab→Option Bool)(L:Nat)(o5:Nat×U4):A:=
 (sl o5.1 [(lf o5.2.1),
 (lf true)])
def Bhi(Ee:Ab→Ab→Option Bool)(L:Nat)(kk:Cz):Ax:=(Av 0 (Bb (EV (B3n Ee L) L 9 Cei.w.r) (Cm Tryz.prog (RS Tryz.f222) kk)))
theorem B9a(Ee:Ab→Ab→Option Bool)(L:Nat)(kk:Cz)(a0:Ab)(a1:Ab)(o5:Nat×U4):kX [.ret,.exit 0] (Bkq a0 a1) (Bhi Ee L kk) o5=ob (Vn Ee L o5) (kQ B kk):=eE (Vn Ee L o5)
def q7 [An A Bool](Ee:Ab→Ab→Option Bool)(L:Nat)(a0:Ab)(a1:Ab)(nx1:A):A:=
 (jp (.cn (a0.Op != a1.Op)
 (.lf true)
 (.lf (!(a0.Name.toList == a1.Name.toList)))) (fun b1=>
 (jp (.cn b1
 (.lf true)
 (.lf (a0.N != a1.N))) (fun b2=>
 (jp (.cn b2
 (.lf true)
 (.lf ((a0.Kids.length:Int) != (a1.Kids.length:Int)))) (fun b3=>
 (cn b3
 (lf false)
 nx1)))))))
def Aye [An A Bool](Ee:Ab→Ab→Option Bool)(L:Nat)(a0:Ab)(a1:Ab):A:=q7 Ee L a0 a1 (bd (N3 Ee L a0 a1 L false 0) fun o5=>Vn Ee L o5)
def Ama(Ee:Ab→Ab→Option Bool)(L:Nat)(a0:Ab)(a1:Ab):Option Bool:=Aye Ee L a0 a1
theorem Cj6(Ee:Ab→Ab→Option Bool)(Bpg:Bfl Ee)(L:Nat):Bfl (Ama Ee L):=fun a0 a1 r h=>hF Tryz.func222 (Clz Ee Bpg L) L (fun kk=>eE (q7 Ee L a0 a1 (ho (By8 Ee L (Bhi Ee L kk) a0 a1 L (false,0)) fun o5=>B9a Ee L kk a0 a1 o5))) h
def Pt:Nat→Ab→Ab→Option Bool
 |0,_,_=>none
 |L+1,a0,a1=>Ama (Pt L) L a0 a1
theorem Bw1(L:Nat):Bfl (Pt L):=by
 induction L with
 |zero=>exact fun _ _ _ h=>(by cases h)
 |succ L ih=>
  have i222:=ih
  exact Cj6 (Pt L) i222 L
def Ccg(L:Nat):Ew:=E2 B 222 Bh Bh (Pt L) (Bw1 L)
def Amw [An A Bool](a0:Ad)(a1:Bn):A:=
 (jp (.cn a1.u_name
 (.lf true)
 (.lf (a0.Name.toList == (⟨#[]⟩:ByteArray).toList))) (fun b1=>
 (jp (.cn b1
 (.cn a1.u_of
 (.lf true)
 (.lf (a0.Of.toList == (⟨#[]⟩:ByteArray).toList)))
 (.lf false)) (fun b2=>
 (cn b2
 (cn a1.u_e
 (nq (cn a1.u_f
 (nq (jp (.cn a1.u_args
 (.lf true)
 (.lf ((a0.Args.length:Int) == 0))) (fun b3=>
 (cn b3
 (cn a1.u_dist
 (nq (jp (.cn a1.u_flag
 (.lf true)
 (.lf (!a0.Flag))) (fun b4=>
 (jp (.cn b4
 (.cn a1.u_body
 (.lf true)
 (.lf ((a0.Body.length:Int) == 0)))
 (.lf false)) (fun b5=>
 (jp (.cn b5
 (.cn a1.u_other
 (.lf true)
 (.lf ((a0.Else.length:Int) == 0)))
 (.lf false)) (fun b6=>
 (lf b6))))))))
 (bd (Pr L a0.Dist (⟨0,0,0,0,[],[]⟩:Bm)) fun r7=>
 (nq (jp (.cn r7
 (.cn a1.u_flag
 (.lf true)
 (.lf (!a0.Flag)))
 (.lf false)) (fun b8=>
 (jp (.cn b8
 (.cn a1.u_body
 (.lf true)
 (.lf ((a0.Body.length:Int) == 0)))
 (.lf false)) (fun b9=>
 (jp (.cn b9
 (.cn a1.u_other
 (.lf true)
 (.lf ((a0.Else.length:Int) == 0)))
 (.lf false)) (fun b10=>
 (lf b10))))))))))
 (nq (nq (nq (nq (lf false)))))))))
 (bd (Pt L (Ab.cp a0.F) (Ab.mk 0 (⟨#[]⟩:ByteArray) 0 [])) fun r11=>
 (nq (jp (.cn r11
 (.cn a1.u_args
 (.lf true)
 (.lf ((a0.Args.length:Int) == 0)))
 (.lf false)) (fun b12=>
 (cn b12
 (cn a1.u_dist
 (nq (jp (.cn a1.u_flag
 (.lf true)
 (.lf (!a0.Flag))) (fun b13=>
 (jp (.cn b13
 (.cn a1.u_body
 (.lf true)
 (.lf ((a0.Body.length:Int) == 0)))
 (.lf false)) (fun b14=>
 (jp (.cn b14
 (.cn a1.u_other
 (.lf true)
 (.lf ((a0.Else.length:Int) == 0)))
 (.lf false)) (fun b15=>
 (lf b15))))))))
 (bd (Pr L a0.Dist (⟨0,0,0,0,[],[]⟩:Bm)) fun r16=>
 (nq (jp (.cn r16
 (.cn a1.u_flag
 (.lf true)
 (.lf (!a0.Flag)))
 (.lf false)) (fun b17=>
 (jp (.cn b17
 (.cn a1.u_body
 (.lf true)
 (.lf ((a0.Body.length:Int) == 0)))
 (.lf false)) (fun b18=>
 (jp (.cn b18
 (.cn a1.u_other
 (.lf true)
 (.lf ((a0.Else.length:Int) == 0)))
 (.lf false)) (fun b19=>
 (lf b19))))))))))
 (nq (nq (nq (nq (lf false))))))))))))
 (bd (Pt L (Ab.cp a0.E) (Ab.mk 0 (⟨#[]⟩:ByteArray) 0 [])) fun r20=>
 (nq (cn r20
 (cn a1.u_f
 (nq (jp (.cn a1.u_args
 (.lf true)
 (.lf ((a0.Args.length:Int) == 0))) (fun b21=>
 (cn b21
 (cn a1.u_dist
 (nq (jp (.cn a1.u_flag
 (.lf true)
 (.lf (!a0.Flag))) (fun b22=>
 (jp (.cn b22
 (.cn a1.u_body
 (.lf true)
 (.lf ((a0.Body.length:Int) == 0)))
 (.lf false)) (fun b23=>
 (jp (.cn b23
 (.cn a1.u_other
 (.lf true)
 (.lf ((a0.Else.length:Int) == 0)))
 (.lf false)) (fun b24=>
 (lf b24))))))))
 (bd (Pr L a0.Dist (⟨0,0,0,0,[],[]⟩:Bm)) fun r25=>
 (nq (jp (.cn r25
 (.cn a1.u_flag
 (.lf true)
 (.lf (!a0.Flag)))
 (.lf false)) (fun b26=>
 (jp (.cn b26
 (.cn a1.u_body
 (.lf true)
 (.lf ((a0.Body.length:Int) == 0)))
 (.lf false)) (fun b27=>
 (jp (.cn b27
 (.cn a1.u_other
 (.lf true)
 (.lf ((a0.Else.length:Int) == 0)))
 (.lf false)) (fun b28=>
 (lf b28))))))))))
 (nq (nq (nq (nq (lf false)))))))))
 (bd (Pt L (Ab.cp a0.F) (Ab.mk 0 (⟨#[]⟩:ByteArray) 0 [])) fun r29=>
 (nq (jp (.cn r29
 (.cn a1.u_args
 (.lf true)
 (.lf ((a0.Args.length:Int) == 0)))
 (.lf false)) (fun b30=>
 (cn b30
 (cn a1.u_dist
 (nq (jp (.cn a1.u_flag
 (.lf true)
 (.lf (!a0.Flag))) (fun b31=>
 (jp (.cn b31
 (.cn a1.u_body
 (.lf true)
 (.lf ((a0.Body.length:Int) == 0)))
 (.lf false)) (fun b32=>
 (jp (.cn b32
 (.cn a1.u_other
 (.lf true)
 (.lf ((a0.Else.length:Int) == 0)))
 (.lf false)) (fun b33=>
 (lf b33))))))))
 (bd (Pr L a0.Dist (⟨0,0,0,0,[],[]⟩:Bm)) fun r34=>
 (nq (jp (.cn r34
 (.cn a1.u_flag
 (.lf true)
 (.lf (!a0.Flag)))
 (.lf false)) (fun b35=>
 (jp (.cn b35
 (.cn a1.u_body
 (.lf true)
 (.lf ((a0.Body.length:Int) == 0)))
 (.lf false)) (fun b36=>
 (jp (.cn b36
 (.cn a1.u_other
 (.lf true)
 (.lf ((a0.Else.length:Int) == 0)))
 (.lf false)) (fun b37=>
 (lf b37))))))))))
 (nq (nq (nq (nq (lf false)))))))))))
 (nq (nq (nq (nq (nq (nq (lf false)))))))))))
 (nq (nq (nq (nq (nq (nq (nq (lf false)))))))))))))
def Ab6(a0:Ad)(a1:Bn):Option Bool:=Amw L a0 a1
def B37:Ew:=E2 B 185 Hi Ayl (Ab6 L) fun a0 a1 r h=>hF Tryz.func185 (oS [B33 L,Ccg L]) L (fun kk=>eE (Amw L a0 a1)) h
def Bfe(F:Ab→Option Int):Prop:=∀y0 r,F y0=some r→Ho Tryz.prog 137 [Bh.en y0] I r
def Cdp:=CC Tryz.f137
def B23(Ey:Ab→Option Int)(L:Nat):Ba:=(orc 137 (A1 I Bh Ey) (oL []))
theorem Cls(Ey:Ab→Option Int)(Bo9:Bfe Ey)(L:Nat):Dm Tryz.prog (B23 Ey L):=(Dt (a1 _ Bo9) (oS []))
def Bjs(a0:Ab)(v:Co):St:=⟨[(0,.any),(1,.any),(2,I 0),(3,I v.1),(7,lv (.t63 a0.Kids)),(8,I (a0.Kids.length:Int)),(9,I v.2)],[(1,(Er a0))],0⟩
def Yh [An A B7](Ey:Ab→Option Int)(L:Nat)(a0:Ab)(rec:Int→Int→A)(Aj:Int)(Bp:Int):A:=
 (lw Bp a0.Kids
 (bd (Ey (Ab.cp (a0.Kids.getD (Int.toNat Bp) default))) fun r1=>
 (rec (B6 (Aj+r1)) (B6 (Bp+1))))
 (lf (0,Aj,Bp)))
def L2(Ey:Ab→Option Int)(L:Nat)(a0:Ab):Nat→Int→Int→Option B7
 |0,_,_=>none
 |n+1,Aj,Bp=>Yh Ey L a0 (L2 Ey L a0 n) Aj Bp
theorem Bya(Ey:Ab→Option Int)(L:Nat)(K:Ax)(a0:Ab):LP (EV (B23 Ey L) L 9 Cdp.w.l.u.l.l) [0,1,2,3,7,8,9] [1] (Bjs a0) [.exit 0] (fun n v=>L2 Ey L a0 n v.1 v.2) K:=lE (fun _=>rfl) fun n v ih=>eE (Yh Ey L a0 (fun Aj Bp=>re (ih (Aj,Bp))) v.1 v.2)
def Ta [An A Int](Ey:Ab→Option Int)(L:Nat)(o2:Nat×Co):A:=
 (sl o2.1 [(lf o2.2.1)])
def Bgb(Ey:Ab→Option Int)(L:Nat)(kk:Cz):Ax:=(Av 0 (Bb (EV (B23 Ey L) L 9 Cdp.w.r) (Cm Tryz.prog (RS Tryz.f137) kk)))
theorem B73(Ey:Ab→Option Int)(L:Nat)(kk:Cz)(a0:Ab)(o2:Nat×Co):kX [.exit 0] (Bjs a0) (Bgb Ey L kk) o2=ob (Ta Ey L o2) (kQ I kk):=eE (Ta Ey L o2)
def Ath [An A Int](Ey:Ab→Option Int)(L:Nat)(a0:Ab):A:=(bd (L2 Ey L a0 L 1 0) fun o2=>Ta Ey L o2)
def Aj8(Ey:Ab→Option Int)(L:Nat)(a0:Ab):Option Int:=Ath Ey L a0
theorem Cjy(Ey:Ab→Option Int)(Bo9:Bfe Ey)(L:Nat):Bfe (Aj8 Ey L):=fun a0 r h=>hF Tryz.func137 (Cls Ey Bo9 L) L (fun kk=>eE ((ho (Bya Ey L (Bgb Ey L kk) a0 L (1,0)) fun o2=>B73 Ey L kk a0 o2))) h
def M6:Nat→Ab→Option Int
 |0,_=>none
 |L+1,a0=>Aj8 (M6 L) L a0
theorem Bwu(L:Nat):Bfe (M6 L):=by
 induction L with
 |zero=>exact fun _ _ h=>(by cases h)
 |succ L ih=>
  have i137:=ih
  exact Cjy (M6 L) i137 L
def Cbo(L:Nat):Ew:=E1 I 137 Bh (M6 L) (Bwu L)
def Bff(F:Ab→Option Int):Prop:=∀y0 r,F y0=some r→Ho Tryz.prog 138 [Bh.en y0] I r
def Cdq:=CC Tryz.f138
def B24(Ez:Ab→Option Int)(L:Nat):Ba:=(orc 138 (A1 I Bh Ez) (oL []))
theorem Clt(Ez:Ab→Option Int)(Bpa:Bff Ez)(L:Nat):Dm Tryz.prog (B24 Ez L):=(Dt (a1 _ Bpa) (oS []))
def Bjt(a0:Ab)(v:Co):St:=⟨[(0,.any),(1,.any),(2,I 0),(3,I v.1),(7,lv (.t63 a0.Kids)),(8,I (a0.Kids.length:Int)),(9,I v.2)],[(1,(Er a0))],0⟩
def Yg [An A B7](Ez:Ab→Option Int)(L:Nat)(a0:Ab)(rec:Int→Int→A)(Aj:Int)(Bp:Int):A:=
 (lw Bp a0.Kids
 (bd (Ez (Ab.cp (a0.Kids.getD (Int.toNat Bp) default))) fun r1=>
 (rec (if r1 > Aj then r1 else Aj) (B6 (Bp+1))))
 (lf (0,Aj,Bp)))
def L1(Ez:Ab→Option Int)(L:Nat)(a0:Ab):Nat→Int→Int→Option B7
 |0,_,_=>none
 |n+1,Aj,Bp=>Yg Ez L a0 (L1 Ez L a0 n) Aj Bp
theorem Byb(Ez:Ab→Option Int)(L:Nat)(K:Ax)(a0:Ab):LP (EV (B24 Ez L) L 9 Cdq.w.l.u.l.l) [0,1,2,3,7,8,9] [1] (Bjt a0) [.exit 0] (fun n v=>L1 Ez L a0 n v.1 v.2) K:=lE (fun _=>rfl) fun n v ih=>eE (Yg Ez L a0 (fun Aj Bp=>re (ih (Aj,Bp))) v.1 v.2)
def S9 [An A Int](Ez:Ab→Option Int)(L:Nat)(o2:Nat×Co):A:=
 (sl o2.1 [(lf (B6 (o2.2.1+1)))])
def Bgc(Ez:Ab→Option Int)(L:Nat)(kk:Cz):Ax:=(Av 0 (Bb (EV (B24 Ez L) L 9 Cdq.w.r) (Cm Tryz.prog (RS Tryz.f138) kk)))
theorem B74(Ez:Ab→Option Int)(L:Nat)(kk:Cz)(a0:Ab)(o2:Nat×Co):kX [.exit 0] (Bjt a0) (Bgc Ez L kk) o2=ob (S9 Ez L o2) (kQ I kk):=eE (S9 Ez L o2)
def Atg [An A Int](Ez:Ab→Option Int)(L:Nat)(a0:Ab):A:=(bd (L1 Ez L a0 L 0 0) fun o2=>S9 Ez L o2)
def Aj7(Ez:Ab→Option Int)(L:Nat)(a0:Ab):Option Int:=Atg Ez L a0
theorem Cjz(Ez:Ab→Option Int)(Bpa:Bff Ez)(L:Nat):Bff (Aj7 Ez L):=fun a0 r h=>hF Tryz.func138 (Clt Ez Bpa L) L (fun kk=>eE ((ho (Byb Ez L (Bgc Ez L kk) a0 L (0,0)) fun o2=>B74 Ez L kk a0 o2))) h
def M5:Nat→Ab→Option Int
 |0,_=>none
 |L+1,a0=>Aj7 (M5 L) L a0
theorem Bwv(L:Nat):Bff (M5 L):=by
 induction L with
 |zero=>exact fun _ _ h=>(by cases h)
 |succ L ih=>
  have i138:=ih
  exact Cjz (M5 L) i138 L
def Cbp(L:Nat):Ew:=E1 I 138 Bh (M5 L) (Bwv L)
def Amv [An A Int](L:Nat)(a0:Int):A:=
 (jp (.cn (a0 == 1)
 (.lf true)
 (.lf (a0 == 2))) (fun b1=>
 (jp (.cn b1
 (.lf true)
 (.lf (a0 == 3))) (fun b2=>
 (jp (.cn b2
 (.lf true)
 (.lf (a0 == 4))) (fun b3=>
 (cn b3
 (lf 0)
 (jp (.cn (decide (a0≥5))
 (.lf (decide (a0≤8)))
 (.lf false)) (fun b4=>
 (cn b4
 (lf 1)
 (jp (.cn (decide (a0≥9))
 (.lf (decide (a0≤21)))
 (.lf false)) (fun b5=>
 (cn b5
 (lf 2)
 (jp (.cn (decide (a0≥22))
 (.lf (decide (a0≤26)))
 (.lf false)) (fun b6=>
 (cn b6
 (lf 0)
 (lf (-1))))))))))))))))))
def Zj(a0:Int):Option Int:=Amv L a0
def B4i:Ew:=E1 I 227 (cI .i64) (Zj L) fun a0 r h=>hF Tryz.func227 (oS []) L (fun kk=>eE (Amv L a0)) h
def Z3 [An A Bool](a0:Bi)(a1:Int):A:=
 (cn (a1 == 3)
 (lf (!a0.u_code))
 (cn (a1 == 25)
 (cn (a1 == 25)
 (lf a0.u_code)
 (bd (Zj L a1) fun r1=>
 (lf (decide (r1≥0)))))
 (cn (a1 == 26)
 (lf a0.u_code)
 (bd (Zj L a1) fun r2=>
 (lf (decide (r2≥0)))))))
def T3(a0:Bi)(a1:Int):Option Bool:=Z3 L a0 a1
def Ccj:Ew:=E2 B 226 P0 (cI .i64) (T3 L) fun a0 a1 r h=>hF Tryz.func226 (oS [B4i L]) L (fun kk=>eE (Z3 L a0 a1)) h
def Ahn [An A Bool](L:Nat)(a0:Int):A:=
 (jp (.cn (decide (a0≥22))
 (.lf (decide (a0≤24)))
 (.lf false)) (fun b1=>
 (lf b1)))
def Xr(a0:Int):Option Bool:=Ahn L a0
def B4n:Ew:=E1 B 245 (cI .i64) (Xr L) fun a0 r h=>hF Tryz.func245 (oS []) L (fun kk=>eE (Ahn L a0)) h
def Z4 [An A Bool](a0:Bi)(a1:Int):A:=
 (jb (.cn (a1 == 3)
 (.lf true)
 (.bd (Xr L a1) fun r2=>
 (.cn r2
 (.lf (!a0.u_code))
 (.lf false)))) (fun b1=>
 (lf b1)))
def Lq(a0:Bi)(a1:Int):Option Bool:=Z4 L a0 a1
def Cck:Ew:=E2 B 228 P0 (cI .i64) (Lq L) fun a0 a1 r h=>hF Tryz.func228 (oS [B4n L]) L (fun kk=>eE (Z4 L a0 a1)) h
def Xl [An A (Int×Int×Bool)](a0:Bi)(a1:Int):A:=
 (cn (a1 == 2)
 (lf (0,1,true))
 (cn (a1 == 25)
 (lf (0,15,true))
 (cn (a1 == 26)
 (lf (0,31,true))
 (bd (Xr L a1) fun r1=>
 (jp (.cn r1
 (.lf a0.u_code)
 (.lf false)) (fun b2=>
 (cn b2
 (lf (0,63,true))
 (lf (0,0,false)))))))))
def Mm(a0:Bi)(a1:Int):Option (Int×Int×Bool):=Xl L a0 a1
def Ccl:Ew:=E2 (fun(x:Int×Int×Bool)=> .tup [I x.1,I x.2.1,B x.2.2]) 229 P0 (cI .i64) (Mm L) fun a0 a1 r h=>hF Tryz.func229 (oS [B4n L]) L (fun kk=>eE (Xl L a0 a1)) h
def u9 [An A Int](a0:Bi)(a1:Ab):A:=
 (bd (T3 L (⟨a0.u_code⟩:Bi) a1.Op) fun r1=>
 (cn (!r1)
 (lf 1)
 (bd (Zj L a1.Op) fun r2=>
 (cn ((a1.Kids.length:Int) != r2)
 (lf 1)
 (cn (!(a1.Name.toList == (⟨#[]⟩:ByteArray).toList))
 (bd (Lq L (⟨a0.u_code⟩:Bi) a1.Op) fun r3=>
 (cn (!r3)
 (lf 1)
 (cn (a1.Op == 1)
 (bd (Ab5 L a1.N) fun r4=>
 (cn (!r4)
 (lf 2)
 (lf 0)))
 (bd (Mm L (⟨a0.u_code⟩:Bi) a1.Op) fun r5=>
 (jp (.cn (!r5.2.2)
 (.lf (a1.N != 0))
 (.lf false)) (fun b6=>
 (cn b6
 (lf 1)
 (jp (.cn r5.2.2
 (.cn (decide (a1.N < r5.1))
 (.lf true)
 (.lf (decide (a1.N > r5.2.1))))
 (.lf false)) (fun b7=>
 (cn b7
 (lf 2)
 (bd (Lq L (⟨a0.u_code⟩:Bi) a1.Op) fun r8=>
 (cn r8
 (bd (C9 L a1.Name) fun r9=>
 (lf r9))
 (lf 0)))))))))))))
 (cn (a1.Op == 1)
 (bd (Ab5 L a1.N) fun r10=>
 (cn (!r10)
 (lf 2)
 (lf 0)))
 (bd (Mm L (⟨a0.u_code⟩:Bi) a1.Op) fun r11=>
 (jp (.cn (!r11.2.2)
 (.lf (a1.N != 0))
 (.lf false)) (fun b12=>
 (cn b12
 (lf 1)
 (jp (.cn r11.2.2
 (.cn (decide (a1.N < r11.1))
 (.lf true)
 (.lf (decide (a1.N > r11.2.1))))
 (.lf false)) (fun b13=>
 (cn b13
 (lf 2)
 (bd (Lq L (⟨a0.u_code⟩:Bi) a1.Op) fun r14=>
 (cn r14
 (bd (C9 L a1.Name) fun r15=>
 (lf r15))
 (lf 0))))))))))))))))
def Vp(a0:Bi)(a1:Ab):Option Int:=u9 L a0 a1
def B4b:Ew:=E2 I 194 P0 Bh (Vp L) fun a0 a1 r h=>hF Tryz.func194 (oS [X46 L,X65 L,Ccj L,B4i L,Cck L,Ccl L]) L (fun kk=>eE (u9 L a0 a1)) h
def Bfg(F:Bi→Ab→Option Int):Prop:=∀y0 y1 r,F y0 y1=some r→Ho Tryz.prog 139 [P0.en y0,Bh.en y1] I r
def Cdr:=CC Tryz.f139
def B25(Ed:Bi→Ab→Option Int)(L:Nat):Ba:=(orc 139 (A2 I P0 Bh Ed) (oL [B4b L]))
theorem Clu(Ed:Bi→Ab→Option Int)(Bpb:Bfg Ed)(L:Nat):Dm Tryz.prog (B25 Ed L):=(Dt (a2 _ Bpb) (oS [B4b L]))
def Bju(a1:Ab)(a0:Bi)(v:Co):St:=⟨[(0,.any),(1,.any),(2,.loc 2 0),(3,.any),(4,I v.1),(5,.any),(16,lv (.t63 a1.Kids)),(17,I (a1.Kids.length:Int)),(18,I v.2)],[(2,[B a0.u_code]),(3,(Er a1))],0⟩
def P2 [An A B7](Ed:Bi→Ab→Option Int)(L:Nat)(a1:Ab)(a0:Bi)(rec:Int→Int→A)(Al:Int)(Ai:Int):A:=
 (lw Ai a1.Kids
 (bd (Ed (⟨a0.u_code⟩:Bi) (Ab.cp (a1.Kids.getD (Int.toNat Ai) default))) fun r2=>
 (cn (r2 != 0)
 (lf (0,r2,Ai))
 (rec Al (B6 (Ai+1)))))
 (lf (1,Al,Ai)))
def Gk(Ed:Bi→Ab→Option Int)(L:Nat)(a1:Ab)(a0:Bi):Nat→Int→Int→Option B7
 |0,_,_=>none
 |n+1,Al,Ai=>P2 Ed L a1 a0 (Gk Ed L a1 a0 n) Al Ai
theorem Byc(Ed:Bi→Ab→Option Int)(L:Nat)(K:Ax)(a1:Ab)(a0:Bi):LP (EV (B25 Ed L) L 9 Cdr.w.l.u.l.l) [0,1,2,3,4,5,16,17,18] [2,3] (Bju a1 a0) [.ret,.exit 0] (fun n v=>Gk Ed L a1 a0 n v.1 v.2) K:=lE (fun _=>rfl) fun n v ih=>eE (P2 Ed L a1 a0 (fun Al Ai=>re (ih (Al,Ai))) v.1 v.2)
def Ll [An A Int](Ed:Bi→Ab→Option Int)(L:Nat)(o3:Nat×Co):A:=
 (sl o3.1 [(lf o3.2.1),
 (lf 0)])
def Bgd(Ed:Bi→Ab→Option Int)(L:Nat)(kk:Cz):Ax:=(Av 0 (Bb (EV (B25 Ed L) L 9 Cdr.w.r) (Cm Tryz.prog (RS Tryz.f139) kk)))
theorem B75(Ed:Bi→Ab→Option Int)(L:Nat)(kk:Cz)(a1:Ab)(a0:Bi)(o3:Nat×Co):kX [.ret,.exit 0] (Bju a1 a0) (Bgd Ed L kk) o3=ob (Ll Ed L o3) (kQ I kk):=eE (Ll Ed L o3)
def Qf [An A Int](Ed:Bi→Ab→Option Int)(L:Nat)(a0:Bi)(a1:Ab)(nx1:A):A:=
 (bd (Vp L (⟨a0.u_code⟩:Bi) (Ab.cp a1)) fun r1=>
 (cn (r1 != 0)
 (lf r1)
 nx1))
def Agy [An A Int](Ed:Bi→Ab→Option Int)(L:Nat)(a0:Bi)(a1:Ab):A:=Qf Ed L a0 a1 (bd (Gk Ed L a1 a0 L 0 0) fun o3=>Ll Ed L o3)
def Zs(Ed:Bi→Ab→Option Int)(L:Nat)(a0:Bi)(a1:Ab):Option Int:=Agy Ed L a0 a1
theorem Cj0(Ed:Bi→Ab→Option Int)(Bpb:Bfg Ed)(L:Nat):Bfg (Zs Ed L):=fun a0 a1 r h=>hF Tryz.func139 (Clu Ed Bpb L) L (fun kk=>eE (Qf Ed L a0 a1 (ho (Byc Ed L (Bgd Ed L kk) a1 a0 L (0,0)) fun o3=>B75 Ed L kk a1 a0 o3))) h
def Ge:Nat→Bi→Ab→Option Int
 |0,_,_=>none
 |L+1,a0,a1=>Zs (Ge L) L a0 a1
theorem Bww(L:Nat):Bfg (Ge L):=by
 induction L with
 |zero=>exact fun _ _ _ h=>(by cases h)
 |succ L ih=>
  have i139:=ih
  exact Cj0 (Ge L) i139 L
def Cbq(L:Nat):Ew:=E2 I 139 P0 Bh (Ge L) (Bww L)
def Z2 [An A Int](a0:Bi)(a1:Ab):A:=
 (bd (M6 L (Ab.cp a1)) fun r1=>
 (cn (decide (r1 > 60))
 (lf 6)
 (bd (M5 L (Ab.cp a1)) fun r2=>
 (cn (decide (r2 > 12))
 (lf 11)
 (bd (Ge L (⟨a0.u_code⟩:Bi) (Ab.cp a1)) fun r3=>
 (lf r3))))))
def T2(a0:Bi)(a1:Ab):Option Int:=Z2 L a0 a1
def X74:Ew:=E2 I 74 P0 Bh (T2 L) fun a0 a1 r h=>hF Tryz.func74 (oS [Cbo L,Cbp L,Cbq L]) L (fun kk=>eE (Z2 L a0 a1)) h
def Akj [An A Int](a0:Ab):A:=
 (bd (T2 L (⟨false⟩:Bi) (Ab.cp a0)) fun r1=>
 (lf r1))
def Ps(a0:Ab):Option Int:=Akj L a0
def X42:Ew:=E1 I 42 Bh (Ps L) fun a0 r h=>hF Tryz.func42 (oS [X74 L]) L (fun kk=>eE (Akj L a0)) h
def Bl6:=CC Tryz.f186
def Bco:Ba:=oL [X42 L,X65 L,B35 L]
def Bkc(a1:Bn)(a0:Ad)(v:Co):St:=⟨[(0,.any),(1,.any),(2,.loc 2 0),(3,.loc 3 0),(4,I v.1),(9,.any),(10,.any),(12,.any),(13,.any),(24,.lst true (.t256 [(⟨a1.u_name,a0.Name⟩:Gy),(⟨a1.u_of,a0.Of⟩:Gy)])),(25,I ([(⟨a1.u_name,a0.Name⟩:Gy),(⟨a1.u_of,a0.Of⟩:Gy)].length:Int)),(26,I v.2),(53,.any),(74,.any)],[(2,(D5 a0)),(3,(v7 a1))],0⟩
def Ada [An A B7](a1:Bn)(a0:Ad)(rec:Int→Int→A)(Al:Int)(Ai:Int):A:=
 (cn (decide (Ai < ([(⟨a1.u_name,a0.Name⟩:Gy),(⟨a1.u_of,a0.Of⟩:Gy)].length:Int)))
 (gq (0≤Ai)
 (gq (Ai < (([(⟨a1.u_name,a0.Name⟩:Gy),(⟨a1.u_of,a0.Of⟩:Gy)].length:Nat):Int))
 (bd (C9 L (([(⟨a1.u_name,a0.Name⟩:Gy),(⟨a1.u_of,a0.Of⟩:Gy)].getD (Int.toNat Ai) default).u_name)) fun r1=>
 (jp (.cn (([(⟨a1.u_name,a0.Name⟩:Gy),(⟨a1.u_of,a0.Of⟩:Gy)].getD (Int.toNat Ai) default).u_is)
 (.lf (r1 != 0))
 (.lf false)) (fun b2=>
 (cn b2
 (lf (0,r1,Ai))
 (rec Al (B6 (Ai+1)))))))))
 (lf (1,Al,Ai)))
def Mb(L:Nat)(a1:Bn)(a0:Ad):Nat→Int→Int→Option B7
 |0,_,_=>none
 |n+1,Al,Ai=>Ada L a1 a0 (Mb L a1 a0 n) Al Ai
theorem Byu(a1:Bn)(a0:Ad):LP (EV (Bco L) L 9 Bl6.u.l.u.l.l) [0,1,2,3,4,9,10,12,13,24,25,26,53,74] [2,3] (Bkc a1 a0) [.ret,.exit 0] (fun n v=>Mb L a1 a0 n v.1 v.2) K:=lE (fun _=>rfl) fun n v ih=>eE (Ada L a1 a0 (fun Al Ai=>re (ih (Al,Ai))) v.1 v.2)
def Bkd(a1:Bn)(a0:Ad)(v:Co):St:=⟨[(0,.any),(1,.any),(2,.loc 2 0),(3,.loc 3 0),(4,I v.1),(6,.any),(7,.any),(12,.any),(13,.any),(26,.any),(51,.lst true (.t258 [(⟨a1.u_e,(Ab.cp a0.E)⟩:Qw),(⟨a1.u_f,(Ab.cp a0.F)⟩:Qw)])),(52,I ([(⟨a1.u_e,(Ab.cp a0.E)⟩:Qw),(⟨a1.u_f,(Ab.cp a0.F)⟩:Qw)].length:Int)),(53,I v.2),(74,.any)],[(2,(D5 a0)),(3,(v7 a1))],0⟩
def Adb [An A B7](a1:Bn)(a0:Ad)(rec:Int→Int→A)(Bl:Int)(Bu:Int):A:=
 (cn (decide (Bu < ([(⟨a1.u_e,(Ab.cp a0.E)⟩:Qw),(⟨a1.u_f,(Ab.cp a0.F)⟩:Qw)].length:Int)))
 (gq (0≤Bu)
 (gq (Bu < (([(⟨a1.u_e,(Ab.cp a0.E)⟩:Qw),(⟨a1.u_f,(Ab.cp a0.F)⟩:Qw)].length:Nat):Int))
 (cn (!(([(⟨a1.u_e,(Ab.cp a0.E)⟩:Qw),(⟨a1.u_f,(Ab.cp a0.F)⟩:Qw)].getD (Int.toNat Bu) default).u_is))
 (rec Bl (B6 (Bu+1)))
 (bd (Ps L (Ab.cp (([(⟨a1.u_e,(Ab.cp a0.E)⟩:Qw),(⟨a1.u_f,(Ab.cp a0.F)⟩:Qw)].getD (Int.toNat Bu) default).u_e))) fun r4=>
 (cn (r4 != 0)
 (lf (0,r4,Bu))
 (rec Bl (B6 (Bu+1))))))))
 (lf (1,Bl,Bu)))
def Mc(L:Nat)(a1:Bn)(a0:Ad):Nat→Int→Int→Option B7
 |0,_,_=>none
 |n+1,Bl,Bu=>Adb L a1 a0 (Mc L a1 a0 n) Bl Bu
theorem Byv(a1:Bn)(a0:Ad):LP (EV (Bco L) L 9 Bl6.w.l.u.l.l) [0,1,2,3,4,6,7,12,13,26,51,52,53,74] [2,3] (Bkd a1 a0) [.ret,.exit 2] (fun n v=>Mc L a1 a0 n v.1 v.2) K:=lE (fun _=>rfl) fun n v ih=>eE (Adb L a1 a0 (fun Bl Bu=>re (ih (Bl,Bu))) v.1 v.2)
def Bke(a0:Ad)(a1:Bn)(v:Co):St:=⟨[(0,.any),(1,.any),(2,.loc 2 0),(3,.loc 3 0),(4,I v.1),(6,.any),(7,.any),(9,.any),(10,.any),(26,.any),(53,.any),(72,lv (.t63 a0.Args)),(73,I (a0.Args.length:Int)),(74,I v.2)],[(2,(D5 a0)),(3,(v7 a1))],0⟩
def Yr [An A B7](a0:Ad)(a1:Bn)(rec:Int→Int→A)(E8:Int)(C5:Int):A:=
 (lw C5 a0.Args
 (bd (Ps L (Ab.cp (a0.Args.getD (Int.toNat C5) default))) fun r6=>
 (cn (r6 != 0)
 (lf (0,r6,C5))
 (rec E8 (B6 (C5+1)))))
 (lf (1,E8,C5)))
def Md(L:Nat)(a0:Ad)(a1:Bn):Nat→Int→Int→Option B7
 |0,_,_=>none
 |n+1,E8,C5=>Yr L a0 a1 (Md L a0 a1 n) E8 C5
theorem Byw(a0:Ad)(a1:Bn):LP (EV (Bco L) L 9 Bl6.x.l.u.l.l) [0,1,2,3,4,6,7,9,10,26,53,72,73,74] [2,3] (Bke a0 a1) [.ret,.exit 4] (fun n v=>Md L a0 a1 n v.1 v.2) K:=lE (fun _=>rfl) fun n v ih=>eE (Yr L a0 a1 (fun E8 C5=>re (ih (E8,C5))) v.1 v.2)
def Tn [An A Int](a1:Bn)(a0:Ad)(o7:Nat×Co):A:=
 (sl o7.1 [(lf o7.2.1),
 (cn a1.u_dist
 (bd (Pq L a0.Dist) fun r8=>
 (lf r8))
 (lf 0))])
def Bg5:Ax:=(Av 4 (Bb (EV (Bco L) L 9 Bl6.x.r) (Cm Tryz.prog (RS Tryz.f186) kk)))
theorem B8x(a0:Ad)(a1:Bn)(o7:Nat×Co):kX [.ret,.exit 4] (Bke a0 a1) (Bg5 L kk) o7=ob (Tn L a1 a0 o7) (kQ I kk):=eE (Tn L a1 a0 o7)
def Y5 [An A Int](L:Nat)(a0:Ad)(a1:Bn)(o5:Nat×Co)(nx3:B7→A):A:=
 (sl o5.1 [(lf o5.2.1),
 (cn (decide ((a0.Args.length:Int) > 6))
 (lf 6)
 (nx3 o5))])
def Y0 [An A Int](a0:Ad)(a1:Bn)(o5:Nat×Co):A:=Y5 L a0 a1 o5 (fun o5=>bd (Md L a0 a1 L o5.2.1 0) fun o7=>Tn L a1 a0 o7)
def Bg4:Ax:=(Av 2 (Bb (EV (Bco L) L 9 Bl6.w.r) (Cm Tryz.prog (RS Tryz.f186) kk)))
theorem B8w(a1:Bn)(a0:Ad)(o5:Nat×Co):kX [.ret,.exit 2] (Bkd a1 a0) (Bg4 L kk) o5=ob (Y0 L a0 a1 o5) (kQ I kk):=eE (Y5 L a0 a1 o5 (fun o5=>ho (Byw L (Bg5 L kk) a0 a1 L (o5.2.1,0)) fun o7=>B8x L kk a0 a1 o7))
def Y4 [An A Int](L:Nat)(a1:Bn)(a0:Ad)(o3:Nat×Co)(nx2:B7→A):A:=
 (sl o3.1 [(lf o3.2.1),
 (nx2 o3)])
def Yz [An A Int](a1:Bn)(a0:Ad)(o3:Nat×Co):A:=Y4 L a1 a0 o3 (fun o3=>bd (Mc L a1 a0 L o3.2.1 0) fun o5=>Y0 L a0 a1 o5)
def Bg3:Ax:=(Av 0 (Bb (EV (Bco L) L 9 Bl6.u.r) (Cm Tryz.prog (RS Tryz.f186) kk)))
theorem B8v(a1:Bn)(a0:Ad)(o3:Nat×Co):kX [.ret,.exit 0] (Bkc a1 a0) (Bg3 L kk) o3=ob (Yz L a1 a0 o3) (kQ I kk):=eE (Y4 L a1 a0 o3 (fun o3=>ho (Byv L (Bg4 L kk) a1 a0 L (o3.2.1,0)) fun o5=>B8w L kk a1 a0 o5))
def Atq [An A Int](a0:Ad)(a1:Bn):A:=(bd (Mb L a1 a0 L 0 0) fun o3=>Yz L a1 a0 o3)
def Zx(a0:Ad)(a1:Bn):Option Int:=Atq L a0 a1
def B38:Ew:=E2 I 186 Hi Ayl (Zx L) fun a0 a1 r h=>hF Tryz.func186 (C:=Bco L) (oS _) L (fun kk=>eE ((ho (Byu L (Bg3 L kk) a1 a0 L (0,0)) fun o3=>B8v L kk a1 a0 o3))) h
def Bfd(F:(List Ad)→Option Int):Prop:=∀y0 r,F y0=some r→Ho Tryz.prog 135 [Tw.en y0] I r
def Cdo:=CC Tryz.f135
def B22(Eh:(List Ad)→Option Int)(L:Nat):Ba:=(orc 135 (A1 I Tw Eh) (oL [B36 L,B37 L,B38 L]))
theorem Clr(Eh:(List Ad)→Option Int)(Bo8:Bfd Eh)(L:Nat):Dm Tryz.prog (B22 Eh L):=(Dt (a1 _ Bo8) (oS [B36 L,B37 L,B38 L]))
def Bjr(a0:List Ad)(v:Co):St:=⟨[(0,.any),(2,I v.1),(10,lv (.t96 a0)),(11,I (a0.length:Int)),(12,I v.2)],[],0⟩
def Yq [An A B7](Eh:(List Ad)→Option Int)(L:Nat)(a0:List Ad)(rec:Int→Int→A)(Al:Int)(Ai:Int):A:=
 (lw Ai a0
 (bd (Ab7 L ((a0.getD (Int.toNat Ai) default).Op)) fun r1=>
 (jb (.cn (!r1.2)
 (.lf true)
 (.bd (Ab6 L (Ad.cp (a0.getD (Int.toNat Ai) default)) r1.1) fun r3=>
 (.lf (!r3)))) (fun b2=>
 (cn b2
 (lf (0,1,Ai))
 (bd (Zx L (Ad.cp (a0.getD (Int.toNat Ai) default)) r1.1) fun r4=>
 (cn (r4 != 0)
 (lf (0,r4,Ai))
 (bd (Eh ((a0.getD (Int.toNat Ai) default).Body)) fun r5=>
 (cn (r5 != 0)
 (lf (0,r5,Ai))
 (bd (Eh ((a0.getD (Int.toNat Ai) default).Else)) fun r6=>
 (cn (r6 != 0)
 (lf (0,r6,Ai))
 (rec Al (B6 (Ai+1)))))))))))))
 (lf (1,Al,Ai)))
def Ma(Eh:(List Ad)→Option Int)(L:Nat)(a0:List Ad):Nat→Int→Int→Option B7
 |0,_,_=>none
 |n+1,Al,Ai=>Yq Eh L a0 (Ma Eh L a0 n) Al Ai
theorem Bx9(Eh:(List Ad)→Option Int)(L:Nat)(K:Ax)(a0:List Ad):LP (EV (B22 Eh L) L 9 Cdo.u.l.u.l.l) [0,2,10,11,12] [] (Bjr a0) [.ret,.exit 0] (fun n v=>Ma Eh L a0 n v.1 v.2) K:=lE (fun _=>rfl) fun n v ih=>eE (Yq Eh L a0 (fun Al Ai=>re (ih (Al,Ai))) v.1 v.2)
def Tm [An A Int](Eh:(List Ad)→Option Int)(L:Nat)(o7:Nat×Co):A:=
 (sl o7.1 [(lf o7.2.1),
 (lf 0)])
def Bga(Eh:(List Ad)→Option Int)(L:Nat)(kk:Cz):Ax:=(Av 0 (Bb (EV (B22 Eh L) L 9 Cdo.u.r) (Cm Tryz.prog (RS Tryz.f135) kk)))
theorem B72(Eh:(List Ad)→Option Int)(L:Nat)(kk:Cz)(a0:List Ad)(o7:Nat×Co):kX [.ret,.exit 0] (Bjr a0) (Bga Eh L kk) o7=ob (Tm Eh L o7) (kQ I kk):=eE (Tm Eh L o7)
def Atp [An A Int](Eh:(List Ad)→Option Int)(L:Nat)(a0:List Ad):A:=(bd (Ma Eh L a0 L 0 0) fun o7=>Tm Eh L o7)
def Akb(Eh:(List Ad)→Option Int)(L:Nat)(a0:List Ad):Option Int:=Atp Eh L a0
theorem Cjx(Eh:(List Ad)→Option Int)(Bo8:Bfd Eh)(L:Nat):Bfd (Akb Eh L):=fun a0 r h=>hF Tryz.func135 (Clr Eh Bo8 L) L (fun kk=>eE ((ho (Bx9 Eh L (Bga Eh L kk) a0 L (0,0)) fun o7=>B72 Eh L kk a0 o7))) h
def M9:Nat→(List Ad)→Option Int
 |0,_=>none
 |L+1,a0=>Akb (M9 L) L a0
theorem Bwt(L:Nat):Bfd (M9 L):=by
 induction L with
 |zero=>exact fun _ _ h=>(by cases h)
 |succ L ih=>
  have i135:=ih
  exact Cjx (M9 L) i135 L
def Cbn(L:Nat):Ew:=E1 I 135 Tw (M9 L) (Bwt L)
def Akm [An A Int](a0:List Ad):A:=
 (bd (M7 L a0) fun r1=>
 (cn (decide (r1 > 200))
 (lf 6)
 (bd (M8 L a0) fun r2=>
 (cn (decide (r2 > 12))
 (lf 11)
 (bd (M9 L a0) fun r3=>
 (lf r3))))))
def Zw(a0:List Ad):Option Int:=Akm L a0
def X72:Ew:=E1 I 72 Tw (Zw L) fun a0 r h=>hF Tryz.func72 (oS [Cbl L,Cbm L,Cbn L]) L (fun kk=>eE (Akm L a0)) h
def Bc4:=CC Tryz.f123
def A4o:Ba:=oL [X58 L,X65 L,X72 L,Bul L]
def Be3(p1_0:ByteArray)(p1_1:Ap)(p1_2:Ao)(p1_3:List ByteArray)(p1_4:List Bool)(k:Bk):Cv→Prop:=fun o=>k (I o.1) [(1,(Cs p1_1)),(5,(Vg p1_2)),(21,[.mapO false false (.t9 o.2.1) (.t4 o.2.2)])]
def Aew [An A Cv](p1_0:ByteArray)(p1_1:Ap)(p1_2:Ao)(p1_3:List ByteArray)(p1_4:List Bool):A:=
 (bd (C9 L p1_0) fun r3=>
 (cn (r3 != 0)
 (lf (r3,p1_3,p1_4))
 (fq (p1_3.findIdx? fun b=>p1_0 == b) (fun i4=>
 (cn (p1_4.getD i4 default)
 (lf (4,p1_3,p1_4))
 (fq (p1_3.findIdx? fun b=>p1_0 == b) (fun i5=>
 (lf (0,p1_3,(p1_4.set i5 true))))
 (lf (0,(p1_3++ [p1_0]),(p1_4++ [true]))))))
 (fq (p1_3.findIdx? fun b=>p1_0 == b) (fun i6=>
 (lf (0,p1_3,(p1_4.set i6 true))))
 (lf (0,(p1_3++ [p1_0]),(p1_4++ [true])))))))
def Ki(p1_0:ByteArray)(p1_1:Ap)(p1_2:Ao)(p1_3:List ByteArray)(p1_4:List Bool):Option Cv:=Aew L p1_0 p1_1 p1_2 p1_3 p1_4
theorem Bw6(p1_0:ByteArray)(p1_1:Ap)(p1_2:Ao)(p1_3:List ByteArray)(p1_4:List Bool):YO (A4o L) L 9 69 [.mp 21,S p1_0] [(1,(Cs p1_1)),(5,(Vg p1_2)),(21,[.mapO false false (.t9 p1_3) (.t4 p1_4)])] k=ob (Ki L p1_0 p1_1 p1_2 p1_3 p1_4) (Be3 p1_0 p1_1 p1_2 p1_3 p1_4 k):=(C3 _ _ _ jn4 _ _ _ _ _ _ _).trans (eE (Aew L p1_0 p1_1 p1_2 p1_3 p1_4))
def A8u(r2:List Ao)(a0:Ap)(v:Tu5):St:=⟨[(0,.any),(1,.loc 1 0),(2,I v.1),(3,.mp 21),(27,lv (.t127 r2)),(28,I (r2.length:Int)),(29,I v.2.1)],[(1,(Cs a0)),(21,[.mapO false false (.t9 v.2.2.1) (.t4 v.2.2.2)])],0⟩
def N9 [An A Se](Ai:Int)(r2:List Ao)(Al:Int)(rec:Int→Int→List ByteArray→List Bool→A)(o7:Cv):A:=
 (cn (o7.1 != 0)
 (lf (0,o7.1,Ai,o7.2.1,o7.2.2))
 (bd (K6 L ((r2.getD (Int.toNat Ai) default).Type_)) fun r8=>
 (cn (!r8)
 (lf (0,1,Ai,o7.2.1,o7.2.2))
 (rec Al (B6 (Ai+1)) o7.2.1 o7.2.2))))
def Sy [An A Se](L:Nat)(r2:List Ao)(a0:Ap)(rec:Int→Int→List ByteArray→List Bool→A)(Al:Int)(Ai:Int)(C2:List ByteArray)(Dg:List Bool)(nx1:Int→(List ByteArray)→(List Bool)→Int→A):A:=
 (lw Ai r2
 (nx1 Ai C2 Dg Al)
 (lf (1,Al,Ai,C2,Dg)))
def Zc [An A Se](r2:List Ao)(a0:Ap)(rec:Int→Int→List ByteArray→List Bool→A)(Al:Int)(Ai:Int)(C2:List ByteArray)(Dg:List Bool):A:=Sy L r2 a0 rec Al Ai C2 Dg (fun Ai C2 Dg Al=>bd (Ki L ((r2.getD (Int.toNat Ai) default).Name) a0 (r2.getD (Int.toNat Ai) default) C2 Dg) fun o7=>N9 L Ai r2 Al rec o7)
def Gm(L:Nat)(r2:List Ao)(a0:Ap):Nat→Int→Int→List ByteArray→List Bool→Option Se
 |0,_,_,_,_=>none
 |n+1,Al,Ai,C2,Dg=>Zc L r2 a0 (Gm L r2 a0 n) Al Ai C2 Dg
def Be1(r2:List Ao)(a0:Ap):Prop:=LI (EV (A4o L) L 9 Bc4.w.u.l.u.l.l) [0,1,2,3,27,28,29] [1,21] (A8u r2 a0) [.ret,.exit 0] (fun n v=>Gm L r2 a0 n v.1 v.2.1 v.2.2.1 v.2.2.2) K n
def Bf3(r2:List Ao)(Ai:Int)(Al:Int)(a0:Ap)(C2:List ByteArray)(Dg:List Bool):Bk:=(Bz Tryz.prog (A4o L) (EI (A4o L) L 9) 1 (List.drop 4 Bc4.w.u.l.u.l.l.w.l.l.u.l.l.ops) ⟨[(35,S (r2.getD (Int.toNat Ai) default).Name),(34,.loc 5 0),(33,.mp 21),(1,.loc 1 0),(2,I Al),(3,.mp 21),(5,.loc 5 0),(27,lv (.t127 r2)),(28,I (r2.length:Int)),(29,I Ai),(30,B (decide (Ai < (r2.length:Int)))),(31,.ref (Vg (r2.getD (Int.toNat Ai) default))),(32,.agg (Vg (r2.getD (Int.toNat Ai) default)))],[(1,(Cs a0)),(5,(Vg (r2.getD (Int.toNat Ai) default))),(21,[.mapO false false (.t9 C2) (.t4 Dg)])],0⟩ (some 36) (fun st9=>(Bb (EV (A4o L) L 9 Bc4.w.u.l.u.l.l.w.l.l.u.l.r) (Bb (EV (A4o L) L 9 Bc4.w.u.l.u.l.l.w.l.l.u.r) (Av 1 (Bb (EV (A4o L) L 9 Bc4.w.u.l.u.l.l.w.r) (Gj (Ix (EV (A4o L) L 9 Bc4.w.u.l.u.l.l) [0,1,2,3,27,28,29] [1,21] n) [0,1,2,3,27,28,29] [1,21] K))))) .normal st9))
theorem B7v(r2:List Ao)(Ai:Int)(a0:Ap)(C2:List ByteArray)(Dg:List Bool)(Al:Int)(ih:Be1 L n K r2 a0)(o7:Cv):Be3 ((r2.getD (Int.toNat Ai) default).Name) a0 (r2.getD (Int.toNat Ai) default) C2 Dg (Bf3 L n K r2 Ai Al a0 C2 Dg) o7=ob (N9 L Ai r2 Al (Gm L r2 a0 n) o7) (kX [.ret,.exit 0] (A8u r2 a0) K):=eE (N9 L Ai r2 Al (fun Al Ai C2 Dg=>re (ih (Al,Ai,C2,Dg))) o7)
theorem Bx2(r2:List Ao)(a0:Ap):∀n,Be1 L n K r2 a0:=lE (fun _=>rfl) fun n v ih=>eE (Sy L r2 a0 (fun Al Ai C2 Dg=>re (ih (Al,Ai,C2,Dg))) v.1 v.2.1 v.2.2.1 v.2.2.2 (fun Ai C2 Dg Al=>ho (Bw6 L (Bf3 L n K r2 Ai Al a0 C2 Dg) ((r2.getD (Int.toNat Ai) default).Name) a0 (r2.getD (Int.toNat Ai) default) C2 Dg) fun o7=>B7v L n K r2 Ai a0 C2 Dg Al ih o7))
def Oa [An A Int](a0:Ap)(o9:Nat×Tu5):A:=
 (sl o9.1 [(lf o9.2.1),
 (bd (Zw L a0.Body) fun r10=>
 (lf r10))])
def Bf4:Ax:=(Av 0 (Bb (EV (A4o L) L 9 Bc4.w.u.r) (Cm Tryz.prog (RS Tryz.f123) kk)))
theorem B7w(r2:List Ao)(a0:Ap)(o9:Nat×Tu5):kX [.ret,.exit 0] (A8u r2 a0) (Bf4 L kk) o9=ob (Oa L a0 o9) (kQ I kk):=eE (Oa L a0 o9)
def Sz [An A Int](a0:Ap)(nx2:(List Ao)→A):A:=
 (jp (.cn (decide ((a0.Params.length:Int) > 6))
 (.lf true)
 (.lf (decide ((B6 ((a0.Params.length:Int)+(a0.Locals.length:Int))) > 16)))) (fun b1=>
 (cn b1
 (lf 6)
 (bd (J6 L [a0.Params,a0.Locals]) fun r2=>
 (nx2 r2)))))
def Alk [An A Int](a0:Ap):A:=Sz L a0 (fun r2=>bd (Gm L r2 a0 L 0 0 [] []) fun o9=>Oa L a0 o9)
def X3(a0:Ap):Option Int:=Alk L a0
def Cbi:Ew:=E1 I 123 b0 (X3 L) fun a0 r h=>hF Tryz.func123 (C:=A4o L) (oS _) L (fun kk=>eE (Sz L a0 (fun r2=>ho (Bx2 L (Bf4 L kk) r2 a0 L (0,0,[],[])) fun o9=>B7w L kk r2 a0 o9))) h
def Cef:=CC Tryz.f214
def Cd6:=CC Tryz.f170
def Bcn(L:Nat):Ba:=oL []
def Bka(p1_0:List Ap)(p1_1:Aa)(p1_2:ByteArray)(v:Co):St:=⟨[(0,lv (.t58 p1_0)),(1,.clo 215 0 [.loc 3 0]),(4,I v.1),(7,I (p1_0.length:Int)),(8,I v.2)],[(2,(Af p1_1)),(3,[S p1_2])],4⟩
def Sp [An A B7](L:Nat)(p1_0:List Ap)(p1_1:Aa)(p1_2:ByteArray)(rec:Int→Int→A)(Aj:Int)(Ai:Int):A:=
 (lw Ai p1_0
 (cn (((p1_0.getD (Int.toNat Ai) default).Name).toList == p1_2.toList)
 (lf (0,Ai,Ai))
 (rec Aj (B6 (Ai+1))))
 (lf (1,Aj,Ai)))
def Ie(L:Nat)(p1_0:List Ap)(p1_1:Aa)(p1_2:ByteArray):Nat→Int→Int→Option B7
 |0,_,_=>none
 |n+1,Aj,Ai=>Sp L p1_0 p1_1 p1_2 (Ie L p1_0 p1_1 p1_2 n) Aj Ai
theorem Bys(p1_0:List Ap)(p1_1:Aa)(p1_2:ByteArray):LP (EV (Bcn L) L 8 Cef.u.l.u.l.l) [0,1,4,7,8] [2,3] (Bka p1_0 p1_1 p1_2) [.ret,.exit 0] (fun n v=>Ie L p1_0 p1_1 p1_2 n v.1 v.2) K:=lE (fun _=>rfl) fun n v ih=>eE (Sp L p1_0 p1_1 p1_2 (fun Aj Ai=>re (ih (Aj,Ai))) v.1 v.2)
def A6w(p1_0:List Ap)(p1_1:Aa)(p1_2:ByteArray)(k:Bk):Int→Prop:=fun o=>k (I o) [(2,(Af p1_1)),(3,[S p1_2])]
def Sq [An A Int](L:Nat)(o1:Nat×Co):A:=
 (sl o1.1 [(lf o1.2.1),
 (lf (-1))])
def Bgt:Ax:=(Av 0 (Bb (EV (Bcn L) L 8 Cef.u.r) (Dz Tryz.prog (RS Tryz.f214) k)))
theorem B8l(p1_0:List Ap)(p1_1:Aa)(p1_2:ByteArray)(o1:Nat×Co):kX [.ret,.exit 0] (Bka p1_0 p1_1 p1_2) (Bgt L k) o1=ob (Sq L o1) (A6w p1_0 p1_1 p1_2 k):=eE (Sq L o1)
def Aev [An A Int](p1_0:List Ap)(p1_1:Aa)(p1_2:ByteArray):A:=(bd (Ie L p1_0 p1_1 p1_2 L 0 0) fun o1=>Sq L o1)
def Sl(p1_0:List Ap)(p1_1:Aa)(p1_2:ByteArray):Option Int:=Aev L p1_0 p1_1 p1_2
theorem Bxa(p1_0:List Ap)(p1_1:Aa)(p1_2:ByteArray):YO (Bcn L) L 9 214 [lv (.t58 p1_0),.clo 215 0 [.loc 3 0]] [(2,(Af p1_1)),(3,[S p1_2])] k=ob (Sl L p1_0 p1_1 p1_2) (A6w p1_0 p1_1 p1_2 k):=(C3 _ _ _ jn4 _ _ _ _ _ _ _).trans (eE ((ho (Bys L (Bgt L k) p1_0 p1_1 p1_2 L (0,0)) fun o1=>B8l L k p1_0 p1_1 p1_2 o1)))
def N8 [An A Int](L:Nat)(o2:Int):A:=
 (lf o2)
def Bgu(a0:Aa)(a1:ByteArray):Bk:=(Bz Tryz.prog (Bcn L) (EI (Bcn L) L 9) 1 (List.drop 4 Cd6.u.l.ops) ⟨[(7,.clo 215 0 [.loc 3 0]),(6,lv (.t58 a0.Routines)),(5,.loc 2 10),(2,.loc 2 0),(3,.loc 3 0),(4,I 0)],[(2,(Af a0)),(3,[S a1])],0⟩ (some 8) (fun st9=>(Bb (EV (Bcn L) L 9 Cd6.u.r) (Cm Tryz.prog (RS Tryz.f170) kk)) .normal st9))
theorem B8m(a0:Aa)(a1:ByteArray)(o2:Int):A6w a0.Routines a0 a1 (Bgu L kk a0 a1) o2=ob (N8 L o2) (kQ I kk):=eE (N8 L o2)
def Alj [An A Int](a0:Aa)(a1:ByteArray):A:=(bd (Sl L a0.Routines a0 a1) fun o2=>N8 L o2)
def Fv(a0:Aa)(a1:ByteArray):Option Int:=Alj L a0 a1
def Bll:Ew:=E2 I 170 B8 cS (Fv L) fun a0 a1 r h=>hF Tryz.func170 (C:=Bcn L) (oS _) L (fun kk=>eE ((ho (Bxa L (Bgu L kk a0 a1) a0.Routines a0 a1) fun o2=>B8m L kk a0 a1 o2))) h
def Cdj:=CC Tryz.f127
def B2z:Ba:=oL [Bc2 L,Bll L,Bum L]
def Bjm(a0:Aa)(r1:Int)(a1:Bt)(v:Co):St:=⟨[(0,.any),(1,.any),(2,.any),(3,.loc 3 0),(4,I v.1),(5,.any),(6,lv (.t127 ((a0.Routines.getD (Int.toNat r1) default).Params))),(28,lv (.t3 a1.Args)),(29,I (a1.Args.length:Int)),(30,I v.2)],[(2,(Af a0)),(3,(Ag0 a1))],0⟩
def V8 [An A B7](a0:Aa)(r1:Int)(a1:Bt)(rec:Int→Int→A)(Al:Int)(Bp:Int):A:=
 (lw Bp a1.Args
 (gi Bp ((a0.Routines.getD (Int.toNat r1) default).Params)
 (bd (Si L ((((a0.Routines.getD (Int.toNat r1) default).Params).getD (Int.toNat Bp) default).Type_) (a1.Args.getD (Int.toNat Bp) default)) fun r2=>
 (cn (!r2)
 (lf (0,2,Bp))
 (rec Al (B6 (Bp+1))))))
 (lf (1,Al,Bp)))
def Kr(L:Nat)(a0:Aa)(r1:Int)(a1:Bt):Nat→Int→Int→Option B7
 |0,_,_=>none
 |n+1,Al,Bp=>V8 L a0 r1 a1 (Kr L a0 r1 a1 n) Al Bp
theorem Bx3(a0:Aa)(r1:Int)(a1:Bt):LP (EV (B2z L) L 9 Cdj.x.u.l.u.l.l) [0,1,2,3,4,5,6,28,29,30] [2,3] (Bjm a0 r1 a1) [.ret,.exit 0] (fun n v=>Kr L a0 r1 a1 n v.1 v.2) K:=lE (fun _=>rfl) fun n v ih=>eE (V8 L a0 r1 a1 (fun Al Bp=>re (ih (Al,Bp))) v.1 v.2)
def R5 [An A Int](a1:Bt)(o3:Nat×Co):A:=
 (sl o3.1 [(lf o3.2.1),
 (bd (Be L a1.At 0 1000000000) fun r4=>
 (jb (.cn (!r4)
 (.lf true)
 (.bd (Be L a1.Every 0 1000000000) fun r6=>
 (.lf (!r6)))) (fun b5=>
 (jb (.cn b5
 (.lf true)
 (.bd (Be L a1.Until 0 1000000000) fun r8=>
 (.lf (!r8)))) (fun b7=>
 (jp (.cn b7
 (.lf true)
 (.cn (a1.Every == 0)
 (.lf (a1.Until != 0))
 (.lf false))) (fun b9=>
 (cn b9
 (lf 2)
 (lf 0)))))))))])
def Bf5:Ax:=(Av 0 (Bb (EV (B2z L) L 9 Cdj.x.u.r) (Cm Tryz.prog (RS Tryz.f127) kk)))
theorem B7x(a0:Aa)(r1:Int)(a1:Bt)(o3:Nat×Co):kX [.ret,.exit 0] (Bjm a0 r1 a1) (Bf5 L kk) o3=ob (R5 L a1 o3) (kQ I kk):=eE (R5 L a1 o3)
def Xc [An A Int](a0:Aa)(a1:Bt)(nx1:Int→A):A:=
 (bd (Fv L a0 a1.Routine) fun r1=>
 (cn (decide (r1 < 0))
 (lf 5)
 (gi r1 a0.Routines
 (cn ((a1.Args.length:Int) != (((a0.Routines.getD (Int.toNat r1) default).Params).length:Int))
 (lf 8)
 (nx1 r1)))))
def Ap9 [An A Int](a0:Aa)(a1:Bt):A:=Xc L a0 a1 (fun r1=>bd (Kr L a0 r1 a1 L 0 0) fun o3=>R5 L a1 o3)
def Tr(a0:Aa)(a1:Bt):Option Int:=Ap9 L a0 a1
def Cbj:Ew:=E2 I 127 B8 Atx (Tr L) fun a0 a1 r h=>hF Tryz.func127 (C:=B2z L) (oS _) L (fun kk=>eE (Xc L a0 a1 (fun r1=>ho (Bx3 L (Bf5 L kk) a0 r1 a1 L (0,0)) fun o3=>B7x L kk a0 r1 a1 o3))) h
end
end Go.Proofs.YtofcpkmnhmnfcaaGreatR.Ev
