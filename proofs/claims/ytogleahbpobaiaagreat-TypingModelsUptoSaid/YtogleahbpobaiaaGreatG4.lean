import Derived.Test.YtogleahbpobaiaaGreatG2
import Derived.Test.YtogleahbpobaiaaGreatG3
namespace Go.Proofs.YtogleahbpobaiaaGreat.Ev
open Go An
set_option maxRecDepth 100000
set_option maxHeartbeats 4000000
set_option linter.unusedVariables false
set_option linter.unusedSimpArgs false
set_option linter.unnecessarySimpa false
variable {A:Type} (L n:Nat) (kk:Ct) (K:Be) (k:Bx)
def Big(F:Ab→Ab→Option Bool):Prop:=∀y0 y1 r,F y0 y1=some r→Ho Tryz.prog 171 [Bs.en y0,Bs.en y1] B r
noncomputable def Cdd:EC:=CC Tryz.f171
def B17(El:Ab→Ab→Option Bool)(L:Nat):Bk:=(orc 171 (A2 B Bs Bs El) (oL []))
theorem Ck7(El:Ab→Ab→Option Bool)(Bqj:Big El)(L:Nat):Ep Tryz.prog (B17 El L):=(Gx (a2 _ Bqj) (oS []))
def Cep(kk:Ct):Bool→Prop:=fun x=>kk (B x)
def Bmm(a0:Ab)(a1:Ab)(v:Bool×Int):St:=⟨[(0,.any),(1,.any),(2,.any),(3,.loc 3 0),(4,B v.1),(36,.lst false (.t38 a0.Kids)),(37,I (a0.Kids.length:Int)),(38,I v.2)],[(2,C5 a0),(3,C5 a1)],0⟩
def Aao [An A (Nat×Bool×Int)](El:Ab→Ab→Option Bool)(L:Nat)(a0:Ab)(a1:Ab)(rec:Bool→Int→A)(Ak:Bool)(Ah:Int):A:=
 (cn (decide (Ah < (a0.Kids.length:Int)))
 (gq (0≤Ah)
 (gq (Ah < (a0.Kids.length:Int))
 (gq (0≤Ah)
 (gq (Ah < (a1.Kids.length:Int))
 (bd (El (Ab.cp (a0.Kids.getD (Int.toNat Ah) default)) (Ab.cp (a1.Kids.getD (Int.toNat Ah) default))) fun r4=>
 (cn (!r4)
 (lf (0,false,Ah))
 (rec Ak (Da (Ah+1)))))))))
 (lf (1,Ak,Ah)))
def Om(El:Ab→Ab→Option Bool)(L:Nat)(a0:Ab)(a1:Ab):Nat→Bool→Int→Option (Nat×Bool×Int)
 |0,_,_=>none
 |n+1,Ak,Ah=>Aao El L a0 a1 (Om El L a0 a1 n) Ak Ah
theorem By6(El:Ab→Ab→Option Bool)(L:Nat)(K:Be)(a0:Ab)(a1:Ab):LP (EV (B17 El L) L 9 Cdd.w.l.u.l.l) [0,1,2,3,4,36,37,38] [2,3] (Bmm a0 a1) [.ret,.exit 0] (fun n v=>Om El L a0 a1 n v.1 v.2) K:=lE (fun _=>rfl) fun n v ih=>eE (Aao El L a0 a1 (fun Ak Ah=>re (ih (Ak,Ah))) v.1 v.2)
def Wf [An A Bool](El:Ab→Ab→Option Bool)(L:Nat)(o5:Nat×Bool×Int):A:=
 (sl o5.1 [(lf o5.2.1),
 (lf true)])
def Bj8(El:Ab→Ab→Option Bool)(L:Nat)(kk:Ct):Be:=(Ay 0 (Bl (EV (B17 El L) L 9 Cdd.w.r) (C8 Tryz.prog (RS Tryz.f171) kk)))
theorem B8p(El:Ab→Ab→Option Bool)(L:Nat)(kk:Ct)(a0:Ab)(a1:Ab)(o5:Nat×Bool×Int):kX [.ret,.exit 0] (Bmm a0 a1) (Bj8 El L kk) o5=ob (Wf El L o5) (Cep kk):=eE (Wf El L o5)
def Ab2 [An A Bool](El:Ab→Ab→Option Bool)(L:Nat)(a0:Ab)(a1:Ab)(nx1:A):A:=
 (jp (.cn (a0.Op != a1.Op)
 (.lf true)
 (.lf (!(a0.Name.toList == a1.Name.toList)))) (fun b1=>
 (jp (.cn b1
 (.lf true)
 (.lf (a0.N != a1.N))) (fun b2=>
 (jp (.cn b2
 (.lf true)
 (.lf ((a0.Kids.length:Int) != (a1.Kids.length:Int)))) (fun b3=>
 (cn b3
 (lf false)
 nx1)))))))
def Ay4 [An A Bool](El:Ab→Ab→Option Bool)(L:Nat)(a0:Ab)(a1:Ab):A:=Ab2 El L a0 a1 (bd (Om El L a0 a1 L false 0) fun o5=>Wf El L o5)
def Apc(El:Ab→Ab→Option Bool)(L:Nat)(a0:Ab)(a1:Ab):Option Bool:=Ay4 El L a0 a1
theorem Cjg(El:Ab→Ab→Option Bool)(Bqj:Big El)(L:Nat):Big (Apc El L):=fun a0 a1 r h=>hF Tryz.func171 (Ck7 El Bqj L) L (fun kk=>eE (Ab2 El L a0 a1 (ho (By6 El L (Bj8 El L kk) a0 a1 L (false,0)) fun o5=>B8p El L kk a0 a1 o5))) h
def P8:Nat→Ab→Ab→Option Bool
 |0,_,_=>none
 |L+1,a0,a1=>Apc (P8 L) L a0 a1
theorem Bxa(L:Nat):Big (P8 L):=by
 induction L with
 |zero=>exact fun _ _ _ h=>(by cases h)
 |succ L ih=>
  have i171:=ih
  exact Cjg (P8 L) i171 L
def Cbp(L:Nat):Gk:=E2 B 171 Bs Bs (P8 L) (Bxa L)
def Ap0 [An A Bool](a0:Ac)(a1:Bn):A:=
 (jp (.cn a1.u_name
 (.lf true)
 (.lf (a0.Name.toList == (⟨#[]⟩:ByteArray).toList))) (fun b1=>
 (jp (.cn b1
 (.cn a1.u_of
 (.lf true)
 (.lf (a0.Of.toList == (⟨#[]⟩:ByteArray).toList)))
 (.lf false)) (fun b2=>
 (cn b2
 (cn a1.u_e
 (nq (cn a1.u_f
 (nq (jp (.cn a1.u_args
 (.lf true)
 (.lf ((a0.Args.length:Int) == 0))) (fun b3=>
 (cn b3
 (cn a1.u_dist
 (nq (jp (.cn a1.u_flag
 (.lf true)
 (.lf (!a0.Flag))) (fun b4=>
 (jp (.cn b4
 (.cn a1.u_body
 (.lf true)
 (.lf ((a0.Body.length:Int) == 0)))
 (.lf false)) (fun b5=>
 (jp (.cn b5
 (.cn a1.u_other
 (.lf true)
 (.lf ((a0.Else.length:Int) == 0)))
 (.lf false)) (fun b6=>
 (lf b6))))))))
 (bd (P6 L a0.Dist (⟨0,0,0,0,[],[]⟩:Bf)) fun r7=>
 (nq (jp (.cn r7
 (.cn a1.u_flag
 (.lf true)
 (.lf (!a0.Flag)))
 (.lf false)) (fun b8=>
 (jp (.cn b8
 (.cn a1.u_body
 (.lf true)
 (.lf ((a0.Body.length:Int) == 0)))
 (.lf false)) (fun b9=>
 (jp (.cn b9
 (.cn a1.u_other
 (.lf true)
 (.lf ((a0.Else.length:Int) == 0)))
 (.lf false)) (fun b10=>
 (lf b10))))))))))
 (nq (nq (nq (nq (lf false)))))))))
 (bd (P8 L (Ab.cp a0.F) (Ab.mk 0 (⟨#[]⟩:ByteArray) 0 [])) fun r11=>
 (nq (jp (.cn r11
 (.cn a1.u_args
 (.lf true)
 (.lf ((a0.Args.length:Int) == 0)))
 (.lf false)) (fun b12=>
 (cn b12
 (cn a1.u_dist
 (nq (jp (.cn a1.u_flag
 (.lf true)
 (.lf (!a0.Flag))) (fun b13=>
 (jp (.cn b13
 (.cn a1.u_body
 (.lf true)
 (.lf ((a0.Body.length:Int) == 0)))
 (.lf false)) (fun b14=>
 (jp (.cn b14
 (.cn a1.u_other
 (.lf true)
 (.lf ((a0.Else.length:Int) == 0)))
 (.lf false)) (fun b15=>
 (lf b15))))))))
 (bd (P6 L a0.Dist (⟨0,0,0,0,[],[]⟩:Bf)) fun r16=>
 (nq (jp (.cn r16
 (.cn a1.u_flag
 (.lf true)
 (.lf (!a0.Flag)))
 (.lf false)) (fun b17=>
 (jp (.cn b17
 (.cn a1.u_body
 (.lf true)
 (.lf ((a0.Body.length:Int) == 0)))
 (.lf false)) (fun b18=>
 (jp (.cn b18
 (.cn a1.u_other
 (.lf true)
 (.lf ((a0.Else.length:Int) == 0)))
 (.lf false)) (fun b19=>
 (lf b19))))))))))
 (nq (nq (nq (nq (lf false))))))))))))
 (bd (P8 L (Ab.cp a0.E) (Ab.mk 0 (⟨#[]⟩:ByteArray) 0 [])) fun r20=>
 (nq (cn r20
 (cn a1.u_f
 (nq (jp (.cn a1.u_args
 (.lf true)
 (.lf ((a0.Args.length:Int) == 0))) (fun b21=>
 (cn b21
 (cn a1.u_dist
 (nq (jp (.cn a1.u_flag
 (.lf true)
 (.lf (!a0.Flag))) (fun b22=>
 (jp (.cn b22
 (.cn a1.u_body
 (.lf true)
 (.lf ((a0.Body.length:Int) == 0)))
 (.lf false)) (fun b23=>
 (jp (.cn b23
 (.cn a1.u_other
 (.lf true)
 (.lf ((a0.Else.length:Int) == 0)))
 (.lf false)) (fun b24=>
 (lf b24))))))))
 (bd (P6 L a0.Dist (⟨0,0,0,0,[],[]⟩:Bf)) fun r25=>
 (nq (jp (.cn r25
 (.cn a1.u_flag
 (.lf true)
 (.lf (!a0.Flag)))
 (.lf false)) (fun b26=>
 (jp (.cn b26
 (.cn a1.u_body
 (.lf true)
 (.lf ((a0.Body.length:Int) == 0)))
 (.lf false)) (fun b27=>
 (jp (.cn b27
 (.cn a1.u_other
 (.lf true)
 (.lf ((a0.Else.length:Int) == 0)))
 (.lf false)) (fun b28=>
 (lf b28))))))))))
 (nq (nq (nq (nq (lf false)))))))))
 (bd (P8 L (Ab.cp a0.F) (Ab.mk 0 (⟨#[]⟩:ByteArray) 0 [])) fun r29=>
 (nq (jp (.cn r29
 (.cn a1.u_args
 (.lf true)
 (.lf ((a0.Args.length:Int) == 0)))
 (.lf false)) (fun b30=>
 (cn b30
 (cn a1.u_dist
 (nq (jp (.cn a1.u_flag
 (.lf true)
 (.lf (!a0.Flag))) (fun b31=>
 (jp (.cn b31
 (.cn a1.u_body
 (.lf true)
 (.lf ((a0.Body.length:Int) == 0)))
 (.lf false)) (fun b32=>
 (jp (.cn b32
 (.cn a1.u_other
 (.lf true)
 (.lf ((a0.Else.length:Int) == 0)))
 (.lf false)) (fun b33=>
 (lf b33))))))))
 (bd (P6 L a0.Dist (⟨0,0,0,0,[],[]⟩:Bf)) fun r34=>
 (nq (jp (.cn r34
 (.cn a1.u_flag
 (.lf true)
 (.lf (!a0.Flag)))
 (.lf false)) (fun b35=>
 (jp (.cn b35
 (.cn a1.u_body
 (.lf true)
 (.lf ((a0.Body.length:Int) == 0)))
 (.lf false)) (fun b36=>
 (jp (.cn b36
 (.cn a1.u_other
 (.lf true)
 (.lf ((a0.Else.length:Int) == 0)))
 (.lf false)) (fun b37=>
 (lf b37))))))))))
 (nq (nq (nq (nq (lf false)))))))))))
 (nq (nq (nq (nq (nq (nq (lf false)))))))))))
 (nq (nq (nq (nq (nq (nq (nq (lf false)))))))))))))
def Afm(a0:Ac)(a1:Bn):Option Bool:=Ap0 L a0 a1
def B2k:Gk:=E2 B 122 Hj Ay9 (Afm L) fun a0 a1 r h=>hF Tryz.func122 (oS [B2t L,Cbp L]) L (fun kk=>eE (Ap0 L a0 a1)) h
def Bvj(F:Ab→Option Int):Prop:=∀y0 r,F y0=some r→Ho Tryz.prog 59 [Bs.en y0] I r
noncomputable def c59:EC:=CC Tryz.f59
def O59(Hv:Ab→Option Int)(L:Nat):Bk:=(orc 59 (A1 I Bs Hv) (oL []))
theorem s59(Hv:Ab→Option Int)(B48:Bvj Hv)(L:Nat):Ep Tryz.prog (O59 Hv L):=(Gx (a1 _ B48) (oS []))
def Cka(kk:Ct):Int→Prop:=fun x=>kk (I x)
def Btx(a0:Ab)(v:Cw):St:=⟨[(0,.any),(1,.any),(2,I 0),(3,I v.1),(7,.lst false (.t38 a0.Kids)),(8,I (a0.Kids.length:Int)),(9,I v.2)],[(1,C5 a0)],0⟩
def Zd [An A Cx](Hv:Ab→Option Int)(L:Nat)(a0:Ab)(rec:Int→Int→A)(Ag:Int)(Br:Int):A:=
 (cn (decide (Br < (a0.Kids.length:Int)))
 (gq (0≤Br)
 (gq (Br < (a0.Kids.length:Int))
 (bd (Hv (Ab.cp (a0.Kids.getD (Int.toNat Br) default))) fun r1=>
 (rec (Da (Ag+r1)) (Da (Br+1))))))
 (lf (0,Ag,Br)))
def L7(Hv:Ab→Option Int)(L:Nat)(a0:Ab):Nat→Int→Int→Option Cx
 |0,_,_=>none
 |n+1,Ag,Br=>Zd Hv L a0 (L7 Hv L a0 n) Ag Br
theorem B64(Hv:Ab→Option Int)(L:Nat)(K:Be)(a0:Ab):LP (EV (O59 Hv L) L 9 c59.w.l.u.l.l) [0,1,2,3,7,8,9] [1] (Btx a0) [.exit 0] (fun n v=>L7 Hv L a0 n v.1 v.2) K:=lE (fun _=>rfl) fun n v ih=>eE (Zd Hv L a0 (fun Ag Br=>re (ih (Ag,Br))) v.1 v.2)
def Tx [An A Int](Hv:Ab→Option Int)(L:Nat)(o2:Nat×Cw):A:=
 (sl o2.1 [(lf o2.2.1)])
def Brw(Hv:Ab→Option Int)(L:Nat)(kk:Ct):Be:=(Ay 0 (Bl (EV (O59 Hv L) L 9 c59.w.r) (C8 Tryz.prog (RS Tryz.f59) kk)))
theorem Cha(Hv:Ab→Option Int)(L:Nat)(kk:Ct)(a0:Ab)(o2:Nat×Cw):kX [.exit 0] (Btx a0) (Brw Hv L kk) o2=ob (Tx Hv L o2) (Cka kk):=eE (Tx Hv L o2)
def Zv [An A Int](Hv:Ab→Option Int)(L:Nat)(a0:Ab)(nx1:A):A:=
 nx1
def Aum [An A Int](Hv:Ab→Option Int)(L:Nat)(a0:Ab):A:=Zv Hv L a0 (bd (L7 Hv L a0 L 1 0) fun o2=>Tx Hv L o2)
def Amv(Hv:Ab→Option Int)(L:Nat)(a0:Ab):Option Int:=Aum Hv L a0
theorem b59(Hv:Ab→Option Int)(B48:Bvj Hv)(L:Nat):Bvj (Amv Hv L):=fun a0 r h=>hF Tryz.func59 (s59 Hv B48 L) L (fun kk=>eE (Zv Hv L a0 (ho (B64 Hv L (Brw Hv L kk) a0 L (1,0)) fun o2=>Cha Hv L kk a0 o2))) h
def M9:Nat→Ab→Option Int
 |0,_=>none
 |L+1,a0=>Amv (M9 L) L a0
theorem B4u(L:Nat):Bvj (M9 L):=by
 induction L with
 |zero=>exact fun _ _ h=>(by cases h)
 |succ L ih=>
  have i59:=ih
  exact b59 (M9 L) i59 L
def X59(L:Nat):Gk:=E1 I 59 Bs (M9 L) (B4u L)
def Bvk(F:Ab→Option Int):Prop:=∀y0 r,F y0=some r→Ho Tryz.prog 60 [Bs.en y0] I r
noncomputable def c60:EC:=CC Tryz.f60
def O60(Hw:Ab→Option Int)(L:Nat):Bk:=(orc 60 (A1 I Bs Hw) (oL []))
theorem s60(Hw:Ab→Option Int)(B49:Bvk Hw)(L:Nat):Ep Tryz.prog (O60 Hw L):=(Gx (a1 _ B49) (oS []))
def Ckb(kk:Ct):Int→Prop:=fun x=>kk (I x)
def Bty(a0:Ab)(v:Cw):St:=⟨[(0,.any),(1,.any),(2,I 0),(3,I v.1),(7,.lst false (.t38 a0.Kids)),(8,I (a0.Kids.length:Int)),(9,I v.2)],[(1,C5 a0)],0⟩
def Zc [An A Cx](Hw:Ab→Option Int)(L:Nat)(a0:Ab)(rec:Int→Int→A)(Ag:Int)(Br:Int):A:=
 (cn (decide (Br < (a0.Kids.length:Int)))
 (gq (0≤Br)
 (gq (Br < (a0.Kids.length:Int))
 (bd (Hw (Ab.cp (a0.Kids.getD (Int.toNat Br) default))) fun r1=>
 (rec (if r1 > Ag then r1 else Ag) (Da (Br+1))))))
 (lf (0,Ag,Br)))
def L6(Hw:Ab→Option Int)(L:Nat)(a0:Ab):Nat→Int→Int→Option Cx
 |0,_,_=>none
 |n+1,Ag,Br=>Zc Hw L a0 (L6 Hw L a0 n) Ag Br
theorem B65(Hw:Ab→Option Int)(L:Nat)(K:Be)(a0:Ab):LP (EV (O60 Hw L) L 9 c60.w.l.u.l.l) [0,1,2,3,7,8,9] [1] (Bty a0) [.exit 0] (fun n v=>L6 Hw L a0 n v.1 v.2) K:=lE (fun _=>rfl) fun n v ih=>eE (Zc Hw L a0 (fun Ag Br=>re (ih (Ag,Br))) v.1 v.2)
def Tw [An A Int](Hw:Ab→Option Int)(L:Nat)(o2:Nat×Cw):A:=
 (sl o2.1 [(lf (Da (o2.2.1+1)))])
def Brx(Hw:Ab→Option Int)(L:Nat)(kk:Ct):Be:=(Ay 0 (Bl (EV (O60 Hw L) L 9 c60.w.r) (C8 Tryz.prog (RS Tryz.f60) kk)))
theorem Chb(Hw:Ab→Option Int)(L:Nat)(kk:Ct)(a0:Ab)(o2:Nat×Cw):kX [.exit 0] (Bty a0) (Brx Hw L kk) o2=ob (Tw Hw L o2) (Ckb kk):=eE (Tw Hw L o2)
def Zu [An A Int](Hw:Ab→Option Int)(L:Nat)(a0:Ab)(nx1:A):A:=
 nx1
def Aul [An A Int](Hw:Ab→Option Int)(L:Nat)(a0:Ab):A:=Zu Hw L a0 (bd (L6 Hw L a0 L 0 0) fun o2=>Tw Hw L o2)
def Amu(Hw:Ab→Option Int)(L:Nat)(a0:Ab):Option Int:=Aul Hw L a0
theorem b60(Hw:Ab→Option Int)(B49:Bvk Hw)(L:Nat):Bvk (Amu Hw L):=fun a0 r h=>hF Tryz.func60 (s60 Hw B49 L) L (fun kk=>eE (Zu Hw L a0 (ho (B65 Hw L (Brx Hw L kk) a0 L (0,0)) fun o2=>Chb Hw L kk a0 o2))) h
def M8:Nat→Ab→Option Int
 |0,_=>none
 |L+1,a0=>Amu (M8 L) L a0
theorem B4v(L:Nat):Bvk (M8 L):=by
 induction L with
 |zero=>exact fun _ _ h=>(by cases h)
 |succ L ih=>
  have i60:=ih
  exact b60 (M8 L) i60 L
def X60(L:Nat):Gk:=E1 I 60 Bs (M8 L) (B4v L)
def Apz [An A Int](L:Nat)(a0:Int):A:=
 (jp (.cn (a0 == 1)
 (.lf true)
 (.lf (a0 == 2))) (fun b1=>
 (jp (.cn b1
 (.lf true)
 (.lf (a0 == 3))) (fun b2=>
 (jp (.cn b2
 (.lf true)
 (.lf (a0 == 4))) (fun b3=>
 (cn b3
 (lf 0)
 (jp (.cn (decide (a0≥5))
 (.lf (decide (a0≤8)))
 (.lf false)) (fun b4=>
 (cn b4
 (lf 1)
 (jp (.cn (decide (a0≥9))
 (.lf (decide (a0≤21)))
 (.lf false)) (fun b5=>
 (cn b5
 (lf 2)
 (jp (.cn (decide (a0≥22))
 (.lf (decide (a0≤26)))
 (.lf false)) (fun b6=>
 (cn b6
 (lf 0)
 (lf (-1))))))))))))))))))
def m3(a0:Int):Option Int:=Apz L a0
def B2y:Gk:=E1 I 177 (cI .i64) (m3 L) fun a0 r h=>hF Tryz.func177 (oS []) L (fun kk=>eE (Apz L a0)) h
def u5 [An A Bool](a0:Bt)(a1:Int):A:=
 (cn (a1 == 3)
 (lf (!a0.u_code))
 (cn (a1 == 25)
 (cn (a1 == 25)
 (lf a0.u_code)
 (bd (m3 L a1) fun r1=>
 (lf (decide (r1≥0)))))
 (cn (a1 == 26)
 (lf a0.u_code)
 (bd (m3 L a1) fun r2=>
 (lf (decide (r2≥0)))))))
def Uo(a0:Bt)(a1:Int):Option Bool:=u5 L a0 a1
def Cbs:Gk:=E2 B 176 Qb (cI .i64) (Uo L) fun a0 a1 r h=>hF Tryz.func176 (oS [B2y L]) L (fun kk=>eE (u5 L a0 a1)) h
def Aki [An A Bool](L:Nat)(a0:Int):A:=
 (jp (.cn (decide (a0≥22))
 (.lf (decide (a0≤24)))
 (.lf false)) (fun b1=>
 (lf b1)))
def Yq(a0:Int):Option Bool:=Aki L a0
def B22:Gk:=E1 B 196 (cI .i64) (Yq L) fun a0 r h=>hF Tryz.func196 (oS []) L (fun kk=>eE (Aki L a0)) h
def u6 [An A Bool](a0:Bt)(a1:Int):A:=
 (jb (.cn (a1 == 3)
 (.lf true)
 (.bd (Yq L a1) fun r2=>
 (.cn r2
 (.lf (!a0.u_code))
 (.lf false)))) (fun b1=>
 (lf b1)))
def Lu(a0:Bt)(a1:Int):Option Bool:=u6 L a0 a1
def Cbt:Gk:=E2 B 178 Qb (cI .i64) (Lu L) fun a0 a1 r h=>hF Tryz.func178 (oS [B22 L]) L (fun kk=>eE (u6 L a0 a1)) h
def Yk [An A (Int×Int×Bool)](a0:Bt)(a1:Int):A:=
 (cn (a1 == 2)
 (lf (0,1,true))
 (cn (a1 == 25)
 (lf (0,15,true))
 (cn (a1 == 26)
 (lf (0,31,true))
 (bd (Yq L a1) fun r1=>
 (jp (.cn r1
 (.lf a0.u_code)
 (.lf false)) (fun b2=>
 (cn b2
 (lf (0,63,true))
 (lf (0,0,false)))))))))
def Ms(a0:Bt)(a1:Int):Option (Int×Int×Bool):=Yk L a0 a1
def Cbu:Gk:=E2 (fun(x:Int×Int×Bool)=> .tup [I x.1,I x.2.1,B x.2.2]) 179 Qb (cI .i64) (Ms L) fun a0 a1 r h=>hF Tryz.func179 (oS [B22 L]) L (fun kk=>eE (Yk L a0 a1)) h
def Acn [An A Int](a0:Bt)(a1:Ab):A:=
 (bd (Uo L a0 a1.Op) fun r1=>
 (cn (!r1)
 (lf 1)
 (bd (m3 L a1.Op) fun r2=>
 (cn ((a1.Kids.length:Int) != r2)
 (lf 1)
 (cn (!(a1.Name.toList == (⟨#[]⟩:ByteArray).toList))
 (bd (Lu L a0 a1.Op) fun r3=>
 (cn (!r3)
 (lf 1)
 (cn (a1.Op == 1)
 (bd (Ah3 L a1.N) fun r4=>
 (cn (!r4)
 (lf 2)
 (lf 0)))
 (bd (Ms L a0 a1.Op) fun r5=>
 (jp (.cn (!r5.2.2)
 (.lf (a1.N != 0))
 (.lf false)) (fun b6=>
 (cn b6
 (lf 1)
 (jp (.cn r5.2.2
 (.cn (decide (a1.N < r5.1))
 (.lf true)
 (.lf (decide (a1.N > r5.2.1))))
 (.lf false)) (fun b7=>
 (cn b7
 (lf 2)
 (bd (Lu L a0 a1.Op) fun r8=>
 (cn r8
 (bd (De L a1.Name) fun r9=>
 (lf r9))
 (lf 0)))))))))))))
 (cn (a1.Op == 1)
 (bd (Ah3 L a1.N) fun r10=>
 (cn (!r10)
 (lf 2)
 (lf 0)))
 (bd (Ms L a0 a1.Op) fun r11=>
 (jp (.cn (!r11.2.2)
 (.lf (a1.N != 0))
 (.lf false)) (fun b12=>
 (cn b12
 (lf 1)
 (jp (.cn r11.2.2
 (.cn (decide (a1.N < r11.1))
 (.lf true)
 (.lf (decide (a1.N > r11.2.1))))
 (.lf false)) (fun b13=>
 (cn b13
 (lf 2)
 (bd (Lu L a0 a1.Op) fun r14=>
 (cn r14
 (bd (De L a1.Name) fun r15=>
 (lf r15))
 (lf 0))))))))))))))))
def Wk(a0:Bt)(a1:Ab):Option Int:=Acn L a0 a1
def B2o:Gk:=E2 I 132 Qb Bs (Wk L) fun a0 a1 r h=>hF Tryz.func132 (oS [X39 L,Bvv L,Cbs L,B2y L,Cbt L,Cbu L]) L (fun kk=>eE (Acn L a0 a1)) h
def Bvl(F:Bt→Ab→Option Int):Prop:=∀y0 y1 r,F y0 y1=some r→Ho Tryz.prog 61 [Qb.en y0,Bs.en y1] I r
noncomputable def c61:EC:=CC Tryz.f61
def O61(Hx:Bt→Ab→Option Int)(L:Nat):Bk:=(orc 61 (A2 I Qb Bs Hx) (oL [B2o L]))
theorem s61(Hx:Bt→Ab→Option Int)(B5a:Bvl Hx)(L:Nat):Ep Tryz.prog (O61 Hx L):=(Gx (a2 _ B5a) (oS [B2o L]))
def Ckc(kk:Ct):Int→Prop:=fun x=>kk (I x)
def Btz(a1:Ab)(a0:Bt)(v:Cw):St:=⟨[(0,.any),(1,.any),(2,.loc 2 0),(3,.any),(4,I v.1),(5,.any),(16,.lst false (.t38 a1.Kids)),(17,I (a1.Kids.length:Int)),(18,I v.2)],[(2,[B a0.u_code]),(3,C5 a1)],0⟩
def Qc [An A Cx](Hx:Bt→Ab→Option Int)(L:Nat)(a1:Ab)(a0:Bt)(rec:Int→Int→A)(Ak:Int)(Ah:Int):A:=
 (cn (decide (Ah < (a1.Kids.length:Int)))
 (gq (0≤Ah)
 (gq (Ah < (a1.Kids.length:Int))
 (bd (Hx a0 (Ab.cp (a1.Kids.getD (Int.toNat Ah) default))) fun r2=>
 (cn (r2 != 0)
 (lf (0,r2,Ah))
 (rec Ak (Da (Ah+1)))))))
 (lf (1,Ak,Ah)))
def Gn(Hx:Bt→Ab→Option Int)(L:Nat)(a1:Ab)(a0:Bt):Nat→Int→Int→Option Cx
 |0,_,_=>none
 |n+1,Ak,Ah=>Qc Hx L a1 a0 (Gn Hx L a1 a0 n) Ak Ah
theorem B66(Hx:Bt→Ab→Option Int)(L:Nat)(K:Be)(a1:Ab)(a0:Bt):LP (EV (O61 Hx L) L 9 c61.w.l.u.l.l) [0,1,2,3,4,5,16,17,18] [2,3] (Btz a1 a0) [.ret,.exit 0] (fun n v=>Gn Hx L a1 a0 n v.1 v.2) K:=lE (fun _=>rfl) fun n v ih=>eE (Qc Hx L a1 a0 (fun Ak Ah=>re (ih (Ak,Ah))) v.1 v.2)
def Lr [An A Int](Hx:Bt→Ab→Option Int)(L:Nat)(o3:Nat×Cw):A:=
 (sl o3.1 [(lf o3.2.1),
 (lf 0)])
def Bry(Hx:Bt→Ab→Option Int)(L:Nat)(kk:Ct):Be:=(Ay 0 (Bl (EV (O61 Hx L) L 9 c61.w.r) (C8 Tryz.prog (RS Tryz.f61) kk)))
theorem Chc(Hx:Bt→Ab→Option Int)(L:Nat)(kk:Ct)(a1:Ab)(a0:Bt)(o3:Nat×Cw):kX [.ret,.exit 0] (Btz a1 a0) (Bry Hx L kk) o3=ob (Lr Hx L o3) (Ckc kk):=eE (Lr Hx L o3)
def Qs [An A Int](Hx:Bt→Ab→Option Int)(L:Nat)(a0:Bt)(a1:Ab)(nx1:A):A:=
 (bd (Wk L a0 (Ab.cp a1)) fun r1=>
 (cn (r1 != 0)
 (lf r1)
 nx1))
def Ajq [An A Int](Hx:Bt→Ab→Option Int)(L:Nat)(a0:Bt)(a1:Ab):A:=Qs Hx L a0 a1 (bd (Gn Hx L a1 a0 L 0 0) fun o3=>Lr Hx L o3)
def n7(Hx:Bt→Ab→Option Int)(L:Nat)(a0:Bt)(a1:Ab):Option Int:=Ajq Hx L a0 a1
theorem b61(Hx:Bt→Ab→Option Int)(B5a:Bvl Hx)(L:Nat):Bvl (n7 Hx L):=fun a0 a1 r h=>hF Tryz.func61 (s61 Hx B5a L) L (fun kk=>eE (Qs Hx L a0 a1 (ho (B66 Hx L (Bry Hx L kk) a1 a0 L (0,0)) fun o3=>Chc Hx L kk a1 a0 o3))) h
def Ga:Nat→Bt→Ab→Option Int
 |0,_,_=>none
 |L+1,a0,a1=>n7 (Ga L) L a0 a1
theorem B4w(L:Nat):Bvl (Ga L):=by
 induction L with
 |zero=>exact fun _ _ _ h=>(by cases h)
 |succ L ih=>
  have i61:=ih
  exact b61 (Ga L) i61 L
def X61(L:Nat):Gk:=E2 I 61 Qb Bs (Ga L) (B4w L)
def u4 [An A Int](a0:Bt)(a1:Ab):A:=
 (bd (M9 L (Ab.cp a1)) fun r1=>
 (cn (decide (r1 > 60))
 (lf 6)
 (bd (M8 L (Ab.cp a1)) fun r2=>
 (cn (decide (r2 > 12))
 (lf 11)
 (bd (Ga L a0 (Ab.cp a1)) fun r3=>
 (lf r3))))))
def Un(a0:Bt)(a1:Ab):Option Int:=u4 L a0 a1
def X30:Gk:=E2 I 30 Qb Bs (Un L) fun a0 a1 r h=>hF Tryz.func30 (oS [X59 L,X60 L,X61 L]) L (fun kk=>eE (u4 L a0 a1)) h
def Anc [An A Int](a0:Ab):A:=
 (bd (Un L (⟨false⟩:Bt) (Ab.cp a0)) fun r1=>
 (lf r1))
def P7(a0:Ab):Option Int:=Anc L a0
def X16:Gk:=E1 I 16 Bs (P7 L) fun a0 r h=>hF Tryz.func16 (oS [X30 L]) L (fun kk=>eE (Anc L a0)) h
noncomputable def Bni:EC:=CC Tryz.f123
def Bf5:Bk:=oL [X16 L,X39 L,B2v L]
def Bse:Int→Prop:=fun x=>kk (I x)
def Bl9(a1:Bn)(a0:Ac)(v:Cw):St:=⟨[(0,.any),(1,.any),(2,.loc 2 0),(3,.loc 3 0),(4,I v.1),(9,.any),(10,.any),(12,.any),(13,.any),(24,.lst true (.t199 [(⟨a1.u_name,a0.Name⟩:E9),(⟨a1.u_of,a0.Of⟩:E9)])),(25,I ([(⟨a1.u_name,a0.Name⟩:E9),(⟨a1.u_of,a0.Of⟩:E9)].length:Int)),(26,I v.2),(53,.any),(74,.any)],[(2,C7 a0),(3,Vj a1)],0⟩
def Agj [An A Cx](a1:Bn)(a0:Ac)(rec:Int→Int→A)(Ak:Int)(Ah:Int):A:=
 (cn (decide (Ah < ([(⟨a1.u_name,a0.Name⟩:E9),(⟨a1.u_of,a0.Of⟩:E9)].length:Int)))
 (gq (0≤Ah)
 (gq (Ah < (([(⟨a1.u_name,a0.Name⟩:E9),(⟨a1.u_of,a0.Of⟩:E9)].length:Nat):Int))
 (bd (De L (([(⟨a1.u_name,a0.Name⟩:E9),(⟨a1.u_of,a0.Of⟩:E9)].getD (Int.toNat Ah) default).u_name)) fun r1=>
 (jp (.cn (([(⟨a1.u_name,a0.Name⟩:E9),(⟨a1.u_of,a0.Of⟩:E9)].getD (Int.toNat Ah) default).u_is)
 (.lf (r1 != 0))
 (.lf false)) (fun b2=>
 (cn b2
 (lf (0,r1,Ah))
 (rec Ak (Da (Ah+1)))))))))
 (lf (1,Ak,Ah)))
def Mg(L:Nat)(a1:Bn)(a0:Ac):Nat→Int→Int→Option Cx
 |0,_,_=>none
 |n+1,Ak,Ah=>Agj L a1 a0 (Mg L a1 a0 n) Ak Ah
theorem Byt(a1:Bn)(a0:Ac):LP (EV (Bf5 L) L 9 Bni.u.l.u.l.l) [0,1,2,3,4,9,10,12,13,24,25,26,53,74] [2,3] (Bl9 a1 a0) [.ret,.exit 0] (fun n v=>Mg L a1 a0 n v.1 v.2) K:=lE (fun _=>rfl) fun n v ih=>eE (Agj L a1 a0 (fun Ak Ah=>re (ih (Ak,Ah))) v.1 v.2)
def Bma(a1:Bn)(a0:Ac)(v:Cw):St:=⟨[(0,.any),(1,.any),(2,.loc 2 0),(3,.loc 3 0),(4,I v.1),(6,.any),(7,.any),(12,.any),(13,.any),(26,.any),(51,.lst true (.t201 [(⟨a1.u_e,(Ab.cp a0.E)⟩:Nh),(⟨a1.u_f,(Ab.cp a0.F)⟩:Nh)])),(52,I ([(⟨a1.u_e,(Ab.cp a0.E)⟩:Nh),(⟨a1.u_f,(Ab.cp a0.F)⟩:Nh)].length:Int)),(53,I v.2),(74,.any)],[(2,C7 a0),(3,Vj a1)],0⟩
def Agk [An A Cx](a1:Bn)(a0:Ac)(rec:Int→Int→A)(B5:Int)(B2:Int):A:=
 (cn (decide (B2 < ([(⟨a1.u_e,(Ab.cp a0.E)⟩:Nh),(⟨a1.u_f,(Ab.cp a0.F)⟩:Nh)].length:Int)))
 (gq (0≤B2)
 (gq (B2 < (([(⟨a1.u_e,(Ab.cp a0.E)⟩:Nh),(⟨a1.u_f,(Ab.cp a0.F)⟩:Nh)].length:Nat):Int))
 (cn (!(([(⟨a1.u_e,(Ab.cp a0.E)⟩:Nh),(⟨a1.u_f,(Ab.cp a0.F)⟩:Nh)].getD (Int.toNat B2) default).u_is))
 (rec B5 (Da (B2+1)))
 (bd (P7 L (Ab.cp (([(⟨a1.u_e,(Ab.cp a0.E)⟩:Nh),(⟨a1.u_f,(Ab.cp a0.F)⟩:Nh)].getD (Int.toNat B2) default).u_e))) fun r4=>
 (cn (r4 != 0)
 (lf (0,r4,B2))
 (rec B5 (Da (B2+1))))))))
 (lf (1,B5,B2)))
def Mh(L:Nat)(a1:Bn)(a0:Ac):Nat→Int→Int→Option Cx
 |0,_,_=>none
 |n+1,B5,B2=>Agk L a1 a0 (Mh L a1 a0 n) B5 B2
theorem Byu(a1:Bn)(a0:Ac):LP (EV (Bf5 L) L 9 Bni.w.l.u.l.l) [0,1,2,3,4,6,7,12,13,26,51,52,53,74] [2,3] (Bma a1 a0) [.ret,.exit 2] (fun n v=>Mh L a1 a0 n v.1 v.2) K:=lE (fun _=>rfl) fun n v ih=>eE (Agk L a1 a0 (fun B5 B2=>re (ih (B5,B2))) v.1 v.2)
def Bmb(a0:Ac)(a1:Bn)(v:Cw):St:=⟨[(0,.any),(1,.any),(2,.loc 2 0),(3,.loc 3 0),(4,I v.1),(6,.any),(7,.any),(9,.any),(10,.any),(26,.any),(53,.any),(72,.lst false (.t38 a0.Args)),(73,I (a0.Args.length:Int)),(74,I v.2)],[(2,C7 a0),(3,Vj a1)],0⟩
def Zm [An A Cx](a0:Ac)(a1:Bn)(rec:Int→Int→A)(Gd:Int)(Ih:Int):A:=
 (cn (decide (Ih < (a0.Args.length:Int)))
 (gq (0≤Ih)
 (gq (Ih < (a0.Args.length:Int))
 (bd (P7 L (Ab.cp (a0.Args.getD (Int.toNat Ih) default))) fun r6=>
 (cn (r6 != 0)
 (lf (0,r6,Ih))
 (rec Gd (Da (Ih+1)))))))
 (lf (1,Gd,Ih)))
def Mi(L:Nat)(a0:Ac)(a1:Bn):Nat→Int→Int→Option Cx
 |0,_,_=>none
 |n+1,Gd,Ih=>Zm L a0 a1 (Mi L a0 a1 n) Gd Ih
theorem Byv(a0:Ac)(a1:Bn):LP (EV (Bf5 L) L 9 Bni.x.l.u.l.l) [0,1,2,3,4,6,7,9,10,26,53,72,73,74] [2,3] (Bmb a0 a1) [.ret,.exit 4] (fun n v=>Mi L a0 a1 n v.1 v.2) K:=lE (fun _=>rfl) fun n v ih=>eE (Zm L a0 a1 (fun Gd Ih=>re (ih (Gd,Ih))) v.1 v.2)
def Ua [An A Int](a1:Bn)(a0:Ac)(o7:Nat×Cw):A:=
 (sl o7.1 [(lf o7.2.1),
 (cn a1.u_dist
 (bd (P5 L a0.Dist) fun r8=>
 (lf r8))
 (lf 0))])
def Bjp:Be:=(Ay 4 (Bl (EV (Bf5 L) L 9 Bni.x.r) (C8 Tryz.prog (RS Tryz.f123) kk)))
theorem B76(a0:Ac)(a1:Bn)(o7:Nat×Cw):kX [.ret,.exit 4] (Bmb a0 a1) (Bjp L kk) o7=ob (Ua L a1 a0 o7) (Bse kk):=eE (Ua L a1 a0 o7)
def Z4 [An A Int](L:Nat)(a0:Ac)(a1:Bn)(o5:Nat×Cw)(nx3:Cx→A):A:=
 (sl o5.1 [(lf o5.2.1),
 (cn (decide ((a0.Args.length:Int) > 6))
 (lf 6)
 (nx3 o5))])
def Zr [An A Int](a0:Ac)(a1:Bn)(o5:Nat×Cw):A:=Z4 L a0 a1 o5 (fun o5=>bd (Mi L a0 a1 L o5.2.1 0) fun o7=>Ua L a1 a0 o7)
def Bjo:Be:=(Ay 2 (Bl (EV (Bf5 L) L 9 Bni.w.r) (C8 Tryz.prog (RS Tryz.f123) kk)))
theorem B75(a1:Bn)(a0:Ac)(o5:Nat×Cw):kX [.ret,.exit 2] (Bma a1 a0) (Bjo L kk) o5=ob (Zr L a0 a1 o5) (Bse kk):=eE (Z4 L a0 a1 o5 (fun o5=>ho (Byv L (Bjp L kk) a0 a1 L (o5.2.1,0)) fun o7=>B76 L kk a0 a1 o7))
def Z3 [An A Int](L:Nat)(a1:Bn)(a0:Ac)(o3:Nat×Cw)(nx2:Cx→A):A:=
 (sl o3.1 [(lf o3.2.1),
 (nx2 o3)])
def Zq [An A Int](a1:Bn)(a0:Ac)(o3:Nat×Cw):A:=Z3 L a1 a0 o3 (fun o3=>bd (Mh L a1 a0 L o3.2.1 0) fun o5=>Zr L a0 a1 o5)
def Bjn:Be:=(Ay 0 (Bl (EV (Bf5 L) L 9 Bni.u.r) (C8 Tryz.prog (RS Tryz.f123) kk)))
theorem B74(a1:Bn)(a0:Ac)(o3:Nat×Cw):kX [.ret,.exit 0] (Bl9 a1 a0) (Bjn L kk) o3=ob (Zq L a1 a0 o3) (Bse kk):=eE (Z3 L a1 a0 o3 (fun o3=>ho (Byu L (Bjo L kk) a1 a0 L (o3.2.1,0)) fun o5=>B75 L kk a1 a0 o5))
def Z2 [An A Int](L:Nat)(a0:Ac)(a1:Bn)(nx1:A):A:=
 nx1
def Auv [An A Int](a0:Ac)(a1:Bn):A:=Z2 L a0 a1 (bd (Mg L a1 a0 L 0 0) fun o3=>Zq L a1 a0 o3)
def s8(a0:Ac)(a1:Bn):Option Int:=Auv L a0 a1
def B2l:Gk:=E2 I 123 Hj Ay9 (s8 L) fun a0 a1 r h=>hF Tryz.func123 (C:=Bf5 L) (oS _) L (fun kk=>eE (Z2 L a0 a1 (ho (Byt L (Bjn L kk) a1 a0 L (0,0)) fun o3=>B74 L kk a1 a0 o3))) h
def Bvi(F:(List Ac)→Option Int):Prop:=∀y0 r,F y0=some r→Ho Tryz.prog 57 [Acb.en y0] I r
noncomputable def c57:EC:=CC Tryz.f57
def O57(Hd:(List Ac)→Option Int)(L:Nat):Bk:=(orc 57 (A1 I Acb Hd) (oL [B2j L,B2k L,B2l L]))
theorem s57(Hd:(List Ac)→Option Int)(B47:Bvi Hd)(L:Nat):Ep Tryz.prog (O57 Hd L):=(Gx (a1 _ B47) (oS [B2j L,B2k L,B2l L]))
def Cj9(kk:Ct):Int→Prop:=fun x=>kk (I x)
def Btw(a0:List Ac)(v:Cw):St:=⟨[(0,.any),(2,I v.1),(10,.lst false (.t69 a0)),(11,I (a0.length:Int)),(12,I v.2)],[],0⟩
def Zl [An A Cx](Hd:(List Ac)→Option Int)(L:Nat)(a0:List Ac)(rec:Int→Int→A)(Ak:Int)(Ah:Int):A:=
 (cn (decide (Ah < (a0.length:Int)))
 (gq (0≤Ah)
 (gq (Ah < (a0.length:Int))
 (bd (Afn L ((a0.getD (Int.toNat Ah) default).Op)) fun r1=>
 (jb (.cn (!r1.2)
 (.lf true)
 (.bd (Afm L (Ac.cp (a0.getD (Int.toNat Ah) default)) r1.1) fun r3=>
 (.lf (!r3)))) (fun b2=>
 (cn b2
 (lf (0,1,Ah))
 (bd (s8 L (Ac.cp (a0.getD (Int.toNat Ah) default)) r1.1) fun r4=>
 (cn (r4 != 0)
 (lf (0,r4,Ah))
 (bd (Hd ((a0.getD (Int.toNat Ah) default).Body)) fun r5=>
 (cn (r5 != 0)
 (lf (0,r5,Ah))
 (bd (Hd ((a0.getD (Int.toNat Ah) default).Else)) fun r6=>
 (cn (r6 != 0)
 (lf (0,r6,Ah))
 (rec Ak (Da (Ah+1)))))))))))))))
 (lf (1,Ak,Ah)))
def Mf(Hd:(List Ac)→Option Int)(L:Nat)(a0:List Ac):Nat→Int→Int→Option Cx
 |0,_,_=>none
 |n+1,Ak,Ah=>Zl Hd L a0 (Mf Hd L a0 n) Ak Ah
theorem B63(Hd:(List Ac)→Option Int)(L:Nat)(K:Be)(a0:List Ac):LP (EV (O57 Hd L) L 9 c57.u.l.u.l.l) [0,2,10,11,12] [] (Btw a0) [.ret,.exit 0] (fun n v=>Mf Hd L a0 n v.1 v.2) K:=lE (fun _=>rfl) fun n v ih=>eE (Zl Hd L a0 (fun Ak Ah=>re (ih (Ak,Ah))) v.1 v.2)
def T9 [An A Int](Hd:(List Ac)→Option Int)(L:Nat)(o7:Nat×Cw):A:=
 (sl o7.1 [(lf o7.2.1),
 (lf 0)])
def Brv(Hd:(List Ac)→Option Int)(L:Nat)(kk:Ct):Be:=(Ay 0 (Bl (EV (O57 Hd L) L 9 c57.u.r) (C8 Tryz.prog (RS Tryz.f57) kk)))
theorem Cg9(Hd:(List Ac)→Option Int)(L:Nat)(kk:Ct)(a0:List Ac)(o7:Nat×Cw):kX [.ret,.exit 0] (Btw a0) (Brv Hd L kk) o7=ob (T9 Hd L o7) (Cj9 kk):=eE (T9 Hd L o7)
def Z1 [An A Int](Hd:(List Ac)→Option Int)(L:Nat)(a0:List Ac)(nx1:A):A:=
 nx1
def Auu [An A Int](Hd:(List Ac)→Option Int)(L:Nat)(a0:List Ac):A:=Z1 Hd L a0 (bd (Mf Hd L a0 L 0 0) fun o7=>T9 Hd L o7)
def Amy(Hd:(List Ac)→Option Int)(L:Nat)(a0:List Ac):Option Int:=Auu Hd L a0
theorem b57(Hd:(List Ac)→Option Int)(B47:Bvi Hd)(L:Nat):Bvi (Amy Hd L):=fun a0 r h=>hF Tryz.func57 (s57 Hd B47 L) L (fun kk=>eE (Z1 Hd L a0 (ho (B63 Hd L (Brv Hd L kk) a0 L (0,0)) fun o7=>Cg9 Hd L kk a0 o7))) h
def Nc:Nat→(List Ac)→Option Int
 |0,_=>none
 |L+1,a0=>Amy (Nc L) L a0
theorem B4t(L:Nat):Bvi (Nc L):=by
 induction L with
 |zero=>exact fun _ _ h=>(by cases h)
 |succ L ih=>
  have i57:=ih
  exact b57 (Nc L) i57 L
def X57(L:Nat):Gk:=E1 I 57 Acb (Nc L) (B4t L)
def Ang [An A Int](a0:List Ac):A:=
 (bd (Na L a0) fun r1=>
 (cn (decide (r1 > 200))
 (lf 6)
 (bd (Nb L a0) fun r2=>
 (cn (decide (r2 > 12))
 (lf 11)
 (bd (Nc L a0) fun r3=>
 (lf r3))))))
def s7(a0:List Ac):Option Int:=Ang L a0
def X28:Gk:=E1 I 28 Acb (s7 L) fun a0 r h=>hF Tryz.func28 (oS [X55 L,X56 L,X57 L]) L (fun kk=>eE (Ang L a0)) h
noncomputable def c97:EC:=CC Tryz.f97
def O97:Bk:=oL [X28 L,X39 L,Bvt L,Cbg L]
def Ckh:Int→Prop:=fun x=>kk (I x)
def Bpd(p1_0:ByteArray)(p1_1:Ai)(p1_2:Ao)(p1_3:List ByteArray)(p1_4:List Bool)(k:Bx):Cs→Prop:=fun o=>k (I o.1) [(1,B3 p1_1),(5,Nm p1_2),(21,[.mapO false false (.t9 o.2.1) (.t4 o.2.2)])]
def Ail [An A Cs](p1_0:ByteArray)(p1_1:Ai)(p1_2:Ao)(p1_3:List ByteArray)(p1_4:List Bool):A:=
 (bd (De L p1_0) fun r3=>
 (cn (r3 != 0)
 (lf (r3,p1_3,p1_4))
 (fq (p1_3.findIdx? fun b=>p1_0 == b) (fun i4=>
 (cn (p1_4.getD i4 default)
 (lf (4,p1_3,p1_4))
 (fq (p1_3.findIdx? fun b=>p1_0 == b) (fun i5=>
 (lf (0,p1_3,(p1_4.set i5 true))))
 (lf (0,(p1_3++ [p1_0]),(p1_4++ [true]))))))
 (fq (p1_3.findIdx? fun b=>p1_0 == b) (fun i6=>
 (lf (0,p1_3,(p1_4.set i6 true))))
 (lf (0,(p1_3++ [p1_0]),(p1_4++ [true])))))))
def J5(p1_0:ByteArray)(p1_1:Ai)(p1_2:Ao)(p1_3:List ByteArray)(p1_4:List Bool):Option Cs:=Ail L p1_0 p1_1 p1_2 p1_3 p1_4
theorem B5p(p1_0:ByteArray)(p1_1:Ai)(p1_2:Ao)(p1_3:List ByteArray)(p1_4:List Bool):YO (O97 L) L 9 43 [.mp 21,S p1_0] [(1,B3 p1_1),(5,Nm p1_2),(21,[.mapO false false (.t9 p1_3) (.t4 p1_4)])] k=ob (J5 L p1_0 p1_1 p1_2 p1_3 p1_4) (Bpd p1_0 p1_1 p1_2 p1_3 p1_4 k):=(Dc _ _ _ jn4 _ _ _ _ _ _ _).trans (eE (Ail L p1_0 p1_1 p1_2 p1_3 p1_4))
def Bht(r2:List Ao)(a0:Ai)(v:Tu4):St:=⟨[(0,.any),(1,.loc 1 0),(2,I v.1),(3,.mp 21),(27,.lst false (.t55 r2)),(28,I (r2.length:Int)),(29,I v.2.1)],[(1,B3 a0),(21,[.mapO false false (.t9 v.2.2.1) (.t4 v.2.2.2)])],0⟩
def Ow [An A Sz](Ah:Int)(r2:List Ao)(Ak:Int)(rec:Int→Int→List ByteArray→List Bool→A)(o7:Cs):A:=
 (cn (o7.1 != 0)
 (lf (0,o7.1,Ah,o7.2.1,o7.2.2))
 (bd (Ks L ((r2.getD (Int.toNat Ah) default).Type_)) fun r8=>
 (cn (!r8)
 (lf (0,1,Ah,o7.2.1,o7.2.2))
 (rec Ak (Da (Ah+1)) o7.2.1 o7.2.2))))
def Tq [An A Sz](L:Nat)(r2:List Ao)(a0:Ai)(rec:Int→Int→List ByteArray→List Bool→A)(Ak:Int)(Ah:Int)(Dp:List ByteArray)(Dq:List Bool)(nx1:Int→(List ByteArray)→(List Bool)→Int→A):A:=
 (cn (decide (Ah < (r2.length:Int)))
 (gq (0≤Ah)
 (gq (Ah < (r2.length:Int))
 (nx1 Ah Dp Dq Ak)))
 (lf (1,Ak,Ah,Dp,Dq)))
def f7 [An A Sz](r2:List Ao)(a0:Ai)(rec:Int→Int→List ByteArray→List Bool→A)(Ak:Int)(Ah:Int)(Dp:List ByteArray)(Dq:List Bool):A:=Tq L r2 a0 rec Ak Ah Dp Dq (fun Ah Dp Dq Ak=>bd (J5 L ((r2.getD (Int.toNat Ah) default).Name) a0 (r2.getD (Int.toNat Ah) default) Dp Dq) fun o7=>Ow L Ah r2 Ak rec o7)
def Gp(L:Nat)(r2:List Ao)(a0:Ai):Nat→Int→Int→List ByteArray→List Bool→Option Sz
 |0,_,_,_,_=>none
 |n+1,Ak,Ah,Dp,Dq=>f7 L r2 a0 (Gp L r2 a0 n) Ak Ah Dp Dq
def Bpa(r2:List Ao)(a0:Ai):Prop:=LI (EV (O97 L) L 9 c97.w.u.l.u.l.l) [0,1,2,3,27,28,29] [1,21] (Bht r2 a0) [.ret,.exit 0] (fun n v=>Gp L r2 a0 n v.1 v.2.1 v.2.2.1 v.2.2.2) K n
def Bsa(r2:List Ao)(Ah:Int)(Ak:Int)(a0:Ai)(Dp:List ByteArray)(Dq:List Bool):Bx:=(Cm Tryz.prog (O97 L) (EI (O97 L) L 9) 1 (List.drop 4 c97.w.u.l.u.l.l.w.l.l.u.l.l.ops) ⟨[(35,S (r2.getD (Int.toNat Ah) default).Name),(34,.loc 5 0),(33,.mp 21),(1,.loc 1 0),(2,I Ak),(3,.mp 21),(5,.loc 5 0),(27,.lst false (.t55 r2)),(28,I (r2.length:Int)),(29,I Ah),(30,B (decide (Ah < (r2.length:Int)))),(31,.ref (Nm (r2.getD (Int.toNat Ah) default))),(32,.agg (Nm (r2.getD (Int.toNat Ah) default)))],[(1,B3 a0),(5,(Nm (r2.getD (Int.toNat Ah) default))),(21,[.mapO false false (.t9 Dp) (.t4 Dq)])],0⟩ (some 36) (fun st9=>(Bl (EV (O97 L) L 9 c97.w.u.l.u.l.l.w.l.l.u.l.r) (Bl (EV (O97 L) L 9 c97.w.u.l.u.l.l.w.l.l.u.r) (Ay 1 (Bl (EV (O97 L) L 9 c97.w.u.l.u.l.l.w.r) (I7 (Ly (EV (O97 L) L 9 c97.w.u.l.u.l.l) [0,1,2,3,27,28,29] [1,21] n) [0,1,2,3,27,28,29] [1,21] K))))) .normal st9))
theorem Cho(r2:List Ao)(Ah:Int)(a0:Ai)(Dp:List ByteArray)(Dq:List Bool)(Ak:Int)(ih:Bpa L n K r2 a0)(o7:Cs):Bpd ((r2.getD (Int.toNat Ah) default).Name) a0 (r2.getD (Int.toNat Ah) default) Dp Dq (Bsa L n K r2 Ah Ak a0 Dp Dq) o7=ob (Ow L Ah r2 Ak (Gp L r2 a0 n) o7) (kX [.ret,.exit 0] (Bht r2 a0) K):=eE (Ow L Ah r2 Ak (fun Ak Ah Dp Dq=>re (ih (Ak,Ah,Dp,Dq))) o7)
theorem B7g(r2:List Ao)(a0:Ai):∀n,Bpa L n K r2 a0:=lE (fun _=>rfl) fun n v ih=>eE (Tq L r2 a0 (fun Ak Ah Dp Dq=>re (ih (Ak,Ah,Dp,Dq))) v.1 v.2.1 v.2.2.1 v.2.2.2 (fun Ah Dp Dq Ak=>ho (B5p L (Bsa L n K r2 Ah Ak a0 Dp Dq) ((r2.getD (Int.toNat Ah) default).Name) a0 (r2.getD (Int.toNat Ah) default) Dp Dq) fun o7=>Cho L n K r2 Ah a0 Dp Dq Ak ih o7))
def Ox [An A Int](a0:Ai)(o9:Nat×Tu4):A:=
 (sl o9.1 [(lf o9.2.1),
 (bd (s7 L a0.Body) fun r10=>
 (lf r10))])
def Bsb:Be:=(Ay 0 (Bl (EV (O97 L) L 9 c97.w.u.r) (C8 Tryz.prog (RS Tryz.f97) kk)))
theorem Chp(r2:List Ao)(a0:Ai)(o9:Nat×Tu4):kX [.ret,.exit 0] (Bht r2 a0) (Bsb L kk) o9=ob (Ox L a0 o9) (Ckh kk):=eE (Ox L a0 o9)
def Tr [An A Int](a0:Ai)(nx2:(List Ao)→A):A:=
 (jp (.cn (decide ((a0.Params.length:Int) > 6))
 (.lf true)
 (.lf (decide ((Da ((a0.Params.length:Int)+(a0.Locals.length:Int))) > 16)))) (fun b1=>
 (cn b1
 (lf 6)
 (bd (Jy L [a0.Params,a0.Locals]) fun r2=>
 (nx2 r2)))))
def Aok [An A Int](a0:Ai):A:=Tr L a0 (fun r2=>bd (Gp L r2 a0 L 0 0 [] []) fun o9=>Ox L a0 o9)
def Y3(a0:Ai):Option Int:=Aok L a0
def X97:Gk:=E1 I 97 w3 (Y3 L) fun a0 r h=>hF Tryz.func97 (C:=O97 L) (oS _) L (fun kk=>eE (Tr L a0 (fun r2=>ho (B7g L (Bsb L kk) r2 a0 L (0,0,[],[])) fun o9=>Chp L kk r2 a0 o9))) h
noncomputable def Cdg:EC:=CC Tryz.f174
noncomputable def Cc4:EC:=CC Tryz.f130
def Bf6(L:Nat):Bk:=oL []
def Cel:Int→Prop:=fun x=>kk (I x)
def Bmf(p1_0:List Ai)(p1_1:Aa)(p1_2:ByteArray)(v:Cw):St:=⟨[(0,.lst false (.t60 p1_0)),(1,.clo 175 0 [.loc 3 0]),(4,I v.1),(7,I (p1_0.length:Int)),(8,I v.2)],[(2,Ae p1_1),(3,[S p1_2])],4⟩
def Tf [An A Cx](L:Nat)(p1_0:List Ai)(p1_1:Aa)(p1_2:ByteArray)(rec:Int→Int→A)(Ag:Int)(Ah:Int):A:=
 (cn (decide (Ah < (p1_0.length:Int)))
 (gq (0≤Ah)
 (gq (Ah < (p1_0.length:Int))
 (cn (((p1_0.getD (Int.toNat Ah) default).Name).toList == p1_2.toList)
 (lf (0,Ah,Ah))
 (rec Ag (Da (Ah+1))))))
 (lf (1,Ag,Ah)))
def Ic(L:Nat)(p1_0:List Ai)(p1_1:Aa)(p1_2:ByteArray):Nat→Int→Int→Option Cx
 |0,_,_=>none
 |n+1,Ag,Ah=>Tf L p1_0 p1_1 p1_2 (Ic L p1_0 p1_1 p1_2 n) Ag Ah
theorem Byz(p1_0:List Ai)(p1_1:Aa)(p1_2:ByteArray):LP (EV (Bf6 L) L 8 Cdg.u.l.u.l.l) [0,1,4,7,8] [2,3] (Bmf p1_0 p1_1 p1_2) [.ret,.exit 0] (fun n v=>Ic L p1_0 p1_1 p1_2 n v.1 v.2) K:=lE (fun _=>rfl) fun n v ih=>eE (Tf L p1_0 p1_1 p1_2 (fun Ag Ah=>re (ih (Ag,Ah))) v.1 v.2)
def A8u(p1_0:List Ai)(p1_1:Aa)(p1_2:ByteArray)(k:Bx):Int→Prop:=fun o=>k (I o) [(2,Ae p1_1),(3,[S p1_2])]
def Tj [An A Int](L:Nat)(o1:Nat×Cw):A:=
 (sl o1.1 [(lf o1.2.1),
 (lf (-1))])
def Bjt:Be:=(Ay 0 (Bl (EV (Bf6 L) L 8 Cdg.u.r) (E5 Tryz.prog (RS Tryz.f174) k)))
theorem B8a(p1_0:List Ai)(p1_1:Aa)(p1_2:ByteArray)(o1:Nat×Cw):kX [.ret,.exit 0] (Bmf p1_0 p1_1 p1_2) (Bjt L k) o1=ob (Tj L o1) (A8u p1_0 p1_1 p1_2 k):=eE (Tj L o1)
def j6 [An A Int](L:Nat)(p1_0:List Ai)(p1_1:Aa)(p1_2:ByteArray)(nx2:A):A:=
 nx2
def Aik [An A Int](p1_0:List Ai)(p1_1:Aa)(p1_2:ByteArray):A:=j6 L p1_0 p1_1 p1_2 (bd (Ic L p1_0 p1_1 p1_2 L 0 0) fun o1=>Tj L o1)
def Te(p1_0:List Ai)(p1_1:Aa)(p1_2:ByteArray):Option Int:=Aik L p1_0 p1_1 p1_2
theorem Bxf(p1_0:List Ai)(p1_1:Aa)(p1_2:ByteArray):YO (Bf6 L) L 9 174 [.lst false (.t60 p1_0),.clo 175 0 [.loc 3 0]] [(2,Ae p1_1),(3,[S p1_2])] k=ob (Te L p1_0 p1_1 p1_2) (A8u p1_0 p1_1 p1_2 k):=(Dc _ _ _ jn4 _ _ _ _ _ _ _).trans (eE (j6 L p1_0 p1_1 p1_2 (ho (Byz L (Bjt L k) p1_0 p1_1 p1_2 L (0,0)) fun o1=>B8a L k p1_0 p1_1 p1_2 o1)))
def Ov [An A Int](L:Nat)(o2:Int):A:=
 (lf o2)
def Bju(a0:Aa)(a1:ByteArray):Bx:=(Cm Tryz.prog (Bf6 L) (EI (Bf6 L) L 9) 1 (List.drop 4 Cc4.u.l.ops) ⟨[(7,.clo 175 0 [.loc 3 0]),(6,.lst false (.t60 a0.Routines)),(5,.loc 2 10),(2,.loc 2 0),(3,.loc 3 0),(4,I 0)],[(2,Ae a0),(3,[S a1])],0⟩ (some 8) (fun st9=>(Bl (EV (Bf6 L) L 9 Cc4.u.r) (C8 Tryz.prog (RS Tryz.f130) kk)) .normal st9))
theorem B8b(a0:Aa)(a1:ByteArray)(o2:Int):A8u a0.Routines a0 a1 (Bju L kk a0 a1) o2=ob (Ov L o2) (Cel kk):=eE (Ov L o2)
def Tp [An A Int](L:Nat)(a0:Aa)(a1:ByteArray)(nx3:A):A:=
 nx3
def Aoj [An A Int](a0:Aa)(a1:ByteArray):A:=Tp L a0 a1 (bd (Te L a0.Routines a0 a1) fun o2=>Ov L o2)
def Fv(a0:Aa)(a1:ByteArray):Option Int:=Aoj L a0 a1
def Bm7:Gk:=E2 I 130 C0 cS (Fv L) fun a0 a1 r h=>hF Tryz.func130 (C:=Bf6 L) (oS _) L (fun kk=>eE (Tp L a0 a1 (ho (Bxf L (Bju L kk a0 a1) a0.Routines a0 a1) fun o2=>B8b L kk a0 a1 o2))) h
noncomputable def Cct:EC:=CC Tryz.f101
def B1v:Bk:=oL [X80 L,Bm7 L,Bvu L]
def Cd9:Int→Prop:=fun x=>kk (I x)
def Blv(a0:Aa)(r1:Int)(a1:Bh)(v:Cw):St:=⟨[(0,.any),(1,.any),(2,.any),(3,.loc 3 0),(4,I v.1),(5,.any),(6,.lst false (.t55 ((a0.Routines.getD (Int.toNat r1) default).Params))),(28,.lst false (.t3 a1.Args)),(29,I (a1.Args.length:Int)),(30,I v.2)],[(2,Ae a0),(3,Nn a1)],0⟩
def W1 [An A Cx](a0:Aa)(r1:Int)(a1:Bh)(rec:Int→Int→A)(Ak:Int)(Br:Int):A:=
 (cn (decide (Br < (a1.Args.length:Int)))
 (gq (0≤Br)
 (gq (Br < (a1.Args.length:Int))
 (gq (0≤Br)
 (gq (Br < ((((a0.Routines.getD (Int.toNat r1) default).Params).length:Nat):Int))
 (bd (S8 L ((((a0.Routines.getD (Int.toNat r1) default).Params).getD (Int.toNat Br) default).Type_) (a1.Args.getD (Int.toNat Br) default)) fun r2=>
 (cn (!r2)
 (lf (0,2,Br))
 (rec Ak (Da (Br+1)))))))))
 (lf (1,Ak,Br)))
def Kd(L:Nat)(a0:Aa)(r1:Int)(a1:Bh):Nat→Int→Int→Option Cx
 |0,_,_=>none
 |n+1,Ak,Br=>W1 L a0 r1 a1 (Kd L a0 r1 a1 n) Ak Br
theorem Bye(a0:Aa)(r1:Int)(a1:Bh):LP (EV (B1v L) L 9 Cct.x.u.l.u.l.l) [0,1,2,3,4,5,6,28,29,30] [2,3] (Blv a0 r1 a1) [.ret,.exit 0] (fun n v=>Kd L a0 r1 a1 n v.1 v.2) K:=lE (fun _=>rfl) fun n v ih=>eE (W1 L a0 r1 a1 (fun Ak Br=>re (ih (Ak,Br))) v.1 v.2)
def Sq [An A Int](a1:Bh)(o3:Nat×Cw):A:=
 (sl o3.1 [(lf o3.2.1),
 (bd (Bi L a1.At 0 1000000000) fun r4=>
 (jb (.cn (!r4)
 (.lf true)
 (.bd (Bi L a1.Every 0 1000000000) fun r6=>
 (.lf (!r6)))) (fun b5=>
 (jb (.cn b5
 (.lf true)
 (.bd (Bi L a1.Until 0 1000000000) fun r8=>
 (.lf (!r8)))) (fun b7=>
 (jp (.cn b7
 (.lf true)
 (.cn (a1.Every == 0)
 (.lf (a1.Until != 0))
 (.lf false))) (fun b9=>
 (cn b9
 (lf 2)
 (lf 0)))))))))])
def Bi9:Be:=(Ay 0 (Bl (EV (B1v L) L 9 Cct.x.u.r) (C8 Tryz.prog (RS Tryz.f101) kk)))
theorem B7q(a0:Aa)(r1:Int)(a1:Bh)(o3:Nat×Cw):kX [.ret,.exit 0] (Blv a0 r1 a1) (Bi9 L kk) o3=ob (Sq L a1 o3) (Cd9 kk):=eE (Sq L a1 o3)
def X4 [An A Int](a0:Aa)(a1:Bh)(nx1:Int→A):A:=
 (bd (Fv L a0 a1.Routine) fun r1=>
 (cn (decide (r1 < 0))
 (lf 5)
 (gq (0≤r1)
 (gq (r1 < (a0.Routines.length:Int))
 (cn ((a1.Args.length:Int) != (((a0.Routines.getD (Int.toNat r1) default).Params).length:Int))
 (lf 8)
 (nx1 r1))))))
def Ash [An A Int](a0:Aa)(a1:Bh):A:=X4 L a0 a1 (fun r1=>bd (Kd L a0 r1 a1 L 0 0) fun o3=>Sq L a1 o3)
def Ud(a0:Aa)(a1:Bh):Option Int:=Ash L a0 a1
def Ca3:Gk:=E2 I 101 C0 Au1 (Ud L) fun a0 a1 r h=>hF Tryz.func101 (C:=B1v L) (oS _) L (fun kk=>eE (X4 L a0 a1 (fun r1=>ho (Bye L (Bi9 L kk) a0 r1 a1 L (0,0)) fun o3=>B7q L kk a0 r1 a1 o3))) h
end Go.Proofs.YtogleahbpobaiaaGreat.Ev
