import Derived.Test.YtmimkinjcfekmaaGreatG0
import Derived.Test.YtmimkinjcfekmaaGreatNc
namespace Go.Proofs.YtmimkinjcfekmaaGreat.Ev
open Go An
set_option maxRecDepth 100000
set_option maxHeartbeats 4000000
set_option linter.unusedVariables false
set_option linter.unusedSimpArgs false
set_option linter.unnecessarySimpa false
noncomputable section
variable {A:Type} (L n:Nat) (kk:Mw) (K:D2) (k:Mh)
def Mz [An A Bool](L:Nat)(a0:Ae):A:=
 (jp (.cn (decide ((a0.Params.length:Int)≤40))
 (.lf (decide ((a0.Locals.length:Int)≤20)))
 (.lf false)) (fun b1=>
 (jp (.cn b1
 (.lf (decide ((Mu ((Mu ((Mu ((Mu ((Mu ((Mu ((Mu ((Mu ((Mu ((a0.Site.Vars.length:Int)+(a0.Site.Resources.length:Int)))+(a0.Site.Stores.length:Int)))+(a0.Site.Belts.length:Int)))+(a0.Site.Queues.length:Int)))+(a0.Site.Streams.length:Int)))+(a0.Site.Tallies.length:Int)))+(a0.Site.Levels.length:Int)))+(a0.Site.Counts.length:Int)))+(a0.Site.Routines.length:Int)))≤80)))
 (.lf false)) (fun b2=>
 (lf b2)))))
def Kq(a0:Ae):Option Bool:=Mz L a0
def X4:Oe:=E1 B 4 Iy (Kq L) fun a0 r h=>hF Tryz.func4 (oS []) L (fun kk=>eE (Mz L a0)) h
def c12:=CC Tryz.f12
def O12(L:Nat):Av:=oL []
def Akh:(Int×Bool)→Prop:=fun x=>kk ((fun(x:Int×Bool)=> .tup [I x.1,B x.2]) x)
def Ada(a0:List Ai)(a1:ByteArray)(v:Int×Bool×Int):St:=⟨[(0,lv (.t41 a0)),(1,S a1),(4,I v.1),(5,B v.2.1),(6,I v.2.2)],[],0⟩
def Dm [An A (Nat×Int×Bool×Int)](L:Nat)(a0:List Ai)(a1:ByteArray)(rec:Int→Bool→Int→A)(Bm:Int)(Bn:Bool)(D1:Int):A:=
 (cn (decide (D1≥0))
 (gi D1 a0
 (cn (((a0.getD (Int.toNat D1) default).Name).toList == a1.toList)
 (gi D1 a0
 (lf (0,(((a0.getD (Int.toNat D1) default).Type_),true,D1))))
 (rec Bm Bn (Mu (D1 - 1)))))
 (lf (1,Bm,Bn,D1)))
def B2(L:Nat)(a0:List Ai)(a1:ByteArray):Nat→Int→Bool→Int→Option (Nat×Int×Bool×Int)
 |0,_,_,_=>none
 |n+1,Bm,Bn,D1=>Dm L a0 a1 (B2 L a0 a1 n) Bm Bn D1
theorem Ag6(a0:List Ai)(a1:ByteArray):LP (EV (O12 L) L 9 c12.u.l.u.l.l) [0,1,4,5,6] [] (Ada a0 a1) [.ret,.exit 0] (fun n v=>B2 L a0 a1 n v.1 v.2.1 v.2.2) K:=lE (fun _=>rfl) fun n v ih=>eE (Dm L a0 a1 (fun Bm Bn D1=>re (ih (Bm,Bn,D1))) v.1 v.2.1 v.2.2)
def Dp [An A (Int×Bool)](L:Nat)(o1:Nat×Int×Bool×Int):A:=
 (sl o1.1 [(lf (o1.2.1,o1.2.2.1)),
 (lf (0,false))])
def Ab0:D2:=(B7 0 (Hk (EV (O12 L) L 9 c12.u.r) (Kj Tryz.prog (RS Tryz.f12) kk)))
theorem Ais(a0:List Ai)(a1:ByteArray)(o1:Nat×Int×Bool×Int):kX [.ret,.exit 0] (Ada a0 a1) (Ab0 L kk) o1=ob (Dp L o1) (Akh kk):=eE (Dp L o1)
def M4 [An A (Int×Bool)](a0:List Ai)(a1:ByteArray):A:=(bd (B2 L a0 a1 L 0 false (Mu ((a0.length:Int) - 1))) fun o1=>Dp L o1)
def H6(a0:List Ai)(a1:ByteArray):Option (Int×Bool):=M4 L a0 a1
def X12:Oe:=E2 (fun(x:Int×Bool)=> .tup [I x.1,B x.2]) 12 Akd cS (H6 L) fun a0 a1 r h=>hF Tryz.func12 (C:=O12 L) (oS _) L (fun kk=>eE ((ho (Ag6 L (Ab0 L kk) a0 a1 L (0,false,(Mu ((a0.length:Int) - 1)))) fun o1=>Ais L kk a0 a1 o1))) h
def c6:=CC Tryz.f6
def O6:Av:=oL [X12 L]
def kq6:(Int×Bool)→Prop:=fun x=>kk ((fun(x:Int×Bool)=> .tup [I x.1,B x.2]) x)
def Af6(a1:ByteArray)(a0:Ae)(v:Int×Bool×Int):St:=⟨[(0,.any),(1,S a1),(2,.loc 2 0),(4,I v.1),(5,B v.2.1),(6,.any),(7,.any),(11,.any),(23,lv (.t52 a0.Site.Vars)),(24,I (a0.Site.Vars.length:Int)),(25,I v.2.2),(39,.any)],[(2,(Ht a0))],0⟩
def Ga [An A (Nat×Int×Bool×Int)](L:Nat)(a1:ByteArray)(a0:Ae)(rec:Int→Bool→Int→A)(Aq:Int)(Bm:Bool)(Lp:Int):A:=
 (lw Lp a0.Site.Vars
 (cn (((a0.Site.Vars.getD (Int.toNat Lp) default).Name).toList == a1.toList)
 (lf (0,(((a0.Site.Vars.getD (Int.toNat Lp) default).Type_),true,Lp)))
 (rec Aq Bm (Mu (Lp+1))))
 (lf (1,Aq,Bm,Lp)))
def Cf(L:Nat)(a1:ByteArray)(a0:Ae):Nat→Int→Bool→Int→Option (Nat×Int×Bool×Int)
 |0,_,_,_=>none
 |n+1,Aq,Bm,Lp=>Ga L a1 a0 (Cf L a1 a0 n) Aq Bm Lp
theorem Aih(a1:ByteArray)(a0:Ae):LP (EV (O6 L) L 9 c6.w.l.u.l.l) [0,1,2,4,5,6,7,11,23,24,25,39] [2] (Af6 a1 a0) [.ret,.exit 0] (fun n v=>Cf L a1 a0 n v.1 v.2.1 v.2.2) K:=lE (fun _=>rfl) fun n v ih=>eE (Ga L a1 a0 (fun Aq Bm Lp=>re (ih (Aq,Bm,Lp))) v.1 v.2.1 v.2.2)
def Af7(a1:ByteArray)(a0:Ae)(v:Int×Bool×Int):St:=⟨[(0,.any),(1,S a1),(2,.any),(4,I v.1),(5,B v.2.1),(6,.any),(7,.any),(9,.any),(25,.any),(37,lv (.t52 a0.Params)),(38,I (a0.Params.length:Int)),(39,I v.2.2)],[(2,(Ht a0))],0⟩
def Gb [An A (Nat×Int×Bool×Int)](L:Nat)(a1:ByteArray)(a0:Ae)(rec:Int→Bool→Int→A)(El:Int)(Mr:Bool)(Vj:Int):A:=
 (lw Vj a0.Params
 (cn (((a0.Params.getD (Int.toNat Vj) default).Name).toList == a1.toList)
 (lf (0,(((a0.Params.getD (Int.toNat Vj) default).Type_),true,Vj)))
 (rec El Mr (Mu (Vj+1))))
 (lf (1,El,Mr,Vj)))
def Cg(L:Nat)(a1:ByteArray)(a0:Ae):Nat→Int→Bool→Int→Option (Nat×Int×Bool×Int)
 |0,_,_,_=>none
 |n+1,El,Mr,Vj=>Gb L a1 a0 (Cg L a1 a0 n) El Mr Vj
theorem Aii(a1:ByteArray)(a0:Ae):LP (EV (O6 L) L 9 c6.w.u.l.u.l.l) [0,1,2,4,5,6,7,9,25,37,38,39] [2] (Af7 a1 a0) [.ret,.exit 2] (fun n v=>Cg L a1 a0 n v.1 v.2.1 v.2.2) K:=lE (fun _=>rfl) fun n v ih=>eE (Gb L a1 a0 (fun El Mr Vj=>re (ih (El,Mr,Vj))) v.1 v.2.1 v.2.2)
def Dz [An A (Int×Bool)](L:Nat)(o3:Nat×Int×Bool×Int):A:=
 (sl o3.1 [(lf (o3.2.1,o3.2.2.1)),
 (lf (0,false))])
def Afl:D2:=(B7 2 (Hk (EV (O6 L) L 9 c6.w.u.r) (Kj Tryz.prog (RS Tryz.f6) kk)))
theorem Ako(a1:ByteArray)(a0:Ae)(o3:Nat×Int×Bool×Int):kX [.ret,.exit 2] (Af7 a1 a0) (Afl L kk) o3=ob (Dz L o3) (kq6 kk):=eE (Dz L o3)
def Gr [An A (Int×Bool)](L:Nat)(a1:ByteArray)(a0:Ae)(o2:Nat×Int×Bool×Int)(nx2:(Nat×Int×Bool×Int)→A):A:=
 (sl o2.1 [(lf (o2.2.1,o2.2.2.1)),
 (nx2 o2)])
def Gl [An A (Int×Bool)](a1:ByteArray)(a0:Ae)(o2:Nat×Int×Bool×Int):A:=Gr L a1 a0 o2 (fun o2=>bd (Cg L a1 a0 L o2.2.1 o2.2.2.1 0) fun o3=>Dz L o3)
def Afk:D2:=(B7 0 (Hk (EV (O6 L) L 9 c6.w.r) (Kj Tryz.prog (RS Tryz.f6) kk)))
theorem Akn(a1:ByteArray)(a0:Ae)(o2:Nat×Int×Bool×Int):kX [.ret,.exit 0] (Af6 a1 a0) (Afk L kk) o2=ob (Gl L a1 a0 o2) (kq6 kk):=eE (Gr L a1 a0 o2 (fun o2=>ho (Aii L (Afl L kk) a1 a0 L (o2.2.1,o2.2.2.1,0)) fun o3=>Ako L kk a1 a0 o3))
def Gq [An A (Int×Bool)](a0:Ae)(a1:ByteArray)(nx1:A):A:=
 (bd (H6 L a0.Locals a1) fun r1=>
 (cn r1.2
 (lf (r1.1,true))
 nx1))
def Oi [An A (Int×Bool)](a0:Ae)(a1:ByteArray):A:=Gq L a0 a1 (bd (Cf L a1 a0 L 0 false 0) fun o2=>Gl L a1 a0 o2)
def Gz(a0:Ae)(a1:ByteArray):Option (Int×Bool):=Oi L a0 a1
def X6:Oe:=E2 (fun(x:Int×Bool)=> .tup [I x.1,B x.2]) 6 Iy cS (Gz L) fun a0 a1 r h=>hF Tryz.func6 (C:=O6 L) (oS _) L (fun kk=>eE (Gq L a0 a1 (ho (Aih L (Afk L kk) a1 a0 L (0,false,0)) fun o2=>Akn L kk a1 a0 o2))) h
def Ad6(F:Aa→Option Int):Prop:=∀y0 r,F y0=some r→Ho Tryz.prog 40 [Bd.en y0] I r
def c40:=CC Tryz.f40
def O40(Bw:Aa→Option Int)(L:Nat):Av:=(orc 40 (A1 I Bd Bw) (oL []))
theorem s40(Bw:Aa→Option Int)(Agv:Ad6 Bw)(L:Nat):Bu Tryz.prog (O40 Bw L):=(Hu (a1 _ Agv) (oS []))
def Ade(a0:Aa)(v:Ep):St:=⟨[(0,.any),(1,.any),(2,I 0),(3,I v.1),(7,lv (.t38 a0.Kids)),(8,I (a0.Kids.length:Int)),(9,I v.2)],[(1,(Bf a0))],0⟩
def He [An A (Nat×Ep)](Bw:Aa→Option Int)(L:Nat)(a0:Aa)(rec:Int→Int→A)(Aq:Int)(D1:Int):A:=
 (lw D1 a0.Kids
 (bd (Bw (Aa.cp (a0.Kids.getD (Int.toNat D1) default))) fun r1=>
 (rec (Mu (Aq+r1)) (Mu (D1+1))))
 (lf (0,Aq,D1)))
def Cz(Bw:Aa→Option Int)(L:Nat)(a0:Aa):Nat→Int→Int→Option (Nat×Ep)
 |0,_,_=>none
 |n+1,Aq,D1=>He Bw L a0 (Cz Bw L a0 n) Aq D1
theorem Ag9(Bw:Aa→Option Int)(L:Nat)(K:D2)(a0:Aa):LP (EV (O40 Bw L) L 9 c40.w.l.u.l.l) [0,1,2,3,7,8,9] [1] (Ade a0) [.exit 0] (fun n v=>Cz Bw L a0 n v.1 v.2) K:=lE (fun _=>rfl) fun n v ih=>eE (He Bw L a0 (fun Aq D1=>re (ih (Aq,D1))) v.1 v.2)
def Ei [An A Int](Bw:Aa→Option Int)(L:Nat)(o2:Nat×Ep):A:=
 (sl o2.1 [(lf o2.2.1)])
def Ab3(Bw:Aa→Option Int)(L:Nat)(kk:Mw):D2:=(B7 0 (Hk (EV (O40 Bw L) L 9 c40.w.r) (Kj Tryz.prog (RS Tryz.f40) kk)))
theorem Aiv(Bw:Aa→Option Int)(L:Nat)(kk:Mw)(a0:Aa)(o2:Nat×Ep):kX [.exit 0] (Ade a0) (Ab3 Bw L kk) o2=ob (Ei Bw L o2) (kQ I kk):=eE (Ei Bw L o2)
def Pz [An A Int](Bw:Aa→Option Int)(L:Nat)(a0:Aa):A:=(bd (Cz Bw L a0 L 1 0) fun o2=>Ei Bw L o2)
def Ls(Bw:Aa→Option Int)(L:Nat)(a0:Aa):Option Int:=Pz Bw L a0
theorem b40(Bw:Aa→Option Int)(Agv:Ad6 Bw)(L:Nat):Ad6 (Ls Bw L):=fun a0 r h=>hF Tryz.func40 (s40 Bw Agv L) L (fun kk=>eE ((ho (Ag9 Bw L (Ab3 Bw L kk) a0 L (1,0)) fun o2=>Aiv Bw L kk a0 o2))) h
def C6:Nat→Aa→Option Int
 |0,_=>none
 |L+1,a0=>Ls (C6 L) L a0
theorem Agr(L:Nat):Ad6 (C6 L):=by
 induction L with
 |zero=>exact fun _ _ h=>(by cases h)
 |succ L ih=>
  have i40:=ih
  exact b40 (C6 L) i40 L
def X40(L:Nat):Oe:=E1 I 40 Bd (C6 L) (Agr L)
def Ad7(F:Aa→Option Int):Prop:=∀y0 r,F y0=some r→Ho Tryz.prog 41 [Bd.en y0] I r
def c41:=CC Tryz.f41
def O41(Bx:Aa→Option Int)(L:Nat):Av:=(orc 41 (A1 I Bd Bx) (oL []))
theorem s41(Bx:Aa→Option Int)(Agw:Ad7 Bx)(L:Nat):Bu Tryz.prog (O41 Bx L):=(Hu (a1 _ Agw) (oS []))
def Adf(a0:Aa)(v:Ep):St:=⟨[(0,.any),(1,.any),(2,I 0),(3,I v.1),(7,lv (.t38 a0.Kids)),(8,I (a0.Kids.length:Int)),(9,I v.2)],[(1,(Bf a0))],0⟩
def Hd [An A (Nat×Ep)](Bx:Aa→Option Int)(L:Nat)(a0:Aa)(rec:Int→Int→A)(Aq:Int)(D1:Int):A:=
 (lw D1 a0.Kids
 (bd (Bx (Aa.cp (a0.Kids.getD (Int.toNat D1) default))) fun r1=>
 (rec (if r1 > Aq then r1 else Aq) (Mu (D1+1))))
 (lf (0,Aq,D1)))
def Cy(Bx:Aa→Option Int)(L:Nat)(a0:Aa):Nat→Int→Int→Option (Nat×Ep)
 |0,_,_=>none
 |n+1,Aq,D1=>Hd Bx L a0 (Cy Bx L a0 n) Aq D1
theorem Aha(Bx:Aa→Option Int)(L:Nat)(K:D2)(a0:Aa):LP (EV (O41 Bx L) L 9 c41.w.l.u.l.l) [0,1,2,3,7,8,9] [1] (Adf a0) [.exit 0] (fun n v=>Cy Bx L a0 n v.1 v.2) K:=lE (fun _=>rfl) fun n v ih=>eE (Hd Bx L a0 (fun Aq D1=>re (ih (Aq,D1))) v.1 v.2)
def Eh [An A Int](Bx:Aa→Option Int)(L:Nat)(o2:Nat×Ep):A:=
 (sl o2.1 [(lf (Mu (o2.2.1+1)))])
def Ab4(Bx:Aa→Option Int)(L:Nat)(kk:Mw):D2:=(B7 0 (Hk (EV (O41 Bx L) L 9 c41.w.r) (Kj Tryz.prog (RS Tryz.f41) kk)))
theorem Aiw(Bx:Aa→Option Int)(L:Nat)(kk:Mw)(a0:Aa)(o2:Nat×Ep):kX [.exit 0] (Adf a0) (Ab4 Bx L kk) o2=ob (Eh Bx L o2) (kQ I kk):=eE (Eh Bx L o2)
def Py [An A Int](Bx:Aa→Option Int)(L:Nat)(a0:Aa):A:=(bd (Cy Bx L a0 L 0 0) fun o2=>Eh Bx L o2)
def Lr(Bx:Aa→Option Int)(L:Nat)(a0:Aa):Option Int:=Py Bx L a0
theorem b41(Bx:Aa→Option Int)(Agw:Ad7 Bx)(L:Nat):Ad7 (Lr Bx L):=fun a0 r h=>hF Tryz.func41 (s41 Bx Agw L) L (fun kk=>eE ((ho (Aha Bx L (Ab4 Bx L kk) a0 L (0,0)) fun o2=>Aiw Bx L kk a0 o2))) h
def C5:Nat→Aa→Option Int
 |0,_=>none
 |L+1,a0=>Lr (C5 L) L a0
theorem Ags(L:Nat):Ad7 (C5 L):=by
 induction L with
 |zero=>exact fun _ _ h=>(by cases h)
 |succ L ih=>
  have i41:=ih
  exact b41 (C5 L) i41 L
def X41(L:Nat):Oe:=E1 I 41 Bd (C5 L) (Ags L)
def M3 [An A Int](L:Nat)(a0:Int):A:=
 (jp (.cn (a0 == 1)
 (.lf true)
 (.lf (a0 == 2))) (fun b1=>
 (jp (.cn b1
 (.lf true)
 (.lf (a0 == 3))) (fun b2=>
 (jp (.cn b2
 (.lf true)
 (.lf (a0 == 4))) (fun b3=>
 (cn b3
 (lf 0)
 (jp (.cn (decide (a0≥5))
 (.lf (decide (a0≤8)))
 (.lf false)) (fun b4=>
 (cn b4
 (lf 1)
 (jp (.cn (decide (a0≥9))
 (.lf (decide (a0≤21)))
 (.lf false)) (fun b5=>
 (cn b5
 (lf 2)
 (jp (.cn (decide (a0≥22))
 (.lf (decide (a0≤26)))
 (.lf false)) (fun b6=>
 (cn b6
 (lf 0)
 (lf (-1))))))))))))))))))
def Hr(a0:Int):Option Int:=M3 L a0
def Age:Oe:=E1 I 142 (cI .i64) (Hr L) fun a0 r h=>hF Tryz.func142 (oS []) L (fun kk=>eE (M3 L a0)) h
def H9 [An A Bool](a0:Ah)(a1:Int):A:=
 (cn (a1 == 3)
 (lf (!a0.u_code))
 (cn (a1 == 25)
 (cn (a1 == 25)
 (lf a0.u_code)
 (bd (Hr L a1) fun r1=>
 (lf (decide (r1≥0)))))
 (cn (a1 == 26)
 (lf a0.u_code)
 (bd (Hr L a1) fun r2=>
 (lf (decide (r2≥0)))))))
def Eo(a0:Ah)(a1:Int):Option Bool:=H9 L a0 a1
def Ah2:Oe:=E2 B 141 Di (cI .i64) (Eo L) fun a0 a1 r h=>hF Tryz.func141 (oS [Age L]) L (fun kk=>eE (H9 L a0 a1)) h
def K5 [An A Bool](L:Nat)(a0:Int):A:=
 (jp (.cn (decide (a0≥22))
 (.lf (decide (a0≤24)))
 (.lf false)) (fun b1=>
 (lf b1)))
def Gw(a0:Int):Option Bool:=K5 L a0
def X22:Oe:=E1 B 22 (cI .i64) (Gw L) fun a0 r h=>hF Tryz.func22 (oS []) L (fun kk=>eE (K5 L a0)) h
def Ia [An A Bool](a0:Ah)(a1:Int):A:=
 (jb (.cn (a1 == 3)
 (.lf true)
 (.bd (Gw L a1) fun r2=>
 (.cn r2
 (.lf (!a0.u_code))
 (.lf false)))) (fun b1=>
 (lf b1)))
def Cw(a0:Ah)(a1:Int):Option Bool:=Ia L a0 a1
def Ah3:Oe:=E2 B 143 Di (cI .i64) (Cw L) fun a0 a1 r h=>hF Tryz.func143 (oS [X22 L]) L (fun kk=>eE (Ia L a0 a1)) h
def Tn [An A Bool](L:Nat)(a0:Int):A:=
 (jp (.cn (decide (a0≥(-1000000000000)))
 (.lf (decide (a0≤1000000000000)))
 (.lf false)) (fun b1=>
 (lf b1)))
def Mv(a0:Int):Option Bool:=Tn L a0
def Ah1:Oe:=E1 B 138 (cI .i64) (Mv L) fun a0 r h=>hF Tryz.func138 (oS []) L (fun kk=>eE (Tn L a0)) h
def Gv [An A (Int×Int×Bool)](a0:Ah)(a1:Int):A:=
 (cn (a1 == 2)
 (lf (0,1,true))
 (cn (a1 == 25)
 (lf (0,15,true))
 (cn (a1 == 26)
 (lf (0,31,true))
 (bd (Gw L a1) fun r1=>
 (jp (.cn r1
 (.lf a0.u_code)
 (.lf false)) (fun b2=>
 (cn b2
 (lf (0,63,true))
 (lf (0,0,false)))))))))
def C2(a0:Ah)(a1:Int):Option (Int×Int×Bool):=Gv L a0 a1
def Ah4:Oe:=E2 (fun(x:Int×Int×Bool)=> .tup [I x.1,I x.2.1,B x.2.2]) 144 Di (cI .i64) (C2 L) fun a0 a1 r h=>hF Tryz.func144 (oS [X22 L]) L (fun kk=>eE (Gv L a0 a1)) h
def Kc [An A Bool](L:Nat)(a0:Int):A:=
 (jp (.cn (decide (a0≥97))
 (.lf (decide (a0≤122)))
 (.lf false)) (fun b1=>
 (lf b1)))
def Ey(a0:Int):Option Bool:=Kc L a0
def X67:Oe:=E1 B 67 (cI .u8) (Ey L) fun a0 r h=>hF Tryz.func67 (oS []) L (fun kk=>eE (Kc L a0)) h
def Jm [An A Bool](L:Nat)(a0:ByteArray):A:=
 (cn (a0.toList == (⟨#[97,100,100]⟩:ByteArray).toList)
 (cn (a0.toList == (⟨#[97,100,100]⟩:ByteArray).toList)
 (lf true)
 (lf false))
 (cn (a0.toList == (⟨#[97,102,116,101,114]⟩:ByteArray).toList)
 (cn (a0.toList == (⟨#[97,102,116,101,114]⟩:ByteArray).toList)
 (lf true)
 (lf false))
 (cn (a0.toList == (⟨#[97,110,100]⟩:ByteArray).toList)
 (cn (a0.toList == (⟨#[97,110,100]⟩:ByteArray).toList)
 (lf true)
 (lf false))
 (cn (a0.toList == (⟨#[97,116]⟩:ByteArray).toList)
 (cn (a0.toList == (⟨#[97,116]⟩:ByteArray).toList)
 (lf true)
 (lf false))
 (cn (a0.toList == (⟨#[98,101,108,116]⟩:ByteArray).toList)
 (cn (a0.toList == (⟨#[98,101,108,116]⟩:ByteArray).toList)
 (lf true)
 (lf false))
 (cn (a0.toList == (⟨#[98,111,111,108]⟩:ByteArray).toList)
 (cn (a0.toList == (⟨#[98,111,111,108]⟩:ByteArray).toList)
 (lf true)
 (lf false))
 (cn (a0.toList == (⟨#[99,111,110,115,101,114,118,101]⟩:ByteArray).toList)
 (cn (a0.toList == (⟨#[99,111,110,115,101,114,118,101]⟩:ByteArray).toList)
 (lf true)
 (lf false))
 (cn (a0.toList == (⟨#[99,111,110,115,116]⟩:ByteArray).toList)
 (cn (a0.toList == (⟨#[99,111,110,115,116]⟩:ByteArray).toList)
 (lf true)
 (lf false))
 (cn (a0.toList == (⟨#[99,111,117,110,116]⟩:ByteArray).toList)
 (cn (a0.toList == (⟨#[99,111,117,110,116]⟩:ByteArray).toList)
 (lf true)
 (lf false))
 (cn (a0.toList == (⟨#[99,121,99,108,101]⟩:ByteArray).toList)
 (cn (a0.toList == (⟨#[99,121,99,108,101]⟩:ByteArray).toList)
 (lf true)
 (lf false))
 (cn (a0.toList == (⟨#[100,111,119,110]⟩:ByteArray).toList)
 (cn (a0.toList == (⟨#[100,111,119,110]⟩:ByteArray).toList)
 (lf true)
 (lf false))
 (cn (a0.toList == (⟨#[100,114,97,119]⟩:ByteArray).toList)
 (cn (a0.toList == (⟨#[100,114,97,119]⟩:ByteArray).toList)
 (lf true)
 (lf false))
 (cn (a0.toList == (⟨#[100,117,114]⟩:ByteArray).toList)
 (cn (a0.toList == (⟨#[100,117,114]⟩:ByteArray).toList)
 (lf true)
 (lf false))
 (cn (a0.toList == (⟨#[101,108,115,101]⟩:ByteArray).toList)
 (cn (a0.toList == (⟨#[101,108,115,101]⟩:ByteArray).toList)
 (lf true)
 (lf false))
 (cn (a0.toList == (⟨#[101,110,100]⟩:ByteArray).toList)
 (cn (a0.toList == (⟨#[101,110,100]⟩:ByteArray).toList)
 (lf true)
 (lf false))
 (cn (a0.toList == (⟨#[101,118,101,114,121]⟩:ByteArray).toList)
 (cn (a0.toList == (⟨#[101,118,101,114,121]⟩:ByteArray).toList)
 (lf true)
 (lf false))
 (cn (a0.toList == (⟨#[102,97,108,115,101]⟩:ByteArray).toList)
 (cn (a0.toList == (⟨#[102,97,108,115,101]⟩:ByteArray).toList)
 (lf true)
 (lf false))
 (cn (a0.toList == (⟨#[102,97,117,108,116]⟩:ByteArray).toList)
 (cn (a0.toList == (⟨#[102,97,117,108,116]⟩:ByteArray).toList)
 (lf true)
 (lf false))
 (cn (a0.toList == (⟨#[102,105,102,111]⟩:ByteArray).toList)
 (cn (a0.toList == (⟨#[102,105,102,111]⟩:ByteArray).toList)
 (lf true)
 (lf false))
 (cn (a0.toList == (⟨#[102,114,101,101]⟩:ByteArray).toList)
 (cn (a0.toList == (⟨#[102,114,101,101]⟩:ByteArray).toList)
 (lf true)
 (lf false))
 (cn (a0.toList == (⟨#[102,114,111,109]⟩:ByteArray).toList)
 (cn (a0.toList == (⟨#[102,114,111,109]⟩:ByteArray).toList)
 (lf true)
 (lf false))
 (cn (a0.toList == (⟨#[103,101,111,109]⟩:ByteArray).toList)
 (cn (a0.toList == (⟨#[103,101,111,109]⟩:ByteArray).toList)
 (lf true)
 (lf false))
 (cn (a0.toList == (⟨#[103,101,116]⟩:ByteArray).toList)
 (cn (a0.toList == (⟨#[103,101,116]⟩:ByteArray).toList)
 (lf true)
 (lf false))
 (cn (a0.toList == (⟨#[104,111,108,100]⟩:ByteArray).toList)
 (cn (a0.toList == (⟨#[104,111,108,100]⟩:ByteArray).toList)
 (lf true)
 (lf false))
 (cn (a0.toList == (⟨#[105,102]⟩:ByteArray).toList)
 (cn (a0.toList == (⟨#[105,102]⟩:ByteArray).toList)
 (lf true)
 (lf false))
 (cn (a0.toList == (⟨#[105,110,116]⟩:ByteArray).toList)
 (cn (a0.toList == (⟨#[105,110,116]⟩:ByteArray).toList)
 (lf true)
 (lf false))
 (cn (a0.toList == (⟨#[105,110,116,111]⟩:ByteArray).toList)
 (cn (a0.toList == (⟨#[105,110,116,111]⟩:ByteArray).toList)
 (lf true)
 (lf false))
 (cn (a0.toList == (⟨#[108,101,97,115,116]⟩:ByteArray).toList)
 (cn (a0.toList == (⟨#[108,101,97,115,116]⟩:ByteArray).toList)
 (lf true)
 (lf false))
 (cn (a0.toList == (⟨#[108,101,118,101,108]⟩:ByteArray).toList)
 (cn (a0.toList == (⟨#[108,101,118,101,108]⟩:ByteArray).toList)
 (lf true)
 (lf false))
 (cn (a0.toList == (⟨#[108,105,102,111]⟩:ByteArray).toList)
 (cn (a0.toList == (⟨#[108,105,102,111]⟩:ByteArray).toList)
 (lf true)
 (lf false))
 (cn (a0.toList == (⟨#[108,105,110,107]⟩:ByteArray).toList)
 (cn (a0.toList == (⟨#[108,105,110,107]⟩:ByteArray).toList)
 (lf true)
 (lf false))
 (cn (a0.toList == (⟨#[108,111,99,97,108]⟩:ByteArray).toList)
 (cn (a0.toList == (⟨#[108,111,99,97,108]⟩:ByteArray).toList)
 (lf true)
 (lf false))
 (cn (a0.toList == (⟨#[109,97,120]⟩:ByteArray).toList)
 (cn (a0.toList == (⟨#[109,97,120]⟩:ByteArray).toList)
 (lf true)
 (lf false))
 (cn (a0.toList == (⟨#[109,105,110]⟩:ByteArray).toList)
 (cn (a0.toList == (⟨#[109,105,110]⟩:ByteArray).toList)
 (lf true)
 (lf false))
 (cn (a0.toList == (⟨#[109,111,100,101,108]⟩:ByteArray).toList)
 (cn (a0.toList == (⟨#[109,111,100,101,108]⟩:ByteArray).toList)
 (lf true)
 (lf false))
 (cn (a0.toList == (⟨#[110,111,116]⟩:ByteArray).toList)
 (cn (a0.toList == (⟨#[110,111,116]⟩:ByteArray).toList)
 (lf true)
 (lf false))
 (cn (a0.toList == (⟨#[110,111,119]⟩:ByteArray).toList)
 (cn (a0.toList == (⟨#[110,111,119]⟩:ByteArray).toList)
 (lf true)
 (lf false))
 (cn (a0.toList == (⟨#[111,98,115,101,114,118,101]⟩:ByteArray).toList)
 (cn (a0.toList == (⟨#[111,98,115,101,114,118,101]⟩:ByteArray).toList)
 (lf true)
 (lf false))
 (cn (a0.toList == (⟨#[111,114]⟩:ByteArray).toList)
 (cn (a0.toList == (⟨#[111,114]⟩:ByteArray).toList)
 (lf true)
 (lf false))
 (cn (a0.toList == (⟨#[112,97,114,97,109]⟩:ByteArray).toList)
 (cn (a0.toList == (⟨#[112,97,114,97,109]⟩:ByteArray).toList)
 (lf true)
 (lf false))
 (cn (a0.toList == (⟨#[112,114,101,101,109,112,116]⟩:ByteArray).toList)
 (cn (a0.toList == (⟨#[112,114,101,101,109,112,116]⟩:ByteArray).toList)
 (lf true)
 (lf false))
 (cn (a0.toList == (⟨#[112,114,105,111]⟩:ByteArray).toList)
 (cn (a0.toList == (⟨#[112,114,105,111]⟩:ByteArray).toList)
 (lf true)
 (lf false))
 (cn (a0.toList == (⟨#[112,117,116]⟩:ByteArray).toList)
 (cn (a0.toList == (⟨#[112,117,116]⟩:ByteArray).toList)
 (lf true)
 (lf false))
 (cn (a0.toList == (⟨#[113,117,101,117,101]⟩:ByteArray).toList)
 (cn (a0.toList == (⟨#[113,117,101,117,101]⟩:ByteArray).toList)
 (lf true)
 (lf false))
 (cn (a0.toList == (⟨#[114,101,108,101,97,115,101]⟩:ByteArray).toList)
 (cn (a0.toList == (⟨#[114,101,108,101,97,115,101]⟩:ByteArray).toList)
 (lf true)
 (lf false))
 (cn (a0.toList == (⟨#[114,101,115,111,117,114,99,101]⟩:ByteArray).toList)
 (cn (a0.toList == (⟨#[114,101,115,111,117,114,99,101]⟩:ByteArray).toList)
 (lf true)
 (lf false))
 (cn (a0.toList == (⟨#[114,105,100,101]⟩:ByteArray).toList)
 (cn (a0.toList == (⟨#[114,105,100,101]⟩:ByteArray).toList)
 (lf true)
 (lf false))
 (cn (a0.toList == (⟨#[114,111,117,116,105,110,101]⟩:ByteArray).toList)
 (cn (a0.toList == (⟨#[114,111,117,116,105,110,101]⟩:ByteArray).toList)
 (lf true)
 (lf false))
 (cn (a0.toList == (⟨#[115,101,105,122,101]⟩:ByteArray).toList)
 (cn (a0.toList == (⟨#[115,101,105,122,101]⟩:ByteArray).toList)
 (lf true)
 (lf false))
 (cn (a0.toList == (⟨#[115,101,110,100]⟩:ByteArray).toList)
 (cn (a0.toList == (⟨#[115,101,110,100]⟩:ByteArray).toList)
 (lf true)
 (lf false))
 (cn (a0.toList == (⟨#[115,101,116]⟩:ByteArray).toList)
 (cn (a0.toList == (⟨#[115,101,116]⟩:ByteArray).toList)
 (lf true)
 (lf false))
 (cn (a0.toList == (⟨#[115,104,105,102,116]⟩:ByteArray).toList)
 (cn (a0.toList == (⟨#[115,104,105,102,116]⟩:ByteArray).toList)
 (lf true)
 (lf false))
 (cn (a0.toList == (⟨#[115,105,103,110,97,108]⟩:ByteArray).toList)
 (cn (a0.toList == (⟨#[115,105,103,110,97,108]⟩:ByteArray).toList)
 (lf true)
 (lf false))
 (cn (a0.toList == (⟨#[115,105,116,101]⟩:ByteArray).toList)
 (cn (a0.toList == (⟨#[115,105,116,101]⟩:ByteArray).toList)
 (lf true)
 (lf false))
 (cn (a0.toList == (⟨#[115,105,122,101]⟩:ByteArray).toList)
 (cn (a0.toList == (⟨#[115,105,122,101]⟩:ByteArray).toList)
 (lf true)
 (lf false))
 (cn (a0.toList == (⟨#[115,112,97,119,110]⟩:ByteArray).toList)
 (cn (a0.toList == (⟨#[115,112,97,119,110]⟩:ByteArray).toList)
 (lf true)
 (lf false))
 (cn (a0.toList == (⟨#[115,116,97,114,116]⟩:ByteArray).toList)
 (cn (a0.toList == (⟨#[115,116,97,114,116]⟩:ByteArray).toList)
 (lf true)
 (lf false))
 (cn (a0.toList == (⟨#[115,116,111,112]⟩:ByteArray).toList)
 (cn (a0.toList == (⟨#[115,116,111,112]⟩:ByteArray).toList)
 (lf true)
 (lf false))
 (cn (a0.toList == (⟨#[115,116,111,114,101]⟩:ByteArray).toList)
 (cn (a0.toList == (⟨#[115,116,111,114,101]⟩:ByteArray).toList)
 (lf true)
 (lf false))
 (cn (a0.toList == (⟨#[115,116,114,101,97,109]⟩:ByteArray).toList)
 (cn (a0.toList == (⟨#[115,116,114,101,97,109]⟩:ByteArray).toList)
 (lf true)
 (lf false))
 (cn (a0.toList == (⟨#[115,117,109]⟩:ByteArray).toList)
 (cn (a0.toList == (⟨#[115,117,109]⟩:ByteArray).toList)
 (lf true)
 (lf false))
 (cn (a0.toList == (⟨#[116,97,98,108,101]⟩:ByteArray).toList)
 (cn (a0.toList == (⟨#[116,97,98,108,101]⟩:ByteArray).toList)
 (lf true)
 (lf false))
 (cn (a0.toList == (⟨#[116,97,108,108,121]⟩:ByteArray).toList)
 (cn (a0.toList == (⟨#[116,97,108,108,121]⟩:ByteArray).toList)
 (lf true)
 (lf false))
 (cn (a0.toList == (⟨#[116,105,99,107,115]⟩:ByteArray).toList)
 (cn (a0.toList == (⟨#[116,105,99,107,115]⟩:ByteArray).toList)
 (lf true)
 (lf false))
 (cn (a0.toList == (⟨#[116,105,109,101]⟩:ByteArray).toList)
 (cn (a0.toList == (⟨#[116,105,109,101]⟩:ByteArray).toList)
 (lf true)
 (lf false))
 (cn (a0.toList == (⟨#[116,114,117,101]⟩:ByteArray).toList)
 (cn (a0.toList == (⟨#[116,114,117,101]⟩:ByteArray).toList)
 (lf true)
 (lf false))
 (cn (a0.toList == (⟨#[117,110,105,102,111,114,109]⟩:ByteArray).toList)
 (cn (a0.toList == (⟨#[117,110,105,102,111,114,109]⟩:ByteArray).toList)
 (lf true)
 (lf false))
 (cn (a0.toList == (⟨#[117,110,116,105,108]⟩:ByteArray).toList)
 (cn (a0.toList == (⟨#[117,110,116,105,108]⟩:ByteArray).toList)
 (lf true)
 (lf false))
 (cn (a0.toList == (⟨#[117,112]⟩:ByteArray).toList)
 (cn (a0.toList == (⟨#[117,112]⟩:ByteArray).toList)
 (lf true)
 (lf false))
 (cn (a0.toList == (⟨#[118,97,114]⟩:ByteArray).toList)
 (cn (a0.toList == (⟨#[118,97,114]⟩:ByteArray).toList)
 (lf true)
 (lf false))
 (cn (a0.toList == (⟨#[119,97,105,116]⟩:ByteArray).toList)
 (cn (a0.toList == (⟨#[119,97,105,116]⟩:ByteArray).toList)
 (lf true)
 (lf false))
 (cn (a0.toList == (⟨#[119,97,105,116,105,110,103]⟩:ByteArray).toList)
 (cn (a0.toList == (⟨#[119,97,105,116,105,110,103]⟩:ByteArray).toList)
 (lf true)
 (lf false))
 (cn (a0.toList == (⟨#[119,104,105,108,101]⟩:ByteArray).toList)
 (lf true)
 (lf false))))))))))))))))))))))))))))))))))))))))))))))))))))))))))))))))))))))))))
def G7(a0:ByteArray):Option Bool:=Jm L a0
def X68:Oe:=E1 B 68 cS (G7 L) fun a0 r h=>hF Tryz.func68 (oS []) L (fun kk=>eE (Jm L a0)) h
def c33:=CC Tryz.f33
def O33:Av:=oL [X67 L,X68 L]
def Adc(a0:ByteArray)(v:Ep):St:=⟨[(0,S a0),(2,I v.1),(23,I (a0.size:Int)),(24,I v.2)],[],0⟩
def Dx [An A (Nat×Ep)](a0:ByteArray)(rec:Int→Int→A)(Aq:Int)(Bn:Int):A:=
 (cn (decide (Bn < (a0.size:Int)))
 (cn ((if 0≤Bn then a0[Int.toNat Bn]? else none).isSome)
 (bd (Ey L (C9 (if 0≤Bn then a0[Int.toNat Bn]? else none))) fun r6=>
 (jp (.cn (!r6)
 (.cn (decide ((C9 (if 0≤Bn then a0[Int.toNat Bn]? else none)) < 48))
 (.lf true)
 (.lf (decide ((C9 (if 0≤Bn then a0[Int.toNat Bn]? else none)) > 57))))
 (.lf false)) (fun b7=>
 (jp (.cn b7
 (.lf ((C9 (if 0≤Bn then a0[Int.toNat Bn]? else none)) != 95))
 (.lf false)) (fun b8=>
 (cn b8
 (lf (0,3,Bn))
 (rec Aq (Mu (Bn+1)))))))))
 fl)
 (lf (1,Aq,Bn)))
def Ce(L:Nat)(a0:ByteArray):Nat→Int→Int→Option (Nat×Ep)
 |0,_,_=>none
 |n+1,Aq,Bn=>Dx L a0 (Ce L a0 n) Aq Bn
theorem Ag8(a0:ByteArray):LP (EV (O33 L) L 9 c33.w.l.u.l.l) [0,2,23,24] [] (Adc a0) [.ret,.exit 0] (fun n v=>Ce L a0 n v.1 v.2) K:=lE (fun _=>rfl) fun n v ih=>eE (Dx L a0 (fun Aq Bn=>re (ih (Aq,Bn))) v.1 v.2)
def Dy [An A Int](L:Nat)(o9:Nat×Ep):A:=
 (sl o9.1 [(lf o9.2.1),
 (lf 0)])
def Ab2:D2:=(B7 0 (Hk (EV (O33 L) L 9 c33.w.r) (Kj Tryz.prog (RS Tryz.f33) kk)))
theorem Aiu(a0:ByteArray)(o9:Nat×Ep):kX [.ret,.exit 0] (Adc a0) (Ab2 L kk) o9=ob (Dy L o9) (kQ I kk):=eE (Dy L o9)
def Gp [An A Int](a0:ByteArray)(nx1:A):A:=
 (jp (.cn (a0.toList == (⟨#[]⟩:ByteArray).toList)
 (.lf true)
 (.lf (decide ((a0.size:Int) > 24)))) (fun b1=>
 (jb (.cn b1
 (.lf true)
 (.cn ((if 0≤0 then a0[Int.toNat 0]? else none).isSome)
 (.bd (Ey L (C9 (if 0≤0 then a0[Int.toNat 0]? else none))) fun r3=>
 (.lf (!r3)))
 .fl)) (fun b2=>
 (jb (.cn b2
 (.lf true)
 (.bd (G7 L a0) fun r5=>
 (.lf r5))) (fun b4=>
 (cn b4
 (lf 3)
 nx1)))))))
def Oh [An A Int](a0:ByteArray):A:=Gp L a0 (bd (Ce L a0 L 0 0) fun o9=>Dy L o9)
def Gx(a0:ByteArray):Option Int:=Oh L a0
def X33:Oe:=E1 I 33 cS (Gx L) fun a0 r h=>hF Tryz.func33 (C:=O33 L) (oS _) L (fun kk=>eE (Gp L a0 (ho (Ag8 L (Ab2 L kk) a0 L (0,0)) fun o9=>Aiu L kk a0 o9))) h
def Iw [An A Int](a0:Ah)(a1:Aa):A:=
 (bd (Eo L (⟨a0.u_code⟩:Ah) a1.Op) fun r1=>
 (cn (!r1)
 (lf 1)
 (bd (Hr L a1.Op) fun r2=>
 (cn ((a1.Kids.length:Int) != r2)
 (lf 1)
 (cn (!(a1.Name.toList == (⟨#[]⟩:ByteArray).toList))
 (bd (Cw L (⟨a0.u_code⟩:Ah) a1.Op) fun r3=>
 (cn (!r3)
 (lf 1)
 (cn (a1.Op == 1)
 (bd (Mv L a1.N) fun r4=>
 (cn (!r4)
 (lf 2)
 (lf 0)))
 (bd (C2 L (⟨a0.u_code⟩:Ah) a1.Op) fun r5=>
 (jp (.cn (!r5.2.2)
 (.lf (a1.N != 0))
 (.lf false)) (fun b6=>
 (cn b6
 (lf 1)
 (jp (.cn r5.2.2
 (.cn (decide (a1.N < r5.1))
 (.lf true)
 (.lf (decide (a1.N > r5.2.1))))
 (.lf false)) (fun b7=>
 (cn b7
 (lf 2)
 (bd (Cw L (⟨a0.u_code⟩:Ah) a1.Op) fun r8=>
 (cn r8
 (bd (Gx L a1.Name) fun r9=>
 (lf r9))
 (lf 0)))))))))))))
 (cn (a1.Op == 1)
 (bd (Mv L a1.N) fun r10=>
 (cn (!r10)
 (lf 2)
 (lf 0)))
 (bd (C2 L (⟨a0.u_code⟩:Ah) a1.Op) fun r11=>
 (jp (.cn (!r11.2.2)
 (.lf (a1.N != 0))
 (.lf false)) (fun b12=>
 (cn b12
 (lf 1)
 (jp (.cn r11.2.2
 (.cn (decide (a1.N < r11.1))
 (.lf true)
 (.lf (decide (a1.N > r11.2.1))))
 (.lf false)) (fun b13=>
 (cn b13
 (lf 2)
 (bd (Cw L (⟨a0.u_code⟩:Ah) a1.Op) fun r14=>
 (cn r14
 (bd (Gx L a1.Name) fun r15=>
 (lf r15))
 (lf 0))))))))))))))))
def Fs(a0:Ah)(a1:Aa):Option Int:=Iw L a0 a1
def Agd:Oe:=E2 I 105 Di Bd (Fs L) fun a0 a1 r h=>hF Tryz.func105 (oS [X33 L,Ah1 L,Ah2 L,Age L,Ah3 L,Ah4 L]) L (fun kk=>eE (Iw L a0 a1)) h
def Ad8(F:Ah→Aa→Option Int):Prop:=∀y0 y1 r,F y0 y1=some r→Ho Tryz.prog 42 [Di.en y0,Bd.en y1] I r
def c42:=CC Tryz.f42
def O42(Bq:Ah→Aa→Option Int)(L:Nat):Av:=(orc 42 (A2 I Di Bd Bq) (oL [Agd L]))
theorem s42(Bq:Ah→Aa→Option Int)(Agx:Ad8 Bq)(L:Nat):Bu Tryz.prog (O42 Bq L):=(Hu (a2 _ Agx) (oS [Agd L]))
def Adg(a1:Aa)(a0:Ah)(v:Ep):St:=⟨[(0,.any),(1,.any),(2,.loc 2 0),(3,.any),(4,I v.1),(5,.any),(16,lv (.t38 a1.Kids)),(17,I (a1.Kids.length:Int)),(18,I v.2)],[(2,[B a0.u_code]),(3,(Bf a1))],0⟩
def Dl [An A (Nat×Ep)](Bq:Ah→Aa→Option Int)(L:Nat)(a1:Aa)(a0:Ah)(rec:Int→Int→A)(B8:Int)(Bn:Int):A:=
 (lw Bn a1.Kids
 (bd (Bq (⟨a0.u_code⟩:Ah) (Aa.cp (a1.Kids.getD (Int.toNat Bn) default))) fun r2=>
 (cn (r2 != 0)
 (lf (0,r2,Bn))
 (rec B8 (Mu (Bn+1)))))
 (lf (1,B8,Bn)))
def Bk(Bq:Ah→Aa→Option Int)(L:Nat)(a1:Aa)(a0:Ah):Nat→Int→Int→Option (Nat×Ep)
 |0,_,_=>none
 |n+1,B8,Bn=>Dl Bq L a1 a0 (Bk Bq L a1 a0 n) B8 Bn
theorem Ahb(Bq:Ah→Aa→Option Int)(L:Nat)(K:D2)(a1:Aa)(a0:Ah):LP (EV (O42 Bq L) L 9 c42.w.l.u.l.l) [0,1,2,3,4,5,16,17,18] [2,3] (Adg a1 a0) [.ret,.exit 0] (fun n v=>Bk Bq L a1 a0 n v.1 v.2) K:=lE (fun _=>rfl) fun n v ih=>eE (Dl Bq L a1 a0 (fun B8 Bn=>re (ih (B8,Bn))) v.1 v.2)
def Cu [An A Int](Bq:Ah→Aa→Option Int)(L:Nat)(o3:Nat×Ep):A:=
 (sl o3.1 [(lf o3.2.1),
 (lf 0)])
def Ab5(Bq:Ah→Aa→Option Int)(L:Nat)(kk:Mw):D2:=(B7 0 (Hk (EV (O42 Bq L) L 9 c42.w.r) (Kj Tryz.prog (RS Tryz.f42) kk)))
theorem Aix(Bq:Ah→Aa→Option Int)(L:Nat)(kk:Mw)(a1:Aa)(a0:Ah)(o3:Nat×Ep):kX [.ret,.exit 0] (Adg a1 a0) (Ab5 Bq L kk) o3=ob (Cu Bq L o3) (kQ I kk):=eE (Cu Bq L o3)
def Dr [An A Int](Bq:Ah→Aa→Option Int)(L:Nat)(a0:Ah)(a1:Aa)(nx1:A):A:=
 (bd (Fs L (⟨a0.u_code⟩:Ah) (Aa.cp a1)) fun r1=>
 (cn (r1 != 0)
 (lf r1)
 nx1))
def Ku [An A Int](Bq:Ah→Aa→Option Int)(L:Nat)(a0:Ah)(a1:Aa):A:=Dr Bq L a0 a1 (bd (Bk Bq L a1 a0 L 0 0) fun o3=>Cu Bq L o3)
def Hy(Bq:Ah→Aa→Option Int)(L:Nat)(a0:Ah)(a1:Aa):Option Int:=Ku Bq L a0 a1
theorem b42(Bq:Ah→Aa→Option Int)(Agx:Ad8 Bq)(L:Nat):Ad8 (Hy Bq L):=fun a0 a1 r h=>hF Tryz.func42 (s42 Bq Agx L) L (fun kk=>eE (Dr Bq L a0 a1 (ho (Ahb Bq L (Ab5 Bq L kk) a1 a0 L (0,0)) fun o3=>Aix Bq L kk a1 a0 o3))) h
def Bh:Nat→Ah→Aa→Option Int
 |0,_,_=>none
 |L+1,a0,a1=>Hy (Bh L) L a0 a1
theorem Agt(L:Nat):Ad8 (Bh L):=by
 induction L with
 |zero=>exact fun _ _ _ h=>(by cases h)
 |succ L ih=>
  have i42:=ih
  exact b42 (Bh L) i42 L
def X42(L:Nat):Oe:=E2 I 42 Di Bd (Bh L) (Agt L)
def H8 [An A Int](a0:Ah)(a1:Aa):A:=
 (bd (C6 L (Aa.cp a1)) fun r1=>
 (cn (decide (r1 > 60))
 (lf 6)
 (bd (C5 L (Aa.cp a1)) fun r2=>
 (cn (decide (r2 > 12))
 (lf 11)
 (bd (Bh L (⟨a0.u_code⟩:Ah) (Aa.cp a1)) fun r3=>
 (lf r3))))))
def Em(a0:Ah)(a1:Aa):Option Int:=H8 L a0 a1
def X21:Oe:=E2 I 21 Di Bd (Em L) fun a0 a1 r h=>hF Tryz.func21 (oS [X40 L,X41 L,X42 L]) L (fun kk=>eE (H8 L a0 a1)) h
def Lv [An A Int](a0:Aa):A:=
 (bd (Em L (⟨false⟩:Ah) (Aa.cp a0)) fun r1=>
 (lf r1))
def D4(a0:Aa):Option Int:=Lv L a0
def X13:Oe:=E1 I 13 Bd (D4 L) fun a0 r h=>hF Tryz.func13 (oS [X21 L]) L (fun kk=>eE (Lv L a0)) h
def H3(L:Nat)(a0:Aa):Option (List ByteArray):=(D4 L a0).bind fun e=>if V7 a0≤1048576 then some (if e=0 then Im a0 else []) else none
def X7(L:Nat):Oe:=E1 (fun(x:List ByteArray)=>lv (.t9 x)) 7 Bd (H3 L) fun a0 r h=>by
 unfold H3 at h
 cases hc:D4 L a0 with
 |none=>rw [hc] at h;cases h
 |some e=>
  rw [hc,Option.bind_some] at h
  split at h
  ·rename_i hn
   injection h with h
   subst h
   obtain ⟨r,h1,h2⟩:=(X13 L).h [.agg (Bf a0)] (fun p=>p=I e) (by
    cases a0 with
    |mk a b c d=>
     show ob (D4 L (.mk a b c d)) (fun r=>I r=I e)
     rw [hc];rfl)
   subst h2
   exact Aco a0 e h1 hn
  ·cases h
def Aia:=CC Tryz.f120
def Agb(L:Nat):Av:=oL []
def u5(a0:List ByteArray)(a1:ByteArray)(v:Ep):St:=⟨[(0,lv (.t9 a0)),(1,S a1),(4,I v.1),(7,I (a0.length:Int)),(8,I v.2)],[],0⟩
def Cp [An A (Nat×Ep)](L:Nat)(a0:List ByteArray)(a1:ByteArray)(rec:Int→Int→A)(Bm:Int)(D1:Int):A:=
 (lw D1 a0
 (cn (a1.toList == (a0.getD (Int.toNat D1) default).toList)
 (lf (0,D1,D1))
 (rec Bm (Mu (D1+1))))
 (lf (1,Bm,D1)))
def A9(L:Nat)(a0:List ByteArray)(a1:ByteArray):Nat→Int→Int→Option (Nat×Ep)
 |0,_,_=>none
 |n+1,Bm,D1=>Cp L a0 a1 (A9 L a0 a1 n) Bm D1
theorem Aem(a0:List ByteArray)(a1:ByteArray):LP (EV (Agb L) L 9 Aia.u.l.u.l.l) [0,1,4,7,8] [] (u5 a0 a1) [.ret,.exit 0] (fun n v=>A9 L a0 a1 n v.1 v.2) K:=lE (fun _=>rfl) fun n v ih=>eE (Cp L a0 a1 (fun Bm D1=>re (ih (Bm,D1))) v.1 v.2)
def Cq [An A Int](L:Nat)(o1:Nat×Ep):A:=
 (sl o1.1 [(lf o1.2.1),
 (lf (-1))])
def o0:D2:=(B7 0 (Hk (EV (Agb L) L 9 Aia.u.r) (Kj Tryz.prog (RS Tryz.f120) kk)))
theorem Ahk(a0:List ByteArray)(a1:ByteArray)(o1:Nat×Ep):kX [.ret,.exit 0] (u5 a0 a1) (o0 L kk) o1=ob (Cq L o1) (kQ I kk):=eE (Cq L o1)
def Iq [An A Int](a0:List ByteArray)(a1:ByteArray):A:=(bd (A9 L a0 a1 L 0 0) fun o1=>Cq L o1)
def Bb(a0:List ByteArray)(a1:ByteArray):Option Int:=Iq L a0 a1
def Ah0:Oe:=E2 I 120 cl9 cS (Bb L) fun a0 a1 r h=>hF Tryz.func120 (C:=Agb L) (oS _) L (fun kk=>eE ((ho (Aem L (o0 L kk) a0 a1 L (0,0)) fun o1=>Ahk L kk a0 a1 o1))) h
def Aib:=CC Tryz.f127
def c65:=CC Tryz.f65
def O65(L:Nat):Av:=oL []
def Adl(p1_0:List Ay)(p1_1:Ab)(p1_2:ByteArray)(v:Ep):St:=⟨[(0,lv (.t55 p1_0)),(1,.clo 128 0 [.loc 3 0]),(4,I v.1),(7,I (p1_0.length:Int)),(8,I v.2)],[(2,(Ak p1_1)),(3,[S p1_2])],4⟩
def D7 [An A (Nat×Ep)](L:Nat)(p1_0:List Ay)(p1_1:Ab)(p1_2:ByteArray)(rec:Int→Int→A)(Aq:Int)(Bn:Int):A:=
 (lw Bn p1_0
 (cn (((p1_0.getD (Int.toNat Bn) default).Name).toList == p1_2.toList)
 (lf (0,Bn,Bn))
 (rec Aq (Mu (Bn+1))))
 (lf (1,Aq,Bn)))
def Br(L:Nat)(p1_0:List Ay)(p1_1:Ab)(p1_2:ByteArray):Nat→Int→Int→Option (Nat×Ep)
 |0,_,_=>none
 |n+1,Aq,Bn=>D7 L p1_0 p1_1 p1_2 (Br L p1_0 p1_1 p1_2 n) Aq Bn
theorem Ahg(p1_0:List Ay)(p1_1:Ab)(p1_2:ByteArray):LP (EV (O65 L) L 8 Aib.u.l.u.l.l) [0,1,4,7,8] [2,3] (Adl p1_0 p1_1 p1_2) [.ret,.exit 0] (fun n v=>Br L p1_0 p1_1 p1_2 n v.1 v.2) K:=lE (fun _=>rfl) fun n v ih=>eE (D7 L p1_0 p1_1 p1_2 (fun Aq Bn=>re (ih (Aq,Bn))) v.1 v.2)
def Zz(p1_0:List Ay)(p1_1:Ab)(p1_2:ByteArray)(k:Mh):Int→Prop:=fun o=>k (I o) [(2,(Ak p1_1)),(3,[S p1_2])]
def D8 [An A Int](L:Nat)(o1:Nat×Ep):A:=
 (sl o1.1 [(lf o1.2.1),
 (lf (-1))])
def Acd:D2:=(B7 0 (Hk (EV (O65 L) L 8 Aib.u.r) (V1 Tryz.prog (RS Tryz.f127) k)))
theorem Ai4(p1_0:List Ay)(p1_1:Ab)(p1_2:ByteArray)(o1:Nat×Ep):kX [.ret,.exit 0] (Adl p1_0 p1_1 p1_2) (Acd L k) o1=ob (D8 L o1) (Zz p1_0 p1_1 p1_2 k):=eE (D8 L o1)
def Ki [An A Int](p1_0:List Ay)(p1_1:Ab)(p1_2:ByteArray):A:=(bd (Br L p1_0 p1_1 p1_2 L 0 0) fun o1=>D8 L o1)
def D6(p1_0:List Ay)(p1_1:Ab)(p1_2:ByteArray):Option Int:=Ki L p1_0 p1_1 p1_2
theorem Ag2(p1_0:List Ay)(p1_1:Ab)(p1_2:ByteArray):YO (O65 L) L 9 127 [lv (.t55 p1_0),.clo 128 0 [.loc 3 0]] [(2,(Ak p1_1)),(3,[S p1_2])] k=ob (D6 L p1_0 p1_1 p1_2) (Zz p1_0 p1_1 p1_2 k):=(P0 _ _ _ jn4 _ _ _ _ _ _ _).trans (eE ((ho (Ahg L (Acd L k) p1_0 p1_1 p1_2 L (0,0)) fun o1=>Ai4 L k p1_0 p1_1 p1_2 o1)))
def Dd [An A Int](L:Nat)(o2:Int):A:=
 (lf o2)
def Ace(a0:Ab)(a1:ByteArray):Mh:=(T8 Tryz.prog (O65 L) (EI (O65 L) L 9) 1 (List.drop 4 c65.u.l.ops) ⟨[(7,.clo 128 0 [.loc 3 0]),(6,lv (.t55 a0.Routines)),(5,.loc 2 10),(2,.loc 2 0),(3,.loc 3 0),(4,I 0)],[(2,(Ak a0)),(3,[S a1])],0⟩ (some 8) (fun st9=>(Hk (EV (O65 L) L 9 c65.u.r) (Kj Tryz.prog (RS Tryz.f65) kk)) .normal st9))
theorem Ai5(a0:Ab)(a1:ByteArray)(o2:Int):Zz a0.Routines a0 a1 (Ace L kk a0 a1) o2=ob (Dd L o2) (kQ I kk):=eE (Dd L o2)
def Mi [An A Int](a0:Ab)(a1:ByteArray):A:=(bd (D6 L a0.Routines a0 a1) fun o2=>Dd L o2)
def G6(a0:Ab)(a1:ByteArray):Option Int:=Mi L a0 a1
def X65:Oe:=E2 I 65 Jp cS (G6 L) fun a0 a1 r h=>hF Tryz.func65 (C:=O65 L) (oS _) L (fun kk=>eE ((ho (Ag2 L (Ace L kk a0 a1) a0.Routines a0 a1) fun o2=>Ai5 L kk a0 a1 o2))) h
end
end Go.Proofs.YtmimkinjcfekmaaGreat.Ev
