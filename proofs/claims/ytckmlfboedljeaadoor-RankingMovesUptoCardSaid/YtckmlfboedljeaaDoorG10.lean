import Derived.Test.YtckmlfboedljeaaDoorG1
import Derived.Test.YtckmlfboedljeaaDoorG2
import Derived.Test.YtckmlfboedljeaaDoorG4
import Derived.Test.YtckmlfboedljeaaDoorG5
import Derived.Test.YtckmlfboedljeaaDoorG7
import Derived.Test.YtckmlfboedljeaaDoorG8
import Derived.Test.YtckmlfboedljeaaDoorG9
namespace Go.Proofs.YtckmlfboedljeaaDoor.Ev
open Go An
set_option maxRecDepth 100000
set_option maxHeartbeats 4000000
set_option linter.unusedVariables false
set_option linter.unusedSimpArgs false
set_option linter.unnecessarySimpa false
noncomputable section
variable {A:Type} (L n:Nat) (kk:R5) (K:Bu) (k:Tv)
def Km [An A Bool](a0:List Ab)(a1:Int):A:=
 (bd (H1 L a0) fun r1=>
 (cn (!r1)
 (bd (Bs L) fun r2=>
 (lf r2))
 (bd (Ea L a0 a1) fun r3=>
 (bd (Rg L a0 a1) fun r4=>
 (bd (M6 L r3.1 r4.1) fun r5=>
 (jp (.cn r5
 (.lf (r3.2 == r4.2))
 (.lf false)) (fun b6=>
 (jb (.cn b6
 (.bd (Bs L) fun r8=>
 (.lf r8))
 (.lf false)) (fun b7=>
 (lf b7))))))))))
def Kl(a0:List Ab)(a1:Int):Option Bool:=Km L a0 a1
theorem h4(a0:List Ab)(a1:Int)(r:Bool)(h:Kl L a0 a1=some r):Jy Tryd.prog 4 [lv (.t39 a0),I a1] (B r):=(show Ho Tryd.prog 4 [lv (.t39 a0),I a1] B r from hF Tryd.func4 (oS [X7 L,X8 L,X15 L,X16 L,X17 L]) L (fun kk=>eE (Km L a0 a1)) h)
def c5:=CC Tryd.f5
def O5:Aq:=oL [X7 L,X8 L,X16 L,X18 L,X19 L,X20 L,X21 L]
def Auf:Bu:=(Bi 2 (Ek (EV (O5 L) L 9 c5.x.u.l.u.l.l.u.l.l.x.r) (Bi 1 (Ek (EV (O5 L) L 9 c5.x.u.l.u.l.l.u.r) (Ac0 (Xr (EV (O5 L) L 9 c5.x.u.l.u.l.l) [0,1,4,5,6,7] [] n) [0,1,4,5,6,7] [] K)))))
def Aqo(a0:List Ab)(a1:Int)(Ae:Bool)(r3:(List Ab)×Int)(Ai:Int)(r7:Ac×Int)(v:Ud):St:=⟨[(0,lv (.t39 a0)),(1,I a1),(4,B Ae),(5,lv (.t39 r3.1)),(6,.any),(7,I Ai),(8,.loc 8 0),(9,I r7.2),(10,B v.1),(11,I v.2)],[(8,(Pv r7.1))],0⟩
def F2 [An A (Nat×Ud)](a0:List Ab)(a1:Int)(Ae:Bool)(r3:(List Ab)×Int)(Ai:Int)(r7:Ac×Int)(rec:Bool→Int→A)(C1:Bool)(Cw:Int):A:=
 (lw Cw a0
 (bd (Iu L ((a0.getD (Int.toNat Cw) default).Seen)) fun r8=>
 (jb (.cn C1
 (.lf true)
 (.cn (r8.2 == 0)
 (.gq (0≤Cw)
 (.gq (Cw < (r3.1.length:Int))
 (.cn ((r3.1.getD (Int.toNat Cw) default).Out == 0)
 (.bd (D6 L r7.1 r8.1) fun r10=>
 (.cn r10
 (.bd (Ge L r7.1.Mean r8.1.Mean) fun r11=>
 (.lf (decide (r11 > 0))))
 (.lf false)))
 (.lf false))))
 (.lf false))) (fun b9=>
 (rec b9 (B1 (Cw+1))))))
 (lf (0,C1,Cw)))
def Bb(L:Nat)(a0:List Ab)(a1:Int)(Ae:Bool)(r3:(List Ab)×Int)(Ai:Int)(r7:Ac×Int):Nat→Bool→Int→Option (Nat×Ud)
 |0,_,_=>none
 |n+1,C1,Cw=>F2 L a0 a1 Ae r3 Ai r7 (Bb L a0 a1 Ae r3 Ai r7 n) C1 Cw
theorem Aug(a0:List Ab)(a1:Int)(Ae:Bool)(r3:(List Ab)×Int)(Ai:Int)(r7:Ac×Int):LP (EV (O5 L) L 9 c5.x.u.l.u.l.l.u.l.l.x.l.u.l.l) [0,1,4,5,6,7,8,9,10,11] [8] (Aqo a0 a1 Ae r3 Ai r7) [.exit 2] (fun n v=>Bb L a0 a1 Ae r3 Ai r7 n v.1 v.2) K:=lE (fun _=>rfl) fun n v ih=>eE (F2 L a0 a1 Ae r3 Ai r7 (fun C1 Cw=>re (ih (C1,Cw))) v.1 v.2)
def Aj4(a0:List Ab)(a1:Int)(r3:(List Ab)×Int)(v:Ud):St:=⟨[(0,lv (.t39 a0)),(1,I a1),(4,B v.1),(5,lv (.t39 r3.1)),(6,.any),(7,I v.2)],[],0⟩
def Ds [An A (Nat×Ud)](L:Nat)(Ai:Int)(Ae:Bool)(rec:Bool→Int→A)(o13:Nat×Ud):A:=
 (sl o13.1 [(cn (!o13.2.1)
 (lf (0,false,Ai))
 (rec Ae (B1 (Ai+1))))])
def Dt [An A (Nat×Ud)](L:Nat)(Ai:Int)(Ae:Bool)(rec:Bool→Int→A)(o14:Nat×Ud):A:=
 (sl o14.1 [(cn (!o14.2.1)
 (lf (0,false,Ai))
 (rec Ae (B1 (Ai+1))))])
def F7 [An A (Nat×Ud)](a0:List Ab)(a1:Int)(r3:(List Ab)×Int)(rec:Bool→Int→A)(Ae:Bool)(Ai:Int)(nx1:Bool→Int→(Ac×Int)→A)(nx2:Bool→Int→(Ac×Int)→A):A:=
 (cn (decide (Ai < (a0.length:Int)))
 (gi Ai r3.1
 (gi Ai a0
 (cn ((r3.1.getD (Int.toNat Ai) default).Point != (a0.getD (Int.toNat Ai) default).Point)
 (lf (0,false,Ai))
 (gi Ai r3.1
 (gi Ai a0
 (bd (La L ((r3.1.getD (Int.toNat Ai) default).Seen) ((a0.getD (Int.toNat Ai) default).Seen)) fun r6=>
 (cn (!r6)
 (lf (0,false,Ai))
 (gi Ai r3.1
 (gi Ai a0
 (cn ((r3.1.getD (Int.toNat Ai) default).Out != (a0.getD (Int.toNat Ai) default).Out)
 (gi Ai a0
 (cn ((a0.getD (Int.toNat Ai) default).Out != 0)
 (lf (0,false,Ai))
 (gi Ai r3.1
 (cn ((r3.1.getD (Int.toNat Ai) default).Out != a1)
 (lf (0,false,Ai))
 (gi Ai a0
 (cn (decide ((((a0.getD (Int.toNat Ai) default).Seen).length:Int) < 2))
 (lf (0,false,Ai))
 (gi Ai r3.1
 (gi Ai a0
 (cn ((r3.1.getD (Int.toNat Ai) default).Out == (a0.getD (Int.toNat Ai) default).Out)
 (rec Ae (B1 (Ai+1)))
 (gi Ai a0
 (bd (Iu L ((a0.getD (Int.toNat Ai) default).Seen)) fun r7=>
 (nx1 Ae Ai r7))))))))))))
 (gi Ai r3.1
 (gi Ai a0
 (cn ((r3.1.getD (Int.toNat Ai) default).Out == (a0.getD (Int.toNat Ai) default).Out)
 (rec Ae (B1 (Ai+1)))
 (gi Ai a0
 (bd (Iu L ((a0.getD (Int.toNat Ai) default).Seen)) fun r12=>
 (nx2 Ae Ai r12))))))))))))))))
 (lf (1,Ae,Ai)))
def Jc [An A (Nat×Ud)](a0:List Ab)(a1:Int)(r3:(List Ab)×Int)(rec:Bool→Int→A)(Ae:Bool)(Ai:Int):A:=F7 L a0 a1 r3 rec Ae Ai (fun Ae Ai r7=>bd (Bb L a0 a1 Ae r3 Ai r7 L false 0) fun o13=>Ds L Ai Ae rec o13) (fun Ae Ai r12=>bd (Bb L a0 a1 Ae r3 Ai r12 L false 0) fun o14=>Dt L Ai Ae rec o14)
def Bo(L:Nat)(a0:List Ab)(a1:Int)(r3:(List Ab)×Int):Nat→Bool→Int→Option (Nat×Ud)
 |0,_,_=>none
 |n+1,Ae,Ai=>Jc L a0 a1 r3 (Bo L a0 a1 r3 n) Ae Ai
def Ami(a0:List Ab)(a1:Int)(r3:(List Ab)×Int):Prop:=LI (EV (O5 L) L 9 c5.x.u.l.u.l.l) [0,1,4,5,6,7] [] (Aj4 a0 a1 r3) [.ret,.exit 0] (fun n v=>Bo L a0 a1 r3 n v.1 v.2) K n
def At6:Bu:=(Auf L n K)
theorem A1t(a0:List Ab)(a1:Int)(Ae:Bool)(r3:(List Ab)×Int)(Ai:Int)(r7:Ac×Int)(ih:Ami L n K a0 a1 r3)(o13:Nat×Ud):kX [.exit 2] (Aqo a0 a1 Ae r3 Ai r7) (At6 L n K) o13=ob (Ds L Ai Ae (Bo L a0 a1 r3 n) o13) (kX [.ret,.exit 0] (Aj4 a0 a1 r3) K):=eE (Ds L Ai Ae (fun Ae Ai=>re (ih (Ae,Ai))) o13)
def At7:Bu:=(Auf L n K)
theorem A1u(a0:List Ab)(a1:Int)(Ae:Bool)(r3:(List Ab)×Int)(Ai:Int)(r12:Ac×Int)(ih:Ami L n K a0 a1 r3)(o14:Nat×Ud):kX [.exit 2] (Aqo a0 a1 Ae r3 Ai r12) (At7 L n K) o14=ob (Dt L Ai Ae (Bo L a0 a1 r3 n) o14) (kX [.ret,.exit 0] (Aj4 a0 a1 r3) K):=eE (Dt L Ai Ae (fun Ae Ai=>re (ih (Ae,Ai))) o14)
theorem Axy(a0:List Ab)(a1:Int)(r3:(List Ab)×Int):∀n,Ami L n K a0 a1 r3:=lE (fun _=>rfl) fun n v ih=>eE (F7 L a0 a1 r3 (fun Ae Ai=>re (ih (Ae,Ai))) v.1 v.2 (fun Ae Ai r7=>ho (Aug L (At6 L n K) a0 a1 Ae r3 Ai r7 L (false,0)) fun o13=>A1t L n K a0 a1 Ae r3 Ai r7 ih o13) (fun Ae Ai r12=>ho (Aug L (At7 L n K) a0 a1 Ae r3 Ai r12 L (false,0)) fun o14=>A1u L n K a0 a1 Ae r3 Ai r12 ih o14))
def Du [An A Bool](o15:Nat×Ud):A:=
 (sl o15.1 [(lf o15.2.1),
 (bd (Bs L) fun r16=>
 (lf r16))])
def At8:Bu:=(Bi 0 (Ek (EV (O5 L) L 9 c5.x.u.r) (Gv Tryd.prog (RS Tryd.f5) kk)))
theorem A1v(a0:List Ab)(a1:Int)(r3:(List Ab)×Int)(o15:Nat×Ud):kX [.ret,.exit 0] (Aj4 a0 a1 r3) (At8 L kk) o15=ob (Du L o15) (kQ B kk):=eE (Du L o15)
def F8 [An A Bool](a0:List Ab)(a1:Int)(nx3:((List Ab)×Int)→A):A:=
 (bd (H1 L a0) fun r1=>
 (cn (!r1)
 (bd (Bs L) fun r2=>
 (lf r2))
 (bd (Ea L a0 a1) fun r3=>
 (cn (r3.2 != 0)
 (jb (.cn ((r3.1.length:Int) == 0)
 (.bd (Bs L) fun r5=>
 (.lf r5))
 (.lf false)) (fun b4=>
 (lf b4)))
 (cn ((r3.1.length:Int) != (a0.length:Int))
 (lf false)
 (nx3 r3))))))
def Qe [An A Bool](a0:List Ab)(a1:Int):A:=F8 L a0 a1 (fun r3=>bd (Bo L a0 a1 r3 L false 0) fun o15=>Du L o15)
def K8(a0:List Ab)(a1:Int):Option Bool:=Qe L a0 a1
theorem h5(a0:List Ab)(a1:Int)(r:Bool)(h:K8 L a0 a1=some r):Jy Tryd.prog 5 [lv (.t39 a0),I a1] (B r):=(show Ho Tryd.prog 5 [lv (.t39 a0),I a1] B r from hF Tryd.func5 (C:=O5 L) (oS _) L (fun kk=>eE (F8 L a0 a1 (fun r3=>ho (Axy L (At8 L kk) a0 a1 r3 L (false,0)) fun o15=>A1v L kk a0 a1 r3 o15))) h)
def Sr [An A P5](a0:Ab):A:=
 (bd (Iu L a0.Seen) fun r1=>
 (bd (Jw L r1.1.Mean r1.1.Half) fun r2=>
 (bd (Gr L r1.1.Mean r1.1.Half) fun r3=>
 (lf (⟨(r1.2 == 0),r2.2,r3.2⟩:P5)))))
def Gh(a0:Ab):Option P5:=Sr L a0
def X24:Hy:=E1 (fun(x:P5)=> .agg (Aep x)) 24 Zv (Gh L) fun a0 r h=>hF Tryd.func24 (oS [X19 L,X22 L,X58 L]) L (fun kk=>eE (Sr L a0)) h
def c6:=CC Tryd.f6
def O6:Aq:=oL [X7 L,X8 L,X11 L,X16 L,X22 L,X23 L,X24 L]
def Aus(a0:List Ab)(a1:Int)(Af:List Ab)(Ai:Int)(v:Bool×Int×List Aa):St:=⟨[(0,lv (.t39 a0)),(1,I a1),(4,B v.1),(5,.lst true (.t39 Af)),(6,I Ai),(7,.loc 7 0),(12,.any),(13,.any),(14,.any),(15,.any),(16,.any),(17,.any),(18,.any),(19,.any),(20,.any),(21,.any),(22,.any),(23,.any),(24,.any),(58,lv (.t24 ((a0.getD (Int.toNat Ai) default).Seen))),(59,I (((a0.getD (Int.toNat Ai) default).Seen).length:Int)),(60,I v.2.1)],[(7,[I (a0.getD (Int.toNat Ai) default).Point,.lst true (.t24 v.2.2),I (a0.getD (Int.toNat Ai) default).Out])],0⟩
def F3 [An A (Nat×Bool×Int×List Aa)](a0:List Ab)(a1:Int)(Af:List Ab)(Ai:Int)(rec:Bool→Int→List Aa→A)(D3:Bool)(Cw:Int)(P2:List Aa):A:=
 (lw Cw ((a0.getD (Int.toNat Ai) default).Seen)
 (bd (Gr L (((a0.getD (Int.toNat Ai) default).Seen).getD (Int.toNat Cw) default) (⟨a1,1⟩:Aa)) fun r5=>
 (cn (!r5.2)
 (bd (Bs L) fun r6=>
 (lf (0,r6,Cw,P2)))
 (gq ((P2.length+ [r5.1].length)*16≤140737488355328)
 (gq (P2.length+ [r5.1].length≤maxLen)
 (rec D3 (B1 (Cw+1)) (P2++ [r5.1]))))))
 (lf (1,D3,Cw,P2)))
def Bp(L:Nat)(a0:List Ab)(a1:Int)(Af:List Ab)(Ai:Int):Nat→Bool→Int→List Aa→Option (Nat×Bool×Int×List Aa)
 |0,_,_,_=>none
 |n+1,D3,Cw,P2=>F3 L a0 a1 Af Ai (Bp L a0 a1 Af Ai n) D3 Cw P2
theorem Ax0(a0:List Ab)(a1:Int)(Af:List Ab)(Ai:Int):LP (EV (O6 L) L 9 c6.w.u.l.u.l.l.u.l.l.u.l.u.l.l) [0,1,4,5,6,7,12,13,14,15,16,17,18,19,20,21,22,23,24,58,59,60] [7] (Aus a0 a1 Af Ai) [.ret,.exit 2] (fun n v=>Bp L a0 a1 Af Ai n v.1 v.2.1 v.2.2) K:=lE (fun _=>rfl) fun n v ih=>eE (F3 L a0 a1 Af Ai (fun D3 Cw P2=>re (ih (D3,Cw,P2))) v.1 v.2.1 v.2.2)
def Aqs(a0:List Ab)(a1:Int)(v:Bool×List Ab×Int):St:=⟨[(0,lv (.t39 a0)),(1,I a1),(4,B v.1),(5,.lst true (.t39 v.2.1)),(6,I v.2.2),(16,.any),(17,.any),(18,.any),(19,.any),(20,.any),(21,.any),(22,.any),(23,.any),(24,.any)],[],0⟩
def Dv [An A (Nat×Bool×List Ab×Int)](Af:List Ab)(Ai:Int)(a0:List Ab)(rec:Bool→List Ab→Int→A)(o7:Nat×Bool×Int×List Aa):A:=
 (sl o7.1 [(lf (0,o7.2.1,Af,Ai)),
 (gi Ai a0
 (bd (Ew L (a0.getD (Int.toNat Ai) default)) fun r8=>
 (bd (Ew L (⟨(a0.getD (Int.toNat Ai) default).Point,o7.2.2.2,(a0.getD (Int.toNat Ai) default).Out⟩:Ab)) fun r9=>
 (cn (!(r8.2 == r9.2))
 (bd (Bs L) fun r10=>
 (lf (0,r10,Af,Ai)))
 (gi Ai a0
 (bd (Gh L (a0.getD (Int.toNat Ai) default)) fun r11=>
 (bd (Gh L (⟨(a0.getD (Int.toNat Ai) default).Point,o7.2.2.2,(a0.getD (Int.toNat Ai) default).Out⟩:Ab)) fun r12=>
 (cn (!((r11.a0 == r12.a0) && ((r11.a1 == r12.a1) && ((r11.a2 == r12.a2) && true))))
 (bd (Bs L) fun r13=>
 (lf (0,r13,Af,Ai)))
 (gq ((Af.length+ [(⟨(a0.getD (Int.toNat Ai) default).Point,o7.2.2.2,(a0.getD (Int.toNat Ai) default).Out⟩:Ab)].length)*40≤140737488355328)
 (gq (Af.length+ [(⟨(a0.getD (Int.toNat Ai) default).Point,o7.2.2.2,(a0.getD (Int.toNat Ai) default).Out⟩:Ab)].length≤maxLen)
 (rec o7.2.1 (Af++ [(⟨(a0.getD (Int.toNat Ai) default).Point,o7.2.2.2,(a0.getD (Int.toNat Ai) default).Out⟩:Ab)]) (B1 (Ai+1)))))))))))))])
def F9 [An A (Nat×Bool×List Ab×Int)](L:Nat)(a0:List Ab)(a1:Int)(rec:Bool→List Ab→Int→A)(Ae:Bool)(Af:List Ab)(Ai:Int)(nx1:(List Ab)→Int→Bool→A):A:=
 (lw Ai a0
 (gi Ai a0
 (gi Ai a0
 (nx1 Af Ai Ae)))
 (lf (1,Ae,Af,Ai)))
def Jd [An A (Nat×Bool×List Ab×Int)](a0:List Ab)(a1:Int)(rec:Bool→List Ab→Int→A)(Ae:Bool)(Af:List Ab)(Ai:Int):A:=F9 L a0 a1 rec Ae Af Ai (fun Af Ai Ae=>bd (Bp L a0 a1 Af Ai L Ae 0 []) fun o7=>Dv L Af Ai a0 rec o7)
def B2(L:Nat)(a0:List Ab)(a1:Int):Nat→Bool→List Ab→Int→Option (Nat×Bool×List Ab×Int)
 |0,_,_,_=>none
 |n+1,Ae,Af,Ai=>Jd L a0 a1 (B2 L a0 a1 n) Ae Af Ai
def Aty(a0:List Ab)(a1:Int):Prop:=LI (EV (O6 L) L 9 c6.w.u.l.u.l.l) [0,1,4,5,6,16,17,18,19,20,21,22,23,24] [] (Aqs a0 a1) [.ret,.exit 0] (fun n v=>B2 L a0 a1 n v.1 v.2.1 v.2.2) K n
def At9:Bu:=(Bi 2 (Ek (EV (O6 L) L 9 c6.w.u.l.u.l.l.u.l.l.u.r) (Bi 1 (Ek (EV (O6 L) L 9 c6.w.u.l.u.l.l.u.r) (Ac0 (Xr (EV (O6 L) L 9 c6.w.u.l.u.l.l) [0,1,4,5,6,16,17,18,19,20,21,22,23,24] [] n) [0,1,4,5,6,16,17,18,19,20,21,22,23,24] [] K)))))
theorem A1w(a0:List Ab)(a1:Int)(Af:List Ab)(Ai:Int)(ih:Aty L n K a0 a1)(o7:Nat×Bool×Int×List Aa):kX [.ret,.exit 2] (Aus a0 a1 Af Ai) (At9 L n K) o7=ob (Dv L Af Ai a0 (B2 L a0 a1 n) o7) (kX [.ret,.exit 0] (Aqs a0 a1) K):=eE (Dv L Af Ai a0 (fun Ae Af Ai=>re (ih (Ae,Af,Ai))) o7)
theorem Axz(a0:List Ab)(a1:Int):∀n,Aty L n K a0 a1:=lE (fun _=>rfl) fun n v ih=>eE (F9 L a0 a1 (fun Ae Af Ai=>re (ih (Ae,Af,Ai))) v.1 v.2.1 v.2.2 (fun Af Ai Ae=>ho (Ax0 L (At9 L n K) a0 a1 Af Ai L (Ae,0,[])) fun o7=>A1w L n K a0 a1 Af Ai ih o7))
def Aut(a0:List Ab)(r15:(List Ab)×Int)(r16:(List Ab)×Int)(v:Ud):St:=⟨[(0,lv (.t39 a0)),(1,.any),(4,B v.1),(5,.any),(6,.any),(7,.any),(9,.any),(10,.any),(11,.any),(12,.any),(13,.any),(14,.any),(15,.any),(16,lv (.t39 r15.1)),(17,I r15.2),(18,lv (.t39 r16.1)),(19,I r16.2),(20,.any),(21,.any),(22,.any),(23,.any),(24,I v.2),(60,.any)],[],0⟩
def F4 [An A (Nat×Ud)](L:Nat)(a0:List Ab)(r15:(List Ab)×Int)(r16:(List Ab)×Int)(rec:Bool→Int→A)(Ama:Bool)(Et:Int):A:=
 (jp (.cn (decide (Et < (a0.length:Int)))
 (.lf (r15.2 == 0))
 (.lf false)) (fun b20=>
 (jp (.cn b20
 (.lf (r16.2 == 0))
 (.lf false)) (fun b21=>
 (cn b21
 (cn ((r15.1.length:Int) != (a0.length:Int))
 (lf (0,false,Et))
 (cn ((r16.1.length:Int) != (a0.length:Int))
 (lf (0,false,Et))
 (gi Et r15.1
 (gi Et r16.1
 (cn ((r15.1.getD (Int.toNat Et) default).Out != (r16.1.getD (Int.toNat Et) default).Out)
 (lf (0,false,Et))
 (rec Ama (B1 (Et+1))))))))
 (lf (1,Ama,Et)))))))
def Cb(L:Nat)(a0:List Ab)(r15:(List Ab)×Int)(r16:(List Ab)×Int):Nat→Bool→Int→Option (Nat×Ud)
 |0,_,_=>none
 |n+1,Ama,Et=>F4 L a0 r15 r16 (Cb L a0 r15 r16 n) Ama Et
theorem Ax1(a0:List Ab)(r15:(List Ab)×Int)(r16:(List Ab)×Int):LP (EV (O6 L) L 9 c6.x.x.u.l.u.l.l) [0,1,4,5,6,7,9,10,11,12,13,14,15,16,17,18,19,20,21,22,23,24,60] [] (Aut a0 r15 r16) [.ret,.exit 4] (fun n v=>Cb L a0 r15 r16 n v.1 v.2) K:=lE (fun _=>rfl) fun n v ih=>eE (F4 L a0 r15 r16 (fun Ama Et=>re (ih (Ama,Et))) v.1 v.2)
def Dw [An A Bool](o22:Nat×Ud):A:=
 (sl o22.1 [(lf o22.2.1),
 (bd (Bs L) fun r23=>
 (lf r23))])
def Aub:Bu:=(Bi 4 (Ek (EV (O6 L) L 9 c6.x.x.u.r) (Gv Tryd.prog (RS Tryd.f6) kk)))
theorem A1y(a0:List Ab)(r15:(List Ab)×Int)(r16:(List Ab)×Int)(o22:Nat×Ud):kX [.ret,.exit 4] (Aut a0 r15 r16) (Aub L kk) o22=ob (Dw L o22) (kQ B kk):=eE (Dw L o22)
def Gb [An A Bool](a0:List Ab)(o14:Nat×Bool×List Ab×Int)(nx3:((List Ab)×Int)→((List Ab)×Int)→(Nat×Bool×List Ab×Int)→A):A:=
 (sl o14.1 [(lf o14.2.1),
 (bd (Ea L a0 3) fun r15=>
 (bd (Ea L o14.2.2.1 3) fun r16=>
 (bd (Hm L a0) fun r17=>
 (bd (Hm L o14.2.2.1) fun r18=>
 (jp (.cn (r17.1 != r18.1)
 (.lf true)
 (.lf (!(r17.2 == r18.2)))) (fun b19=>
 (cn b19
 (lf false)
 (nx3 r15 r16 o14))))))))])
def F6 [An A Bool](a0:List Ab)(o14:Nat×Bool×List Ab×Int):A:=Gb L a0 o14 (fun r15 r16 o14=>bd (Cb L a0 r15 r16 L o14.2.1 0) fun o22=>Dw L o22)
def Aua:Bu:=(Bi 0 (Ek (EV (O6 L) L 9 c6.w.u.r) (Gv Tryd.prog (RS Tryd.f6) kk)))
theorem A1x(a0:List Ab)(a1:Int)(o14:Nat×Bool×List Ab×Int):kX [.ret,.exit 0] (Aqs a0 a1) (Aua L kk) o14=ob (F6 L a0 o14) (kQ B kk):=eE (Gb L a0 o14 (fun r15 r16 o14=>ho (Ax1 L (Aub L kk) a0 r15 r16 L (o14.2.1,0)) fun o22=>A1y L kk a0 r15 r16 o22))
def Ga [An A Bool](a0:List Ab)(a1:Int)(nx2:A):A:=
 (bd (H1 L a0) fun r1=>
 (jp (.cn (!r1)
 (.lf true)
 (.lf (decide (a1 < (-1000))))) (fun b2=>
 (jp (.cn b2
 (.lf true)
 (.lf (decide (a1 > 1000)))) (fun b3=>
 (cn b3
 (bd (Bs L) fun r4=>
 (lf r4))
 nx2))))))
def Qf [An A Bool](a0:List Ab)(a1:Int):A:=Ga L a0 a1 (bd (B2 L a0 a1 L false [] 0) fun o14=>F6 L a0 o14)
def K9(a0:List Ab)(a1:Int):Option Bool:=Qf L a0 a1
theorem h6(a0:List Ab)(a1:Int)(r:Bool)(h:K9 L a0 a1=some r):Jy Tryd.prog 6 [lv (.t39 a0),I a1] (B r):=(show Ho Tryd.prog 6 [lv (.t39 a0),I a1] B r from hF Tryd.func6 (C:=O6 L) (oS _) L (fun kk=>eE (Ga L a0 a1 (ho (Axz L (Aua L kk) a0 a1 L (false,[],0)) fun o14=>A1x L kk a0 a1 o14))) h)
end
end Go.Proofs.YtckmlfboedljeaaDoor.Ev
