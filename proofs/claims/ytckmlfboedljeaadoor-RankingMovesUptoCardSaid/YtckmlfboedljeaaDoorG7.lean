import Derived.Test.YtckmlfboedljeaaDoorG0
namespace Go.Proofs.YtckmlfboedljeaaDoor.Ev
open Go An
set_option maxRecDepth 100000
set_option maxHeartbeats 4000000
set_option linter.unusedVariables false
set_option linter.unusedSimpArgs false
set_option linter.unnecessarySimpa false
noncomputable section
variable {A:Type} (L n:Nat) (kk:R5) (K:Bu) (k:Tv)
def c14:=CC Tryd.f14
def O14(L:Nat):Aq:=oL []
def A1d:((List Ab)×Int)→Prop:=fun x=>kk ((fun(x:(List Ab)×Int)=> .tup [lv (.t39 x.1),I x.2]) x)
def Aqb(a0:Int)(v:List Ab×Int):St:=⟨[(0,I a0),(2,.lst true (.t39 [])),(3,I 0),(4,.lst true (.t39 v.1)),(5,I v.2)],[],0⟩
def Pz [An A (Nat×List Ab×Int)](L:Nat)(a0:Int)(rec:List Ab→Int→A)(Af:List Ab)(Ai:Int):A:=
 (cn (decide (Ai < a0))
 (gq ((Af.length+ [(⟨Ai,[],0⟩:Ab)].length)*40≤140737488355328)
 (gq (Af.length+ [(⟨Ai,[],0⟩:Ab)].length≤maxLen)
 (rec (Af++ [(⟨Ai,[],0⟩:Ab)]) (B1 (Ai+1)))))
 (lf (0,Af,Ai)))
def Ic(L:Nat)(a0:Int):Nat→List Ab→Int→Option (Nat×List Ab×Int)
 |0,_,_=>none
 |n+1,Af,Ai=>Pz L a0 (Ic L a0 n) Af Ai
theorem Avs(a0:Int):LP (EV (O14 L) L 9 c14.w.u.l.u.l.l) [0,2,3,4,5] [] (Aqb a0) [.exit 0] (fun n v=>Ic L a0 n v.1 v.2) K:=lE (fun _=>rfl) fun n v ih=>eE (Pz L a0 (fun Af Ai=>re (ih (Af,Ai))) v.1 v.2)
def Mp [An A ((List Ab)×Int)](L:Nat)(o2:Nat×List Ab×Int):A:=
 (sl o2.1 [(lf (o2.2.1,0))])
def An1:Bu:=(Bi 0 (Ek (EV (O14 L) L 9 c14.w.u.r) (Gv Tryd.prog (RS Tryd.f14) kk)))
theorem Ayl(a0:Int)(o2:Nat×List Ab×Int):kX [.exit 0] (Aqb a0) (An1 L kk) o2=ob (Mp L o2) (A1d kk):=eE (Mp L o2)
def P4 [An A ((List Ab)×Int)](L:Nat)(a0:Int)(nx1:A):A:=
 (jp (.cn (decide (a0 < 1))
 (.lf true)
 (.lf (decide (a0 > 200)))) (fun b1=>
 (cn b1
 (lf ([],2))
 nx1)))
def Aau [An A ((List Ab)×Int)](a0:Int):A:=P4 L a0 (bd (Ic L a0 L [] 0) fun o2=>Mp L o2)
def U4(a0:Int):Option ((List Ab)×Int):=Aau L a0
def X14:Hy:=E1 (fun(x:(List Ab)×Int)=> .tup [lv (.t39 x.1),I x.2]) 14 (cI .i64) (U4 L) fun a0 r h=>hF Tryd.func14 (C:=O14 L) (oS _) L (fun kk=>eE (P4 L a0 (ho (Avs L (An1 L kk) a0 L ([],0)) fun o2=>Ayl L kk a0 o2))) h
def c18:=CC Tryd.f18
def O18(L:Nat):Aq:=oL []
def Aqi(a0:List Aa)(a1:List Aa)(v:Ud):St:=⟨[(0,lv (.t24 a0)),(1,lv (.t24 a1)),(4,B v.1),(5,I v.2)],[],0⟩
def Oe [An A (Nat×Ud)](L:Nat)(a0:List Aa)(a1:List Aa)(rec:Bool→Int→A)(Ae:Bool)(Af:Int):A:=
 (lw Af a0
 (gi Af a1
 (cn (!(((a0.getD (Int.toNat Af) default).N == (a1.getD (Int.toNat Af) default).N) && (((a0.getD (Int.toNat Af) default).D == (a1.getD (Int.toNat Af) default).D) && true)))
 (lf (0,false,Af))
 (rec Ae (B1 (Af+1)))))
 (lf (1,Ae,Af)))
def Gw(L:Nat)(a0:List Aa)(a1:List Aa):Nat→Bool→Int→Option (Nat×Ud)
 |0,_,_=>none
 |n+1,Ae,Af=>Oe L a0 a1 (Gw L a0 a1 n) Ae Af
theorem Av2(a0:List Aa)(a1:List Aa):LP (EV (O18 L) L 9 c18.w.l.u.l.l) [0,1,4,5] [] (Aqi a0 a1) [.ret,.exit 0] (fun n v=>Gw L a0 a1 n v.1 v.2) K:=lE (fun _=>rfl) fun n v ih=>eE (Oe L a0 a1 (fun Ae Af=>re (ih (Ae,Af))) v.1 v.2)
def Ok [An A Bool](L:Nat)(o1:Nat×Ud):A:=
 (sl o1.1 [(lf o1.2.1),
 (lf true)])
def Aod:Bu:=(Bi 0 (Ek (EV (O18 L) L 9 c18.w.r) (Gv Tryd.prog (RS Tryd.f18) kk)))
theorem Ayx(a0:List Aa)(a1:List Aa)(o1:Nat×Ud):kX [.ret,.exit 0] (Aqi a0 a1) (Aod L kk) o1=ob (Ok L o1) (kQ B kk):=eE (Ok L o1)
def Om [An A Bool](L:Nat)(a0:List Aa)(a1:List Aa)(nx1:A):A:=
 (cn ((a0.length:Int) != (a1.length:Int))
 (lf false)
 nx1)
def l7 [An A Bool](a0:List Aa)(a1:List Aa):A:=Om L a0 a1 (bd (Gw L a0 a1 L false 0) fun o1=>Ok L o1)
def La(a0:List Aa)(a1:List Aa):Option Bool:=l7 L a0 a1
def X18:Hy:=E2 B 18 S3 S3 (La L) fun a0 a1 r h=>hF Tryd.func18 (C:=O18 L) (oS _) L (fun kk=>eE (Om L a0 a1 (ho (Av2 L (Aod L kk) a0 a1 L (false,0)) fun o1=>Ayx L kk a0 a1 o1))) h
def c15:=CC Tryd.f15
def O15:Aq:=oL [X18 L]
def Aqc(a0:List Ab)(a1:List Ab)(v:Ud):St:=⟨[(0,lv (.t39 a0)),(1,lv (.t39 a1)),(4,B v.1),(5,I v.2)],[],0⟩
def Oh [An A (Nat×Ud)](a0:List Ab)(a1:List Ab)(rec:Bool→Int→A)(Ae:Bool)(Af:Int):A:=
 (lw Af a0
 (gi Af a1
 (cn ((a0.getD (Int.toNat Af) default).Point != (a1.getD (Int.toNat Af) default).Point)
 (lf (0,false,Af))
 (gi Af a0
 (gi Af a1
 (cn ((a0.getD (Int.toNat Af) default).Out != (a1.getD (Int.toNat Af) default).Out)
 (lf (0,false,Af))
 (gi Af a0
 (gi Af a1
 (bd (La L ((a0.getD (Int.toNat Af) default).Seen) ((a1.getD (Int.toNat Af) default).Seen)) fun r1=>
 (cn (!r1)
 (lf (0,false,Af))
 (rec Ae (B1 (Af+1))))))))))))
 (lf (1,Ae,Af)))
def Gy(L:Nat)(a0:List Ab)(a1:List Ab):Nat→Bool→Int→Option (Nat×Ud)
 |0,_,_=>none
 |n+1,Ae,Af=>Oh L a0 a1 (Gy L a0 a1 n) Ae Af
theorem Avt(a0:List Ab)(a1:List Ab):LP (EV (O15 L) L 9 c15.w.l.u.l.l) [0,1,4,5] [] (Aqc a0 a1) [.ret,.exit 0] (fun n v=>Gy L a0 a1 n v.1 v.2) K:=lE (fun _=>rfl) fun n v ih=>eE (Oh L a0 a1 (fun Ae Af=>re (ih (Ae,Af))) v.1 v.2)
def Ol [An A Bool](L:Nat)(o2:Nat×Ud):A:=
 (sl o2.1 [(lf o2.2.1),
 (lf true)])
def An2:Bu:=(Bi 0 (Ek (EV (O15 L) L 9 c15.w.r) (Gv Tryd.prog (RS Tryd.f15) kk)))
theorem Aym(a0:List Ab)(a1:List Ab)(o2:Nat×Ud):kX [.ret,.exit 0] (Aqc a0 a1) (An2 L kk) o2=ob (Ol L o2) (kQ B kk):=eE (Ol L o2)
def On [An A Bool](L:Nat)(a0:List Ab)(a1:List Ab)(nx1:A):A:=
 (cn ((a0.length:Int) != (a1.length:Int))
 (lf false)
 nx1)
def m0 [An A Bool](a0:List Ab)(a1:List Ab):A:=On L a0 a1 (bd (Gy L a0 a1 L false 0) fun o2=>Ol L o2)
def M6(a0:List Ab)(a1:List Ab):Option Bool:=m0 L a0 a1
def X15:Hy:=E2 B 15 Acn Acn (M6 L) fun a0 a1 r h=>hF Tryd.func15 (C:=O15 L) (oS _) L (fun kk=>eE (On L a0 a1 (ho (Avt L (An2 L kk) a0 a1 L (false,0)) fun o2=>Aym L kk a0 a1 o2))) h
end
end Go.Proofs.YtckmlfboedljeaaDoor.Ev
