import Derived.Test.YthjhkpgonleelaaGreatDoorAG12
import Derived.Test.YthjhkpgonleelaaGreatDoorAG13
namespace Go.Proofs.YthjhkpgonleelaaGreatDoor.Ev
open Go An
set_option maxRecDepth 100000
set_option maxHeartbeats 4000000
set_option linter.unusedVariables false
set_option linter.unusedSimpArgs false
set_option linter.unnecessarySimpa false
noncomputable section
variable {A:Type} (L n:Nat) (kk:Cc) (K:Bg) (k:Bu)
def c11:=CC Tryz.f11
def O11:Bi:=oL [X18 L,X23 L]
def Bzp:((List Ak)×Int)→Prop:=fun x=>kk ((fun(x:(List Ak)×Int)=> .tup [lv (.t32 x.1),I x.2]) x)
def Bdi(a1:List Bl)(a2:Int)(a3:Int)(a4:Int)(a5:Int)(a0:Ac)(v:List Ak×Int):St:=⟨[(0,.any),(1,lv (.t46 a1)),(2,I a2),(3,I a3),(4,I a4),(5,I a5),(6,.loc 6 0),(12,.lst true (.t32 [])),(13,I 0),(14,.any),(15,.lst true (.t32 v.1)),(16,I v.2)],[(6,(Bh a0))],0⟩
def Abf [An A (Nat×List Ak×Int)](a1:List Bl)(a2:Int)(a3:Int)(a4:Int)(a5:Int)(a0:Ac)(rec:List Ak→Int→A)(Gc:List Ak)(Cl:Int):A:=
 (cn (decide (Cl < a5))
 (bd (Xm L (⟨a0.Name,a0.Sites,a0.Links⟩:Ac) a1 a2 (Bo (a3+(Bo (Cl*a4))))) fun r10=>
 (gq ((Gc.length+ [r10].length)*112≤140737488355328)
 (gq (Gc.length+ [r10].length≤maxLen)
 (rec (Gc++ [r10]) (Bo (Cl+1))))))
 (lf (0,Gc,Cl)))
def Rr(L:Nat)(a1:List Bl)(a2:Int)(a3:Int)(a4:Int)(a5:Int)(a0:Ac):Nat→List Ak→Int→Option (Nat×List Ak×Int)
 |0,_,_=>none
 |n+1,Gc,Cl=>Abf L a1 a2 a3 a4 a5 a0 (Rr L a1 a2 a3 a4 a5 a0 n) Gc Cl
theorem Bnj(a1:List Bl)(a2:Int)(a3:Int)(a4:Int)(a5:Int)(a0:Ac):LP (EV (O11 L) L 9 c11.x.w.l.u.l.l) [0,1,2,3,4,5,6,12,13,14,15,16] [6] (Bdi a1 a2 a3 a4 a5 a0) [.exit 0] (fun n v=>Rr L a1 a2 a3 a4 a5 a0 n v.1 v.2) K:=lE (fun _=>rfl) fun n v ih=>eE (Abf L a1 a2 a3 a4 a5 a0 (fun Gc Cl=>re (ih (Gc,Cl))) v.1 v.2)
def R8 [An A ((List Ak)×Int)](L:Nat)(o11:Nat×List Ak×Int):A:=
 (sl o11.1 [(lf (o11.2.1,0))])
def Ba3:Bg:=(Bb 0 (Bp (EV (O11 L) L 9 c11.x.w.r) (Ct Tryz.prog (RS Tryz.f11) kk)))
theorem Bvi(a1:List Bl)(a2:Int)(a3:Int)(a4:Int)(a5:Int)(a0:Ac)(o11:Nat×List Ak×Int):kX [.exit 0] (Bdi a1 a2 a3 a4 a5 a0) (Ba3 L kk) o11=ob (R8 L o11) (Bzp kk):=eE (R8 L o11)
def Ab1 [An A ((List Ak)×Int)](a0:Ac)(a1:List Bl)(a2:Int)(a3:Int)(a4:Int)(a5:Int)(nx1:A):A:=
 (bd (V5 L (⟨a0.Name,a0.Sites,a0.Links⟩:Ac)) fun r1=>
 (cn (r1 != 0)
 (lf ([],r1))
 (jp (.cn (decide (a2 < 0))
 (.lf true)
 (.lf (decide (a2≥(a0.Sites.length:Int))))) (fun b2=>
 (jp (.cn b2
 (.lf true)
 (.lf (decide (a3 < 0)))) (fun b3=>
 (jp (.cn b3
 (.lf true)
 (.lf (decide (a3 > 1000000000)))) (fun b4=>
 (jp (.cn b4
 (.lf true)
 (.lf (decide (a4 < 1)))) (fun b5=>
 (jp (.cn b5
 (.lf true)
 (.lf (decide (a4 > 1000000000)))) (fun b6=>
 (jp (.cn b6
 (.lf true)
 (.lf (decide (a5 < 0)))) (fun b7=>
 (jp (.cn b7
 (.lf true)
 (.lf (decide (a5 > 1000)))) (fun b8=>
 (cn b8
 (lf ([],2))
 (jp (.cn (decide (a5 > 0))
 (.lf (decide ((Bo (a3+(Bo ((Bo (a5 - 1))*a4)))) > 1000000000)))
 (.lf false)) (fun b9=>
 (cn b9
 (lf ([],2))
 nx1))))))))))))))))))))
def Atz [An A ((List Ak)×Int)](a0:Ac)(a1:List Bl)(a2:Int)(a3:Int)(a4:Int)(a5:Int):A:=Ab1 L a0 a1 a2 a3 a4 a5 (bd (Rr L a1 a2 a3 a4 a5 a0 L [] 0) fun o11=>R8 L o11)
def Aig(a0:Ac)(a1:List Bl)(a2:Int)(a3:Int)(a4:Int)(a5:Int):Option ((List Ak)×Int):=Atz L a0 a1 a2 a3 a4 a5
def X11:Di:=E6 (fun(x:(List Ak)×Int)=> .tup [lv (.t32 x.1),I x.2]) 11 B6 A7y (cI .i64) (cI .i64) (cI .i64) (cI .i64) (Aig L) fun a0 a1 a2 a3 a4 a5 r h=>hF Tryz.func11 (C:=O11 L) (oS _) L (fun kk=>eE (Ab1 L a0 a1 a2 a3 a4 a5 (ho (Bnj L (Ba3 L kk) a1 a2 a3 a4 a5 a0 L ([],0)) fun o11=>Bvi L kk a1 a2 a3 a4 a5 a0 o11))) h
def c24:=CC Tryz.f24
def O24(L:Nat):Bi:=oL []
def Bdr(a0:List Int)(a1:List Int)(v:N2):St:=⟨[(0,lv (.t3 a0)),(1,lv (.t3 a1)),(4,B v.1),(5,I v.2)],[],0⟩
def Ja [An A (Nat×N2)](L:Nat)(a0:List Int)(a1:List Int)(rec:Bool→Int→A)(Ao:Bool)(Ag:Int):A:=
 (lw Ag a0
 (gi Ag a1
 (cn ((a0.getD (Int.toNat Ag) default) != (a1.getD (Int.toNat Ag) default))
 (lf (0,false,Ag))
 (rec Ao (Bo (Ag+1)))))
 (lf (1,Ao,Ag)))
def Ei(L:Nat)(a0:List Int)(a1:List Int):Nat→Bool→Int→Option (Nat×N2)
 |0,_,_=>none
 |n+1,Ao,Ag=>Ja L a0 a1 (Ei L a0 a1 n) Ao Ag
theorem Bny(a0:List Int)(a1:List Int):LP (EV (O24 L) L 9 c24.w.l.u.l.l) [0,1,4,5] [] (Bdr a0 a1) [.ret,.exit 0] (fun n v=>Ei L a0 a1 n v.1 v.2) K:=lE (fun _=>rfl) fun n v ih=>eE (Ja L a0 a1 (fun Ao Ag=>re (ih (Ao,Ag))) v.1 v.2)
def Hj [An A Bool](L:Nat)(o1:Nat×N2):A:=
 (sl o1.1 [(lf o1.2.1),
 (lf true)])
def Bbk:Bg:=(Bb 0 (Bp (EV (O24 L) L 9 c24.w.r) (Ct Tryz.prog (RS Tryz.f24) kk)))
theorem Bv0(a0:List Int)(a1:List Int)(o1:Nat×N2):kX [.ret,.exit 0] (Bdr a0 a1) (Bbk L kk) o1=ob (Hj L o1) (kQ B kk):=eE (Hj L o1)
def Jd [An A Bool](L:Nat)(a0:List Int)(a1:List Int)(nx1:A):A:=
 (cn ((a0.length:Int) != (a1.length:Int))
 (lf false)
 nx1)
def Acv [An A Bool](a0:List Int)(a1:List Int):A:=Jd L a0 a1 (bd (Ei L a0 a1 L false 0) fun o1=>Hj L o1)
def Gj(a0:List Int)(a1:List Int):Option Bool:=Acv L a0 a1
def X24:Di:=E2 B 24 cl3 cl3 (Gj L) fun a0 a1 r h=>hF Tryz.func24 (C:=O24 L) (oS _) L (fun kk=>eE (Jd L a0 a1 (ho (Bny L (Bbk L kk) a0 a1 L (false,0)) fun o1=>Bv0 L kk a0 a1 o1))) h
def Ahd [An A Bool](a0:Ak)(a1:Ak):A:=
 (jp (.cn (a0.Time == a1.Time)
 (.lf (a0.Site == a1.Site))
 (.lf false)) (fun b1=>
 (jb (.cn b1
 (.bd (Gj L a0.Procs a1.Procs) fun r3=>
 (.lf r3))
 (.lf false)) (fun b2=>
 (jb (.cn b2
 (.bd (Gj L a0.Held a1.Held) fun r5=>
 (.lf r5))
 (.lf false)) (fun b4=>
 (jb (.cn b4
 (.bd (Gj L a0.Waiting a1.Waiting) fun r7=>
 (.lf r7))
 (.lf false)) (fun b6=>
 (jb (.cn b6
 (.bd (Gj L a0.Items a1.Items) fun r9=>
 (.lf r9))
 (.lf false)) (fun b8=>
 (lf b8)))))))))))
def H8(a0:Ak)(a1:Ak):Option Bool:=Ahd L a0 a1
def X12:Di:=E2 B 12 Ia Ia (H8 L) fun a0 a1 r h=>hF Tryz.func12 (oS [X24 L]) L (fun kk=>eE (Ahd L a0 a1)) h
def c13:=CC Tryz.f13
def O13:Bi:=oL [X12 L]
def Bdj(a0:List Ak)(a1:List Ak)(v:N2):St:=⟨[(0,lv (.t32 a0)),(1,lv (.t32 a1)),(4,B v.1),(5,I v.2)],[],0⟩
def Ws [An A (Nat×N2)](a0:List Ak)(a1:List Ak)(rec:Bool→Int→A)(Ao:Bool)(Ag:Int):A:=
 (lw Ag a0
 (gi Ag a1
 (bd (H8 L (a0.getD (Int.toNat Ag) default) (a1.getD (Int.toNat Ag) default)) fun r1=>
 (cn (!r1)
 (lf (0,false,Ag))
 (rec Ao (Bo (Ag+1))))))
 (lf (1,Ao,Ag)))
def M9(L:Nat)(a0:List Ak)(a1:List Ak):Nat→Bool→Int→Option (Nat×N2)
 |0,_,_=>none
 |n+1,Ao,Ag=>Ws L a0 a1 (M9 L a0 a1 n) Ao Ag
theorem Bnk(a0:List Ak)(a1:List Ak):LP (EV (O13 L) L 9 c13.w.l.u.l.l) [0,1,4,5] [] (Bdj a0 a1) [.ret,.exit 0] (fun n v=>M9 L a0 a1 n v.1 v.2) K:=lE (fun _=>rfl) fun n v ih=>eE (Ws L a0 a1 (fun Ao Ag=>re (ih (Ao,Ag))) v.1 v.2)
def Nk [An A Bool](L:Nat)(o2:Nat×N2):A:=
 (sl o2.1 [(lf o2.2.1),
 (lf true)])
def Ba4:Bg:=(Bb 0 (Bp (EV (O13 L) L 9 c13.w.r) (Ct Tryz.prog (RS Tryz.f13) kk)))
theorem Bvj(a0:List Ak)(a1:List Ak)(o2:Nat×N2):kX [.ret,.exit 0] (Bdj a0 a1) (Ba4 L kk) o2=ob (Nk L o2) (kQ B kk):=eE (Nk L o2)
def W6 [An A Bool](L:Nat)(a0:List Ak)(a1:List Ak)(nx1:A):A:=
 (cn ((a0.length:Int) != (a1.length:Int))
 (lf false)
 nx1)
def Apx [An A Bool](a0:List Ak)(a1:List Ak):A:=W6 L a0 a1 (bd (M9 L a0 a1 L false 0) fun o2=>Nk L o2)
def Acj(a0:List Ak)(a1:List Ak):Option Bool:=Apx L a0 a1
def X13:Di:=E2 B 13 Bu1 Bu1 (Acj L) fun a0 a1 r h=>hF Tryz.func13 (C:=O13 L) (oS _) L (fun kk=>eE (W6 L a0 a1 (ho (Bnk L (Ba4 L kk) a0 a1 L (false,0)) fun o2=>Bvj L kk a0 a1 o2))) h
end
end Go.Proofs.YthjhkpgonleelaaGreatDoor.Ev
