import Derived.Test.YthjhkpgonleelaaGreatDoorBG12
import Derived.Test.YthjhkpgonleelaaGreatDoorBG13
namespace Go.Proofs.YthjhkpgonleelaaGreatDoor.Ev
open Go An
set_option maxRecDepth 100000
set_option maxHeartbeats 4000000
set_option linter.unusedVariables false
set_option linter.unusedSimpArgs false
set_option linter.unnecessarySimpa false
noncomputable section
variable {A:Type} (L n:Nat) (kk:Ep) (K:Ci) (k:Bn)
def c24:=CC Tryz.f24
def O24(L:Nat):Bt:=oL []
def A7x(a0:List Int)(a1:List Int)(v:Tu5):St:=⟨[(0,lv (.t3 a0)),(1,lv (.t3 a1)),(4,B v.1),(5,I v.2)],[],0⟩
def O5 [An A (Nat×Tu5)](L:Nat)(a0:List Int)(a1:List Int)(rec:Bool→Int→A)(C8:Bool)(Am:Int):A:=
 (lw Am a0
 (gi Am a1
 (cn ((a0.getD (Int.toNat Am) default) != (a1.getD (Int.toNat Am) default))
 (lf (0,false,Am))
 (rec C8 (Bi (Am+1)))))
 (lf (1,C8,Am)))
def Gr(L:Nat)(a0:List Int)(a1:List Int):Nat→Bool→Int→Option (Nat×Tu5)
 |0,_,_=>none
 |n+1,C8,Am=>O5 L a0 a1 (Gr L a0 a1 n) C8 Am
theorem Bf8(a0:List Int)(a1:List Int):LP (EV (O24 L) L 9 c24.w.l.u.l.l) [0,1,4,5] [] (A7x a0 a1) [.ret,.exit 0] (fun n v=>Gr L a0 a1 n v.1 v.2) K:=lE (fun _=>rfl) fun n v ih=>eE (O5 L a0 a1 (fun C8 Am=>re (ih (C8,Am))) v.1 v.2)
def Lp [An A Bool](L:Nat)(o1:Nat×Tu5):A:=
 (sl o1.1 [(lf o1.2.1),
 (lf true)])
def A6h:Ci:=(Bs 0 (Bz (EV (O24 L) L 9 c24.w.r) (Kb Tryz.prog (RS Tryz.f24) kk)))
theorem Blf(a0:List Int)(a1:List Int)(o1:Nat×Tu5):kX [.ret,.exit 0] (A7x a0 a1) (A6h L kk) o1=ob (Lp L o1) (kQ B kk):=eE (Lp L o1)
def Po [An A Bool](L:Nat)(a0:List Int)(a1:List Int)(nx1:A):A:=
 (cn ((a0.length:Int) != (a1.length:Int))
 (lf false)
 nx1)
def Ac2 [An A Bool](a0:List Int)(a1:List Int):A:=Po L a0 a1 (bd (Gr L a0 a1 L false 0) fun o1=>Lp L o1)
def Ke(a0:List Int)(a1:List Int):Option Bool:=Ac2 L a0 a1
def X24:Qi:=E2 B 24 cl3 cl3 (Ke L) fun a0 a1 r h=>hF Tryz.func24 (C:=O24 L) (oS _) L (fun kk=>eE (Po L a0 a1 (ho (Bf8 L (A6h L kk) a0 a1 L (false,0)) fun o1=>Blf L kk a0 a1 o1))) h
def Ae8 [An A Bool](a0:Bc)(a1:Bc):A:=
 (jp (.cn (a0.Time == a1.Time)
 (.lf (a0.Site == a1.Site))
 (.lf false)) (fun b1=>
 (jb (.cn b1
 (.bd (Ke L a0.Procs a1.Procs) fun r3=>
 (.lf r3))
 (.lf false)) (fun b2=>
 (jb (.cn b2
 (.bd (Ke L a0.Held a1.Held) fun r5=>
 (.lf r5))
 (.lf false)) (fun b4=>
 (jb (.cn b4
 (.bd (Ke L a0.Waiting a1.Waiting) fun r7=>
 (.lf r7))
 (.lf false)) (fun b6=>
 (jb (.cn b6
 (.bd (Ke L a0.Items a1.Items) fun r9=>
 (.lf r9))
 (.lf false)) (fun b8=>
 (lf b8)))))))))))
def Vg(a0:Bc)(a1:Bc):Option Bool:=Ae8 L a0 a1
def X12:Qi:=E2 B 12 Agy Agy (Vg L) fun a0 a1 r h=>hF Tryz.func12 (oS [X24 L]) L (fun kk=>eE (Ae8 L a0 a1)) h
def c13:=CC Tryz.f13
def O13:Bt:=oL [X12 L]
def A7s(a0:List Bc)(a1:List Bc)(v:Tu5):St:=⟨[(0,lv (.t32 a0)),(1,lv (.t32 a1)),(4,B v.1),(5,I v.2)],[],0⟩
def m7 [An A (Nat×Tu5)](a0:List Bc)(a1:List Bc)(rec:Bool→Int→A)(C8:Bool)(Am:Int):A:=
 (lw Am a0
 (gi Am a1
 (bd (Vg L (a0.getD (Int.toNat Am) default) (a1.getD (Int.toNat Am) default)) fun r1=>
 (cn (!r1)
 (lf (0,false,Am))
 (rec C8 (Bi (Am+1))))))
 (lf (1,C8,Am)))
def Ul(L:Nat)(a0:List Bc)(a1:List Bc):Nat→Bool→Int→Option (Nat×Tu5)
 |0,_,_=>none
 |n+1,C8,Am=>m7 L a0 a1 (Ul L a0 a1 n) C8 Am
theorem Bf0(a0:List Bc)(a1:List Bc):LP (EV (O13 L) L 9 c13.w.l.u.l.l) [0,1,4,5] [] (A7s a0 a1) [.ret,.exit 0] (fun n v=>Ul L a0 a1 n v.1 v.2) K:=lE (fun _=>rfl) fun n v ih=>eE (m7 L a0 a1 (fun C8 Am=>re (ih (C8,Am))) v.1 v.2)
def Uu [An A Bool](L:Nat)(o2:Nat×Tu5):A:=
 (sl o2.1 [(lf o2.2.1),
 (lf true)])
def A59:Ci:=(Bs 0 (Bz (EV (O13 L) L 9 c13.w.r) (Kb Tryz.prog (RS Tryz.f13) kk)))
theorem Bk7(a0:List Bc)(a1:List Bc)(o2:Nat×Tu5):kX [.ret,.exit 0] (A7s a0 a1) (A59 L kk) o2=ob (Uu L o2) (kQ B kk):=eE (Uu L o2)
def q6 [An A Bool](L:Nat)(a0:List Bc)(a1:List Bc)(nx1:A):A:=
 (cn ((a0.length:Int) != (a1.length:Int))
 (lf false)
 nx1)
def Alm [An A Bool](a0:List Bc)(a1:List Bc):A:=q6 L a0 a1 (bd (Ul L a0 a1 L false 0) fun o2=>Uu L o2)
def Alh(a0:List Bc)(a1:List Bc):Option Bool:=Alm L a0 a1
def X13:Qi:=E2 B 13 Bkl Bkl (Alh L) fun a0 a1 r h=>hF Tryz.func13 (C:=O13 L) (oS _) L (fun kk=>eE (q6 L a0 a1 (ho (Bf0 L (A59 L kk) a0 a1 L (false,0)) fun o2=>Bk7 L kk a0 a1 o2))) h
end
end Go.Proofs.YthjhkpgonleelaaGreatDoor.Ev
