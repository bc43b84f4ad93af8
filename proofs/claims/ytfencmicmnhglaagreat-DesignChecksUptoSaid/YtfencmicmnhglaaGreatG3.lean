import Derived.Test.YtfencmicmnhglaaGreatG2
namespace Go.Proofs.YtfencmicmnhglaaGreat.Ev
open Go An
set_option maxRecDepth 100000
set_option maxHeartbeats 4000000
set_option linter.unusedVariables false
set_option linter.unusedSimpArgs false
set_option linter.unnecessarySimpa false
noncomputable section
variable {A:Type} (L n:Nat) (kk:Dm) (K:Be) (k:Bx)
def c6:=CC Tryz.f6
def O6:Bi:=oL [X16 L]
def B78(Aj:Int)(a0:Ad)(v:Cp):St:=⟨[(0,.any),(1,.loc 1 0),(2,I 0),(3,I v.1),(4,I Aj),(5,I v.2)],[(1,(Aw a0))],0⟩
def Af2 [An A B8](Aj:Int)(a0:Ad)(rec:Int→Int→A)(Ct:Int)(Bw:Int):A:=
 (gi Aj a0.Sites
 (cn (decide (Bw < (((a0.Sites.getD (Int.toNat Aj) default).Routines).length:Int)))
 (gi Aj a0.Sites
 (gi Bw ((a0.Sites.getD (Int.toNat Aj) default).Routines)
 (bd (Sd L ((((a0.Sites.getD (Int.toNat Aj) default).Routines).getD (Int.toNat Bw) default).Body)) fun r1=>
 (rec (Cq (Ct+(Cq (1+r1)))) (Cq (Bw+1))))))
 (lf (0,Ct,Bw))))
def N6(L:Nat)(Aj:Int)(a0:Ad):Nat→Int→Int→Option B8
 |0,_,_=>none
 |n+1,Ct,Bw=>Af2 L Aj a0 (N6 L Aj a0 n) Ct Bw
theorem Cl5(Aj:Int)(a0:Ad):LP (EV (O6 L) L 9 c6.w.l.u.l.l.u.l.l.u.l.l) [0,1,2,3,4,5] [1] (B78 Aj a0) [.exit 2] (fun n v=>N6 L Aj a0 n v.1 v.2) K:=lE (fun _=>rfl) fun n v ih=>eE (Af2 L Aj a0 (fun Ct Bw=>re (ih (Ct,Bw))) v.1 v.2)
def Byp(a0:Ad)(v:Cp):St:=⟨[(0,.any),(1,.loc 1 0),(2,I 0),(3,I v.1),(4,I v.2)],[(1,(Aw a0))],0⟩
def m5 [An A B8](L:Nat)(Aj:Int)(rec:Int→Int→A)(o2:Nat×Cp):A:=
 (sl o2.1 [(rec o2.2.1 (Cq (Aj+1)))])
def Agj [An A B8](L:Nat)(a0:Ad)(rec:Int→Int→A)(Ag:Int)(Aj:Int)(nx1:Int→Int→A):A:=
 (cn (decide (Aj < (a0.Sites.length:Int)))
 (nx1 Aj Ag)
 (lf (0,Ag,Aj)))
def Amc [An A B8](a0:Ad)(rec:Int→Int→A)(Ag:Int)(Aj:Int):A:=Agj L a0 rec Ag Aj (fun Aj Ag=>bd (N6 L Aj a0 L Ag 0) fun o2=>m5 L Aj rec o2)
def N5(L:Nat)(a0:Ad):Nat→Int→Int→Option B8
 |0,_,_=>none
 |n+1,Ag,Aj=>Amc L a0 (N5 L a0 n) Ag Aj
def B68(a0:Ad):Prop:=LI (EV (O6 L) L 9 c6.w.l.u.l.l) [0,1,2,3,4] [1] (Byp a0) [.exit 0] (fun n v=>N5 L a0 n v.1 v.2) K n
def B7k:Be:=(Ax 2 (Ax 1 (Bk (EV (O6 L) L 9 c6.w.l.u.l.l.u.r) (Ir (Lh (EV (O6 L) L 9 c6.w.l.u.l.l) [0,1,2,3,4] [1] n) [0,1,2,3,4] [1] K))))
theorem Cqs(Aj:Int)(a0:Ad)(ih:B68 L n K a0)(o2:Nat×Cp):kX [.exit 2] (B78 Aj a0) (B7k L n K) o2=ob (m5 L Aj (N5 L a0 n) o2) (kX [.exit 0] (Byp a0) K):=eE (m5 L Aj (fun Ag Aj=>re (ih (Ag,Aj))) o2)
theorem Cl4(a0:Ad):∀n,B68 L n K a0:=lE (fun _=>rfl) fun n v ih=>eE (Agj L a0 (fun Ag Aj=>re (ih (Ag,Aj))) v.1 v.2 (fun Aj Ag=>ho (Cl5 L (B7k L n K) Aj a0 L (Ag,0)) fun o2=>Cqs L n K Aj a0 ih o2))
def m6 [An A Int](L:Nat)(o3:Nat×Cp):A:=
 (sl o3.1 [(lf o3.2.1)])
def B7l:Be:=(Ax 0 (Bk (EV (O6 L) L 9 c6.w.r) (C0 Tryz.prog (RS Tryz.f6) kk)))
theorem Cqt(a0:Ad)(o3:Nat×Cp):kX [.exit 0] (Byp a0) (B7l L kk) o3=ob (m6 L o3) (kQ I kk):=eE (m6 L o3)
def A48 [An A Int](a0:Ad):A:=(bd (N5 L a0 L (Cq ((a0.Params.length:Int)+(a0.Links.length:Int))) 0) fun o3=>m6 L o3)
def Aoq(a0:Ad):Option Int:=A48 L a0
def X6:Gh:=E1 I 6 C6 (Aoq L) fun a0 r h=>hF Tryz.func6 (C:=O6 L) (oS _) L (fun kk=>eE ((ho (Cl4 L (B7l L kk) a0 L ((Cq ((a0.Params.length:Int)+(a0.Links.length:Int))),0)) fun o3=>Cqt L kk a0 o3))) h
def Ajr [An A Bool](L:Nat)(a0:Int):A:=
 (jp (.cn (decide (a0≥97))
 (.lf (decide (a0≤122)))
 (.lf false)) (fun b1=>
 (lf b1)))
def W2(a0:Int):Option Bool:=Ajr L a0
def X80:Gh:=E1 B 80 (cI .u8) (W2 L) fun a0 r h=>hF Tryz.func80 (oS []) L (fun kk=>eE (Ajr L a0)) h
def Aho [An A Bool](L:Nat)(a0:ByteArray):A:=
 (cn (a0.toList == (⟨#[97,100,100]⟩:ByteArray).toList)
 (cn (a0.toList == (⟨#[97,100,100]⟩:ByteArray).toList)
 (lf true)
 (lf false))
 (cn (a0.toList == (⟨#[97,102,116,101,114]⟩:ByteArray).toList)
 (cn (a0.toList == (⟨#[97,102,116,101,114]⟩:ByteArray).toList)
 (lf true)
 (lf false))
 (cn (a0.toList == (⟨#[97,110,100]⟩:ByteArray).toList)
 (cn (a0.toList == (⟨#[97,110,100]⟩:ByteArray).toList)
 (lf true)
 (lf false))
 (cn (a0.toList == (⟨#[97,116]⟩:ByteArray).toList)
 (cn (a0.toList == (⟨#[97,116]⟩:ByteArray).toList)
 (lf true)
 (lf false))
 (cn (a0.toList == (⟨#[98,101,108,116]⟩:ByteArray).toList)
 (cn (a0.toList == (⟨#[98,101,108,116]⟩:ByteArray).toList)
 (lf true)
 (lf false))
 (cn (a0.toList == (⟨#[98,111,111,108]⟩:ByteArray).toList)
 (cn (a0.toList == (⟨#[98,111,111,108]⟩:ByteArray).toList)
 (lf true)
 (lf false))
 (cn (a0.toList == (⟨#[99,111,110,115,101,114,118,101]⟩:ByteArray).toList)
 (cn (a0.toList == (⟨#[99,111,110,115,101,114,118,101]⟩:ByteArray).toList)
 (lf true)
 (lf false))
 (cn (a0.toList == (⟨#[99,111,110,115,116]⟩:ByteArray).toList)
 (cn (a0.toList == (⟨#[99,111,110,115,116]⟩:ByteArray).toList)
 (lf true)
 (lf false))
 (cn (a0.toList == (⟨#[99,111,117,110,116]⟩:ByteArray).toList)
 (cn (a0.toList == (⟨#[99,111,117,110,116]⟩:ByteArray).toList)
 (lf true)
 (lf false))
 (cn (a0.toList == (⟨#[99,121,99,108,101]⟩:ByteArray).toList)
 (cn (a0.toList == (⟨#[99,121,99,108,101]⟩:ByteArray).toList)
 (lf true)
 (lf false))
 (cn (a0.toList == (⟨#[100,111,119,110]⟩:ByteArray).toList)
 (cn (a0.toList == (⟨#[100,111,119,110]⟩:ByteArray).toList)
 (lf true)
 (lf false))
 (cn (a0.toList == (⟨#[100,114,97,119]⟩:ByteArray).toList)
 (cn (a0.toList == (⟨#[100,114,97,119]⟩:ByteArray).toList)
 (lf true)
 (lf false))
 (cn (a0.toList == (⟨#[100,117,114]⟩:ByteArray).toList)
 (cn (a0.toList == (⟨#[100,117,114]⟩:ByteArray).toList)
 (lf true)
 (lf false))
 (cn (a0.toList == (⟨#[101,108,115,101]⟩:ByteArray).toList)
 (cn (a0.toList == (⟨#[101,108,115,101]⟩:ByteArray).toList)
 (lf true)
 (lf false))
 (cn (a0.toList == (⟨#[101,110,100]⟩:ByteArray).toList)
 (cn (a0.toList == (⟨#[101,110,100]⟩:ByteArray).toList)
 (lf true)
 (lf false))
 (cn (a0.toList == (⟨#[101,118,101,114,121]⟩:ByteArray).toList)
 (cn (a0.toList == (⟨#[101,118,101,114,121]⟩:ByteArray).toList)
 (lf true)
 (lf false))
 (cn (a0.toList == (⟨#[102,97,108,115,101]⟩:ByteArray).toList)
 (cn (a0.toList == (⟨#[102,97,108,115,101]⟩:ByteArray).toList)
 (lf true)
 (lf false))
 (cn (a0.toList == (⟨#[102,97,117,108,116]⟩:ByteArray).toList)
 (cn (a0.toList == (⟨#[102,97,117,108,116]⟩:ByteArray).toList)
 (lf true)
 (lf false))
 (cn (a0.toList == (⟨#[102,105,102,111]⟩:ByteArray).toList)
 (cn (a0.toList == (⟨#[102,105,102,111]⟩:ByteArray).toList)
 (lf true)
 (lf false))
 (cn (a0.toList == (⟨#[102,114,101,101]⟩:ByteArray).toList)
 (cn (a0.toList == (⟨#[102,114,101,101]⟩:ByteArray).toList)
 (lf true)
 (lf false))
 (cn (a0.toList == (⟨#[102,114,111,109]⟩:ByteArray).toList)
 (cn (a0.toList == (⟨#[102,114,111,109]⟩:ByteArray).toList)
 (lf true)
 (lf false))
 (cn (a0.toList == (⟨#[103,101,111,109]⟩:ByteArray).toList)
 (cn (a0.toList == (⟨#[103,101,111,109]⟩:ByteArray).toList)
 (lf true)
 (lf false))
 (cn (a0.toList == (⟨#[103,101,116]⟩:ByteArray).toList)
 (cn (a0.toList == (⟨#[103,101,116]⟩:ByteArray).toList)
 (lf true)
 (lf false))
 (cn (a0.toList == (⟨#[104,111,108,100]⟩:ByteArray).toList)
 (cn (a0.toList == (⟨#[104,111,108,100]⟩:ByteArray).toList)
 (lf true)
 (lf false))
 (cn (a0.toList == (⟨#[105,102]⟩:ByteArray).toList)
 (cn (a0.toList == (⟨#[105,102]⟩:ByteArray).toList)
 (lf true)
 (lf false))
 (cn (a0.toList == (⟨#[105,110,116]⟩:ByteArray).toList)
 (cn (a0.toList == (⟨#[105,110,116]⟩:ByteArray).toList)
 (lf true)
 (lf false))
 (cn (a0.toList == (⟨#[105,110,116,111]⟩:ByteArray).toList)
 (cn (a0.toList == (⟨#[105,110,116,111]⟩:ByteArray).toList)
 (lf true)
 (lf false))
 (cn (a0.toList == (⟨#[108,101,97,115,116]⟩:ByteArray).toList)
 (cn (a0.toList == (⟨#[108,101,97,115,116]⟩:ByteArray).toList)
 (lf true)
 (lf false))
 (cn (a0.toList == (⟨#[108,101,118,101,108]⟩:ByteArray).toList)
 (cn (a0.toList == (⟨#[108,101,118,101,108]⟩:ByteArray).toList)
 (lf true)
 (lf false))
 (cn (a0.toList == (⟨#[108,105,102,111]⟩:ByteArray).toList)
 (cn (a0.toList == (⟨#[108,105,102,111]⟩:ByteArray).toList)
 (lf true)
 (lf false))
 (cn (a0.toList == (⟨#[108,105,110,107]⟩:ByteArray).toList)
 (cn (a0.toList == (⟨#[108,105,110,107]⟩:ByteArray).toList)
 (lf true)
 (lf false))
 (cn (a0.toList == (⟨#[108,111,99,97,108]⟩:ByteArray).toList)
 (cn (a0.toList == (⟨#[108,111,99,97,108]⟩:ByteArray).toList)
 (lf true)
 (lf false))
 (cn (a0.toList == (⟨#[109,97,120]⟩:ByteArray).toList)
 (cn (a0.toList == (⟨#[109,97,120]⟩:ByteArray).toList)
 (lf true)
 (lf false))
 (cn (a0.toList == (⟨#[109,105,110]⟩:ByteArray).toList)
 (cn (a0.toList == (⟨#[109,105,110]⟩:ByteArray).toList)
 (lf true)
 (lf false))
 (cn (a0.toList == (⟨#[109,111,100,101,108]⟩:ByteArray).toList)
 (cn (a0.toList == (⟨#[109,111,100,101,108]⟩:ByteArray).toList)
 (lf true)
 (lf false))
 (cn (a0.toList == (⟨#[110,111,116]⟩:ByteArray).toList)
 (cn (a0.toList == (⟨#[110,111,116]⟩:ByteArray).toList)
 (lf true)
 (lf false))
 (cn (a0.toList == (⟨#[110,111,119]⟩:ByteArray).toList)
 (cn (a0.toList == (⟨#[110,111,119]⟩:ByteArray).toList)
 (lf true)
 (lf false))
 (cn (a0.toList == (⟨#[111,98,115,101,114,118,101]⟩:ByteArray).toList)
 (cn (a0.toList == (⟨#[111,98,115,101,114,118,101]⟩:ByteArray).toList)
 (lf true)
 (lf false))
 (cn (a0.toList == (⟨#[111,114]⟩:ByteArray).toList)
 (cn (a0.toList == (⟨#[111,114]⟩:ByteArray).toList)
 (lf true)
 (lf false))
 (cn (a0.toList == (⟨#[112,97,114,97,109]⟩:ByteArray).toList)
 (cn (a0.toList == (⟨#[112,97,114,97,109]⟩:ByteArray).toList)
 (lf true)
 (lf false))
 (cn (a0.toList == (⟨#[112,114,101,101,109,112,116]⟩:ByteArray).toList)
 (cn (a0.toList == (⟨#[112,114,101,101,109,112,116]⟩:ByteArray).toList)
 (lf true)
 (lf false))
 (cn (a0.toList == (⟨#[112,114,105,111]⟩:ByteArray).toList)
 (cn (a0.toList == (⟨#[112,114,105,111]⟩:ByteArray).toList)
 (lf true)
 (lf false))
 (cn (a0.toList == (⟨#[112,117,116]⟩:ByteArray).toList)
 (cn (a0.toList == (⟨#[112,117,116]⟩:ByteArray).toList)
 (lf true)
 (lf false))
 (cn (a0.toList == (⟨#[113,117,101,117,101]⟩:ByteArray).toList)
 (cn (a0.toList == (⟨#[113,117,101,117,101]⟩:ByteArray).toList)
 (lf true)
 (lf false))
 (cn (a0.toList == (⟨#[114,101,108,101,97,115,101]⟩:ByteArray).toList)
 (cn (a0.toList == (⟨#[114,101,108,101,97,115,101]⟩:ByteArray).toList)
 (lf true)
 (lf false))
 (cn (a0.toList == (⟨#[114,101,115,111,117,114,99,101]⟩:ByteArray).toList)
 (cn (a0.toList == (⟨#[114,101,115,111,117,114,99,101]⟩:ByteArray).toList)
 (lf true)
 (lf false))
 (cn (a0.toList == (⟨#[114,105,100,101]⟩:ByteArray).toList)
 (cn (a0.toList == (⟨#[114,105,100,101]⟩:ByteArray).toList)
 (lf true)
 (lf false))
 (cn (a0.toList == (⟨#[114,111,117,116,105,110,101]⟩:ByteArray).toList)
 (cn (a0.toList == (⟨#[114,111,117,116,105,110,101]⟩:ByteArray).toList)
 (lf true)
 (lf false))
 (cn (a0.toList == (⟨#[115,101,105,122,101]⟩:ByteArray).toList)
 (cn (a0.toList == (⟨#[115,101,105,122,101]⟩:ByteArray).toList)
 (lf true)
 (lf false))
 (cn (a0.toList == (⟨#[115,101,110,100]⟩:ByteArray).toList)
 (cn (a0.toList == (⟨#[115,101,110,100]⟩:ByteArray).toList)
 (lf true)
 (lf false))
 (cn (a0.toList == (⟨#[115,101,116]⟩:ByteArray).toList)
 (cn (a0.toList == (⟨#[115,101,116]⟩:ByteArray).toList)
 (lf true)
 (lf false))
 (cn (a0.toList == (⟨#[115,104,105,102,116]⟩:ByteArray).toList)
 (cn (a0.toList == (⟨#[115,104,105,102,116]⟩:ByteArray).toList)
 (lf true)
 (lf false))
 (cn (a0.toList == (⟨#[115,105,103,110,97,108]⟩:ByteArray).toList)
 (cn (a0.toList == (⟨#[115,105,103,110,97,108]⟩:ByteArray).toList)
 (lf true)
 (lf false))
 (cn (a0.toList == (⟨#[115,105,116,101]⟩:ByteArray).toList)
 (cn (a0.toList == (⟨#[115,105,116,101]⟩:ByteArray).toList)
 (lf true)
 (lf false))
 (cn (a0.toList == (⟨#[115,105,122,101]⟩:ByteArray).toList)
 (cn (a0.toList == (⟨#[115,105,122,101]⟩:ByteArray).toList)
 (lf true)
 (lf false))
 (cn (a0.toList == (⟨#[115,112,97,119,110]⟩:ByteArray).toList)
 (cn (a0.toList == (⟨#[115,112,97,119,110]⟩:ByteArray).toList)
 (lf true)
 (lf false))
 (cn (a0.toList == (⟨#[115,116,97,114,116]⟩:ByteArray).toList)
 (cn (a0.toList == (⟨#[115,116,97,114,116]⟩:ByteArray).toList)
 (lf true)
 (lf false))
 (cn (a0.toList == (⟨#[115,116,111,112]⟩:ByteArray).toList)
 (cn (a0.toList == (⟨#[115,116,111,112]⟩:ByteArray).toList)
 (lf true)
 (lf false))
 (cn (a0.toList == (⟨#[115,116,111,114,101]⟩:ByteArray).toList)
 (cn (a0.toList == (⟨#[115,116,111,114,101]⟩:ByteArray).toList)
 (lf true)
 (lf false))
 (cn (a0.toList == (⟨#[115,116,114,101,97,109]⟩:ByteArray).toList)
 (cn (a0.toList == (⟨#[115,116,114,101,97,109]⟩:ByteArray).toList)
 (lf true)
 (lf false))
 (cn (a0.toList == (⟨#[115,117,109]⟩:ByteArray).toList)
 (cn (a0.toList == (⟨#[115,117,109]⟩:ByteArray).toList)
 (lf true)
 (lf false))
 (cn (a0.toList == (⟨#[116,97,98,108,101]⟩:ByteArray).toList)
 (cn (a0.toList == (⟨#[116,97,98,108,101]⟩:ByteArray).toList)
 (lf true)
 (lf false))
 (cn (a0.toList == (⟨#[116,97,108,108,121]⟩:ByteArray).toList)
 (cn (a0.toList == (⟨#[116,97,108,108,121]⟩:ByteArray).toList)
 (lf true)
 (lf false))
 (cn (a0.toList == (⟨#[116,105,99,107,115]⟩:ByteArray).toList)
 (cn (a0.toList == (⟨#[116,105,99,107,115]⟩:ByteArray).toList)
 (lf true)
 (lf false))
 (cn (a0.toList == (⟨#[116,105,109,101]⟩:ByteArray).toList)
 (cn (a0.toList == (⟨#[116,105,109,101]⟩:ByteArray).toList)
 (lf true)
 (lf false))
 (cn (a0.toList == (⟨#[116,114,117,101]⟩:ByteArray).toList)
 (cn (a0.toList == (⟨#[116,114,117,101]⟩:ByteArray).toList)
 (lf true)
 (lf false))
 (cn (a0.toList == (⟨#[117,110,105,102,111,114,109]⟩:ByteArray).toList)
 (cn (a0.toList == (⟨#[117,110,105,102,111,114,109]⟩:ByteArray).toList)
 (lf true)
 (lf false))
 (cn (a0.toList == (⟨#[117,110,116,105,108]⟩:ByteArray).toList)
 (cn (a0.toList == (⟨#[117,110,116,105,108]⟩:ByteArray).toList)
 (lf true)
 (lf false))
 (cn (a0.toList == (⟨#[117,112]⟩:ByteArray).toList)
 (cn (a0.toList == (⟨#[117,112]⟩:ByteArray).toList)
 (lf true)
 (lf false))
 (cn (a0.toList == (⟨#[118,97,114]⟩:ByteArray).toList)
 (cn (a0.toList == (⟨#[118,97,114]⟩:ByteArray).toList)
 (lf true)
 (lf false))
 (cn (a0.toList == (⟨#[119,97,105,116]⟩:ByteArray).toList)
 (cn (a0.toList == (⟨#[119,97,105,116]⟩:ByteArray).toList)
 (lf true)
 (lf false))
 (cn (a0.toList == (⟨#[119,97,105,116,105,110,103]⟩:ByteArray).toList)
 (cn (a0.toList == (⟨#[119,97,105,116,105,110,103]⟩:ByteArray).toList)
 (lf true)
 (lf false))
 (cn (a0.toList == (⟨#[119,104,105,108,101]⟩:ByteArray).toList)
 (lf true)
 (lf false))))))))))))))))))))))))))))))))))))))))))))))))))))))))))))))))))))))))))
def s9(a0:ByteArray):Option Bool:=Aho L a0
def X81:Gh:=E1 B 81 cS (s9 L) fun a0 r h=>hF Tryz.func81 (oS []) L (fun kk=>eE (Aho L a0)) h
def c60:=CC Tryz.f60
def O60:Bi:=oL [X80 L,X81 L]
def Bym(a0:ByteArray)(v:Cp):St:=⟨[(0,S a0),(2,I v.1),(23,I (a0.size:Int)),(24,I v.2)],[],0⟩
def Tm [An A B8](a0:ByteArray)(rec:Int→Int→A)(Ag:Int)(Ai:Int):A:=
 (cn (decide (Ai < (a0.size:Int)))
 (cn ((if 0≤Ai then a0[Int.toNat Ai]? else none).isSome)
 (bd (W2 L (Eo (if 0≤Ai then a0[Int.toNat Ai]? else none))) fun r6=>
 (jp (.cn (!r6)
 (.cn (decide ((Eo (if 0≤Ai then a0[Int.toNat Ai]? else none)) < 48))
 (.lf true)
 (.lf (decide ((Eo (if 0≤Ai then a0[Int.toNat Ai]? else none)) > 57))))
 (.lf false)) (fun b7=>
 (jp (.cn b7
 (.lf ((Eo (if 0≤Ai then a0[Int.toNat Ai]? else none)) != 95))
 (.lf false)) (fun b8=>
 (cn b8
 (lf (0,3,Ai))
 (rec Ag (Cq (Ai+1)))))))))
 fl)
 (lf (1,Ag,Ai)))
def K1(L:Nat)(a0:ByteArray):Nat→Int→Int→Option B8
 |0,_,_=>none
 |n+1,Ag,Ai=>Tm L a0 (K1 L a0 n) Ag Ai
theorem Ccj(a0:ByteArray):LP (EV (O60 L) L 9 c60.w.l.u.l.l) [0,2,23,24] [] (Bym a0) [.ret,.exit 0] (fun n v=>K1 L a0 n v.1 v.2) K:=lE (fun _=>rfl) fun n v ih=>eE (Tm L a0 (fun Ag Ai=>re (ih (Ag,Ai))) v.1 v.2)
def Ua [An A Int](L:Nat)(o9:Nat×Cp):A:=
 (sl o9.1 [(lf o9.2.1),
 (lf 0)])
def Bw8:Be:=(Ax 0 (Bk (EV (O60 L) L 9 c60.w.r) (C0 Tryz.prog (RS Tryz.f60) kk)))
theorem Cn5(a0:ByteArray)(o9:Nat×Cp):kX [.ret,.exit 0] (Bym a0) (Bw8 L kk) o9=ob (Ua L o9) (kQ I kk):=eE (Ua L o9)
def Zz [An A Int](a0:ByteArray)(nx1:A):A:=
 (jp (.cn (a0.toList == (⟨#[]⟩:ByteArray).toList)
 (.lf true)
 (.lf (decide ((a0.size:Int) > 24)))) (fun b1=>
 (jb (.cn b1
 (.lf true)
 (.cn ((if 0≤0 then a0[Int.toNat 0]? else none).isSome)
 (.bd (W2 L (Eo (if 0≤0 then a0[Int.toNat 0]? else none))) fun r3=>
 (.lf (!r3)))
 .fl)) (fun b2=>
 (jb (.cn b2
 (.lf true)
 (.bd (s9 L a0) fun r5=>
 (.lf r5))) (fun b4=>
 (cn b4
 (lf 3)
 nx1)))))))
def Aub [An A Int](a0:ByteArray):A:=Zz L a0 (bd (K1 L a0 L 0 0) fun o9=>Ua L o9)
def Dp(a0:ByteArray):Option Int:=Aub L a0
def X60:Gh:=E1 I 60 cS (Dp L) fun a0 r h=>hF Tryz.func60 (C:=O60 L) (oS _) L (fun kk=>eE (Zz L a0 (ho (Ccj L (Bw8 L kk) a0 L (0,0)) fun o9=>Cn5 L kk a0 o9))) h
def Al4 [An A Bool](L:Nat)(a0:Int):A:=
 (jp (.cn (decide (a0≥1))
 (.lf (decide (a0≤3)))
 (.lf false)) (fun b1=>
 (lf b1)))
def Li(a0:Int):Option Bool:=Al4 L a0
def Bz9:Gh:=E1 B 135 (cI .i64) (Li L) fun a0 r h=>hF Tryz.func135 (oS []) L (fun kk=>eE (Al4 L a0)) h
def A5m [An A Bool](L:Nat)(a0:Int):A:=
 (jp (.cn (decide (a0≥(-1000000000000)))
 (.lf (decide (a0≤1000000000000)))
 (.lf false)) (fun b1=>
 (lf b1)))
def Agx(a0:Int):Option Bool:=A5m L a0
def X59:Gh:=E1 B 59 (cI .i64) (Agx L) fun a0 r h=>hF Tryz.func59 (oS []) L (fun kk=>eE (A5m L a0)) h
def Ajq [An A Bool](L:Nat)(a0:Int)(a1:Int)(a2:Int):A:=
 (jp (.cn (decide (a0≥a1))
 (.lf (decide (a0≤a2)))
 (.lf false)) (fun b1=>
 (lf b1)))
def Bn(a0:Int)(a1:Int)(a2:Int):Option Bool:=Ajq L a0 a1 a2
def X91:Gh:=E3 B 91 (cI .i64) (cI .i64) (cI .i64) (Bn L) fun a0 a1 a2 r h=>hF Tryz.func91 (oS []) L (fun kk=>eE (Ajq L a0 a1 a2)) h
def Apb [An A Bool](a0:Int)(a1:Int):A:=
 (cn (a0 == 1)
 (bd (Agx L a1) fun r1=>
 (lf r1))
 (cn (a0 == 2)
 (jp (.cn (a1 == 0)
 (.lf true)
 (.lf (a1 == 1))) (fun b2=>
 (lf b2)))
 (cn (a0 == 3)
 (bd (Bn L a1 0 1000000000) fun r3=>
 (lf r3))
 (lf false))))
def Un(a0:Int)(a1:Int):Option Bool:=Apb L a0 a1
def B0a:Gh:=E2 B 136 (cI .i64) (cI .i64) (Un L) fun a0 a1 r h=>hF Tryz.func136 (oS [X59 L,X91 L]) L (fun kk=>eE (Apb L a0 a1)) h
def c92:=CC Tryz.f92
def O92:Bi:=oL [X91 L]
def Byw(a0:Af)(v:Cp):St:=⟨[(0,.any),(1,.loc 1 0),(2,I v.1),(12,.any),(17,.any),(23,lv (.t184 a0.Shift)),(24,I (a0.Shift.length:Int)),(25,I v.2)],[(1,(Bq a0))],0⟩
def S8 [An A B8](a0:Af)(rec:Int→Int→A)(Ao:Int)(Ai:Int):A:=
 (lw Ai a0.Shift
 (bd (Bn L ((a0.Shift.getD (Int.toNat Ai) default).At) 0 (Cq (a0.Cycle - 1))) fun r2=>
 (cn (!r2)
 (cn (!r2)
 (lf (0,2,Ai))
 (cn (decide (Ai > 0))
 (gi (Cq (Ai - 1)) a0.Shift
 (cn (decide ((a0.Shift.getD (Int.toNat Ai) default).At≤(a0.Shift.getD (Int.toNat (Cq (Ai - 1))) default).At))
 (lf (0,12,Ai))
 (rec Ao (Cq (Ai+1)))))
 (rec Ao (Cq (Ai+1)))))
 (bd (Bn L ((a0.Shift.getD (Int.toNat Ai) default).Units) 0 1000) fun r3=>
 (cn (!r3)
 (lf (0,2,Ai))
 (cn (decide (Ai > 0))
 (gi (Cq (Ai - 1)) a0.Shift
 (cn (decide ((a0.Shift.getD (Int.toNat Ai) default).At≤(a0.Shift.getD (Int.toNat (Cq (Ai - 1))) default).At))
 (lf (0,12,Ai))
 (rec Ao (Cq (Ai+1)))))
 (rec Ao (Cq (Ai+1))))))))
 (lf (1,Ao,Ai)))
def H1(L:Nat)(a0:Af):Nat→Int→Int→Option B8
 |0,_,_=>none
 |n+1,Ao,Ai=>S8 L a0 (H1 L a0 n) Ao Ai
theorem Cc1(a0:Af):LP (EV (O92 L) L 9 c92.w.u.l.u.l.l) [0,1,2,12,17,23,24,25] [1] (Byw a0) [.ret,.exit 1] (fun n v=>H1 L a0 n v.1 v.2) K:=lE (fun _=>rfl) fun n v ih=>eE (S8 L a0 (fun Ao Ai=>re (ih (Ao,Ai))) v.1 v.2)
def Ng [An A Int](L:Nat)(o4:Nat×Cp):A:=
 (sl o4.1 [(lf o4.2.1),
 (lf 0)])
def Bxl:Be:=(Ax 1 (Bk (EV (O92 L) L 9 c92.w.u.r) (C0 Tryz.prog (RS Tryz.f92) kk)))
theorem Coi(a0:Af)(o4:Nat×Cp):kX [.ret,.exit 1] (Byw a0) (Bxl L kk) o4=ob (Ng L o4) (kQ I kk):=eE (Ng L o4)
def Ta [An A Int](a0:Af)(nx1:A):A:=
 (cn ((a0.Shift.length:Int) == 0)
 (cn (a0.Cycle != 0)
 (lf 1)
 (lf 0))
 (cn (decide ((a0.Shift.length:Int) > 20))
 (lf 6)
 (bd (Bn L a0.Cycle 1 1000000000) fun r1=>
 (cn (!r1)
 (lf 2)
 nx1))))
def Am6 [An A Int](a0:Af):A:=Ta L a0 (bd (H1 L a0 L 0 0) fun o4=>Ng L o4)
def Yh(a0:Af):Option Int:=Am6 L a0
def X92:Gh:=E1 I 92 f7 (Yh L) fun a0 r h=>hF Tryz.func92 (C:=O92 L) (oS _) L (fun kk=>eE (Ta L a0 (ho (Cc1 L (Bxl L kk) a0 L (0,0)) fun o4=>Coi L kk a0 o4))) h
def Ckj:=CC Tryz.f171
def B81(L:Nat):Bi:=oL []
def Brk(a0:List Int)(a1:List Int)(v:Bool×Int):St:=⟨[(0,lv (.t3 a0)),(1,lv (.t3 a1)),(4,B v.1),(12,I (a0.length:Int)),(13,I v.2)],[],0⟩
def Qg [An A (Nat×Bool×Int)](L:Nat)(a0:List Int)(a1:List Int)(rec:Bool→Int→A)(Aj:Bool)(Bg:Int):A:=
 (lw Bg a0
 (gi Bg a1
 (cn ((a0.getD (Int.toNat Bg) default) != (a1.getD (Int.toNat Bg) default))
 (lf (0,false,Bg))
 (rec Aj (Cq (Bg+1)))))
 (lf (1,Aj,Bg)))
def Gz(L:Nat)(a0:List Int)(a1:List Int):Nat→Bool→Int→Option (Nat×Bool×Int)
 |0,_,_=>none
 |n+1,Aj,Bg=>Qg L a0 a1 (Gz L a0 a1 n) Aj Bg
theorem B40(a0:List Int)(a1:List Int):LP (EV (B81 L) L 9 Ckj.w.l.u.l.l) [0,1,4,12,13] [] (Brk a0 a1) [.ret,.exit 0] (fun n v=>Gz L a0 a1 n v.1 v.2) K:=lE (fun _=>rfl) fun n v ih=>eE (Qg L a0 a1 (fun Aj Bg=>re (ih (Aj,Bg))) v.1 v.2)
def Ko [An A Bool](L:Nat)(o1:Nat×Bool×Int):A:=
 (sl o1.1 [(lf o1.2.1),
 (lf true)])
def Bn7:Be:=(Ax 0 (Bk (EV (B81 L) L 9 Ckj.w.r) (C0 Tryz.prog (RS Tryz.f171) kk)))
theorem Cei(a0:List Int)(a1:List Int)(o1:Nat×Bool×Int):kX [.ret,.exit 0] (Brk a0 a1) (Bn7 L kk) o1=ob (Ko L o1) (kQ B kk):=eE (Ko L o1)
def Qi [An A Bool](L:Nat)(a0:List Int)(a1:List Int)(nx1:A):A:=
 (cn ((a0.length:Int) != (a1.length:Int))
 (lf false)
 nx1)
def Ajs [An A Bool](a0:List Int)(a1:List Int):A:=Qi L a0 a1 (bd (Gz L a0 a1 L false 0) fun o1=>Ko L o1)
def Ot(a0:List Int)(a1:List Int):Option Bool:=Ajs L a0 a1
def Ch4:Gh:=E2 B 171 cl3 cl3 (Ot L) fun a0 a1 r h=>hF Tryz.func171 (C:=B81 L) (oS _) L (fun kk=>eE (Qi L a0 a1 (ho (B40 L (Bn7 L kk) a0 a1 L (false,0)) fun o1=>Cei L kk a0 a1 o1))) h
def Arp [An A Bool](a0:Bj)(a1:Bj):A:=
 (jp (.cn (a0.Op == a1.Op)
 (.lf (a0.A == a1.A))
 (.lf false)) (fun b1=>
 (jp (.cn b1
 (.lf (a0.B == a1.B))
 (.lf false)) (fun b2=>
 (jp (.cn b2
 (.lf (a0.N == a1.N))
 (.lf false)) (fun b3=>
 (jb (.cn b3
 (.bd (Ot L a0.Values a1.Values) fun r5=>
 (.lf r5))
 (.lf false)) (fun b4=>
 (jb (.cn b4
 (.bd (Ot L a0.Weights a1.Weights) fun r7=>
 (.lf r7))
 (.lf false)) (fun b6=>
 (lf b6)))))))))))
def Ri(a0:Bj)(a1:Bj):Option Bool:=Arp L a0 a1
def B9n:Gh:=E2 B 137 Rn Rn (Ri L) fun a0 a1 r h=>hF Tryz.func137 (oS [Ch4 L]) L (fun kk=>eE (Arp L a0 a1)) h
def Ckk:=CC Tryz.f172
def B82(L:Nat):Bi:=oL []
def Brl(a0:List ByteArray)(a1:ByteArray)(v:Cp):St:=⟨[(0,lv (.t9 a0)),(1,S a1),(4,I v.1),(7,I (a0.length:Int)),(8,I v.2)],[],0⟩
def Ll [An A B8](L:Nat)(a0:List ByteArray)(a1:ByteArray)(rec:Int→Int→A)(Aj:Int)(Bg:Int):A:=
 (lw Bg a0
 (cn (a1.toList == (a0.getD (Int.toNat Bg) default).toList)
 (lf (0,Bg,Bg))
 (rec Aj (Cq (Bg+1))))
 (lf (1,Aj,Bg)))
def Es(L:Nat)(a0:List ByteArray)(a1:ByteArray):Nat→Int→Int→Option B8
 |0,_,_=>none
 |n+1,Aj,Bg=>Ll L a0 a1 (Es L a0 a1 n) Aj Bg
theorem B41(a0:List ByteArray)(a1:ByteArray):LP (EV (B82 L) L 9 Ckk.u.l.u.l.l) [0,1,4,7,8] [] (Brl a0 a1) [.ret,.exit 0] (fun n v=>Es L a0 a1 n v.1 v.2) K:=lE (fun _=>rfl) fun n v ih=>eE (Ll L a0 a1 (fun Aj Bg=>re (ih (Aj,Bg))) v.1 v.2)
def Lp [An A Int](L:Nat)(o1:Nat×Cp):A:=
 (sl o1.1 [(lf o1.2.1),
 (lf (-1))])
def Bn8:Be:=(Ax 0 (Bk (EV (B82 L) L 9 Ckk.u.r) (C0 Tryz.prog (RS Tryz.f172) kk)))
theorem Cej(a0:List ByteArray)(a1:ByteArray)(o1:Nat×Cp):kX [.ret,.exit 0] (Brl a0 a1) (Bn8 L kk) o1=ob (Lp L o1) (kQ I kk):=eE (Lp L o1)
def Adz [An A Int](a0:List ByteArray)(a1:ByteArray):A:=(bd (Es L a0 a1 L 0 0) fun o1=>Lp L o1)
def Eb(a0:List ByteArray)(a1:ByteArray):Option Int:=Adz L a0 a1
def B9x:Gh:=E2 I 172 cl9 cS (Eb L) fun a0 a1 r h=>hF Tryz.func172 (C:=B82 L) (oS _) L (fun kk=>eE ((ho (B41 L (Bn8 L kk) a0 a1 L (0,0)) fun o1=>Cej L kk a0 a1 o1))) h
def Sf [An A Bool](a0:List ByteArray)(a1:ByteArray):A:=
 (bd (Eb L a0 a1) fun r1=>
 (lf (decide (r1≥0))))
def B4(a0:List ByteArray)(a1:ByteArray):Option Bool:=Sf L a0 a1
def B9o:Gh:=E2 B 138 cl9 cS (B4 L) fun a0 a1 r h=>hF Tryz.func138 (oS [B9x L]) L (fun kk=>eE (Sf L a0 a1)) h
def Al2 [An A Bool](L:Nat)(a0:Bj):A:=
 (cn (a0.Op == 1)
 (jp (.cn ((Cq ((a0.Values.length:Int)+(a0.Weights.length:Int))) == 0)
 (.lf (a0.B == 0))
 (.lf false)) (fun b1=>
 (jp (.cn b1
 (.lf (a0.N == 0))
 (.lf false)) (fun b2=>
 (lf b2)))))
 (cn (a0.Op == 2)
 (cn (a0.Op == 2)
 (jp (.cn ((Cq ((a0.Values.length:Int)+(a0.Weights.length:Int))) == 0)
 (.lf (a0.N == 0))
 (.lf false)) (fun b3=>
 (lf b3)))
 (cn (a0.Op == 4)
 (lf ((Cq ((a0.Values.length:Int)+(a0.Weights.length:Int))) == 0))
 (cn (a0.Op == 3)
 (jp (.cn (a0.A == 0)
 (.lf (a0.B == 0))
 (.lf false)) (fun b4=>
 (jp (.cn b4
 (.lf (a0.N == 0))
 (.lf false)) (fun b5=>
 (lf b5)))))
 (lf false))))
 (cn (a0.Op == 5)
 (jp (.cn ((Cq ((a0.Values.length:Int)+(a0.Weights.length:Int))) == 0)
 (.lf (a0.N == 0))
 (.lf false)) (fun b6=>
 (lf b6)))
 (cn (a0.Op == 4)
 (lf ((Cq ((a0.Values.length:Int)+(a0.Weights.length:Int))) == 0))
 (cn (a0.Op == 3)
 (jp (.cn (a0.A == 0)
 (.lf (a0.B == 0))
 (.lf false)) (fun b7=>
 (jp (.cn b7
 (.lf (a0.N == 0))
 (.lf false)) (fun b8=>
 (lf b8)))))
 (lf false))))))
def Afs(a0:Bj):Option Bool:=Al2 L a0
def Ch5:Gh:=E1 B 173 Rn (Afs L) fun a0 r h=>hF Tryz.func173 (oS []) L (fun kk=>eE (Al2 L a0)) h
def Ckw:=CC Tryz.f199
def Ck2:=CC Tryz.f214
def Ckl:=CC Tryz.f174
def A8o(L:Nat):Bi:=oL []
def Brm(p1_0:List Int)(p1_1:Int)(p1_2:Int)(v:Cp):St:=⟨[(0,lv (.t3 p1_0)),(1,.clo 200 0 [.loc 3 0,.loc 4 0]),(4,I v.1),(7,I (p1_0.length:Int)),(8,I v.2)],[(3,[I p1_1]),(4,[I p1_2])],5⟩
def Yu [An A B8](L:Nat)(p1_0:List Int)(p1_1:Int)(p1_2:Int)(rec:Int→Int→A)(Ag:Int)(Ai:Int):A:=
 (lw Ai p1_0
 (jp (.cn (decide ((p1_0.getD (Int.toNat Ai) default) < p1_1))
 (.lf true)
 (.lf (decide ((p1_0.getD (Int.toNat Ai) default) > p1_2)))) (fun b1=>
 (cn b1
 (lf (0,Ai,Ai))
 (rec Ag (Cq (Ai+1))))))
 (lf (1,Ag,Ai)))
def Kv(L:Nat)(p1_0:List Int)(p1_1:Int)(p1_2:Int):Nat→Int→Int→Option B8
 |0,_,_=>none
 |n+1,Ag,Ai=>Yu L p1_0 p1_1 p1_2 (Kv L p1_0 p1_1 p1_2 n) Ag Ai
theorem B42(p1_0:List Int)(p1_1:Int)(p1_2:Int):LP (EV (A8o L) L 7 Ck2.u.l.u.l.l) [0,1,4,7,8] [3,4] (Brm p1_0 p1_1 p1_2) [.ret,.exit 0] (fun n v=>Kv L p1_0 p1_1 p1_2 n v.1 v.2) K:=lE (fun _=>rfl) fun n v ih=>eE (Yu L p1_0 p1_1 p1_2 (fun Ag Ai=>re (ih (Ag,Ai))) v.1 v.2)
def Bb4(p1_0:List Int)(p1_1:Int)(p1_2:Int)(k:Bx):Int→Prop:=fun o=>k (I o) [(3,[I p1_1]),(4,[I p1_2])]
def Y5 [An A Int](L:Nat)(o2:Nat×Cp):A:=
 (sl o2.1 [(lf o2.2.1),
 (lf (-1))])
def Bn9:Be:=(Ax 0 (Bk (EV (A8o L) L 7 Ck2.u.r) (E8 Tryz.prog (RS Tryz.f214) k)))
theorem Cek(p1_0:List Int)(p1_1:Int)(p1_2:Int)(o2:Nat×Cp):kX [.ret,.exit 0] (Brm p1_0 p1_1 p1_2) (Bn9 L k) o2=ob (Y5 L o2) (Bb4 p1_0 p1_1 p1_2 k):=eE (Y5 L o2)
def Anh [An A Int](p1_0:List Int)(p1_1:Int)(p1_2:Int):A:=(bd (Kv L p1_0 p1_1 p1_2 L 0 0) fun o2=>Y5 L o2)
def Aef(p1_0:List Int)(p1_1:Int)(p1_2:Int):Option Int:=Anh L p1_0 p1_1 p1_2
theorem B22(p1_0:List Int)(p1_1:Int)(p1_2:Int):YO (A8o L) L 8 214 [lv (.t3 p1_0),.clo 200 0 [.loc 3 0,.loc 4 0]] [(3,[I p1_1]),(4,[I p1_2])] k=ob (Aef L p1_0 p1_1 p1_2) (Bb4 p1_0 p1_1 p1_2 k):=(Dg _ _ _ jn4 _ _ _ _ _ _ _).trans (eE ((ho (B42 L (Bn9 L k) p1_0 p1_1 p1_2 L (0,0)) fun o2=>Cek L k p1_0 p1_1 p1_2 o2)))
def Tw [An A Bool](L:Nat)(o3:Int):A:=
 (lf (!(decide (o3≥0))))
def Boa(a2:List Int)(a0:Int)(a1:Int):Bx:=(Cm Tryz.prog (A8o L) (EI (A8o L) L 8) 2 (List.drop 3 Ckw.u.l.ops) ⟨[(6,.clo 200 0 [.loc 3 0,.loc 4 0]),(5,lv (.t3 a2)),(0,lv (.t3 a2)),(1,.clo 200 0 [.loc 3 0,.loc 4 0]),(4,B false)],[(3,[I a0]),(4,[I a1])],5⟩ (some 7) (fun st9=>(Bk (EV (A8o L) L 8 Ckw.u.r) (E8 Tryz.prog (RS Tryz.f199) (Cm Tryz.prog (A8o L) (EI (A8o L) L 9) 2 (List.drop 3 Ckl.u.l.ops) ⟨[(8,.clo 200 0 [.loc 3 0,.loc 4 0]),(7,lv (.t3 a2)),(2,lv (.t3 a2)),(3,.loc 3 0),(4,.loc 4 0),(6,B false)],[(3,[I a0]),(4,[I a1])],0⟩ (some 9) (fun st9=>(Bk (EV (A8o L) L 9 Ckl.u.r) (C0 Tryz.prog (RS Tryz.f174) kk)) .normal st9)))) .normal st9))
theorem Cel(a2:List Int)(a0:Int)(a1:Int)(o3:Int):Bb4 a2 a0 a1 (Boa L kk a2 a0 a1) o3=ob (Tw L o3) (kQ B kk):=eE (Tw L o3)
def At6 [An A Bool](a0:Int)(a1:Int)(a2:List Int):A:=(bd (Aef L a2 a0 a1) fun o3=>Tw L o3)
def Ht(a0:Int)(a1:Int)(a2:List Int):Option Bool:=At6 L a0 a1 a2
def Ch6:Gh:=E3 B 174 (cI .i64) (cI .i64) cl3 (Ht L) fun a0 a1 a2 r h=>hF Tryz.func174 (C:=A8o L) (oS _) L (fun kk=>eE ((ho (B22 L (Boa L kk a2 a0 a1) a2 a0 a1) fun o3=>Cel L kk a2 a0 a1 o3))) h
def Ao8 [An A Int](a0:Bj):A:=
 (bd (Afs L a0) fun r1=>
 (cn (!r1)
 (lf 1)
 (cn (a0.Op == 1)
 (bd (Ht L 0 1000000000 [a0.A]) fun r2=>
 (cn (!r2)
 (lf 2)
 (lf 0)))
 (cn (a0.Op == 2)
 (bd (Ht L 0 1000000000 [a0.A,a0.B]) fun r3=>
 (jp (.cn r3
 (.lf (decide (a0.A≤a0.B)))
 (.lf false)) (fun b4=>
 (cn (!b4)
 (lf 2)
 (lf 0)))))
 (cn (a0.Op == 4)
 (bd (Ht L 1 20 [a0.N]) fun r5=>
 (cn r5
 (jb (.bd (Ht L 0 1000000 [a0.A,a0.B]) fun r7=>
 (.lf r7)) (fun b6=>
 (jp (.cn b6
 (.lf (decide (a0.A≤a0.B)))
 (.lf false)) (fun b8=>
 (cn (!b8)
 (lf 2)
 (lf 0))))))
 (nq (nq (lf 2)))))
 (cn (a0.Op == 5)
 (bd (Ht L 1 1000 [a0.A,a0.B]) fun r9=>
 (cn (!r9)
 (lf 2)
 (lf 0)))
 (cn (a0.Op == 3)
 (cn ((a0.Values.length:Int) != (a0.Weights.length:Int))
 (lf 8)
 (cn ((a0.Values.length:Int) == 0)
 (lf 7)
 (cn (decide ((a0.Values.length:Int) > 20))
 (lf 6)
 (bd (Ht L 0 1000000000 a0.Values) fun r10=>
 (jb (.cn r10
 (.bd (Ht L 1 1000 a0.Weights) fun r12=>
 (.lf r12))
 (.lf false)) (fun b11=>
 (cn (!b11)
 (lf 2)
 (lf 0))))))))
 (lf 2))))))))
def Rh(a0:Bj):Option Int:=Ao8 L a0
def B9p:Gh:=E1 I 139 Rn (Rh L) fun a0 r h=>hF Tryz.func139 (oS [Ch5 L,Ch6 L]) L (fun kk=>eE (Ao8 L a0)) h
def Ad9 [An A Int](a0:Aa)(a1:Gu):A:=
 (cn (a1.Stream.toList == (⟨#[]⟩:ByteArray).toList)
 (bd (Ri L a1.Up (⟨0,0,0,0,[],[]⟩:Bj)) fun r1=>
 (cn (!r1)
 (nq (lf 1))
 (bd (Ri L a1.Down (⟨0,0,0,0,[],[]⟩:Bj)) fun r2=>
 (nq (cn (!r2)
 (lf 1)
 (cn (a1.Stream.toList == (⟨#[]⟩:ByteArray).toList)
 (lf 0)
 (bd (B4 L a0.Streams a1.Stream) fun r3=>
 (cn (!r3)
 (lf 5)
 (bd (Rh L a1.Up) fun r4=>
 (cn (r4 != 0)
 (lf r4)
 (bd (Rh L a1.Down) fun r5=>
 (lf r5))))))))))))
 (nq (cn (a1.Stream.toList == (⟨#[]⟩:ByteArray).toList)
 (lf 0)
 (bd (B4 L a0.Streams a1.Stream) fun r6=>
 (cn (!r6)
 (lf 5)
 (bd (Rh L a1.Up) fun r7=>
 (cn (r7 != 0)
 (lf r7)
 (bd (Rh L a1.Down) fun r8=>
 (lf r8)))))))))
def Yg(a0:Aa)(a1:Gu):Option Int:=Ad9 L a0 a1
def X93:Gh:=E2 I 93 C3 Bcu (Yg L) fun a0 a1 r h=>hF Tryz.func93 (oS [B9n L,B9o L,B9p L]) L (fun kk=>eE (Ad9 L a0 a1)) h
def B0i:=CC Tryz.f140
def Buw(L:Nat):Bi:=oL []
def B7t:(List Ap)→Prop:=fun x=>kk ((fun(x:List Ap)=>lv (.t190 x)) x)
def Bq6(a0:List (List Ap))(v:Cp):St:=⟨[(0,lv (.t57 a0)),(2,.lst true (.t190 [])),(3,I v.1),(6,.any),(8,.any),(9,lv (.t57 a0)),(10,I (a0.length:Int)),(11,I v.2),(27,.any)],[],0⟩
def Ii [An A B8](L:Nat)(a0:List (List Ap))(rec:Int→Int→A)(Aj:Int)(Qk:Int):A:=
 (lw Qk a0
 (cn (decide ((Cq (Aj+((a0.getD (Int.toNat Qk) default).length:Int))) < 0))
 fl
 (rec (Cq (Aj+((a0.getD (Int.toNat Qk) default).length:Int))) (Cq (Qk+1))))
 (lf (0,Aj,Qk)))
def Dq(L:Nat)(a0:List (List Ap)):Nat→Int→Int→Option B8
 |0,_,_=>none
 |n+1,Aj,Qk=>Ii L a0 (Dq L a0 n) Aj Qk
theorem B4m(a0:List (List Ap)):LP (EV (Buw L) L 9 B0i.w.l.u.l.l) [0,2,3,6,8,9,10,11,27] [] (Bq6 a0) [.exit 0] (fun n v=>Dq L a0 n v.1 v.2) K:=lE (fun _=>rfl) fun n v ih=>eE (Ii L a0 (fun Aj Qk=>re (ih (Aj,Qk))) v.1 v.2)
def Bq7(a0:List (List Ap))(v:List Ap×Int):St:=⟨[(0,.any),(2,.lst true (.t190 [])),(3,.any),(5,.any),(6,.lst true (.t190 v.1)),(11,.any),(25,lv (.t57 a0)),(26,I (a0.length:Int)),(27,I v.2)],[],0⟩
def Ij [An A (Nat×List Ap×Int)](L:Nat)(a0:List (List Ap))(rec:List Ap→Int→A)(Ct:List Ap)(Yb:Int):A:=
 (lw Yb a0
 (gq ((Ct.length+(a0.getD (Int.toNat Yb) default).length)*24≤140737488355328)
 (gq (Ct.length+(a0.getD (Int.toNat Yb) default).length≤maxLen)
 (rec (Ct++(a0.getD (Int.toNat Yb) default)) (Cq (Yb+1)))))
 (lf (0,Ct,Yb)))
def Dr(L:Nat)(a0:List (List Ap)):Nat→List Ap→Int→Option (Nat×List Ap×Int)
 |0,_,_=>none
 |n+1,Ct,Yb=>Ij L a0 (Dr L a0 n) Ct Yb
theorem B4n(a0:List (List Ap)):LP (EV (Buw L) L 9 B0i.x.l.u.l.l) [0,2,3,5,6,11,25,26,27] [] (Bq7 a0) [.exit 2] (fun n v=>Dr L a0 n v.1 v.2) K:=lE (fun _=>rfl) fun n v ih=>eE (Ij L a0 (fun Ct Yb=>re (ih (Ct,Yb))) v.1 v.2)
def Gq [An A (List Ap)](L:Nat)(o2:Nat×List Ap×Int):A:=
 (sl o2.1 [(lf o2.2.1)])
def Bnm:Be:=(Ax 2 (Bk (EV (Buw L) L 9 B0i.x.r) (C0 Tryz.prog (RS Tryz.f140) kk)))
theorem Cdx(a0:List (List Ap))(o2:Nat×List Ap×Int):kX [.exit 2] (Bq7 a0) (Bnm L kk) o2=ob (Gq L o2) (B7t kk):=eE (Gq L o2)
def Io [An A (List Ap)](L:Nat)(a0:List (List Ap))(o1:Nat×Cp)(nx2:A):A:=
 (sl o1.1 [(gq (0≤o1.2.1)
 (gq (o1.2.1*((24:Nat):Int)≤140737488355328)
 (gq (o1.2.1≤(4611686018427387904:Int))
 nx2)))])
def Im [An A (List Ap)](a0:List (List Ap))(o1:Nat×Cp):A:=Io L a0 o1 (bd (Dr L a0 L [] 0) fun o2=>Gq L o2)
def Bnl:Be:=(Ax 0 (Bk (EV (Buw L) L 9 B0i.w.r) (C0 Tryz.prog (RS Tryz.f140) kk)))
theorem Cdw(a0:List (List Ap))(o1:Nat×Cp):kX [.exit 0] (Bq6 a0) (Bnl L kk) o1=ob (Im L a0 o1) (B7t kk):=eE (Io L a0 o1 (ho (B4n L (Bnm L kk) a0 L ([],0)) fun o2=>Cdx L kk a0 o2))
def Z3 [An A (List Ap)](a0:List (List Ap)):A:=(bd (Dq L a0 L 0 0) fun o1=>Im L a0 o1)
def Kg(a0:List (List Ap)):Option (List Ap):=Z3 L a0
def Chr:Gh:=E1 (fun(x:List Ap)=>lv (.t190 x)) 140 Cp5 (Kg L) fun a0 r h=>hF Tryz.func140 (C:=Buw L) (oS _) L (fun kk=>eE ((ho (B4m L (Bnl L kk) a0 L (0,0)) fun o1=>Cdw L kk a0 o1))) h
def Blt(F:(List Ac)→Option Int):Prop:=∀y0 r,F y0=some r→Ho Tryz.prog 118 [Aae.en y0] I r
def Cj0:=CC Tryz.f118
def B8l(Fs:(List Ac)→Option Int)(L:Nat):Bi:=(orc 118 (A1 I Aae Fs) (oL []))
theorem Cq3(Fs:(List Ac)→Option Int)(Bvw:Blt Fs)(L:Nat):Er Tryz.prog (B8l Fs L):=(Hk (a1 _ Bvw) (oS []))
def Bqr(a0:List Ac)(v:Cp):St:=⟨[(0,.any),(2,I 0),(3,I v.1),(8,lv (.t99 a0)),(9,I (a0.length:Int)),(10,I v.2)],[],0⟩
def w3 [An A B8](Fs:(List Ac)→Option Int)(L:Nat)(a0:List Ac)(rec:Int→Int→A)(Ag:Int)(Bg:Int):A:=
 (lw Bg a0
 (bd (Fs ((a0.getD (Int.toNat Bg) default).Body)) fun r1=>
 (bd (Fs ((a0.getD (Int.toNat Bg) default).Else)) fun r2=>
 (rec (Cq (Ag+(Cq (r1+r2)))) (Cq (Bg+1)))))
 (lf (0,Ag,Bg)))
def Mw(Fs:(List Ac)→Option Int)(L:Nat)(a0:List Ac):Nat→Int→Int→Option B8
 |0,_,_=>none
 |n+1,Ag,Bg=>w3 Fs L a0 (Mw Fs L a0 n) Ag Bg
theorem B37(Fs:(List Ac)→Option Int)(L:Nat)(K:Be)(a0:List Ac):LP (EV (B8l Fs L) L 9 Cj0.w.l.u.l.l) [0,2,3,8,9,10] [] (Bqr a0) [.exit 0] (fun n v=>Mw Fs L a0 n v.1 v.2) K:=lE (fun _=>rfl) fun n v ih=>eE (w3 Fs L a0 (fun Ag Bg=>re (ih (Ag,Bg))) v.1 v.2)
def Vn [An A Int](Fs:(List Ac)→Option Int)(L:Nat)(o3:Nat×Cp):A:=
 (sl o3.1 [(lf o3.2.1)])
def Bm6(Fs:(List Ac)→Option Int)(L:Nat)(kk:Dm):Be:=(Ax 0 (Bk (EV (B8l Fs L) L 9 Cj0.w.r) (C0 Tryz.prog (RS Tryz.f118) kk)))
theorem Cdh(Fs:(List Ac)→Option Int)(L:Nat)(kk:Dm)(a0:List Ac)(o3:Nat×Cp):kX [.exit 0] (Bqr a0) (Bm6 Fs L kk) o3=ob (Vn Fs L o3) (kQ I kk):=eE (Vn Fs L o3)
def Awr [An A Int](Fs:(List Ac)→Option Int)(L:Nat)(a0:List Ac):A:=(bd (Mw Fs L a0 L (a0.length:Int) 0) fun o3=>Vn Fs L o3)
def Aon(Fs:(List Ac)→Option Int)(L:Nat)(a0:List Ac):Option Int:=Awr Fs L a0
theorem Cpn(Fs:(List Ac)→Option Int)(Bvw:Blt Fs)(L:Nat):Blt (Aon Fs L):=fun a0 r h=>hF Tryz.func118 (Cq3 Fs Bvw L) L (fun kk=>eE ((ho (B37 Fs L (Bm6 Fs L kk) a0 L ((a0.length:Int),0)) fun o3=>Cdh Fs L kk a0 o3))) h
def Nt:Nat→(List Ac)→Option Int
 |0,_=>none
 |L+1,a0=>Aon (Nt L) L a0
theorem B2i(L:Nat):Blt (Nt L):=by
 induction L with
 |zero=>exact fun _ _ h=>(by cases h)
 |succ L ih=>
  have i118:=ih
  exact Cpn (Nt L) i118 L
def Chg(L:Nat):Gh:=E1 I 118 Aae (Nt L) (B2i L)
def Blu(F:(List Ac)→Option Int):Prop:=∀y0 r,F y0=some r→Ho Tryz.prog 119 [Aae.en y0] I r
def Cj1:=CC Tryz.f119
def B8m(Fv:(List Ac)→Option Int)(L:Nat):Bi:=(orc 119 (A1 I Aae Fv) (oL []))
theorem Cq4(Fv:(List Ac)→Option Int)(Bvx:Blu Fv)(L:Nat):Er Tryz.prog (B8m Fv L):=(Hk (a1 _ Bvx) (oS []))
def Bqs(a0:List Ac)(v:Cp):St:=⟨[(0,.any),(2,I 0),(3,I v.1),(6,lv (.t99 a0)),(7,I (a0.length:Int)),(8,I v.2)],[],0⟩
def w4 [An A B8](Fv:(List Ac)→Option Int)(L:Nat)(a0:List Ac)(rec:Int→Int→A)(Ag:Int)(Bg:Int):A:=
 (lw Bg a0
 (bd (Fv ((a0.getD (Int.toNat Bg) default).Body)) fun r1=>
 (bd (Fv ((a0.getD (Int.toNat Bg) default).Else)) fun r2=>
 (rec (if (Cq (1+r2)) > (if (Cq (1+r1)) > Ag then (Cq (1+r1)) else Ag) then (Cq (1+r2)) else (if (Cq (1+r1)) > Ag then (Cq (1+r1)) else Ag)) (Cq (Bg+1)))))
 (lf (0,Ag,Bg)))
def Mx(Fv:(List Ac)→Option Int)(L:Nat)(a0:List Ac):Nat→Int→Int→Option B8
 |0,_,_=>none
 |n+1,Ag,Bg=>w4 Fv L a0 (Mx Fv L a0 n) Ag Bg
theorem B38(Fv:(List Ac)→Option Int)(L:Nat)(K:Be)(a0:List Ac):LP (EV (B8m Fv L) L 9 Cj1.w.l.u.l.l) [0,2,3,6,7,8] [] (Bqs a0) [.exit 0] (fun n v=>Mx Fv L a0 n v.1 v.2) K:=lE (fun _=>rfl) fun n v ih=>eE (w4 Fv L a0 (fun Ag Bg=>re (ih (Ag,Bg))) v.1 v.2)
def Vo [An A Int](Fv:(List Ac)→Option Int)(L:Nat)(o3:Nat×Cp):A:=
 (sl o3.1 [(lf o3.2.1)])
def Bm7(Fv:(List Ac)→Option Int)(L:Nat)(kk:Dm):Be:=(Ax 0 (Bk (EV (B8m Fv L) L 9 Cj1.w.r) (C0 Tryz.prog (RS Tryz.f119) kk)))
theorem Cdi(Fv:(List Ac)→Option Int)(L:Nat)(kk:Dm)(a0:List Ac)(o3:Nat×Cp):kX [.exit 0] (Bqs a0) (Bm7 Fv L kk) o3=ob (Vo Fv L o3) (kQ I kk):=eE (Vo Fv L o3)
def Aws [An A Int](Fv:(List Ac)→Option Int)(L:Nat)(a0:List Ac):A:=(bd (Mx Fv L a0 L 0 0) fun o3=>Vo Fv L o3)
def Aoo(Fv:(List Ac)→Option Int)(L:Nat)(a0:List Ac):Option Int:=Aws Fv L a0
theorem Cpo(Fv:(List Ac)→Option Int)(Bvx:Blu Fv)(L:Nat):Blu (Aoo Fv L):=fun a0 r h=>hF Tryz.func119 (Cq4 Fv Bvx L) L (fun kk=>eE ((ho (B38 Fv L (Bm7 Fv L kk) a0 L (0,0)) fun o3=>Cdi Fv L kk a0 o3))) h
def Nu:Nat→(List Ac)→Option Int
 |0,_=>none
 |L+1,a0=>Aoo (Nu L) L a0
theorem B2j(L:Nat):Blu (Nu L):=by
 induction L with
 |zero=>exact fun _ _ h=>(by cases h)
 |succ L ih=>
  have i119:=ih
  exact Cpo (Nu L) i119 L
def Chh(L:Nat):Gh:=E1 I 119 Aae (Nu L) (B2j L)
def Ajw:=CC Tryz.f149
def Auy(L:Nat):Bi:=oL []
def Ba5:(Bs×Bool)→Prop:=fun x=>kk ((fun(x:Bs×Bool)=> .tup [.agg (W6 x.1),B x.2]) x)
def Bqi:St:=⟨[(2,.loc 2 0),(3,B false)],[(2,[B false,B false,B false,B false,B false,B false,B false,B false,B false])],0⟩
def Bp3(L:Nat)(kk:Dm):Be:=(C0 Tryz.prog (RS Tryz.f149) kk)
def Ac8 [An A (Bs×Bool)](L:Nat):A:=
 (lf ((⟨false,false,false,false,false,false,false,false,false⟩:Bs),false))
theorem B00:EV (Auy L) L 9 Ajw.w (Bqi) (Bp3 L kk)=ob (Ac8 L) (Ba5 kk):=eE (Ac8 L)
def A4n(a0:Int)(p803_2:Bool):St:=⟨[(2,.loc 2 0),(3,B false),(4,I a0),(32,B p803_2)],[(2,[B false,B false,B false,B false,B false,B false,B false,B false,B false])],0⟩
def A34(e0:EC):Be:=(Ax 0 (Bk (EV (Auy L) L 9 e0) (C0 Tryz.prog (RS Tryz.f149) kk)))
def sx_stmt_uses_3 [An A (Bs×Bool)](L:Nat)(a0:Int)(p803_2:Bool)(nx1:A):A:=
 (cn p803_2
 (lf ((⟨true,false,false,false,false,false,false,false,false⟩:Bs),true))
 (cn (a0 == 13)
 (lf ((⟨true,true,true,false,true,false,false,false,false⟩:Bs),true))
 (cn (a0 == 14)
 (lf ((⟨true,false,true,false,true,false,false,false,false⟩:Bs),true))
 (cn (a0 == 18)
 (lf ((⟨false,false,false,false,false,false,false,false,false⟩:Bs),true))
 nx1))))
def Aki [An A (Bs×Bool)](a0:Int)(p803_2:Bool):A:=sx_stmt_uses_3 L a0 p803_2 (Ac8 L)
theorem B1s(a0:Int)(p803_2:Bool)(z1:EC):EV (Auy L) L 9 Ajw.u.l.u.l.x.x.w.u.r (A4n a0 p803_2) (A34 L kk (EC.put (rl [1]) z1 Ajw.u.r))= @sx_stmt_uses_3 Prop (anP (Ba5 kk)) L a0 p803_2 (EV (Auy L) L 9 z1 (Bqi) (Bp3 L kk)):=by kernel_rfl
theorem B02(a0:Int)(p803_2:Bool):EV (Auy L) L 9 Ajw.u.l.u.l.x.x.w.u.r (A4n a0 p803_2) (A34 L kk Ajw.u.r)=ob (Aki L a0 p803_2) (Ba5 kk):=Eq.trans (b:=EV (Auy L) L 9 Ajw.u.l.u.l.x.x.w.u.r (A4n a0 p803_2) (A34 L kk (EC.put (rl [1]) Ajw.w Ajw.u.r))) (by kernel_rfl) ((B1s L kk a0 p803_2 Ajw.w).trans (eE (sx_stmt_uses_3 L a0 p803_2 (re (B00 L kk)))))
def A4m(a0:Int)(p802_2:Bool):St:=⟨[(2,.loc 2 0),(3,B false),(4,I a0),(5,B p802_2)],[(2,[B false,B false,B false,B false,B false,B false,B false,B false,B false])],0⟩
def A33(e0:EC):Be:=(Ax 0 (Bk (EV (Auy L) L 9 e0) (C0 Tryz.prog (RS Tryz.f149) kk)))
def sx_stmt_uses_2 [An A (Bs×Bool)](L:Nat)(a0:Int)(p802_2:Bool)(nx3:Int→Bool→A):A:=
 (cn p802_2
 (lf ((⟨true,false,true,false,false,false,false,false,false⟩:Bs),true))
 (cn (a0 == 2)
 (lf ((⟨true,true,false,false,false,true,false,false,false⟩:Bs),true))
 (cn (a0 == 3)
 (lf ((⟨false,false,true,false,false,false,false,true,true⟩:Bs),true))
 (cn (a0 == 4)
 (lf ((⟨false,false,true,false,false,false,false,true,false⟩:Bs),true))
 (cn (a0 == 5)
 (lf ((⟨false,false,true,false,false,false,false,false,false⟩:Bs),true))
 (cn (a0 == 6)
 (lf ((⟨true,false,true,true,false,false,true,false,false⟩:Bs),true))
 (cn (a0 == 9)
 (lf ((⟨true,true,false,false,false,false,false,false,false⟩:Bs),true))
 (cn (a0 == 10)
 (nx3 a0 (a0 == 10))
 (nx3 a0 (a0 == 11))))))))))
def Akh [An A (Bs×Bool)](a0:Int)(p802_2:Bool):A:=sx_stmt_uses_2 L a0 p802_2 (fun a0 p803_2=>Aki L a0 p803_2)
theorem B1r(a0:Int)(p802_2:Bool)(z3:EC):EV (Auy L) L 9 (EC.put (rl [21]) z3 Ajw.u.l.u.l.u) (A4m a0 p802_2) (A33 L kk Ajw.u.r)= @sx_stmt_uses_2 Prop (anP (Ba5 kk)) L a0 p802_2 (fun a0 p803_2=>EV (Auy L) L 9 z3 (A4n a0 p803_2) (A34 L kk Ajw.u.r)):=by kernel_rfl
theorem B01(a0:Int)(p802_2:Bool):EV (Auy L) L 9 Ajw.u.l.u.l.u (A4m a0 p802_2) (A33 L kk Ajw.u.r)=ob (Akh L a0 p802_2) (Ba5 kk):=Eq.trans (b:=EV (Auy L) L 9 (EC.put (rl [21]) Ajw.u.l.u.l.x.x.w.u.r Ajw.u.l.u.l.u) (A4m a0 p802_2) (A33 L kk Ajw.u.r)) (by kernel_rfl) ((B1r L kk a0 p802_2 Ajw.u.l.u.l.x.x.w.u.r).trans (eE (sx_stmt_uses_2 L a0 p802_2 (fun a0 p803_2=>re (B02 L kk a0 p803_2)))))
def sx_stmt_uses_0 [An A (Bs×Bool)](L:Nat)(a0:Int)(nx2:Int→Bool→A):A:=
 (cn (a0 == 1)
 (nx2 a0 (a0 == 1))
 (cn (a0 == 7)
 (nx2 a0 (a0 == 7))
 (cn (a0 == 8)
 (nx2 a0 (a0 == 8))
 (cn (a0 == 12)
 (nx2 a0 (a0 == 12))
 (cn (a0 == 15)
 (nx2 a0 (a0 == 15))
 (cn (a0 == 16)
 (nx2 a0 (a0 == 16))
 (nx2 a0 (a0 == 17))))))))
def A1g [An A (Bs×Bool)](a0:Int):A:=sx_stmt_uses_0 L a0 (fun a0 p802_2=>Akh L a0 p802_2)
theorem B1q(a0:Int)(z2:EC):EW (Auy L) L 9 (RS Tryz.f149) (EC.put (rl [2,1,2,1,2]) z2 Ajw) [I a0] kk= @sx_stmt_uses_0 Prop (anP (Ba5 kk)) L a0 (fun a0 p802_2=>EV (Auy L) L 9 z2 (A4m a0 p802_2) (A33 L kk Ajw.u.r)):=by kernel_rfl
def Agz(a0:Int):Option (Bs×Bool):=A1g L a0
def B9q:Gh:=E1 (fun(x:Bs×Bool)=> .tup [.agg (W6 x.1),B x.2]) 149 (cI .i64) (Agz L) fun a0 r h=>hF Tryz.func149 (C:=Auy L) (oS _) L (fun kk=>Eq.trans (b:=EW (Auy L) L 9 (RS Tryz.f149) (EC.put (rl [2,1,2,1,2]) Ajw.u.l.u.l.u Ajw) [I a0] kk) (by kernel_rfl) ((B1q L kk a0 Ajw.u.l.u.l.u).trans (eE (sx_stmt_uses_0 L a0 (fun a0 p802_2=>re (B01 L kk a0 p802_2)))))) h
def Blz(F:Ab→Ab→Option Bool):Prop:=∀y0 y1 r,F y0 y1=some r→Ho Tryz.prog 181 [Bu.en y0,Bu.en y1] B r
def Ckn:=CC Tryz.f181
def B83(E6:Ab→Ab→Option Bool)(L:Nat):Bi:=(orc 181 (A2 B Bu Bu E6) (oL []))
theorem Cq9(E6:Ab→Ab→Option Bool)(Bv2:Blz E6)(L:Nat):Er Tryz.prog (B83 E6 L):=(Hk (a2 _ Bv2) (oS []))
def Brn(a0:Ab)(a1:Ab)(v:Bool×Int):St:=⟨[(0,.any),(1,.any),(2,.any),(3,.loc 3 0),(4,B v.1),(36,lv (.t94 a0.Kids)),(37,I (a0.Kids.length:Int)),(38,I v.2)],[(2,(Dd a0)),(3,(Dd a1))],0⟩
def Acf [An A (Nat×Bool×Int)](E6:Ab→Ab→Option Bool)(L:Nat)(a0:Ab)(a1:Ab)(rec:Bool→Int→A)(Ao:Bool)(Ai:Int):A:=
 (lw Ai a0.Kids
 (gi Ai a1.Kids
 (bd (E6 (Ab.cp (a0.Kids.getD (Int.toNat Ai) default)) (Ab.cp (a1.Kids.getD (Int.toNat Ai) default))) fun r4=>
 (cn (!r4)
 (lf (0,false,Ai))
 (rec Ao (Cq (Ai+1))))))
 (lf (1,Ao,Ai)))
def P0(E6:Ab→Ab→Option Bool)(L:Nat)(a0:Ab)(a1:Ab):Nat→Bool→Int→Option (Nat×Bool×Int)
 |0,_,_=>none
 |n+1,Ao,Ai=>Acf E6 L a0 a1 (P0 E6 L a0 a1 n) Ao Ai
theorem B43(E6:Ab→Ab→Option Bool)(L:Nat)(K:Be)(a0:Ab)(a1:Ab):LP (EV (B83 E6 L) L 9 Ckn.w.l.u.l.l) [0,1,2,3,4,36,37,38] [2,3] (Brn a0 a1) [.ret,.exit 0] (fun n v=>P0 E6 L a0 a1 n v.1 v.2) K:=lE (fun _=>rfl) fun n v ih=>eE (Acf E6 L a0 a1 (fun Ao Ai=>re (ih (Ao,Ai))) v.1 v.2)
def Ya [An A Bool](E6:Ab→Ab→Option Bool)(L:Nat)(o5:Nat×Bool×Int):A:=
 (sl o5.1 [(lf o5.2.1),
 (lf true)])
def Bob(E6:Ab→Ab→Option Bool)(L:Nat)(kk:Dm):Be:=(Ax 0 (Bk (EV (B83 E6 L) L 9 Ckn.w.r) (C0 Tryz.prog (RS Tryz.f181) kk)))
theorem Cem(E6:Ab→Ab→Option Bool)(L:Nat)(kk:Dm)(a0:Ab)(a1:Ab)(o5:Nat×Bool×Int):kX [.ret,.exit 0] (Brn a0 a1) (Bob E6 L kk) o5=ob (Ya E6 L o5) (kQ B kk):=eE (Ya E6 L o5)
def Adq [An A Bool](E6:Ab→Ab→Option Bool)(L:Nat)(a0:Ab)(a1:Ab)(nx1:A):A:=
 (jp (.cn (a0.Op != a1.Op)
 (.lf true)
 (.lf (!(a0.Name.toList == a1.Name.toList)))) (fun b1=>
 (jp (.cn b1
 (.lf true)
 (.lf (a0.N != a1.N))) (fun b2=>
 (jp (.cn b2
 (.lf true)
 (.lf ((a0.Kids.length:Int) != (a1.Kids.length:Int)))) (fun b3=>
 (cn b3
 (lf false)
 nx1)))))))
def A1f [An A Bool](E6:Ab→Ab→Option Bool)(L:Nat)(a0:Ab)(a1:Ab):A:=Adq E6 L a0 a1 (bd (P0 E6 L a0 a1 L false 0) fun o5=>Ya E6 L o5)
def Aq4(E6:Ab→Ab→Option Bool)(L:Nat)(a0:Ab)(a1:Ab):Option Bool:=A1f E6 L a0 a1
theorem Cpt(E6:Ab→Ab→Option Bool)(Bv2:Blz E6)(L:Nat):Blz (Aq4 E6 L):=fun a0 a1 r h=>hF Tryz.func181 (Cq9 E6 Bv2 L) L (fun kk=>eE (Adq E6 L a0 a1 (ho (B43 E6 L (Bob E6 L kk) a0 a1 L (false,0)) fun o5=>Cem E6 L kk a0 a1 o5))) h
def Rk:Nat→Ab→Ab→Option Bool
 |0,_,_=>none
 |L+1,a0,a1=>Aq4 (Rk L) L a0 a1
theorem B2o(L:Nat):Blz (Rk L):=by
 induction L with
 |zero=>exact fun _ _ _ h=>(by cases h)
 |succ L ih=>
  have i181:=ih
  exact Cpt (Rk L) i181 L
def Ch7(L:Nat):Gh:=E2 B 181 Bu Bu (Rk L) (B2o L)
end
end Go.Proofs.YtfencmicmnhglaaGreat.Ev
