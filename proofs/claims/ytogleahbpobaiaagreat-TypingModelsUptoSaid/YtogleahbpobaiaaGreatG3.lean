import Derived.Test.YtogleahbpobaiaaGreatG1
import Derived.Test.YtogleahbpobaiaaGreatG2
namespace Go.Proofs.YtogleahbpobaiaaGreat.Ev
open Go An
set_option maxRecDepth 100000
set_option maxHeartbeats 4000000
set_option linter.unusedVariables false
set_option linter.unusedSimpArgs false
set_option linter.unnecessarySimpa false
variable {A:Type} (L n:Nat) (kk:Ct) (K:Be) (k:Bx)
noncomputable def c11:EC:=CC Tryz.f11
def O11:Bk:=oL [X5 L,X23 L]
def Cjr:Bool→Prop:=fun x=>kk (B x)
def Bta(Ak:Bool)(Am:Int)(a0:Ad)(v:Cw):St:=⟨[(0,.any),(1,.loc 1 0),(2,B Ak),(3,I v.1),(4,I Am),(5,I v.2)],[(1,Az a0)],0⟩
def An2 [An A Cx](Ak:Bool)(Am:Int)(a0:Ad)(rec:Int→Int→A)(C1:Int)(B2:Int):A:=
 (gq (0≤Am)
 (gq (Am < (a0.Sites.length:Int))
 (cn (decide (B2 < (((a0.Sites.getD (Int.toNat Am) default).Routines).length:Int)))
 (gq (0≤Am)
 (gq (Am < (a0.Sites.length:Int))
 (gq (0≤B2)
 (gq (B2 < ((((a0.Sites.getD (Int.toNat Am) default).Routines).length:Nat):Int))
 (bd (Ii L ((((a0.Sites.getD (Int.toNat Am) default).Routines).getD (Int.toNat B2) default).Body)) fun r2=>
 (rec (Da (C1+r2)) (Da (B2+1))))))))
 (lf (0,C1,B2)))))
def W6(L:Nat)(Ak:Bool)(Am:Int)(a0:Ad):Nat→Int→Int→Option Cx
 |0,_,_=>none
 |n+1,C1,B2=>An2 L Ak Am a0 (W6 L Ak Am a0 n) C1 B2
theorem B54(Ak:Bool)(Am:Int)(a0:Ad):LP (EV (O11 L) L 9 c11.w.l.u.l.l.u.l.l.w.l.l) [0,1,2,3,4,5] [1] (Bta Ak Am a0) [.exit 2] (fun n v=>W6 L Ak Am a0 n v.1 v.2) K:=lE (fun _=>rfl) fun n v ih=>eE (An2 L Ak Am a0 (fun C1 B2=>re (ih (C1,B2))) v.1 v.2)
def Bhf(a0:Ad)(v:Bool×Int×Int):St:=⟨[(0,.any),(1,.loc 1 0),(2,B v.1),(3,I v.2.1),(4,I v.2.2)],[(1,Az a0)],0⟩
def Aax [An A (Nat×Bool×Int×Int)](L:Nat)(Ak:Bool)(Am:Int)(rec:Bool→Int→Int→A)(o3:Nat×Cw):A:=
 (sl o3.1 [(rec Ak o3.2.1 (Da (Am+1)))])
def Ahp [An A (Nat×Bool×Int×Int)](a0:Ad)(rec:Bool→Int→Int→A)(Ak:Bool)(Ag:Int)(Am:Int)(nx1:Bool→Int→Int→A):A:=
 (cn (decide (Am < (a0.Sites.length:Int)))
 (gq (0≤Am)
 (gq (Am < (a0.Sites.length:Int))
 (bd (Afi L (⟨a0.Params,[],(a0.Sites.getD (Int.toNat Am) default)⟩:Aq)) fun r1=>
 (cn (!r1)
 (lf (0,false,Ag,Am))
 (nx1 Ak Am Ag)))))
 (lf (1,Ak,Ag,Am)))
def An1 [An A (Nat×Bool×Int×Int)](a0:Ad)(rec:Bool→Int→Int→A)(Ak:Bool)(Ag:Int)(Am:Int):A:=Ahp L a0 rec Ak Ag Am (fun Ak Am Ag=>bd (W6 L Ak Am a0 L Ag 0) fun o3=>Aax L Ak Am rec o3)
def Qe(L:Nat)(a0:Ad):Nat→Bool→Int→Int→Option (Nat×Bool×Int×Int)
 |0,_,_,_=>none
 |n+1,Ak,Ag,Am=>An1 L a0 (Qe L a0 n) Ak Ag Am
def Bow(a0:Ad):Prop:=LI (EV (O11 L) L 9 c11.w.l.u.l.l) [0,1,2,3,4] [1] (Bhf a0) [.ret,.exit 0] (fun n v=>Qe L a0 n v.1 v.2.1 v.2.2) K n
def Bqy:Be:=(Ay 2 (Ay 1 (Bl (EV (O11 L) L 9 c11.w.l.u.l.l.u.r) (I7 (Ly (EV (O11 L) L 9 c11.w.l.u.l.l) [0,1,2,3,4] [1] n) [0,1,2,3,4] [1] K))))
theorem Cgc(Ak:Bool)(Am:Int)(a0:Ad)(ih:Bow L n K a0)(o3:Nat×Cw):kX [.exit 2] (Bta Ak Am a0) (Bqy L n K) o3=ob (Aax L Ak Am (Qe L a0 n) o3) (kX [.ret,.exit 0] (Bhf a0) K):=eE (Aax L Ak Am (fun Ak Ag Am=>re (ih (Ak,Ag,Am))) o3)
theorem B53(a0:Ad):∀n,Bow L n K a0:=lE (fun _=>rfl) fun n v ih=>eE (Ahp L a0 (fun Ak Ag Am=>re (ih (Ak,Ag,Am))) v.1 v.2.1 v.2.2 (fun Ak Am Ag=>ho (B54 L (Bqy L n K) Ak Am a0 L (Ag,0)) fun o3=>Cgc L n K Ak Am a0 ih o3))
def Aay [An A Bool](L:Nat)(a0:Ad)(o4:Nat×Bool×Int×Int):A:=
 (sl o4.1 [(lf o4.2.1),
 (jp (.cn (decide ((a0.Sites.length:Int)≤5))
 (.lf (decide ((a0.Links.length:Int)≤40)))
 (.lf false)) (fun b5=>
 (jp (.cn b5
 (.lf (decide (o4.2.2.1≤120)))
 (.lf false)) (fun b6=>
 (lf b6)))))])
def Bqz:Be:=(Ay 0 (Bl (EV (O11 L) L 9 c11.w.r) (C8 Tryz.prog (RS Tryz.f11) kk)))
theorem Cgd(a0:Ad)(o4:Nat×Bool×Int×Int):kX [.ret,.exit 0] (Bhf a0) (Bqz L kk) o4=ob (Aay L a0 o4) (Cjr kk):=eE (Aay L a0 o4)
def Ahq [An A Bool](L:Nat)(a0:Ad)(nx2:A):A:=
 nx2
def A60 [An A Bool](a0:Ad):A:=Ahq L a0 (bd (Qe L a0 L false 0 0) fun o4=>Aay L a0 o4)
def Arp(a0:Ad):Option Bool:=A60 L a0
def X11:Gk:=E1 B 11 D1 (Arp L) fun a0 r h=>hF Tryz.func11 (C:=O11 L) (oS _) L (fun kk=>eE (Ahq L a0 (ho (B53 L (Bqz L kk) a0 L (false,0,0)) fun o4=>Cgd L kk a0 o4))) h
def Ah8 [An A Bool](L:Nat)(a0:Int):A:=
 (jp (.cn (decide (a0≥97))
 (.lf (decide (a0≤122)))
 (.lf false)) (fun b1=>
 (lf b1)))
def Vg(a0:Int):Option Bool:=Ah8 L a0
def X69:Gk:=E1 B 69 (cI .u8) (Vg L) fun a0 r h=>hF Tryz.func69 (oS []) L (fun kk=>eE (Ah8 L a0)) h
def Af6 [An A Bool](L:Nat)(a0:ByteArray):A:=
 (cn (a0.toList == (⟨#[97,100,100]⟩:ByteArray).toList)
 (cn (a0.toList == (⟨#[97,100,100]⟩:ByteArray).toList)
 (lf true)
 (lf false))
 (cn (a0.toList == (⟨#[97,102,116,101,114]⟩:ByteArray).toList)
 (cn (a0.toList == (⟨#[97,102,116,101,114]⟩:ByteArray).toList)
 (lf true)
 (lf false))
 (cn (a0.toList == (⟨#[97,110,100]⟩:ByteArray).toList)
 (cn (a0.toList == (⟨#[97,110,100]⟩:ByteArray).toList)
 (lf true)
 (lf false))
 (cn (a0.toList == (⟨#[97,116]⟩:ByteArray).toList)
 (cn (a0.toList == (⟨#[97,116]⟩:ByteArray).toList)
 (lf true)
 (lf false))
 (cn (a0.toList == (⟨#[98,101,108,116]⟩:ByteArray).toList)
 (cn (a0.toList == (⟨#[98,101,108,116]⟩:ByteArray).toList)
 (lf true)
 (lf false))
 (cn (a0.toList == (⟨#[98,111,111,108]⟩:ByteArray).toList)
 (cn (a0.toList == (⟨#[98,111,111,108]⟩:ByteArray).toList)
 (lf true)
 (lf false))
 (cn (a0.toList == (⟨#[99,111,110,115,101,114,118,101]⟩:ByteArray).toList)
 (cn (a0.toList == (⟨#[99,111,110,115,101,114,118,101]⟩:ByteArray).toList)
 (lf true)
 (lf false))
 (cn (a0.toList == (⟨#[99,111,110,115,116]⟩:ByteArray).toList)
 (cn (a0.toList == (⟨#[99,111,110,115,116]⟩:ByteArray).toList)
 (lf true)
 (lf false))
 (cn (a0.toList == (⟨#[99,111,117,110,116]⟩:ByteArray).toList)
 (cn (a0.toList == (⟨#[99,111,117,110,116]⟩:ByteArray).toList)
 (lf true)
 (lf false))
 (cn (a0.toList == (⟨#[99,121,99,108,101]⟩:ByteArray).toList)
 (cn (a0.toList == (⟨#[99,121,99,108,101]⟩:ByteArray).toList)
 (lf true)
 (lf false))
 (cn (a0.toList == (⟨#[100,111,119,110]⟩:ByteArray).toList)
 (cn (a0.toList == (⟨#[100,111,119,110]⟩:ByteArray).toList)
 (lf true)
 (lf false))
 (cn (a0.toList == (⟨#[100,114,97,119]⟩:ByteArray).toList)
 (cn (a0.toList == (⟨#[100,114,97,119]⟩:ByteArray).toList)
 (lf true)
 (lf false))
 (cn (a0.toList == (⟨#[100,117,114]⟩:ByteArray).toList)
 (cn (a0.toList == (⟨#[100,117,114]⟩:ByteArray).toList)
 (lf true)
 (lf false))
 (cn (a0.toList == (⟨#[101,108,115,101]⟩:ByteArray).toList)
 (cn (a0.toList == (⟨#[101,108,115,101]⟩:ByteArray).toList)
 (lf true)
 (lf false))
 (cn (a0.toList == (⟨#[101,110,100]⟩:ByteArray).toList)
 (cn (a0.toList == (⟨#[101,110,100]⟩:ByteArray).toList)
 (lf true)
 (lf false))
 (cn (a0.toList == (⟨#[101,118,101,114,121]⟩:ByteArray).toList)
 (cn (a0.toList == (⟨#[101,118,101,114,121]⟩:ByteArray).toList)
 (lf true)
 (lf false))
 (cn (a0.toList == (⟨#[102,97,108,115,101]⟩:ByteArray).toList)
 (cn (a0.toList == (⟨#[102,97,108,115,101]⟩:ByteArray).toList)
 (lf true)
 (lf false))
 (cn (a0.toList == (⟨#[102,97,117,108,116]⟩:ByteArray).toList)
 (cn (a0.toList == (⟨#[102,97,117,108,116]⟩:ByteArray).toList)
 (lf true)
 (lf false))
 (cn (a0.toList == (⟨#[102,105,102,111]⟩:ByteArray).toList)
 (cn (a0.toList == (⟨#[102,105,102,111]⟩:ByteArray).toList)
 (lf true)
 (lf false))
 (cn (a0.toList == (⟨#[102,114,101,101]⟩:ByteArray).toList)
 (cn (a0.toList == (⟨#[102,114,101,101]⟩:ByteArray).toList)
 (lf true)
 (lf false))
 (cn (a0.toList == (⟨#[102,114,111,109]⟩:ByteArray).toList)
 (cn (a0.toList == (⟨#[102,114,111,109]⟩:ByteArray).toList)
 (lf true)
 (lf false))
 (cn (a0.toList == (⟨#[103,101,111,109]⟩:ByteArray).toList)
 (cn (a0.toList == (⟨#[103,101,111,109]⟩:ByteArray).toList)
 (lf true)
 (lf false))
 (cn (a0.toList == (⟨#[103,101,116]⟩:ByteArray).toList)
 (cn (a0.toList == (⟨#[103,101,116]⟩:ByteArray).toList)
 (lf true)
 (lf false))
 (cn (a0.toList == (⟨#[104,111,108,100]⟩:ByteArray).toList)
 (cn (a0.toList == (⟨#[104,111,108,100]⟩:ByteArray).toList)
 (lf true)
 (lf false))
 (cn (a0.toList == (⟨#[105,102]⟩:ByteArray).toList)
 (cn (a0.toList == (⟨#[105,102]⟩:ByteArray).toList)
 (lf true)
 (lf false))
 (cn (a0.toList == (⟨#[105,110,116]⟩:ByteArray).toList)
 (cn (a0.toList == (⟨#[105,110,116]⟩:ByteArray).toList)
 (lf true)
 (lf false))
 (cn (a0.toList == (⟨#[105,110,116,111]⟩:ByteArray).toList)
 (cn (a0.toList == (⟨#[105,110,116,111]⟩:ByteArray).toList)
 (lf true)
 (lf false))
 (cn (a0.toList == (⟨#[108,101,97,115,116]⟩:ByteArray).toList)
 (cn (a0.toList == (⟨#[108,101,97,115,116]⟩:ByteArray).toList)
 (lf true)
 (lf false))
 (cn (a0.toList == (⟨#[108,101,118,101,108]⟩:ByteArray).toList)
 (cn (a0.toList == (⟨#[108,101,118,101,108]⟩:ByteArray).toList)
 (lf true)
 (lf false))
 (cn (a0.toList == (⟨#[108,105,102,111]⟩:ByteArray).toList)
 (cn (a0.toList == (⟨#[108,105,102,111]⟩:ByteArray).toList)
 (lf true)
 (lf false))
 (cn (a0.toList == (⟨#[108,105,110,107]⟩:ByteArray).toList)
 (cn (a0.toList == (⟨#[108,105,110,107]⟩:ByteArray).toList)
 (lf true)
 (lf false))
 (cn (a0.toList == (⟨#[108,111,99,97,108]⟩:ByteArray).toList)
 (cn (a0.toList == (⟨#[108,111,99,97,108]⟩:ByteArray).toList)
 (lf true)
 (lf false))
 (cn (a0.toList == (⟨#[109,97,120]⟩:ByteArray).toList)
 (cn (a0.toList == (⟨#[109,97,120]⟩:ByteArray).toList)
 (lf true)
 (lf false))
 (cn (a0.toList == (⟨#[109,105,110]⟩:ByteArray).toList)
 (cn (a0.toList == (⟨#[109,105,110]⟩:ByteArray).toList)
 (lf true)
 (lf false))
 (cn (a0.toList == (⟨#[109,111,100,101,108]⟩:ByteArray).toList)
 (cn (a0.toList == (⟨#[109,111,100,101,108]⟩:ByteArray).toList)
 (lf true)
 (lf false))
 (cn (a0.toList == (⟨#[110,111,116]⟩:ByteArray).toList)
 (cn (a0.toList == (⟨#[110,111,116]⟩:ByteArray).toList)
 (lf true)
 (lf false))
 (cn (a0.toList == (⟨#[110,111,119]⟩:ByteArray).toList)
 (cn (a0.toList == (⟨#[110,111,119]⟩:ByteArray).toList)
 (lf true)
 (lf false))
 (cn (a0.toList == (⟨#[111,98,115,101,114,118,101]⟩:ByteArray).toList)
 (cn (a0.toList == (⟨#[111,98,115,101,114,118,101]⟩:ByteArray).toList)
 (lf true)
 (lf false))
 (cn (a0.toList == (⟨#[111,114]⟩:ByteArray).toList)
 (cn (a0.toList == (⟨#[111,114]⟩:ByteArray).toList)
 (lf true)
 (lf false))
 (cn (a0.toList == (⟨#[112,97,114,97,109]⟩:ByteArray).toList)
 (cn (a0.toList == (⟨#[112,97,114,97,109]⟩:ByteArray).toList)
 (lf true)
 (lf false))
 (cn (a0.toList == (⟨#[112,114,101,101,109,112,116]⟩:ByteArray).toList)
 (cn (a0.toList == (⟨#[112,114,101,101,109,112,116]⟩:ByteArray).toList)
 (lf true)
 (lf false))
 (cn (a0.toList == (⟨#[112,114,105,111]⟩:ByteArray).toList)
 (cn (a0.toList == (⟨#[112,114,105,111]⟩:ByteArray).toList)
 (lf true)
 (lf false))
 (cn (a0.toList == (⟨#[112,117,116]⟩:ByteArray).toList)
 (cn (a0.toList == (⟨#[112,117,116]⟩:ByteArray).toList)
 (lf true)
 (lf false))
 (cn (a0.toList == (⟨#[113,117,101,117,101]⟩:ByteArray).toList)
 (cn (a0.toList == (⟨#[113,117,101,117,101]⟩:ByteArray).toList)
 (lf true)
 (lf false))
 (cn (a0.toList == (⟨#[114,101,108,101,97,115,101]⟩:ByteArray).toList)
 (cn (a0.toList == (⟨#[114,101,108,101,97,115,101]⟩:ByteArray).toList)
 (lf true)
 (lf false))
 (cn (a0.toList == (⟨#[114,101,115,111,117,114,99,101]⟩:ByteArray).toList)
 (cn (a0.toList == (⟨#[114,101,115,111,117,114,99,101]⟩:ByteArray).toList)
 (lf true)
 (lf false))
 (cn (a0.toList == (⟨#[114,105,100,101]⟩:ByteArray).toList)
 (cn (a0.toList == (⟨#[114,105,100,101]⟩:ByteArray).toList)
 (lf true)
 (lf false))
 (cn (a0.toList == (⟨#[114,111,117,116,105,110,101]⟩:ByteArray).toList)
 (cn (a0.toList == (⟨#[114,111,117,116,105,110,101]⟩:ByteArray).toList)
 (lf true)
 (lf false))
 (cn (a0.toList == (⟨#[115,101,105,122,101]⟩:ByteArray).toList)
 (cn (a0.toList == (⟨#[115,101,105,122,101]⟩:ByteArray).toList)
 (lf true)
 (lf false))
 (cn (a0.toList == (⟨#[115,101,110,100]⟩:ByteArray).toList)
 (cn (a0.toList == (⟨#[115,101,110,100]⟩:ByteArray).toList)
 (lf true)
 (lf false))
 (cn (a0.toList == (⟨#[115,101,116]⟩:ByteArray).toList)
 (cn (a0.toList == (⟨#[115,101,116]⟩:ByteArray).toList)
 (lf true)
 (lf false))
 (cn (a0.toList == (⟨#[115,104,105,102,116]⟩:ByteArray).toList)
 (cn (a0.toList == (⟨#[115,104,105,102,116]⟩:ByteArray).toList)
 (lf true)
 (lf false))
 (cn (a0.toList == (⟨#[115,105,103,110,97,108]⟩:ByteArray).toList)
 (cn (a0.toList == (⟨#[115,105,103,110,97,108]⟩:ByteArray).toList)
 (lf true)
 (lf false))
 (cn (a0.toList == (⟨#[115,105,116,101]⟩:ByteArray).toList)
 (cn (a0.toList == (⟨#[115,105,116,101]⟩:ByteArray).toList)
 (lf true)
 (lf false))
 (cn (a0.toList == (⟨#[115,105,122,101]⟩:ByteArray).toList)
 (cn (a0.toList == (⟨#[115,105,122,101]⟩:ByteArray).toList)
 (lf true)
 (lf false))
 (cn (a0.toList == (⟨#[115,112,97,119,110]⟩:ByteArray).toList)
 (cn (a0.toList == (⟨#[115,112,97,119,110]⟩:ByteArray).toList)
 (lf true)
 (lf false))
 (cn (a0.toList == (⟨#[115,116,97,114,116]⟩:ByteArray).toList)
 (cn (a0.toList == (⟨#[115,116,97,114,116]⟩:ByteArray).toList)
 (lf true)
 (lf false))
 (cn (a0.toList == (⟨#[115,116,111,112]⟩:ByteArray).toList)
 (cn (a0.toList == (⟨#[115,116,111,112]⟩:ByteArray).toList)
 (lf true)
 (lf false))
 (cn (a0.toList == (⟨#[115,116,111,114,101]⟩:ByteArray).toList)
 (cn (a0.toList == (⟨#[115,116,111,114,101]⟩:ByteArray).toList)
 (lf true)
 (lf false))
 (cn (a0.toList == (⟨#[115,116,114,101,97,109]⟩:ByteArray).toList)
 (cn (a0.toList == (⟨#[115,116,114,101,97,109]⟩:ByteArray).toList)
 (lf true)
 (lf false))
 (cn (a0.toList == (⟨#[115,117,109]⟩:ByteArray).toList)
 (cn (a0.toList == (⟨#[115,117,109]⟩:ByteArray).toList)
 (lf true)
 (lf false))
 (cn (a0.toList == (⟨#[116,97,98,108,101]⟩:ByteArray).toList)
 (cn (a0.toList == (⟨#[116,97,98,108,101]⟩:ByteArray).toList)
 (lf true)
 (lf false))
 (cn (a0.toList == (⟨#[116,97,108,108,121]⟩:ByteArray).toList)
 (cn (a0.toList == (⟨#[116,97,108,108,121]⟩:ByteArray).toList)
 (lf true)
 (lf false))
 (cn (a0.toList == (⟨#[116,105,99,107,115]⟩:ByteArray).toList)
 (cn (a0.toList == (⟨#[116,105,99,107,115]⟩:ByteArray).toList)
 (lf true)
 (lf false))
 (cn (a0.toList == (⟨#[116,105,109,101]⟩:ByteArray).toList)
 (cn (a0.toList == (⟨#[116,105,109,101]⟩:ByteArray).toList)
 (lf true)
 (lf false))
 (cn (a0.toList == (⟨#[116,114,117,101]⟩:ByteArray).toList)
 (cn (a0.toList == (⟨#[116,114,117,101]⟩:ByteArray).toList)
 (lf true)
 (lf false))
 (cn (a0.toList == (⟨#[117,110,105,102,111,114,109]⟩:ByteArray).toList)
 (cn (a0.toList == (⟨#[117,110,105,102,111,114,109]⟩:ByteArray).toList)
 (lf true)
 (lf false))
 (cn (a0.toList == (⟨#[117,110,116,105,108]⟩:ByteArray).toList)
 (cn (a0.toList == (⟨#[117,110,116,105,108]⟩:ByteArray).toList)
 (lf true)
 (lf false))
 (cn (a0.toList == (⟨#[117,112]⟩:ByteArray).toList)
 (cn (a0.toList == (⟨#[117,112]⟩:ByteArray).toList)
 (lf true)
 (lf false))
 (cn (a0.toList == (⟨#[118,97,114]⟩:ByteArray).toList)
 (cn (a0.toList == (⟨#[118,97,114]⟩:ByteArray).toList)
 (lf true)
 (lf false))
 (cn (a0.toList == (⟨#[119,97,105,116]⟩:ByteArray).toList)
 (cn (a0.toList == (⟨#[119,97,105,116]⟩:ByteArray).toList)
 (lf true)
 (lf false))
 (cn (a0.toList == (⟨#[119,97,105,116,105,110,103]⟩:ByteArray).toList)
 (cn (a0.toList == (⟨#[119,97,105,116,105,110,103]⟩:ByteArray).toList)
 (lf true)
 (lf false))
 (cn (a0.toList == (⟨#[119,104,105,108,101]⟩:ByteArray).toList)
 (lf true)
 (lf false))))))))))))))))))))))))))))))))))))))))))))))))))))))))))))))))))))))))))
def Y4(a0:ByteArray):Option Bool:=Af6 L a0
def X70:Gk:=E1 B 70 cS (Y4 L) fun a0 r h=>hF Tryz.func70 (oS []) L (fun kk=>eE (Af6 L a0)) h
noncomputable def c39:EC:=CC Tryz.f39
def O39:Bk:=oL [X69 L,X70 L]
def Cj1:Int→Prop:=fun x=>kk (I x)
def Btm(a0:ByteArray)(v:Cw):St:=⟨[(0,S a0),(2,I v.1),(23,I (a0.size:Int)),(24,I v.2)],[],0⟩
def R8 [An A Cx](a0:ByteArray)(rec:Int→Int→A)(Ag:Int)(Ah:Int):A:=
 (cn (decide (Ah < (a0.size:Int)))
 (cn ((if 0≤Ah then a0[Int.toNat Ah]? else none).isSome)
 (bd (Vg L (Eb (if 0≤Ah then a0[Int.toNat Ah]? else none))) fun r6=>
 (jp (.cn (!r6)
 (.cn (decide ((Eb (if 0≤Ah then a0[Int.toNat Ah]? else none)) < 48))
 (.lf true)
 (.lf (decide ((Eb (if 0≤Ah then a0[Int.toNat Ah]? else none)) > 57))))
 (.lf false)) (fun b7=>
 (jp (.cn b7
 (.lf ((Eb (if 0≤Ah then a0[Int.toNat Ah]? else none)) != 95))
 (.lf false)) (fun b8=>
 (cn b8
 (lf (0,3,Ah))
 (rec Ag (Da (Ah+1)))))))))
 fl)
 (lf (1,Ag,Ah)))
def Ke(L:Nat)(a0:ByteArray):Nat→Int→Int→Option Cx
 |0,_,_=>none
 |n+1,Ag,Ah=>R8 L a0 (Ke L a0 n) Ag Ah
theorem B6k(a0:ByteArray):LP (EV (O39 L) L 9 c39.w.l.u.l.l) [0,2,23,24] [] (Btm a0) [.ret,.exit 0] (fun n v=>Ke L a0 n v.1 v.2) K:=lE (fun _=>rfl) fun n v ih=>eE (R8 L a0 (fun Ag Ah=>re (ih (Ag,Ah))) v.1 v.2)
def Su [An A Int](L:Nat)(o9:Nat×Cw):A:=
 (sl o9.1 [(lf o9.2.1),
 (lf 0)])
def Brh:Be:=(Ay 0 (Bl (EV (O39 L) L 9 c39.w.r) (C8 Tryz.prog (RS Tryz.f39) kk)))
theorem Cgv(a0:ByteArray)(o9:Nat×Cw):kX [.ret,.exit 0] (Btm a0) (Brh L kk) o9=ob (Su L o9) (Cj1 kk):=eE (Su L o9)
def Ya [An A Int](a0:ByteArray)(nx1:A):A:=
 (jp (.cn (a0.toList == (⟨#[]⟩:ByteArray).toList)
 (.lf true)
 (.lf (decide ((a0.size:Int) > 24)))) (fun b1=>
 (jb (.cn b1
 (.lf true)
 (.cn ((if 0≤0 then a0[Int.toNat 0]? else none).isSome)
 (.bd (Vg L (Eb (if 0≤0 then a0[Int.toNat 0]? else none))) fun r3=>
 (.lf (!r3)))
 .fl)) (fun b2=>
 (jb (.cn b2
 (.lf true)
 (.bd (Y4 L a0) fun r5=>
 (.lf r5))) (fun b4=>
 (cn b4
 (lf 3)
 nx1)))))))
def Asi [An A Int](a0:ByteArray):A:=Ya L a0 (bd (Ke L a0 L 0 0) fun o9=>Su L o9)
def De(a0:ByteArray):Option Int:=Asi L a0
def X39:Gk:=E1 I 39 cS (De L) fun a0 r h=>hF Tryz.func39 (C:=O39 L) (oS _) L (fun kk=>eE (Ya L a0 (ho (B6k L (Brh L kk) a0 L (0,0)) fun o9=>Cgv L kk a0 o9))) h
def Akj [An A Bool](L:Nat)(a0:Int):A:=
 (jp (.cn (decide (a0≥1))
 (.lf (decide (a0≤3)))
 (.lf false)) (fun b1=>
 (lf b1)))
def Ks(a0:Int):Option Bool:=Akj L a0
def Bvt:Gk:=E1 B 146 (cI .i64) (Ks L) fun a0 r h=>hF Tryz.func146 (oS []) L (fun kk=>eE (Akj L a0)) h
def A2q [An A Bool](L:Nat)(a0:Int):A:=
 (jp (.cn (decide (a0≥(-1000000000000)))
 (.lf (decide (a0≤1000000000000)))
 (.lf false)) (fun b1=>
 (lf b1)))
def Ah3(a0:Int):Option Bool:=A2q L a0
def Bvv:Gk:=E1 B 157 (cI .i64) (Ah3 L) fun a0 r h=>hF Tryz.func157 (oS []) L (fun kk=>eE (A2q L a0)) h
def Ah7 [An A Bool](L:Nat)(a0:Int)(a1:Int)(a2:Int):A:=
 (jp (.cn (decide (a0≥a1))
 (.lf (decide (a0≤a2)))
 (.lf false)) (fun b1=>
 (lf b1)))
def Bi(a0:Int)(a1:Int)(a2:Int):Option Bool:=Ah7 L a0 a1 a2
def X80:Gk:=E3 B 80 (cI .i64) (cI .i64) (cI .i64) (Bi L) fun a0 a1 a2 r h=>hF Tryz.func80 (oS []) L (fun kk=>eE (Ah7 L a0 a1 a2)) h
def Anf [An A Bool](a0:Int)(a1:Int):A:=
 (cn (a0 == 1)
 (bd (Ah3 L a1) fun r1=>
 (lf r1))
 (cn (a0 == 2)
 (jp (.cn (a1 == 0)
 (.lf true)
 (.lf (a1 == 1))) (fun b2=>
 (lf b2)))
 (cn (a0 == 3)
 (bd (Bi L a1 0 1000000000) fun r3=>
 (lf r3))
 (lf false))))
def S8(a0:Int)(a1:Int):Option Bool:=Anf L a0 a1
def Bvu:Gk:=E2 B 147 (cI .i64) (cI .i64) (S8 L) fun a0 a1 r h=>hF Tryz.func147 (oS [X80 L,Bvv L]) L (fun kk=>eE (Anf L a0 a1)) h
noncomputable def c81:EC:=CC Tryz.f81
def O81:Bk:=oL [X80 L]
def Ckg:Int→Prop:=fun x=>kk (I x)
def Bt8(a0:Af)(v:Cw):St:=⟨[(0,.any),(1,.loc 1 0),(2,I v.1),(12,.any),(17,.any),(23,.lst false (.t178 a0.Shift)),(24,I (a0.Shift.length:Int)),(25,I v.2)],[(1,Bo a0)],0⟩
def Rs [An A Cx](a0:Af)(rec:Int→Int→A)(Ak:Int)(Ah:Int):A:=
 (cn (decide (Ah < (a0.Shift.length:Int)))
 (gq (0≤Ah)
 (gq (Ah < (a0.Shift.length:Int))
 (bd (Bi L ((a0.Shift.getD (Int.toNat Ah) default).At) 0 (Da (a0.Cycle - 1))) fun r2=>
 (cn (!r2)
 (cn (!r2)
 (lf (0,2,Ah))
 (cn (decide (Ah > 0))
 (gq (0≤(Da (Ah - 1)))
 (gq ((Da (Ah - 1)) < (a0.Shift.length:Int))
 (cn (decide ((a0.Shift.getD (Int.toNat Ah) default).At≤(a0.Shift.getD (Int.toNat (Da (Ah - 1))) default).At))
 (lf (0,12,Ah))
 (rec Ak (Da (Ah+1))))))
 (rec Ak (Da (Ah+1)))))
 (bd (Bi L ((a0.Shift.getD (Int.toNat Ah) default).Units) 0 1000) fun r3=>
 (cn (!r3)
 (lf (0,2,Ah))
 (cn (decide (Ah > 0))
 (gq (0≤(Da (Ah - 1)))
 (gq ((Da (Ah - 1)) < (a0.Shift.length:Int))
 (cn (decide ((a0.Shift.getD (Int.toNat Ah) default).At≤(a0.Shift.getD (Int.toNat (Da (Ah - 1))) default).At))
 (lf (0,12,Ah))
 (rec Ak (Da (Ah+1))))))
 (rec Ak (Da (Ah+1))))))))))
 (lf (1,Ak,Ah)))
def Hh(L:Nat)(a0:Af):Nat→Int→Int→Option Cx
 |0,_,_=>none
 |n+1,Ak,Ah=>Rs L a0 (Hh L a0 n) Ak Ah
theorem B7f(a0:Af):LP (EV (O81 L) L 9 c81.w.u.l.u.l.l) [0,1,2,12,17,23,24,25] [1] (Bt8 a0) [.ret,.exit 1] (fun n v=>Hh L a0 n v.1 v.2) K:=lE (fun _=>rfl) fun n v ih=>eE (Rs L a0 (fun Ak Ah=>re (ih (Ak,Ah))) v.1 v.2)
def Mu [An A Int](L:Nat)(o4:Nat×Cw):A:=
 (sl o4.1 [(lf o4.2.1),
 (lf 0)])
def Br9:Be:=(Ay 1 (Bl (EV (O81 L) L 9 c81.w.u.r) (C8 Tryz.prog (RS Tryz.f81) kk)))
theorem Chn(a0:Af)(o4:Nat×Cw):kX [.ret,.exit 1] (Bt8 a0) (Br9 L kk) o4=ob (Mu L o4) (Ckg kk):=eE (Mu L o4)
def Ru [An A Int](a0:Af)(nx1:A):A:=
 (cn ((a0.Shift.length:Int) == 0)
 (cn (a0.Cycle != 0)
 (lf 1)
 (lf 0))
 (cn (decide ((a0.Shift.length:Int) > 20))
 (lf 6)
 (bd (Bi L a0.Cycle 1 1000000000) fun r1=>
 (cn (!r1)
 (lf 2)
 nx1))))
def Alg [An A Int](a0:Af):A:=Ru L a0 (bd (Hh L a0 L 0 0) fun o4=>Mu L o4)
def Wn(a0:Af):Option Int:=Alg L a0
def X81:Gk:=E1 I 81 Ym (Wn L) fun a0 r h=>hF Tryz.func81 (C:=O81 L) (oS _) L (fun kk=>eE (Ru L a0 (ho (B7f L (Br9 L kk) a0 L (0,0)) fun o4=>Chn L kk a0 o4))) h
noncomputable def Cdh:EC:=CC Tryz.f180
def B19(L:Nat):Bk:=oL []
def Ces:Bool→Prop:=fun x=>kk (B x)
def Bmp(a0:List Int)(a1:List Int)(v:Bool×Int):St:=⟨[(0,.lst false (.t3 a0)),(1,.lst false (.t3 a1)),(4,B v.1),(12,I (a0.length:Int)),(13,I v.2)],[],0⟩
def O0 [An A (Nat×Bool×Int)](L:Nat)(a0:List Int)(a1:List Int)(rec:Bool→Int→A)(Am:Bool)(Br:Int):A:=
 (cn (decide (Br < (a0.length:Int)))
 (gq (0≤Br)
 (gq (Br < (a0.length:Int))
 (gq (0≤Br)
 (gq (Br < (a1.length:Int))
 (cn ((a0.getD (Int.toNat Br) default) != (a1.getD (Int.toNat Br) default))
 (lf (0,false,Br))
 (rec Am (Da (Br+1))))))))
 (lf (1,Am,Br)))
def F8(L:Nat)(a0:List Int)(a1:List Int):Nat→Bool→Int→Option (Nat×Bool×Int)
 |0,_,_=>none
 |n+1,Am,Br=>O0 L a0 a1 (F8 L a0 a1 n) Am Br
theorem By9(a0:List Int)(a1:List Int):LP (EV (B19 L) L 9 Cdh.w.l.u.l.l) [0,1,4,12,13] [] (Bmp a0 a1) [.ret,.exit 0] (fun n v=>F8 L a0 a1 n v.1 v.2) K:=lE (fun _=>rfl) fun n v ih=>eE (O0 L a0 a1 (fun Am Br=>re (ih (Am,Br))) v.1 v.2)
def J3 [An A Bool](L:Nat)(o1:Nat×Bool×Int):A:=
 (sl o1.1 [(lf o1.2.1),
 (lf true)])
def Bkc:Be:=(Ay 0 (Bl (EV (B19 L) L 9 Cdh.w.r) (C8 Tryz.prog (RS Tryz.f180) kk)))
theorem B8t(a0:List Int)(a1:List Int)(o1:Nat×Bool×Int):kX [.ret,.exit 0] (Bmp a0 a1) (Bkc L kk) o1=ob (J3 L o1) (Ces kk):=eE (J3 L o1)
def O1 [An A Bool](L:Nat)(a0:List Int)(a1:List Int)(nx1:A):A:=
 (cn ((a0.length:Int) != (a1.length:Int))
 (lf false)
 nx1)
def Ah9 [An A Bool](a0:List Int)(a1:List Int):A:=O1 L a0 a1 (bd (F8 L a0 a1 L false 0) fun o1=>J3 L o1)
def N2(a0:List Int)(a1:List Int):Option Bool:=Ah9 L a0 a1
def Cbv:Gk:=E2 B 180 cl3 cl3 (N2 L) fun a0 a1 r h=>hF Tryz.func180 (C:=B19 L) (oS _) L (fun kk=>eE (O1 L a0 a1 (ho (By9 L (Bkc L kk) a0 a1 L (false,0)) fun o1=>B8t L kk a0 a1 o1))) h
def Apy [An A Bool](a0:Bf)(a1:Bf):A:=
 (jp (.cn (a0.Op == a1.Op)
 (.lf (a0.A == a1.A))
 (.lf false)) (fun b1=>
 (jp (.cn b1
 (.lf (a0.B == a1.B))
 (.lf false)) (fun b2=>
 (jp (.cn b2
 (.lf (a0.N == a1.N))
 (.lf false)) (fun b3=>
 (jb (.cn b3
 (.bd (N2 L a0.Values a1.Values) fun r5=>
 (.lf r5))
 (.lf false)) (fun b4=>
 (jb (.cn b4
 (.bd (N2 L a0.Weights a1.Weights) fun r7=>
 (.lf r7))
 (.lf false)) (fun b6=>
 (lf b6)))))))))))
def P6(a0:Bf)(a1:Bf):Option Bool:=Apy L a0 a1
def B2t:Gk:=E2 B 148 Qa Qa (P6 L) fun a0 a1 r h=>hF Tryz.func148 (oS [Cbv L]) L (fun kk=>eE (Apy L a0 a1)) h
noncomputable def Cc9:EC:=CC Tryz.f141
def B15(L:Nat):Bk:=oL []
def Cen:Int→Prop:=fun x=>kk (I x)
def Bmh(a0:List ByteArray)(a1:ByteArray)(v:Cw):St:=⟨[(0,.lst false (.t9 a0)),(1,S a1),(4,I v.1),(7,I (a0.length:Int)),(8,I v.2)],[],0⟩
def Kv [An A Cx](L:Nat)(a0:List ByteArray)(a1:ByteArray)(rec:Int→Int→A)(Am:Int)(Br:Int):A:=
 (cn (decide (Br < (a0.length:Int)))
 (gq (0≤Br)
 (gq (Br < (a0.length:Int))
 (cn (a1.toList == (a0.getD (Int.toNat Br) default).toList)
 (lf (0,Br,Br))
 (rec Am (Da (Br+1))))))
 (lf (1,Am,Br)))
def Ee(L:Nat)(a0:List ByteArray)(a1:ByteArray):Nat→Int→Int→Option Cx
 |0,_,_=>none
 |n+1,Am,Br=>Kv L a0 a1 (Ee L a0 a1 n) Am Br
theorem By1(a0:List ByteArray)(a1:ByteArray):LP (EV (B15 L) L 9 Cc9.u.l.u.l.l) [0,1,4,7,8] [] (Bmh a0 a1) [.ret,.exit 0] (fun n v=>Ee L a0 a1 n v.1 v.2) K:=lE (fun _=>rfl) fun n v ih=>eE (Kv L a0 a1 (fun Am Br=>re (ih (Am,Br))) v.1 v.2)
def K0 [An A Int](L:Nat)(o1:Nat×Cw):A:=
 (sl o1.1 [(lf o1.2.1),
 (lf (-1))])
def Bjw:Be:=(Ay 0 (Bl (EV (B15 L) L 9 Cc9.u.r) (C8 Tryz.prog (RS Tryz.f141) kk)))
theorem B8d(a0:List ByteArray)(a1:ByteArray)(o1:Nat×Cw):kX [.ret,.exit 0] (Bmh a0 a1) (Bjw L kk) o1=ob (K0 L o1) (Cen kk):=eE (K0 L o1)
def Ro [An A Int](L:Nat)(a0:List ByteArray)(a1:ByteArray)(nx1:A):A:=
 nx1
def Ace [An A Int](a0:List ByteArray)(a1:ByteArray):A:=Ro L a0 a1 (bd (Ee L a0 a1 L 0 0) fun o1=>K0 L o1)
def Dy(a0:List ByteArray)(a1:ByteArray):Option Int:=Ace L a0 a1
def B2p:Gk:=E2 I 141 cl9 cS (Dy L) fun a0 a1 r h=>hF Tryz.func141 (C:=B15 L) (oS _) L (fun kk=>eE (Ro L a0 a1 (ho (By1 L (Bjw L kk) a0 a1 L (0,0)) fun o1=>B8d L kk a0 a1 o1))) h
def Qv [An A Bool](a0:List ByteArray)(a1:ByteArray):A:=
 (bd (Dy L a0 a1) fun r1=>
 (lf (decide (r1≥0))))
def B1(a0:List ByteArray)(a1:ByteArray):Option Bool:=Qv L a0 a1
def B2u:Gk:=E2 B 149 cl9 cS (B1 L) fun a0 a1 r h=>hF Tryz.func149 (oS [B2p L]) L (fun kk=>eE (Qv L a0 a1)) h
def Akh [An A Bool](L:Nat)(a0:Bf):A:=
 (cn (a0.Op == 1)
 (jp (.cn ((Da ((a0.Values.length:Int)+(a0.Weights.length:Int))) == 0)
 (.lf (a0.B == 0))
 (.lf false)) (fun b1=>
 (jp (.cn b1
 (.lf (a0.N == 0))
 (.lf false)) (fun b2=>
 (lf b2)))))
 (cn (a0.Op == 2)
 (cn (a0.Op == 2)
 (jp (.cn ((Da ((a0.Values.length:Int)+(a0.Weights.length:Int))) == 0)
 (.lf (a0.N == 0))
 (.lf false)) (fun b3=>
 (lf b3)))
 (cn (a0.Op == 4)
 (lf ((Da ((a0.Values.length:Int)+(a0.Weights.length:Int))) == 0))
 (cn (a0.Op == 3)
 (jp (.cn (a0.A == 0)
 (.lf (a0.B == 0))
 (.lf false)) (fun b4=>
 (jp (.cn b4
 (.lf (a0.N == 0))
 (.lf false)) (fun b5=>
 (lf b5)))))
 (lf false))))
 (cn (a0.Op == 5)
 (jp (.cn ((Da ((a0.Values.length:Int)+(a0.Weights.length:Int))) == 0)
 (.lf (a0.N == 0))
 (.lf false)) (fun b6=>
 (lf b6)))
 (cn (a0.Op == 4)
 (lf ((Da ((a0.Values.length:Int)+(a0.Weights.length:Int))) == 0))
 (cn (a0.Op == 3)
 (jp (.cn (a0.A == 0)
 (.lf (a0.B == 0))
 (.lf false)) (fun b7=>
 (jp (.cn b7
 (.lf (a0.N == 0))
 (.lf false)) (fun b8=>
 (lf b8)))))
 (lf false))))))
def Aek(a0:Bf):Option Bool:=Akh L a0
def Cbw:Gk:=E1 B 181 Qa (Aek L) fun a0 r h=>hF Tryz.func181 (oS []) L (fun kk=>eE (Akh L a0)) h
noncomputable def Cdo:EC:=CC Tryz.f197
noncomputable def Cdr:EC:=CC Tryz.f204
noncomputable def Cdi:EC:=CC Tryz.f182
def A5i(L:Nat):Bk:=oL []
def Cet:Bool→Prop:=fun x=>kk (B x)
def Bmq(p1_0:List Int)(p1_1:Int)(p1_2:Int)(v:Cw):St:=⟨[(0,.lst false (.t3 p1_0)),(1,.clo 198 0 [.loc 3 0,.loc 4 0]),(4,I v.1),(7,I (p1_0.length:Int)),(8,I v.2)],[(3,[I p1_1]),(4,[I p1_2])],5⟩
def Ww [An A Cx](L:Nat)(p1_0:List Int)(p1_1:Int)(p1_2:Int)(rec:Int→Int→A)(Ag:Int)(Ah:Int):A:=
 (cn (decide (Ah < (p1_0.length:Int)))
 (gq (0≤Ah)
 (gq (Ah < (p1_0.length:Int))
 (jp (.cn (decide ((p1_0.getD (Int.toNat Ah) default) < p1_1))
 (.lf true)
 (.lf (decide ((p1_0.getD (Int.toNat Ah) default) > p1_2)))) (fun b1=>
 (cn b1
 (lf (0,Ah,Ah))
 (rec Ag (Da (Ah+1))))))))
 (lf (1,Ag,Ah)))
def J8(L:Nat)(p1_0:List Int)(p1_1:Int)(p1_2:Int):Nat→Int→Int→Option Cx
 |0,_,_=>none
 |n+1,Ag,Ah=>Ww L p1_0 p1_1 p1_2 (J8 L p1_0 p1_1 p1_2 n) Ag Ah
theorem Bza(p1_0:List Int)(p1_1:Int)(p1_2:Int):LP (EV (A5i L) L 7 Cdr.u.l.u.l.l) [0,1,4,7,8] [3,4] (Bmq p1_0 p1_1 p1_2) [.ret,.exit 0] (fun n v=>J8 L p1_0 p1_1 p1_2 n v.1 v.2) K:=lE (fun _=>rfl) fun n v ih=>eE (Ww L p1_0 p1_1 p1_2 (fun Ag Ah=>re (ih (Ag,Ah))) v.1 v.2)
def A8w(p1_0:List Int)(p1_1:Int)(p1_2:Int)(k:Bx):Int→Prop:=fun o=>k (I o) [(3,[I p1_1]),(4,[I p1_2])]
def W8 [An A Int](L:Nat)(o2:Nat×Cw):A:=
 (sl o2.1 [(lf o2.2.1),
 (lf (-1))])
def Bkd:Be:=(Ay 0 (Bl (EV (A5i L) L 7 Cdr.u.r) (E5 Tryz.prog (RS Tryz.f204) k)))
theorem B8u(p1_0:List Int)(p1_1:Int)(p1_2:Int)(o2:Nat×Cw):kX [.ret,.exit 0] (Bmq p1_0 p1_1 p1_2) (Bkd L k) o2=ob (W8 L o2) (A8w p1_0 p1_1 p1_2 k):=eE (W8 L o2)
def Ad0 [An A Int](L:Nat)(p1_0:List Int)(p1_1:Int)(p1_2:Int)(nx2:A):A:=
 nx2
def Alr [An A Int](p1_0:List Int)(p1_1:Int)(p1_2:Int):A:=Ad0 L p1_0 p1_1 p1_2 (bd (J8 L p1_0 p1_1 p1_2 L 0 0) fun o2=>W8 L o2)
def Acw(p1_0:List Int)(p1_1:Int)(p1_2:Int):Option Int:=Alr L p1_0 p1_1 p1_2
theorem Bxh(p1_0:List Int)(p1_1:Int)(p1_2:Int):YO (A5i L) L 8 204 [.lst false (.t3 p1_0),.clo 198 0 [.loc 3 0,.loc 4 0]] [(3,[I p1_1]),(4,[I p1_2])] k=ob (Acw L p1_0 p1_1 p1_2) (A8w p1_0 p1_1 p1_2 k):=(Dc _ _ _ jn4 _ _ _ _ _ _ _).trans (eE (Ad0 L p1_0 p1_1 p1_2 (ho (Bza L (Bkd L k) p1_0 p1_1 p1_2 L (0,0)) fun o2=>B8u L k p1_0 p1_1 p1_2 o2)))
def Sf [An A Bool](L:Nat)(o3:Int):A:=
 (lf (!(decide (o3≥0))))
def Bke(a2:List Int)(a0:Int)(a1:Int):Bx:=(Cm Tryz.prog (A5i L) (EI (A5i L) L 8) 2 (List.drop 3 Cdo.u.l.ops) ⟨[(6,.clo 198 0 [.loc 3 0,.loc 4 0]),(5,.lst false (.t3 a2)),(0,.lst false (.t3 a2)),(1,.clo 198 0 [.loc 3 0,.loc 4 0]),(4,B false)],[(3,[I a0]),(4,[I a1])],5⟩ (some 7) (fun st9=>(Bl (EV (A5i L) L 8 Cdo.u.r) (E5 Tryz.prog (RS Tryz.f197) (Cm Tryz.prog (A5i L) (EI (A5i L) L 9) 2 (List.drop 3 Cdi.u.l.ops) ⟨[(8,.clo 198 0 [.loc 3 0,.loc 4 0]),(7,.lst false (.t3 a2)),(2,.lst false (.t3 a2)),(3,.loc 3 0),(4,.loc 4 0),(6,B false)],[(3,[I a0]),(4,[I a1])],0⟩ (some 9) (fun st9=>(Bl (EV (A5i L) L 9 Cdi.u.r) (C8 Tryz.prog (RS Tryz.f182) kk)) .normal st9)))) .normal st9))
theorem B8v(a2:List Int)(a0:Int)(a1:Int)(o3:Int):A8w a2 a0 a1 (Bke L kk a2 a0 a1) o3=ob (Sf L o3) (Cet kk):=eE (Sf L o3)
def Xp [An A Bool](L:Nat)(a0:Int)(a1:Int)(a2:List Int)(nx3:A):A:=
 nx3
def Asd [An A Bool](a0:Int)(a1:Int)(a2:List Int):A:=Xp L a0 a1 a2 (bd (Acw L a2 a0 a1) fun o3=>Sf L o3)
def Gs(a0:Int)(a1:Int)(a2:List Int):Option Bool:=Asd L a0 a1 a2
def Cbx:Gk:=E3 B 182 (cI .i64) (cI .i64) cl3 (Gs L) fun a0 a1 a2 r h=>hF Tryz.func182 (C:=A5i L) (oS _) L (fun kk=>eE (Xp L a0 a1 a2 (ho (Bxh L (Bke L kk a2 a0 a1) a2 a0 a1) fun o3=>B8v L kk a2 a0 a1 o3))) h
def Anb [An A Int](a0:Bf):A:=
 (bd (Aek L a0) fun r1=>
 (cn (!r1)
 (lf 1)
 (cn (a0.Op == 1)
 (bd (Gs L 0 1000000000 [a0.A]) fun r2=>
 (cn (!r2)
 (lf 2)
 (lf 0)))
 (cn (a0.Op == 2)
 (bd (Gs L 0 1000000000 [a0.A,a0.B]) fun r3=>
 (jp (.cn r3
 (.lf (decide (a0.A≤a0.B)))
 (.lf false)) (fun b4=>
 (cn (!b4)
 (lf 2)
 (lf 0)))))
 (cn (a0.Op == 4)
 (bd (Gs L 1 20 [a0.N]) fun r5=>
 (cn r5
 (jb (.bd (Gs L 0 1000000 [a0.A,a0.B]) fun r7=>
 (.lf r7)) (fun b6=>
 (jp (.cn b6
 (.lf (decide (a0.A≤a0.B)))
 (.lf false)) (fun b8=>
 (cn (!b8)
 (lf 2)
 (lf 0))))))
 (nq (nq (lf 2)))))
 (cn (a0.Op == 5)
 (bd (Gs L 1 1000 [a0.A,a0.B]) fun r9=>
 (cn (!r9)
 (lf 2)
 (lf 0)))
 (cn (a0.Op == 3)
 (cn ((a0.Values.length:Int) != (a0.Weights.length:Int))
 (lf 8)
 (cn ((a0.Values.length:Int) == 0)
 (lf 7)
 (cn (decide ((a0.Values.length:Int) > 20))
 (lf 6)
 (bd (Gs L 0 1000000000 a0.Values) fun r10=>
 (jb (.cn r10
 (.bd (Gs L 1 1000 a0.Weights) fun r12=>
 (.lf r12))
 (.lf false)) (fun b11=>
 (cn (!b11)
 (lf 2)
 (lf 0))))))))
 (lf 2))))))))
def P5(a0:Bf):Option Int:=Anb L a0
def B2v:Gk:=E1 I 150 Qa (P5 L) fun a0 r h=>hF Tryz.func150 (oS [Cbw L,Cbx L]) L (fun kk=>eE (Anb L a0)) h
def Aco [An A Int](a0:Aa)(a1:F4):A:=
 (cn (a1.Stream.toList == (⟨#[]⟩:ByteArray).toList)
 (bd (P6 L a1.Up (⟨0,0,0,0,[],[]⟩:Bf)) fun r1=>
 (cn (!r1)
 (nq (lf 1))
 (bd (P6 L a1.Down (⟨0,0,0,0,[],[]⟩:Bf)) fun r2=>
 (nq (cn (!r2)
 (lf 1)
 (cn (a1.Stream.toList == (⟨#[]⟩:ByteArray).toList)
 (lf 0)
 (bd (B1 L a0.Streams a1.Stream) fun r3=>
 (cn (!r3)
 (lf 5)
 (bd (P5 L a1.Up) fun r4=>
 (cn (r4 != 0)
 (lf r4)
 (bd (P5 L a1.Down) fun r5=>
 (lf r5))))))))))))
 (nq (cn (a1.Stream.toList == (⟨#[]⟩:ByteArray).toList)
 (lf 0)
 (bd (B1 L a0.Streams a1.Stream) fun r6=>
 (cn (!r6)
 (lf 5)
 (bd (P5 L a1.Up) fun r7=>
 (cn (r7 != 0)
 (lf r7)
 (bd (P5 L a1.Down) fun r8=>
 (lf r8)))))))))
def Wm(a0:Aa)(a1:F4):Option Int:=Aco L a0 a1
def X82:Gk:=E2 I 82 C0 A9i (Wm L) fun a0 a1 r h=>hF Tryz.func82 (oS [B2t L,B2u L,B2v L]) L (fun kk=>eE (Aco L a0 a1)) h
noncomputable def Bv2:EC:=CC Tryz.f151
def Bpe(L:Nat):Bk:=oL []
def B09:(List Ao)→Prop:=fun x=>kk ((fun(x:List Ao)=> .lst false (.t55 x)) x)
def Bmi(a0:List (List Ao))(v:Cw):St:=⟨[(0,.lst false (.t23 a0)),(2,.lst true (.t55 [])),(3,I v.1),(6,.any),(8,.any),(9,.lst false (.t23 a0)),(10,I (a0.length:Int)),(11,I v.2),(27,.any)],[],0⟩
def H4 [An A Cx](L:Nat)(a0:List (List Ao))(rec:Int→Int→A)(Am:Int)(Va:Int):A:=
 (cn (decide (Va < (a0.length:Int)))
 (gq (0≤Va)
 (gq (Va < (a0.length:Int))
 (cn (decide ((Da (Am+((a0.getD (Int.toNat Va) default).length:Int))) < 0))
 fl
 (rec (Da (Am+((a0.getD (Int.toNat Va) default).length:Int))) (Da (Va+1))))))
 (lf (0,Am,Va)))
def Df(L:Nat)(a0:List (List Ao)):Nat→Int→Int→Option Cx
 |0,_,_=>none
 |n+1,Am,Va=>H4 L a0 (Df L a0 n) Am Va
theorem By2(a0:List (List Ao)):LP (EV (Bpe L) L 9 Bv2.w.l.u.l.l) [0,2,3,6,8,9,10,11,27] [] (Bmi a0) [.exit 0] (fun n v=>Df L a0 n v.1 v.2) K:=lE (fun _=>rfl) fun n v ih=>eE (H4 L a0 (fun Am Va=>re (ih (Am,Va))) v.1 v.2)
def Bmj(a0:List (List Ao))(v:List Ao×Int):St:=⟨[(0,.any),(2,.lst true (.t55 [])),(3,.any),(5,.any),(6,.lst true (.t55 v.1)),(11,.any),(25,.lst false (.t23 a0)),(26,I (a0.length:Int)),(27,I v.2)],[],0⟩
def H5 [An A (Nat×List Ao×Int)](L:Nat)(a0:List (List Ao))(rec:List Ao→Int→A)(C1:List Ao)(n6:Int):A:=
 (cn (decide (n6 < (a0.length:Int)))
 (gq (0≤n6)
 (gq (n6 < (a0.length:Int))
 (gq ((C1.length+(a0.getD (Int.toNat n6) default).length)*24≤140737488355328)
 (gq (C1.length+(a0.getD (Int.toNat n6) default).length≤maxLen)
 (rec (C1++(a0.getD (Int.toNat n6) default)) (Da (n6+1)))))))
 (lf (0,C1,n6)))
def Dg(L:Nat)(a0:List (List Ao)):Nat→List Ao→Int→Option (Nat×List Ao×Int)
 |0,_,_=>none
 |n+1,C1,n6=>H5 L a0 (Dg L a0 n) C1 n6
theorem By3(a0:List (List Ao)):LP (EV (Bpe L) L 9 Bv2.x.l.u.l.l) [0,2,3,5,6,11,25,26,27] [] (Bmj a0) [.exit 2] (fun n v=>Dg L a0 n v.1 v.2) K:=lE (fun _=>rfl) fun n v ih=>eE (H5 L a0 (fun C1 n6=>re (ih (C1,n6))) v.1 v.2)
def F2 [An A (List Ao)](L:Nat)(o2:Nat×List Ao×Int):A:=
 (sl o2.1 [(lf o2.2.1)])
def Bjy:Be:=(Ay 2 (Bl (EV (Bpe L) L 9 Bv2.x.r) (C8 Tryz.prog (RS Tryz.f151) kk)))
theorem B8f(a0:List (List Ao))(o2:Nat×List Ao×Int):kX [.exit 2] (Bmj a0) (Bjy L kk) o2=ob (F2 L o2) (B09 kk):=eE (F2 L o2)
def Ia [An A (List Ao)](L:Nat)(a0:List (List Ao))(o1:Nat×Cw)(nx2:A):A:=
 (sl o1.1 [(gq (0≤o1.2.1)
 (gq (o1.2.1*((24:Nat):Int)≤140737488355328)
 (gq (o1.2.1≤(4611686018427387904:Int))
 nx2)))])
def H8 [An A (List Ao)](a0:List (List Ao))(o1:Nat×Cw):A:=Ia L a0 o1 (bd (Dg L a0 L [] 0) fun o2=>F2 L o2)
def Bjx:Be:=(Ay 0 (Bl (EV (Bpe L) L 9 Bv2.w.r) (C8 Tryz.prog (RS Tryz.f151) kk)))
theorem B8e(a0:List (List Ao))(o1:Nat×Cw):kX [.exit 0] (Bmi a0) (Bjx L kk) o1=ob (H8 L a0 o1) (B09 kk):=eE (Ia L a0 o1 (ho (By3 L (Bjy L kk) a0 L ([],0)) fun o2=>B8f L kk a0 o2))
def H9 [An A (List Ao)](L:Nat)(a0:List (List Ao))(nx1:A):A:=
 nx1
def Yf [An A (List Ao)](a0:List (List Ao)):A:=H9 L a0 (bd (Df L a0 L 0 0) fun o1=>H8 L a0 o1)
def Jy(a0:List (List Ao)):Option (List Ao):=Yf L a0
def Cbg:Gk:=E1 (fun(x:List Ao)=> .lst false (.t55 x)) 151 Cjo (Jy L) fun a0 r h=>hF Tryz.func151 (C:=Bpe L) (oS _) L (fun kk=>eE (H9 L a0 (ho (By2 L (Bjx L kk) a0 L (0,0)) fun o1=>B8e L kk a0 o1))) h
def Bvg(F:(List Ac)→Option Int):Prop:=∀y0 r,F y0=some r→Ho Tryz.prog 55 [Acb.en y0] I r
noncomputable def c55:EC:=CC Tryz.f55
def O55(Hb:(List Ac)→Option Int)(L:Nat):Bk:=(orc 55 (A1 I Acb Hb) (oL []))
theorem s55(Hb:(List Ac)→Option Int)(B45:Bvg Hb)(L:Nat):Ep Tryz.prog (O55 Hb L):=(Gx (a1 _ B45) (oS []))
def Cj7(kk:Ct):Int→Prop:=fun x=>kk (I x)
def Btu(a0:List Ac)(v:Cw):St:=⟨[(0,.any),(2,I 0),(3,I v.1),(8,.lst false (.t69 a0)),(9,I (a0.length:Int)),(10,I v.2)],[],0⟩
def Zj [An A Cx](Hb:(List Ac)→Option Int)(L:Nat)(a0:List Ac)(rec:Int→Int→A)(Ag:Int)(Br:Int):A:=
 (cn (decide (Br < (a0.length:Int)))
 (gq (0≤Br)
 (gq (Br < (a0.length:Int))
 (bd (Hb ((a0.getD (Int.toNat Br) default).Body)) fun r1=>
 (bd (Hb ((a0.getD (Int.toNat Br) default).Else)) fun r2=>
 (rec (Da (Ag+(Da (r1+r2)))) (Da (Br+1)))))))
 (lf (0,Ag,Br)))
def Md(Hb:(List Ac)→Option Int)(L:Nat)(a0:List Ac):Nat→Int→Int→Option Cx
 |0,_,_=>none
 |n+1,Ag,Br=>Zj Hb L a0 (Md Hb L a0 n) Ag Br
theorem B61(Hb:(List Ac)→Option Int)(L:Nat)(K:Be)(a0:List Ac):LP (EV (O55 Hb L) L 9 c55.w.l.u.l.l) [0,2,3,8,9,10] [] (Btu a0) [.exit 0] (fun n v=>Md Hb L a0 n v.1 v.2) K:=lE (fun _=>rfl) fun n v ih=>eE (Zj Hb L a0 (fun Ag Br=>re (ih (Ag,Br))) v.1 v.2)
def T7 [An A Int](Hb:(List Ac)→Option Int)(L:Nat)(o3:Nat×Cw):A:=
 (sl o3.1 [(lf o3.2.1)])
def Brt(Hb:(List Ac)→Option Int)(L:Nat)(kk:Ct):Be:=(Ay 0 (Bl (EV (O55 Hb L) L 9 c55.w.r) (C8 Tryz.prog (RS Tryz.f55) kk)))
theorem Cg7(Hb:(List Ac)→Option Int)(L:Nat)(kk:Ct)(a0:List Ac)(o3:Nat×Cw):kX [.exit 0] (Btu a0) (Brt Hb L kk) o3=ob (T7 Hb L o3) (Cj7 kk):=eE (T7 Hb L o3)
def Zz [An A Int](Hb:(List Ac)→Option Int)(L:Nat)(a0:List Ac)(nx1:A):A:=
 nx1
def Aus [An A Int](Hb:(List Ac)→Option Int)(L:Nat)(a0:List Ac):A:=Zz Hb L a0 (bd (Md Hb L a0 L (a0.length:Int) 0) fun o3=>T7 Hb L o3)
def Amw(Hb:(List Ac)→Option Int)(L:Nat)(a0:List Ac):Option Int:=Aus Hb L a0
theorem b55(Hb:(List Ac)→Option Int)(B45:Bvg Hb)(L:Nat):Bvg (Amw Hb L):=fun a0 r h=>hF Tryz.func55 (s55 Hb B45 L) L (fun kk=>eE (Zz Hb L a0 (ho (B61 Hb L (Brt Hb L kk) a0 L ((a0.length:Int),0)) fun o3=>Cg7 Hb L kk a0 o3))) h
def Na:Nat→(List Ac)→Option Int
 |0,_=>none
 |L+1,a0=>Amw (Na L) L a0
theorem B4r(L:Nat):Bvg (Na L):=by
 induction L with
 |zero=>exact fun _ _ h=>(by cases h)
 |succ L ih=>
  have i55:=ih
  exact b55 (Na L) i55 L
def X55(L:Nat):Gk:=E1 I 55 Acb (Na L) (B4r L)
def Bvh(F:(List Ac)→Option Int):Prop:=∀y0 r,F y0=some r→Ho Tryz.prog 56 [Acb.en y0] I r
noncomputable def c56:EC:=CC Tryz.f56
def O56(Hc:(List Ac)→Option Int)(L:Nat):Bk:=(orc 56 (A1 I Acb Hc) (oL []))
theorem s56(Hc:(List Ac)→Option Int)(B46:Bvh Hc)(L:Nat):Ep Tryz.prog (O56 Hc L):=(Gx (a1 _ B46) (oS []))
def Cj8(kk:Ct):Int→Prop:=fun x=>kk (I x)
def Btv(a0:List Ac)(v:Cw):St:=⟨[(0,.any),(2,I 0),(3,I v.1),(6,.lst false (.t69 a0)),(7,I (a0.length:Int)),(8,I v.2)],[],0⟩
def Zk [An A Cx](Hc:(List Ac)→Option Int)(L:Nat)(a0:List Ac)(rec:Int→Int→A)(Ag:Int)(Br:Int):A:=
 (cn (decide (Br < (a0.length:Int)))
 (gq (0≤Br)
 (gq (Br < (a0.length:Int))
 (bd (Hc ((a0.getD (Int.toNat Br) default).Body)) fun r1=>
 (bd (Hc ((a0.getD (Int.toNat Br) default).Else)) fun r2=>
 (rec (if (Da (1+r2)) > (if (Da (1+r1)) > Ag then (Da (1+r1)) else Ag) then (Da (1+r2)) else (if (Da (1+r1)) > Ag then (Da (1+r1)) else Ag)) (Da (Br+1)))))))
 (lf (0,Ag,Br)))
def Me(Hc:(List Ac)→Option Int)(L:Nat)(a0:List Ac):Nat→Int→Int→Option Cx
 |0,_,_=>none
 |n+1,Ag,Br=>Zk Hc L a0 (Me Hc L a0 n) Ag Br
theorem B62(Hc:(List Ac)→Option Int)(L:Nat)(K:Be)(a0:List Ac):LP (EV (O56 Hc L) L 9 c56.w.l.u.l.l) [0,2,3,6,7,8] [] (Btv a0) [.exit 0] (fun n v=>Me Hc L a0 n v.1 v.2) K:=lE (fun _=>rfl) fun n v ih=>eE (Zk Hc L a0 (fun Ag Br=>re (ih (Ag,Br))) v.1 v.2)
def T8 [An A Int](Hc:(List Ac)→Option Int)(L:Nat)(o3:Nat×Cw):A:=
 (sl o3.1 [(lf o3.2.1)])
def Bru(Hc:(List Ac)→Option Int)(L:Nat)(kk:Ct):Be:=(Ay 0 (Bl (EV (O56 Hc L) L 9 c56.w.r) (C8 Tryz.prog (RS Tryz.f56) kk)))
theorem Cg8(Hc:(List Ac)→Option Int)(L:Nat)(kk:Ct)(a0:List Ac)(o3:Nat×Cw):kX [.exit 0] (Btv a0) (Bru Hc L kk) o3=ob (T8 Hc L o3) (Cj8 kk):=eE (T8 Hc L o3)
def Z0 [An A Int](Hc:(List Ac)→Option Int)(L:Nat)(a0:List Ac)(nx1:A):A:=
 nx1
def Aut [An A Int](Hc:(List Ac)→Option Int)(L:Nat)(a0:List Ac):A:=Z0 Hc L a0 (bd (Me Hc L a0 L 0 0) fun o3=>T8 Hc L o3)
def Amx(Hc:(List Ac)→Option Int)(L:Nat)(a0:List Ac):Option Int:=Aut Hc L a0
theorem b56(Hc:(List Ac)→Option Int)(B46:Bvh Hc)(L:Nat):Bvh (Amx Hc L):=fun a0 r h=>hF Tryz.func56 (s56 Hc B46 L) L (fun kk=>eE (Z0 Hc L a0 (ho (B62 Hc L (Bru Hc L kk) a0 L (0,0)) fun o3=>Cg8 Hc L kk a0 o3))) h
def Nb:Nat→(List Ac)→Option Int
 |0,_=>none
 |L+1,a0=>Amx (Nb L) L a0
theorem B4s(L:Nat):Bvh (Nb L):=by
 induction L with
 |zero=>exact fun _ _ h=>(by cases h)
 |succ L ih=>
  have i56:=ih
  exact b56 (Nb L) i56 L
def X56(L:Nat):Gk:=E1 I 56 Acb (Nb L) (B4s L)
noncomputable def Aid:EC:=CC Tryz.f121
def As1(L:Nat):Bk:=oL []
def A7w:(Bn×Bool)→Prop:=fun x=>kk ((fun(x:Bn×Bool)=> .tup [.agg (Vj x.1),B x.2]) x)
def Blt:St:=⟨[(2,.loc 2 0),(3,B false)],[(2,[B false,B false,B false,B false,B false,B false,B false,B false,B false])],0⟩
def Bll(L:Nat)(kk:Ct):Be:=(C8 Tryz.prog (RS Tryz.f121) kk)
def Abf [An A (Bn×Bool)](L:Nat):A:=
 (lf ((⟨false,false,false,false,false,false,false,false,false⟩:Bn),false))
theorem Bwg:EV (As1 L) L 9 Aid.w (Blt) (Bll L kk)=ob (Abf L) (A7w kk):=eE (Abf L)
def A13(a0:Int)(p803_2:Bool):St:=⟨[(2,.loc 2 0),(3,B false),(4,I a0),(32,B p803_2)],[(2,[B false,B false,B false,B false,B false,B false,B false,B false,B false])],0⟩
def A1t(e0:EC):Be:=(Ay 0 (Bl (EV (As1 L) L 9 e0) (C8 Tryz.prog (RS Tryz.f121) kk)))
def sx_stmt_uses_3 [An A (Bn×Bool)](L:Nat)(a0:Int)(p803_2:Bool)(nx1:A):A:=
 (cn p803_2
 (lf ((⟨true,false,false,false,false,false,false,false,false⟩:Bn),true))
 (cn (a0 == 13)
 (lf ((⟨true,true,true,false,true,false,false,false,false⟩:Bn),true))
 (cn (a0 == 14)
 (lf ((⟨true,false,true,false,true,false,false,false,false⟩:Bn),true))
 (cn (a0 == 18)
 (lf ((⟨false,false,false,false,false,false,false,false,false⟩:Bn),true))
 nx1))))
def Ai5 [An A (Bn×Bool)](a0:Int)(p803_2:Bool):A:=sx_stmt_uses_3 L a0 p803_2 (Abf L)
theorem Bwu(a0:Int)(p803_2:Bool)(z1:EC):EV (As1 L) L 9 Aid.u.l.u.l.x.x.w.u.r (A13 a0 p803_2) (A1t L kk (EC.put (rl [1]) z1 Aid.u.r))= @sx_stmt_uses_3 Prop (anP (A7w kk)) L a0 p803_2 (EV (As1 L) L 9 z1 (Blt) (Bll L kk)):=by kernel_rfl
theorem Bwi(a0:Int)(p803_2:Bool):EV (As1 L) L 9 Aid.u.l.u.l.x.x.w.u.r (A13 a0 p803_2) (A1t L kk Aid.u.r)=ob (Ai5 L a0 p803_2) (A7w kk):=Eq.trans (b:=EV (As1 L) L 9 Aid.u.l.u.l.x.x.w.u.r (A13 a0 p803_2) (A1t L kk (EC.put (rl [1]) Aid.w Aid.u.r))) (by kernel_rfl) ((Bwu L kk a0 p803_2 Aid.w).trans (eE (sx_stmt_uses_3 L a0 p803_2 (re (Bwg L kk)))))
def A12(a0:Int)(p802_2:Bool):St:=⟨[(2,.loc 2 0),(3,B false),(4,I a0),(5,B p802_2)],[(2,[B false,B false,B false,B false,B false,B false,B false,B false,B false])],0⟩
def A1s(e0:EC):Be:=(Ay 0 (Bl (EV (As1 L) L 9 e0) (C8 Tryz.prog (RS Tryz.f121) kk)))
def sx_stmt_uses_2 [An A (Bn×Bool)](L:Nat)(a0:Int)(p802_2:Bool)(nx3:Int→Bool→A):A:=
 (cn p802_2
 (lf ((⟨true,false,true,false,false,false,false,false,false⟩:Bn),true))
 (cn (a0 == 2)
 (lf ((⟨true,true,false,false,false,true,false,false,false⟩:Bn),true))
 (cn (a0 == 3)
 (lf ((⟨false,false,true,false,false,false,false,true,true⟩:Bn),true))
 (cn (a0 == 4)
 (lf ((⟨false,false,true,false,false,false,false,true,false⟩:Bn),true))
 (cn (a0 == 5)
 (lf ((⟨false,false,true,false,false,false,false,false,false⟩:Bn),true))
 (cn (a0 == 6)
 (lf ((⟨true,false,true,true,false,false,true,false,false⟩:Bn),true))
 (cn (a0 == 9)
 (lf ((⟨true,true,false,false,false,false,false,false,false⟩:Bn),true))
 (cn (a0 == 10)
 (nx3 a0 (a0 == 10))
 (nx3 a0 (a0 == 11))))))))))
def Ai4 [An A (Bn×Bool)](a0:Int)(p802_2:Bool):A:=sx_stmt_uses_2 L a0 p802_2 (fun a0 p803_2=>Ai5 L a0 p803_2)
theorem Bwt(a0:Int)(p802_2:Bool)(z3:EC):EV (As1 L) L 9 (EC.put (rl [21]) z3 Aid.u.l.u.l.u) (A12 a0 p802_2) (A1s L kk Aid.u.r)= @sx_stmt_uses_2 Prop (anP (A7w kk)) L a0 p802_2 (fun a0 p803_2=>EV (As1 L) L 9 z3 (A13 a0 p803_2) (A1t L kk Aid.u.r)):=by kernel_rfl
theorem Bwh(a0:Int)(p802_2:Bool):EV (As1 L) L 9 Aid.u.l.u.l.u (A12 a0 p802_2) (A1s L kk Aid.u.r)=ob (Ai4 L a0 p802_2) (A7w kk):=Eq.trans (b:=EV (As1 L) L 9 (EC.put (rl [21]) Aid.u.l.u.l.x.x.w.u.r Aid.u.l.u.l.u) (A12 a0 p802_2) (A1s L kk Aid.u.r)) (by kernel_rfl) ((Bwt L kk a0 p802_2 Aid.u.l.u.l.x.x.w.u.r).trans (eE (sx_stmt_uses_2 L a0 p802_2 (fun a0 p803_2=>re (Bwi L kk a0 p803_2)))))
def sx_stmt_uses_0 [An A (Bn×Bool)](L:Nat)(a0:Int)(nx2:Int→Bool→A):A:=
 (cn (a0 == 1)
 (nx2 a0 (a0 == 1))
 (cn (a0 == 7)
 (nx2 a0 (a0 == 7))
 (cn (a0 == 8)
 (nx2 a0 (a0 == 8))
 (cn (a0 == 12)
 (nx2 a0 (a0 == 12))
 (cn (a0 == 15)
 (nx2 a0 (a0 == 15))
 (cn (a0 == 16)
 (nx2 a0 (a0 == 16))
 (nx2 a0 (a0 == 17))))))))
def Ay5 [An A (Bn×Bool)](a0:Int):A:=sx_stmt_uses_0 L a0 (fun a0 p802_2=>Ai4 L a0 p802_2)
theorem Bws(a0:Int)(z2:EC):EW (As1 L) L 9 (RS Tryz.f121) (EC.put (rl [2,1,2,1,2]) z2 Aid) [I a0] kk= @sx_stmt_uses_0 Prop (anP (A7w kk)) L a0 (fun a0 p802_2=>EV (As1 L) L 9 z2 (A12 a0 p802_2) (A1s L kk Aid.u.r)):=by kernel_rfl
def Afn(a0:Int):Option (Bn×Bool):=Ay5 L a0
def B2j:Gk:=E1 (fun(x:Bn×Bool)=> .tup [.agg (Vj x.1),B x.2]) 121 (cI .i64) (Afn L) fun a0 r h=>hF Tryz.func121 (C:=As1 L) (oS _) L (fun kk=>Eq.trans (b:=EW (As1 L) L 9 (RS Tryz.f121) (EC.put (rl [2,1,2,1,2]) Aid.u.l.u.l.u Aid) [I a0] kk) (by kernel_rfl) ((Bws L kk a0 Aid.u.l.u.l.u).trans (eE (sx_stmt_uses_0 L a0 (fun a0 p802_2=>re (Bwh L kk a0 p802_2)))))) h
end Go.Proofs.YtogleahbpobaiaaGreat.Ev
