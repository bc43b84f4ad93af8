import Derived.Test.YtofcpkmnhmnfcaaGreatRG1
import Derived.Test.YtofcpkmnhmnfcaaGreatRG2
namespace Go.Proofs.YtofcpkmnhmnfcaaGreatR.Ev
open Go An
set_option maxRecDepth 100000
set_option maxHeartbeats 4000000
set_option linter.unusedVariables false
set_option linter.unusedSimpArgs false
set_option linter.unnecessarySimpa false
noncomputable section
variable {A:Type} (L n:Nat) (kk:Cz) (K:Ba) (k:Bq)
def c6:=CC Tryz.f6
def O6:Bd:=oL [X16 L,X17 L]
def B8m(Al:Int)(Ak:Int)(a0:Ac)(v:Cs):St:=⟨[(0,.any),(1,.loc 1 0),(2,I Al),(3,I v.1),(4,I Ak),(5,.loc 5 0),(6,I v.2)],[(1,(Au a0)),(5,(Af (a0.Sites.getD (Int.toNat Ak) default)))],0⟩
def Ah2 [An A Cm](Al:Int)(Ak:Int)(a0:Ac)(rec:Int→Int→A)(Bt:Int)(B1:Int):A:=
 (lw B1 ((a0.Sites.getD (Int.toNat Ak) default).Routines)
 (gi B1 ((a0.Sites.getD (Int.toNat Ak) default).Routines)
 (gi B1 ((a0.Sites.getD (Int.toNat Ak) default).Routines)
 (bd (P4 L ((((a0.Sites.getD (Int.toNat Ak) default).Routines).getD (Int.toNat B1) default).Body)) fun r2=>
 (rec (B7 (Bt+(B7 ((B7 ((B7 (1+(((((a0.Sites.getD (Int.toNat Ak) default).Routines).getD (Int.toNat B1) default).Params).length:Int)))+(((((a0.Sites.getD (Int.toNat Ak) default).Routines).getD (Int.toNat B1) default).Locals).length:Int)))+r2)))) (B7 (B1+1))))))
 (lf (0,Bt,B1)))
def O2(L:Nat)(Al:Int)(Ak:Int)(a0:Ac):Nat→Int→Int→Option Cm
 |0,_,_=>none
 |n+1,Bt,B1=>Ah2 L Al Ak a0 (O2 L Al Ak a0 n) Bt B1
theorem Clx(Al:Int)(Ak:Int)(a0:Ac):LP (EV (O6 L) L 9 c6.w.l.u.l.l.u.l.l.x.l.l) [0,1,2,3,4,5,6] [1,5] (B8m Al Ak a0) [.exit 2] (fun n v=>O2 L Al Ak a0 n v.1 v.2) K:=lE (fun _=>rfl) fun n v ih=>eE (Ah2 L Al Ak a0 (fun Bt B1=>re (ih (Bt,B1))) v.1 v.2)
def By4(a0:Ac)(v:Int×Int×Int):St:=⟨[(0,.any),(1,.loc 1 0),(2,I v.1),(3,I v.2.1),(4,I v.2.2)],[(1,(Au a0))],0⟩
def Aas [An A (Nat×Int×Int×Int)](L:Nat)(Al:Int)(Ak:Int)(rec:Int→Int→Int→A)(o3:Nat×Cs):A:=
 (sl o3.1 [(rec Al o3.2.1 (B7 (Ak+1)))])
def Aio [An A (Nat×Int×Int×Int)](a0:Ac)(rec:Int→Int→Int→A)(Al:Int)(Ai:Int)(Ak:Int)(nx1:Int→Int→Int→A):A:=
 (lw Ak a0.Sites
 (bd (Ai0 L (a0.Sites.getD (Int.toNat Ak) default)) fun r1=>
 (cn (!r1)
 (lf (0,1048576,Ai,Ak))
 (nx1 Al Ak Ai)))
 (lf (1,Al,Ai,Ak)))
def Aol [An A (Nat×Int×Int×Int)](a0:Ac)(rec:Int→Int→Int→A)(Al:Int)(Ai:Int)(Ak:Int):A:=Aio L a0 rec Al Ai Ak (fun Al Ak Ai=>bd (O2 L Al Ak a0 L (B7 (Ai+(B7 ((B7 ((B7 (1+(((a0.Sites.getD (Int.toNat Ak) default).Vars).length:Int)))+(((a0.Sites.getD (Int.toNat Ak) default).Starts).length:Int)))+(((a0.Sites.getD (Int.toNat Ak) default).Laws).length:Int))))) 0) fun o3=>Aas L Al Ak rec o3)
def O1(L:Nat)(a0:Ac):Nat→Int→Int→Int→Option (Nat×Int×Int×Int)
 |0,_,_,_=>none
 |n+1,Al,Ai,Ak=>Aol L a0 (O1 L a0 n) Al Ai Ak
def B7c(a0:Ac):Prop:=LI (EV (O6 L) L 9 c6.w.l.u.l.l) [0,1,2,3,4] [1] (By4 a0) [.ret,.exit 0] (fun n v=>O1 L a0 n v.1 v.2.1 v.2.2) K n
def B7p:Ba:=(Av 2 (Av 1 (Be (EV (O6 L) L 9 c6.w.l.u.l.l.u.r) (Hh (Jj (EV (O6 L) L 9 c6.w.l.u.l.l) [0,1,2,3,4] [1] n) [0,1,2,3,4] [1] K))))
theorem Cqu(Al:Int)(Ak:Int)(a0:Ac)(ih:B7c L n K a0)(o3:Nat×Cs):kX [.exit 2] (B8m Al Ak a0) (B7p L n K) o3=ob (Aas L Al Ak (O1 L a0 n) o3) (kX [.ret,.exit 0] (By4 a0) K):=eE (Aas L Al Ak (fun Al Ai Ak=>re (ih (Al,Ai,Ak))) o3)
theorem Clw(a0:Ac):∀n,B7c L n K a0:=lE (fun _=>rfl) fun n v ih=>eE (Aio L a0 (fun Al Ai Ak=>re (ih (Al,Ai,Ak))) v.1 v.2.1 v.2.2 (fun Al Ak Ai=>ho (Clx L (B7p L n K) Al Ak a0 L ((B7 (Ai+(B7 ((B7 ((B7 (1+(((a0.Sites.getD (Int.toNat Ak) default).Vars).length:Int)))+(((a0.Sites.getD (Int.toNat Ak) default).Starts).length:Int)))+(((a0.Sites.getD (Int.toNat Ak) default).Laws).length:Int))))),0)) fun o3=>Cqu L n K Al Ak a0 ih o3))
def Aat [An A Int](L:Nat)(o4:Nat×Int×Int×Int):A:=
 (sl o4.1 [(lf o4.2.1),
 (lf o4.2.2.1)])
def B7q:Ba:=(Av 0 (Be (EV (O6 L) L 9 c6.w.r) (Cp Tryz.prog (RS Tryz.f6) kk)))
theorem Cqv(a0:Ac)(o4:Nat×Int×Int×Int):kX [.ret,.exit 0] (By4 a0) (B7q L kk) o4=ob (Aat L o4) (kQ I kk):=eE (Aat L o4)
def A6o [An A Int](a0:Ac):A:=(bd (O1 L a0 L 0 (B7 ((a0.Params.length:Int)+(a0.Links.length:Int))) 0) fun o4=>Aat L o4)
def Als(a0:Ac):Option Int:=A6o L a0
def X6:F7:=E1 I 6 Cu (Als L) fun a0 r h=>hF Tryz.func6 (C:=O6 L) (oS _) L (fun kk=>eE ((ho (Clw L (B7q L kk) a0 L (0,(B7 ((a0.Params.length:Int)+(a0.Links.length:Int))),0)) fun o4=>Cqv L kk a0 o4))) h
def Al6 [An A Bool](L:Nat)(a0:Int):A:=
 (jp (.cn (decide (a0≥97))
 (.lf (decide (a0≤122)))
 (.lf false)) (fun b1=>
 (lf b1)))
def Y1(a0:Int):Option Bool:=Al6 L a0
def X95:F7:=E1 B 95 (cI .u8) (Y1 L) fun a0 r h=>hF Tryz.func95 (oS []) L (fun kk=>eE (Al6 L a0)) h
def Ajv [An A Bool](L:Nat)(a0:ByteArray):A:=
 (cn (a0.toList == (⟨#[97,100,100]⟩:ByteArray).toList)
 (cn (a0.toList == (⟨#[97,100,100]⟩:ByteArray).toList)
 (lf true)
 (lf false))
 (cn (a0.toList == (⟨#[97,102,116,101,114]⟩:ByteArray).toList)
 (cn (a0.toList == (⟨#[97,102,116,101,114]⟩:ByteArray).toList)
 (lf true)
 (lf false))
 (cn (a0.toList == (⟨#[97,110,100]⟩:ByteArray).toList)
 (cn (a0.toList == (⟨#[97,110,100]⟩:ByteArray).toList)
 (lf true)
 (lf false))
 (cn (a0.toList == (⟨#[97,116]⟩:ByteArray).toList)
 (cn (a0.toList == (⟨#[97,116]⟩:ByteArray).toList)
 (lf true)
 (lf false))
 (cn (a0.toList == (⟨#[98,101,108,116]⟩:ByteArray).toList)
 (cn (a0.toList == (⟨#[98,101,108,116]⟩:ByteArray).toList)
 (lf true)
 (lf false))
 (cn (a0.toList == (⟨#[98,111,111,108]⟩:ByteArray).toList)
 (cn (a0.toList == (⟨#[98,111,111,108]⟩:ByteArray).toList)
 (lf true)
 (lf false))
 (cn (a0.toList == (⟨#[99,111,110,115,101,114,118,101]⟩:ByteArray).toList)
 (cn (a0.toList == (⟨#[99,111,110,115,101,114,118,101]⟩:ByteArray).toList)
 (lf true)
 (lf false))
 (cn (a0.toList == (⟨#[99,111,110,115,116]⟩:ByteArray).toList)
 (cn (a0.toList == (⟨#[99,111,110,115,116]⟩:ByteArray).toList)
 (lf true)
 (lf false))
 (cn (a0.toList == (⟨#[99,111,117,110,116]⟩:ByteArray).toList)
 (cn (a0.toList == (⟨#[99,111,117,110,116]⟩:ByteArray).toList)
 (lf true)
 (lf false))
 (cn (a0.toList == (⟨#[99,121,99,108,101]⟩:ByteArray).toList)
 (cn (a0.toList == (⟨#[99,121,99,108,101]⟩:ByteArray).toList)
 (lf true)
 (lf false))
 (cn (a0.toList == (⟨#[100,111,119,110]⟩:ByteArray).toList)
 (cn (a0.toList == (⟨#[100,111,119,110]⟩:ByteArray).toList)
 (lf true)
 (lf false))
 (cn (a0.toList == (⟨#[100,114,97,119]⟩:ByteArray).toList)
 (cn (a0.toList == (⟨#[100,114,97,119]⟩:ByteArray).toList)
 (lf true)
 (lf false))
 (cn (a0.toList == (⟨#[100,117,114]⟩:ByteArray).toList)
 (cn (a0.toList == (⟨#[100,117,114]⟩:ByteArray).toList)
 (lf true)
 (lf false))
 (cn (a0.toList == (⟨#[101,108,115,101]⟩:ByteArray).toList)
 (cn (a0.toList == (⟨#[101,108,115,101]⟩:ByteArray).toList)
 (lf true)
 (lf false))
 (cn (a0.toList == (⟨#[101,110,100]⟩:ByteArray).toList)
 (cn (a0.toList == (⟨#[101,110,100]⟩:ByteArray).toList)
 (lf true)
 (lf false))
 (cn (a0.toList == (⟨#[101,118,101,114,121]⟩:ByteArray).toList)
 (cn (a0.toList == (⟨#[101,118,101,114,121]⟩:ByteArray).toList)
 (lf true)
 (lf false))
 (cn (a0.toList == (⟨#[102,97,108,115,101]⟩:ByteArray).toList)
 (cn (a0.toList == (⟨#[102,97,108,115,101]⟩:ByteArray).toList)
 (lf true)
 (lf false))
 (cn (a0.toList == (⟨#[102,97,117,108,116]⟩:ByteArray).toList)
 (cn (a0.toList == (⟨#[102,97,117,108,116]⟩:ByteArray).toList)
 (lf true)
 (lf false))
 (cn (a0.toList == (⟨#[102,105,102,111]⟩:ByteArray).toList)
 (cn (a0.toList == (⟨#[102,105,102,111]⟩:ByteArray).toList)
 (lf true)
 (lf false))
 (cn (a0.toList == (⟨#[102,114,101,101]⟩:ByteArray).toList)
 (cn (a0.toList == (⟨#[102,114,101,101]⟩:ByteArray).toList)
 (lf true)
 (lf false))
 (cn (a0.toList == (⟨#[102,114,111,109]⟩:ByteArray).toList)
 (cn (a0.toList == (⟨#[102,114,111,109]⟩:ByteArray).toList)
 (lf true)
 (lf false))
 (cn (a0.toList == (⟨#[103,101,111,109]⟩:ByteArray).toList)
 (cn (a0.toList == (⟨#[103,101,111,109]⟩:ByteArray).toList)
 (lf true)
 (lf false))
 (cn (a0.toList == (⟨#[103,101,116]⟩:ByteArray).toList)
 (cn (a0.toList == (⟨#[103,101,116]⟩:ByteArray).toList)
 (lf true)
 (lf false))
 (cn (a0.toList == (⟨#[104,111,108,100]⟩:ByteArray).toList)
 (cn (a0.toList == (⟨#[104,111,108,100]⟩:ByteArray).toList)
 (lf true)
 (lf false))
 (cn (a0.toList == (⟨#[105,102]⟩:ByteArray).toList)
 (cn (a0.toList == (⟨#[105,102]⟩:ByteArray).toList)
 (lf true)
 (lf false))
 (cn (a0.toList == (⟨#[105,110,116]⟩:ByteArray).toList)
 (cn (a0.toList == (⟨#[105,110,116]⟩:ByteArray).toList)
 (lf true)
 (lf false))
 (cn (a0.toList == (⟨#[105,110,116,111]⟩:ByteArray).toList)
 (cn (a0.toList == (⟨#[105,110,116,111]⟩:ByteArray).toList)
 (lf true)
 (lf false))
 (cn (a0.toList == (⟨#[108,101,97,115,116]⟩:ByteArray).toList)
 (cn (a0.toList == (⟨#[108,101,97,115,116]⟩:ByteArray).toList)
 (lf true)
 (lf false))
 (cn (a0.toList == (⟨#[108,101,118,101,108]⟩:ByteArray).toList)
 (cn (a0.toList == (⟨#[108,101,118,101,108]⟩:ByteArray).toList)
 (lf true)
 (lf false))
 (cn (a0.toList == (⟨#[108,105,102,111]⟩:ByteArray).toList)
 (cn (a0.toList == (⟨#[108,105,102,111]⟩:ByteArray).toList)
 (lf true)
 (lf false))
 (cn (a0.toList == (⟨#[108,105,110,107]⟩:ByteArray).toList)
 (cn (a0.toList == (⟨#[108,105,110,107]⟩:ByteArray).toList)
 (lf true)
 (lf false))
 (cn (a0.toList == (⟨#[108,111,99,97,108]⟩:ByteArray).toList)
 (cn (a0.toList == (⟨#[108,111,99,97,108]⟩:ByteArray).toList)
 (lf true)
 (lf false))
 (cn (a0.toList == (⟨#[109,97,120]⟩:ByteArray).toList)
 (cn (a0.toList == (⟨#[109,97,120]⟩:ByteArray).toList)
 (lf true)
 (lf false))
 (cn (a0.toList == (⟨#[109,105,110]⟩:ByteArray).toList)
 (cn (a0.toList == (⟨#[109,105,110]⟩:ByteArray).toList)
 (lf true)
 (lf false))
 (cn (a0.toList == (⟨#[109,111,100,101,108]⟩:ByteArray).toList)
 (cn (a0.toList == (⟨#[109,111,100,101,108]⟩:ByteArray).toList)
 (lf true)
 (lf false))
 (cn (a0.toList == (⟨#[110,111,116]⟩:ByteArray).toList)
 (cn (a0.toList == (⟨#[110,111,116]⟩:ByteArray).toList)
 (lf true)
 (lf false))
 (cn (a0.toList == (⟨#[110,111,119]⟩:ByteArray).toList)
 (cn (a0.toList == (⟨#[110,111,119]⟩:ByteArray).toList)
 (lf true)
 (lf false))
 (cn (a0.toList == (⟨#[111,98,115,101,114,118,101]⟩:ByteArray).toList)
 (cn (a0.toList == (⟨#[111,98,115,101,114,118,101]⟩:ByteArray).toList)
 (lf true)
 (lf false))
 (cn (a0.toList == (⟨#[111,114]⟩:ByteArray).toList)
 (cn (a0.toList == (⟨#[111,114]⟩:ByteArray).toList)
 (lf true)
 (lf false))
 (cn (a0.toList == (⟨#[112,97,114,97,109]⟩:ByteArray).toList)
 (cn (a0.toList == (⟨#[112,97,114,97,109]⟩:ByteArray).toList)
 (lf true)
 (lf false))
 (cn (a0.toList == (⟨#[112,114,101,101,109,112,116]⟩:ByteArray).toList)
 (cn (a0.toList == (⟨#[112,114,101,101,109,112,116]⟩:ByteArray).toList)
 (lf true)
 (lf false))
 (cn (a0.toList == (⟨#[112,114,105,111]⟩:ByteArray).toList)
 (cn (a0.toList == (⟨#[112,114,105,111]⟩:ByteArray).toList)
 (lf true)
 (lf false))
 (cn (a0.toList == (⟨#[112,117,116]⟩:ByteArray).toList)
 (cn (a0.toList == (⟨#[112,117,116]⟩:ByteArray).toList)
 (lf true)
 (lf false))
 (cn (a0.toList == (⟨#[113,117,101,117,101]⟩:ByteArray).toList)
 (cn (a0.toList == (⟨#[113,117,101,117,101]⟩:ByteArray).toList)
 (lf true)
 (lf false))
 (cn (a0.toList == (⟨#[114,101,108,101,97,115,101]⟩:ByteArray).toList)
 (cn (a0.toList == (⟨#[114,101,108,101,97,115,101]⟩:ByteArray).toList)
 (lf true)
 (lf false))
 (cn (a0.toList == (⟨#[114,101,115,111,117,114,99,101]⟩:ByteArray).toList)
 (cn (a0.toList == (⟨#[114,101,115,111,117,114,99,101]⟩:ByteArray).toList)
 (lf true)
 (lf false))
 (cn (a0.toList == (⟨#[114,105,100,101]⟩:ByteArray).toList)
 (cn (a0.toList == (⟨#[114,105,100,101]⟩:ByteArray).toList)
 (lf true)
 (lf false))
 (cn (a0.toList == (⟨#[114,111,117,116,105,110,101]⟩:ByteArray).toList)
 (cn (a0.toList == (⟨#[114,111,117,116,105,110,101]⟩:ByteArray).toList)
 (lf true)
 (lf false))
 (cn (a0.toList == (⟨#[115,101,105,122,101]⟩:ByteArray).toList)
 (cn (a0.toList == (⟨#[115,101,105,122,101]⟩:ByteArray).toList)
 (lf true)
 (lf false))
 (cn (a0.toList == (⟨#[115,101,110,100]⟩:ByteArray).toList)
 (cn (a0.toList == (⟨#[115,101,110,100]⟩:ByteArray).toList)
 (lf true)
 (lf false))
 (cn (a0.toList == (⟨#[115,101,116]⟩:ByteArray).toList)
 (cn (a0.toList == (⟨#[115,101,116]⟩:ByteArray).toList)
 (lf true)
 (lf false))
 (cn (a0.toList == (⟨#[115,104,105,102,116]⟩:ByteArray).toList)
 (cn (a0.toList == (⟨#[115,104,105,102,116]⟩:ByteArray).toList)
 (lf true)
 (lf false))
 (cn (a0.toList == (⟨#[115,105,103,110,97,108]⟩:ByteArray).toList)
 (cn (a0.toList == (⟨#[115,105,103,110,97,108]⟩:ByteArray).toList)
 (lf true)
 (lf false))
 (cn (a0.toList == (⟨#[115,105,116,101]⟩:ByteArray).toList)
 (cn (a0.toList == (⟨#[115,105,116,101]⟩:ByteArray).toList)
 (lf true)
 (lf false))
 (cn (a0.toList == (⟨#[115,105,122,101]⟩:ByteArray).toList)
 (cn (a0.toList == (⟨#[115,105,122,101]⟩:ByteArray).toList)
 (lf true)
 (lf false))
 (cn (a0.toList == (⟨#[115,112,97,119,110]⟩:ByteArray).toList)
 (cn (a0.toList == (⟨#[115,112,97,119,110]⟩:ByteArray).toList)
 (lf true)
 (lf false))
 (cn (a0.toList == (⟨#[115,116,97,114,116]⟩:ByteArray).toList)
 (cn (a0.toList == (⟨#[115,116,97,114,116]⟩:ByteArray).toList)
 (lf true)
 (lf false))
 (cn (a0.toList == (⟨#[115,116,111,112]⟩:ByteArray).toList)
 (cn (a0.toList == (⟨#[115,116,111,112]⟩:ByteArray).toList)
 (lf true)
 (lf false))
 (cn (a0.toList == (⟨#[115,116,111,114,101]⟩:ByteArray).toList)
 (cn (a0.toList == (⟨#[115,116,111,114,101]⟩:ByteArray).toList)
 (lf true)
 (lf false))
 (cn (a0.toList == (⟨#[115,116,114,101,97,109]⟩:ByteArray).toList)
 (cn (a0.toList == (⟨#[115,116,114,101,97,109]⟩:ByteArray).toList)
 (lf true)
 (lf false))
 (cn (a0.toList == (⟨#[115,117,109]⟩:ByteArray).toList)
 (cn (a0.toList == (⟨#[115,117,109]⟩:ByteArray).toList)
 (lf true)
 (lf false))
 (cn (a0.toList == (⟨#[116,97,98,108,101]⟩:ByteArray).toList)
 (cn (a0.toList == (⟨#[116,97,98,108,101]⟩:ByteArray).toList)
 (lf true)
 (lf false))
 (cn (a0.toList == (⟨#[116,97,108,108,121]⟩:ByteArray).toList)
 (cn (a0.toList == (⟨#[116,97,108,108,121]⟩:ByteArray).toList)
 (lf true)
 (lf false))
 (cn (a0.toList == (⟨#[116,105,99,107,115]⟩:ByteArray).toList)
 (cn (a0.toList == (⟨#[116,105,99,107,115]⟩:ByteArray).toList)
 (lf true)
 (lf false))
 (cn (a0.toList == (⟨#[116,105,109,101]⟩:ByteArray).toList)
 (cn (a0.toList == (⟨#[116,105,109,101]⟩:ByteArray).toList)
 (lf true)
 (lf false))
 (cn (a0.toList == (⟨#[116,114,117,101]⟩:ByteArray).toList)
 (cn (a0.toList == (⟨#[116,114,117,101]⟩:ByteArray).toList)
 (lf true)
 (lf false))
 (cn (a0.toList == (⟨#[117,110,105,102,111,114,109]⟩:ByteArray).toList)
 (cn (a0.toList == (⟨#[117,110,105,102,111,114,109]⟩:ByteArray).toList)
 (lf true)
 (lf false))
 (cn (a0.toList == (⟨#[117,110,116,105,108]⟩:ByteArray).toList)
 (cn (a0.toList == (⟨#[117,110,116,105,108]⟩:ByteArray).toList)
 (lf true)
 (lf false))
 (cn (a0.toList == (⟨#[117,112]⟩:ByteArray).toList)
 (cn (a0.toList == (⟨#[117,112]⟩:ByteArray).toList)
 (lf true)
 (lf false))
 (cn (a0.toList == (⟨#[118,97,114]⟩:ByteArray).toList)
 (cn (a0.toList == (⟨#[118,97,114]⟩:ByteArray).toList)
 (lf true)
 (lf false))
 (cn (a0.toList == (⟨#[119,97,105,116]⟩:ByteArray).toList)
 (cn (a0.toList == (⟨#[119,97,105,116]⟩:ByteArray).toList)
 (lf true)
 (lf false))
 (cn (a0.toList == (⟨#[119,97,105,116,105,110,103]⟩:ByteArray).toList)
 (cn (a0.toList == (⟨#[119,97,105,116,105,110,103]⟩:ByteArray).toList)
 (lf true)
 (lf false))
 (cn (a0.toList == (⟨#[119,104,105,108,101]⟩:ByteArray).toList)
 (lf true)
 (lf false))))))))))))))))))))))))))))))))))))))))))))))))))))))))))))))))))))))))))
def Aa9(a0:ByteArray):Option Bool:=Ajv L a0
def X96:F7:=E1 B 96 cS (Aa9 L) fun a0 r h=>hF Tryz.func96 (oS []) L (fun kk=>eE (Ajv L a0)) h
def c65:=CC Tryz.f65
def O65:Bd:=oL [X95 L,X96 L]
def By3(a0:ByteArray)(v:Cs):St:=⟨[(0,S a0),(2,I v.1),(23,I (a0.size:Int)),(24,I v.2)],[],0⟩
def Ux [An A Cm](a0:ByteArray)(rec:Int→Int→A)(Ai:Int)(Aj:Int):A:=
 (cn (decide (Aj < (a0.size:Int)))
 (cn ((if 0≤Aj then a0[Int.toNat Aj]? else none).isSome)
 (bd (Y1 L (Eg (if 0≤Aj then a0[Int.toNat Aj]? else none))) fun r6=>
 (jp (.cn (!r6)
 (.cn (decide ((Eg (if 0≤Aj then a0[Int.toNat Aj]? else none)) < 48))
 (.lf true)
 (.lf (decide ((Eg (if 0≤Aj then a0[Int.toNat Aj]? else none)) > 57))))
 (.lf false)) (fun b7=>
 (jp (.cn b7
 (.lf ((Eg (if 0≤Aj then a0[Int.toNat Aj]? else none)) != 95))
 (.lf false)) (fun b8=>
 (cn b8
 (lf (0,3,Aj))
 (rec Ai (B7 (Aj+1)))))))))
 fl)
 (lf (1,Ai,Aj)))
def Lk(L:Nat)(a0:ByteArray):Nat→Int→Int→Option Cm
 |0,_,_=>none
 |n+1,Ai,Aj=>Ux L a0 (Lk L a0 n) Ai Aj
theorem Cdc(a0:ByteArray):LP (EV (O65 L) L 9 c65.w.l.u.l.l) [0,2,23,24] [] (By3 a0) [.ret,.exit 0] (fun n v=>Lk L a0 n v.1 v.2) K:=lE (fun _=>rfl) fun n v ih=>eE (Ux L a0 (fun Ai Aj=>re (ih (Ai,Aj))) v.1 v.2)
def Vk [An A Int](L:Nat)(o9:Nat×Cs):A:=
 (sl o9.1 [(lf o9.2.1),
 (lf 0)])
def Bwy:Ba:=(Av 0 (Be (EV (O65 L) L 9 c65.w.r) (Cp Tryz.prog (RS Tryz.f65) kk)))
theorem Cne(a0:ByteArray)(o9:Nat×Cs):kX [.ret,.exit 0] (By3 a0) (Bwy L kk) o9=ob (Vk L o9) (kQ I kk):=eE (Vk L o9)
def Aaa [An A Int](a0:ByteArray)(nx1:A):A:=
 (jp (.cn (a0.toList == (⟨#[]⟩:ByteArray).toList)
 (.lf true)
 (.lf (decide ((a0.size:Int) > 24)))) (fun b1=>
 (jb (.cn b1
 (.lf true)
 (.cn ((if 0≤0 then a0[Int.toNat 0]? else none).isSome)
 (.bd (Y1 L (Eg (if 0≤0 then a0[Int.toNat 0]? else none))) fun r3=>
 (.lf (!r3)))
 .fl)) (fun b2=>
 (jb (.cn b2
 (.lf true)
 (.bd (Aa9 L a0) fun r5=>
 (.lf r5))) (fun b4=>
 (cn b4
 (lf 3)
 nx1)))))))
def Av3 [An A Int](a0:ByteArray):A:=Aaa L a0 (bd (Lk L a0 L 0 0) fun o9=>Vk L o9)
def Dc(a0:ByteArray):Option Int:=Av3 L a0
def X65:F7:=E1 I 65 cS (Dc L) fun a0 r h=>hF Tryz.func65 (C:=O65 L) (oS _) L (fun kk=>eE (Aaa L a0 (ho (Cdc L (Bwy L kk) a0 L (0,0)) fun o9=>Cne L kk a0 o9))) h
def Aod [An A Bool](L:Nat)(a0:Int):A:=
 (jp (.cn (decide (a0≥1))
 (.lf (decide (a0≤3)))
 (.lf false)) (fun b1=>
 (lf b1)))
def L1(a0:Int):Option Bool:=Aod L a0
def B0x:F7:=E1 B 172 (cI .i64) (L1 L) fun a0 r h=>hF Tryz.func172 (oS []) L (fun kk=>eE (Aod L a0)) h
def A63 [An A Bool](L:Nat)(a0:Int):A:=
 (jp (.cn (decide (a0≥(-1000000000000)))
 (.lf (decide (a0≤1000000000000)))
 (.lf false)) (fun b1=>
 (lf b1)))
def Ai4(a0:Int):Option Bool:=A63 L a0
def X46:F7:=E1 B 46 (cI .i64) (Ai4 L) fun a0 r h=>hF Tryz.func46 (oS []) L (fun kk=>eE (A63 L a0)) h
def Al5 [An A Bool](L:Nat)(a0:Int)(a1:Int)(a2:Int):A:=
 (jp (.cn (decide (a0≥a1))
 (.lf (decide (a0≤a2)))
 (.lf false)) (fun b1=>
 (lf b1)))
def Bh(a0:Int)(a1:Int)(a2:Int):Option Bool:=Al5 L a0 a1 a2
def Bjl:F7:=E3 B 106 (cI .i64) (cI .i64) (cI .i64) (Bh L) fun a0 a1 a2 r h=>hF Tryz.func106 (oS []) L (fun kk=>eE (Al5 L a0 a1 a2)) h
def Arc [An A Bool](a0:Int)(a1:Int):A:=
 (cn (a0 == 1)
 (bd (Ai4 L a1) fun r1=>
 (lf r1))
 (cn (a0 == 2)
 (jp (.cn (a1 == 0)
 (.lf true)
 (.lf (a1 == 1))) (fun b2=>
 (lf b2)))
 (cn (a0 == 3)
 (bd (Bh L a1 0 1000000000) fun r3=>
 (lf r3))
 (lf false))))
def Vu(a0:Int)(a1:Int):Option Bool:=Arc L a0 a1
def B0y:F7:=E2 B 173 (cI .i64) (cI .i64) (Vu L) fun a0 a1 r h=>hF Tryz.func173 (oS [X46 L,Bjl L]) L (fun kk=>eE (Arc L a0 a1)) h
def Cjj:=CC Tryz.f107
def B82:Bd:=oL [Bjl L]
def Bp2(a0:Ah)(v:Cs):St:=⟨[(0,.any),(1,.loc 1 0),(2,I v.1),(12,.any),(17,.any),(23,lv (.t160 a0.Shift)),(24,I (a0.Shift.length:Int)),(25,I v.2)],[(1,(Bx a0))],0⟩
def Ug [An A Cm](a0:Ah)(rec:Int→Int→A)(Al:Int)(Aj:Int):A:=
 (lw Aj a0.Shift
 (bd (Bh L ((a0.Shift.getD (Int.toNat Aj) default).At) 0 (B7 (a0.Cycle - 1))) fun r2=>
 (cn (!r2)
 (cn (!r2)
 (lf (0,2,Aj))
 (cn (decide (Aj > 0))
 (gi (B7 (Aj - 1)) a0.Shift
 (cn (decide ((a0.Shift.getD (Int.toNat Aj) default).At≤(a0.Shift.getD (Int.toNat (B7 (Aj - 1))) default).At))
 (lf (0,12,Aj))
 (rec Al (B7 (Aj+1)))))
 (rec Al (B7 (Aj+1)))))
 (bd (Bh L ((a0.Shift.getD (Int.toNat Aj) default).Units) 0 1000) fun r3=>
 (cn (!r3)
 (lf (0,2,Aj))
 (cn (decide (Aj > 0))
 (gi (B7 (Aj - 1)) a0.Shift
 (cn (decide ((a0.Shift.getD (Int.toNat Aj) default).At≤(a0.Shift.getD (Int.toNat (B7 (Aj - 1))) default).At))
 (lf (0,12,Aj))
 (rec Al (B7 (Aj+1)))))
 (rec Al (B7 (Aj+1))))))))
 (lf (1,Al,Aj)))
def H3(L:Nat)(a0:Ah):Nat→Int→Int→Option Cm
 |0,_,_=>none
 |n+1,Al,Aj=>Ug L a0 (H3 L a0 n) Al Aj
theorem B4h(a0:Ah):LP (EV (B82 L) L 9 Cjj.w.u.l.u.l.l) [0,1,2,12,17,23,24,25] [1] (Bp2 a0) [.ret,.exit 1] (fun n v=>H3 L a0 n v.1 v.2) K:=lE (fun _=>rfl) fun n v ih=>eE (Ug L a0 (fun Al Aj=>re (ih (Al,Aj))) v.1 v.2)
def Ob [An A Int](L:Nat)(o4:Nat×Cs):A:=
 (sl o4.1 [(lf o4.2.1),
 (lf 0)])
def Bmm:Ba:=(Av 1 (Be (EV (B82 L) L 9 Cjj.w.u.r) (Cp Tryz.prog (RS Tryz.f107) kk)))
theorem Cd6(a0:Ah)(o4:Nat×Cs):kX [.ret,.exit 1] (Bp2 a0) (Bmm L kk) o4=ob (Ob L o4) (kQ I kk):=eE (Ob L o4)
def Uj [An A Int](a0:Ah)(nx1:A):A:=
 (cn ((a0.Shift.length:Int) == 0)
 (cn (a0.Cycle != 0)
 (lf 1)
 (lf 0))
 (cn (decide ((a0.Shift.length:Int) > 20))
 (lf 6)
 (bd (Bh L a0.Cycle 1 1000000000) fun r1=>
 (cn (!r1)
 (lf 2)
 nx1))))
def Ape [An A Int](a0:Ah):A:=Uj L a0 (bd (H3 L a0 L 0 0) fun o4=>Ob L o4)
def d8(a0:Ah):Option Int:=Ape L a0
def Chs:F7:=E1 I 107 N5 (d8 L) fun a0 r h=>hF Tryz.func107 (C:=B82 L) (oS _) L (fun kk=>eE (Uj L a0 (ho (B4h L (Bmm L kk) a0 L (0,0)) fun o4=>Cd6 L kk a0 o4))) h
def Ckr:=CC Tryz.f216
def B9q(L:Nat):Bd:=oL []
def Bq5(a0:List Int)(a1:List Int)(v:Yq):St:=⟨[(0,lv (.t3 a0)),(1,lv (.t3 a1)),(4,B v.1),(12,I (a0.length:Int)),(13,I v.2)],[],0⟩
def Rl [An A M3](L:Nat)(a0:List Int)(a1:List Int)(rec:Bool→Int→A)(Ak:Bool)(Bu:Int):A:=
 (lw Bu a0
 (gi Bu a1
 (cn ((a0.getD (Int.toNat Bu) default) != (a1.getD (Int.toNat Bu) default))
 (lf (0,false,Bu))
 (rec Ak (B7 (Bu+1)))))
 (lf (1,Ak,Bu)))
def Gv(L:Nat)(a0:List Int)(a1:List Int):Nat→Bool→Int→Option M3
 |0,_,_=>none
 |n+1,Ak,Bu=>Rl L a0 a1 (Gv L a0 a1 n) Ak Bu
theorem B5m(a0:List Int)(a1:List Int):LP (EV (B9q L) L 9 Ckr.w.l.u.l.l) [0,1,4,12,13] [] (Bq5 a0 a1) [.ret,.exit 0] (fun n v=>Gv L a0 a1 n v.1 v.2) K:=lE (fun _=>rfl) fun n v ih=>eE (Rl L a0 a1 (fun Ak Bu=>re (ih (Ak,Bu))) v.1 v.2)
def K5 [An A Bool](L:Nat)(o1:Nat×Yq):A:=
 (sl o1.1 [(lf o1.2.1),
 (lf true)])
def Bnz:Ba:=(Av 0 (Be (EV (B9q L) L 9 Ckr.w.r) (Cp Tryz.prog (RS Tryz.f216) kk)))
theorem Cfj(a0:List Int)(a1:List Int)(o1:Nat×Yq):kX [.ret,.exit 0] (Bq5 a0 a1) (Bnz L kk) o1=ob (K5 L o1) (kQ B kk):=eE (K5 L o1)
def Rp [An A Bool](L:Nat)(a0:List Int)(a1:List Int)(nx1:A):A:=
 (cn ((a0.length:Int) != (a1.length:Int))
 (lf false)
 nx1)
def Al7 [An A Bool](a0:List Int)(a1:List Int):A:=Rp L a0 a1 (bd (Gv L a0 a1 L false 0) fun o1=>K5 L o1)
def P5(a0:List Int)(a1:List Int):Option Bool:=Al7 L a0 a1
def Cip:F7:=E2 B 216 cl3 cl3 (P5 L) fun a0 a1 r h=>hF Tryz.func216 (C:=B9q L) (oS _) L (fun kk=>eE (Rp L a0 a1 (ho (B5m L (Bnz L kk) a0 a1 L (false,0)) fun o1=>Cfj L kk a0 a1 o1))) h
def Aty [An A Bool](a0:Bn)(a1:Bn):A:=
 (jp (.cn (a0.Op == a1.Op)
 (.lf (a0.A == a1.A))
 (.lf false)) (fun b1=>
 (jp (.cn b1
 (.lf (a0.B == a1.B))
 (.lf false)) (fun b2=>
 (jp (.cn b2
 (.lf (a0.N == a1.N))
 (.lf false)) (fun b3=>
 (jb (.cn b3
 (.bd (P5 L a0.Values a1.Values) fun r5=>
 (.lf r5))
 (.lf false)) (fun b4=>
 (jb (.cn b4
 (.bd (P5 L a0.Weights a1.Weights) fun r7=>
 (.lf r7))
 (.lf false)) (fun b6=>
 (lf b6)))))))))))
def Sl(a0:Bn)(a1:Bn):Option Bool:=Aty L a0 a1
def B97:F7:=E2 B 174 Sr Sr (Sl L) fun a0 a1 r h=>hF Tryz.func174 (oS [Cip L]) L (fun kk=>eE (Aty L a0 a1)) h
def Ckf:=CC Tryz.f169
def B9j(L:Nat):Bd:=oL []
def Bqq(a0:List ByteArray)(a1:ByteArray)(v:Cs):St:=⟨[(0,lv (.t9 a0)),(1,S a1),(4,I v.1),(7,I (a0.length:Int)),(8,I v.2)],[],0⟩
def L4 [An A Cm](L:Nat)(a0:List ByteArray)(a1:ByteArray)(rec:Int→Int→A)(Ak:Int)(Bu:Int):A:=
 (lw Bu a0
 (cn (a1.toList == (a0.getD (Int.toNat Bu) default).toList)
 (lf (0,Bu,Bu))
 (rec Ak (B7 (Bu+1))))
 (lf (1,Ak,Bu)))
def Ek(L:Nat)(a0:List ByteArray)(a1:ByteArray):Nat→Int→Int→Option Cm
 |0,_,_=>none
 |n+1,Ak,Bu=>L4 L a0 a1 (Ek L a0 a1 n) Ak Bu
theorem B47(a0:List ByteArray)(a1:ByteArray):LP (EV (B9j L) L 9 Ckf.u.l.u.l.l) [0,1,4,7,8] [] (Bqq a0 a1) [.ret,.exit 0] (fun n v=>Ek L a0 a1 n v.1 v.2) K:=lE (fun _=>rfl) fun n v ih=>eE (L4 L a0 a1 (fun Ak Bu=>re (ih (Ak,Bu))) v.1 v.2)
def L8 [An A Int](L:Nat)(o1:Nat×Cs):A:=
 (sl o1.1 [(lf o1.2.1),
 (lf (-1))])
def Bnc:Ba:=(Av 0 (Be (EV (B9j L) L 9 Ckf.u.r) (Cp Tryz.prog (RS Tryz.f169) kk)))
theorem Cew(a0:List ByteArray)(a1:ByteArray)(o1:Nat×Cs):kX [.ret,.exit 0] (Bqq a0 a1) (Bnc L kk) o1=ob (L8 L o1) (kQ I kk):=eE (L8 L o1)
def Afu [An A Int](a0:List ByteArray)(a1:ByteArray):A:=(bd (Ek L a0 a1 L 0 0) fun o1=>L8 L o1)
def D1(a0:List ByteArray)(a1:ByteArray):Option Int:=Afu L a0 a1
def B96:F7:=E2 I 169 cl9 cS (D1 L) fun a0 a1 r h=>hF Tryz.func169 (C:=B9j L) (oS _) L (fun kk=>eE ((ho (B47 L (Bnc L kk) a0 a1 L (0,0)) fun o1=>Cew L kk a0 a1 o1))) h
def Th [An A Bool](a0:List ByteArray)(a1:ByteArray):A:=
 (bd (D1 L a0 a1) fun r1=>
 (lf (decide (r1≥0))))
def Bz(a0:List ByteArray)(a1:ByteArray):Option Bool:=Th L a0 a1
def B98:F7:=E2 B 175 cl9 cS (Bz L) fun a0 a1 r h=>hF Tryz.func175 (oS [B96 L]) L (fun kk=>eE (Th L a0 a1)) h
def Aob [An A Bool](L:Nat)(a0:Bn):A:=
 (cn (a0.Op == 1)
 (jp (.cn ((B7 ((a0.Values.length:Int)+(a0.Weights.length:Int))) == 0)
 (.lf (a0.B == 0))
 (.lf false)) (fun b1=>
 (jp (.cn b1
 (.lf (a0.N == 0))
 (.lf false)) (fun b2=>
 (lf b2)))))
 (cn (a0.Op == 2)
 (cn (a0.Op == 2)
 (jp (.cn ((B7 ((a0.Values.length:Int)+(a0.Weights.length:Int))) == 0)
 (.lf (a0.N == 0))
 (.lf false)) (fun b3=>
 (lf b3)))
 (cn (a0.Op == 4)
 (lf ((B7 ((a0.Values.length:Int)+(a0.Weights.length:Int))) == 0))
 (cn (a0.Op == 3)
 (jp (.cn (a0.A == 0)
 (.lf (a0.B == 0))
 (.lf false)) (fun b4=>
 (jp (.cn b4
 (.lf (a0.N == 0))
 (.lf false)) (fun b5=>
 (lf b5)))))
 (lf false))))
 (cn (a0.Op == 5)
 (jp (.cn ((B7 ((a0.Values.length:Int)+(a0.Weights.length:Int))) == 0)
 (.lf (a0.N == 0))
 (.lf false)) (fun b6=>
 (lf b6)))
 (cn (a0.Op == 4)
 (lf ((B7 ((a0.Values.length:Int)+(a0.Weights.length:Int))) == 0))
 (cn (a0.Op == 3)
 (jp (.cn (a0.A == 0)
 (.lf (a0.B == 0))
 (.lf false)) (fun b7=>
 (jp (.cn b7
 (.lf (a0.N == 0))
 (.lf false)) (fun b8=>
 (lf b8)))))
 (lf false))))))
def Aht(a0:Bn):Option Bool:=Aob L a0
def Ciq:F7:=E1 B 217 Sr (Aht L) fun a0 r h=>hF Tryz.func217 (oS []) L (fun kk=>eE (Aob L a0)) h
def Ck2:=CC Tryz.f241
def Ck6:=CC Tryz.f252
def Cks:=CC Tryz.f218
def A9x(L:Nat):Bd:=oL []
def Bq6(p1_0:List Int)(p1_1:Int)(p1_2:Int)(v:Cs):St:=⟨[(0,lv (.t3 p1_0)),(1,.clo 242 0 [.loc 3 0,.loc 4 0]),(4,I v.1),(7,I (p1_0.length:Int)),(8,I v.2)],[(3,[I p1_1]),(4,[I p1_2])],5⟩
def j9 [An A Cm](L:Nat)(p1_0:List Int)(p1_1:Int)(p1_2:Int)(rec:Int→Int→A)(Ai:Int)(Aj:Int):A:=
 (lw Aj p1_0
 (jp (.cn (decide ((p1_0.getD (Int.toNat Aj) default) < p1_1))
 (.lf true)
 (.lf (decide ((p1_0.getD (Int.toNat Aj) default) > p1_2)))) (fun b1=>
 (cn b1
 (lf (0,Aj,Aj))
 (rec Ai (B7 (Aj+1))))))
 (lf (1,Ai,Aj)))
def Ld(L:Nat)(p1_0:List Int)(p1_1:Int)(p1_2:Int):Nat→Int→Int→Option Cm
 |0,_,_=>none
 |n+1,Ai,Aj=>j9 L p1_0 p1_1 p1_2 (Ld L p1_0 p1_1 p1_2 n) Ai Aj
theorem B5n(p1_0:List Int)(p1_1:Int)(p1_2:Int):LP (EV (A9x L) L 7 Ck6.u.l.u.l.l) [0,1,4,7,8] [3,4] (Bq6 p1_0 p1_1 p1_2) [.ret,.exit 0] (fun n v=>Ld L p1_0 p1_1 p1_2 n v.1 v.2) K:=lE (fun _=>rfl) fun n v ih=>eE (j9 L p1_0 p1_1 p1_2 (fun Ai Aj=>re (ih (Ai,Aj))) v.1 v.2)
def Bcs(p1_0:List Int)(p1_1:Int)(p1_2:Int)(k:Bq):Int→Prop:=fun o=>k (I o) [(3,[I p1_1]),(4,[I p1_2])]
def s8 [An A Int](L:Nat)(o2:Nat×Cs):A:=
 (sl o2.1 [(lf o2.2.1),
 (lf (-1))])
def Bn0:Ba:=(Av 0 (Be (EV (A9x L) L 7 Ck6.u.r) (Eb Tryz.prog (RS Tryz.f252) k)))
theorem Cfk(p1_0:List Int)(p1_1:Int)(p1_2:Int)(o2:Nat×Cs):kX [.ret,.exit 0] (Bq6 p1_0 p1_1 p1_2) (Bn0 L k) o2=ob (s8 L o2) (Bcs p1_0 p1_1 p1_2 k):=eE (s8 L o2)
def Apo [An A Int](p1_0:List Int)(p1_1:Int)(p1_2:Int):A:=(bd (Ld L p1_0 p1_1 p1_2 L 0 0) fun o2=>s8 L o2)
def Agd(p1_0:List Int)(p1_1:Int)(p1_2:Int):Option Int:=Apo L p1_0 p1_1 p1_2
theorem B3k(p1_0:List Int)(p1_1:Int)(p1_2:Int):YO (A9x L) L 8 252 [lv (.t3 p1_0),.clo 242 0 [.loc 3 0,.loc 4 0]] [(3,[I p1_1]),(4,[I p1_2])] k=ob (Agd L p1_0 p1_1 p1_2) (Bcs p1_0 p1_1 p1_2 k):=(C3 _ _ _ jn4 _ _ _ _ _ _ _).trans (eE ((ho (B5n L (Bn0 L k) p1_0 p1_1 p1_2 L (0,0)) fun o2=>Cfk L k p1_0 p1_1 p1_2 o2)))
def U6 [An A Bool](L:Nat)(o3:Int):A:=
 (lf (!(decide (o3≥0))))
def Bn1(a2:List Int)(a0:Int)(a1:Int):Bq:=(B4 Tryz.prog (A9x L) (EI (A9x L) L 8) 2 (List.drop 3 Ck2.u.l.ops) ⟨[(6,.clo 242 0 [.loc 3 0,.loc 4 0]),(5,lv (.t3 a2)),(0,lv (.t3 a2)),(1,.clo 242 0 [.loc 3 0,.loc 4 0]),(4,B false)],[(3,[I a0]),(4,[I a1])],5⟩ (some 7) (fun st9=>(Be (EV (A9x L) L 8 Ck2.u.r) (Eb Tryz.prog (RS Tryz.f241) (B4 Tryz.prog (A9x L) (EI (A9x L) L 9) 2 (List.drop 3 Cks.u.l.ops) ⟨[(8,.clo 242 0 [.loc 3 0,.loc 4 0]),(7,lv (.t3 a2)),(2,lv (.t3 a2)),(3,.loc 3 0),(4,.loc 4 0),(6,B false)],[(3,[I a0]),(4,[I a1])],0⟩ (some 9) (fun st9=>(Be (EV (A9x L) L 9 Cks.u.r) (Cp Tryz.prog (RS Tryz.f218) kk)) .normal st9)))) .normal st9))
theorem Cfl(a2:List Int)(a0:Int)(a1:Int)(o3:Int):Bcs a2 a0 a1 (Bn1 L kk a2 a0 a1) o3=ob (U6 L o3) (kQ B kk):=eE (U6 L o3)
def Avy [An A Bool](a0:Int)(a1:Int)(a2:List Int):A:=(bd (Agd L a2 a0 a1) fun o3=>U6 L o3)
def Hn(a0:Int)(a1:Int)(a2:List Int):Option Bool:=Avy L a0 a1 a2
def Cir:F7:=E3 B 218 (cI .i64) (cI .i64) cl3 (Hn L) fun a0 a1 a2 r h=>hF Tryz.func218 (C:=A9x L) (oS _) L (fun kk=>eE ((ho (B3k L (Bn1 L kk a2 a0 a1) a2 a0 a1) fun o3=>Cfl L kk a2 a0 a1 o3))) h
def Aq9 [An A Int](a0:Bn):A:=
 (bd (Aht L a0) fun r1=>
 (cn (!r1)
 (lf 1)
 (cn (a0.Op == 1)
 (bd (Hn L 0 1000000000 [a0.A]) fun r2=>
 (cn (!r2)
 (lf 2)
 (lf 0)))
 (cn (a0.Op == 2)
 (bd (Hn L 0 1000000000 [a0.A,a0.B]) fun r3=>
 (jp (.cn r3
 (.lf (decide (a0.A≤a0.B)))
 (.lf false)) (fun b4=>
 (cn (!b4)
 (lf 2)
 (lf 0)))))
 (cn (a0.Op == 4)
 (bd (Hn L 1 20 [a0.N]) fun r5=>
 (cn r5
 (jb (.bd (Hn L 0 1000000 [a0.A,a0.B]) fun r7=>
 (.lf r7)) (fun b6=>
 (jp (.cn b6
 (.lf (decide (a0.A≤a0.B)))
 (.lf false)) (fun b8=>
 (cn (!b8)
 (lf 2)
 (lf 0))))))
 (nq (nq (lf 2)))))
 (cn (a0.Op == 5)
 (bd (Hn L 1 1000 [a0.A,a0.B]) fun r9=>
 (cn (!r9)
 (lf 2)
 (lf 0)))
 (cn (a0.Op == 3)
 (cn ((a0.Values.length:Int) != (a0.Weights.length:Int))
 (lf 8)
 (cn ((a0.Values.length:Int) == 0)
 (lf 7)
 (cn (decide ((a0.Values.length:Int) > 20))
 (lf 6)
 (bd (Hn L 0 1000000000 a0.Values) fun r10=>
 (jb (.cn r10
 (.bd (Hn L 1 1000 a0.Weights) fun r12=>
 (.lf r12))
 (.lf false)) (fun b11=>
 (cn (!b11)
 (lf 2)
 (lf 0))))))))
 (lf 2))))))))
def Sk(a0:Bn):Option Int:=Aq9 L a0
def B99:F7:=E1 I 176 Sr (Sk L) fun a0 r h=>hF Tryz.func176 (oS [Ciq L,Cir L]) L (fun kk=>eE (Aq9 L a0)) h
def Af9 [An A Int](a0:Aa)(a1:Ki):A:=
 (cn (a1.Stream.toList == (⟨#[]⟩:ByteArray).toList)
 (bd (Sl L a1.Up (⟨0,0,0,0,[],[]⟩:Bn)) fun r1=>
 (cn (!r1)
 (nq (lf 1))
 (bd (Sl L a1.Down (⟨0,0,0,0,[],[]⟩:Bn)) fun r2=>
 (nq (cn (!r2)
 (lf 1)
 (cn (a1.Stream.toList == (⟨#[]⟩:ByteArray).toList)
 (lf 0)
 (bd (Bz L a0.Streams a1.Stream) fun r3=>
 (cn (!r3)
 (lf 5)
 (bd (Sk L a1.Up) fun r4=>
 (cn (r4 != 0)
 (lf r4)
 (bd (Sk L a1.Down) fun r5=>
 (lf r5))))))))))))
 (nq (cn (a1.Stream.toList == (⟨#[]⟩:ByteArray).toList)
 (lf 0)
 (bd (Bz L a0.Streams a1.Stream) fun r6=>
 (cn (!r6)
 (lf 5)
 (bd (Sk L a1.Up) fun r7=>
 (cn (r7 != 0)
 (lf r7)
 (bd (Sk L a1.Down) fun r8=>
 (lf r8)))))))))
def d7(a0:Aa)(a1:Ki):Option Int:=Af9 L a0 a1
def Cht:F7:=E2 I 108 Cn Bdd (d7 L) fun a0 a1 r h=>hF Tryz.func108 (oS [B97 L,B98 L,B99 L]) L (fun kk=>eE (Af9 L a0 a1)) h
def c58:=CC Tryz.f58
def O58(L:Nat):Bd:=oL []
def Cls:(List Ap)→Prop:=fun x=>kk ((fun(x:List Ap)=>lv (.t127 x)) x)
def By1(a0:List (List Ap))(v:Cs):St:=⟨[(0,lv (.t55 a0)),(2,.lst true (.t127 [])),(3,I v.1),(6,.any),(8,.any),(9,lv (.t55 a0)),(10,I (a0.length:Int)),(11,I v.2),(27,.any)],[],0⟩
def Ip [An A Cm](L:Nat)(a0:List (List Ap))(rec:Int→Int→A)(Ak:Int)(Ac0:Int):A:=
 (lw Ac0 a0
 (cn (decide ((B7 (Ak+((a0.getD (Int.toNat Ac0) default).length:Int))) < 0))
 fl
 (rec (B7 (Ak+((a0.getD (Int.toNat Ac0) default).length:Int))) (B7 (Ac0+1))))
 (lf (0,Ak,Ac0)))
def Dd(L:Nat)(a0:List (List Ap)):Nat→Int→Int→Option Cm
 |0,_,_=>none
 |n+1,Ak,Ac0=>Ip L a0 (Dd L a0 n) Ak Ac0
theorem Cda(a0:List (List Ap)):LP (EV (O58 L) L 9 c58.w.l.u.l.l) [0,2,3,6,8,9,10,11,27] [] (By1 a0) [.exit 0] (fun n v=>Dd L a0 n v.1 v.2) K:=lE (fun _=>rfl) fun n v ih=>eE (Ip L a0 (fun Ak Ac0=>re (ih (Ak,Ac0))) v.1 v.2)
def By2(a0:List (List Ap))(v:List Ap×Int):St:=⟨[(0,.any),(2,.lst true (.t127 [])),(3,.any),(5,.any),(6,.lst true (.t127 v.1)),(11,.any),(25,lv (.t55 a0)),(26,I (a0.length:Int)),(27,I v.2)],[],0⟩
def Iq [An A (Nat×List Ap×Int)](L:Nat)(a0:List (List Ap))(rec:List Ap→Int→A)(Bt:List Ap)(Ub:Int):A:=
 (lw Ub a0
 (gq ((Bt.length+(a0.getD (Int.toNat Ub) default).length)*24≤140737488355328)
 (gq (Bt.length+(a0.getD (Int.toNat Ub) default).length≤maxLen)
 (rec (Bt++(a0.getD (Int.toNat Ub) default)) (B7 (Ub+1)))))
 (lf (0,Bt,Ub)))
def De(L:Nat)(a0:List (List Ap)):Nat→List Ap→Int→Option (Nat×List Ap×Int)
 |0,_,_=>none
 |n+1,Bt,Ub=>Iq L a0 (De L a0 n) Bt Ub
theorem Cdb(a0:List (List Ap)):LP (EV (O58 L) L 9 c58.x.l.u.l.l) [0,2,3,5,6,11,25,26,27] [] (By2 a0) [.exit 2] (fun n v=>De L a0 n v.1 v.2) K:=lE (fun _=>rfl) fun n v ih=>eE (Iq L a0 (fun Bt Ub=>re (ih (Bt,Ub))) v.1 v.2)
def Gk [An A (List Ap)](L:Nat)(o2:Nat×List Ap×Int):A:=
 (sl o2.1 [(lf o2.2.1)])
def Bwx:Ba:=(Av 2 (Be (EV (O58 L) L 9 c58.x.r) (Cp Tryz.prog (RS Tryz.f58) kk)))
theorem Cnd(a0:List (List Ap))(o2:Nat×List Ap×Int):kX [.exit 2] (By2 a0) (Bwx L kk) o2=ob (Gk L o2) (Cls kk):=eE (Gk L o2)
def Iy [An A (List Ap)](L:Nat)(a0:List (List Ap))(o1:Nat×Cs)(nx2:A):A:=
 (sl o1.1 [(gq (0≤o1.2.1)
 (gq (o1.2.1*((24:Nat):Int)≤140737488355328)
 (gq (o1.2.1≤(4611686018427387904:Int))
 nx2)))])
def Ix [An A (List Ap)](a0:List (List Ap))(o1:Nat×Cs):A:=Iy L a0 o1 (bd (De L a0 L [] 0) fun o2=>Gk L o2)
def Bww:Ba:=(Av 0 (Be (EV (O58 L) L 9 c58.w.r) (Cp Tryz.prog (RS Tryz.f58) kk)))
theorem Cnc(a0:List (List Ap))(o1:Nat×Cs):kX [.exit 0] (By1 a0) (Bww L kk) o1=ob (Ix L a0 o1) (Cls kk):=eE (Iy L a0 o1 (ho (Cdb L (Bwx L kk) a0 L ([],0)) fun o2=>Cnd L kk a0 o2))
def Aae [An A (List Ap)](a0:List (List Ap)):A:=(bd (Dd L a0 L 0 0) fun o1=>Ix L a0 o1)
def Ky(a0:List (List Ap)):Option (List Ap):=Aae L a0
def X58:F7:=E1 (fun(x:List Ap)=>lv (.t127 x)) 58 Cqi (Ky L) fun a0 r h=>hF Tryz.func58 (C:=O58 L) (oS _) L (fun kk=>eE ((ho (Cda L (Bww L kk) a0 L (0,0)) fun o1=>Cnc L kk a0 o1))) h
def Blv(F:(List Ad)→Option Int):Prop:=∀y0 r,F y0=some r→Ho Tryz.prog 133 [Xe.en y0] I r
def Cjx:=CC Tryz.f133
def B84(Ey:(List Ad)→Option Int)(L:Nat):Bd:=(orc 133 (A1 I Xe Ey) (oL []))
theorem Crr(Ey:(List Ad)→Option Int)(Bvh:Blv Ey)(L:Nat):Dv Tryz.prog (B84 Ey L):=(D4 (a1 _ Bvh) (oS []))
def Bp6(a0:List Ad)(v:Cs):St:=⟨[(0,.any),(2,I 0),(3,I v.1),(8,lv (.t96 a0)),(9,I (a0.length:Int)),(10,I v.2)],[],0⟩
def Abq [An A Cm](Ey:(List Ad)→Option Int)(L:Nat)(a0:List Ad)(rec:Int→Int→A)(Ai:Int)(Bu:Int):A:=
 (lw Bu a0
 (bd (Ey ((a0.getD (Int.toNat Bu) default).Body)) fun r1=>
 (bd (Ey ((a0.getD (Int.toNat Bu) default).Else)) fun r2=>
 (rec (B7 (Ai+(B7 (r1+r2)))) (B7 (Bu+1)))))
 (lf (0,Ai,Bu)))
def Np(Ey:(List Ad)→Option Int)(L:Nat)(a0:List Ad):Nat→Int→Int→Option Cm
 |0,_,_=>none
 |n+1,Ai,Bu=>Abq Ey L a0 (Np Ey L a0 n) Ai Bu
theorem B4n(Ey:(List Ad)→Option Int)(L:Nat)(K:Ba)(a0:List Ad):LP (EV (B84 Ey L) L 9 Cjx.w.l.u.l.l) [0,2,3,8,9,10] [] (Bp6 a0) [.exit 0] (fun n v=>Np Ey L a0 n v.1 v.2) K:=lE (fun _=>rfl) fun n v ih=>eE (Abq Ey L a0 (fun Ai Bu=>re (ih (Ai,Bu))) v.1 v.2)
def W0 [An A Int](Ey:(List Ad)→Option Int)(L:Nat)(o3:Nat×Cs):A:=
 (sl o3.1 [(lf o3.2.1)])
def Bms(Ey:(List Ad)→Option Int)(L:Nat)(kk:Cz):Ba:=(Av 0 (Be (EV (B84 Ey L) L 9 Cjx.w.r) (Cp Tryz.prog (RS Tryz.f133) kk)))
theorem Cec(Ey:(List Ad)→Option Int)(L:Nat)(kk:Cz)(a0:List Ad)(o3:Nat×Cs):kX [.exit 0] (Bp6 a0) (Bms Ey L kk) o3=ob (W0 Ey L o3) (kQ I kk):=eE (W0 Ey L o3)
def Ayo [An A Int](Ey:(List Ad)→Option Int)(L:Nat)(a0:List Ad):A:=(bd (Np Ey L a0 L (a0.length:Int) 0) fun o3=>W0 Ey L o3)
def Aqt(Ey:(List Ad)→Option Int)(L:Nat)(a0:List Ad):Option Int:=Ayo Ey L a0
theorem Cpz(Ey:(List Ad)→Option Int)(Bvh:Blv Ey)(L:Nat):Blv (Aqt Ey L):=fun a0 r h=>hF Tryz.func133 (Crr Ey Bvh L) L (fun kk=>eE ((ho (B4n Ey L (Bms Ey L kk) a0 L ((a0.length:Int),0)) fun o3=>Cec Ey L kk a0 o3))) h
def Oo:Nat→(List Ad)→Option Int
 |0,_=>none
 |L+1,a0=>Aqt (Oo L) L a0
theorem B20(L:Nat):Blv (Oo L):=by
 induction L with
 |zero=>exact fun _ _ h=>(by cases h)
 |succ L ih=>
  have i133:=ih
  exact Cpz (Oo L) i133 L
def Chx(L:Nat):F7:=E1 I 133 Xe (Oo L) (B20 L)
def Blw(F:(List Ad)→Option Int):Prop:=∀y0 r,F y0=some r→Ho Tryz.prog 134 [Xe.en y0] I r
def Cjy:=CC Tryz.f134
def B85(Ez:(List Ad)→Option Int)(L:Nat):Bd:=(orc 134 (A1 I Xe Ez) (oL []))
theorem Crs(Ez:(List Ad)→Option Int)(Bvi:Blw Ez)(L:Nat):Dv Tryz.prog (B85 Ez L):=(D4 (a1 _ Bvi) (oS []))
def Bp7(a0:List Ad)(v:Cs):St:=⟨[(0,.any),(2,I 0),(3,I v.1),(6,lv (.t96 a0)),(7,I (a0.length:Int)),(8,I v.2)],[],0⟩
def Abr [An A Cm](Ez:(List Ad)→Option Int)(L:Nat)(a0:List Ad)(rec:Int→Int→A)(Ai:Int)(Bu:Int):A:=
 (lw Bu a0
 (bd (Ez ((a0.getD (Int.toNat Bu) default).Body)) fun r1=>
 (bd (Ez ((a0.getD (Int.toNat Bu) default).Else)) fun r2=>
 (rec (if (B7 (1+r2)) > (if (B7 (1+r1)) > Ai then (B7 (1+r1)) else Ai) then (B7 (1+r2)) else (if (B7 (1+r1)) > Ai then (B7 (1+r1)) else Ai)) (B7 (Bu+1)))))
 (lf (0,Ai,Bu)))
def Nq(Ez:(List Ad)→Option Int)(L:Nat)(a0:List Ad):Nat→Int→Int→Option Cm
 |0,_,_=>none
 |n+1,Ai,Bu=>Abr Ez L a0 (Nq Ez L a0 n) Ai Bu
theorem B4o(Ez:(List Ad)→Option Int)(L:Nat)(K:Ba)(a0:List Ad):LP (EV (B85 Ez L) L 9 Cjy.w.l.u.l.l) [0,2,3,6,7,8] [] (Bp7 a0) [.exit 0] (fun n v=>Nq Ez L a0 n v.1 v.2) K:=lE (fun _=>rfl) fun n v ih=>eE (Abr Ez L a0 (fun Ai Bu=>re (ih (Ai,Bu))) v.1 v.2)
def W1 [An A Int](Ez:(List Ad)→Option Int)(L:Nat)(o3:Nat×Cs):A:=
 (sl o3.1 [(lf o3.2.1)])
def Bmt(Ez:(List Ad)→Option Int)(L:Nat)(kk:Cz):Ba:=(Av 0 (Be (EV (B85 Ez L) L 9 Cjy.w.r) (Cp Tryz.prog (RS Tryz.f134) kk)))
theorem Ced(Ez:(List Ad)→Option Int)(L:Nat)(kk:Cz)(a0:List Ad)(o3:Nat×Cs):kX [.exit 0] (Bp7 a0) (Bmt Ez L kk) o3=ob (W1 Ez L o3) (kQ I kk):=eE (W1 Ez L o3)
def Ayp [An A Int](Ez:(List Ad)→Option Int)(L:Nat)(a0:List Ad):A:=(bd (Nq Ez L a0 L 0 0) fun o3=>W1 Ez L o3)
def Aqu(Ez:(List Ad)→Option Int)(L:Nat)(a0:List Ad):Option Int:=Ayp Ez L a0
theorem Cp0(Ez:(List Ad)→Option Int)(Bvi:Blw Ez)(L:Nat):Blw (Aqu Ez L):=fun a0 r h=>hF Tryz.func134 (Crs Ez Bvi L) L (fun kk=>eE ((ho (B4o Ez L (Bmt Ez L kk) a0 L (0,0)) fun o3=>Ced Ez L kk a0 o3))) h
def Oq:Nat→(List Ad)→Option Int
 |0,_=>none
 |L+1,a0=>Aqu (Oq L) L a0
theorem B21(L:Nat):Blw (Oq L):=by
 induction L with
 |zero=>exact fun _ _ h=>(by cases h)
 |succ L ih=>
  have i134:=ih
  exact Cp0 (Oq L) i134 L
def Chy(L:Nat):F7:=E1 I 134 Xe (Oq L) (B21 L)
def Amb:=CC Tryz.f184
def Awr(L:Nat):Bd:=oL []
def Bbv:(Bp×Bool)→Prop:=fun x=>kk ((fun(x:Bp×Bool)=> .tup [.agg (Agb x.1),B x.2]) x)
def Bpw:St:=⟨[(2,.loc 2 0),(3,B false)],[(2,[B false,B false,B false,B false,B false,B false,B false,B false,B false])],0⟩
def Bpi(L:Nat)(kk:Cz):Ba:=(Cp Tryz.prog (RS Tryz.f184) kk)
def Ae6 [An A (Bp×Bool)](L:Nat):A:=
 (lf ((⟨false,false,false,false,false,false,false,false,false⟩:Bp),false))
theorem B1j:EV (Awr L) L 9 Amb.w (Bpw) (Bpi L kk)=ob (Ae6 L) (Bbv kk):=eE (Ae6 L)
def A53(a0:Int)(p803_2:Bool):St:=⟨[(2,.loc 2 0),(3,B false),(4,I a0),(32,B p803_2)],[(2,[B false,B false,B false,B false,B false,B false,B false,B false,B false])],0⟩
def A5k(e0:EC):Ba:=(Av 0 (Be (EV (Awr L) L 9 e0) (Cp Tryz.prog (RS Tryz.f184) kk)))
def sx_stmt_uses_3 [An A (Bp×Bool)](L:Nat)(a0:Int)(p803_2:Bool)(nx1:A):A:=
 (cn p803_2
 (lf ((⟨true,false,false,false,false,false,false,false,false⟩:Bp),true))
 (cn (a0 == 13)
 (lf ((⟨true,true,true,false,true,false,false,false,false⟩:Bp),true))
 (cn (a0 == 14)
 (lf ((⟨true,false,true,false,true,false,false,false,false⟩:Bp),true))
 (cn (a0 == 18)
 (lf ((⟨false,false,false,false,false,false,false,false,false⟩:Bp),true))
 nx1))))
def Am0 [An A (Bp×Bool)](a0:Int)(p803_2:Bool):A:=sx_stmt_uses_3 L a0 p803_2 (Ae6 L)
theorem B2b(a0:Int)(p803_2:Bool)(z1:EC):EV (Awr L) L 9 Amb.u.l.u.l.x.x.w.u.r (A53 a0 p803_2) (A5k L kk (EC.put (rl [1]) z1 Amb.u.r))= @sx_stmt_uses_3 Prop (anP (Bbv kk)) L a0 p803_2 (EV (Awr L) L 9 z1 (Bpw) (Bpi L kk)):=by kernel_rfl
theorem B1l(a0:Int)(p803_2:Bool):EV (Awr L) L 9 Amb.u.l.u.l.x.x.w.u.r (A53 a0 p803_2) (A5k L kk Amb.u.r)=ob (Am0 L a0 p803_2) (Bbv kk):=Eq.trans (b:=EV (Awr L) L 9 Amb.u.l.u.l.x.x.w.u.r (A53 a0 p803_2) (A5k L kk (EC.put (rl [1]) Amb.w Amb.u.r))) (by kernel_rfl) ((B2b L kk a0 p803_2 Amb.w).trans (eE (sx_stmt_uses_3 L a0 p803_2 (re (B1j L kk)))))
def A52(a0:Int)(p802_2:Bool):St:=⟨[(2,.loc 2 0),(3,B false),(4,I a0),(5,B p802_2)],[(2,[B false,B false,B false,B false,B false,B false,B false,B false,B false])],0⟩
def A5j(e0:EC):Ba:=(Av 0 (Be (EV (Awr L) L 9 e0) (Cp Tryz.prog (RS Tryz.f184) kk)))
def sx_stmt_uses_2 [An A (Bp×Bool)](L:Nat)(a0:Int)(p802_2:Bool)(nx3:Int→Bool→A):A:=
 (cn p802_2
 (lf ((⟨true,false,true,false,false,false,false,false,false⟩:Bp),true))
 (cn (a0 == 2)
 (lf ((⟨true,true,false,false,false,true,false,false,false⟩:Bp),true))
 (cn (a0 == 3)
 (lf ((⟨false,false,true,false,false,false,false,true,true⟩:Bp),true))
 (cn (a0 == 4)
 (lf ((⟨false,false,true,false,false,false,false,true,false⟩:Bp),true))
 (cn (a0 == 5)
 (lf ((⟨false,false,true,false,false,false,false,false,false⟩:Bp),true))
 (cn (a0 == 6)
 (lf ((⟨true,false,true,true,false,false,true,false,false⟩:Bp),true))
 (cn (a0 == 9)
 (lf ((⟨true,true,false,false,false,false,false,false,false⟩:Bp),true))
 (cn (a0 == 10)
 (nx3 a0 (a0 == 10))
 (nx3 a0 (a0 == 11))))))))))
def Amz [An A (Bp×Bool)](a0:Int)(p802_2:Bool):A:=sx_stmt_uses_2 L a0 p802_2 (fun a0 p803_2=>Am0 L a0 p803_2)
theorem B2a(a0:Int)(p802_2:Bool)(z3:EC):EV (Awr L) L 9 (EC.put (rl [21]) z3 Amb.u.l.u.l.u) (A52 a0 p802_2) (A5j L kk Amb.u.r)= @sx_stmt_uses_2 Prop (anP (Bbv kk)) L a0 p802_2 (fun a0 p803_2=>EV (Awr L) L 9 z3 (A53 a0 p803_2) (A5k L kk Amb.u.r)):=by kernel_rfl
theorem B1k(a0:Int)(p802_2:Bool):EV (Awr L) L 9 Amb.u.l.u.l.u (A52 a0 p802_2) (A5j L kk Amb.u.r)=ob (Amz L a0 p802_2) (Bbv kk):=Eq.trans (b:=EV (Awr L) L 9 (EC.put (rl [21]) Amb.u.l.u.l.x.x.w.u.r Amb.u.l.u.l.u) (A52 a0 p802_2) (A5j L kk Amb.u.r)) (by kernel_rfl) ((B2a L kk a0 p802_2 Amb.u.l.u.l.x.x.w.u.r).trans (eE (sx_stmt_uses_2 L a0 p802_2 (fun a0 p803_2=>re (B1l L kk a0 p803_2)))))
def sx_stmt_uses_0 [An A (Bp×Bool)](L:Nat)(a0:Int)(nx2:Int→Bool→A):A:=
 (cn (a0 == 1)
 (nx2 a0 (a0 == 1))
 (cn (a0 == 7)
 (nx2 a0 (a0 == 7))
 (cn (a0 == 8)
 (nx2 a0 (a0 == 8))
 (cn (a0 == 12)
 (nx2 a0 (a0 == 12))
 (cn (a0 == 15)
 (nx2 a0 (a0 == 15))
 (cn (a0 == 16)
 (nx2 a0 (a0 == 16))
 (nx2 a0 (a0 == 17))))))))
def A23 [An A (Bp×Bool)](a0:Int):A:=sx_stmt_uses_0 L a0 (fun a0 p802_2=>Amz L a0 p802_2)
theorem B19(a0:Int)(z2:EC):EW (Awr L) L 9 (RS Tryz.f184) (EC.put (rl [2,1,2,1,2]) z2 Amb) [I a0] kk= @sx_stmt_uses_0 Prop (anP (Bbv kk)) L a0 (fun a0 p802_2=>EV (Awr L) L 9 z2 (A52 a0 p802_2) (A5j L kk Amb.u.r)):=by kernel_rfl
def Ai6(a0:Int):Option (Bp×Bool):=A23 L a0
def Caa:F7:=E1 (fun(x:Bp×Bool)=> .tup [.agg (Agb x.1),B x.2]) 184 (cI .i64) (Ai6 L) fun a0 r h=>hF Tryz.func184 (C:=Awr L) (oS _) L (fun kk=>Eq.trans (b:=EW (Awr L) L 9 (RS Tryz.f184) (EC.put (rl [2,1,2,1,2]) Amb.u.l.u.l.u Amb) [I a0] kk) (by kernel_rfl) ((B19 L kk a0 Amb.u.l.u.l.u).trans (eE (sx_stmt_uses_0 L a0 (fun a0 p802_2=>re (B1k L kk a0 p802_2)))))) h
end
end Go.Proofs.YtofcpkmnhmnfcaaGreatR.Ev
