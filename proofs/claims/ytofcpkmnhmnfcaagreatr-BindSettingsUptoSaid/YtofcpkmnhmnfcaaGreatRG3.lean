import Derived.Test.YtofcpkmnhmnfcaaGreatRG1
import Derived.Test.YtofcpkmnhmnfcaaGreatRG2
namespace Go.Proofs.YtofcpkmnhmnfcaaGreatR.Ev
open Go An
set_option maxRecDepth 100000
set_option maxHeartbeats 4000000
set_option linter.unusedVariables false
set_option linter.unusedSimpArgs false
set_option linter.unnecessarySimpa false
noncomputable section
variable {A:Type} (L n:Nat) (kk:Cz) (K:Ax) (k:Bk)
def c6:=CC Tryz.f6
def O6:Ba:=oL [X16 L,X17 L]
def B2p(Al:Int)(Ak:Int)(a0:Ac)(v:Co):St:=⟨[(0,.any),(1,.loc 1 0),(2,I Al),(3,I v.1),(4,I Ak),(5,.loc 5 0),(6,I v.2)],[(1,(Aq a0)),(5,(Af (a0.Sites.getD (Int.toNat Ak) default)))],0⟩
def Abj [An A B7](Al:Int)(Ak:Int)(a0:Ac)(rec:Int→Int→A)(Bv:Int)(Bu:Int):A:=
 (lw Bu ((a0.Sites.getD (Int.toNat Ak) default).Routines)
 (gi Bu ((a0.Sites.getD (Int.toNat Ak) default).Routines)
 (gi Bu ((a0.Sites.getD (Int.toNat Ak) default).Routines)
 (bd (Nt L ((((a0.Sites.getD (Int.toNat Ak) default).Routines).getD (Int.toNat Bu) default).Body)) fun r2=>
 (rec (B6 (Bv+(B6 ((B6 ((B6 (1+(((((a0.Sites.getD (Int.toNat Ak) default).Routines).getD (Int.toNat Bu) default).Params).length:Int)))+(((((a0.Sites.getD (Int.toNat Ak) default).Routines).getD (Int.toNat Bu) default).Locals).length:Int)))+r2)))) (B6 (Bu+1))))))
 (lf (0,Bv,Bu)))
def Ng(L:Nat)(Al:Int)(Ak:Int)(a0:Ac):Nat→Int→Int→Option B7
 |0,_,_=>none
 |n+1,Bv,Bu=>Abj L Al Ak a0 (Ng L Al Ak a0 n) Bv Bu
theorem Cfl(Al:Int)(Ak:Int)(a0:Ac):LP (EV (O6 L) L 9 c6.w.l.u.l.l.u.l.l.x.l.l) [0,1,2,3,4,5,6] [1,5] (B2p Al Ak a0) [.exit 2] (fun n v=>Ng L Al Ak a0 n v.1 v.2) K:=lE (fun _=>rfl) fun n v ih=>eE (Abj L Al Ak a0 (fun Bv Bu=>re (ih (Bv,Bu))) v.1 v.2)
def Bsz(a0:Ac)(v:Int×Int×Int):St:=⟨[(0,.any),(1,.loc 1 0),(2,I v.1),(3,I v.2.1),(4,I v.2.2)],[(1,(Aq a0))],0⟩
def Xw [An A (Nat×Int×Int×Int)](L:Nat)(Al:Int)(Ak:Int)(rec:Int→Int→Int→A)(o3:Nat×Co):A:=
 (sl o3.1 [(rec Al o3.2.1 (B6 (Ak+1)))])
def Abu [An A (Nat×Int×Int×Int)](a0:Ac)(rec:Int→Int→Int→A)(Al:Int)(Aj:Int)(Ak:Int)(nx1:Int→Int→Int→A):A:=
 (lw Ak a0.Sites
 (bd (Abz L (a0.Sites.getD (Int.toNat Ak) default)) fun r1=>
 (cn (!r1)
 (lf (0,1048576,Aj,Ak))
 (nx1 Al Ak Aj)))
 (lf (1,Al,Aj,Ak)))
def Ahv [An A (Nat×Int×Int×Int)](a0:Ac)(rec:Int→Int→Int→A)(Al:Int)(Aj:Int)(Ak:Int):A:=Abu L a0 rec Al Aj Ak (fun Al Ak Aj=>bd (Ng L Al Ak a0 L (B6 (Aj+(B6 ((B6 ((B6 (1+(((a0.Sites.getD (Int.toNat Ak) default).Vars).length:Int)))+(((a0.Sites.getD (Int.toNat Ak) default).Starts).length:Int)))+(((a0.Sites.getD (Int.toNat Ak) default).Laws).length:Int))))) 0) fun o3=>Xw L Al Ak rec o3)
def Nf(L:Nat)(a0:Ac):Nat→Int→Int→Int→Option (Nat×Int×Int×Int)
 |0,_,_,_=>none
 |n+1,Al,Aj,Ak=>Ahv L a0 (Nf L a0 n) Al Aj Ak
def B1a(a0:Ac):Prop:=LI (EV (O6 L) L 9 c6.w.l.u.l.l) [0,1,2,3,4] [1] (Bsz a0) [.ret,.exit 0] (fun n v=>Nf L a0 n v.1 v.2.1 v.2.2) K n
def B1n:Ax:=(Av 2 (Av 1 (Bb (EV (O6 L) L 9 c6.w.l.u.l.l.u.r) (Gj (Ix (EV (O6 L) L 9 c6.w.l.u.l.l) [0,1,2,3,4] [1] n) [0,1,2,3,4] [1] K))))
theorem Cks(Al:Int)(Ak:Int)(a0:Ac)(ih:B1a L n K a0)(o3:Nat×Co):kX [.exit 2] (B2p Al Ak a0) (B1n L n K) o3=ob (Xw L Al Ak (Nf L a0 n) o3) (kX [.ret,.exit 0] (Bsz a0) K):=eE (Xw L Al Ak (fun Al Aj Ak=>re (ih (Al,Aj,Ak))) o3)
theorem Cfk(a0:Ac):∀n,B1a L n K a0:=lE (fun _=>rfl) fun n v ih=>eE (Abu L a0 (fun Al Aj Ak=>re (ih (Al,Aj,Ak))) v.1 v.2.1 v.2.2 (fun Al Ak Aj=>ho (Cfl L (B1n L n K) Al Ak a0 L ((B6 (Aj+(B6 ((B6 ((B6 (1+(((a0.Sites.getD (Int.toNat Ak) default).Vars).length:Int)))+(((a0.Sites.getD (Int.toNat Ak) default).Starts).length:Int)))+(((a0.Sites.getD (Int.toNat Ak) default).Laws).length:Int))))),0)) fun o3=>Cks L n K Al Ak a0 ih o3))
def Xx [An A Int](L:Nat)(o4:Nat×Int×Int×Int):A:=
 (sl o4.1 [(lf o4.2.1),
 (lf o4.2.2.1)])
def B1o:Ax:=(Av 0 (Bb (EV (O6 L) L 9 c6.w.r) (Cm Tryz.prog (RS Tryz.f6) kk)))
theorem Ckt(a0:Ac)(o4:Nat×Int×Int×Int):kX [.ret,.exit 0] (Bsz a0) (B1o L kk) o4=ob (Xx L o4) (kQ I kk):=eE (Xx L o4)
def A1t [An A Int](a0:Ac):A:=(bd (Nf L a0 L 0 (B6 ((a0.Params.length:Int)+(a0.Links.length:Int))) 0) fun o4=>Xx L o4)
def Aeb(a0:Ac):Option Int:=A1t L a0
def X6:Ew:=E1 I 6 Cq (Aeb L) fun a0 r h=>hF Tryz.func6 (C:=O6 L) (oS _) L (fun kk=>eE ((ho (Cfk L (B1o L kk) a0 L (0,(B6 ((a0.Params.length:Int)+(a0.Links.length:Int))),0)) fun o4=>Ckt L kk a0 o4))) h
def Aem [An A Bool](L:Nat)(a0:Int):A:=
 (jp (.cn (decide (a0≥97))
 (.lf (decide (a0≤122)))
 (.lf false)) (fun b1=>
 (lf b1)))
def Vc(a0:Int):Option Bool:=Aem L a0
def X95:Ew:=E1 B 95 (cI .u8) (Vc L) fun a0 r h=>hF Tryz.func95 (oS []) L (fun kk=>eE (Aem L a0)) h
def Acu [An A Bool](L:Nat)(a0:ByteArray):A:=
 (cn (a0.toList == (⟨#[97,100,100]⟩:ByteArray).toList)
 (cn (a0.toList == (⟨#[97,100,100]⟩:ByteArray).toList)
 (lf true)
 (lf false))
 (cn (a0.toList == (⟨#[97,102,116,101,114]⟩:ByteArray).toList)
 (cn (a0.toList == (⟨#[97,102,116,101,114]⟩:ByteArray).toList)
 (lf true)
 (lf false))
 (cn (a0.toList == (⟨#[97,110,100]⟩:ByteArray).toList)
 (cn (a0.toList == (⟨#[97,110,100]⟩:ByteArray).toList)
 (lf true)
 (lf false))
 (cn (a0.toList == (⟨#[97,116]⟩:ByteArray).toList)
 (cn (a0.toList == (⟨#[97,116]⟩:ByteArray).toList)
 (lf true)
 (lf false))
 (cn (a0.toList == (⟨#[98,101,108,116]⟩:ByteArray).toList)
 (cn (a0.toList == (⟨#[98,101,108,116]⟩:ByteArray).toList)
 (lf true)
 (lf false))
 (cn (a0.toList == (⟨#[98,111,111,108]⟩:ByteArray).toList)
 (cn (a0.toList == (⟨#[98,111,111,108]⟩:ByteArray).toList)
 (lf true)
 (lf false))
 (cn (a0.toList == (⟨#[99,111,110,115,101,114,118,101]⟩:ByteArray).toList)
 (cn (a0.toList == (⟨#[99,111,110,115,101,114,118,101]⟩:ByteArray).toList)
 (lf true)
 (lf false))
 (cn (a0.toList == (⟨#[99,111,110,115,116]⟩:ByteArray).toList)
 (cn (a0.toList == (⟨#[99,111,110,115,116]⟩:ByteArray).toList)
 (lf true)
 (lf false))
 (cn (a0.toList == (⟨#[99,111,117,110,116]⟩:ByteArray).toList)
 (cn (a0.toList == (⟨#[99,111,117,110,116]⟩:ByteArray).toList)
 (lf true)
 (lf false))
 (cn (a0.toList == (⟨#[99,121,99,108,101]⟩:ByteArray).toList)
 (cn (a0.toList == (⟨#[99,121,99,108,101]⟩:ByteArray).toList)
 (lf true)
 (lf false))
 (cn (a0.toList == (⟨#[100,111,119,110]⟩:ByteArray).toList)
 (cn (a0.toList == (⟨#[100,111,119,110]⟩:ByteArray).toList)
 (lf true)
 (lf false))
 (cn (a0.toList == (⟨#[100,114,97,119]⟩:ByteArray).toList)
 (cn (a0.toList == (⟨#[100,114,97,119]⟩:ByteArray).toList)
 (lf true)
 (lf false))
 (cn (a0.toList == (⟨#[100,117,114]⟩:ByteArray).toList)
 (cn (a0.toList == (⟨#[100,117,114]⟩:ByteArray).toList)
 (lf true)
 (lf false))
 (cn (a0.toList == (⟨#[101,108,115,101]⟩:ByteArray).toList)
 (cn (a0.toList == (⟨#[101,108,115,101]⟩:ByteArray).toList)
 (lf true)
 (lf false))
 (cn (a0.toList == (⟨#[101,110,100]⟩:ByteArray).toList)
 (cn (a0.toList == (⟨#[101,110,100]⟩:ByteArray).toList)
 (lf true)
 (lf false))
 (cn (a0.toList == (⟨#[101,118,101,114,121]⟩:ByteArray).toList)
 (cn (a0.toList == (⟨#[101,118,101,114,121]⟩:ByteArray).toList)
 (lf true)
 (lf false))
 (cn (a0.toList == (⟨#[102,97,108,115,101]⟩:ByteArray).toList)
 (cn (a0.toList == (⟨#[102,97,108,115,101]⟩:ByteArray).toList)
 (lf true)
 (lf false))
 (cn (a0.toList == (⟨#[102,97,117,108,116]⟩:ByteArray).toList)
 (cn (a0.toList == (⟨#[102,97,117,108,116]⟩:ByteArray).toList)
 (lf true)
 (lf false))
 (cn (a0.toList == (⟨#[102,105,102,111]⟩:ByteArray).toList)
 (cn (a0.toList == (⟨#[102,105,102,111]⟩:ByteArray).toList)
 (lf true)
 (lf false))
 (cn (a0.toList == (⟨#[102,114,101,101]⟩:ByteArray).toList)
 (cn (a0.toList == (⟨#[102,114,101,101]⟩:ByteArray).toList)
 (lf true)
 (lf false))
 (cn (a0.toList == (⟨#[102,114,111,109]⟩:ByteArray).toList)
 (cn (a0.toList == (⟨#[102,114,111,109]⟩:ByteArray).toList)
 (lf true)
 (lf false))
 (cn (a0.toList == (⟨#[103,101,111,109]⟩:ByteArray).toList)
 (cn (a0.toList == (⟨#[103,101,111,109]⟩:ByteArray).toList)
 (lf true)
 (lf false))
 (cn (a0.toList == (⟨#[103,101,116]⟩:ByteArray).toList)
 (cn (a0.toList == (⟨#[103,101,116]⟩:ByteArray).toList)
 (lf true)
 (lf false))
 (cn (a0.toList == (⟨#[104,111,108,100]⟩:ByteArray).toList)
 (cn (a0.toList == (⟨#[104,111,108,100]⟩:ByteArray).toList)
 (lf true)
 (lf false))
 (cn (a0.toList == (⟨#[105,102]⟩:ByteArray).toList)
 (cn (a0.toList == (⟨#[105,102]⟩:ByteArray).toList)
 (lf true)
 (lf false))
 (cn (a0.toList == (⟨#[105,110,116]⟩:ByteArray).toList)
 (cn (a0.toList == (⟨#[105,110,116]⟩:ByteArray).toList)
 (lf true)
 (lf false))
 (cn (a0.toList == (⟨#[105,110,116,111]⟩:ByteArray).toList)
 (cn (a0.toList == (⟨#[105,110,116,111]⟩:ByteArray).toList)
 (lf true)
 (lf false))
 (cn (a0.toList == (⟨#[108,101,97,115,116]⟩:ByteArray).toList)
 (cn (a0.toList == (⟨#[108,101,97,115,116]⟩:ByteArray).toList)
 (lf true)
 (lf false))
 (cn (a0.toList == (⟨#[108,101,118,101,108]⟩:ByteArray).toList)
 (cn (a0.toList == (⟨#[108,101,118,101,108]⟩:ByteArray).toList)
 (lf true)
 (lf false))
 (cn (a0.toList == (⟨#[108,105,102,111]⟩:ByteArray).toList)
 (cn (a0.toList == (⟨#[108,105,102,111]⟩:ByteArray).toList)
 (lf true)
 (lf false))
 (cn (a0.toList == (⟨#[108,105,110,107]⟩:ByteArray).toList)
 (cn (a0.toList == (⟨#[108,105,110,107]⟩:ByteArray).toList)
 (lf true)
 (lf false))
 (cn (a0.toList == (⟨#[108,111,99,97,108]⟩:ByteArray).toList)
 (cn (a0.toList == (⟨#[108,111,99,97,108]⟩:ByteArray).toList)
 (lf true)
 (lf false))
 (cn (a0.toList == (⟨#[109,97,120]⟩:ByteArray).toList)
 (cn (a0.toList == (⟨#[109,97,120]⟩:ByteArray).toList)
 (lf true)
 (lf false))
 (cn (a0.toList == (⟨#[109,105,110]⟩:ByteArray).toList)
 (cn (a0.toList == (⟨#[109,105,110]⟩:ByteArray).toList)
 (lf true)
 (lf false))
 (cn (a0.toList == (⟨#[109,111,100,101,108]⟩:ByteArray).toList)
 (cn (a0.toList == (⟨#[109,111,100,101,108]⟩:ByteArray).toList)
 (lf true)
 (lf false))
 (cn (a0.toList == (⟨#[110,111,116]⟩:ByteArray).toList)
 (cn (a0.toList == (⟨#[110,111,116]⟩:ByteArray).toList)
 (lf true)
 (lf false))
 (cn (a0.toList == (⟨#[110,111,119]⟩:ByteArray).toList)
 (cn (a0.toList == (⟨#[110,111,119]⟩:ByteArray).toList)
 (lf true)
 (lf false))
 (cn (a0.toList == (⟨#[111,98,115,101,114,118,101]⟩:ByteArray).toList)
 (cn (a0.toList == (⟨#[111,98,115,101,114,118,101]⟩:ByteArray).toList)
 (lf true)
 (lf false))
 (cn (a0.toList == (⟨#[111,114]⟩:ByteArray).toList)
 (cn (a0.toList == (⟨#[111,114]⟩:ByteArray).toList)
 (lf true)
 (lf false))
 (cn (a0.toList == (⟨#[112,97,114,97,109]⟩:ByteArray).toList)
 (cn (a0.toList == (⟨#[112,97,114,97,109]⟩:ByteArray).toList)
 (lf true)
 (lf false))
 (cn (a0.toList == (⟨#[112,114,101,101,109,112,116]⟩:ByteArray).toList)
 (cn (a0.toList == (⟨#[112,114,101,101,109,112,116]⟩:ByteArray).toList)
 (lf true)
 (lf false))
 (cn (a0.toList == (⟨#[112,114,105,111]⟩:ByteArray).toList)
 (cn (a0.toList == (⟨#[112,114,105,111]⟩:ByteArray).toList)
 (lf true)
 (lf false))
 (cn (a0.toList == (⟨#[112,117,116]⟩:ByteArray).toList)
 (cn (a0.toList == (⟨#[112,117,116]⟩:ByteArray).toList)
 (lf true)
 (lf false))
 (cn (a0.toList == (⟨#[113,117,101,117,101]⟩:ByteArray).toList)
 (cn (a0.toList == (⟨#[113,117,101,117,101]⟩:ByteArray).toList)
 (lf true)
 (lf false))
 (cn (a0.toList == (⟨#[114,101,108,101,97,115,101]⟩:ByteArray).toList)
 (cn (a0.toList == (⟨#[114,101,108,101,97,115,101]⟩:ByteArray).toList)
 (lf true)
 (lf false))
 (cn (a0.toList == (⟨#[114,101,115,111,117,114,99,101]⟩:ByteArray).toList)
 (cn (a0.toList == (⟨#[114,101,115,111,117,114,99,101]⟩:ByteArray).toList)
 (lf true)
 (lf false))
 (cn (a0.toList == (⟨#[114,105,100,101]⟩:ByteArray).toList)
 (cn (a0.toList == (⟨#[114,105,100,101]⟩:ByteArray).toList)
 (lf true)
 (lf false))
 (cn (a0.toList == (⟨#[114,111,117,116,105,110,101]⟩:ByteArray).toList)
 (cn (a0.toList == (⟨#[114,111,117,116,105,110,101]⟩:ByteArray).toList)
 (lf true)
 (lf false))
 (cn (a0.toList == (⟨#[115,101,105,122,101]⟩:ByteArray).toList)
 (cn (a0.toList == (⟨#[115,101,105,122,101]⟩:ByteArray).toList)
 (lf true)
 (lf false))
 (cn (a0.toList == (⟨#[115,101,110,100]⟩:ByteArray).toList)
 (cn (a0.toList == (⟨#[115,101,110,100]⟩:ByteArray).toList)
 (lf true)
 (lf false))
 (cn (a0.toList == (⟨#[115,101,116]⟩:ByteArray).toList)
 (cn (a0.toList == (⟨#[115,101,116]⟩:ByteArray).toList)
 (lf true)
 (lf false))
 (cn (a0.toList == (⟨#[115,104,105,102,116]⟩:ByteArray).toList)
 (cn (a0.toList == (⟨#[115,104,105,102,116]⟩:ByteArray).toList)
 (lf true)
 (lf false))
 (cn (a0.toList == (⟨#[115,105,103,110,97,108]⟩:ByteArray).toList)
 (cn (a0.toList == (⟨#[115,105,103,110,97,108]⟩:ByteArray).toList)
 (lf true)
 (lf false))
 (cn (a0.toList == (⟨#[115,105,116,101]⟩:ByteArray).toList)
 (cn (a0.toList == (⟨#[115,105,116,101]⟩:ByteArray).toList)
 (lf true)
 (lf false))
 (cn (a0.toList == (⟨#[115,105,122,101]⟩:ByteArray).toList)
 (cn (a0.toList == (⟨#[115,105,122,101]⟩:ByteArray).toList)
 (lf true)
 (lf false))
 (cn (a0.toList == (⟨#[115,112,97,119,110]⟩:ByteArray).toList)
 (cn (a0.toList == (⟨#[115,112,97,119,110]⟩:ByteArray).toList)
 (lf true)
 (lf false))
 (cn (a0.toList == (⟨#[115,116,97,114,116]⟩:ByteArray).toList)
 (cn (a0.toList == (⟨#[115,116,97,114,116]⟩:ByteArray).toList)
 (lf true)
 (lf false))
 (cn (a0.toList == (⟨#[115,116,111,112]⟩:ByteArray).toList)
 (cn (a0.toList == (⟨#[115,116,111,112]⟩:ByteArray).toList)
 (lf true)
 (lf false))
 (cn (a0.toList == (⟨#[115,116,111,114,101]⟩:ByteArray).toList)
 (cn (a0.toList == (⟨#[115,116,111,114,101]⟩:ByteArray).toList)
 (lf true)
 (lf false))
 (cn (a0.toList == (⟨#[115,116,114,101,97,109]⟩:ByteArray).toList)
 (cn (a0.toList == (⟨#[115,116,114,101,97,109]⟩:ByteArray).toList)
 (lf true)
 (lf false))
 (cn (a0.toList == (⟨#[115,117,109]⟩:ByteArray).toList)
 (cn (a0.toList == (⟨#[115,117,109]⟩:ByteArray).toList)
 (lf true)
 (lf false))
 (cn (a0.toList == (⟨#[116,97,98,108,101]⟩:ByteArray).toList)
 (cn (a0.toList == (⟨#[116,97,98,108,101]⟩:ByteArray).toList)
 (lf true)
 (lf false))
 (cn (a0.toList == (⟨#[116,97,108,108,121]⟩:ByteArray).toList)
 (cn (a0.toList == (⟨#[116,97,108,108,121]⟩:ByteArray).toList)
 (lf true)
 (lf false))
 (cn (a0.toList == (⟨#[116,105,99,107,115]⟩:ByteArray).toList)
 (cn (a0.toList == (⟨#[116,105,99,107,115]⟩:ByteArray).toList)
 (lf true)
 (lf false))
 (cn (a0.toList == (⟨#[116,105,109,101]⟩:ByteArray).toList)
 (cn (a0.toList == (⟨#[116,105,109,101]⟩:ByteArray).toList)
 (lf true)
 (lf false))
 (cn (a0.toList == (⟨#[116,114,117,101]⟩:ByteArray).toList)
 (cn (a0.toList == (⟨#[116,114,117,101]⟩:ByteArray).toList)
 (lf true)
 (lf false))
 (cn (a0.toList == (⟨#[117,110,105,102,111,114,109]⟩:ByteArray).toList)
 (cn (a0.toList == (⟨#[117,110,105,102,111,114,109]⟩:ByteArray).toList)
 (lf true)
 (lf false))
 (cn (a0.toList == (⟨#[117,110,116,105,108]⟩:ByteArray).toList)
 (cn (a0.toList == (⟨#[117,110,116,105,108]⟩:ByteArray).toList)
 (lf true)
 (lf false))
 (cn (a0.toList == (⟨#[117,112]⟩:ByteArray).toList)
 (cn (a0.toList == (⟨#[117,112]⟩:ByteArray).toList)
 (lf true)
 (lf false))
 (cn (a0.toList == (⟨#[118,97,114]⟩:ByteArray).toList)
 (cn (a0.toList == (⟨#[118,97,114]⟩:ByteArray).toList)
 (lf true)
 (lf false))
 (cn (a0.toList == (⟨#[119,97,105,116]⟩:ByteArray).toList)
 (cn (a0.toList == (⟨#[119,97,105,116]⟩:ByteArray).toList)
 (lf true)
 (lf false))
 (cn (a0.toList == (⟨#[119,97,105,116,105,110,103]⟩:ByteArray).toList)
 (cn (a0.toList == (⟨#[119,97,105,116,105,110,103]⟩:ByteArray).toList)
 (lf true)
 (lf false))
 (cn (a0.toList == (⟨#[119,104,105,108,101]⟩:ByteArray).toList)
 (lf true)
 (lf false))))))))))))))))))))))))))))))))))))))))))))))))))))))))))))))))))))))))))
def X4(a0:ByteArray):Option Bool:=Acu L a0
def X96:Ew:=E1 B 96 cS (X4 L) fun a0 r h=>hF Tryz.func96 (oS []) L (fun kk=>eE (Acu L a0)) h
def c65:=CC Tryz.f65
def O65:Ba:=oL [X95 L,X96 L]
def Bsy(a0:ByteArray)(v:Co):St:=⟨[(0,S a0),(2,I v.1),(23,I (a0.size:Int)),(24,I v.2)],[],0⟩
def Rn [An A B7](a0:ByteArray)(rec:Int→Int→A)(Aj:Int)(Ai:Int):A:=
 (cn (decide (Ai < (a0.size:Int)))
 (cn ((if 0≤Ai then a0[Int.toNat Ai]? else none).isSome)
 (bd (Vc L (Iv (if 0≤Ai then a0[Int.toNat Ai]? else none))) fun r6=>
 (jp (.cn (!r6)
 (.cn (decide ((Iv (if 0≤Ai then a0[Int.toNat Ai]? else none)) < 48))
 (.lf true)
 (.lf (decide ((Iv (if 0≤Ai then a0[Int.toNat Ai]? else none)) > 57))))
 (.lf false)) (fun b7=>
 (jp (.cn b7
 (.lf ((Iv (if 0≤Ai then a0[Int.toNat Ai]? else none)) != 95))
 (.lf false)) (fun b8=>
 (cn b8
 (lf (0,3,Ai))
 (rec Aj (B6 (Ai+1)))))))))
 fl)
 (lf (1,Aj,Ai)))
def Ks(L:Nat)(a0:ByteArray):Nat→Int→Int→Option B7
 |0,_,_=>none
 |n+1,Aj,Ai=>Rn L a0 (Ks L a0 n) Aj Ai
theorem B60(a0:ByteArray):LP (EV (O65 L) L 9 c65.w.l.u.l.l) [0,2,23,24] [] (Bsy a0) [.ret,.exit 0] (fun n v=>Ks L a0 n v.1 v.2) K:=lE (fun _=>rfl) fun n v ih=>eE (Rn L a0 (fun Aj Ai=>re (ih (Aj,Ai))) v.1 v.2)
def R8 [An A Int](L:Nat)(o9:Nat×Co):A:=
 (sl o9.1 [(lf o9.2.1),
 (lf 0)])
def Bqm:Ax:=(Av 0 (Bb (EV (O65 L) L 9 c65.w.r) (Cm Tryz.prog (RS Tryz.f65) kk)))
theorem Cg3(a0:ByteArray)(o9:Nat×Co):kX [.ret,.exit 0] (Bsy a0) (Bqm L kk) o9=ob (R8 L o9) (kQ I kk):=eE (R8 L o9)
def Xd [An A Int](a0:ByteArray)(nx1:A):A:=
 (jp (.cn (a0.toList == (⟨#[]⟩:ByteArray).toList)
 (.lf true)
 (.lf (decide ((a0.size:Int) > 24)))) (fun b1=>
 (jb (.cn b1
 (.lf true)
 (.cn ((if 0≤0 then a0[Int.toNat 0]? else none).isSome)
 (.bd (Vc L (Iv (if 0≤0 then a0[Int.toNat 0]? else none))) fun r3=>
 (.lf (!r3)))
 .fl)) (fun b2=>
 (jb (.cn b2
 (.lf true)
 (.bd (X4 L a0) fun r5=>
 (.lf r5))) (fun b4=>
 (cn b4
 (lf 3)
 nx1)))))))
def Aqa [An A Int](a0:ByteArray):A:=Xd L a0 (bd (Ks L a0 L 0 0) fun o9=>R8 L o9)
def C9(a0:ByteArray):Option Int:=Aqa L a0
def X65:Ew:=E1 I 65 cS (C9 L) fun a0 r h=>hF Tryz.func65 (C:=O65 L) (oS _) L (fun kk=>eE (Xd L a0 (ho (B60 L (Bqm L kk) a0 L (0,0)) fun o9=>Cg3 L kk a0 o9))) h
def Aho [An A Bool](L:Nat)(a0:Int):A:=
 (jp (.cn (decide (a0≥1))
 (.lf (decide (a0≤3)))
 (.lf false)) (fun b1=>
 (lf b1)))
def K6(a0:Int):Option Bool:=Aho L a0
def Bul:Ew:=E1 B 172 (cI .i64) (K6 L) fun a0 r h=>hF Tryz.func172 (oS []) L (fun kk=>eE (Aho L a0)) h
def A15 [An A Bool](L:Nat)(a0:Int):A:=
 (jp (.cn (decide (a0≥(-1000000000000)))
 (.lf (decide (a0≤1000000000000)))
 (.lf false)) (fun b1=>
 (lf b1)))
def Ab5(a0:Int):Option Bool:=A15 L a0
def X46:Ew:=E1 B 46 (cI .i64) (Ab5 L) fun a0 r h=>hF Tryz.func46 (oS []) L (fun kk=>eE (A15 L a0)) h
def Ael [An A Bool](L:Nat)(a0:Int)(a1:Int)(a2:Int):A:=
 (jp (.cn (decide (a0≥a1))
 (.lf (decide (a0≤a2)))
 (.lf false)) (fun b1=>
 (lf b1)))
def Be(a0:Int)(a1:Int)(a2:Int):Option Bool:=Ael L a0 a1 a2
def Bc2:Ew:=E3 B 106 (cI .i64) (cI .i64) (cI .i64) (Be L) fun a0 a1 a2 r h=>hF Tryz.func106 (oS []) L (fun kk=>eE (Ael L a0 a1 a2)) h
def Akl [An A Bool](a0:Int)(a1:Int):A:=
 (cn (a0 == 1)
 (bd (Ab5 L a1) fun r1=>
 (lf r1))
 (cn (a0 == 2)
 (jp (.cn (a1 == 0)
 (.lf true)
 (.lf (a1 == 1))) (fun b2=>
 (lf b2)))
 (cn (a0 == 3)
 (bd (Be L a1 0 1000000000) fun r3=>
 (lf r3))
 (lf false))))
def Si(a0:Int)(a1:Int):Option Bool:=Akl L a0 a1
def Bum:Ew:=E2 B 173 (cI .i64) (cI .i64) (Si L) fun a0 a1 r h=>hF Tryz.func173 (oS [X46 L,Bc2 L]) L (fun kk=>eE (Akl L a0 a1)) h
def Cc8:=CC Tryz.f107
def B2y:Ba:=oL [Bc2 L]
def Bjl(a0:Ah)(v:Co):St:=⟨[(0,.any),(1,.loc 1 0),(2,I v.1),(12,.any),(17,.any),(23,lv (.t160 a0.Shift)),(24,I (a0.Shift.length:Int)),(25,I v.2)],[(1,(Br a0))],0⟩
def Qz [An A B7](a0:Ah)(rec:Int→Int→A)(Al:Int)(Ai:Int):A:=
 (lw Ai a0.Shift
 (bd (Be L ((a0.Shift.getD (Int.toNat Ai) default).At) 0 (B6 (a0.Cycle - 1))) fun r2=>
 (cn (!r2)
 (cn (!r2)
 (lf (0,2,Ai))
 (cn (decide (Ai > 0))
 (gi (B6 (Ai - 1)) a0.Shift
 (cn (decide ((a0.Shift.getD (Int.toNat Ai) default).At≤(a0.Shift.getD (Int.toNat (B6 (Ai - 1))) default).At))
 (lf (0,12,Ai))
 (rec Al (B6 (Ai+1)))))
 (rec Al (B6 (Ai+1)))))
 (bd (Be L ((a0.Shift.getD (Int.toNat Ai) default).Units) 0 1000) fun r3=>
 (cn (!r3)
 (lf (0,2,Ai))
 (cn (decide (Ai > 0))
 (gi (B6 (Ai - 1)) a0.Shift
 (cn (decide ((a0.Shift.getD (Int.toNat Ai) default).At≤(a0.Shift.getD (Int.toNat (B6 (Ai - 1))) default).At))
 (lf (0,12,Ai))
 (rec Al (B6 (Ai+1)))))
 (rec Al (B6 (Ai+1))))))))
 (lf (1,Al,Ai)))
def Hc(L:Nat)(a0:Ah):Nat→Int→Int→Option B7
 |0,_,_=>none
 |n+1,Al,Ai=>Qz L a0 (Hc L a0 n) Al Ai
theorem Bx1(a0:Ah):LP (EV (B2y L) L 9 Cc8.w.u.l.u.l.l) [0,1,2,12,17,23,24,25] [1] (Bjl a0) [.ret,.exit 1] (fun n v=>Hc L a0 n v.1 v.2) K:=lE (fun _=>rfl) fun n v ih=>eE (Qz L a0 (fun Al Ai=>re (ih (Al,Ai))) v.1 v.2)
def Mr [An A Int](L:Nat)(o4:Nat×Co):A:=
 (sl o4.1 [(lf o4.2.1),
 (lf 0)])
def Bf2:Ax:=(Av 1 (Bb (EV (B2y L) L 9 Cc8.w.u.r) (Cm Tryz.prog (RS Tryz.f107) kk)))
theorem B7u(a0:Ah)(o4:Nat×Co):kX [.ret,.exit 1] (Bjl a0) (Bf2 L kk) o4=ob (Mr L o4) (kQ I kk):=eE (Mr L o4)
def Rb [An A Int](a0:Ah)(nx1:A):A:=
 (cn ((a0.Shift.length:Int) == 0)
 (cn (a0.Cycle != 0)
 (lf 1)
 (lf 0))
 (cn (decide ((a0.Shift.length:Int) > 20))
 (lf 6)
 (bd (Be L a0.Cycle 1 1000000000) fun r1=>
 (cn (!r1)
 (lf 2)
 nx1))))
def Ait [An A Int](a0:Ah):A:=Rb L a0 (bd (Hc L a0 L 0 0) fun o4=>Mr L o4)
def Vs(a0:Ah):Option Int:=Ait L a0
def Cbg:Ew:=E1 I 107 Mn (Vs L) fun a0 r h=>hF Tryz.func107 (C:=B2y L) (oS _) L (fun kk=>eE (Rb L a0 (ho (Bx1 L (Bf2 L kk) a0 L (0,0)) fun o4=>B7u L kk a0 o4))) h
def Ceg:=CC Tryz.f216
def B3m(L:Nat):Ba:=oL []
def Bko(a0:List Int)(a1:List Int)(v:U4):St:=⟨[(0,lv (.t3 a0)),(1,lv (.t3 a1)),(4,B v.1),(12,I (a0.length:Int)),(13,I v.2)],[],0⟩
def Oi [An A Ln](L:Nat)(a0:List Int)(a1:List Int)(rec:Bool→Int→A)(Ak:Bool)(Bp:Int):A:=
 (lw Bp a0
 (gi Bp a1
 (cn ((a0.getD (Int.toNat Bp) default) != (a1.getD (Int.toNat Bp) default))
 (lf (0,false,Bp))
 (rec Ak (B6 (Bp+1)))))
 (lf (1,Ak,Bp)))
def F9(L:Nat)(a0:List Int)(a1:List Int):Nat→Bool→Int→Option Ln
 |0,_,_=>none
 |n+1,Ak,Bp=>Oi L a0 a1 (F9 L a0 a1 n) Ak Bp
theorem By6(a0:List Int)(a1:List Int):LP (EV (B3m L) L 9 Ceg.w.l.u.l.l) [0,1,4,12,13] [] (Bko a0 a1) [.ret,.exit 0] (fun n v=>F9 L a0 a1 n v.1 v.2) K:=lE (fun _=>rfl) fun n v ih=>eE (Oi L a0 a1 (fun Ak Bp=>re (ih (Ak,Bp))) v.1 v.2)
def Ke [An A Bool](L:Nat)(o1:Nat×U4):A:=
 (sl o1.1 [(lf o1.2.1),
 (lf true)])
def Bhf:Ax:=(Av 0 (Bb (EV (B3m L) L 9 Ceg.w.r) (Cm Tryz.prog (RS Tryz.f216) kk)))
theorem B87(a0:List Int)(a1:List Int)(o1:Nat×U4):kX [.ret,.exit 0] (Bko a0 a1) (Bhf L kk) o1=ob (Ke L o1) (kQ B kk):=eE (Ke L o1)
def Om [An A Bool](L:Nat)(a0:List Int)(a1:List Int)(nx1:A):A:=
 (cn ((a0.length:Int) != (a1.length:Int))
 (lf false)
 nx1)
def Aen [An A Bool](a0:List Int)(a1:List Int):A:=Om L a0 a1 (bd (F9 L a0 a1 L false 0) fun o1=>Ke L o1)
def Nv(a0:List Int)(a1:List Int):Option Bool:=Aen L a0 a1
def Ccd:Ew:=E2 B 216 cl3 cl3 (Nv L) fun a0 a1 r h=>hF Tryz.func216 (C:=B3m L) (oS _) L (fun kk=>eE (Om L a0 a1 (ho (By6 L (Bhf L kk) a0 a1 L (false,0)) fun o1=>B87 L kk a0 a1 o1))) h
def Amu [An A Bool](a0:Bm)(a1:Bm):A:=
 (jp (.cn (a0.Op == a1.Op)
 (.lf (a0.A == a1.A))
 (.lf false)) (fun b1=>
 (jp (.cn b1
 (.lf (a0.B == a1.B))
 (.lf false)) (fun b2=>
 (jp (.cn b2
 (.lf (a0.N == a1.N))
 (.lf false)) (fun b3=>
 (jb (.cn b3
 (.bd (Nv L a0.Values a1.Values) fun r5=>
 (.lf r5))
 (.lf false)) (fun b4=>
 (jb (.cn b4
 (.bd (Nv L a0.Weights a1.Weights) fun r7=>
 (.lf r7))
 (.lf false)) (fun b6=>
 (lf b6)))))))))))
def Pr(a0:Bm)(a1:Bm):Option Bool:=Amu L a0 a1
def B33:Ew:=E2 B 174 Pz Pz (Pr L) fun a0 a1 r h=>hF Tryz.func174 (oS [Ccd L]) L (fun kk=>eE (Amu L a0 a1)) h
def Cd4:=CC Tryz.f169
def B3f(L:Nat):Ba:=oL []
def Bj9(a0:List ByteArray)(a1:ByteArray)(v:Co):St:=⟨[(0,lv (.t9 a0)),(1,S a1),(4,I v.1),(7,I (a0.length:Int)),(8,I v.2)],[],0⟩
def K8 [An A B7](L:Nat)(a0:List ByteArray)(a1:ByteArray)(rec:Int→Int→A)(Ak:Int)(Bp:Int):A:=
 (lw Bp a0
 (cn (a1.toList == (a0.getD (Int.toNat Bp) default).toList)
 (lf (0,Bp,Bp))
 (rec Ak (B6 (Bp+1))))
 (lf (1,Ak,Bp)))
def D6(L:Nat)(a0:List ByteArray)(a1:ByteArray):Nat→Int→Int→Option B7
 |0,_,_=>none
 |n+1,Ak,Bp=>K8 L a0 a1 (D6 L a0 a1 n) Ak Bp
theorem Byr(a0:List ByteArray)(a1:ByteArray):LP (EV (B3f L) L 9 Cd4.u.l.u.l.l) [0,1,4,7,8] [] (Bj9 a0 a1) [.ret,.exit 0] (fun n v=>D6 L a0 a1 n v.1 v.2) K:=lE (fun _=>rfl) fun n v ih=>eE (K8 L a0 a1 (fun Ak Bp=>re (ih (Ak,Bp))) v.1 v.2)
def Lb [An A Int](L:Nat)(o1:Nat×Co):A:=
 (sl o1.1 [(lf o1.2.1),
 (lf (-1))])
def Bgs:Ax:=(Av 0 (Bb (EV (B3f L) L 9 Cd4.u.r) (Cm Tryz.prog (RS Tryz.f169) kk)))
theorem B8k(a0:List ByteArray)(a1:ByteArray)(o1:Nat×Co):kX [.ret,.exit 0] (Bj9 a0 a1) (Bgs L kk) o1=ob (Lb L o1) (kQ I kk):=eE (Lb L o1)
def s9 [An A Int](a0:List ByteArray)(a1:ByteArray):A:=(bd (D6 L a0 a1 L 0 0) fun o1=>Lb L o1)
def Dq(a0:List ByteArray)(a1:ByteArray):Option Int:=s9 L a0 a1
def B32:Ew:=E2 I 169 cl9 cS (Dq L) fun a0 a1 r h=>hF Tryz.func169 (C:=B3f L) (oS _) L (fun kk=>eE ((ho (Byr L (Bgs L kk) a0 a1 L (0,0)) fun o1=>B8k L kk a0 a1 o1))) h
def Qh [An A Bool](a0:List ByteArray)(a1:ByteArray):A:=
 (bd (Dq L a0 a1) fun r1=>
 (lf (decide (r1≥0))))
def Bs(a0:List ByteArray)(a1:ByteArray):Option Bool:=Qh L a0 a1
def B34:Ew:=E2 B 175 cl9 cS (Bs L) fun a0 a1 r h=>hF Tryz.func175 (oS [B32 L]) L (fun kk=>eE (Qh L a0 a1)) h
def Ahm [An A Bool](L:Nat)(a0:Bm):A:=
 (cn (a0.Op == 1)
 (jp (.cn ((B6 ((a0.Values.length:Int)+(a0.Weights.length:Int))) == 0)
 (.lf (a0.B == 0))
 (.lf false)) (fun b1=>
 (jp (.cn b1
 (.lf (a0.N == 0))
 (.lf false)) (fun b2=>
 (lf b2)))))
 (cn (a0.Op == 2)
 (cn (a0.Op == 2)
 (jp (.cn ((B6 ((a0.Values.length:Int)+(a0.Weights.length:Int))) == 0)
 (.lf (a0.N == 0))
 (.lf false)) (fun b3=>
 (lf b3)))
 (cn (a0.Op == 4)
 (lf ((B6 ((a0.Values.length:Int)+(a0.Weights.length:Int))) == 0))
 (cn (a0.Op == 3)
 (jp (.cn (a0.A == 0)
 (.lf (a0.B == 0))
 (.lf false)) (fun b4=>
 (jp (.cn b4
 (.lf (a0.N == 0))
 (.lf false)) (fun b5=>
 (lf b5)))))
 (lf false))))
 (cn (a0.Op == 5)
 (jp (.cn ((B6 ((a0.Values.length:Int)+(a0.Weights.length:Int))) == 0)
 (.lf (a0.N == 0))
 (.lf false)) (fun b6=>
 (lf b6)))
 (cn (a0.Op == 4)
 (lf ((B6 ((a0.Values.length:Int)+(a0.Weights.length:Int))) == 0))
 (cn (a0.Op == 3)
 (jp (.cn (a0.A == 0)
 (.lf (a0.B == 0))
 (.lf false)) (fun b7=>
 (jp (.cn b7
 (.lf (a0.N == 0))
 (.lf false)) (fun b8=>
 (lf b8)))))
 (lf false))))))
def Abb(a0:Bm):Option Bool:=Ahm L a0
def Cce:Ew:=E1 B 217 Pz (Abb L) fun a0 r h=>hF Tryz.func217 (oS []) L (fun kk=>eE (Ahm L a0)) h
def Cer:=CC Tryz.f241
def Cev:=CC Tryz.f252
def Ceh:=CC Tryz.f218
def A4p(L:Nat):Ba:=oL []
def Bkp(p1_0:List Int)(p1_1:Int)(p1_2:Int)(v:Co):St:=⟨[(0,lv (.t3 p1_0)),(1,.clo 242 0 [.loc 3 0,.loc 4 0]),(4,I v.1),(7,I (p1_0.length:Int)),(8,I v.2)],[(3,[I p1_1]),(4,[I p1_2])],5⟩
def V3 [An A B7](L:Nat)(p1_0:List Int)(p1_1:Int)(p1_2:Int)(rec:Int→Int→A)(Aj:Int)(Ai:Int):A:=
 (lw Ai p1_0
 (jp (.cn (decide ((p1_0.getD (Int.toNat Ai) default) < p1_1))
 (.lf true)
 (.lf (decide ((p1_0.getD (Int.toNat Ai) default) > p1_2)))) (fun b1=>
 (cn b1
 (lf (0,Ai,Ai))
 (rec Aj (B6 (Ai+1))))))
 (lf (1,Aj,Ai)))
def Km(L:Nat)(p1_0:List Int)(p1_1:Int)(p1_2:Int):Nat→Int→Int→Option B7
 |0,_,_=>none
 |n+1,Aj,Ai=>V3 L p1_0 p1_1 p1_2 (Km L p1_0 p1_1 p1_2 n) Aj Ai
theorem By7(p1_0:List Int)(p1_1:Int)(p1_2:Int):LP (EV (A4p L) L 7 Cev.u.l.u.l.l) [0,1,4,7,8] [3,4] (Bkp p1_0 p1_1 p1_2) [.ret,.exit 0] (fun n v=>Km L p1_0 p1_1 p1_2 n v.1 v.2) K:=lE (fun _=>rfl) fun n v ih=>eE (V3 L p1_0 p1_1 p1_2 (fun Aj Ai=>re (ih (Aj,Ai))) v.1 v.2)
def A6x(p1_0:List Int)(p1_1:Int)(p1_2:Int)(k:Bk):Int→Prop:=fun o=>k (I o) [(3,[I p1_1]),(4,[I p1_2])]
def Wi [An A Int](L:Nat)(o2:Nat×Co):A:=
 (sl o2.1 [(lf o2.2.1),
 (lf (-1))])
def Bhg:Ax:=(Av 0 (Bb (EV (A4p L) L 7 Cev.u.r) (Dz Tryz.prog (RS Tryz.f252) k)))
theorem B88(p1_0:List Int)(p1_1:Int)(p1_2:Int)(o2:Nat×Co):kX [.ret,.exit 0] (Bkp p1_0 p1_1 p1_2) (Bhg L k) o2=ob (Wi L o2) (A6x p1_0 p1_1 p1_2 k):=eE (Wi L o2)
def Ai1 [An A Int](p1_0:List Int)(p1_1:Int)(p1_2:Int):A:=(bd (Km L p1_0 p1_1 p1_2 L 0 0) fun o2=>Wi L o2)
def w4(p1_0:List Int)(p1_1:Int)(p1_2:Int):Option Int:=Ai1 L p1_0 p1_1 p1_2
theorem Bxb(p1_0:List Int)(p1_1:Int)(p1_2:Int):YO (A4p L) L 8 252 [lv (.t3 p1_0),.clo 242 0 [.loc 3 0,.loc 4 0]] [(3,[I p1_1]),(4,[I p1_2])] k=ob (w4 L p1_0 p1_1 p1_2) (A6x p1_0 p1_1 p1_2 k):=(C3 _ _ _ jn4 _ _ _ _ _ _ _).trans (eE ((ho (By7 L (Bhg L k) p1_0 p1_1 p1_2 L (0,0)) fun o2=>B88 L k p1_0 p1_1 p1_2 o2)))
def Rt [An A Bool](L:Nat)(o3:Int):A:=
 (lf (!(decide (o3≥0))))
def Bhh(a2:List Int)(a0:Int)(a1:Int):Bk:=(Bz Tryz.prog (A4p L) (EI (A4p L) L 8) 2 (List.drop 3 Cer.u.l.ops) ⟨[(6,.clo 242 0 [.loc 3 0,.loc 4 0]),(5,lv (.t3 a2)),(0,lv (.t3 a2)),(1,.clo 242 0 [.loc 3 0,.loc 4 0]),(4,B false)],[(3,[I a0]),(4,[I a1])],5⟩ (some 7) (fun st9=>(Bb (EV (A4p L) L 8 Cer.u.r) (Dz Tryz.prog (RS Tryz.f241) (Bz Tryz.prog (A4p L) (EI (A4p L) L 9) 2 (List.drop 3 Ceh.u.l.ops) ⟨[(8,.clo 242 0 [.loc 3 0,.loc 4 0]),(7,lv (.t3 a2)),(2,lv (.t3 a2)),(3,.loc 3 0),(4,.loc 4 0),(6,B false)],[(3,[I a0]),(4,[I a1])],0⟩ (some 9) (fun st9=>(Bb (EV (A4p L) L 9 Ceh.u.r) (Cm Tryz.prog (RS Tryz.f218) kk)) .normal st9)))) .normal st9))
theorem B89(a2:List Int)(a0:Int)(a1:Int)(o3:Int):A6x a2 a0 a1 (Bhh L kk a2 a0 a1) o3=ob (Rt L o3) (kQ B kk):=eE (Rt L o3)
def Ap5 [An A Bool](a0:Int)(a1:Int)(a2:List Int):A:=(bd (w4 L a2 a0 a1) fun o3=>Rt L o3)
def Gq(a0:Int)(a1:Int)(a2:List Int):Option Bool:=Ap5 L a0 a1 a2
def Ccf:Ew:=E3 B 218 (cI .i64) (cI .i64) cl3 (Gq L) fun a0 a1 a2 r h=>hF Tryz.func218 (C:=A4p L) (oS _) L (fun kk=>eE ((ho (Bxb L (Bhh L kk a2 a0 a1) a2 a0 a1) fun o3=>B89 L kk a2 a0 a1 o3))) h
def Aki [An A Int](a0:Bm):A:=
 (bd (Abb L a0) fun r1=>
 (cn (!r1)
 (lf 1)
 (cn (a0.Op == 1)
 (bd (Gq L 0 1000000000 [a0.A]) fun r2=>
 (cn (!r2)
 (lf 2)
 (lf 0)))
 (cn (a0.Op == 2)
 (bd (Gq L 0 1000000000 [a0.A,a0.B]) fun r3=>
 (jp (.cn r3
 (.lf (decide (a0.A≤a0.B)))
 (.lf false)) (fun b4=>
 (cn (!b4)
 (lf 2)
 (lf 0)))))
 (cn (a0.Op == 4)
 (bd (Gq L 1 20 [a0.N]) fun r5=>
 (cn r5
 (jb (.bd (Gq L 0 1000000 [a0.A,a0.B]) fun r7=>
 (.lf r7)) (fun b6=>
 (jp (.cn b6
 (.lf (decide (a0.A≤a0.B)))
 (.lf false)) (fun b8=>
 (cn (!b8)
 (lf 2)
 (lf 0))))))
 (nq (nq (lf 2)))))
 (cn (a0.Op == 5)
 (bd (Gq L 1 1000 [a0.A,a0.B]) fun r9=>
 (cn (!r9)
 (lf 2)
 (lf 0)))
 (cn (a0.Op == 3)
 (cn ((a0.Values.length:Int) != (a0.Weights.length:Int))
 (lf 8)
 (cn ((a0.Values.length:Int) == 0)
 (lf 7)
 (cn (decide ((a0.Values.length:Int) > 20))
 (lf 6)
 (bd (Gq L 0 1000000000 a0.Values) fun r10=>
 (jb (.cn r10
 (.bd (Gq L 1 1000 a0.Weights) fun r12=>
 (.lf r12))
 (.lf false)) (fun b11=>
 (cn (!b11)
 (lf 2)
 (lf 0))))))))
 (lf 2))))))))
def Pq(a0:Bm):Option Int:=Aki L a0
def B35:Ew:=E1 I 176 Pz (Pq L) fun a0 r h=>hF Tryz.func176 (oS [Cce L,Ccf L]) L (fun kk=>eE (Aki L a0)) h
def v5 [An A Int](a0:Aa)(a1:Jq):A:=
 (cn (a1.Stream.toList == (⟨#[]⟩:ByteArray).toList)
 (bd (Pr L a1.Up (⟨0,0,0,0,[],[]⟩:Bm)) fun r1=>
 (cn (!r1)
 (nq (lf 1))
 (bd (Pr L a1.Down (⟨0,0,0,0,[],[]⟩:Bm)) fun r2=>
 (nq (cn (!r2)
 (lf 1)
 (cn (a1.Stream.toList == (⟨#[]⟩:ByteArray).toList)
 (lf 0)
 (bd (Bs L a0.Streams a1.Stream) fun r3=>
 (cn (!r3)
 (lf 5)
 (bd (Pq L a1.Up) fun r4=>
 (cn (r4 != 0)
 (lf r4)
 (bd (Pq L a1.Down) fun r5=>
 (lf r5))))))))))))
 (nq (cn (a1.Stream.toList == (⟨#[]⟩:ByteArray).toList)
 (lf 0)
 (bd (Bs L a0.Streams a1.Stream) fun r6=>
 (cn (!r6)
 (lf 5)
 (bd (Pq L a1.Up) fun r7=>
 (cn (r7 != 0)
 (lf r7)
 (bd (Pq L a1.Down) fun r8=>
 (lf r8)))))))))
def Vr(a0:Aa)(a1:Jq):Option Int:=v5 L a0 a1
def Cbh:Ew:=E2 I 108 B8 A7l (Vr L) fun a0 a1 r h=>hF Tryz.func108 (oS [B33 L,B34 L,B35 L]) L (fun kk=>eE (v5 L a0 a1)) h
def c58:=CC Tryz.f58
def O58(L:Nat):Ba:=oL []
def Cfh:(List Ao)→Prop:=fun x=>kk ((fun(x:List Ao)=>lv (.t127 x)) x)
def Bsw(a0:List (List Ao))(v:Co):St:=⟨[(0,lv (.t55 a0)),(2,.lst true (.t127 [])),(3,I v.1),(6,.any),(8,.any),(9,lv (.t55 a0)),(10,I (a0.length:Int)),(11,I v.2),(27,.any)],[],0⟩
def Hx [An A B7](L:Nat)(a0:List (List Ao))(rec:Int→Int→A)(Ak:Int)(Zq:Int):A:=
 (lw Zq a0
 (cn (decide ((B6 (Ak+((a0.getD (Int.toNat Zq) default).length:Int))) < 0))
 fl
 (rec (B6 (Ak+((a0.getD (Int.toNat Zq) default).length:Int))) (B6 (Zq+1))))
 (lf (0,Ak,Zq)))
def Da(L:Nat)(a0:List (List Ao)):Nat→Int→Int→Option B7
 |0,_,_=>none
 |n+1,Ak,Zq=>Hx L a0 (Da L a0 n) Ak Zq
theorem B6y(a0:List (List Ao)):LP (EV (O58 L) L 9 c58.w.l.u.l.l) [0,2,3,6,8,9,10,11,27] [] (Bsw a0) [.exit 0] (fun n v=>Da L a0 n v.1 v.2) K:=lE (fun _=>rfl) fun n v ih=>eE (Hx L a0 (fun Ak Zq=>re (ih (Ak,Zq))) v.1 v.2)
def Bsx(a0:List (List Ao))(v:List Ao×Int):St:=⟨[(0,.any),(2,.lst true (.t127 [])),(3,.any),(5,.any),(6,.lst true (.t127 v.1)),(11,.any),(25,lv (.t55 a0)),(26,I (a0.length:Int)),(27,I v.2)],[],0⟩
def Hy [An A (Nat×List Ao×Int)](L:Nat)(a0:List (List Ao))(rec:List Ao→Int→A)(Bv:List Ao)(Ld:Int):A:=
 (lw Ld a0
 (gq ((Bv.length+(a0.getD (Int.toNat Ld) default).length)*24≤140737488355328)
 (gq (Bv.length+(a0.getD (Int.toNat Ld) default).length≤maxLen)
 (rec (Bv++(a0.getD (Int.toNat Ld) default)) (B6 (Ld+1)))))
 (lf (0,Bv,Ld)))
def Db(L:Nat)(a0:List (List Ao)):Nat→List Ao→Int→Option (Nat×List Ao×Int)
 |0,_,_=>none
 |n+1,Bv,Ld=>Hy L a0 (Db L a0 n) Bv Ld
theorem B6z(a0:List (List Ao)):LP (EV (O58 L) L 9 c58.x.l.u.l.l) [0,2,3,5,6,11,25,26,27] [] (Bsx a0) [.exit 2] (fun n v=>Db L a0 n v.1 v.2) K:=lE (fun _=>rfl) fun n v ih=>eE (Hy L a0 (fun Bv Ld=>re (ih (Bv,Ld))) v.1 v.2)
def F3 [An A (List Ao)](L:Nat)(o2:Nat×List Ao×Int):A:=
 (sl o2.1 [(lf o2.2.1)])
def Bql:Ax:=(Av 2 (Bb (EV (O58 L) L 9 c58.x.r) (Cm Tryz.prog (RS Tryz.f58) kk)))
theorem Cg2(a0:List (List Ao))(o2:Nat×List Ao×Int):kX [.exit 2] (Bsx a0) (Bql L kk) o2=ob (F3 L o2) (Cfh kk):=eE (F3 L o2)
def H5 [An A (List Ao)](L:Nat)(a0:List (List Ao))(o1:Nat×Co)(nx2:A):A:=
 (sl o1.1 [(gq (0≤o1.2.1)
 (gq (o1.2.1*((24:Nat):Int)≤140737488355328)
 (gq (o1.2.1≤(4611686018427387904:Int))
 nx2)))])
def H4 [An A (List Ao)](a0:List (List Ao))(o1:Nat×Co):A:=H5 L a0 o1 (bd (Db L a0 L [] 0) fun o2=>F3 L o2)
def Bqk:Ax:=(Av 0 (Bb (EV (O58 L) L 9 c58.w.r) (Cm Tryz.prog (RS Tryz.f58) kk)))
theorem Cg1(a0:List (List Ao))(o1:Nat×Co):kX [.exit 0] (Bsw a0) (Bqk L kk) o1=ob (H4 L a0 o1) (Cfh kk):=eE (H5 L a0 o1 (ho (B6z L (Bql L kk) a0 L ([],0)) fun o2=>Cg2 L kk a0 o2))
def Xh [An A (List Ao)](a0:List (List Ao)):A:=(bd (Da L a0 L 0 0) fun o1=>H4 L a0 o1)
def J6(a0:List (List Ao)):Option (List Ao):=Xh L a0
def X58:Ew:=E1 (fun(x:List Ao)=>lv (.t127 x)) 58 Cke (J6 L) fun a0 r h=>hF Tryz.func58 (C:=O58 L) (oS _) L (fun kk=>eE ((ho (B6y L (Bqk L kk) a0 L (0,0)) fun o1=>Cg1 L kk a0 o1))) h
def Bfb(F:(List Ad)→Option Int):Prop:=∀y0 r,F y0=some r→Ho Tryz.prog 133 [Tw.en y0] I r
def Cdm:=CC Tryz.f133
def B20(Ef:(List Ad)→Option Int)(L:Nat):Ba:=(orc 133 (A1 I Tw Ef) (oL []))
theorem Clp(Ef:(List Ad)→Option Int)(Bo6:Bfb Ef)(L:Nat):Dm Tryz.prog (B20 Ef L):=(Dt (a1 _ Bo6) (oS []))
def Bjp(a0:List Ad)(v:Co):St:=⟨[(0,.any),(2,I 0),(3,I v.1),(8,lv (.t96 a0)),(9,I (a0.length:Int)),(10,I v.2)],[],0⟩
def Yn [An A B7](Ef:(List Ad)→Option Int)(L:Nat)(a0:List Ad)(rec:Int→Int→A)(Aj:Int)(Bp:Int):A:=
 (lw Bp a0
 (bd (Ef ((a0.getD (Int.toNat Bp) default).Body)) fun r1=>
 (bd (Ef ((a0.getD (Int.toNat Bp) default).Else)) fun r2=>
 (rec (B6 (Aj+(B6 (r1+r2)))) (B6 (Bp+1)))))
 (lf (0,Aj,Bp)))
def L8(Ef:(List Ad)→Option Int)(L:Nat)(a0:List Ad):Nat→Int→Int→Option B7
 |0,_,_=>none
 |n+1,Aj,Bp=>Yn Ef L a0 (L8 Ef L a0 n) Aj Bp
theorem Bx7(Ef:(List Ad)→Option Int)(L:Nat)(K:Ax)(a0:List Ad):LP (EV (B20 Ef L) L 9 Cdm.w.l.u.l.l) [0,2,3,8,9,10] [] (Bjp a0) [.exit 0] (fun n v=>L8 Ef L a0 n v.1 v.2) K:=lE (fun _=>rfl) fun n v ih=>eE (Yn Ef L a0 (fun Aj Bp=>re (ih (Aj,Bp))) v.1 v.2)
def Tk [An A Int](Ef:(List Ad)→Option Int)(L:Nat)(o3:Nat×Co):A:=
 (sl o3.1 [(lf o3.2.1)])
def Bf8(Ef:(List Ad)→Option Int)(L:Nat)(kk:Cz):Ax:=(Av 0 (Bb (EV (B20 Ef L) L 9 Cdm.w.r) (Cm Tryz.prog (RS Tryz.f133) kk)))
theorem B70(Ef:(List Ad)→Option Int)(L:Nat)(kk:Cz)(a0:List Ad)(o3:Nat×Co):kX [.exit 0] (Bjp a0) (Bf8 Ef L kk) o3=ob (Tk Ef L o3) (kQ I kk):=eE (Tk Ef L o3)
def Atn [An A Int](Ef:(List Ad)→Option Int)(L:Nat)(a0:List Ad):A:=(bd (L8 Ef L a0 L (a0.length:Int) 0) fun o3=>Tk Ef L o3)
def Aj9(Ef:(List Ad)→Option Int)(L:Nat)(a0:List Ad):Option Int:=Atn Ef L a0
theorem Cjv(Ef:(List Ad)→Option Int)(Bo6:Bfb Ef)(L:Nat):Bfb (Aj9 Ef L):=fun a0 r h=>hF Tryz.func133 (Clp Ef Bo6 L) L (fun kk=>eE ((ho (Bx7 Ef L (Bf8 Ef L kk) a0 L ((a0.length:Int),0)) fun o3=>B70 Ef L kk a0 o3))) h
def M7:Nat→(List Ad)→Option Int
 |0,_=>none
 |L+1,a0=>Aj9 (M7 L) L a0
theorem Bwr(L:Nat):Bfb (M7 L):=by
 induction L with
 |zero=>exact fun _ _ h=>(by cases h)
 |succ L ih=>
  have i133:=ih
  exact Cjv (M7 L) i133 L
def Cbl(L:Nat):Ew:=E1 I 133 Tw (M7 L) (Bwr L)
def Bfc(F:(List Ad)→Option Int):Prop:=∀y0 r,F y0=some r→Ho Tryz.prog 134 [Tw.en y0] I r
def Cdn:=CC Tryz.f134
def B21(Eg:(List Ad)→Option Int)(L:Nat):Ba:=(orc 134 (A1 I Tw Eg) (oL []))
theorem Clq(Eg:(List Ad)→Option Int)(Bo7:Bfc Eg)(L:Nat):Dm Tryz.prog (B21 Eg L):=(Dt (a1 _ Bo7) (oS []))
def Bjq(a0:List Ad)(v:Co):St:=⟨[(0,.any),(2,I 0),(3,I v.1),(6,lv (.t96 a0)),(7,I (a0.length:Int)),(8,I v.2)],[],0⟩
def Yp [An A B7](Eg:(List Ad)→Option Int)(L:Nat)(a0:List Ad)(rec:Int→Int→A)(Aj:Int)(Bp:Int):A:=
 (lw Bp a0
 (bd (Eg ((a0.getD (Int.toNat Bp) default).Body)) fun r1=>
 (bd (Eg ((a0.getD (Int.toNat Bp) default).Else)) fun r2=>
 (rec (if (B6 (1+r2)) > (if (B6 (1+r1)) > Aj then (B6 (1+r1)) else Aj) then (B6 (1+r2)) else (if (B6 (1+r1)) > Aj then (B6 (1+r1)) else Aj)) (B6 (Bp+1)))))
 (lf (0,Aj,Bp)))
def L9(Eg:(List Ad)→Option Int)(L:Nat)(a0:List Ad):Nat→Int→Int→Option B7
 |0,_,_=>none
 |n+1,Aj,Bp=>Yp Eg L a0 (L9 Eg L a0 n) Aj Bp
theorem Bx8(Eg:(List Ad)→Option Int)(L:Nat)(K:Ax)(a0:List Ad):LP (EV (B21 Eg L) L 9 Cdn.w.l.u.l.l) [0,2,3,6,7,8] [] (Bjq a0) [.exit 0] (fun n v=>L9 Eg L a0 n v.1 v.2) K:=lE (fun _=>rfl) fun n v ih=>eE (Yp Eg L a0 (fun Aj Bp=>re (ih (Aj,Bp))) v.1 v.2)
def Tl [An A Int](Eg:(List Ad)→Option Int)(L:Nat)(o3:Nat×Co):A:=
 (sl o3.1 [(lf o3.2.1)])
def Bf9(Eg:(List Ad)→Option Int)(L:Nat)(kk:Cz):Ax:=(Av 0 (Bb (EV (B21 Eg L) L 9 Cdn.w.r) (Cm Tryz.prog (RS Tryz.f134) kk)))
theorem B71(Eg:(List Ad)→Option Int)(L:Nat)(kk:Cz)(a0:List Ad)(o3:Nat×Co):kX [.exit 0] (Bjq a0) (Bf9 Eg L kk) o3=ob (Tl Eg L o3) (kQ I kk):=eE (Tl Eg L o3)
def Ato [An A Int](Eg:(List Ad)→Option Int)(L:Nat)(a0:List Ad):A:=(bd (L9 Eg L a0 L 0 0) fun o3=>Tl Eg L o3)
def Aka(Eg:(List Ad)→Option Int)(L:Nat)(a0:List Ad):Option Int:=Ato Eg L a0
theorem Cjw(Eg:(List Ad)→Option Int)(Bo7:Bfc Eg)(L:Nat):Bfc (Aka Eg L):=fun a0 r h=>hF Tryz.func134 (Clq Eg Bo7 L) L (fun kk=>eE ((ho (Bx8 Eg L (Bf9 Eg L kk) a0 L (0,0)) fun o3=>B71 Eg L kk a0 o3))) h
def M8:Nat→(List Ad)→Option Int
 |0,_=>none
 |L+1,a0=>Aka (M8 L) L a0
theorem Bws(L:Nat):Bfc (M8 L):=by
 induction L with
 |zero=>exact fun _ _ h=>(by cases h)
 |succ L ih=>
  have i134:=ih
  exact Cjw (M8 L) i134 L
def Cbm(L:Nat):Ew:=E1 I 134 Tw (M8 L) (Bws L)
def Aer:=CC Tryz.f184
def Arp(L:Nat):Ba:=oL []
def A50:(Bn×Bool)→Prop:=fun x=>kk ((fun(x:Bn×Bool)=> .tup [.agg (v7 x.1),B x.2]) x)
def Bjf:St:=⟨[(2,.loc 2 0),(3,B false)],[(2,[B false,B false,B false,B false,B false,B false,B false,B false,B false])],0⟩
def Biy(L:Nat)(kk:Cz):Ax:=(Cm Tryz.prog (RS Tryz.f184) kk)
def p9 [An A (Bn×Bool)](L:Nat):A:=
 (lf ((⟨false,false,false,false,false,false,false,false,false⟩:Bn),false))
theorem Bu8:EV (Arp L) L 9 Aer.w (Bjf) (Biy L kk)=ob (p9 L) (A50 kk):=eE (p9 L)
def A0y(a0:Int)(p803_2:Bool):St:=⟨[(2,.loc 2 0),(3,B false),(4,I a0),(32,B p803_2)],[(2,[B false,B false,B false,B false,B false,B false,B false,B false,B false])],0⟩
def A0g(e0:EC):Ax:=(Av 0 (Bb (EV (Arp L) L 9 e0) (Cm Tryz.prog (RS Tryz.f184) kk)))
def sx_stmt_uses_3 [An A (Bn×Bool)](L:Nat)(a0:Int)(p803_2:Bool)(nx1:A):A:=
 (cn p803_2
 (lf ((⟨true,false,false,false,false,false,false,false,false⟩:Bn),true))
 (cn (a0 == 13)
 (lf ((⟨true,true,true,false,true,false,false,false,false⟩:Bn),true))
 (cn (a0 == 14)
 (lf ((⟨true,false,true,false,true,false,false,false,false⟩:Bn),true))
 (cn (a0 == 18)
 (lf ((⟨false,false,false,false,false,false,false,false,false⟩:Bn),true))
 nx1))))
def Agk [An A (Bn×Bool)](a0:Int)(p803_2:Bool):A:=sx_stmt_uses_3 L a0 p803_2 (p9 L)
theorem Bv1(a0:Int)(p803_2:Bool)(z1:EC):EV (Arp L) L 9 Aer.u.l.u.l.x.x.w.u.r (A0y a0 p803_2) (A0g L kk (EC.put (rl [1]) z1 Aer.u.r))= @sx_stmt_uses_3 Prop (anP (A50 kk)) L a0 p803_2 (EV (Arp L) L 9 z1 (Bjf) (Biy L kk)):=by kernel_rfl
theorem Bva(a0:Int)(p803_2:Bool):EV (Arp L) L 9 Aer.u.l.u.l.x.x.w.u.r (A0y a0 p803_2) (A0g L kk Aer.u.r)=ob (Agk L a0 p803_2) (A50 kk):=Eq.trans (b:=EV (Arp L) L 9 Aer.u.l.u.l.x.x.w.u.r (A0y a0 p803_2) (A0g L kk (EC.put (rl [1]) Aer.w Aer.u.r))) (by kernel_rfl) ((Bv1 L kk a0 p803_2 Aer.w).trans (eE (sx_stmt_uses_3 L a0 p803_2 (re (Bu8 L kk)))))
def A0x(a0:Int)(p802_2:Bool):St:=⟨[(2,.loc 2 0),(3,B false),(4,I a0),(5,B p802_2)],[(2,[B false,B false,B false,B false,B false,B false,B false,B false,B false])],0⟩
def A0f(e0:EC):Ax:=(Av 0 (Bb (EV (Arp L) L 9 e0) (Cm Tryz.prog (RS Tryz.f184) kk)))
def sx_stmt_uses_2 [An A (Bn×Bool)](L:Nat)(a0:Int)(p802_2:Bool)(nx3:Int→Bool→A):A:=
 (cn p802_2
 (lf ((⟨true,false,true,false,false,false,false,false,false⟩:Bn),true))
 (cn (a0 == 2)
 (lf ((⟨true,true,false,false,false,true,false,false,false⟩:Bn),true))
 (cn (a0 == 3)
 (lf ((⟨false,false,true,false,false,false,false,true,true⟩:Bn),true))
 (cn (a0 == 4)
 (lf ((⟨false,false,true,false,false,false,false,true,false⟩:Bn),true))
 (cn (a0 == 5)
 (lf ((⟨false,false,true,false,false,false,false,false,false⟩:Bn),true))
 (cn (a0 == 6)
 (lf ((⟨true,false,true,true,false,false,true,false,false⟩:Bn),true))
 (cn (a0 == 9)
 (lf ((⟨true,true,false,false,false,false,false,false,false⟩:Bn),true))
 (cn (a0 == 10)
 (nx3 a0 (a0 == 10))
 (nx3 a0 (a0 == 11))))))))))
def Agj [An A (Bn×Bool)](a0:Int)(p802_2:Bool):A:=sx_stmt_uses_2 L a0 p802_2 (fun a0 p803_2=>Agk L a0 p803_2)
theorem Bv0(a0:Int)(p802_2:Bool)(z3:EC):EV (Arp L) L 9 (EC.put (rl [21]) z3 Aer.u.l.u.l.u) (A0x a0 p802_2) (A0f L kk Aer.u.r)= @sx_stmt_uses_2 Prop (anP (A50 kk)) L a0 p802_2 (fun a0 p803_2=>EV (Arp L) L 9 z3 (A0y a0 p803_2) (A0g L kk Aer.u.r)):=by kernel_rfl
theorem Bu9(a0:Int)(p802_2:Bool):EV (Arp L) L 9 Aer.u.l.u.l.u (A0x a0 p802_2) (A0f L kk Aer.u.r)=ob (Agj L a0 p802_2) (A50 kk):=Eq.trans (b:=EV (Arp L) L 9 (EC.put (rl [21]) Aer.u.l.u.l.x.x.w.u.r Aer.u.l.u.l.u) (A0x a0 p802_2) (A0f L kk Aer.u.r)) (by kernel_rfl) ((Bv0 L kk a0 p802_2 Aer.u.l.u.l.x.x.w.u.r).trans (eE (sx_stmt_uses_2 L a0 p802_2 (fun a0 p803_2=>re (Bva L kk a0 p803_2)))))
def sx_stmt_uses_0 [An A (Bn×Bool)](L:Nat)(a0:Int)(nx2:Int→Bool→A):A:=
 (cn (a0 == 1)
 (nx2 a0 (a0 == 1))
 (cn (a0 == 7)
 (nx2 a0 (a0 == 7))
 (cn (a0 == 8)
 (nx2 a0 (a0 == 8))
 (cn (a0 == 12)
 (nx2 a0 (a0 == 12))
 (cn (a0 == 15)
 (nx2 a0 (a0 == 15))
 (cn (a0 == 16)
 (nx2 a0 (a0 == 16))
 (nx2 a0 (a0 == 17))))))))
def Ayf [An A (Bn×Bool)](a0:Int):A:=sx_stmt_uses_0 L a0 (fun a0 p802_2=>Agj L a0 p802_2)
theorem Bvz(a0:Int)(z2:EC):EW (Arp L) L 9 (RS Tryz.f184) (EC.put (rl [2,1,2,1,2]) z2 Aer) [I a0] kk= @sx_stmt_uses_0 Prop (anP (A50 kk)) L a0 (fun a0 p802_2=>EV (Arp L) L 9 z2 (A0x a0 p802_2) (A0f L kk Aer.u.r)):=by kernel_rfl
def Ab7(a0:Int):Option (Bn×Bool):=Ayf L a0
def B36:Ew:=E1 (fun(x:Bn×Bool)=> .tup [.agg (v7 x.1),B x.2]) 184 (cI .i64) (Ab7 L) fun a0 r h=>hF Tryz.func184 (C:=Arp L) (oS _) L (fun kk=>Eq.trans (b:=EW (Arp L) L 9 (RS Tryz.f184) (EC.put (rl [2,1,2,1,2]) Aer.u.l.u.l.u Aer) [I a0] kk) (by kernel_rfl) ((Bvz L kk a0 Aer.u.l.u.l.u).trans (eE (sx_stmt_uses_0 L a0 (fun a0 p802_2=>re (Bu9 L kk a0 p802_2)))))) h
end
end Go.Proofs.YtofcpkmnhmnfcaaGreatR.Ev
