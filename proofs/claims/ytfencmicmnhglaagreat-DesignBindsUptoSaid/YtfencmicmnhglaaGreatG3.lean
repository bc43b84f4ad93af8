import Derived.Test.YtfencmicmnhglaaGreatG2
namespace Go.Proofs.YtfencmicmnhglaaGreat.Ev
open Go An
set_option maxRecDepth 100000
set_option maxHeartbeats 4000000
set_option linter.unusedVariables false
set_option linter.unusedSimpArgs false
set_option linter.unnecessarySimpa false
noncomputable section
variable {A:Type} (L n:Nat) (kk:Il) (K:Br) (k:Bn)
def c6:=CC Tryz.f6
def O6:Bq:=oL [X16 L]
def Bph(Bc:Int)(a0:Ad)(v:D2):St:=⟨[(0,.any),(1,.loc 1 0),(2,I 0),(3,I v.1),(4,I Bc),(5,I v.2)],[(1,Ar a0)],0⟩
def v6 [An A Ki](Bc:Int)(a0:Ad)(rec:Int→Int→A)(Dz:Int)(B7:Int):A:=
 (gi Bc a0.Sites
 (cn (decide (B7 < (((a0.Sites.getD (Int.toNat Bc) default).Routines).length:Int)))
 (gi Bc a0.Sites
 (gi B7 ((a0.Sites.getD (Int.toNat Bc) default).Routines)
 (bd (Px L ((((a0.Sites.getD (Int.toNat Bc) default).Routines).getD (Int.toNat B7) default).Body)) fun r1=>
 (rec (Dp (Dz+(Dp (1+r1)))) (Dp (B7+1))))))
 (lf (0,Dz,B7))))
def Mq(L:Nat)(Bc:Int)(a0:Ad):Nat→Int→Int→Option Ki
 |0,_,_=>none
 |n+1,Dz,B7=>v6 L Bc a0 (Mq L Bc a0 n) Dz B7
theorem Bzo(Bc:Int)(a0:Ad):LP (EV (O6 L) L 9 c6.w.l.u.l.l.u.l.l.u.l.l) [0,1,2,3,4,5] [1] (Bph Bc a0) [.exit 2] (fun n v=>Mq L Bc a0 n v.1 v.2) K:=lE (fun _=>rfl) fun n v ih=>eE (v6 L Bc a0 (fun Dz B7=>re (ih (Dz,B7))) v.1 v.2)
def Bhr(a0:Ad)(v:D2):St:=⟨[(0,.any),(1,.loc 1 0),(2,I 0),(3,I v.1),(4,I v.2)],[(1,Ar a0)],0⟩
def Wd [An A Ki](L:Nat)(Bc:Int)(rec:Int→Int→A)(o2:Nat×D2):A:=
 (sl o2.1 [(rec o2.2.1 (Dp (Bc+1)))])
def w3 [An A Ki](L:Nat)(a0:Ad)(rec:Int→Int→A)(Ao:Int)(Bc:Int)(nx1:Int→Int→A):A:=
 (cn (decide (Bc < (a0.Sites.length:Int)))
 (nx1 Bc Ao)
 (lf (0,Ao,Bc)))
def Adx [An A Ki](a0:Ad)(rec:Int→Int→A)(Ao:Int)(Bc:Int):A:=w3 L a0 rec Ao Bc (fun Bc Ao=>bd (Mq L Bc a0 L Ao 0) fun o2=>Wd L Bc rec o2)
def Mp(L:Nat)(a0:Ad):Nat→Int→Int→Option Ki
 |0,_,_=>none
 |n+1,Ao,Bc=>Adx L a0 (Mp L a0 n) Ao Bc
def Bn8(a0:Ad):Prop:=LI (EV (O6 L) L 9 c6.w.l.u.l.l) [0,1,2,3,4] [1] (Bhr a0) [.exit 0] (fun n v=>Mp L a0 n v.1 v.2) K n
def Bom:Br:=(Ba 2 (Ba 1 (Bg (EV (O6 L) L 9 c6.w.l.u.l.l.u.r) (Ii (Kw (EV (O6 L) L 9 c6.w.l.u.l.l) [0,1,2,3,4] [1] n) [0,1,2,3,4] [1] K))))
theorem B4f(Bc:Int)(a0:Ad)(ih:Bn8 L n K a0)(o2:Nat×D2):kX [.exit 2] (Bph Bc a0) (Bom L n K) o2=ob (Wd L Bc (Mp L a0 n) o2) (kX [.exit 0] (Bhr a0) K):=eE (Wd L Bc (fun Ao Bc=>re (ih (Ao,Bc))) o2)
theorem Bzn(a0:Ad):∀n,Bn8 L n K a0:=lE (fun _=>rfl) fun n v ih=>eE (w3 L a0 (fun Ao Bc=>re (ih (Ao,Bc))) v.1 v.2 (fun Bc Ao=>ho (Bzo L (Bom L n K) Bc a0 L (Ao,0)) fun o2=>B4f L n K Bc a0 ih o2))
def We [An A Int](L:Nat)(o3:Nat×D2):A:=
 (sl o3.1 [(lf o3.2.1)])
def Bon:Br:=(Ba 0 (Bg (EV (O6 L) L 9 c6.w.r) (Gu Tryz.prog (RS Tryz.f6) kk)))
theorem B4g(a0:Ad)(o3:Nat×D2):kX [.exit 0] (Bhr a0) (Bon L kk) o3=ob (We L o3) (kQ I kk):=eE (We L o3)
def As3 [An A Int](a0:Ad):A:=(bd (Mp L a0 L (Dp ((a0.Params.length:Int)+(a0.Links.length:Int))) 0) fun o3=>We L o3)
def Afr(a0:Ad):Option Int:=As3 L a0
def X6:N2:=E1 I 6 Ml (Afr L) fun a0 r h=>hF Tryz.func6 (C:=O6 L) (oS _) L (fun kk=>eE ((ho (Bzn L (Bon L kk) a0 L ((Dp ((a0.Params.length:Int)+(a0.Links.length:Int))),0)) fun o3=>B4g L kk a0 o3))) h
def Ab3 [An A Bool](L:Nat)(a0:Int):A:=
 (jp (.cn (decide (a0≥97))
 (.lf (decide (a0≤122)))
 (.lf false)) (fun b1=>
 (lf b1)))
def Tw(a0:Int):Option Bool:=Ab3 L a0
def X80:N2:=E1 B 80 (cI .u8) (Tw L) fun a0 r h=>hF Tryz.func80 (oS []) L (fun kk=>eE (Ab3 L a0)) h
def Aan [An A Bool](L:Nat)(a0:ByteArray):A:=
 (cn (a0.toList == (⟨#[97,100,100]⟩:ByteArray).toList)
 (cn (a0.toList == (⟨#[97,100,100]⟩:ByteArray).toList)
 (lf true)
 (lf false))
 (cn (a0.toList == (⟨#[97,102,116,101,114]⟩:ByteArray).toList)
 (cn (a0.toList == (⟨#[97,102,116,101,114]⟩:ByteArray).toList)
 (lf true)
 (lf false))
 (cn (a0.toList == (⟨#[97,110,100]⟩:ByteArray).toList)
 (cn (a0.toList == (⟨#[97,110,100]⟩:ByteArray).toList)
 (lf true)
 (lf false))
 (cn (a0.toList == (⟨#[97,116]⟩:ByteArray).toList)
 (cn (a0.toList == (⟨#[97,116]⟩:ByteArray).toList)
 (lf true)
 (lf false))
 (cn (a0.toList == (⟨#[98,101,108,116]⟩:ByteArray).toList)
 (cn (a0.toList == (⟨#[98,101,108,116]⟩:ByteArray).toList)
 (lf true)
 (lf false))
 (cn (a0.toList == (⟨#[98,111,111,108]⟩:ByteArray).toList)
 (cn (a0.toList == (⟨#[98,111,111,108]⟩:ByteArray).toList)
 (lf true)
 (lf false))
 (cn (a0.toList == (⟨#[99,111,110,115,101,114,118,101]⟩:ByteArray).toList)
 (cn (a0.toList == (⟨#[99,111,110,115,101,114,118,101]⟩:ByteArray).toList)
 (lf true)
 (lf false))
 (cn (a0.toList == (⟨#[99,111,110,115,116]⟩:ByteArray).toList)
 (cn (a0.toList == (⟨#[99,111,110,115,116]⟩:ByteArray).toList)
 (lf true)
 (lf false))
 (cn (a0.toList == (⟨#[99,111,117,110,116]⟩:ByteArray).toList)
 (cn (a0.toList == (⟨#[99,111,117,110,116]⟩:ByteArray).toList)
 (lf true)
 (lf false))
 (cn (a0.toList == (⟨#[99,121,99,108,101]⟩:ByteArray).toList)
 (cn (a0.toList == (⟨#[99,121,99,108,101]⟩:ByteArray).toList)
 (lf true)
 (lf false))
 (cn (a0.toList == (⟨#[100,111,119,110]⟩:ByteArray).toList)
 (cn (a0.toList == (⟨#[100,111,119,110]⟩:ByteArray).toList)
 (lf true)
 (lf false))
 (cn (a0.toList == (⟨#[100,114,97,119]⟩:ByteArray).toList)
 (cn (a0.toList == (⟨#[100,114,97,119]⟩:ByteArray).toList)
 (lf true)
 (lf false))
 (cn (a0.toList == (⟨#[100,117,114]⟩:ByteArray).toList)
 (cn (a0.toList == (⟨#[100,117,114]⟩:ByteArray).toList)
 (lf true)
 (lf false))
 (cn (a0.toList == (⟨#[101,108,115,101]⟩:ByteArray).toList)
 (cn (a0.toList == (⟨#[101,108,115,101]⟩:ByteArray).toList)
 (lf true)
 (lf false))
 (cn (a0.toList == (⟨#[101,110,100]⟩:ByteArray).toList)
 (cn (a0.toList == (⟨#[101,110,100]⟩:ByteArray).toList)
 (lf true)
 (lf false))
 (cn (a0.toList == (⟨#[101,118,101,114,121]⟩:ByteArray).toList)
 (cn (a0.toList == (⟨#[101,118,101,114,121]⟩:ByteArray).toList)
 (lf true)
 (lf false))
 (cn (a0.toList == (⟨#[102,97,108,115,101]⟩:ByteArray).toList)
 (cn (a0.toList == (⟨#[102,97,108,115,101]⟩:ByteArray).toList)
 (lf true)
 (lf false))
 (cn (a0.toList == (⟨#[102,97,117,108,116]⟩:ByteArray).toList)
 (cn (a0.toList == (⟨#[102,97,117,108,116]⟩:ByteArray).toList)
 (lf true)
 (lf false))
 (cn (a0.toList == (⟨#[102,105,102,111]⟩:ByteArray).toList)
 (cn (a0.toList == (⟨#[102,105,102,111]⟩:ByteArray).toList)
 (lf true)
 (lf false))
 (cn (a0.toList == (⟨#[102,114,101,101]⟩:ByteArray).toList)
 (cn (a0.toList == (⟨#[102,114,101,101]⟩:ByteArray).toList)
 (lf true)
 (lf false))
 (cn (a0.toList == (⟨#[102,114,111,109]⟩:ByteArray).toList)
 (cn (a0.toList == (⟨#[102,114,111,109]⟩:ByteArray).toList)
 (lf true)
 (lf false))
 (cn (a0.toList == (⟨#[103,101,111,109]⟩:ByteArray).toList)
 (cn (a0.toList == (⟨#[103,101,111,109]⟩:ByteArray).toList)
 (lf true)
 (lf false))
 (cn (a0.toList == (⟨#[103,101,116]⟩:ByteArray).toList)
 (cn (a0.toList == (⟨#[103,101,116]⟩:ByteArray).toList)
 (lf true)
 (lf false))
 (cn (a0.toList == (⟨#[104,111,108,100]⟩:ByteArray).toList)
 (cn (a0.toList == (⟨#[104,111,108,100]⟩:ByteArray).toList)
 (lf true)
 (lf false))
 (cn (a0.toList == (⟨#[105,102]⟩:ByteArray).toList)
 (cn (a0.toList == (⟨#[105,102]⟩:ByteArray).toList)
 (lf true)
 (lf false))
 (cn (a0.toList == (⟨#[105,110,116]⟩:ByteArray).toList)
 (cn (a0.toList == (⟨#[105,110,116]⟩:ByteArray).toList)
 (lf true)
 (lf false))
 (cn (a0.toList == (⟨#[105,110,116,111]⟩:ByteArray).toList)
 (cn (a0.toList == (⟨#[105,110,116,111]⟩:ByteArray).toList)
 (lf true)
 (lf false))
 (cn (a0.toList == (⟨#[108,101,97,115,116]⟩:ByteArray).toList)
 (cn (a0.toList == (⟨#[108,101,97,115,116]⟩:ByteArray).toList)
 (lf true)
 (lf false))
 (cn (a0.toList == (⟨#[108,101,118,101,108]⟩:ByteArray).toList)
 (cn (a0.toList == (⟨#[108,101,118,101,108]⟩:ByteArray).toList)
 (lf true)
 (lf false))
 (cn (a0.toList == (⟨#[108,105,102,111]⟩:ByteArray).toList)
 (cn (a0.toList == (⟨#[108,105,102,111]⟩:ByteArray).toList)
 (lf true)
 (lf false))
 (cn (a0.toList == (⟨#[108,105,110,107]⟩:ByteArray).toList)
 (cn (a0.toList == (⟨#[108,105,110,107]⟩:ByteArray).toList)
 (lf true)
 (lf false))
 (cn (a0.toList == (⟨#[108,111,99,97,108]⟩:ByteArray).toList)
 (cn (a0.toList == (⟨#[108,111,99,97,108]⟩:ByteArray).toList)
 (lf true)
 (lf false))
 (cn (a0.toList == (⟨#[109,97,120]⟩:ByteArray).toList)
 (cn (a0.toList == (⟨#[109,97,120]⟩:ByteArray).toList)
 (lf true)
 (lf false))
 (cn (a0.toList == (⟨#[109,105,110]⟩:ByteArray).toList)
 (cn (a0.toList == (⟨#[109,105,110]⟩:ByteArray).toList)
 (lf true)
 (lf false))
 (cn (a0.toList == (⟨#[109,111,100,101,108]⟩:ByteArray).toList)
 (cn (a0.toList == (⟨#[109,111,100,101,108]⟩:ByteArray).toList)
 (lf true)
 (lf false))
 (cn (a0.toList == (⟨#[110,111,116]⟩:ByteArray).toList)
 (cn (a0.toList == (⟨#[110,111,116]⟩:ByteArray).toList)
 (lf true)
 (lf false))
 (cn (a0.toList == (⟨#[110,111,119]⟩:ByteArray).toList)
 (cn (a0.toList == (⟨#[110,111,119]⟩:ByteArray).toList)
 (lf true)
 (lf false))
 (cn (a0.toList == (⟨#[111,98,115,101,114,118,101]⟩:ByteArray).toList)
 (cn (a0.toList == (⟨#[111,98,115,101,114,118,101]⟩:ByteArray).toList)
 (lf true)
 (lf false))
 (cn (a0.toList == (⟨#[111,114]⟩:ByteArray).toList)
 (cn (a0.toList == (⟨#[111,114]⟩:ByteArray).toList)
 (lf true)
 (lf false))
 (cn (a0.toList == (⟨#[112,97,114,97,109]⟩:ByteArray).toList)
 (cn (a0.toList == (⟨#[112,97,114,97,109]⟩:ByteArray).toList)
 (lf true)
 (lf false))
 (cn (a0.toList == (⟨#[112,114,101,101,109,112,116]⟩:ByteArray).toList)
 (cn (a0.toList == (⟨#[112,114,101,101,109,112,116]⟩:ByteArray).toList)
 (lf true)
 (lf false))
 (cn (a0.toList == (⟨#[112,114,105,111]⟩:ByteArray).toList)
 (cn (a0.toList == (⟨#[112,114,105,111]⟩:ByteArray).toList)
 (lf true)
 (lf false))
 (cn (a0.toList == (⟨#[112,117,116]⟩:ByteArray).toList)
 (cn (a0.toList == (⟨#[112,117,116]⟩:ByteArray).toList)
 (lf true)
 (lf false))
 (cn (a0.toList == (⟨#[113,117,101,117,101]⟩:ByteArray).toList)
 (cn (a0.toList == (⟨#[113,117,101,117,101]⟩:ByteArray).toList)
 (lf true)
 (lf false))
 (cn (a0.toList == (⟨#[114,101,108,101,97,115,101]⟩:ByteArray).toList)
 (cn (a0.toList == (⟨#[114,101,108,101,97,115,101]⟩:ByteArray).toList)
 (lf true)
 (lf false))
 (cn (a0.toList == (⟨#[114,101,115,111,117,114,99,101]⟩:ByteArray).toList)
 (cn (a0.toList == (⟨#[114,101,115,111,117,114,99,101]⟩:ByteArray).toList)
 (lf true)
 (lf false))
 (cn (a0.toList == (⟨#[114,105,100,101]⟩:ByteArray).toList)
 (cn (a0.toList == (⟨#[114,105,100,101]⟩:ByteArray).toList)
 (lf true)
 (lf false))
 (cn (a0.toList == (⟨#[114,111,117,116,105,110,101]⟩:ByteArray).toList)
 (cn (a0.toList == (⟨#[114,111,117,116,105,110,101]⟩:ByteArray).toList)
 (lf true)
 (lf false))
 (cn (a0.toList == (⟨#[115,101,105,122,101]⟩:ByteArray).toList)
 (cn (a0.toList == (⟨#[115,101,105,122,101]⟩:ByteArray).toList)
 (lf true)
 (lf false))
 (cn (a0.toList == (⟨#[115,101,110,100]⟩:ByteArray).toList)
 (cn (a0.toList == (⟨#[115,101,110,100]⟩:ByteArray).toList)
 (lf true)
 (lf false))
 (cn (a0.toList == (⟨#[115,101,116]⟩:ByteArray).toList)
 (cn (a0.toList == (⟨#[115,101,116]⟩:ByteArray).toList)
 (lf true)
 (lf false))
 (cn (a0.toList == (⟨#[115,104,105,102,116]⟩:ByteArray).toList)
 (cn (a0.toList == (⟨#[115,104,105,102,116]⟩:ByteArray).toList)
 (lf true)
 (lf false))
 (cn (a0.toList == (⟨#[115,105,103,110,97,108]⟩:ByteArray).toList)
 (cn (a0.toList == (⟨#[115,105,103,110,97,108]⟩:ByteArray).toList)
 (lf true)
 (lf false))
 (cn (a0.toList == (⟨#[115,105,116,101]⟩:ByteArray).toList)
 (cn (a0.toList == (⟨#[115,105,116,101]⟩:ByteArray).toList)
 (lf true)
 (lf false))
 (cn (a0.toList == (⟨#[115,105,122,101]⟩:ByteArray).toList)
 (cn (a0.toList == (⟨#[115,105,122,101]⟩:ByteArray).toList)
 (lf true)
 (lf false))
 (cn (a0.toList == (⟨#[115,112,97,119,110]⟩:ByteArray).toList)
 (cn (a0.toList == (⟨#[115,112,97,119,110]⟩:ByteArray).toList)
 (lf true)
 (lf false))
 (cn (a0.toList == (⟨#[115,116,97,114,116]⟩:ByteArray).toList)
 (cn (a0.toList == (⟨#[115,116,97,114,116]⟩:ByteArray).toList)
 (lf true)
 (lf false))
 (cn (a0.toList == (⟨#[115,116,111,112]⟩:ByteArray).toList)
 (cn (a0.toList == (⟨#[115,116,111,112]⟩:ByteArray).toList)
 (lf true)
 (lf false))
 (cn (a0.toList == (⟨#[115,116,111,114,101]⟩:ByteArray).toList)
 (cn (a0.toList == (⟨#[115,116,111,114,101]⟩:ByteArray).toList)
 (lf true)
 (lf false))
 (cn (a0.toList == (⟨#[115,116,114,101,97,109]⟩:ByteArray).toList)
 (cn (a0.toList == (⟨#[115,116,114,101,97,109]⟩:ByteArray).toList)
 (lf true)
 (lf false))
 (cn (a0.toList == (⟨#[115,117,109]⟩:ByteArray).toList)
 (cn (a0.toList == (⟨#[115,117,109]⟩:ByteArray).toList)
 (lf true)
 (lf false))
 (cn (a0.toList == (⟨#[116,97,98,108,101]⟩:ByteArray).toList)
 (cn (a0.toList == (⟨#[116,97,98,108,101]⟩:ByteArray).toList)
 (lf true)
 (lf false))
 (cn (a0.toList == (⟨#[116,97,108,108,121]⟩:ByteArray).toList)
 (cn (a0.toList == (⟨#[116,97,108,108,121]⟩:ByteArray).toList)
 (lf true)
 (lf false))
 (cn (a0.toList == (⟨#[116,105,99,107,115]⟩:ByteArray).toList)
 (cn (a0.toList == (⟨#[116,105,99,107,115]⟩:ByteArray).toList)
 (lf true)
 (lf false))
 (cn (a0.toList == (⟨#[116,105,109,101]⟩:ByteArray).toList)
 (cn (a0.toList == (⟨#[116,105,109,101]⟩:ByteArray).toList)
 (lf true)
 (lf false))
 (cn (a0.toList == (⟨#[116,114,117,101]⟩:ByteArray).toList)
 (cn (a0.toList == (⟨#[116,114,117,101]⟩:ByteArray).toList)
 (lf true)
 (lf false))
 (cn (a0.toList == (⟨#[117,110,105,102,111,114,109]⟩:ByteArray).toList)
 (cn (a0.toList == (⟨#[117,110,105,102,111,114,109]⟩:ByteArray).toList)
 (lf true)
 (lf false))
 (cn (a0.toList == (⟨#[117,110,116,105,108]⟩:ByteArray).toList)
 (cn (a0.toList == (⟨#[117,110,116,105,108]⟩:ByteArray).toList)
 (lf true)
 (lf false))
 (cn (a0.toList == (⟨#[117,112]⟩:ByteArray).toList)
 (cn (a0.toList == (⟨#[117,112]⟩:ByteArray).toList)
 (lf true)
 (lf false))
 (cn (a0.toList == (⟨#[118,97,114]⟩:ByteArray).toList)
 (cn (a0.toList == (⟨#[118,97,114]⟩:ByteArray).toList)
 (lf true)
 (lf false))
 (cn (a0.toList == (⟨#[119,97,105,116]⟩:ByteArray).toList)
 (cn (a0.toList == (⟨#[119,97,105,116]⟩:ByteArray).toList)
 (lf true)
 (lf false))
 (cn (a0.toList == (⟨#[119,97,105,116,105,110,103]⟩:ByteArray).toList)
 (cn (a0.toList == (⟨#[119,97,105,116,105,110,103]⟩:ByteArray).toList)
 (lf true)
 (lf false))
 (cn (a0.toList == (⟨#[119,104,105,108,101]⟩:ByteArray).toList)
 (lf true)
 (lf false))))))))))))))))))))))))))))))))))))))))))))))))))))))))))))))))))))))))))
def Wj(a0:ByteArray):Option Bool:=Aan L a0
def X81:N2:=E1 B 81 cS (Wj L) fun a0 r h=>hF Tryz.func81 (oS []) L (fun kk=>eE (Aan L a0)) h
def c60:=CC Tryz.f60
def O60:Bq:=oL [X80 L,X81 L]
def Bho(a0:ByteArray)(v:D2):St:=⟨[(0,S a0),(2,I v.1),(23,I (a0.size:Int)),(24,I v.2)],[],0⟩
def Qj [An A Ki](a0:ByteArray)(rec:Int→Int→A)(Ao:Int)(Al:Int):A:=
 (cn (decide (Al < (a0.size:Int)))
 (cn ((if 0≤Al then a0[Int.toNat Al]? else none).isSome)
 (bd (Tw L (Mm (if 0≤Al then a0[Int.toNat Al]? else none))) fun r6=>
 (jp (.cn (!r6)
 (.cn (decide ((Mm (if 0≤Al then a0[Int.toNat Al]? else none)) < 48))
 (.lf true)
 (.lf (decide ((Mm (if 0≤Al then a0[Int.toNat Al]? else none)) > 57))))
 (.lf false)) (fun b7=>
 (jp (.cn b7
 (.lf ((Mm (if 0≤Al then a0[Int.toNat Al]? else none)) != 95))
 (.lf false)) (fun b8=>
 (cn b8
 (lf (0,3,Al))
 (rec Ao (Dp (Al+1)))))))))
 fl)
 (lf (1,Ao,Al)))
def J5(L:Nat)(a0:ByteArray):Nat→Int→Int→Option Ki
 |0,_,_=>none
 |n+1,Ao,Al=>Qj L a0 (J5 L a0 n) Ao Al
theorem Bso(a0:ByteArray):LP (EV (O60 L) L 9 c60.w.l.u.l.l) [0,2,23,24] [] (Bho a0) [.ret,.exit 0] (fun n v=>J5 L a0 n v.1 v.2) K:=lE (fun _=>rfl) fun n v ih=>eE (Qj L a0 (fun Ao Al=>re (ih (Ao,Al))) v.1 v.2)
def Rf [An A Int](L:Nat)(o9:Nat×D2):A:=
 (sl o9.1 [(lf o9.2.1),
 (lf 0)])
def Bf5:Br:=(Ba 0 (Bg (EV (O60 L) L 9 c60.w.r) (Gu Tryz.prog (RS Tryz.f60) kk)))
theorem B1v(a0:ByteArray)(o9:Nat×D2):kX [.ret,.exit 0] (Bho a0) (Bf5 L kk) o9=ob (Rf L o9) (kQ I kk):=eE (Rf L o9)
def Vv [An A Int](a0:ByteArray)(nx1:A):A:=
 (jp (.cn (a0.toList == (⟨#[]⟩:ByteArray).toList)
 (.lf true)
 (.lf (decide ((a0.size:Int) > 24)))) (fun b1=>
 (jb (.cn b1
 (.lf true)
 (.cn ((if 0≤0 then a0[Int.toNat 0]? else none).isSome)
 (.bd (Tw L (Mm (if 0≤0 then a0[Int.toNat 0]? else none))) fun r3=>
 (.lf (!r3)))
 .fl)) (fun b2=>
 (jb (.cn b2
 (.lf true)
 (.bd (Wj L a0) fun r5=>
 (.lf r5))) (fun b4=>
 (cn b4
 (lf 3)
 nx1)))))))
def Akg [An A Int](a0:ByteArray):A:=Vv L a0 (bd (J5 L a0 L 0 0) fun o9=>Rf L o9)
def C6(a0:ByteArray):Option Int:=Akg L a0
def X60:N2:=E1 I 60 cS (C6 L) fun a0 r h=>hF Tryz.func60 (C:=O60 L) (oS _) L (fun kk=>eE (Vv L a0 (ho (Bso L (Bf5 L kk) a0 L (0,0)) fun o9=>B1v L kk a0 o9))) h
def Adq [An A Bool](L:Nat)(a0:Int):A:=
 (jp (.cn (decide (a0≥1))
 (.lf (decide (a0≤3)))
 (.lf false)) (fun b1=>
 (lf b1)))
def Kj(a0:Int):Option Bool:=Adq L a0
def Biy:N2:=E1 B 135 (cI .i64) (Kj L) fun a0 r h=>hF Tryz.func135 (oS []) L (fun kk=>eE (Adq L a0)) h
def As5 [An A Bool](L:Nat)(a0:Int):A:=
 (jp (.cn (decide (a0≥(-1000000000000)))
 (.lf (decide (a0≤1000000000000)))
 (.lf false)) (fun b1=>
 (lf b1)))
def X0(a0:Int):Option Bool:=As5 L a0
def X59:N2:=E1 B 59 (cI .i64) (X0 L) fun a0 r h=>hF Tryz.func59 (oS []) L (fun kk=>eE (As5 L a0)) h
def Ab2 [An A Bool](L:Nat)(a0:Int)(a1:Int)(a2:Int):A:=
 (jp (.cn (decide (a0≥a1))
 (.lf (decide (a0≤a2)))
 (.lf false)) (fun b1=>
 (lf b1)))
def Bb(a0:Int)(a1:Int)(a2:Int):Option Bool:=Ab2 L a0 a1 a2
def X91:N2:=E3 B 91 (cI .i64) (cI .i64) (cI .i64) (Bb L) fun a0 a1 a2 r h=>hF Tryz.func91 (oS []) L (fun kk=>eE (Ab2 L a0 a1 a2)) h
def Af0 [An A Bool](a0:Int)(a1:Int):A:=
 (cn (a0 == 1)
 (bd (X0 L a1) fun r1=>
 (lf r1))
 (cn (a0 == 2)
 (jp (.cn (a1 == 0)
 (.lf true)
 (.lf (a1 == 1))) (fun b2=>
 (lf b2)))
 (cn (a0 == 3)
 (bd (Bb L a1 0 1000000000) fun r3=>
 (lf r3))
 (lf false))))
def Rm(a0:Int)(a1:Int):Option Bool:=Af0 L a0 a1
def Biz:N2:=E2 B 136 (cI .i64) (cI .i64) (Rm L) fun a0 a1 r h=>hF Tryz.func136 (oS [X59 L,X91 L]) L (fun kk=>eE (Af0 L a0 a1)) h
def c92:=CC Tryz.f92
def O92:Bq:=oL [X91 L]
def Bhs(a0:Ai)(v:D2):St:=⟨[(0,.any),(1,.loc 1 0),(2,I v.1),(12,.any),(17,.any),(23,lv (.t184 a0.Shift)),(24,I (a0.Shift.length:Int)),(25,I v.2)],[(1,Bl a0)],0⟩
def P8 [An A Ki](a0:Ai)(rec:Int→Int→A)(Au:Int)(Al:Int):A:=
 (lw Al a0.Shift
 (bd (Bb L ((a0.Shift.getD (Int.toNat Al) default).At) 0 (Dp (a0.Cycle - 1))) fun r2=>
 (cn (!r2)
 (cn (!r2)
 (lf (0,2,Al))
 (cn (decide (Al > 0))
 (gi (Dp (Al - 1)) a0.Shift
 (cn (decide ((a0.Shift.getD (Int.toNat Al) default).At≤(a0.Shift.getD (Int.toNat (Dp (Al - 1))) default).At))
 (lf (0,12,Al))
 (rec Au (Dp (Al+1)))))
 (rec Au (Dp (Al+1)))))
 (bd (Bb L ((a0.Shift.getD (Int.toNat Al) default).Units) 0 1000) fun r3=>
 (cn (!r3)
 (lf (0,2,Al))
 (cn (decide (Al > 0))
 (gi (Dp (Al - 1)) a0.Shift
 (cn (decide ((a0.Shift.getD (Int.toNat Al) default).At≤(a0.Shift.getD (Int.toNat (Dp (Al - 1))) default).At))
 (lf (0,12,Al))
 (rec Au (Dp (Al+1)))))
 (rec Au (Dp (Al+1))))))))
 (lf (1,Au,Al)))
def Gz(L:Nat)(a0:Ai):Nat→Int→Int→Option Ki
 |0,_,_=>none
 |n+1,Au,Al=>P8 L a0 (Gz L a0 n) Au Al
theorem Bsy(a0:Ai):LP (EV (O92 L) L 9 c92.w.u.l.u.l.l) [0,1,2,12,17,23,24,25] [1] (Bhs a0) [.ret,.exit 1] (fun n v=>Gz L a0 n v.1 v.2) K:=lE (fun _=>rfl) fun n v ih=>eE (P8 L a0 (fun Au Al=>re (ih (Au,Al))) v.1 v.2)
def L1 [An A Int](L:Nat)(o4:Nat×D2):A:=
 (sl o4.1 [(lf o4.2.1),
 (lf 0)])
def Bga:Br:=(Ba 1 (Bg (EV (O92 L) L 9 c92.w.u.r) (Gu Tryz.prog (RS Tryz.f92) kk)))
theorem B10(a0:Ai)(o4:Nat×D2):kX [.ret,.exit 1] (Bhs a0) (Bga L kk) o4=ob (L1 L o4) (kQ I kk):=eE (L1 L o4)
def Qa [An A Int](a0:Ai)(nx1:A):A:=
 (cn ((a0.Shift.length:Int) == 0)
 (cn (a0.Cycle != 0)
 (lf 1)
 (lf 0))
 (cn (decide ((a0.Shift.length:Int) > 20))
 (lf 6)
 (bd (Bb L a0.Cycle 1 1000000000) fun r1=>
 (cn (!r1)
 (lf 2)
 nx1))))
def Ad9 [An A Int](a0:Ai):A:=Qa L a0 (bd (Gz L a0 L 0 0) fun o4=>L1 L o4)
def Uf(a0:Ai):Option Int:=Ad9 L a0
def X92:N2:=E1 I 92 Ajw (Uf L) fun a0 r h=>hF Tryz.func92 (C:=O92 L) (oS _) L (fun kk=>eE (Qa L a0 (ho (Bsy L (Bga L kk) a0 L (0,0)) fun o4=>B10 L kk a0 o4))) h
def Bye:=CC Tryz.f171
def Bps(L:Nat):Bq:=oL []
def Bau(a0:List Int)(a1:List Int)(v:Bool×Int):St:=⟨[(0,lv (.t3 a0)),(1,lv (.t3 a1)),(4,B v.1),(12,I (a0.length:Int)),(13,I v.2)],[],0⟩
def Np [An A (Nat×Bool×Int)](L:Nat)(a0:List Int)(a1:List Int)(rec:Bool→Int→A)(Bc:Bool)(Bi:Int):A:=
 (lw Bi a0
 (gi Bi a1
 (cn ((a0.getD (Int.toNat Bi) default) != (a1.getD (Int.toNat Bi) default))
 (lf (0,false,Bi))
 (rec Bc (Dp (Bi+1)))))
 (lf (1,Bc,Bi)))
def F5(L:Nat)(a0:List Int)(a1:List Int):Nat→Bool→Int→Option (Nat×Bool×Int)
 |0,_,_=>none
 |n+1,Bc,Bi=>Np L a0 a1 (F5 L a0 a1 n) Bc Bi
theorem Blw(a0:List Int)(a1:List Int):LP (EV (Bps L) L 9 Bye.w.l.u.l.l) [0,1,4,12,13] [] (Bau a0 a1) [.ret,.exit 0] (fun n v=>F5 L a0 a1 n v.1 v.2) K:=lE (fun _=>rfl) fun n v ih=>eE (Np L a0 a1 (fun Bc Bi=>re (ih (Bc,Bi))) v.1 v.2)
def Js [An A Bool](L:Nat)(o1:Nat×Bool×Int):A:=
 (sl o1.1 [(lf o1.2.1),
 (lf true)])
def A8l:Br:=(Ba 0 (Bg (EV (Bps L) L 9 Bye.w.r) (Gu Tryz.prog (RS Tryz.f171) kk)))
theorem Bt1(a0:List Int)(a1:List Int)(o1:Nat×Bool×Int):kX [.ret,.exit 0] (Bau a0 a1) (A8l L kk) o1=ob (Js L o1) (kQ B kk):=eE (Js L o1)
def Ns [An A Bool](L:Nat)(a0:List Int)(a1:List Int)(nx1:A):A:=
 (cn ((a0.length:Int) != (a1.length:Int))
 (lf false)
 nx1)
def Ab4 [An A Bool](a0:List Int)(a1:List Int):A:=Ns L a0 a1 (bd (F5 L a0 a1 L false 0) fun o1=>Js L o1)
def M6(a0:List Int)(a1:List Int):Option Bool:=Ab4 L a0 a1
def Bwq:N2:=E2 B 171 cl3 cl3 (M6 L) fun a0 a1 r h=>hF Tryz.func171 (C:=Bps L) (oS _) L (fun kk=>eE (Ns L a0 a1 (ho (Blw L (A8l L kk) a0 a1 L (false,0)) fun o1=>Bt1 L kk a0 a1 o1))) h
def Ah1 [An A Bool](a0:Bv)(a1:Bv):A:=
 (jp (.cn (a0.Op == a1.Op)
 (.lf (a0.A == a1.A))
 (.lf false)) (fun b1=>
 (jp (.cn b1
 (.lf (a0.B == a1.B))
 (.lf false)) (fun b2=>
 (jp (.cn b2
 (.lf (a0.N == a1.N))
 (.lf false)) (fun b3=>
 (jb (.cn b3
 (.bd (M6 L a0.Values a1.Values) fun r5=>
 (.lf r5))
 (.lf false)) (fun b4=>
 (jb (.cn b4
 (.bd (M6 L a0.Weights a1.Weights) fun r7=>
 (.lf r7))
 (.lf false)) (fun b6=>
 (lf b6)))))))))))
def Oi(a0:Bv)(a1:Bv):Option Bool:=Ah1 L a0 a1
def Bp4:N2:=E2 B 137 Ac4 Ac4 (Oi L) fun a0 a1 r h=>hF Tryz.func137 (oS [Bwq L]) L (fun kk=>eE (Ah1 L a0 a1)) h
def Byf:=CC Tryz.f172
def Bpt(L:Nat):Bq:=oL []
def Bav(a0:List ByteArray)(a1:ByteArray)(v:D2):St:=⟨[(0,lv (.t9 a0)),(1,S a1),(4,I v.1),(7,I (a0.length:Int)),(8,I v.2)],[],0⟩
def Kl [An A Ki](L:Nat)(a0:List ByteArray)(a1:ByteArray)(rec:Int→Int→A)(Bc:Int)(Bi:Int):A:=
 (lw Bi a0
 (cn (a1.toList == (a0.getD (Int.toNat Bi) default).toList)
 (lf (0,Bi,Bi))
 (rec Bc (Dp (Bi+1))))
 (lf (1,Bc,Bi)))
def Ea(L:Nat)(a0:List ByteArray)(a1:ByteArray):Nat→Int→Int→Option Ki
 |0,_,_=>none
 |n+1,Bc,Bi=>Kl L a0 a1 (Ea L a0 a1 n) Bc Bi
theorem Blx(a0:List ByteArray)(a1:ByteArray):LP (EV (Bpt L) L 9 Byf.u.l.u.l.l) [0,1,4,7,8] [] (Bav a0 a1) [.ret,.exit 0] (fun n v=>Ea L a0 a1 n v.1 v.2) K:=lE (fun _=>rfl) fun n v ih=>eE (Kl L a0 a1 (fun Bc Bi=>re (ih (Bc,Bi))) v.1 v.2)
def Ko [An A Int](L:Nat)(o1:Nat×D2):A:=
 (sl o1.1 [(lf o1.2.1),
 (lf (-1))])
def A8m:Br:=(Ba 0 (Bg (EV (Bpt L) L 9 Byf.u.r) (Gu Tryz.prog (RS Tryz.f172) kk)))
theorem Bt2(a0:List ByteArray)(a1:ByteArray)(o1:Nat×D2):kX [.ret,.exit 0] (Bav a0 a1) (A8m L kk) o1=ob (Ko L o1) (kQ I kk):=eE (Ko L o1)
def Zp [An A Int](a0:List ByteArray)(a1:ByteArray):A:=(bd (Ea L a0 a1 L 0 0) fun o1=>Ko L o1)
def Dw(a0:List ByteArray)(a1:ByteArray):Option Int:=Zp L a0 a1
def Bqc:N2:=E2 I 172 cl9 cS (Dw L) fun a0 a1 r h=>hF Tryz.func172 (C:=Bpt L) (oS _) L (fun kk=>eE ((ho (Blx L (A8m L kk) a0 a1 L (0,0)) fun o1=>Bt2 L kk a0 a1 o1))) h
def Pz [An A Bool](a0:List ByteArray)(a1:ByteArray):A:=
 (bd (Dw L a0 a1) fun r1=>
 (lf (decide (r1≥0))))
def Bt(a0:List ByteArray)(a1:ByteArray):Option Bool:=Pz L a0 a1
def Bp5:N2:=E2 B 138 cl9 cS (Bt L) fun a0 a1 r h=>hF Tryz.func138 (oS [Bqc L]) L (fun kk=>eE (Pz L a0 a1)) h
def Ado [An A Bool](L:Nat)(a0:Bv):A:=
 (cn (a0.Op == 1)
 (jp (.cn ((Dp ((a0.Values.length:Int)+(a0.Weights.length:Int))) == 0)
 (.lf (a0.B == 0))
 (.lf false)) (fun b1=>
 (jp (.cn b1
 (.lf (a0.N == 0))
 (.lf false)) (fun b2=>
 (lf b2)))))
 (cn (a0.Op == 2)
 (cn (a0.Op == 2)
 (jp (.cn ((Dp ((a0.Values.length:Int)+(a0.Weights.length:Int))) == 0)
 (.lf (a0.N == 0))
 (.lf false)) (fun b3=>
 (lf b3)))
 (cn (a0.Op == 4)
 (lf ((Dp ((a0.Values.length:Int)+(a0.Weights.length:Int))) == 0))
 (cn (a0.Op == 3)
 (jp (.cn (a0.A == 0)
 (.lf (a0.B == 0))
 (.lf false)) (fun b4=>
 (jp (.cn b4
 (.lf (a0.N == 0))
 (.lf false)) (fun b5=>
 (lf b5)))))
 (lf false))))
 (cn (a0.Op == 5)
 (jp (.cn ((Dp ((a0.Values.length:Int)+(a0.Weights.length:Int))) == 0)
 (.lf (a0.N == 0))
 (.lf false)) (fun b6=>
 (lf b6)))
 (cn (a0.Op == 4)
 (lf ((Dp ((a0.Values.length:Int)+(a0.Weights.length:Int))) == 0))
 (cn (a0.Op == 3)
 (jp (.cn (a0.A == 0)
 (.lf (a0.B == 0))
 (.lf false)) (fun b7=>
 (jp (.cn b7
 (.lf (a0.N == 0))
 (.lf false)) (fun b8=>
 (lf b8)))))
 (lf false))))))
def t8(a0:Bv):Option Bool:=Ado L a0
def Bwr:N2:=E1 B 173 Ac4 (t8 L) fun a0 r h=>hF Tryz.func173 (oS []) L (fun kk=>eE (Ado L a0)) h
def Bym:=CC Tryz.f199
def Byp:=CC Tryz.f214
def Byg:=CC Tryz.f174
def Avq(L:Nat):Bq:=oL []
def Baw(p1_0:List Int)(p1_1:Int)(p1_2:Int)(v:D2):St:=⟨[(0,lv (.t3 p1_0)),(1,.clo 200 0 [.loc 3 0,.loc 4 0]),(4,I v.1),(7,I (p1_0.length:Int)),(8,I v.2)],[(3,[I p1_1]),(4,[I p1_2])],5⟩
def Un [An A Ki](L:Nat)(p1_0:List Int)(p1_1:Int)(p1_2:Int)(rec:Int→Int→A)(Ao:Int)(Al:Int):A:=
 (lw Al p1_0
 (jp (.cn (decide ((p1_0.getD (Int.toNat Al) default) < p1_1))
 (.lf true)
 (.lf (decide ((p1_0.getD (Int.toNat Al) default) > p1_2)))) (fun b1=>
 (cn b1
 (lf (0,Al,Al))
 (rec Ao (Dp (Al+1))))))
 (lf (1,Ao,Al)))
def Jz(L:Nat)(p1_0:List Int)(p1_1:Int)(p1_2:Int):Nat→Int→Int→Option Ki
 |0,_,_=>none
 |n+1,Ao,Al=>Un L p1_0 p1_1 p1_2 (Jz L p1_0 p1_1 p1_2 n) Ao Al
theorem Bly(p1_0:List Int)(p1_1:Int)(p1_2:Int):LP (EV (Avq L) L 7 Byp.u.l.u.l.l) [0,1,4,7,8] [3,4] (Baw p1_0 p1_1 p1_2) [.ret,.exit 0] (fun n v=>Jz L p1_0 p1_1 p1_2 n v.1 v.2) K:=lE (fun _=>rfl) fun n v ih=>eE (Un L p1_0 p1_1 p1_2 (fun Ao Al=>re (ih (Ao,Al))) v.1 v.2)
def Aye(p1_0:List Int)(p1_1:Int)(p1_2:Int)(k:Bn):Int→Prop:=fun o=>k (I o) [(3,[I p1_1]),(4,[I p1_2])]
def U0 [An A Int](L:Nat)(o2:Nat×D2):A:=
 (sl o2.1 [(lf o2.2.1),
 (lf (-1))])
def A8n:Br:=(Ba 0 (Bg (EV (Avq L) L 7 Byp.u.r) (Dq Tryz.prog (RS Tryz.f214) k)))
theorem Bt3(p1_0:List Int)(p1_1:Int)(p1_2:Int)(o2:Nat×D2):kX [.ret,.exit 0] (Baw p1_0 p1_1 p1_2) (A8n L k) o2=ob (U0 L o2) (Aye p1_0 p1_1 p1_2 k):=eE (U0 L o2)
def Aef [An A Int](p1_0:List Int)(p1_1:Int)(p1_2:Int):A:=(bd (Jz L p1_0 p1_1 p1_2 L 0 0) fun o2=>U0 L o2)
def Z3(p1_0:List Int)(p1_1:Int)(p1_2:Int):Option Int:=Aef L p1_0 p1_1 p1_2
theorem Bkl(p1_0:List Int)(p1_1:Int)(p1_2:Int):YO (Avq L) L 8 214 [lv (.t3 p1_0),.clo 200 0 [.loc 3 0,.loc 4 0]] [(3,[I p1_1]),(4,[I p1_2])] k=ob (Z3 L p1_0 p1_1 p1_2) (Aye p1_0 p1_1 p1_2 k):=(Cr _ _ _ jn4 _ _ _ _ _ _ _).trans (eE ((ho (Bly L (A8n L k) p1_0 p1_1 p1_2 L (0,0)) fun o2=>Bt3 L k p1_0 p1_1 p1_2 o2)))
def Qr [An A Bool](L:Nat)(o3:Int):A:=
 (lf (!(decide (o3≥0))))
def A8o(a2:List Int)(a0:Int)(a1:Int):Bn:=(Bu Tryz.prog (Avq L) (EI (Avq L) L 8) 2 (List.drop 3 Bym.u.l.ops) ⟨[(6,.clo 200 0 [.loc 3 0,.loc 4 0]),(5,lv (.t3 a2)),(0,lv (.t3 a2)),(1,.clo 200 0 [.loc 3 0,.loc 4 0]),(4,B false)],[(3,[I a0]),(4,[I a1])],5⟩ (some 7) (fun st9=>(Bg (EV (Avq L) L 8 Bym.u.r) (Dq Tryz.prog (RS Tryz.f199) (Bu Tryz.prog (Avq L) (EI (Avq L) L 9) 2 (List.drop 3 Byg.u.l.ops) ⟨[(8,.clo 200 0 [.loc 3 0,.loc 4 0]),(7,lv (.t3 a2)),(2,lv (.t3 a2)),(3,.loc 3 0),(4,.loc 4 0),(6,B false)],[(3,[I a0]),(4,[I a1])],0⟩ (some 9) (fun st9=>(Bg (EV (Avq L) L 9 Byg.u.r) (Gu Tryz.prog (RS Tryz.f174) kk)) .normal st9)))) .normal st9))
theorem Bt4(a2:List Int)(a0:Int)(a1:Int)(o3:Int):Aye a2 a0 a1 (A8o L kk a2 a0 a1) o3=ob (Qr L o3) (kQ B kk):=eE (Qr L o3)
def Akb [An A Bool](a0:Int)(a1:Int)(a2:List Int):A:=(bd (Z3 L a2 a0 a1) fun o3=>Qr L o3)
def Gs(a0:Int)(a1:Int)(a2:List Int):Option Bool:=Akb L a0 a1 a2
def Bws:N2:=E3 B 174 (cI .i64) (cI .i64) cl3 (Gs L) fun a0 a1 a2 r h=>hF Tryz.func174 (C:=Avq L) (oS _) L (fun kk=>eE ((ho (Bkl L (A8o L kk a2 a0 a1) a2 a0 a1) fun o3=>Bt4 L kk a2 a0 a1 o3))) h
def Afx [An A Int](a0:Bv):A:=
 (bd (t8 L a0) fun r1=>
 (cn (!r1)
 (lf 1)
 (cn (a0.Op == 1)
 (bd (Gs L 0 1000000000 [a0.A]) fun r2=>
 (cn (!r2)
 (lf 2)
 (lf 0)))
 (cn (a0.Op == 2)
 (bd (Gs L 0 1000000000 [a0.A,a0.B]) fun r3=>
 (jp (.cn r3
 (.lf (decide (a0.A≤a0.B)))
 (.lf false)) (fun b4=>
 (cn (!b4)
 (lf 2)
 (lf 0)))))
 (cn (a0.Op == 4)
 (bd (Gs L 1 20 [a0.N]) fun r5=>
 (cn r5
 (jb (.bd (Gs L 0 1000000 [a0.A,a0.B]) fun r7=>
 (.lf r7)) (fun b6=>
 (jp (.cn b6
 (.lf (decide (a0.A≤a0.B)))
 (.lf false)) (fun b8=>
 (cn (!b8)
 (lf 2)
 (lf 0))))))
 (nq (nq (lf 2)))))
 (cn (a0.Op == 5)
 (bd (Gs L 1 1000 [a0.A,a0.B]) fun r9=>
 (cn (!r9)
 (lf 2)
 (lf 0)))
 (cn (a0.Op == 3)
 (cn ((a0.Values.length:Int) != (a0.Weights.length:Int))
 (lf 8)
 (cn ((a0.Values.length:Int) == 0)
 (lf 7)
 (cn (decide ((a0.Values.length:Int) > 20))
 (lf 6)
 (bd (Gs L 0 1000000000 a0.Values) fun r10=>
 (jb (.cn r10
 (.bd (Gs L 1 1000 a0.Weights) fun r12=>
 (.lf r12))
 (.lf false)) (fun b11=>
 (cn (!b11)
 (lf 2)
 (lf 0))))))))
 (lf 2))))))))
def Oh(a0:Bv):Option Int:=Afx L a0
def Bp6:N2:=E1 I 139 Ac4 (Oh L) fun a0 r h=>hF Tryz.func139 (oS [Bwr L,Bws L]) L (fun kk=>eE (Afx L a0)) h
def Zy [An A Int](a0:Aa)(a1:Gf):A:=
 (cn (a1.Stream.toList == (⟨#[]⟩:ByteArray).toList)
 (bd (Oi L a1.Up (⟨0,0,0,0,[],[]⟩:Bv)) fun r1=>
 (cn (!r1)
 (nq (lf 1))
 (bd (Oi L a1.Down (⟨0,0,0,0,[],[]⟩:Bv)) fun r2=>
 (nq (cn (!r2)
 (lf 1)
 (cn (a1.Stream.toList == (⟨#[]⟩:ByteArray).toList)
 (lf 0)
 (bd (Bt L a0.Streams a1.Stream) fun r3=>
 (cn (!r3)
 (lf 5)
 (bd (Oh L a1.Up) fun r4=>
 (cn (r4 != 0)
 (lf r4)
 (bd (Oh L a1.Down) fun r5=>
 (lf r5))))))))))))
 (nq (cn (a1.Stream.toList == (⟨#[]⟩:ByteArray).toList)
 (lf 0)
 (bd (Bt L a0.Streams a1.Stream) fun r6=>
 (cn (!r6)
 (lf 5)
 (bd (Oh L a1.Up) fun r7=>
 (cn (r7 != 0)
 (lf r7)
 (bd (Oh L a1.Down) fun r8=>
 (lf r8)))))))))
def Ue(a0:Aa)(a1:Gf):Option Int:=Zy L a0 a1
def X93:N2:=E2 I 93 I7 Ay3 (Ue L) fun a0 a1 r h=>hF Tryz.func93 (oS [Bp4 L,Bp5 L,Bp6 L]) L (fun kk=>eE (Zy L a0 a1)) h
def Bi5:=CC Tryz.f140
def Bdp(L:Nat):Bq:=oL []
def Bov:(List Ap)→Prop:=fun x=>kk ((fun(x:List Ap)=>lv (.t190 x)) x)
def Baj(a0:List (List Ap))(v:D2):St:=⟨[(0,lv (.t57 a0)),(2,.lst true (.t190 [])),(3,I v.1),(6,.any),(8,.any),(9,lv (.t57 a0)),(10,I (a0.length:Int)),(11,I v.2),(27,.any)],[],0⟩
def Hn [An A Ki](L:Nat)(a0:List (List Ap))(rec:Int→Int→A)(Bc:Int)(Ih:Int):A:=
 (lw Ih a0
 (cn (decide ((Dp (Bc+((a0.getD (Int.toNat Ih) default).length:Int))) < 0))
 fl
 (rec (Dp (Bc+((a0.getD (Int.toNat Ih) default).length:Int))) (Dp (Ih+1))))
 (lf (0,Bc,Ih)))
def C7(L:Nat)(a0:List (List Ap)):Nat→Int→Int→Option Ki
 |0,_,_=>none
 |n+1,Bc,Ih=>Hn L a0 (C7 L a0 n) Bc Ih
theorem Bll(a0:List (List Ap)):LP (EV (Bdp L) L 9 Bi5.w.l.u.l.l) [0,2,3,6,8,9,10,11,27] [] (Baj a0) [.exit 0] (fun n v=>C7 L a0 n v.1 v.2) K:=lE (fun _=>rfl) fun n v ih=>eE (Hn L a0 (fun Bc Ih=>re (ih (Bc,Ih))) v.1 v.2)
def Bak(a0:List (List Ap))(v:List Ap×Int):St:=⟨[(0,.any),(2,.lst true (.t190 [])),(3,.any),(5,.any),(6,.lst true (.t190 v.1)),(11,.any),(25,lv (.t57 a0)),(26,I (a0.length:Int)),(27,I v.2)],[],0⟩
def Hp [An A (Nat×List Ap×Int)](L:Nat)(a0:List (List Ap))(rec:List Ap→Int→A)(Dz:List Ap)(Agu:Int):A:=
 (lw Agu a0
 (gq ((Dz.length+(a0.getD (Int.toNat Agu) default).length)*24≤140737488355328)
 (gq (Dz.length+(a0.getD (Int.toNat Agu) default).length≤maxLen)
 (rec (Dz++(a0.getD (Int.toNat Agu) default)) (Dp (Agu+1)))))
 (lf (0,Dz,Agu)))
def C8(L:Nat)(a0:List (List Ap)):Nat→List Ap→Int→Option (Nat×List Ap×Int)
 |0,_,_=>none
 |n+1,Dz,Agu=>Hp L a0 (C8 L a0 n) Dz Agu
theorem Blm(a0:List (List Ap)):LP (EV (Bdp L) L 9 Bi5.x.l.u.l.l) [0,2,3,5,6,11,25,26,27] [] (Bak a0) [.exit 2] (fun n v=>C8 L a0 n v.1 v.2) K:=lE (fun _=>rfl) fun n v ih=>eE (Hp L a0 (fun Dz Agu=>re (ih (Dz,Agu))) v.1 v.2)
def Fs [An A (List Ap)](L:Nat)(o2:Nat×List Ap×Int):A:=
 (sl o2.1 [(lf o2.2.1)])
def A7z:Br:=(Ba 2 (Bg (EV (Bdp L) L 9 Bi5.x.r) (Gu Tryz.prog (RS Tryz.f140) kk)))
theorem Btf(a0:List (List Ap))(o2:Nat×List Ap×Int):kX [.exit 2] (Bak a0) (A7z L kk) o2=ob (Fs L o2) (Bov kk):=eE (Fs L o2)
def Hu [An A (List Ap)](L:Nat)(a0:List (List Ap))(o1:Nat×D2)(nx2:A):A:=
 (sl o1.1 [(gq (0≤o1.2.1)
 (gq (o1.2.1*((24:Nat):Int)≤140737488355328)
 (gq (o1.2.1≤(4611686018427387904:Int))
 nx2)))])
def Ht [An A (List Ap)](a0:List (List Ap))(o1:Nat×D2):A:=Hu L a0 o1 (bd (C8 L a0 L [] 0) fun o2=>Fs L o2)
def A7y:Br:=(Ba 0 (Bg (EV (Bdp L) L 9 Bi5.w.r) (Gu Tryz.prog (RS Tryz.f140) kk)))
theorem Bte(a0:List (List Ap))(o1:Nat×D2):kX [.exit 0] (Baj a0) (A7y L kk) o1=ob (Ht L a0 o1) (Bov kk):=eE (Hu L a0 o1 (ho (Blm L (A7z L kk) a0 L ([],0)) fun o2=>Btf L kk a0 o2))
def Vz [An A (List Ap)](a0:List (List Ap)):A:=(bd (C7 L a0 L 0 0) fun o1=>Ht L a0 o1)
def Jk(a0:List (List Ap)):Option (List Ap):=Vz L a0
def Bwk:N2:=E1 (fun(x:List Ap)=>lv (.t190 x)) 140 B3p (Jk L) fun a0 r h=>hF Tryz.func140 (C:=Bdp L) (oS _) L (fun kk=>eE ((ho (Bll L (A7y L kk) a0 L (0,0)) fun o1=>Bte L kk a0 o1))) h
def A6m(F:(List Ac)→Option Int):Prop:=∀y0 r,F y0=some r→Ho Tryz.prog 118 [Aib.en y0] I r
def Bx5:=CC Tryz.f118
def Bpm(Ej:(List Ac)→Option Int)(L:Nat):Bq:=(orc 118 (A1 I Aib Ej) (oL []))
theorem B4p(Ej:(List Ac)→Option Int)(Bev:A6m Ej)(L:Nat):Gd Tryz.prog (Bpm Ej L):=(M5 (a1 _ Bev) (oS []))
def Bag(a0:List Ac)(v:D2):St:=⟨[(0,.any),(2,I 0),(3,I v.1),(8,lv (.t99 a0)),(9,I (a0.length:Int)),(10,I v.2)],[],0⟩
def Wy [An A Ki](Ej:(List Ac)→Option Int)(L:Nat)(a0:List Ac)(rec:Int→Int→A)(Ao:Int)(Bi:Int):A:=
 (lw Bi a0
 (bd (Ej ((a0.getD (Int.toNat Bi) default).Body)) fun r1=>
 (bd (Ej ((a0.getD (Int.toNat Bi) default).Else)) fun r2=>
 (rec (Dp (Ao+(Dp (r1+r2)))) (Dp (Bi+1)))))
 (lf (0,Ao,Bi)))
def Li(Ej:(List Ac)→Option Int)(L:Nat)(a0:List Ac):Nat→Int→Int→Option Ki
 |0,_,_=>none
 |n+1,Ao,Bi=>Wy Ej L a0 (Li Ej L a0 n) Ao Bi
theorem Bli(Ej:(List Ac)→Option Int)(L:Nat)(K:Br)(a0:List Ac):LP (EV (Bpm Ej L) L 9 Bx5.w.l.u.l.l) [0,2,3,8,9,10] [] (Bag a0) [.exit 0] (fun n v=>Li Ej L a0 n v.1 v.2) K:=lE (fun _=>rfl) fun n v ih=>eE (Wy Ej L a0 (fun Ao Bi=>re (ih (Ao,Bi))) v.1 v.2)
def Sp [An A Int](Ej:(List Ac)→Option Int)(L:Nat)(o3:Nat×D2):A:=
 (sl o3.1 [(lf o3.2.1)])
def A7v(Ej:(List Ac)→Option Int)(L:Nat)(kk:Il):Br:=(Ba 0 (Bg (EV (Bpm Ej L) L 9 Bx5.w.r) (Gu Tryz.prog (RS Tryz.f118) kk)))
theorem Btb(Ej:(List Ac)→Option Int)(L:Nat)(kk:Il)(a0:List Ac)(o3:Nat×D2):kX [.exit 0] (Bag a0) (A7v Ej L kk) o3=ob (Sp Ej L o3) (kQ I kk):=eE (Sp Ej L o3)
def Aml [An A Int](Ej:(List Ac)→Option Int)(L:Nat)(a0:List Ac):A:=(bd (Li Ej L a0 L (a0.length:Int) 0) fun o3=>Sp Ej L o3)
def Afo(Ej:(List Ac)→Option Int)(L:Nat)(a0:List Ac):Option Int:=Aml Ej L a0
theorem B3c(Ej:(List Ac)→Option Int)(Bev:A6m Ej)(L:Nat):A6m (Afo Ej L):=fun a0 r h=>hF Tryz.func118 (B4p Ej Bev L) L (fun kk=>eE ((ho (Bli Ej L (A7v Ej L kk) a0 L ((a0.length:Int),0)) fun o3=>Btb Ej L kk a0 o3))) h
def Mg:Nat→(List Ac)→Option Int
 |0,_=>none
 |L+1,a0=>Afo (Mg L) L a0
theorem Bj7(L:Nat):A6m (Mg L):=by
 induction L with
 |zero=>exact fun _ _ h=>(by cases h)
 |succ L ih=>
  have i118:=ih
  exact B3c (Mg L) i118 L
def Bwh(L:Nat):N2:=E1 I 118 Aib (Mg L) (Bj7 L)
def A6n(F:(List Ac)→Option Int):Prop:=∀y0 r,F y0=some r→Ho Tryz.prog 119 [Aib.en y0] I r
def Bx6:=CC Tryz.f119
def Bpn(Ek:(List Ac)→Option Int)(L:Nat):Bq:=(orc 119 (A1 I Aib Ek) (oL []))
theorem B4q(Ek:(List Ac)→Option Int)(Bew:A6n Ek)(L:Nat):Gd Tryz.prog (Bpn Ek L):=(M5 (a1 _ Bew) (oS []))
def Bah(a0:List Ac)(v:D2):St:=⟨[(0,.any),(2,I 0),(3,I v.1),(6,lv (.t99 a0)),(7,I (a0.length:Int)),(8,I v.2)],[],0⟩
def Wz [An A Ki](Ek:(List Ac)→Option Int)(L:Nat)(a0:List Ac)(rec:Int→Int→A)(Ao:Int)(Bi:Int):A:=
 (lw Bi a0
 (bd (Ek ((a0.getD (Int.toNat Bi) default).Body)) fun r1=>
 (bd (Ek ((a0.getD (Int.toNat Bi) default).Else)) fun r2=>
 (rec (if (Dp (1+r2)) > (if (Dp (1+r1)) > Ao then (Dp (1+r1)) else Ao) then (Dp (1+r2)) else (if (Dp (1+r1)) > Ao then (Dp (1+r1)) else Ao)) (Dp (Bi+1)))))
 (lf (0,Ao,Bi)))
def Lj(Ek:(List Ac)→Option Int)(L:Nat)(a0:List Ac):Nat→Int→Int→Option Ki
 |0,_,_=>none
 |n+1,Ao,Bi=>Wz Ek L a0 (Lj Ek L a0 n) Ao Bi
theorem Blj(Ek:(List Ac)→Option Int)(L:Nat)(K:Br)(a0:List Ac):LP (EV (Bpn Ek L) L 9 Bx6.w.l.u.l.l) [0,2,3,6,7,8] [] (Bah a0) [.exit 0] (fun n v=>Lj Ek L a0 n v.1 v.2) K:=lE (fun _=>rfl) fun n v ih=>eE (Wz Ek L a0 (fun Ao Bi=>re (ih (Ao,Bi))) v.1 v.2)
def Sq [An A Int](Ek:(List Ac)→Option Int)(L:Nat)(o3:Nat×D2):A:=
 (sl o3.1 [(lf o3.2.1)])
def A7w(Ek:(List Ac)→Option Int)(L:Nat)(kk:Il):Br:=(Ba 0 (Bg (EV (Bpn Ek L) L 9 Bx6.w.r) (Gu Tryz.prog (RS Tryz.f119) kk)))
theorem Btc(Ek:(List Ac)→Option Int)(L:Nat)(kk:Il)(a0:List Ac)(o3:Nat×D2):kX [.exit 0] (Bah a0) (A7w Ek L kk) o3=ob (Sq Ek L o3) (kQ I kk):=eE (Sq Ek L o3)
def Amm [An A Int](Ek:(List Ac)→Option Int)(L:Nat)(a0:List Ac):A:=(bd (Lj Ek L a0 L 0 0) fun o3=>Sq Ek L o3)
def Afp(Ek:(List Ac)→Option Int)(L:Nat)(a0:List Ac):Option Int:=Amm Ek L a0
theorem B3d(Ek:(List Ac)→Option Int)(Bew:A6n Ek)(L:Nat):A6n (Afp Ek L):=fun a0 r h=>hF Tryz.func119 (B4q Ek Bew L) L (fun kk=>eE ((ho (Blj Ek L (A7w Ek L kk) a0 L (0,0)) fun o3=>Btc Ek L kk a0 o3))) h
def Mh:Nat→(List Ac)→Option Int
 |0,_=>none
 |L+1,a0=>Afp (Mh L) L a0
theorem Bj8(L:Nat):A6n (Mh L):=by
 induction L with
 |zero=>exact fun _ _ h=>(by cases h)
 |succ L ih=>
  have i119:=ih
  exact B3d (Mh L) i119 L
def Bwi(L:Nat):N2:=E1 I 119 Aib (Mh L) (Bj8 L)
def Ab8:=CC Tryz.f149
def Akz(L:Nat):Bq:=oL []
def Axg:(Bm×Bool)→Prop:=fun x=>kk ((fun(x:Bm×Bool)=> .tup [.agg (T1 x.1),B x.2]) x)
def Baa:St:=⟨[(2,.loc 2 0),(3,B false)],[(2,[B false,B false,B false,B false,B false,B false,B false,B false,B false])],0⟩
def A9y(L:Nat)(kk:Il):Br:=(Gu Tryz.prog (RS Tryz.f149) kk)
def Ze [An A (Bm×Bool)](L:Nat):A:=
 (lf ((⟨false,false,false,false,false,false,false,false,false⟩:Bm),false))
theorem Bjk:EV (Akz L) L 9 Ab8.w (Baa) (A9y L kk)=ob (Ze L) (Axg kk):=eE (Ze L)
def Ast(a0:Int)(p803_2:Bool):St:=⟨[(2,.loc 2 0),(3,B false),(4,I a0),(32,B p803_2)],[(2,[B false,B false,B false,B false,B false,B false,B false,B false,B false])],0⟩
def Aso(e0:EC):Br:=(Ba 0 (Bg (EV (Akz L) L 9 e0) (Gu Tryz.prog (RS Tryz.f149) kk)))
def sx_stmt_uses_3 [An A (Bm×Bool)](L:Nat)(a0:Int)(p803_2:Bool)(nx1:A):A:=
 (cn p803_2
 (lf ((⟨true,false,false,false,false,false,false,false,false⟩:Bm),true))
 (cn (a0 == 13)
 (lf ((⟨true,true,true,false,true,false,false,false,false⟩:Bm),true))
 (cn (a0 == 14)
 (lf ((⟨true,false,true,false,true,false,false,false,false⟩:Bm),true))
 (cn (a0 == 18)
 (lf ((⟨false,false,false,false,false,false,false,false,false⟩:Bm),true))
 nx1))))
def Acp [An A (Bm×Bool)](a0:Int)(p803_2:Bool):A:=sx_stmt_uses_3 L a0 p803_2 (Ze L)
theorem Bjv(a0:Int)(p803_2:Bool)(z1:EC):EV (Akz L) L 9 Ab8.u.l.u.l.x.x.w.u.r (Ast a0 p803_2) (Aso L kk (EC.put (rl [1]) z1 Ab8.u.r))= @sx_stmt_uses_3 Prop (anP (Axg kk)) L a0 p803_2 (EV (Akz L) L 9 z1 (Baa) (A9y L kk)):=by kernel_rfl
theorem Bjm(a0:Int)(p803_2:Bool):EV (Akz L) L 9 Ab8.u.l.u.l.x.x.w.u.r (Ast a0 p803_2) (Aso L kk Ab8.u.r)=ob (Acp L a0 p803_2) (Axg kk):=Eq.trans (b:=EV (Akz L) L 9 Ab8.u.l.u.l.x.x.w.u.r (Ast a0 p803_2) (Aso L kk (EC.put (rl [1]) Ab8.w Ab8.u.r))) (by kernel_rfl) ((Bjv L kk a0 p803_2 Ab8.w).trans (eE (sx_stmt_uses_3 L a0 p803_2 (re (Bjk L kk)))))
def Ass(a0:Int)(p802_2:Bool):St:=⟨[(2,.loc 2 0),(3,B false),(4,I a0),(5,B p802_2)],[(2,[B false,B false,B false,B false,B false,B false,B false,B false,B false])],0⟩
def Asn(e0:EC):Br:=(Ba 0 (Bg (EV (Akz L) L 9 e0) (Gu Tryz.prog (RS Tryz.f149) kk)))
def sx_stmt_uses_2 [An A (Bm×Bool)](L:Nat)(a0:Int)(p802_2:Bool)(nx3:Int→Bool→A):A:=
 (cn p802_2
 (lf ((⟨true,false,true,false,false,false,false,false,false⟩:Bm),true))
 (cn (a0 == 2)
 (lf ((⟨true,true,false,false,false,true,false,false,false⟩:Bm),true))
 (cn (a0 == 3)
 (lf ((⟨false,false,true,false,false,false,false,true,true⟩:Bm),true))
 (cn (a0 == 4)
 (lf ((⟨false,false,true,false,false,false,false,true,false⟩:Bm),true))
 (cn (a0 == 5)
 (lf ((⟨false,false,true,false,false,false,false,false,false⟩:Bm),true))
 (cn (a0 == 6)
 (lf ((⟨true,false,true,true,false,false,true,false,false⟩:Bm),true))
 (cn (a0 == 9)
 (lf ((⟨true,true,false,false,false,false,false,false,false⟩:Bm),true))
 (cn (a0 == 10)
 (nx3 a0 (a0 == 10))
 (nx3 a0 (a0 == 11))))))))))
def Aco [An A (Bm×Bool)](a0:Int)(p802_2:Bool):A:=sx_stmt_uses_2 L a0 p802_2 (fun a0 p803_2=>Acp L a0 p803_2)
theorem Bju(a0:Int)(p802_2:Bool)(z3:EC):EV (Akz L) L 9 (EC.put (rl [21]) z3 Ab8.u.l.u.l.u) (Ass a0 p802_2) (Asn L kk Ab8.u.r)= @sx_stmt_uses_2 Prop (anP (Axg kk)) L a0 p802_2 (fun a0 p803_2=>EV (Akz L) L 9 z3 (Ast a0 p803_2) (Aso L kk Ab8.u.r)):=by kernel_rfl
theorem Bjl(a0:Int)(p802_2:Bool):EV (Akz L) L 9 Ab8.u.l.u.l.u (Ass a0 p802_2) (Asn L kk Ab8.u.r)=ob (Aco L a0 p802_2) (Axg kk):=Eq.trans (b:=EV (Akz L) L 9 (EC.put (rl [21]) Ab8.u.l.u.l.x.x.w.u.r Ab8.u.l.u.l.u) (Ass a0 p802_2) (Asn L kk Ab8.u.r)) (by kernel_rfl) ((Bju L kk a0 p802_2 Ab8.u.l.u.l.x.x.w.u.r).trans (eE (sx_stmt_uses_2 L a0 p802_2 (fun a0 p803_2=>re (Bjm L kk a0 p803_2)))))
def sx_stmt_uses_0 [An A (Bm×Bool)](L:Nat)(a0:Int)(nx2:Int→Bool→A):A:=
 (cn (a0 == 1)
 (nx2 a0 (a0 == 1))
 (cn (a0 == 7)
 (nx2 a0 (a0 == 7))
 (cn (a0 == 8)
 (nx2 a0 (a0 == 8))
 (cn (a0 == 12)
 (nx2 a0 (a0 == 12))
 (cn (a0 == 15)
 (nx2 a0 (a0 == 15))
 (cn (a0 == 16)
 (nx2 a0 (a0 == 16))
 (nx2 a0 (a0 == 17))))))))
def Aqj [An A (Bm×Bool)](a0:Int):A:=sx_stmt_uses_0 L a0 (fun a0 p802_2=>Aco L a0 p802_2)
theorem Bjt(a0:Int)(z2:EC):EW (Akz L) L 9 (RS Tryz.f149) (EC.put (rl [2,1,2,1,2]) z2 Ab8) [I a0] kk= @sx_stmt_uses_0 Prop (anP (Axg kk)) L a0 (fun a0 p802_2=>EV (Akz L) L 9 z2 (Ass a0 p802_2) (Asn L kk Ab8.u.r)):=by kernel_rfl
def w6(a0:Int):Option (Bm×Bool):=Aqj L a0
def Bp7:N2:=E1 (fun(x:Bm×Bool)=> .tup [.agg (T1 x.1),B x.2]) 149 (cI .i64) (w6 L) fun a0 r h=>hF Tryz.func149 (C:=Akz L) (oS _) L (fun kk=>Eq.trans (b:=EW (Akz L) L 9 (RS Tryz.f149) (EC.put (rl [2,1,2,1,2]) Ab8.u.l.u.l.u Ab8) [I a0] kk) (by kernel_rfl) ((Bjt L kk a0 Ab8.u.l.u.l.u).trans (eE (sx_stmt_uses_0 L a0 (fun a0 p802_2=>re (Bjl L kk a0 p802_2)))))) h
def A6p(F:Ab→Ab→Option Bool):Prop:=∀y0 y1 r,F y0 y1=some r→Ho Tryz.prog 181 [Ct.en y0,Ct.en y1] B r
def Byi:=CC Tryz.f181
def Bpu(Eh:Ab→Ab→Option Bool)(L:Nat):Bq:=(orc 181 (A2 B Ct Ct Eh) (oL []))
theorem B4s(Eh:Ab→Ab→Option Bool)(Bey:A6p Eh)(L:Nat):Gd Tryz.prog (Bpu Eh L):=(M5 (a2 _ Bey) (oS []))
def Bax(a0:Ab)(a1:Ab)(v:Bool×Int):St:=⟨[(0,.any),(1,.any),(2,.any),(3,.loc 3 0),(4,B v.1),(36,lv (.t94 a0.Kids)),(37,I (a0.Kids.length:Int)),(38,I v.2)],[(2,F3 a0),(3,F3 a1)],0⟩
def Yy [An A (Nat×Bool×Int)](Eh:Ab→Ab→Option Bool)(L:Nat)(a0:Ab)(a1:Ab)(rec:Bool→Int→A)(Au:Bool)(Al:Int):A:=
 (lw Al a0.Kids
 (gi Al a1.Kids
 (bd (Eh (Ab.cp (a0.Kids.getD (Int.toNat Al) default)) (Ab.cp (a1.Kids.getD (Int.toNat Al) default))) fun r4=>
 (cn (!r4)
 (lf (0,false,Al))
 (rec Au (Dp (Al+1))))))
 (lf (1,Au,Al)))
def Nc(Eh:Ab→Ab→Option Bool)(L:Nat)(a0:Ab)(a1:Ab):Nat→Bool→Int→Option (Nat×Bool×Int)
 |0,_,_=>none
 |n+1,Au,Al=>Yy Eh L a0 a1 (Nc Eh L a0 a1 n) Au Al
theorem Blz(Eh:Ab→Ab→Option Bool)(L:Nat)(K:Br)(a0:Ab)(a1:Ab):LP (EV (Bpu Eh L) L 9 Byi.w.l.u.l.l) [0,1,2,3,4,36,37,38] [2,3] (Bax a0 a1) [.ret,.exit 0] (fun n v=>Nc Eh L a0 a1 n v.1 v.2) K:=lE (fun _=>rfl) fun n v ih=>eE (Yy Eh L a0 a1 (fun Au Al=>re (ih (Au,Al))) v.1 v.2)
def T8 [An A Bool](Eh:Ab→Ab→Option Bool)(L:Nat)(o5:Nat×Bool×Int):A:=
 (sl o5.1 [(lf o5.2.1),
 (lf true)])
def A8p(Eh:Ab→Ab→Option Bool)(L:Nat)(kk:Il):Br:=(Ba 0 (Bg (EV (Bpu Eh L) L 9 Byi.w.r) (Gu Tryz.prog (RS Tryz.f181) kk)))
theorem Bt5(Eh:Ab→Ab→Option Bool)(L:Nat)(kk:Il)(a0:Ab)(a1:Ab)(o5:Nat×Bool×Int):kX [.ret,.exit 0] (Bax a0 a1) (A8p Eh L kk) o5=ob (T8 Eh L o5) (kQ B kk):=eE (T8 Eh L o5)
def Zh [An A Bool](Eh:Ab→Ab→Option Bool)(L:Nat)(a0:Ab)(a1:Ab)(nx1:A):A:=
 (jp (.cn (a0.Op != a1.Op)
 (.lf true)
 (.lf (!(a0.Name.toList == a1.Name.toList)))) (fun b1=>
 (jp (.cn b1
 (.lf true)
 (.lf (a0.N != a1.N))) (fun b2=>
 (jp (.cn b2
 (.lf true)
 (.lf ((a0.Kids.length:Int) != (a1.Kids.length:Int)))) (fun b3=>
 (cn b3
 (lf false)
 nx1)))))))
def Aqi [An A Bool](Eh:Ab→Ab→Option Bool)(L:Nat)(a0:Ab)(a1:Ab):A:=Zh Eh L a0 a1 (bd (Nc Eh L a0 a1 L false 0) fun o5=>T8 Eh L o5)
def Ahu(Eh:Ab→Ab→Option Bool)(L:Nat)(a0:Ab)(a1:Ab):Option Bool:=Aqi Eh L a0 a1
theorem B3f(Eh:Ab→Ab→Option Bool)(Bey:A6p Eh)(L:Nat):A6p (Ahu Eh L):=fun a0 a1 r h=>hF Tryz.func181 (B4s Eh Bey L) L (fun kk=>eE (Zh Eh L a0 a1 (ho (Blz Eh L (A8p Eh L kk) a0 a1 L (false,0)) fun o5=>Bt5 Eh L kk a0 a1 o5))) h
def Ok:Nat→Ab→Ab→Option Bool
 |0,_,_=>none
 |L+1,a0,a1=>Ahu (Ok L) L a0 a1
theorem Bka(L:Nat):A6p (Ok L):=by
 induction L with
 |zero=>exact fun _ _ _ h=>(by cases h)
 |succ L ih=>
  have i181:=ih
  exact B3f (Ok L) i181 L
def Bwt(L:Nat):N2:=E2 B 181 Ct Ct (Ok L) (Bka L)
end
end Go.Proofs.YtfencmicmnhglaaGreat.Ev
