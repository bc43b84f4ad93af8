import Derived.Test.YthjhkpgonleelaaGreatDoorAG0
namespace Go.Proofs.YthjhkpgonleelaaGreatDoor.Ev
open Go An
set_option maxRecDepth 100000
set_option maxHeartbeats 4000000
set_option linter.unusedVariables false
set_option linter.unusedSimpArgs false
set_option linter.unnecessarySimpa false
noncomputable section
variable {A:Type} (L n:Nat) (kk:Cc) (K:Bg) (k:Bu)
def c41:=CC Tryz.f41
def c22:=CC Tryz.f22
def O22(L:Nat):Bi:=oL []
def Bu8:Ak→Prop:=fun x=>kk ((fun(x:Ak)=> .agg (Em x)) x)
def Bcv(a1:List Bl)(Ae:Int)(a2:Int)(a3:Int)(b1:Bool)(a0:Ac)(Ap:List Au)(Ax:List Bool)(Az:List Int)(Aq:List Int)(A9:List Int)(n:Nat)(K:Bg):Bg:=(Bb 1 (Bb 0 (Cx Tryz.prog (RS Tryz.f41) (B2 Tryz.prog (O22 L) (EI (O22 L) L 9) 0 (List.drop 3 c22.w.l.u.l.l.w.l.l.w.l.ops) ⟨[(37,.agg (Dd (a1.getD (Int.toNat Ae) default))),(36,.loc 19 0),(2,I a2),(3,I a3),(8,.loc 8 0),(9,.loc 19 0),(11,.loc 11 0),(20,lv (.t46 a1)),(21,I (a1.length:Int)),(22,I Ae),(23,B (decide (Ae < (a1.length:Int)))),(24,.ref (Dd (a1.getD (Int.toNat Ae) default))),(25,.agg (Dd (a1.getD (Int.toNat Ae) default))),(26,.loc 11 1),(27,I (a1.getD (Int.toNat Ae) default).Site),(28,I a2),(29,B ((a1.getD (Int.toNat Ae) default).Site == a2)),(30,B ((a1.getD (Int.toNat Ae) default).Site == a2)),(35,B b1)],[(4,(Bh a0)),(8,[I 0,I 0,.lst true (.t3 []),.lst true (.t3 []),.lst true (.t3 []),.lst true (.t3 [])]),(11,(Dd (a1.getD (Int.toNat Ae) default))),(17,[.mapO true false (.t109 Ap) (.t4 Ax)]),(19,[I a3,I a2,.vw false 1030 3 1 (Int.toNat (((a0.Sites.getD (Int.toNat a2) default).Routines).length:Int)),.vw false 1034 3 1 (Int.toNat ((((a0.Sites.getD (Int.toNat a2) default).Decl).Resources).length:Int)),.vw false 1038 3 1 (Int.toNat ((((a0.Sites.getD (Int.toNat a2) default).Decl).Resources).length:Int)),.vw false 1042 3 1 (Int.toNat ((((a0.Sites.getD (Int.toNat a2) default).Decl).Stores).length:Int)),.mp 17]),(1012,(Bh a0)),(1015,[I a3,I a2,.vw false 1030 3 1 (Int.toNat (((a0.Sites.getD (Int.toNat a2) default).Routines).length:Int)),.vw false 1034 3 1 (Int.toNat ((((a0.Sites.getD (Int.toNat a2) default).Decl).Resources).length:Int)),.vw false 1038 3 1 (Int.toNat ((((a0.Sites.getD (Int.toNat a2) default).Decl).Resources).length:Int)),.vw false 1042 3 1 (Int.toNat ((((a0.Sites.getD (Int.toNat a2) default).Decl).Stores).length:Int))]),(1016,[S ((a0.Sites.getD (Int.toNat a2) default).Decl).Name,lv (.t123 (((a0.Sites.getD (Int.toNat a2) default).Decl).Vars)),lv (.t86 (((a0.Sites.getD (Int.toNat a2) default).Decl).Resources)),lv (.t89 (((a0.Sites.getD (Int.toNat a2) default).Decl).Stores)),lv (.t178 (((a0.Sites.getD (Int.toNat a2) default).Decl).Belts)),lv (.t9 (((a0.Sites.getD (Int.toNat a2) default).Decl).Queues)),lv (.t9 (((a0.Sites.getD (Int.toNat a2) default).Decl).Streams)),lv (.t9 (((a0.Sites.getD (Int.toNat a2) default).Decl).Tallies)),lv (.t9 (((a0.Sites.getD (Int.toNat a2) default).Decl).Levels)),lv (.t9 (((a0.Sites.getD (Int.toNat a2) default).Decl).Counts)),lv (.t93 (((a0.Sites.getD (Int.toNat a2) default).Decl).Routines)),lv (.t150 (((a0.Sites.getD (Int.toNat a2) default).Decl).Starts)),lv (.t154 (((a0.Sites.getD (Int.toNat a2) default).Decl).Laws)),lv (.t78 ((a0.Sites.getD (Int.toNat a2) default).Routines))]),(1017,(Ad ((a0.Sites.getD (Int.toNat a2) default).Decl))),(1030,[.arrO (.t3 Az)]),(1034,[.arrO (.t3 Aq)]),(1038,[.arrO (.t3 (List.replicate (Int.toNat ((((a0.Sites.getD (Int.toNat a2) default).Decl).Resources).length:Int)) 0))]),(1042,[.arrO (.t3 A9)])],0⟩ (some 38) (fun st9=>(Bb 1 (Bp (EV (O22 L) L 9 c22.w.l.u.l.l.w.r) (D4 (Ep (EV (O22 L) L 9 c22.w.l.u.l.l) [0,1,2,3,4,8,9,12,19,20,21,22] [4,8,17,19,1012,1015,1016,1017,1030,1034,1038,1042] n) [0,1,2,3,4,8,9,12,19,20,21,22] [4,8,17,19,1012,1015,1016,1017,1030,1034,1038,1042] K))) .normal st9)))))
def Bdo(a0:Ac)(a2:Int)(a1:List Bl)(Ae:Int)(a3:Int)(Az:List Int)(Aq:List Int)(A9:List Int)(v:Art):St:=⟨[(0,.loc 19 0),(1,.any),(3,.loc 2046 0),(7,.any),(17,.any),(32,I ((Int.toNat ((((a0.Sites.getD (Int.toNat a2) default).Decl).Resources).length:Int)):Int)),(33,I v.1),(45,.any),(55,.any),(65,.any)],[(4,(Bh a0)),(8,[I 0,I 0,.lst true (.t3 []),.lst true (.t3 []),.lst true (.t3 []),.lst true (.t3 [])]),(11,(Dd (a1.getD (Int.toNat Ae) default))),(17,[.mapO true false (.t109 v.2.1) (.t4 v.2.2)]),(19,[I a3,I a2,.vw false 1030 3 1 (Int.toNat (((a0.Sites.getD (Int.toNat a2) default).Routines).length:Int)),.vw false 1034 3 1 (Int.toNat ((((a0.Sites.getD (Int.toNat a2) default).Decl).Resources).length:Int)),.vw false 1038 3 1 (Int.toNat ((((a0.Sites.getD (Int.toNat a2) default).Decl).Resources).length:Int)),.vw false 1042 3 1 (Int.toNat ((((a0.Sites.getD (Int.toNat a2) default).Decl).Stores).length:Int)),.mp 17]),(1012,(Bh a0)),(1015,[I a3,I a2,.vw false 1030 3 1 (Int.toNat (((a0.Sites.getD (Int.toNat a2) default).Routines).length:Int)),.vw false 1034 3 1 (Int.toNat ((((a0.Sites.getD (Int.toNat a2) default).Decl).Resources).length:Int)),.vw false 1038 3 1 (Int.toNat ((((a0.Sites.getD (Int.toNat a2) default).Decl).Resources).length:Int)),.vw false 1042 3 1 (Int.toNat ((((a0.Sites.getD (Int.toNat a2) default).Decl).Stores).length:Int))]),(1016,[S ((a0.Sites.getD (Int.toNat a2) default).Decl).Name,lv (.t123 (((a0.Sites.getD (Int.toNat a2) default).Decl).Vars)),lv (.t86 (((a0.Sites.getD (Int.toNat a2) default).Decl).Resources)),lv (.t89 (((a0.Sites.getD (Int.toNat a2) default).Decl).Stores)),lv (.t178 (((a0.Sites.getD (Int.toNat a2) default).Decl).Belts)),lv (.t9 (((a0.Sites.getD (Int.toNat a2) default).Decl).Queues)),lv (.t9 (((a0.Sites.getD (Int.toNat a2) default).Decl).Streams)),lv (.t9 (((a0.Sites.getD (Int.toNat a2) default).Decl).Tallies)),lv (.t9 (((a0.Sites.getD (Int.toNat a2) default).Decl).Levels)),lv (.t9 (((a0.Sites.getD (Int.toNat a2) default).Decl).Counts)),lv (.t93 (((a0.Sites.getD (Int.toNat a2) default).Decl).Routines)),lv (.t150 (((a0.Sites.getD (Int.toNat a2) default).Decl).Starts)),lv (.t154 (((a0.Sites.getD (Int.toNat a2) default).Decl).Laws)),lv (.t78 ((a0.Sites.getD (Int.toNat a2) default).Routines))]),(1017,(Ad ((a0.Sites.getD (Int.toNat a2) default).Decl))),(1030,[.arrO (.t3 (Az.set (Int.toNat ((a1.getD (Int.toNat Ae) default).Index)) (Bo ((Az.getD (Int.toNat ((a1.getD (Int.toNat Ae) default).Index)) default)+(-1)))))]),(1034,[.arrO (.t3 Aq)]),(1038,[.arrO (.t3 (List.replicate (Int.toNat ((((a0.Sites.getD (Int.toNat a2) default).Decl).Resources).length:Int)) 0))]),(1042,[.arrO (.t3 A9)]),(2046,(Dd (a1.getD (Int.toNat Ae) default)))],2043⟩
def Qn [An A (Nat×Art)](L:Nat)(a0:Ac)(a2:Int)(a1:List Bl)(Ae:Int)(a3:Int)(Az:List Int)(Aq:List Int)(A9:List Int)(rec:Int→List Au→List Bool→A)(Gm:Int)(Gh:List Au)(Gn:List Bool):A:=
 (cn (decide (Gm < ((Int.toNat ((((a0.Sites.getD (Int.toNat a2) default).Decl).Resources).length:Int)):Int)))
 (fq (Gh.findIdx? fun b=>((a1.getD (Int.toNat Ae) default).Proc == b.u_proc && (Gm == b.u_resource))) (fun i4=>
 (rec (Bo (Gm+1)) ((Gh.take i4).drop 0++(Gh.take Gh.length).drop (i4+1)) ((Gn.take i4).drop 0++(Gn.take Gn.length).drop (i4+1))))
 (rec (Bo (Gm+1)) Gh Gn))
 (lf (0,Gm,Gh,Gn)))
def Jp(L:Nat)(a0:Ac)(a2:Int)(a1:List Bl)(Ae:Int)(a3:Int)(Az:List Int)(Aq:List Int)(A9:List Int):Nat→Int→List Au→List Bool→Option (Nat×Art)
 |0,_,_,_=>none
 |n+1,Gm,Gh,Gn=>Qn L a0 a2 a1 Ae a3 Az Aq A9 (Jp L a0 a2 a1 Ae a3 Az Aq A9 n) Gm Gh Gn
theorem Bnt(a0:Ac)(a2:Int)(a1:List Bl)(Ae:Int)(a3:Int)(Az:List Int)(Aq:List Int)(A9:List Int):LP (EV (O22 L) L 8 c41.w.l.w.r.l.w.l.l) [0,1,3,7,17,32,33,45,55,65] [4,8,11,17,19,1012,1015,1016,1017,1030,1034,1038,1042,2046] (Bdo a0 a2 a1 Ae a3 Az Aq A9) [.exit 1] (fun n v=>Jp L a0 a2 a1 Ae a3 Az Aq A9 n v.1 v.2.1 v.2.2) K:=lE (fun _=>rfl) fun n v ih=>eE (Qn L a0 a2 a1 Ae a3 Az Aq A9 (fun Gm Gh Gn=>re (ih (Gm,Gh,Gn))) v.1 v.2.1 v.2.2)
def Bdp(a0:Ac)(a2:Int)(a1:List Bl)(Ae:Int)(a3:Int)(Az:List Int)(Aq:List Int)(A9:List Int)(v:Art):St:=⟨[(0,.loc 19 0),(1,.any),(3,.loc 2046 0),(7,.any),(17,.any),(32,I ((Int.toNat ((((a0.Sites.getD (Int.toNat a2) default).Decl).Resources).length:Int)):Int)),(33,I v.1),(45,.any),(55,.any),(65,.any)],[(4,(Bh a0)),(8,[I 0,I 0,.lst true (.t3 []),.lst true (.t3 []),.lst true (.t3 []),.lst true (.t3 [])]),(11,(Dd (a1.getD (Int.toNat Ae) default))),(17,[.mapO true false (.t109 v.2.1) (.t4 v.2.2)]),(19,[I a3,I a2,.vw false 1030 3 1 (Int.toNat (((a0.Sites.getD (Int.toNat a2) default).Routines).length:Int)),.vw false 1034 3 1 (Int.toNat ((((a0.Sites.getD (Int.toNat a2) default).Decl).Resources).length:Int)),.vw false 1038 3 1 (Int.toNat ((((a0.Sites.getD (Int.toNat a2) default).Decl).Resources).length:Int)),.vw false 1042 3 1 (Int.toNat ((((a0.Sites.getD (Int.toNat a2) default).Decl).Stores).length:Int)),.mp 17]),(1012,(Bh a0)),(1015,[I a3,I a2,.vw false 1030 3 1 (Int.toNat (((a0.Sites.getD (Int.toNat a2) default).Routines).length:Int)),.vw false 1034 3 1 (Int.toNat ((((a0.Sites.getD (Int.toNat a2) default).Decl).Resources).length:Int)),.vw false 1038 3 1 (Int.toNat ((((a0.Sites.getD (Int.toNat a2) default).Decl).Resources).length:Int)),.vw false 1042 3 1 (Int.toNat ((((a0.Sites.getD (Int.toNat a2) default).Decl).Stores).length:Int))]),(1016,[S ((a0.Sites.getD (Int.toNat a2) default).Decl).Name,lv (.t123 (((a0.Sites.getD (Int.toNat a2) default).Decl).Vars)),lv (.t86 (((a0.Sites.getD (Int.toNat a2) default).Decl).Resources)),lv (.t89 (((a0.Sites.getD (Int.toNat a2) default).Decl).Stores)),lv (.t178 (((a0.Sites.getD (Int.toNat a2) default).Decl).Belts)),lv (.t9 (((a0.Sites.getD (Int.toNat a2) default).Decl).Queues)),lv (.t9 (((a0.Sites.getD (Int.toNat a2) default).Decl).Streams)),lv (.t9 (((a0.Sites.getD (Int.toNat a2) default).Decl).Tallies)),lv (.t9 (((a0.Sites.getD (Int.toNat a2) default).Decl).Levels)),lv (.t9 (((a0.Sites.getD (Int.toNat a2) default).Decl).Counts)),lv (.t93 (((a0.Sites.getD (Int.toNat a2) default).Decl).Routines)),lv (.t150 (((a0.Sites.getD (Int.toNat a2) default).Decl).Starts)),lv (.t154 (((a0.Sites.getD (Int.toNat a2) default).Decl).Laws)),lv (.t78 ((a0.Sites.getD (Int.toNat a2) default).Routines))]),(1017,(Ad ((a0.Sites.getD (Int.toNat a2) default).Decl))),(1030,[.arrO (.t3 Az)]),(1034,[.arrO (.t3 Aq)]),(1038,[.arrO (.t3 (List.replicate (Int.toNat ((((a0.Sites.getD (Int.toNat a2) default).Decl).Resources).length:Int)) 0))]),(1042,[.arrO (.t3 A9)]),(2046,(Dd (a1.getD (Int.toNat Ae) default)))],2043⟩
def Qo [An A (Nat×Art)](L:Nat)(a0:Ac)(a2:Int)(a1:List Bl)(Ae:Int)(a3:Int)(Az:List Int)(Aq:List Int)(A9:List Int)(rec:Int→List Au→List Bool→A)(Gu:Int)(Ef:List Au)(Gp:List Bool):A:=
 (cn (decide (Gu < ((Int.toNat ((((a0.Sites.getD (Int.toNat a2) default).Decl).Resources).length:Int)):Int)))
 (fq (Ef.findIdx? fun b=>((a1.getD (Int.toNat Ae) default).Proc == b.u_proc && (Gu == b.u_resource))) (fun i5=>
 (rec (Bo (Gu+1)) ((Ef.take i5).drop 0++(Ef.take Ef.length).drop (i5+1)) ((Gp.take i5).drop 0++(Gp.take Gp.length).drop (i5+1))))
 (rec (Bo (Gu+1)) Ef Gp))
 (lf (0,Gu,Ef,Gp)))
def Jq(L:Nat)(a0:Ac)(a2:Int)(a1:List Bl)(Ae:Int)(a3:Int)(Az:List Int)(Aq:List Int)(A9:List Int):Nat→Int→List Au→List Bool→Option (Nat×Art)
 |0,_,_,_=>none
 |n+1,Gu,Ef,Gp=>Qo L a0 a2 a1 Ae a3 Az Aq A9 (Jq L a0 a2 a1 Ae a3 Az Aq A9 n) Gu Ef Gp
theorem Bnu(a0:Ac)(a2:Int)(a1:List Bl)(Ae:Int)(a3:Int)(Az:List Int)(Aq:List Int)(A9:List Int):LP (EV (O22 L) L 8 c41.w.l.w.r.l.w.l.l) [0,1,3,7,17,32,33,45,55,65] [4,8,11,17,19,1012,1015,1016,1017,1030,1034,1038,1042,2046] (Bdp a0 a2 a1 Ae a3 Az Aq A9) [.exit 1] (fun n v=>Jq L a0 a2 a1 Ae a3 Az Aq A9 n v.1 v.2.1 v.2.2) K:=lE (fun _=>rfl) fun n v ih=>eE (Qo L a0 a2 a1 Ae a3 Az Aq A9 (fun Gu Ef Gp=>re (ih (Gu,Ef,Gp))) v.1 v.2.1 v.2.2)
def Avo(a2:Int)(a3:Int)(a1:List Bl)(a0:Ac)(v:Tu8):St:=⟨[(0,.any),(1,.any),(2,I a2),(3,I a3),(4,.any),(8,.loc 8 0),(9,.loc 19 0),(12,.any),(19,.any),(20,lv (.t46 a1)),(21,I (a1.length:Int)),(22,I v.1)],[(4,(Bh a0)),(8,[I 0,I 0,.lst true (.t3 []),.lst true (.t3 []),.lst true (.t3 []),.lst true (.t3 [])]),(17,[.mapO true false (.t109 v.2.1) (.t4 v.2.2.1)]),(19,[I a3,I a2,.vw false 1030 3 1 (Int.toNat (((a0.Sites.getD (Int.toNat a2) default).Routines).length:Int)),.vw false 1034 3 1 (Int.toNat ((((a0.Sites.getD (Int.toNat a2) default).Decl).Resources).length:Int)),.vw false 1038 3 1 (Int.toNat ((((a0.Sites.getD (Int.toNat a2) default).Decl).Resources).length:Int)),.vw false 1042 3 1 (Int.toNat ((((a0.Sites.getD (Int.toNat a2) default).Decl).Stores).length:Int)),.mp 17]),(1012,(Bh a0)),(1015,[I a3,I a2,.vw false 1030 3 1 (Int.toNat (((a0.Sites.getD (Int.toNat a2) default).Routines).length:Int)),.vw false 1034 3 1 (Int.toNat ((((a0.Sites.getD (Int.toNat a2) default).Decl).Resources).length:Int)),.vw false 1038 3 1 (Int.toNat ((((a0.Sites.getD (Int.toNat a2) default).Decl).Resources).length:Int)),.vw false 1042 3 1 (Int.toNat ((((a0.Sites.getD (Int.toNat a2) default).Decl).Stores).length:Int))]),(1016,[S ((a0.Sites.getD (Int.toNat a2) default).Decl).Name,lv (.t123 (((a0.Sites.getD (Int.toNat a2) default).Decl).Vars)),lv (.t86 (((a0.Sites.getD (Int.toNat a2) default).Decl).Resources)),lv (.t89 (((a0.Sites.getD (Int.toNat a2) default).Decl).Stores)),lv (.t178 (((a0.Sites.getD (Int.toNat a2) default).Decl).Belts)),lv (.t9 (((a0.Sites.getD (Int.toNat a2) default).Decl).Queues)),lv (.t9 (((a0.Sites.getD (Int.toNat a2) default).Decl).Streams)),lv (.t9 (((a0.Sites.getD (Int.toNat a2) default).Decl).Tallies)),lv (.t9 (((a0.Sites.getD (Int.toNat a2) default).Decl).Levels)),lv (.t9 (((a0.Sites.getD (Int.toNat a2) default).Decl).Counts)),lv (.t93 (((a0.Sites.getD (Int.toNat a2) default).Decl).Routines)),lv (.t150 (((a0.Sites.getD (Int.toNat a2) default).Decl).Starts)),lv (.t154 (((a0.Sites.getD (Int.toNat a2) default).Decl).Laws)),lv (.t78 ((a0.Sites.getD (Int.toNat a2) default).Routines))]),(1017,(Ad ((a0.Sites.getD (Int.toNat a2) default).Decl))),(1030,[.arrO (.t3 v.2.2.2.1)]),(1034,[.arrO (.t3 v.2.2.2.2.1)]),(1038,[.arrO (.t3 (List.replicate (Int.toNat ((((a0.Sites.getD (Int.toNat a2) default).Decl).Resources).length:Int)) 0))]),(1042,[.arrO (.t3 v.2.2.2.2.2)])],0⟩
def Ju [An A (Nat×Tu8)](L:Nat)(Ae:Int)(Az:List Int)(a1:List Bl)(Aq:List Int)(A9:List Int)(rec:Int→List Au→List Bool→List Int→List Int→List Int→A)(o72:Nat×Art):A:=
 (sl o72.1 [(rec (Bo (Ae+1)) o72.2.2.1 o72.2.2.2 (Az.set (Int.toNat ((a1.getD (Int.toNat Ae) default).Index)) (Bo ((Az.getD (Int.toNat ((a1.getD (Int.toNat Ae) default).Index)) default)+(-1)))) Aq A9)])
def Jv [An A (Nat×Tu8)](L:Nat)(Ae:Int)(Az:List Int)(Aq:List Int)(A9:List Int)(rec:Int→List Au→List Bool→List Int→List Int→List Int→A)(o73:Nat×Art):A:=
 (sl o73.1 [(rec (Bo (Ae+1)) o73.2.2.1 o73.2.2.2 Az Aq A9)])
def Re [An A (Nat×Tu8)](L:Nat)(a2:Int)(a3:Int)(a1:List Bl)(a0:Ac)(rec:Int→List Au→List Bool→List Int→List Int→List Int→A)(Ae:Int)(Ap:List Au)(Ax:List Bool)(Az:List Int)(Aq:List Int)(A9:List Int)(nx1:Int→(List Int)→(List Int)→(List Int)→(List Au)→(List Bool)→Bool→A)(nx2:Int→(List Int)→(List Int)→(List Int)→(List Au)→(List Bool)→Bool→A):A:=
 (lw Ae a1
 (jp (.cn ((a1.getD (Int.toNat Ae) default).Site == a2)
 (.lf (decide ((a1.getD (Int.toNat Ae) default).Time≤a3)))
 (.lf false)) (fun b1=>
 (cn b1
 (cn ((a1.getD (Int.toNat Ae) default).What == 1)
 (jp (.cn (decide ((a1.getD (Int.toNat Ae) default).Index≥0))
 (.lf (decide ((a1.getD (Int.toNat Ae) default).Index < ((Int.toNat (((a0.Sites.getD (Int.toNat a2) default).Routines).length:Int)):Int))))
 (.lf false)) (fun b2=>
 (cn b2
 (gq (0≤(a1.getD (Int.toNat Ae) default).Index)
 (gq ((a1.getD (Int.toNat Ae) default).Index < (((Int.toNat (((a0.Sites.getD (Int.toNat a2) default).Routines).length:Int)):Nat):Int))
 (gq (0≤(a1.getD (Int.toNat Ae) default).Index)
 (gq ((a1.getD (Int.toNat Ae) default).Index < (((Int.toNat (((a0.Sites.getD (Int.toNat a2) default).Routines).length:Int)):Nat):Int))
 (rec (Bo (Ae+1)) Ap Ax (Az.set (Int.toNat ((a1.getD (Int.toNat Ae) default).Index)) (Bo ((Az.getD (Int.toNat ((a1.getD (Int.toNat Ae) default).Index)) default)+1))) Aq A9)))))
 (rec (Bo (Ae+1)) Ap Ax Az Aq A9))))
 (cn ((a1.getD (Int.toNat Ae) default).What == 2)
 (jp (.cn (decide ((a1.getD (Int.toNat Ae) default).Index≥0))
 (.lf (decide ((a1.getD (Int.toNat Ae) default).Index < ((Int.toNat (((a0.Sites.getD (Int.toNat a2) default).Routines).length:Int)):Int))))
 (.lf false)) (fun b3=>
 (cn b3
 (gq (0≤(a1.getD (Int.toNat Ae) default).Index)
 (gq ((a1.getD (Int.toNat Ae) default).Index < (((Int.toNat (((a0.Sites.getD (Int.toNat a2) default).Routines).length:Int)):Nat):Int))
 (gq (0≤(a1.getD (Int.toNat Ae) default).Index)
 (gq ((a1.getD (Int.toNat Ae) default).Index < (((Int.toNat (((a0.Sites.getD (Int.toNat a2) default).Routines).length:Int)):Nat):Int))
 (nx1 Ae Az Aq A9 Ap Ax b1)))))
 (nx2 Ae Az Aq A9 Ap Ax b1))))
 (cn ((a1.getD (Int.toNat Ae) default).What == 8)
 (jp (.cn (decide ((a1.getD (Int.toNat Ae) default).Index≥0))
 (.lf (decide ((a1.getD (Int.toNat Ae) default).Index < ((Int.toNat ((((a0.Sites.getD (Int.toNat a2) default).Decl).Stores).length:Int)):Int))))
 (.lf false)) (fun b6=>
 (cn b6
 (gq (0≤(a1.getD (Int.toNat Ae) default).Index)
 (gq ((a1.getD (Int.toNat Ae) default).Index < (((Int.toNat ((((a0.Sites.getD (Int.toNat a2) default).Decl).Stores).length:Int)):Nat):Int))
 (gq (0≤(a1.getD (Int.toNat Ae) default).Index)
 (gq ((a1.getD (Int.toNat Ae) default).Index < (((Int.toNat ((((a0.Sites.getD (Int.toNat a2) default).Decl).Stores).length:Int)):Nat):Int))
 (rec (Bo (Ae+1)) Ap Ax Az Aq (A9.set (Int.toNat ((a1.getD (Int.toNat Ae) default).Index)) (Bo ((A9.getD (Int.toNat ((a1.getD (Int.toNat Ae) default).Index)) default)+1))))))))
 (rec (Bo (Ae+1)) Ap Ax Az Aq A9))))
 (cn ((a1.getD (Int.toNat Ae) default).What == 9)
 (jp (.cn (decide ((a1.getD (Int.toNat Ae) default).Index≥0))
 (.lf (decide ((a1.getD (Int.toNat Ae) default).Index < ((Int.toNat ((((a0.Sites.getD (Int.toNat a2) default).Decl).Stores).length:Int)):Int))))
 (.lf false)) (fun b7=>
 (cn b7
 (gq (0≤(a1.getD (Int.toNat Ae) default).Index)
 (gq ((a1.getD (Int.toNat Ae) default).Index < (((Int.toNat ((((a0.Sites.getD (Int.toNat a2) default).Decl).Stores).length:Int)):Nat):Int))
 (gq (0≤(a1.getD (Int.toNat Ae) default).Index)
 (gq ((a1.getD (Int.toNat Ae) default).Index < (((Int.toNat ((((a0.Sites.getD (Int.toNat a2) default).Decl).Stores).length:Int)):Nat):Int))
 (rec (Bo (Ae+1)) Ap Ax Az Aq (A9.set (Int.toNat ((a1.getD (Int.toNat Ae) default).Index)) (Bo ((A9.getD (Int.toNat ((a1.getD (Int.toNat Ae) default).Index)) default)+(-1)))))))))
 (rec (Bo (Ae+1)) Ap Ax Az Aq A9))))
 (cn ((a1.getD (Int.toNat Ae) default).What == 4)
 (cn ((a1.getD (Int.toNat Ae) default).What == 4)
 (cn (decide ((a1.getD (Int.toNat Ae) default).Index < 0))
 (rec (Bo (Ae+1)) Ap Ax Az Aq A9)
 (cn (decide ((a1.getD (Int.toNat Ae) default).Index≥((Int.toNat ((((a0.Sites.getD (Int.toNat a2) default).Decl).Resources).length:Int)):Int)))
 (rec (Bo (Ae+1)) Ap Ax Az Aq A9)
 (cn ((a1.getD (Int.toNat Ae) default).What != 5)
 (cn (decide ((a1.getD (Int.toNat Ae) default).Value < 1))
 (rec (Bo (Ae+1)) Ap Ax Az Aq A9)
 (cn (decide ((a1.getD (Int.toNat Ae) default).Value > 1000))
 (rec (Bo (Ae+1)) Ap Ax Az Aq A9)
 (cn ((a1.getD (Int.toNat Ae) default).What == 4)
 (jp (.cn (decide ((a1.getD (Int.toNat Ae) default).Index≥0))
 (.lf (decide ((a1.getD (Int.toNat Ae) default).Index < ((Int.toNat ((((a0.Sites.getD (Int.toNat a2) default).Decl).Resources).length:Int)):Int))))
 (.lf false)) (fun b8=>
 (cn b8
 (gq (0≤(a1.getD (Int.toNat Ae) default).Index)
 (gq ((a1.getD (Int.toNat Ae) default).Index < (((Int.toNat ((((a0.Sites.getD (Int.toNat a2) default).Decl).Resources).length:Int)):Nat):Int))
 (gq (0≤(a1.getD (Int.toNat Ae) default).Index)
 (gq ((a1.getD (Int.toNat Ae) default).Index < (((Int.toNat ((((a0.Sites.getD (Int.toNat a2) default).Decl).Resources).length:Int)):Nat):Int))
 (fq (Ap.findIdx? fun b=>((a1.getD (Int.toNat Ae) default).Proc == b.u_proc && ((a1.getD (Int.toNat Ae) default).Index == b.u_resource))) (fun i9=>
 (rec (Bo (Ae+1)) ((Ap.take i9).drop 0++(Ap.take Ap.length).drop (i9+1)) ((Ax.take i9).drop 0++(Ax.take Ax.length).drop (i9+1)) Az (Aq.set (Int.toNat ((a1.getD (Int.toNat Ae) default).Index)) (Bo ((Aq.getD (Int.toNat ((a1.getD (Int.toNat Ae) default).Index)) default)+(a1.getD (Int.toNat Ae) default).Value))) A9))
 (rec (Bo (Ae+1)) Ap Ax Az (Aq.set (Int.toNat ((a1.getD (Int.toNat Ae) default).Index)) (Bo ((Aq.getD (Int.toNat ((a1.getD (Int.toNat Ae) default).Index)) default)+(a1.getD (Int.toNat Ae) default).Value))) A9))))))
 (fq (Ap.findIdx? fun b=>((a1.getD (Int.toNat Ae) default).Proc == b.u_proc && ((a1.getD (Int.toNat Ae) default).Index == b.u_resource))) (fun i10=>
 (rec (Bo (Ae+1)) ((Ap.take i10).drop 0++(Ap.take Ap.length).drop (i10+1)) ((Ax.take i10).drop 0++(Ax.take Ax.length).drop (i10+1)) Az Aq A9))
 (rec (Bo (Ae+1)) Ap Ax Az Aq A9)))))
 (cn ((a1.getD (Int.toNat Ae) default).What == 6)
 (jp (.cn (decide ((a1.getD (Int.toNat Ae) default).Index≥0))
 (.lf (decide ((a1.getD (Int.toNat Ae) default).Index < ((Int.toNat ((((a0.Sites.getD (Int.toNat a2) default).Decl).Resources).length:Int)):Int))))
 (.lf false)) (fun b11=>
 (cn b11
 (gq (0≤(a1.getD (Int.toNat Ae) default).Index)
 (gq ((a1.getD (Int.toNat Ae) default).Index < (((Int.toNat ((((a0.Sites.getD (Int.toNat a2) default).Decl).Resources).length:Int)):Nat):Int))
 (gq (0≤(a1.getD (Int.toNat Ae) default).Index)
 (gq ((a1.getD (Int.toNat Ae) default).Index < (((Int.toNat ((((a0.Sites.getD (Int.toNat a2) default).Decl).Resources).length:Int)):Nat):Int))
 (rec (Bo (Ae+1)) Ap Ax Az (Aq.set (Int.toNat ((a1.getD (Int.toNat Ae) default).Index)) (Bo ((Aq.getD (Int.toNat ((a1.getD (Int.toNat Ae) default).Index)) default)+(Bo (0 - (a1.getD (Int.toNat Ae) default).Value))))) A9)))))
 (rec (Bo (Ae+1)) Ap Ax Az Aq A9))))
 (cn ((a1.getD (Int.toNat Ae) default).What == 7)
 (jp (.cn (decide ((a1.getD (Int.toNat Ae) default).Index≥0))
 (.lf (decide ((a1.getD (Int.toNat Ae) default).Index < ((Int.toNat ((((a0.Sites.getD (Int.toNat a2) default).Decl).Resources).length:Int)):Int))))
 (.lf false)) (fun b12=>
 (cn b12
 (gq (0≤(a1.getD (Int.toNat Ae) default).Index)
 (gq ((a1.getD (Int.toNat Ae) default).Index < (((Int.toNat ((((a0.Sites.getD (Int.toNat a2) default).Decl).Resources).length:Int)):Nat):Int))
 (gq (0≤(a1.getD (Int.toNat Ae) default).Index)
 (gq ((a1.getD (Int.toNat Ae) default).Index < (((Int.toNat ((((a0.Sites.getD (Int.toNat a2) default).Decl).Resources).length:Int)):Nat):Int))
 (fq (Ap.findIdx? fun b=>((a1.getD (Int.toNat Ae) default).Proc == b.u_proc && ((a1.getD (Int.toNat Ae) default).Index == b.u_resource))) (fun i13=>
 (rec (Bo (Ae+1)) Ap (Ax.set i13 true) Az (Aq.set (Int.toNat ((a1.getD (Int.toNat Ae) default).Index)) (Bo ((Aq.getD (Int.toNat ((a1.getD (Int.toNat Ae) default).Index)) default)+(Bo (0 - (a1.getD (Int.toNat Ae) default).Value))))) A9))
 (rec (Bo (Ae+1)) (Ap++ [(⟨(a1.getD (Int.toNat Ae) default).Proc,(a1.getD (Int.toNat Ae) default).Index⟩:Au)]) (Ax++ [true]) Az (Aq.set (Int.toNat ((a1.getD (Int.toNat Ae) default).Index)) (Bo ((Aq.getD (Int.toNat ((a1.getD (Int.toNat Ae) default).Index)) default)+(Bo (0 - (a1.getD (Int.toNat Ae) default).Value))))) A9))))))
 (fq (Ap.findIdx? fun b=>((a1.getD (Int.toNat Ae) default).Proc == b.u_proc && ((a1.getD (Int.toNat Ae) default).Index == b.u_resource))) (fun i14=>
 (rec (Bo (Ae+1)) Ap (Ax.set i14 true) Az Aq A9))
 (rec (Bo (Ae+1)) (Ap++ [(⟨(a1.getD (Int.toNat Ae) default).Proc,(a1.getD (Int.toNat Ae) default).Index⟩:Au)]) (Ax++ [true]) Az Aq A9)))))
 (cn ((a1.getD (Int.toNat Ae) default).What == 5)
 (fq (Ap.findIdx? fun b=>((a1.getD (Int.toNat Ae) default).Proc == b.u_proc && ((a1.getD (Int.toNat Ae) default).Index == b.u_resource))) (fun i15=>
 (rec (Bo (Ae+1)) Ap (Ax.set i15 true) Az Aq A9))
 (rec (Bo (Ae+1)) (Ap++ [(⟨(a1.getD (Int.toNat Ae) default).Proc,(a1.getD (Int.toNat Ae) default).Index⟩:Au)]) (Ax++ [true]) Az Aq A9))
 (rec (Bo (Ae+1)) Ap Ax Az Aq A9)))))))
 (cn ((a1.getD (Int.toNat Ae) default).What == 4)
 (jp (.cn (decide ((a1.getD (Int.toNat Ae) default).Index≥0))
 (.lf (decide ((a1.getD (Int.toNat Ae) default).Index < ((Int.toNat ((((a0.Sites.getD (Int.toNat a2) default).Decl).Resources).length:Int)):Int))))
 (.lf false)) (fun b16=>
 (cn b16
 (gq (0≤(a1.getD (Int.toNat Ae) default).Index)
 (gq ((a1.getD (Int.toNat Ae) default).Index < (((Int.toNat ((((a0.Sites.getD (Int.toNat a2) default).Decl).Resources).length:Int)):Nat):Int))
 (gq (0≤(a1.getD (Int.toNat Ae) default).Index)
 (gq ((a1.getD (Int.toNat Ae) default).Index < (((Int.toNat ((((a0.Sites.getD (Int.toNat a2) default).Decl).Resources).length:Int)):Nat):Int))
 (fq (Ap.findIdx? fun b=>((a1.getD (Int.toNat Ae) default).Proc == b.u_proc && ((a1.getD (Int.toNat Ae) default).Index == b.u_resource))) (fun i17=>
 (rec (Bo (Ae+1)) ((Ap.take i17).drop 0++(Ap.take Ap.length).drop (i17+1)) ((Ax.take i17).drop 0++(Ax.take Ax.length).drop (i17+1)) Az (Aq.set (Int.toNat ((a1.getD (Int.toNat Ae) default).Index)) (Bo ((Aq.getD (Int.toNat ((a1.getD (Int.toNat Ae) default).Index)) default)+(a1.getD (Int.toNat Ae) default).Value))) A9))
 (rec (Bo (Ae+1)) Ap Ax Az (Aq.set (Int.toNat ((a1.getD (Int.toNat Ae) default).Index)) (Bo ((Aq.getD (Int.toNat ((a1.getD (Int.toNat Ae) default).Index)) default)+(a1.getD (Int.toNat Ae) default).Value))) A9))))))
 (fq (Ap.findIdx? fun b=>((a1.getD (Int.toNat Ae) default).Proc == b.u_proc && ((a1.getD (Int.toNat Ae) default).Index == b.u_resource))) (fun i18=>
 (rec (Bo (Ae+1)) ((Ap.take i18).drop 0++(Ap.take Ap.length).drop (i18+1)) ((Ax.take i18).drop 0++(Ax.take Ax.length).drop (i18+1)) Az Aq A9))
 (rec (Bo (Ae+1)) Ap Ax Az Aq A9)))))
 (cn ((a1.getD (Int.toNat Ae) default).What == 6)
 (jp (.cn (decide ((a1.getD (Int.toNat Ae) default).Index≥0))
 (.lf (decide ((a1.getD (Int.toNat Ae) default).Index < ((Int.toNat ((((a0.Sites.getD (Int.toNat a2) default).Decl).Resources).length:Int)):Int))))
 (.lf false)) (fun b19=>
 (cn b19
 (gq (0≤(a1.getD (Int.toNat Ae) default).Index)
 (gq ((a1.getD (Int.toNat Ae) default).Index < (((Int.toNat ((((a0.Sites.getD (Int.toNat a2) default).Decl).Resources).length:Int)):Nat):Int))
 (gq (0≤(a1.getD (Int.toNat Ae) default).Index)
 (gq ((a1.getD (Int.toNat Ae) default).Index < (((Int.toNat ((((a0.Sites.getD (Int.toNat a2) default).Decl).Resources).length:Int)):Nat):Int))
 (rec (Bo (Ae+1)) Ap Ax Az (Aq.set (Int.toNat ((a1.getD (Int.toNat Ae) default).Index)) (Bo ((Aq.getD (Int.toNat ((a1.getD (Int.toNat Ae) default).Index)) default)+(Bo (0 - (a1.getD (Int.toNat Ae) default).Value))))) A9)))))
 (rec (Bo (Ae+1)) Ap Ax Az Aq A9))))
 (cn ((a1.getD (Int.toNat Ae) default).What == 7)
 (jp (.cn (decide ((a1.getD (Int.toNat Ae) default).Index≥0))
 (.lf (decide ((a1.getD (Int.toNat Ae) default).Index < ((Int.toNat ((((a0.Sites.getD (Int.toNat a2) default).Decl).Resources).length:Int)):Int))))
 (.lf false)) (fun b20=>
 (cn b20
 (gq (0≤(a1.getD (Int.toNat Ae) default).Index)
 (gq ((a1.getD (Int.toNat Ae) default).Index < (((Int.toNat ((((a0.Sites.getD (Int.toNat a2) default).Decl).Resources).length:Int)):Nat):Int))
 (gq (0≤(a1.getD (Int.toNat Ae) default).Index)
 (gq ((a1.getD (Int.toNat Ae) default).Index < (((Int.toNat ((((a0.Sites.getD (Int.toNat a2) default).Decl).Resources).length:Int)):Nat):Int))
 (fq (Ap.findIdx? fun b=>((a1.getD (Int.toNat Ae) default).Proc == b.u_proc && ((a1.getD (Int.toNat Ae) default).Index == b.u_resource))) (fun i21=>
 (rec (Bo (Ae+1)) Ap (Ax.set i21 true) Az (Aq.set (Int.toNat ((a1.getD (Int.toNat Ae) default).Index)) (Bo ((Aq.getD (Int.toNat ((a1.getD (Int.toNat Ae) default).Index)) default)+(Bo (0 - (a1.getD (Int.toNat Ae) default).Value))))) A9))
 (rec (Bo (Ae+1)) (Ap++ [(⟨(a1.getD (Int.toNat Ae) default).Proc,(a1.getD (Int.toNat Ae) default).Index⟩:Au)]) (Ax++ [true]) Az (Aq.set (Int.toNat ((a1.getD (Int.toNat Ae) default).Index)) (Bo ((Aq.getD (Int.toNat ((a1.getD (Int.toNat Ae) default).Index)) default)+(Bo (0 - (a1.getD (Int.toNat Ae) default).Value))))) A9))))))
 (fq (Ap.findIdx? fun b=>((a1.getD (Int.toNat Ae) default).Proc == b.u_proc && ((a1.getD (Int.toNat Ae) default).Index == b.u_resource))) (fun i22=>
 (rec (Bo (Ae+1)) Ap (Ax.set i22 true) Az Aq A9))
 (rec (Bo (Ae+1)) (Ap++ [(⟨(a1.getD (Int.toNat Ae) default).Proc,(a1.getD (Int.toNat Ae) default).Index⟩:Au)]) (Ax++ [true]) Az Aq A9)))))
 (cn ((a1.getD (Int.toNat Ae) default).What == 5)
 (fq (Ap.findIdx? fun b=>((a1.getD (Int.toNat Ae) default).Proc == b.u_proc && ((a1.getD (Int.toNat Ae) default).Index == b.u_resource))) (fun i23=>
 (rec (Bo (Ae+1)) Ap (Ax.set i23 true) Az Aq A9))
 (rec (Bo (Ae+1)) (Ap++ [(⟨(a1.getD (Int.toNat Ae) default).Proc,(a1.getD (Int.toNat Ae) default).Index⟩:Au)]) (Ax++ [true]) Az Aq A9))
 (rec (Bo (Ae+1)) Ap Ax Az Aq A9))))))))
 (rec (Bo (Ae+1)) Ap Ax Az Aq A9))
 (cn ((a1.getD (Int.toNat Ae) default).What == 6)
 (cn ((a1.getD (Int.toNat Ae) default).What == 6)
 (cn (decide ((a1.getD (Int.toNat Ae) default).Index < 0))
 (rec (Bo (Ae+1)) Ap Ax Az Aq A9)
 (cn (decide ((a1.getD (Int.toNat Ae) default).Index≥((Int.toNat ((((a0.Sites.getD (Int.toNat a2) default).Decl).Resources).length:Int)):Int)))
 (rec (Bo (Ae+1)) Ap Ax Az Aq A9)
 (cn ((a1.getD (Int.toNat Ae) default).What != 5)
 (cn (decide ((a1.getD (Int.toNat Ae) default).Value < 1))
 (rec (Bo (Ae+1)) Ap Ax Az Aq A9)
 (cn (decide ((a1.getD (Int.toNat Ae) default).Value > 1000))
 (rec (Bo (Ae+1)) Ap Ax Az Aq A9)
 (cn ((a1.getD (Int.toNat Ae) default).What == 4)
 (jp (.cn (decide ((a1.getD (Int.toNat Ae) default).Index≥0))
 (.lf (decide ((a1.getD (Int.toNat Ae) default).Index < ((Int.toNat ((((a0.Sites.getD (Int.toNat a2) default).Decl).Resources).length:Int)):Int))))
 (.lf false)) (fun b24=>
 (cn b24
 (gq (0≤(a1.getD (Int.toNat Ae) default).Index)
 (gq ((a1.getD (Int.toNat Ae) default).Index < (((Int.toNat ((((a0.Sites.getD (Int.toNat a2) default).Decl).Resources).length:Int)):Nat):Int))
 (gq (0≤(a1.getD (Int.toNat Ae) default).Index)
 (gq ((a1.getD (Int.toNat Ae) default).Index < (((Int.toNat ((((a0.Sites.getD (Int.toNat a2) default).Decl).Resources).length:Int)):Nat):Int))
 (fq (Ap.findIdx? fun b=>((a1.getD (Int.toNat Ae) default).Proc == b.u_proc && ((a1.getD (Int.toNat Ae) default).Index == b.u_resource))) (fun i25=>
 (rec (Bo (Ae+1)) ((Ap.take i25).drop 0++(Ap.take Ap.length).drop (i25+1)) ((Ax.take i25).drop 0++(Ax.take Ax.length).drop (i25+1)) Az (Aq.set (Int.toNat ((a1.getD (Int.toNat Ae) default).Index)) (Bo ((Aq.getD (Int.toNat ((a1.getD (Int.toNat Ae) default).Index)) default)+(a1.getD (Int.toNat Ae) default).Value))) A9))
 (rec (Bo (Ae+1)) Ap Ax Az (Aq.set (Int.toNat ((a1.getD (Int.toNat Ae) default).Index)) (Bo ((Aq.getD (Int.toNat ((a1.getD (Int.toNat Ae) default).Index)) default)+(a1.getD (Int.toNat Ae) default).Value))) A9))))))
 (fq (Ap.findIdx? fun b=>((a1.getD (Int.toNat Ae) default).Proc == b.u_proc && ((a1.getD (Int.toNat Ae) default).Index == b.u_resource))) (fun i26=>
 (rec (Bo (Ae+1)) ((Ap.take i26).drop 0++(Ap.take Ap.length).drop (i26+1)) ((Ax.take i26).drop 0++(Ax.take Ax.length).drop (i26+1)) Az Aq A9))
 (rec (Bo (Ae+1)) Ap Ax Az Aq A9)))))
 (cn ((a1.getD (Int.toNat Ae) default).What == 6)
 (jp (.cn (decide ((a1.getD (Int.toNat Ae) default).Index≥0))
 (.lf (decide ((a1.getD (Int.toNat Ae) default).Index < ((Int.toNat ((((a0.Sites.getD (Int.toNat a2) default).Decl).Resources).length:Int)):Int))))
 (.lf false)) (fun b27=>
 (cn b27
 (gq (0≤(a1.getD (Int.toNat Ae) default).Index)
 (gq ((a1.getD (Int.toNat Ae) default).Index < (((Int.toNat ((((a0.Sites.getD (Int.toNat a2) default).Decl).Resources).length:Int)):Nat):Int))
 (gq (0≤(a1.getD (Int.toNat Ae) default).Index)
 (gq ((a1.getD (Int.toNat Ae) default).Index < (((Int.toNat ((((a0.Sites.getD (Int.toNat a2) default).Decl).Resources).length:Int)):Nat):Int))
 (rec (Bo (Ae+1)) Ap Ax Az (Aq.set (Int.toNat ((a1.getD (Int.toNat Ae) default).Index)) (Bo ((Aq.getD (Int.toNat ((a1.getD (Int.toNat Ae) default).Index)) default)+(Bo (0 - (a1.getD (Int.toNat Ae) default).Value))))) A9)))))
 (rec (Bo (Ae+1)) Ap Ax Az Aq A9))))
 (cn ((a1.getD (Int.toNat Ae) default).What == 7)
 (jp (.cn (decide ((a1.getD (Int.toNat Ae) default).Index≥0))
 (.lf (decide ((a1.getD (Int.toNat Ae) default).Index < ((Int.toNat ((((a0.Sites.getD (Int.toNat a2) default).Decl).Resources).length:Int)):Int))))
 (.lf false)) (fun b28=>
 (cn b28
 (gq (0≤(a1.getD (Int.toNat Ae) default).Index)
 (gq ((a1.getD (Int.toNat Ae) default).Index < (((Int.toNat ((((a0.Sites.getD (Int.toNat a2) default).Decl).Resources).length:Int)):Nat):Int))
 (gq (0≤(a1.getD (Int.toNat Ae) default).Index)
 (gq ((a1.getD (Int.toNat Ae) default).Index < (((Int.toNat ((((a0.Sites.getD (Int.toNat a2) default).Decl).Resources).length:Int)):Nat):Int))
 (fq (Ap.findIdx? fun b=>((a1.getD (Int.toNat Ae) default).Proc == b.u_proc && ((a1.getD (Int.toNat Ae) default).Index == b.u_resource))) (fun i29=>
 (rec (Bo (Ae+1)) Ap (Ax.set i29 true) Az (Aq.set (Int.toNat ((a1.getD (Int.toNat Ae) default).Index)) (Bo ((Aq.getD (Int.toNat ((a1.getD (Int.toNat Ae) default).Index)) default)+(Bo (0 - (a1.getD (Int.toNat Ae) default).Value))))) A9))
 (rec (Bo (Ae+1)) (Ap++ [(⟨(a1.getD (Int.toNat Ae) default).Proc,(a1.getD (Int.toNat Ae) default).Index⟩:Au)]) (Ax++ [true]) Az (Aq.set (Int.toNat ((a1.getD (Int.toNat Ae) default).Index)) (Bo ((Aq.getD (Int.toNat ((a1.getD (Int.toNat Ae) default).Index)) default)+(Bo (0 - (a1.getD (Int.toNat Ae) default).Value))))) A9))))))
 (fq (Ap.findIdx? fun b=>((a1.getD (Int.toNat Ae) default).Proc == b.u_proc && ((a1.getD (Int.toNat Ae) default).Index == b.u_resource))) (fun i30=>
 (rec (Bo (Ae+1)) Ap (Ax.set i30 true) Az Aq A9))
 (rec (Bo (Ae+1)) (Ap++ [(⟨(a1.getD (Int.toNat Ae) default).Proc,(a1.getD (Int.toNat Ae) default).Index⟩:Au)]) (Ax++ [true]) Az Aq A9)))))
 (cn ((a1.getD (Int.toNat Ae) default).What == 5)
 (fq (Ap.findIdx? fun b=>((a1.getD (Int.toNat Ae) default).Proc == b.u_proc && ((a1.getD (Int.toNat Ae) default).Index == b.u_resource))) (fun i31=>
 (rec (Bo (Ae+1)) Ap (Ax.set i31 true) Az Aq A9))
 (rec (Bo (Ae+1)) (Ap++ [(⟨(a1.getD (Int.toNat Ae) default).Proc,(a1.getD (Int.toNat Ae) default).Index⟩:Au)]) (Ax++ [true]) Az Aq A9))
 (rec (Bo (Ae+1)) Ap Ax Az Aq A9)))))))
 (cn ((a1.getD (Int.toNat Ae) default).What == 4)
 (jp (.cn (decide ((a1.getD (Int.toNat Ae) default).Index≥0))
 (.lf (decide ((a1.getD (Int.toNat Ae) default).Index < ((Int.toNat ((((a0.Sites.getD (Int.toNat a2) default).Decl).Resources).length:Int)):Int))))
 (.lf false)) (fun b32=>
 (cn b32
 (gq (0≤(a1.getD (Int.toNat Ae) default).Index)
 (gq ((a1.getD (Int.toNat Ae) default).Index < (((Int.toNat ((((a0.Sites.getD (Int.toNat a2) default).Decl).Resources).length:Int)):Nat):Int))
 (gq (0≤(a1.getD (Int.toNat Ae) default).Index)
 (gq ((a1.getD (Int.toNat Ae) default).Index < (((Int.toNat ((((a0.Sites.getD (Int.toNat a2) default).Decl).Resources).length:Int)):Nat):Int))
 (fq (Ap.findIdx? fun b=>((a1.getD (Int.toNat Ae) default).Proc == b.u_proc && ((a1.getD (Int.toNat Ae) default).Index == b.u_resource))) (fun i33=>
 (rec (Bo (Ae+1)) ((Ap.take i33).drop 0++(Ap.take Ap.length).drop (i33+1)) ((Ax.take i33).drop 0++(Ax.take Ax.length).drop (i33+1)) Az (Aq.set (Int.toNat ((a1.getD (Int.toNat Ae) default).Index)) (Bo ((Aq.getD (Int.toNat ((a1.getD (Int.toNat Ae) default).Index)) default)+(a1.getD (Int.toNat Ae) default).Value))) A9))
 (rec (Bo (Ae+1)) Ap Ax Az (Aq.set (Int.toNat ((a1.getD (Int.toNat Ae) default).Index)) (Bo ((Aq.getD (Int.toNat ((a1.getD (Int.toNat Ae) default).Index)) default)+(a1.getD (Int.toNat Ae) default).Value))) A9))))))
 (fq (Ap.findIdx? fun b=>((a1.getD (Int.toNat Ae) default).Proc == b.u_proc && ((a1.getD (Int.toNat Ae) default).Index == b.u_resource))) (fun i34=>
 (rec (Bo (Ae+1)) ((Ap.take i34).drop 0++(Ap.take Ap.length).drop (i34+1)) ((Ax.take i34).drop 0++(Ax.take Ax.length).drop (i34+1)) Az Aq A9))
 (rec (Bo (Ae+1)) Ap Ax Az Aq A9)))))
 (cn ((a1.getD (Int.toNat Ae) default).What == 6)
 (jp (.cn (decide ((a1.getD (Int.toNat Ae) default).Index≥0))
 (.lf (decide ((a1.getD (Int.toNat Ae) default).Index < ((Int.toNat ((((a0.Sites.getD (Int.toNat a2) default).Decl).Resources).length:Int)):Int))))
 (.lf false)) (fun b35=>
 (cn b35
 (gq (0≤(a1.getD (Int.toNat Ae) default).Index)
 (gq ((a1.getD (Int.toNat Ae) default).Index < (((Int.toNat ((((a0.Sites.getD (Int.toNat a2) default).Decl).Resources).length:Int)):Nat):Int))
 (gq (0≤(a1.getD (Int.toNat Ae) default).Index)
 (gq ((a1.getD (Int.toNat Ae) default).Index < (((Int.toNat ((((a0.Sites.getD (Int.toNat a2) default).Decl).Resources).length:Int)):Nat):Int))
 (rec (Bo (Ae+1)) Ap Ax Az (Aq.set (Int.toNat ((a1.getD (Int.toNat Ae) default).Index)) (Bo ((Aq.getD (Int.toNat ((a1.getD (Int.toNat Ae) default).Index)) default)+(Bo (0 - (a1.getD (Int.toNat Ae) default).Value))))) A9)))))
 (rec (Bo (Ae+1)) Ap Ax Az Aq A9))))
 (cn ((a1.getD (Int.toNat Ae) default).What == 7)
 (jp (.cn (decide ((a1.getD (Int.toNat Ae) default).Index≥0))
 (.lf (decide ((a1.getD (Int.toNat Ae) default).Index < ((Int.toNat ((((a0.Sites.getD (Int.toNat a2) default).Decl).Resources).length:Int)):Int))))
 (.lf false)) (fun b36=>
 (cn b36
 (gq (0≤(a1.getD (Int.toNat Ae) default).Index)
 (gq ((a1.getD (Int.toNat Ae) default).Index < (((Int.toNat ((((a0.Sites.getD (Int.toNat a2) default).Decl).Resources).length:Int)):Nat):Int))
 (gq (0≤(a1.getD (Int.toNat Ae) default).Index)
 (gq ((a1.getD (Int.toNat Ae) default).Index < (((Int.toNat ((((a0.Sites.getD (Int.toNat a2) default).Decl).Resources).length:Int)):Nat):Int))
 (fq (Ap.findIdx? fun b=>((a1.getD (Int.toNat Ae) default).Proc == b.u_proc && ((a1.getD (Int.toNat Ae) default).Index == b.u_resource))) (fun i37=>
 (rec (Bo (Ae+1)) Ap (Ax.set i37 true) Az (Aq.set (Int.toNat ((a1.getD (Int.toNat Ae) default).Index)) (Bo ((Aq.getD (Int.toNat ((a1.getD (Int.toNat Ae) default).Index)) default)+(Bo (0 - (a1.getD (Int.toNat Ae) default).Value))))) A9))
 (rec (Bo (Ae+1)) (Ap++ [(⟨(a1.getD (Int.toNat Ae) default).Proc,(a1.getD (Int.toNat Ae) default).Index⟩:Au)]) (Ax++ [true]) Az (Aq.set (Int.toNat ((a1.getD (Int.toNat Ae) default).Index)) (Bo ((Aq.getD (Int.toNat ((a1.getD (Int.toNat Ae) default).Index)) default)+(Bo (0 - (a1.getD (Int.toNat Ae) default).Value))))) A9))))))
 (fq (Ap.findIdx? fun b=>((a1.getD (Int.toNat Ae) default).Proc == b.u_proc && ((a1.getD (Int.toNat Ae) default).Index == b.u_resource))) (fun i38=>
 (rec (Bo (Ae+1)) Ap (Ax.set i38 true) Az Aq A9))
 (rec (Bo (Ae+1)) (Ap++ [(⟨(a1.getD (Int.toNat Ae) default).Proc,(a1.getD (Int.toNat Ae) default).Index⟩:Au)]) (Ax++ [true]) Az Aq A9)))))
 (cn ((a1.getD (Int.toNat Ae) default).What == 5)
 (fq (Ap.findIdx? fun b=>((a1.getD (Int.toNat Ae) default).Proc == b.u_proc && ((a1.getD (Int.toNat Ae) default).Index == b.u_resource))) (fun i39=>
 (rec (Bo (Ae+1)) Ap (Ax.set i39 true) Az Aq A9))
 (rec (Bo (Ae+1)) (Ap++ [(⟨(a1.getD (Int.toNat Ae) default).Proc,(a1.getD (Int.toNat Ae) default).Index⟩:Au)]) (Ax++ [true]) Az Aq A9))
 (rec (Bo (Ae+1)) Ap Ax Az Aq A9))))))))
 (rec (Bo (Ae+1)) Ap Ax Az Aq A9))
 (cn ((a1.getD (Int.toNat Ae) default).What == 7)
 (cn ((a1.getD (Int.toNat Ae) default).What == 7)
 (cn (decide ((a1.getD (Int.toNat Ae) default).Index < 0))
 (rec (Bo (Ae+1)) Ap Ax Az Aq A9)
 (cn (decide ((a1.getD (Int.toNat Ae) default).Index≥((Int.toNat ((((a0.Sites.getD (Int.toNat a2) default).Decl).Resources).length:Int)):Int)))
 (rec (Bo (Ae+1)) Ap Ax Az Aq A9)
 (cn ((a1.getD (Int.toNat Ae) default).What != 5)
 (cn (decide ((a1.getD (Int.toNat Ae) default).Value < 1))
 (rec (Bo (Ae+1)) Ap Ax Az Aq A9)
 (cn (decide ((a1.getD (Int.toNat Ae) default).Value > 1000))
 (rec (Bo (Ae+1)) Ap Ax Az Aq A9)
 (cn ((a1.getD (Int.toNat Ae) default).What == 4)
 (jp (.cn (decide ((a1.getD (Int.toNat Ae) default).Index≥0))
 (.lf (decide ((a1.getD (Int.toNat Ae) default).Index < ((Int.toNat ((((a0.Sites.getD (Int.toNat a2) default).Decl).Resources).length:Int)):Int))))
 (.lf false)) (fun b40=>
 (cn b40
 (gq (0≤(a1.getD (Int.toNat Ae) default).Index)
 (gq ((a1.getD (Int.toNat Ae) default).Index < (((Int.toNat ((((a0.Sites.getD (Int.toNat a2) default).Decl).Resources).length:Int)):Nat):Int))
 (gq (0≤(a1.getD (Int.toNat Ae) default).Index)
 (gq ((a1.getD (Int.toNat Ae) default).Index < (((Int.toNat ((((a0.Sites.getD (Int.toNat a2) default).Decl).Resources).length:Int)):Nat):Int))
 (fq (Ap.findIdx? fun b=>((a1.getD (Int.toNat Ae) default).Proc == b.u_proc && ((a1.getD (Int.toNat Ae) default).Index == b.u_resource))) (fun i41=>
 (rec (Bo (Ae+1)) ((Ap.take i41).drop 0++(Ap.take Ap.length).drop (i41+1)) ((Ax.take i41).drop 0++(Ax.take Ax.length).drop (i41+1)) Az (Aq.set (Int.toNat ((a1.getD (Int.toNat Ae) default).Index)) (Bo ((Aq.getD (Int.toNat ((a1.getD (Int.toNat Ae) default).Index)) default)+(a1.getD (Int.toNat Ae) default).Value))) A9))
 (rec (Bo (Ae+1)) Ap Ax Az (Aq.set (Int.toNat ((a1.getD (Int.toNat Ae) default).Index)) (Bo ((Aq.getD (Int.toNat ((a1.getD (Int.toNat Ae) default).Index)) default)+(a1.getD (Int.toNat Ae) default).Value))) A9))))))
 (fq (Ap.findIdx? fun b=>((a1.getD (Int.toNat Ae) default).Proc == b.u_proc && ((a1.getD (Int.toNat Ae) default).Index == b.u_resource))) (fun i42=>
 (rec (Bo (Ae+1)) ((Ap.take i42).drop 0++(Ap.take Ap.length).drop (i42+1)) ((Ax.take i42).drop 0++(Ax.take Ax.length).drop (i42+1)) Az Aq A9))
 (rec (Bo (Ae+1)) Ap Ax Az Aq A9)))))
 (cn ((a1.getD (Int.toNat Ae) default).What == 6)
 (jp (.cn (decide ((a1.getD (Int.toNat Ae) default).Index≥0))
 (.lf (decide ((a1.getD (Int.toNat Ae) default).Index < ((Int.toNat ((((a0.Sites.getD (Int.toNat a2) default).Decl).Resources).length:Int)):Int))))
 (.lf false)) (fun b43=>
 (cn b43
 (gq (0≤(a1.getD (Int.toNat Ae) default).Index)
 (gq ((a1.getD (Int.toNat Ae) default).Index < (((Int.toNat ((((a0.Sites.getD (Int.toNat a2) default).Decl).Resources).length:Int)):Nat):Int))
 (gq (0≤(a1.getD (Int.toNat Ae) default).Index)
 (gq ((a1.getD (Int.toNat Ae) default).Index < (((Int.toNat ((((a0.Sites.getD (Int.toNat a2) default).Decl).Resources).length:Int)):Nat):Int))
 (rec (Bo (Ae+1)) Ap Ax Az (Aq.set (Int.toNat ((a1.getD (Int.toNat Ae) default).Index)) (Bo ((Aq.getD (Int.toNat ((a1.getD (Int.toNat Ae) default).Index)) default)+(Bo (0 - (a1.getD (Int.toNat Ae) default).Value))))) A9)))))
 (rec (Bo (Ae+1)) Ap Ax Az Aq A9))))
 (cn ((a1.getD (Int.toNat Ae) default).What == 7)
 (jp (.cn (decide ((a1.getD (Int.toNat Ae) default).Index≥0))
 (.lf (decide ((a1.getD (Int.toNat Ae) default).Index < ((Int.toNat ((((a0.Sites.getD (Int.toNat a2) default).Decl).Resources).length:Int)):Int))))
 (.lf false)) (fun b44=>
 (cn b44
 (gq (0≤(a1.getD (Int.toNat Ae) default).Index)
 (gq ((a1.getD (Int.toNat Ae) default).Index < (((Int.toNat ((((a0.Sites.getD (Int.toNat a2) default).Decl).Resources).length:Int)):Nat):Int))
 (gq (0≤(a1.getD (Int.toNat Ae) default).Index)
 (gq ((a1.getD (Int.toNat Ae) default).Index < (((Int.toNat ((((a0.Sites.getD (Int.toNat a2) default).Decl).Resources).length:Int)):Nat):Int))
 (fq (Ap.findIdx? fun b=>((a1.getD (Int.toNat Ae) default).Proc == b.u_proc && ((a1.getD (Int.toNat Ae) default).Index == b.u_resource))) (fun i45=>
 (rec (Bo (Ae+1)) Ap (Ax.set i45 true) Az (Aq.set (Int.toNat ((a1.getD (Int.toNat Ae) default).Index)) (Bo ((Aq.getD (Int.toNat ((a1.getD (Int.toNat Ae) default).Index)) default)+(Bo (0 - (a1.getD (Int.toNat Ae) default).Value))))) A9))
 (rec (Bo (Ae+1)) (Ap++ [(⟨(a1.getD (Int.toNat Ae) default).Proc,(a1.getD (Int.toNat Ae) default).Index⟩:Au)]) (Ax++ [true]) Az (Aq.set (Int.toNat ((a1.getD (Int.toNat Ae) default).Index)) (Bo ((Aq.getD (Int.toNat ((a1.getD (Int.toNat Ae) default).Index)) default)+(Bo (0 - (a1.getD (Int.toNat Ae) default).Value))))) A9))))))
 (fq (Ap.findIdx? fun b=>((a1.getD (Int.toNat Ae) default).Proc == b.u_proc && ((a1.getD (Int.toNat Ae) default).Index == b.u_resource))) (fun i46=>
 (rec (Bo (Ae+1)) Ap (Ax.set i46 true) Az Aq A9))
 (rec (Bo (Ae+1)) (Ap++ [(⟨(a1.getD (Int.toNat Ae) default).Proc,(a1.getD (Int.toNat Ae) default).Index⟩:Au)]) (Ax++ [true]) Az Aq A9)))))
 (cn ((a1.getD (Int.toNat Ae) default).What == 5)
 (fq (Ap.findIdx? fun b=>((a1.getD (Int.toNat Ae) default).Proc == b.u_proc && ((a1.getD (Int.toNat Ae) default).Index == b.u_resource))) (fun i47=>
 (rec (Bo (Ae+1)) Ap (Ax.set i47 true) Az Aq A9))
 (rec (Bo (Ae+1)) (Ap++ [(⟨(a1.getD (Int.toNat Ae) default).Proc,(a1.getD (Int.toNat Ae) default).Index⟩:Au)]) (Ax++ [true]) Az Aq A9))
 (rec (Bo (Ae+1)) Ap Ax Az Aq A9)))))))
 (cn ((a1.getD (Int.toNat Ae) default).What == 4)
 (jp (.cn (decide ((a1.getD (Int.toNat Ae) default).Index≥0))
 (.lf (decide ((a1.getD (Int.toNat Ae) default).Index < ((Int.toNat ((((a0.Sites.getD (Int.toNat a2) default).Decl).Resources).length:Int)):Int))))
 (.lf false)) (fun b48=>
 (cn b48
 (gq (0≤(a1.getD (Int.toNat Ae) default).Index)
 (gq ((a1.getD (Int.toNat Ae) default).Index < (((Int.toNat ((((a0.Sites.getD (Int.toNat a2) default).Decl).Resources).length:Int)):Nat):Int))
 (gq (0≤(a1.getD (Int.toNat Ae) default).Index)
 (gq ((a1.getD (Int.toNat Ae) default).Index < (((Int.toNat ((((a0.Sites.getD (Int.toNat a2) default).Decl).Resources).length:Int)):Nat):Int))
 (fq (Ap.findIdx? fun b=>((a1.getD (Int.toNat Ae) default).Proc == b.u_proc && ((a1.getD (Int.toNat Ae) default).Index == b.u_resource))) (fun i49=>
 (rec (Bo (Ae+1)) ((Ap.take i49).drop 0++(Ap.take Ap.length).drop (i49+1)) ((Ax.take i49).drop 0++(Ax.take Ax.length).drop (i49+1)) Az (Aq.set (Int.toNat ((a1.getD (Int.toNat Ae) default).Index)) (Bo ((Aq.getD (Int.toNat ((a1.getD (Int.toNat Ae) default).Index)) default)+(a1.getD (Int.toNat Ae) default).Value))) A9))
 (rec (Bo (Ae+1)) Ap Ax Az (Aq.set (Int.toNat ((a1.getD (Int.toNat Ae) default).Index)) (Bo ((Aq.getD (Int.toNat ((a1.getD (Int.toNat Ae) default).Index)) default)+(a1.getD (Int.toNat Ae) default).Value))) A9))))))
 (fq (Ap.findIdx? fun b=>((a1.getD (Int.toNat Ae) default).Proc == b.u_proc && ((a1.getD (Int.toNat Ae) default).Index == b.u_resource))) (fun i50=>
 (rec (Bo (Ae+1)) ((Ap.take i50).drop 0++(Ap.take Ap.length).drop (i50+1)) ((Ax.take i50).drop 0++(Ax.take Ax.length).drop (i50+1)) Az Aq A9))
 (rec (Bo (Ae+1)) Ap Ax Az Aq A9)))))
 (cn ((a1.getD (Int.toNat Ae) default).What == 6)
 (jp (.cn (decide ((a1.getD (Int.toNat Ae) default).Index≥0))
 (.lf (decide ((a1.getD (Int.toNat Ae) default).Index < ((Int.toNat ((((a0.Sites.getD (Int.toNat a2) default).Decl).Resources).length:Int)):Int))))
 (.lf false)) (fun b51=>
 (cn b51
 (gq (0≤(a1.getD (Int.toNat Ae) default).Index)
 (gq ((a1.getD (Int.toNat Ae) default).Index < (((Int.toNat ((((a0.Sites.getD (Int.toNat a2) default).Decl).Resources).length:Int)):Nat):Int))
 (gq (0≤(a1.getD (Int.toNat Ae) default).Index)
 (gq ((a1.getD (Int.toNat Ae) default).Index < (((Int.toNat ((((a0.Sites.getD (Int.toNat a2) default).Decl).Resources).length:Int)):Nat):Int))
 (rec (Bo (Ae+1)) Ap Ax Az (Aq.set (Int.toNat ((a1.getD (Int.toNat Ae) default).Index)) (Bo ((Aq.getD (Int.toNat ((a1.getD (Int.toNat Ae) default).Index)) default)+(Bo (0 - (a1.getD (Int.toNat Ae) default).Value))))) A9)))))
 (rec (Bo (Ae+1)) Ap Ax Az Aq A9))))
 (cn ((a1.getD (Int.toNat Ae) default).What == 7)
 (jp (.cn (decide ((a1.getD (Int.toNat Ae) default).Index≥0))
 (.lf (decide ((a1.getD (Int.toNat Ae) default).Index < ((Int.toNat ((((a0.Sites.getD (Int.toNat a2) default).Decl).Resources).length:Int)):Int))))
 (.lf false)) (fun b52=>
 (cn b52
 (gq (0≤(a1.getD (Int.toNat Ae) default).Index)
 (gq ((a1.getD (Int.toNat Ae) default).Index < (((Int.toNat ((((a0.Sites.getD (Int.toNat a2) default).Decl).Resources).length:Int)):Nat):Int))
 (gq (0≤(a1.getD (Int.toNat Ae) default).Index)
 (gq ((a1.getD (Int.toNat Ae) default).Index < (((Int.toNat ((((a0.Sites.getD (Int.toNat a2) default).Decl).Resources).length:Int)):Nat):Int))
 (fq (Ap.findIdx? fun b=>((a1.getD (Int.toNat Ae) default).Proc == b.u_proc && ((a1.getD (Int.toNat Ae) default).Index == b.u_resource))) (fun i53=>
 (rec (Bo (Ae+1)) Ap (Ax.set i53 true) Az (Aq.set (Int.toNat ((a1.getD (Int.toNat Ae) default).Index)) (Bo ((Aq.getD (Int.toNat ((a1.getD (Int.toNat Ae) default).Index)) default)+(Bo (0 - (a1.getD (Int.toNat Ae) default).Value))))) A9))
 (rec (Bo (Ae+1)) (Ap++ [(⟨(a1.getD (Int.toNat Ae) default).Proc,(a1.getD (Int.toNat Ae) default).Index⟩:Au)]) (Ax++ [true]) Az (Aq.set (Int.toNat ((a1.getD (Int.toNat Ae) default).Index)) (Bo ((Aq.getD (Int.toNat ((a1.getD (Int.toNat Ae) default).Index)) default)+(Bo (0 - (a1.getD (Int.toNat Ae) default).Value))))) A9))))))
 (fq (Ap.findIdx? fun b=>((a1.getD (Int.toNat Ae) default).Proc == b.u_proc && ((a1.getD (Int.toNat Ae) default).Index == b.u_resource))) (fun i54=>
 (rec (Bo (Ae+1)) Ap (Ax.set i54 true) Az Aq A9))
 (rec (Bo (Ae+1)) (Ap++ [(⟨(a1.getD (Int.toNat Ae) default).Proc,(a1.getD (Int.toNat Ae) default).Index⟩:Au)]) (Ax++ [true]) Az Aq A9)))))
 (cn ((a1.getD (Int.toNat Ae) default).What == 5)
 (fq (Ap.findIdx? fun b=>((a1.getD (Int.toNat Ae) default).Proc == b.u_proc && ((a1.getD (Int.toNat Ae) default).Index == b.u_resource))) (fun i55=>
 (rec (Bo (Ae+1)) Ap (Ax.set i55 true) Az Aq A9))
 (rec (Bo (Ae+1)) (Ap++ [(⟨(a1.getD (Int.toNat Ae) default).Proc,(a1.getD (Int.toNat Ae) default).Index⟩:Au)]) (Ax++ [true]) Az Aq A9))
 (rec (Bo (Ae+1)) Ap Ax Az Aq A9))))))))
 (rec (Bo (Ae+1)) Ap Ax Az Aq A9))
 (cn ((a1.getD (Int.toNat Ae) default).What == 5)
 (cn (decide ((a1.getD (Int.toNat Ae) default).Index < 0))
 (rec (Bo (Ae+1)) Ap Ax Az Aq A9)
 (cn (decide ((a1.getD (Int.toNat Ae) default).Index≥((Int.toNat ((((a0.Sites.getD (Int.toNat a2) default).Decl).Resources).length:Int)):Int)))
 (rec (Bo (Ae+1)) Ap Ax Az Aq A9)
 (cn ((a1.getD (Int.toNat Ae) default).What != 5)
 (cn (decide ((a1.getD (Int.toNat Ae) default).Value < 1))
 (rec (Bo (Ae+1)) Ap Ax Az Aq A9)
 (cn (decide ((a1.getD (Int.toNat Ae) default).Value > 1000))
 (rec (Bo (Ae+1)) Ap Ax Az Aq A9)
 (cn ((a1.getD (Int.toNat Ae) default).What == 4)
 (jp (.cn (decide ((a1.getD (Int.toNat Ae) default).Index≥0))
 (.lf (decide ((a1.getD (Int.toNat Ae) default).Index < ((Int.toNat ((((a0.Sites.getD (Int.toNat a2) default).Decl).Resources).length:Int)):Int))))
 (.lf false)) (fun b56=>
 (cn b56
 (gq (0≤(a1.getD (Int.toNat Ae) default).Index)
 (gq ((a1.getD (Int.toNat Ae) default).Index < (((Int.toNat ((((a0.Sites.getD (Int.toNat a2) default).Decl).Resources).length:Int)):Nat):Int))
 (gq (0≤(a1.getD (Int.toNat Ae) default).Index)
 (gq ((a1.getD (Int.toNat Ae) default).Index < (((Int.toNat ((((a0.Sites.getD (Int.toNat a2) default).Decl).Resources).length:Int)):Nat):Int))
 (fq (Ap.findIdx? fun b=>((a1.getD (Int.toNat Ae) default).Proc == b.u_proc && ((a1.getD (Int.toNat Ae) default).Index == b.u_resource))) (fun i57=>
 (rec (Bo (Ae+1)) ((Ap.take i57).drop 0++(Ap.take Ap.length).drop (i57+1)) ((Ax.take i57).drop 0++(Ax.take Ax.length).drop (i57+1)) Az (Aq.set (Int.toNat ((a1.getD (Int.toNat Ae) default).Index)) (Bo ((Aq.getD (Int.toNat ((a1.getD (Int.toNat Ae) default).Index)) default)+(a1.getD (Int.toNat Ae) default).Value))) A9))
 (rec (Bo (Ae+1)) Ap Ax Az (Aq.set (Int.toNat ((a1.getD (Int.toNat Ae) default).Index)) (Bo ((Aq.getD (Int.toNat ((a1.getD (Int.toNat Ae) default).Index)) default)+(a1.getD (Int.toNat Ae) default).Value))) A9))))))
 (fq (Ap.findIdx? fun b=>((a1.getD (Int.toNat Ae) default).Proc == b.u_proc && ((a1.getD (Int.toNat Ae) default).Index == b.u_resource))) (fun i58=>
 (rec (Bo (Ae+1)) ((Ap.take i58).drop 0++(Ap.take Ap.length).drop (i58+1)) ((Ax.take i58).drop 0++(Ax.take Ax.length).drop (i58+1)) Az Aq A9))
 (rec (Bo (Ae+1)) Ap Ax Az Aq A9)))))
 (cn ((a1.getD (Int.toNat Ae) default).What == 6)
 (jp (.cn (decide ((a1.getD (Int.toNat Ae) default).Index≥0))
 (.lf (decide ((a1.getD (Int.toNat Ae) default).Index < ((Int.toNat ((((a0.Sites.getD (Int.toNat a2) default).Decl).Resources).length:Int)):Int))))
 (.lf false)) (fun b59=>
 (cn b59
 (gq (0≤(a1.getD (Int.toNat Ae) default).Index)
 (gq ((a1.getD (Int.toNat Ae) default).Index < (((Int.toNat ((((a0.Sites.getD (Int.toNat a2) default).Decl).Resources).length:Int)):Nat):Int))
 (gq (0≤(a1.getD (Int.toNat Ae) default).Index)
 (gq ((a1.getD (Int.toNat Ae) default).Index < (((Int.toNat ((((a0.Sites.getD (Int.toNat a2) default).Decl).Resources).length:Int)):Nat):Int))
 (rec (Bo (Ae+1)) Ap Ax Az (Aq.set (Int.toNat ((a1.getD (Int.toNat Ae) default).Index)) (Bo ((Aq.getD (Int.toNat ((a1.getD (Int.toNat Ae) default).Index)) default)+(Bo (0 - (a1.getD (Int.toNat Ae) default).Value))))) A9)))))
 (rec (Bo (Ae+1)) Ap Ax Az Aq A9))))
 (cn ((a1.getD (Int.toNat Ae) default).What == 7)
 (jp (.cn (decide ((a1.getD (Int.toNat Ae) default).Index≥0))
 (.lf (decide ((a1.getD (Int.toNat Ae) default).Index < ((Int.toNat ((((a0.Sites.getD (Int.toNat a2) default).Decl).Resources).length:Int)):Int))))
 (.lf false)) (fun b60=>
 (cn b60
 (gq (0≤(a1.getD (Int.toNat Ae) default).Index)
 (gq ((a1.getD (Int.toNat Ae) default).Index < (((Int.toNat ((((a0.Sites.getD (Int.toNat a2) default).Decl).Resources).length:Int)):Nat):Int))
 (gq (0≤(a1.getD (Int.toNat Ae) default).Index)
 (gq ((a1.getD (Int.toNat Ae) default).Index < (((Int.toNat ((((a0.Sites.getD (Int.toNat a2) default).Decl).Resources).length:Int)):Nat):Int))
 (fq (Ap.findIdx? fun b=>((a1.getD (Int.toNat Ae) default).Proc == b.u_proc && ((a1.getD (Int.toNat Ae) default).Index == b.u_resource))) (fun i61=>
 (rec (Bo (Ae+1)) Ap (Ax.set i61 true) Az (Aq.set (Int.toNat ((a1.getD (Int.toNat Ae) default).Index)) (Bo ((Aq.getD (Int.toNat ((a1.getD (Int.toNat Ae) default).Index)) default)+(Bo (0 - (a1.getD (Int.toNat Ae) default).Value))))) A9))
 (rec (Bo (Ae+1)) (Ap++ [(⟨(a1.getD (Int.toNat Ae) default).Proc,(a1.getD (Int.toNat Ae) default).Index⟩:Au)]) (Ax++ [true]) Az (Aq.set (Int.toNat ((a1.getD (Int.toNat Ae) default).Index)) (Bo ((Aq.getD (Int.toNat ((a1.getD (Int.toNat Ae) default).Index)) default)+(Bo (0 - (a1.getD (Int.toNat Ae) default).Value))))) A9))))))
 (fq (Ap.findIdx? fun b=>((a1.getD (Int.toNat Ae) default).Proc == b.u_proc && ((a1.getD (Int.toNat Ae) default).Index == b.u_resource))) (fun i62=>
 (rec (Bo (Ae+1)) Ap (Ax.set i62 true) Az Aq A9))
 (rec (Bo (Ae+1)) (Ap++ [(⟨(a1.getD (Int.toNat Ae) default).Proc,(a1.getD (Int.toNat Ae) default).Index⟩:Au)]) (Ax++ [true]) Az Aq A9)))))
 (cn ((a1.getD (Int.toNat Ae) default).What == 5)
 (fq (Ap.findIdx? fun b=>((a1.getD (Int.toNat Ae) default).Proc == b.u_proc && ((a1.getD (Int.toNat Ae) default).Index == b.u_resource))) (fun i63=>
 (rec (Bo (Ae+1)) Ap (Ax.set i63 true) Az Aq A9))
 (rec (Bo (Ae+1)) (Ap++ [(⟨(a1.getD (Int.toNat Ae) default).Proc,(a1.getD (Int.toNat Ae) default).Index⟩:Au)]) (Ax++ [true]) Az Aq A9))
 (rec (Bo (Ae+1)) Ap Ax Az Aq A9)))))))
 (cn ((a1.getD (Int.toNat Ae) default).What == 4)
 (jp (.cn (decide ((a1.getD (Int.toNat Ae) default).Index≥0))
 (.lf (decide ((a1.getD (Int.toNat Ae) default).Index < ((Int.toNat ((((a0.Sites.getD (Int.toNat a2) default).Decl).Resources).length:Int)):Int))))
 (.lf false)) (fun b64=>
 (cn b64
 (gq (0≤(a1.getD (Int.toNat Ae) default).Index)
 (gq ((a1.getD (Int.toNat Ae) default).Index < (((Int.toNat ((((a0.Sites.getD (Int.toNat a2) default).Decl).Resources).length:Int)):Nat):Int))
 (gq (0≤(a1.getD (Int.toNat Ae) default).Index)
 (gq ((a1.getD (Int.toNat Ae) default).Index < (((Int.toNat ((((a0.Sites.getD (Int.toNat a2) default).Decl).Resources).length:Int)):Nat):Int))
 (fq (Ap.findIdx? fun b=>((a1.getD (Int.toNat Ae) default).Proc == b.u_proc && ((a1.getD (Int.toNat Ae) default).Index == b.u_resource))) (fun i65=>
 (rec (Bo (Ae+1)) ((Ap.take i65).drop 0++(Ap.take Ap.length).drop (i65+1)) ((Ax.take i65).drop 0++(Ax.take Ax.length).drop (i65+1)) Az (Aq.set (Int.toNat ((a1.getD (Int.toNat Ae) default).Index)) (Bo ((Aq.getD (Int.toNat ((a1.getD (Int.toNat Ae) default).Index)) default)+(a1.getD (Int.toNat Ae) default).Value))) A9))
 (rec (Bo (Ae+1)) Ap Ax Az (Aq.set (Int.toNat ((a1.getD (Int.toNat Ae) default).Index)) (Bo ((Aq.getD (Int.toNat ((a1.getD (Int.toNat Ae) default).Index)) default)+(a1.getD (Int.toNat Ae) default).Value))) A9))))))
 (fq (Ap.findIdx? fun b=>((a1.getD (Int.toNat Ae) default).Proc == b.u_proc && ((a1.getD (Int.toNat Ae) default).Index == b.u_resource))) (fun i66=>
 (rec (Bo (Ae+1)) ((Ap.take i66).drop 0++(Ap.take Ap.length).drop (i66+1)) ((Ax.take i66).drop 0++(Ax.take Ax.length).drop (i66+1)) Az Aq A9))
 (rec (Bo (Ae+1)) Ap Ax Az Aq A9)))))
 (cn ((a1.getD (Int.toNat Ae) default).What == 6)
 (jp (.cn (decide ((a1.getD (Int.toNat Ae) default).Index≥0))
 (.lf (decide ((a1.getD (Int.toNat Ae) default).Index < ((Int.toNat ((((a0.Sites.getD (Int.toNat a2) default).Decl).Resources).length:Int)):Int))))
 (.lf false)) (fun b67=>
 (cn b67
 (gq (0≤(a1.getD (Int.toNat Ae) default).Index)
 (gq ((a1.getD (Int.toNat Ae) default).Index < (((Int.toNat ((((a0.Sites.getD (Int.toNat a2) default).Decl).Resources).length:Int)):Nat):Int))
 (gq (0≤(a1.getD (Int.toNat Ae) default).Index)
 (gq ((a1.getD (Int.toNat Ae) default).Index < (((Int.toNat ((((a0.Sites.getD (Int.toNat a2) default).Decl).Resources).length:Int)):Nat):Int))
 (rec (Bo (Ae+1)) Ap Ax Az (Aq.set (Int.toNat ((a1.getD (Int.toNat Ae) default).Index)) (Bo ((Aq.getD (Int.toNat ((a1.getD (Int.toNat Ae) default).Index)) default)+(Bo (0 - (a1.getD (Int.toNat Ae) default).Value))))) A9)))))
 (rec (Bo (Ae+1)) Ap Ax Az Aq A9))))
 (cn ((a1.getD (Int.toNat Ae) default).What == 7)
 (jp (.cn (decide ((a1.getD (Int.toNat Ae) default).Index≥0))
 (.lf (decide ((a1.getD (Int.toNat Ae) default).Index < ((Int.toNat ((((a0.Sites.getD (Int.toNat a2) default).Decl).Resources).length:Int)):Int))))
 (.lf false)) (fun b68=>
 (cn b68
 (gq (0≤(a1.getD (Int.toNat Ae) default).Index)
 (gq ((a1.getD (Int.toNat Ae) default).Index < (((Int.toNat ((((a0.Sites.getD (Int.toNat a2) default).Decl).Resources).length:Int)):Nat):Int))
 (gq (0≤(a1.getD (Int.toNat Ae) default).Index)
 (gq ((a1.getD (Int.toNat Ae) default).Index < (((Int.toNat ((((a0.Sites.getD (Int.toNat a2) default).Decl).Resources).length:Int)):Nat):Int))
 (fq (Ap.findIdx? fun b=>((a1.getD (Int.toNat Ae) default).Proc == b.u_proc && ((a1.getD (Int.toNat Ae) default).Index == b.u_resource))) (fun i69=>
 (rec (Bo (Ae+1)) Ap (Ax.set i69 true) Az (Aq.set (Int.toNat ((a1.getD (Int.toNat Ae) default).Index)) (Bo ((Aq.getD (Int.toNat ((a1.getD (Int.toNat Ae) default).Index)) default)+(Bo (0 - (a1.getD (Int.toNat Ae) default).Value))))) A9))
 (rec (Bo (Ae+1)) (Ap++ [(⟨(a1.getD (Int.toNat Ae) default).Proc,(a1.getD (Int.toNat Ae) default).Index⟩:Au)]) (Ax++ [true]) Az (Aq.set (Int.toNat ((a1.getD (Int.toNat Ae) default).Index)) (Bo ((Aq.getD (Int.toNat ((a1.getD (Int.toNat Ae) default).Index)) default)+(Bo (0 - (a1.getD (Int.toNat Ae) default).Value))))) A9))))))
 (fq (Ap.findIdx? fun b=>((a1.getD (Int.toNat Ae) default).Proc == b.u_proc && ((a1.getD (Int.toNat Ae) default).Index == b.u_resource))) (fun i70=>
 (rec (Bo (Ae+1)) Ap (Ax.set i70 true) Az Aq A9))
 (rec (Bo (Ae+1)) (Ap++ [(⟨(a1.getD (Int.toNat Ae) default).Proc,(a1.getD (Int.toNat Ae) default).Index⟩:Au)]) (Ax++ [true]) Az Aq A9)))))
 (cn ((a1.getD (Int.toNat Ae) default).What == 5)
 (fq (Ap.findIdx? fun b=>((a1.getD (Int.toNat Ae) default).Proc == b.u_proc && ((a1.getD (Int.toNat Ae) default).Index == b.u_resource))) (fun i71=>
 (rec (Bo (Ae+1)) Ap (Ax.set i71 true) Az Aq A9))
 (rec (Bo (Ae+1)) (Ap++ [(⟨(a1.getD (Int.toNat Ae) default).Proc,(a1.getD (Int.toNat Ae) default).Index⟩:Au)]) (Ax++ [true]) Az Aq A9))
 (rec (Bo (Ae+1)) Ap Ax Az Aq A9))))))))
 (rec (Bo (Ae+1)) Ap Ax Az Aq A9)))))))))
 (rec (Bo (Ae+1)) Ap Ax Az Aq A9))))
 (lf (0,Ae,Ap,Ax,Az,Aq,A9)))
def Adv [An A (Nat×Tu8)](a2:Int)(a3:Int)(a1:List Bl)(a0:Ac)(rec:Int→List Au→List Bool→List Int→List Int→List Int→A)(Ae:Int)(Ap:List Au)(Ax:List Bool)(Az:List Int)(Aq:List Int)(A9:List Int):A:=Re L a2 a3 a1 a0 rec Ae Ap Ax Az Aq A9 (fun Ae Az Aq A9 Ap Ax b1=>bd (Jp L a0 a2 a1 Ae a3 Az Aq A9 L 0 Ap Ax) fun o72=>Ju L Ae Az a1 Aq A9 rec o72) (fun Ae Az Aq A9 Ap Ax b1=>bd (Jq L a0 a2 a1 Ae a3 Az Aq A9 L 0 Ap Ax) fun o73=>Jv L Ae Az Aq A9 rec o73)
def E7(L:Nat)(a2:Int)(a3:Int)(a1:List Bl)(a0:Ac):Nat→Int→List Au→List Bool→List Int→List Int→List Int→Option (Nat×Tu8)
 |0,_,_,_,_,_,_=>none
 |n+1,Ae,Ap,Ax,Az,Aq,A9=>Adv L a2 a3 a1 a0 (E7 L a2 a3 a1 a0 n) Ae Ap Ax Az Aq A9
def Ay8(a2:Int)(a3:Int)(a1:List Bl)(a0:Ac):Prop:=LI (EV (O22 L) L 9 c22.w.l.u.l.l) [0,1,2,3,4,8,9,12,19,20,21,22] [4,8,17,19,1012,1015,1016,1017,1030,1034,1038,1042] (Avo a2 a3 a1 a0) [.exit 0] (fun n v=>E7 L a2 a3 a1 a0 n v.1 v.2.1 v.2.2.1 v.2.2.2.1 v.2.2.2.2.1 v.2.2.2.2.2) K n
def Bbc(a1:List Bl)(Ae:Int)(a2:Int)(a3:Int)(b1:Bool)(a0:Ac)(Ap:List Au)(Ax:List Bool)(Az:List Int)(Aq:List Int)(A9:List Int):Bg:=(Bcv L a1 Ae a2 a3 b1 a0 Ap Ax Az Aq A9 n K)
theorem Bvs(a0:Ac)(a2:Int)(a1:List Bl)(Ae:Int)(a3:Int)(Az:List Int)(Aq:List Int)(A9:List Int)(b1:Bool)(Ap:List Au)(Ax:List Bool)(ih:Ay8 L n K a2 a3 a1 a0)(o72:Nat×Art):kX [.exit 1] (Bdo a0 a2 a1 Ae a3 Az Aq A9) (Bbc L n K a1 Ae a2 a3 b1 a0 Ap Ax Az Aq A9) o72=ob (Ju L Ae Az a1 Aq A9 (E7 L a2 a3 a1 a0 n) o72) (kX [.exit 0] (Avo a2 a3 a1 a0) K):=eE (Ju L Ae Az a1 Aq A9 (fun Ae Ap Ax Az Aq A9=>re (ih (Ae,Ap,Ax,Az,Aq,A9))) o72)
def Bbd(a1:List Bl)(Ae:Int)(a2:Int)(a3:Int)(b1:Bool)(a0:Ac)(Ap:List Au)(Ax:List Bool)(Az:List Int)(Aq:List Int)(A9:List Int):Bg:=(Bcv L a1 Ae a2 a3 b1 a0 Ap Ax Az Aq A9 n K)
theorem Bvt(a0:Ac)(a2:Int)(a1:List Bl)(Ae:Int)(a3:Int)(Az:List Int)(Aq:List Int)(A9:List Int)(b1:Bool)(Ap:List Au)(Ax:List Bool)(ih:Ay8 L n K a2 a3 a1 a0)(o73:Nat×Art):kX [.exit 1] (Bdp a0 a2 a1 Ae a3 Az Aq A9) (Bbd L n K a1 Ae a2 a3 b1 a0 Ap Ax Az Aq A9) o73=ob (Jv L Ae Az Aq A9 (E7 L a2 a3 a1 a0 n) o73) (kX [.exit 0] (Avo a2 a3 a1 a0) K):=eE (Jv L Ae Az Aq A9 (fun Ae Ap Ax Az Aq A9=>re (ih (Ae,Ap,Ax,Az,Aq,A9))) o73)
theorem Bns(a2:Int)(a3:Int)(a1:List Bl)(a0:Ac):∀n,Ay8 L n K a2 a3 a1 a0:=lE (fun _=>rfl) fun n v ih=>eE (Re L a2 a3 a1 a0 (fun Ae Ap Ax Az Aq A9=>re (ih (Ae,Ap,Ax,Az,Aq,A9))) v.1 v.2.1 v.2.2.1 v.2.2.2.1 v.2.2.2.2.1 v.2.2.2.2.2 (fun Ae Az Aq A9 Ap Ax b1=>ho (Bnt L (Bbc L n K a1 Ae a2 a3 b1 a0 Ap Ax Az Aq A9) a0 a2 a1 Ae a3 Az Aq A9 L (0,Ap,Ax)) fun o72=>Bvs L n K a0 a2 a1 Ae a3 Az Aq A9 b1 Ap Ax ih o72) (fun Ae Az Aq A9 Ap Ax b1=>ho (Bnu L (Bbd L n K a1 Ae a2 a3 b1 a0 Ap Ax Az Aq A9) a0 a2 a1 Ae a3 Az Aq A9 L (0,Ap,Ax)) fun o73=>Bvt L n K a0 a2 a1 Ae a3 Az Aq A9 b1 Ap Ax ih o73))
def A1h(a0:Ac)(o74:Nat×Tu8)(a3:Int)(a2:Int)(v:List Int):St:=⟨[(0,.any),(1,.any),(2,.any),(3,.any),(4,.any),(8,.loc 8 0),(9,.loc 19 0),(11,.any),(19,.any),(22,.any),(44,.any)],[(4,(Bh a0)),(8,[I 0,I 0,.lst true (.t3 []),.lst true (.t3 []),.lst true (.t3 []),.lst true (.t3 [])]),(17,[.mapO true false (.t109 o74.2.2.1) (.t4 o74.2.2.2.1)]),(19,[I a3,I a2,.vw false 1030 3 1 (Int.toNat (((a0.Sites.getD (Int.toNat a2) default).Routines).length:Int)),.vw false 1034 3 1 (Int.toNat ((((a0.Sites.getD (Int.toNat a2) default).Decl).Resources).length:Int)),.vw false 1038 3 1 (Int.toNat ((((a0.Sites.getD (Int.toNat a2) default).Decl).Resources).length:Int)),.vw false 1042 3 1 (Int.toNat ((((a0.Sites.getD (Int.toNat a2) default).Decl).Stores).length:Int)),.mp 17]),(1012,(Bh a0)),(1015,[I a3,I a2,.vw false 1030 3 1 (Int.toNat (((a0.Sites.getD (Int.toNat a2) default).Routines).length:Int)),.vw false 1034 3 1 (Int.toNat ((((a0.Sites.getD (Int.toNat a2) default).Decl).Resources).length:Int)),.vw false 1038 3 1 (Int.toNat ((((a0.Sites.getD (Int.toNat a2) default).Decl).Resources).length:Int)),.vw false 1042 3 1 (Int.toNat ((((a0.Sites.getD (Int.toNat a2) default).Decl).Stores).length:Int))]),(1016,[S ((a0.Sites.getD (Int.toNat a2) default).Decl).Name,lv (.t123 (((a0.Sites.getD (Int.toNat a2) default).Decl).Vars)),lv (.t86 (((a0.Sites.getD (Int.toNat a2) default).Decl).Resources)),lv (.t89 (((a0.Sites.getD (Int.toNat a2) default).Decl).Stores)),lv (.t178 (((a0.Sites.getD (Int.toNat a2) default).Decl).Belts)),lv (.t9 (((a0.Sites.getD (Int.toNat a2) default).Decl).Queues)),lv (.t9 (((a0.Sites.getD (Int.toNat a2) default).Decl).Streams)),lv (.t9 (((a0.Sites.getD (Int.toNat a2) default).Decl).Tallies)),lv (.t9 (((a0.Sites.getD (Int.toNat a2) default).Decl).Levels)),lv (.t9 (((a0.Sites.getD (Int.toNat a2) default).Decl).Counts)),lv (.t93 (((a0.Sites.getD (Int.toNat a2) default).Decl).Routines)),lv (.t150 (((a0.Sites.getD (Int.toNat a2) default).Decl).Starts)),lv (.t154 (((a0.Sites.getD (Int.toNat a2) default).Decl).Laws)),lv (.t78 ((a0.Sites.getD (Int.toNat a2) default).Routines))]),(1017,(Ad ((a0.Sites.getD (Int.toNat a2) default).Decl))),(1030,[.arrO (.t3 o74.2.2.2.2.1)]),(1034,[.arrO (.t3 o74.2.2.2.2.2.1)]),(1038,[.arrO (.t3 v)]),(1042,[.arrO (.t3 o74.2.2.2.2.2.2)])],0⟩
def Bah(a0:Ac)(o74:Nat×Tu8)(a3:Int)(a2:Int)(es:Array MapEntry)(clock r:Nat)(v:List Int):St:=⟨[(0,.any),(1,.any),(2,.any),(3,.any),(4,.any),(8,.loc 8 0),(9,.loc 19 0),(11,.any),(19,.any),(22,.any),(44,.val (Value.pointer (some ⟨r,0,none⟩)))],[(4,(Bh a0)),(8,[I 0,I 0,.lst true (.t3 []),.lst true (.t3 []),.lst true (.t3 []),.lst true (.t3 [])]),(17,[.mapE es clock true false (.t109 o74.2.2.1) (.t4 o74.2.2.2.1)]),(19,[I a3,I a2,.vw false 1030 3 1 (Int.toNat (((a0.Sites.getD (Int.toNat a2) default).Routines).length:Int)),.vw false 1034 3 1 (Int.toNat ((((a0.Sites.getD (Int.toNat a2) default).Decl).Resources).length:Int)),.vw false 1038 3 1 (Int.toNat ((((a0.Sites.getD (Int.toNat a2) default).Decl).Resources).length:Int)),.vw false 1042 3 1 (Int.toNat ((((a0.Sites.getD (Int.toNat a2) default).Decl).Stores).length:Int)),.mp 17]),(1012,(Bh a0)),(1015,[I a3,I a2,.vw false 1030 3 1 (Int.toNat (((a0.Sites.getD (Int.toNat a2) default).Routines).length:Int)),.vw false 1034 3 1 (Int.toNat ((((a0.Sites.getD (Int.toNat a2) default).Decl).Resources).length:Int)),.vw false 1038 3 1 (Int.toNat ((((a0.Sites.getD (Int.toNat a2) default).Decl).Resources).length:Int)),.vw false 1042 3 1 (Int.toNat ((((a0.Sites.getD (Int.toNat a2) default).Decl).Stores).length:Int))]),(1016,[S ((a0.Sites.getD (Int.toNat a2) default).Decl).Name,lv (.t123 (((a0.Sites.getD (Int.toNat a2) default).Decl).Vars)),lv (.t86 (((a0.Sites.getD (Int.toNat a2) default).Decl).Resources)),lv (.t89 (((a0.Sites.getD (Int.toNat a2) default).Decl).Stores)),lv (.t178 (((a0.Sites.getD (Int.toNat a2) default).Decl).Belts)),lv (.t9 (((a0.Sites.getD (Int.toNat a2) default).Decl).Queues)),lv (.t9 (((a0.Sites.getD (Int.toNat a2) default).Decl).Streams)),lv (.t9 (((a0.Sites.getD (Int.toNat a2) default).Decl).Tallies)),lv (.t9 (((a0.Sites.getD (Int.toNat a2) default).Decl).Levels)),lv (.t9 (((a0.Sites.getD (Int.toNat a2) default).Decl).Counts)),lv (.t93 (((a0.Sites.getD (Int.toNat a2) default).Decl).Routines)),lv (.t150 (((a0.Sites.getD (Int.toNat a2) default).Decl).Starts)),lv (.t154 (((a0.Sites.getD (Int.toNat a2) default).Decl).Laws)),lv (.t78 ((a0.Sites.getD (Int.toNat a2) default).Routines))]),(1017,(Ad ((a0.Sites.getD (Int.toNat a2) default).Decl))),(1030,[.arrO (.t3 o74.2.2.2.2.1)]),(1034,[.arrO (.t3 o74.2.2.2.2.2.1)]),(1038,[.arrO (.t3 v)]),(1042,[.arrO (.t3 o74.2.2.2.2.2.2)])],2043⟩
def C7 [An A (List Int)](L:Nat)(a0:Ac)(o74:Nat×Tu8)(a3:Int)(a2:Int)(i0:Nat)(v:List Int):A:=
 (jp (.cn (decide ((o74.2.2.1.getD i0 default).u_resource≥0))
 (.lf (decide ((o74.2.2.1.getD i0 default).u_resource < ((Int.toNat ((((a0.Sites.getD (Int.toNat a2) default).Decl).Resources).length:Int)):Int))))
 (.lf false)) (fun b75=>
 (cn b75
 (gq (0≤(o74.2.2.1.getD i0 default).u_resource)
 (gq ((o74.2.2.1.getD i0 default).u_resource < (((Int.toNat ((((a0.Sites.getD (Int.toNat a2) default).Decl).Resources).length:Int)):Nat):Int))
 (gq (0≤(o74.2.2.1.getD i0 default).u_resource)
 (gq ((o74.2.2.1.getD i0 default).u_resource < (((Int.toNat ((((a0.Sites.getD (Int.toNat a2) default).Decl).Resources).length:Int)):Nat):Int))
 (lf (v.set (Int.toNat ((o74.2.2.1.getD i0 default).u_resource)) (Bo ((v.getD (Int.toNat ((o74.2.2.1.getD i0 default).u_resource)) default)+1))))))))
 (lf v))))
def Az1(x m:Int)(v:List Int):List Int:=if 0≤x∧x < m then v.set (Int.toNat x) (Bo (v.getD (Int.toNat x) default+1)) else v
theorem A7o(x y m:Int)(v:List Int):Az1 x m (Az1 y m v)=Az1 y m (Az1 x m v):=by
 unfold Az1
 by_cases h1:0≤x∧x < m<;>by_cases h2:0≤y∧y < m<;>simp only [h1,h2,if_true,if_false,and_self]
 by_cases e:x.toNat=y.toNat
 ·rw [e]
 ·have g:∀(p q:Nat) (z:Int),p≠q→(v.set p z).getD q default=v.getD q default:=fun p q z h=>by
   simp [List.getD,List.getElem?_set_ne h]
  rw [g _ _ _ e,g _ _ _ (fun h=>e h.symm),List.set_comm _ _ e]
theorem Brn(a0:Ac)(o74:Nat×Tu8)(a3:Int)(a2:Int)(i:Nat)(v:List Int):(C7 L a0 o74 a3 a2 i v:Option _)=some (Az1 ((o74.2.2.1.getD i default).u_resource) ((Int.toNat ((((a0.Sites.getD (Int.toNat a2) default).Decl).Resources).length:Int):Nat):Int) v):=by
 unfold C7 Az1
 rw [Bmj]
 by_cases h1:(0:Int)≤(o74.2.2.1.getD i default).u_resource<;>by_cases h2:(o74.2.2.1.getD i default).u_resource < ((Int.toNat ((((a0.Sites.getD (Int.toNat a2) default).Decl).Resources).length:Int):Nat):Int)<;>simp only [BT.v,Bmh,Bmi,Bmk,ge_iff_le,h1,h2,decide_true,decide_false,cond_true,cond_false,if_true,if_false,and_self,and_false,false_and,true_and]
theorem Aca(a0:Ac)(o74:Nat×Tu8)(a3:Int)(a2:Int)(i j:Nat)(v:List Int)(hi:i < o74.2.2.1.length)(hj:j < o74.2.2.1.length):((C7 L a0 o74 a3 a2 i v:Option _).bind fun v=>C7 L a0 o74 a3 a2 j v)=(C7 L a0 o74 a3 a2 j v:Option _).bind fun v=>C7 L a0 o74 a3 a2 i v:=by
 simp only [Brn,Option.bind_some,A7o]
def Qs(a0:Ac)(o74:Nat×Tu8)(a3:Int)(a2:Int)(n:Nat)(v:List Int):Option (List Int):=if o74.2.2.1.length < n then Y7 (fun i0 v=>C7 L a0 o74 a3 a2 i0 v) (List.range o74.2.2.1.length) v else none
theorem Bnv(a0:Ac)(o74:Nat×Tu8)(a3:Int)(a2:Int)(v:List Int)(st:St)(h0:∀es clock r,Bj2 st 17 44 [.mapE es clock true false (.t109 o74.2.2.1) (.t4 o74.2.2.2.1)] (.val (.pointer (some ⟨r,0,none⟩))) [0,1,2,3,4,8,9,11,19,22,44]=Bah a0 o74 a3 a2 es clock r v)(hl:Ce st= [4,8,17,19,1012,1015,1016,1017,1030,1034,1038,1042])(hbs:st.base=0):Bro (rgF Tryz.prog (O22 L) (EI (O22 L) L 9) L c22.w.u.l) 3 17 true false (.t109 o74.2.2.1) (.t4 o74.2.2.2.1) 44 45 46 47 [0,1,2,3,4,8,9,11,19,22,44] L st (fun st9=>K .normal st9)=ob (Qs L a0 o74 a3 a2 L v) (kR (A1h a0 o74 a3 a2) K):=
 Bj3 (A1h a0 o74 a3 a2) (Bah a0 o74 a3 a2) (fun i0 v=>C7 L a0 o74 a3 a2 i0 v) v h0 hl hbs (fun es clock r i0 v G=>eE (C7 L a0 o74 a3 a2 i0 v)) (fun es clock r v=>by kernel_rfl) (Aca L a0 o74 a3 a2)
def Jw [An A Ak](L:Nat)(a3:Int)(a2:Int)(o74:Nat×Tu8)(o76:List Int):A:=
 (lf (⟨a3,a2,o74.2.2.2.2.1,o74.2.2.2.2.2.1,o76,o74.2.2.2.2.2.2⟩:Ak))
def Bbf:Bg:=(Bp (EV (O22 L) L 9 c22.w.u.r) (Ct Tryz.prog (RS Tryz.f22) kk))
theorem Bvv(a0:Ac)(o74:Nat×Tu8)(a3:Int)(a2:Int)(o76:List Int):kR (A1h a0 o74 a3 a2) (Bbf L kk) o76=ob (Jw L a3 a2 o74 o76) (Bu8 kk):=eE (Jw L a3 a2 o74 o76)
def Rg [An A Ak](L:Nat)(a0:Ac)(a3:Int)(a2:Int)(o74:Nat×Tu8)(nx4:(Nat×Tu8)→A):A:=
 (sl o74.1 [(nx4 o74)])
def Q0 [An A Ak](a0:Ac)(a3:Int)(a2:Int)(o74:Nat×Tu8):A:=Rg L a0 a3 a2 o74 (fun o74=>bd (Qs L a0 o74 a3 a2 L (List.replicate (Int.toNat ((((a0.Sites.getD (Int.toNat a2) default).Decl).Resources).length:Int)) 0)) fun o76=>Jw L a3 a2 o74 o76)
def Bbe:Bg:=(Bb 0 (Bp (EV (O22 L) L 9 c22.w.r) (Ct Tryz.prog (RS Tryz.f22) kk)))
theorem Bvu(a2:Int)(a3:Int)(a1:List Bl)(a0:Ac)(o74:Nat×Tu8):kX [.exit 0] (Avo a2 a3 a1 a0) (Bbe L kk) o74=ob (Q0 L a0 a3 a2 o74) (Bu8 kk):=eE (Rg L a0 a3 a2 o74 (fun o74=>ho (Bnv L (Bbf L kk) a0 o74 a3 a2 (List.replicate (Int.toNat ((((a0.Sites.getD (Int.toNat a2) default).Decl).Resources).length:Int)) 0) (⟨[(43,.mp 17),(42,.loc 19 6),(41,.loc 19 0),(40,.loc 19 0),(8,.loc 8 0),(9,.loc 19 0)],[(4,(Bh a0)),(8,[I 0,I 0,.lst true (.t3 []),.lst true (.t3 []),.lst true (.t3 []),.lst true (.t3 [])]),(17,[.mapO true false (.t109 o74.2.2.1) (.t4 o74.2.2.2.1)]),(19,[I a3,I a2,.vw false 1030 3 1 (Int.toNat (((a0.Sites.getD (Int.toNat a2) default).Routines).length:Int)),.vw false 1034 3 1 (Int.toNat ((((a0.Sites.getD (Int.toNat a2) default).Decl).Resources).length:Int)),.vw false 1038 3 1 (Int.toNat ((((a0.Sites.getD (Int.toNat a2) default).Decl).Resources).length:Int)),.vw false 1042 3 1 (Int.toNat ((((a0.Sites.getD (Int.toNat a2) default).Decl).Stores).length:Int)),.mp 17]),(1012,(Bh a0)),(1015,[I a3,I a2,.vw false 1030 3 1 (Int.toNat (((a0.Sites.getD (Int.toNat a2) default).Routines).length:Int)),.vw false 1034 3 1 (Int.toNat ((((a0.Sites.getD (Int.toNat a2) default).Decl).Resources).length:Int)),.vw false 1038 3 1 (Int.toNat ((((a0.Sites.getD (Int.toNat a2) default).Decl).Resources).length:Int)),.vw false 1042 3 1 (Int.toNat ((((a0.Sites.getD (Int.toNat a2) default).Decl).Stores).length:Int))]),(1016,[S ((a0.Sites.getD (Int.toNat a2) default).Decl).Name,lv (.t123 (((a0.Sites.getD (Int.toNat a2) default).Decl).Vars)),lv (.t86 (((a0.Sites.getD (Int.toNat a2) default).Decl).Resources)),lv (.t89 (((a0.Sites.getD (Int.toNat a2) default).Decl).Stores)),lv (.t178 (((a0.Sites.getD (Int.toNat a2) default).Decl).Belts)),lv (.t9 (((a0.Sites.getD (Int.toNat a2) default).Decl).Queues)),lv (.t9 (((a0.Sites.getD (Int.toNat a2) default).Decl).Streams)),lv (.t9 (((a0.Sites.getD (Int.toNat a2) default).Decl).Tallies)),lv (.t9 (((a0.Sites.getD (Int.toNat a2) default).Decl).Levels)),lv (.t9 (((a0.Sites.getD (Int.toNat a2) default).Decl).Counts)),lv (.t93 (((a0.Sites.getD (Int.toNat a2) default).Decl).Routines)),lv (.t150 (((a0.Sites.getD (Int.toNat a2) default).Decl).Starts)),lv (.t154 (((a0.Sites.getD (Int.toNat a2) default).Decl).Laws)),lv (.t78 ((a0.Sites.getD (Int.toNat a2) default).Routines))]),(1017,(Ad ((a0.Sites.getD (Int.toNat a2) default).Decl))),(1030,[.arrO (.t3 o74.2.2.2.2.1)]),(1034,[.arrO (.t3 o74.2.2.2.2.2.1)]),(1038,[.arrO (.t3 (List.replicate (Int.toNat ((((a0.Sites.getD (Int.toNat a2) default).Decl).Resources).length:Int)) 0))]),(1042,[.arrO (.t3 o74.2.2.2.2.2.2)])],0⟩:St) (fun _ _ _=>by kernel_rfl) (by kernel_rfl) (by kernel_rfl)) fun o76=>Bvv L kk a0 o74 a3 a2 o76))
def Rf [An A Ak](L:Nat)(a0:Ac)(a1:List Bl)(a2:Int)(a3:Int)(nx3:A):A:=
 (gi a2 a0.Sites
 (gq (0≤(((a0.Sites.getD (Int.toNat a2) default).Routines).length:Int))
 (gq ((((a0.Sites.getD (Int.toNat a2) default).Routines).length:Int)*((8:Nat):Int)≤140737488355328)
 (gq ((((a0.Sites.getD (Int.toNat a2) default).Routines).length:Int)≤9223372036854775807)
 (gq (0≤((((a0.Sites.getD (Int.toNat a2) default).Decl).Resources).length:Int))
 (gq (((((a0.Sites.getD (Int.toNat a2) default).Decl).Resources).length:Int)*((8:Nat):Int)≤140737488355328)
 (gq (((((a0.Sites.getD (Int.toNat a2) default).Decl).Resources).length:Int)≤9223372036854775807)
 (gq (0≤((((a0.Sites.getD (Int.toNat a2) default).Decl).Resources).length:Int))
 (gq (((((a0.Sites.getD (Int.toNat a2) default).Decl).Resources).length:Int)*((8:Nat):Int)≤140737488355328)
 (gq (((((a0.Sites.getD (Int.toNat a2) default).Decl).Resources).length:Int)≤9223372036854775807)
 (gq (0≤((((a0.Sites.getD (Int.toNat a2) default).Decl).Stores).length:Int))
 (gq (((((a0.Sites.getD (Int.toNat a2) default).Decl).Stores).length:Int)*((8:Nat):Int)≤140737488355328)
 (gq (((((a0.Sites.getD (Int.toNat a2) default).Decl).Stores).length:Int)≤9223372036854775807)
 nx3)))))))))))))
def Aiw [An A Ak](a0:Ac)(a1:List Bl)(a2:Int)(a3:Int):A:=Rf L a0 a1 a2 a3 (bd (E7 L a2 a3 a1 a0 L 0 [] [] (List.replicate (Int.toNat (((a0.Sites.getD (Int.toNat a2) default).Routines).length:Int)) 0) (List.replicate (Int.toNat ((((a0.Sites.getD (Int.toNat a2) default).Decl).Resources).length:Int)) 0) (List.replicate (Int.toNat ((((a0.Sites.getD (Int.toNat a2) default).Decl).Stores).length:Int)) 0)) fun o74=>Q0 L a0 a3 a2 o74)
def Mm(a0:Ac)(a1:List Bl)(a2:Int)(a3:Int):Option Ak:=Aiw L a0 a1 a2 a3
def X22:Di:=E4 (fun(x:Ak)=> .agg (Em x)) 22 B6 A7y (cI .i64) (cI .i64) (Mm L) fun a0 a1 a2 a3 r h=>hF Tryz.func22 (C:=O22 L) (oS _) L (fun kk=>eE (Rf L a0 a1 a2 a3 (ho (Bns L (Bbe L kk) a2 a3 a1 a0 L (0,[],[],(List.replicate (Int.toNat (((a0.Sites.getD (Int.toNat a2) default).Routines).length:Int)) 0),(List.replicate (Int.toNat ((((a0.Sites.getD (Int.toNat a2) default).Decl).Resources).length:Int)) 0),(List.replicate (Int.toNat ((((a0.Sites.getD (Int.toNat a2) default).Decl).Stores).length:Int)) 0))) fun o74=>Bvu L kk a2 a3 a1 a0 o74))) h
end
end Go.Proofs.YthjhkpgonleelaaGreatDoor.Ev
