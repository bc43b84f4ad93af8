import Derived.Test.YthjhkpgonleelaaGreatDoorBG0
namespace Go.Proofs.YthjhkpgonleelaaGreatDoor.Ev
open Go An
set_option maxRecDepth 100000
set_option maxHeartbeats 4000000
set_option linter.unusedVariables false
set_option linter.unusedSimpArgs false
set_option linter.unnecessarySimpa false
noncomputable section
variable {A:Type} (L n:Nat) (kk:Ep) (K:Ci) (k:Bn)
def c41:=CC Tryz.f41
def c22:=CC Tryz.f22
def O22(L:Nat):Bt:=oL []
def Bkw:Bc→Prop:=fun x=>kk ((fun(x:Bc)=> .agg (Xm x)) x)
def A6z(a1:List Bo)(Af:Int)(a2:Int)(a3:Int)(b1:Bool)(a0:Ad)(Ah:List Aw)(Aj:List Bool)(Ak:List Int)(Ai:List Int)(Al:List Int)(n:Nat)(K:Ci):Ci:=(Bs 1 (Bs 0 (Dg Tryz.prog (RS Tryz.f41) (Bx Tryz.prog (O22 L) (EI (O22 L) L 9) 0 (List.drop 3 c22.w.l.u.l.l.w.l.l.w.l.ops) ⟨[(37,.agg (Ou (a1.getD (Int.toNat Af) default))),(36,.loc 19 0),(2,I a2),(3,I a3),(8,.loc 8 0),(9,.loc 19 0),(11,.loc 11 0),(20,lv (.t46 a1)),(21,I (a1.length:Int)),(22,I Af),(23,B (decide (Af < (a1.length:Int)))),(24,.ref (Ou (a1.getD (Int.toNat Af) default))),(25,.agg (Ou (a1.getD (Int.toNat Af) default))),(26,.loc 11 1),(27,I (a1.getD (Int.toNat Af) default).Site),(28,I a2),(29,B ((a1.getD (Int.toNat Af) default).Site == a2)),(30,B ((a1.getD (Int.toNat Af) default).Site == a2)),(35,B b1)],[(4,(B4 a0)),(8,[I 0,I 0,.lst true (.t3 []),.lst true (.t3 []),.lst true (.t3 []),.lst true (.t3 [])]),(11,(Ou (a1.getD (Int.toNat Af) default))),(17,[.mapO true false (.t109 Ah) (.t4 Aj)]),(19,[I a3,I a2,.vw false 1030 3 1 (Int.toNat (((a0.Sites.getD (Int.toNat a2) default).Routines).length:Int)),.vw false 1034 3 1 (Int.toNat ((((a0.Sites.getD (Int.toNat a2) default).Decl).Resources).length:Int)),.vw false 1038 3 1 (Int.toNat ((((a0.Sites.getD (Int.toNat a2) default).Decl).Resources).length:Int)),.vw false 1042 3 1 (Int.toNat ((((a0.Sites.getD (Int.toNat a2) default).Decl).Stores).length:Int)),.mp 17]),(1012,(B4 a0)),(1015,[I a3,I a2,.vw false 1030 3 1 (Int.toNat (((a0.Sites.getD (Int.toNat a2) default).Routines).length:Int)),.vw false 1034 3 1 (Int.toNat ((((a0.Sites.getD (Int.toNat a2) default).Decl).Resources).length:Int)),.vw false 1038 3 1 (Int.toNat ((((a0.Sites.getD (Int.toNat a2) default).Decl).Resources).length:Int)),.vw false 1042 3 1 (Int.toNat ((((a0.Sites.getD (Int.toNat a2) default).Decl).Stores).length:Int))]),(1016,[S ((a0.Sites.getD (Int.toNat a2) default).Decl).Name,lv (.t123 (((a0.Sites.getD (Int.toNat a2) default).Decl).Vars)),lv (.t86 (((a0.Sites.getD (Int.toNat a2) default).Decl).Resources)),lv (.t89 (((a0.Sites.getD (Int.toNat a2) default).Decl).Stores)),lv (.t178 (((a0.Sites.getD (Int.toNat a2) default).Decl).Belts)),lv (.t9 (((a0.Sites.getD (Int.toNat a2) default).Decl).Queues)),lv (.t9 (((a0.Sites.getD (Int.toNat a2) default).Decl).Streams)),lv (.t9 (((a0.Sites.getD (Int.toNat a2) default).Decl).Tallies)),lv (.t9 (((a0.Sites.getD (Int.toNat a2) default).Decl).Levels)),lv (.t9 (((a0.Sites.getD (Int.toNat a2) default).Decl).Counts)),lv (.t93 (((a0.Sites.getD (Int.toNat a2) default).Decl).Routines)),lv (.t150 (((a0.Sites.getD (Int.toNat a2) default).Decl).Starts)),lv (.t154 (((a0.Sites.getD (Int.toNat a2) default).Decl).Laws)),lv (.t78 ((a0.Sites.getD (Int.toNat a2) default).Routines))]),(1017,(Ae ((a0.Sites.getD (Int.toNat a2) default).Decl))),(1030,[.arrO (.t3 Ak)]),(1034,[.arrO (.t3 Ai)]),(1038,[.arrO (.t3 (List.replicate (Int.toNat ((((a0.Sites.getD (Int.toNat a2) default).Decl).Resources).length:Int)) 0))]),(1042,[.arrO (.t3 Al)])],0⟩ (some 38) (fun st9=>(Bs 1 (Bz (EV (O22 L) L 9 c22.w.l.u.l.l.w.r) (H6 (Kj (EV (O22 L) L 9 c22.w.l.u.l.l) [0,1,2,3,4,8,9,12,19,20,21,22] [4,8,17,19,1012,1015,1016,1017,1030,1034,1038,1042] n) [0,1,2,3,4,8,9,12,19,20,21,22] [4,8,17,19,1012,1015,1016,1017,1030,1034,1038,1042] K))) .normal st9)))))
def A7v(a0:Ad)(a2:Int)(a1:List Bo)(Af:Int)(a3:Int)(Ak:List Int)(Ai:List Int)(Al:List Int)(v:Anu):St:=⟨[(0,.loc 19 0),(1,.any),(3,.loc 2046 0),(7,.any),(17,.any),(32,I ((Int.toNat ((((a0.Sites.getD (Int.toNat a2) default).Decl).Resources).length:Int)):Int)),(33,I v.1),(45,.any),(55,.any),(65,.any)],[(4,(B4 a0)),(8,[I 0,I 0,.lst true (.t3 []),.lst true (.t3 []),.lst true (.t3 []),.lst true (.t3 [])]),(11,(Ou (a1.getD (Int.toNat Af) default))),(17,[.mapO true false (.t109 v.2.1) (.t4 v.2.2)]),(19,[I a3,I a2,.vw false 1030 3 1 (Int.toNat (((a0.Sites.getD (Int.toNat a2) default).Routines).length:Int)),.vw false 1034 3 1 (Int.toNat ((((a0.Sites.getD (Int.toNat a2) default).Decl).Resources).length:Int)),.vw false 1038 3 1 (Int.toNat ((((a0.Sites.getD (Int.toNat a2) default).Decl).Resources).length:Int)),.vw false 1042 3 1 (Int.toNat ((((a0.Sites.getD (Int.toNat a2) default).Decl).Stores).length:Int)),.mp 17]),(1012,(B4 a0)),(1015,[I a3,I a2,.vw false 1030 3 1 (Int.toNat (((a0.Sites.getD (Int.toNat a2) default).Routines).length:Int)),.vw false 1034 3 1 (Int.toNat ((((a0.Sites.getD (Int.toNat a2) default).Decl).Resources).length:Int)),.vw false 1038 3 1 (Int.toNat ((((a0.Sites.getD (Int.toNat a2) default).Decl).Resources).length:Int)),.vw false 1042 3 1 (Int.toNat ((((a0.Sites.getD (Int.toNat a2) default).Decl).Stores).length:Int))]),(1016,[S ((a0.Sites.getD (Int.toNat a2) default).Decl).Name,lv (.t123 (((a0.Sites.getD (Int.toNat a2) default).Decl).Vars)),lv (.t86 (((a0.Sites.getD (Int.toNat a2) default).Decl).Resources)),lv (.t89 (((a0.Sites.getD (Int.toNat a2) default).Decl).Stores)),lv (.t178 (((a0.Sites.getD (Int.toNat a2) default).Decl).Belts)),lv (.t9 (((a0.Sites.getD (Int.toNat a2) default).Decl).Queues)),lv (.t9 (((a0.Sites.getD (Int.toNat a2) default).Decl).Streams)),lv (.t9 (((a0.Sites.getD (Int.toNat a2) default).Decl).Tallies)),lv (.t9 (((a0.Sites.getD (Int.toNat a2) default).Decl).Levels)),lv (.t9 (((a0.Sites.getD (Int.toNat a2) default).Decl).Counts)),lv (.t93 (((a0.Sites.getD (Int.toNat a2) default).Decl).Routines)),lv (.t150 (((a0.Sites.getD (Int.toNat a2) default).Decl).Starts)),lv (.t154 (((a0.Sites.getD (Int.toNat a2) default).Decl).Laws)),lv (.t78 ((a0.Sites.getD (Int.toNat a2) default).Routines))]),(1017,(Ae ((a0.Sites.getD (Int.toNat a2) default).Decl))),(1030,[.arrO (.t3 (Ak.set (Int.toNat ((a1.getD (Int.toNat Af) default).Index)) (Bi ((Ak.getD (Int.toNat ((a1.getD (Int.toNat Af) default).Index)) default)+(-1)))))]),(1034,[.arrO (.t3 Ai)]),(1038,[.arrO (.t3 (List.replicate (Int.toNat ((((a0.Sites.getD (Int.toNat a2) default).Decl).Resources).length:Int)) 0))]),(1042,[.arrO (.t3 Al)]),(2046,(Ou (a1.getD (Int.toNat Af) default)))],2043⟩
def Lj [An A (Nat×Anu)](L:Nat)(a0:Ad)(a2:Int)(a1:List Bo)(Af:Int)(a3:Int)(Ak:List Int)(Ai:List Int)(Al:List Int)(rec:Int→List Aw→List Bool→A)(Se:Int)(F3:List Aw)(F6:List Bool):A:=
 (cn (decide (Se < ((Int.toNat ((((a0.Sites.getD (Int.toNat a2) default).Decl).Resources).length:Int)):Int)))
 (fq (F3.findIdx? fun b=>((a1.getD (Int.toNat Af) default).Proc == b.u_proc && (Se == b.u_resource))) (fun i4=>
 (rec (Bi (Se+1)) ((F3.take i4).drop 0++(F3.take F3.length).drop (i4+1)) ((F6.take i4).drop 0++(F6.take F6.length).drop (i4+1))))
 (rec (Bi (Se+1)) F3 F6))
 (lf (0,Se,F3,F6)))
def Dp(L:Nat)(a0:Ad)(a2:Int)(a1:List Bo)(Af:Int)(a3:Int)(Ak:List Int)(Ai:List Int)(Al:List Int):Nat→Int→List Aw→List Bool→Option (Nat×Anu)
 |0,_,_,_=>none
 |n+1,Se,F3,F6=>Lj L a0 a2 a1 Af a3 Ak Ai Al (Dp L a0 a2 a1 Af a3 Ak Ai Al n) Se F3 F6
theorem Bf5(a0:Ad)(a2:Int)(a1:List Bo)(Af:Int)(a3:Int)(Ak:List Int)(Ai:List Int)(Al:List Int):LP (EV (O22 L) L 8 c41.w.l.w.r.l.w.l.l) [0,1,3,7,17,32,33,45,55,65] [4,8,11,17,19,1012,1015,1016,1017,1030,1034,1038,1042,2046] (A7v a0 a2 a1 Af a3 Ak Ai Al) [.exit 1] (fun n v=>Dp L a0 a2 a1 Af a3 Ak Ai Al n v.1 v.2.1 v.2.2) K:=lE (fun _=>rfl) fun n v ih=>eE (Lj L a0 a2 a1 Af a3 Ak Ai Al (fun Se F3 F6=>re (ih (Se,F3,F6))) v.1 v.2.1 v.2.2)
def A7w(a0:Ad)(a2:Int)(a1:List Bo)(Af:Int)(a3:Int)(Ak:List Int)(Ai:List Int)(Al:List Int)(v:Anu):St:=⟨[(0,.loc 19 0),(1,.any),(3,.loc 2046 0),(7,.any),(17,.any),(32,I ((Int.toNat ((((a0.Sites.getD (Int.toNat a2) default).Decl).Resources).length:Int)):Int)),(33,I v.1),(45,.any),(55,.any),(65,.any)],[(4,(B4 a0)),(8,[I 0,I 0,.lst true (.t3 []),.lst true (.t3 []),.lst true (.t3 []),.lst true (.t3 [])]),(11,(Ou (a1.getD (Int.toNat Af) default))),(17,[.mapO true false (.t109 v.2.1) (.t4 v.2.2)]),(19,[I a3,I a2,.vw false 1030 3 1 (Int.toNat (((a0.Sites.getD (Int.toNat a2) default).Routines).length:Int)),.vw false 1034 3 1 (Int.toNat ((((a0.Sites.getD (Int.toNat a2) default).Decl).Resources).length:Int)),.vw false 1038 3 1 (Int.toNat ((((a0.Sites.getD (Int.toNat a2) default).Decl).Resources).length:Int)),.vw false 1042 3 1 (Int.toNat ((((a0.Sites.getD (Int.toNat a2) default).Decl).Stores).length:Int)),.mp 17]),(1012,(B4 a0)),(1015,[I a3,I a2,.vw false 1030 3 1 (Int.toNat (((a0.Sites.getD (Int.toNat a2) default).Routines).length:Int)),.vw false 1034 3 1 (Int.toNat ((((a0.Sites.getD (Int.toNat a2) default).Decl).Resources).length:Int)),.vw false 1038 3 1 (Int.toNat ((((a0.Sites.getD (Int.toNat a2) default).Decl).Resources).length:Int)),.vw false 1042 3 1 (Int.toNat ((((a0.Sites.getD (Int.toNat a2) default).Decl).Stores).length:Int))]),(1016,[S ((a0.Sites.getD (Int.toNat a2) default).Decl).Name,lv (.t123 (((a0.Sites.getD (Int.toNat a2) default).Decl).Vars)),lv (.t86 (((a0.Sites.getD (Int.toNat a2) default).Decl).Resources)),lv (.t89 (((a0.Sites.getD (Int.toNat a2) default).Decl).Stores)),lv (.t178 (((a0.Sites.getD (Int.toNat a2) default).Decl).Belts)),lv (.t9 (((a0.Sites.getD (Int.toNat a2) default).Decl).Queues)),lv (.t9 (((a0.Sites.getD (Int.toNat a2) default).Decl).Streams)),lv (.t9 (((a0.Sites.getD (Int.toNat a2) default).Decl).Tallies)),lv (.t9 (((a0.Sites.getD (Int.toNat a2) default).Decl).Levels)),lv (.t9 (((a0.Sites.getD (Int.toNat a2) default).Decl).Counts)),lv (.t93 (((a0.Sites.getD (Int.toNat a2) default).Decl).Routines)),lv (.t150 (((a0.Sites.getD (Int.toNat a2) default).Decl).Starts)),lv (.t154 (((a0.Sites.getD (Int.toNat a2) default).Decl).Laws)),lv (.t78 ((a0.Sites.getD (Int.toNat a2) default).Routines))]),(1017,(Ae ((a0.Sites.getD (Int.toNat a2) default).Decl))),(1030,[.arrO (.t3 Ak)]),(1034,[.arrO (.t3 Ai)]),(1038,[.arrO (.t3 (List.replicate (Int.toNat ((((a0.Sites.getD (Int.toNat a2) default).Decl).Resources).length:Int)) 0))]),(1042,[.arrO (.t3 Al)]),(2046,(Ou (a1.getD (Int.toNat Af) default)))],2043⟩
def Lk [An A (Nat×Anu)](L:Nat)(a0:Ad)(a2:Int)(a1:List Bo)(Af:Int)(a3:Int)(Ak:List Int)(Ai:List Int)(Al:List Int)(rec:Int→List Aw→List Bool→A)(Ash:Int)(F4:List Aw)(F7:List Bool):A:=
 (cn (decide (Ash < ((Int.toNat ((((a0.Sites.getD (Int.toNat a2) default).Decl).Resources).length:Int)):Int)))
 (fq (F4.findIdx? fun b=>((a1.getD (Int.toNat Af) default).Proc == b.u_proc && (Ash == b.u_resource))) (fun i5=>
 (rec (Bi (Ash+1)) ((F4.take i5).drop 0++(F4.take F4.length).drop (i5+1)) ((F7.take i5).drop 0++(F7.take F7.length).drop (i5+1))))
 (rec (Bi (Ash+1)) F4 F7))
 (lf (0,Ash,F4,F7)))
def Dq(L:Nat)(a0:Ad)(a2:Int)(a1:List Bo)(Af:Int)(a3:Int)(Ak:List Int)(Ai:List Int)(Al:List Int):Nat→Int→List Aw→List Bool→Option (Nat×Anu)
 |0,_,_,_=>none
 |n+1,Ash,F4,F7=>Lk L a0 a2 a1 Af a3 Ak Ai Al (Dq L a0 a2 a1 Af a3 Ak Ai Al n) Ash F4 F7
theorem Bf6(a0:Ad)(a2:Int)(a1:List Bo)(Af:Int)(a3:Int)(Ak:List Int)(Ai:List Int)(Al:List Int):LP (EV (O22 L) L 8 c41.w.l.w.r.l.w.l.l) [0,1,3,7,17,32,33,45,55,65] [4,8,11,17,19,1012,1015,1016,1017,1030,1034,1038,1042,2046] (A7w a0 a2 a1 Af a3 Ak Ai Al) [.exit 1] (fun n v=>Dq L a0 a2 a1 Af a3 Ak Ai Al n v.1 v.2.1 v.2.2) K:=lE (fun _=>rfl) fun n v ih=>eE (Lk L a0 a2 a1 Af a3 Ak Ai Al (fun Ash F4 F7=>re (ih (Ash,F4,F7))) v.1 v.2.1 v.2.2)
def Ar8(a2:Int)(a3:Int)(a1:List Bo)(a0:Ad)(v:Tu8):St:=⟨[(0,.any),(1,.any),(2,I a2),(3,I a3),(4,.any),(8,.loc 8 0),(9,.loc 19 0),(12,.any),(19,.any),(20,lv (.t46 a1)),(21,I (a1.length:Int)),(22,I v.1)],[(4,(B4 a0)),(8,[I 0,I 0,.lst true (.t3 []),.lst true (.t3 []),.lst true (.t3 []),.lst true (.t3 [])]),(17,[.mapO true false (.t109 v.2.1) (.t4 v.2.2.1)]),(19,[I a3,I a2,.vw false 1030 3 1 (Int.toNat (((a0.Sites.getD (Int.toNat a2) default).Routines).length:Int)),.vw false 1034 3 1 (Int.toNat ((((a0.Sites.getD (Int.toNat a2) default).Decl).Resources).length:Int)),.vw false 1038 3 1 (Int.toNat ((((a0.Sites.getD (Int.toNat a2) default).Decl).Resources).length:Int)),.vw false 1042 3 1 (Int.toNat ((((a0.Sites.getD (Int.toNat a2) default).Decl).Stores).length:Int)),.mp 17]),(1012,(B4 a0)),(1015,[I a3,I a2,.vw false 1030 3 1 (Int.toNat (((a0.Sites.getD (Int.toNat a2) default).Routines).length:Int)),.vw false 1034 3 1 (Int.toNat ((((a0.Sites.getD (Int.toNat a2) default).Decl).Resources).length:Int)),.vw false 1038 3 1 (Int.toNat ((((a0.Sites.getD (Int.toNat a2) default).Decl).Resources).length:Int)),.vw false 1042 3 1 (Int.toNat ((((a0.Sites.getD (Int.toNat a2) default).Decl).Stores).length:Int))]),(1016,[S ((a0.Sites.getD (Int.toNat a2) default).Decl).Name,lv (.t123 (((a0.Sites.getD (Int.toNat a2) default).Decl).Vars)),lv (.t86 (((a0.Sites.getD (Int.toNat a2) default).Decl).Resources)),lv (.t89 (((a0.Sites.getD (Int.toNat a2) default).Decl).Stores)),lv (.t178 (((a0.Sites.getD (Int.toNat a2) default).Decl).Belts)),lv (.t9 (((a0.Sites.getD (Int.toNat a2) default).Decl).Queues)),lv (.t9 (((a0.Sites.getD (Int.toNat a2) default).Decl).Streams)),lv (.t9 (((a0.Sites.getD (Int.toNat a2) default).Decl).Tallies)),lv (.t9 (((a0.Sites.getD (Int.toNat a2) default).Decl).Levels)),lv (.t9 (((a0.Sites.getD (Int.toNat a2) default).Decl).Counts)),lv (.t93 (((a0.Sites.getD (Int.toNat a2) default).Decl).Routines)),lv (.t150 (((a0.Sites.getD (Int.toNat a2) default).Decl).Starts)),lv (.t154 (((a0.Sites.getD (Int.toNat a2) default).Decl).Laws)),lv (.t78 ((a0.Sites.getD (Int.toNat a2) default).Routines))]),(1017,(Ae ((a0.Sites.getD (Int.toNat a2) default).Decl))),(1030,[.arrO (.t3 v.2.2.2.1)]),(1034,[.arrO (.t3 v.2.2.2.2.1)]),(1038,[.arrO (.t3 (List.replicate (Int.toNat ((((a0.Sites.getD (Int.toNat a2) default).Decl).Resources).length:Int)) 0))]),(1042,[.arrO (.t3 v.2.2.2.2.2)])],0⟩
def H7 [An A (Nat×Tu8)](L:Nat)(Af:Int)(Ak:List Int)(a1:List Bo)(Ai:List Int)(Al:List Int)(rec:Int→List Aw→List Bool→List Int→List Int→List Int→A)(o72:Nat×Anu):A:=
 (sl o72.1 [(rec (Bi (Af+1)) o72.2.2.1 o72.2.2.2 (Ak.set (Int.toNat ((a1.getD (Int.toNat Af) default).Index)) (Bi ((Ak.getD (Int.toNat ((a1.getD (Int.toNat Af) default).Index)) default)+(-1)))) Ai Al)])
def H8 [An A (Nat×Tu8)](L:Nat)(Af:Int)(Ak:List Int)(Ai:List Int)(Al:List Int)(rec:Int→List Aw→List Bool→List Int→List Int→List Int→A)(o73:Nat×Anu):A:=
 (sl o73.1 [(rec (Bi (Af+1)) o73.2.2.1 o73.2.2.2 Ak Ai Al)])
def Lx [An A (Nat×Tu8)](L:Nat)(a2:Int)(a3:Int)(a1:List Bo)(a0:Ad)(rec:Int→List Aw→List Bool→List Int→List Int→List Int→A)(Af:Int)(Ah:List Aw)(Aj:List Bool)(Ak:List Int)(Ai:List Int)(Al:List Int)(nx1:Int→(List Int)→(List Int)→(List Int)→(List Aw)→(List Bool)→Bool→A)(nx2:Int→(List Int)→(List Int)→(List Int)→(List Aw)→(List Bool)→Bool→A):A:=
 (lw Af a1
 (jp (.cn ((a1.getD (Int.toNat Af) default).Site == a2)
 (.lf (decide ((a1.getD (Int.toNat Af) default).Time≤a3)))
 (.lf false)) (fun b1=>
 (cn b1
 (cn ((a1.getD (Int.toNat Af) default).What == 1)
 (jp (.cn (decide ((a1.getD (Int.toNat Af) default).Index≥0))
 (.lf (decide ((a1.getD (Int.toNat Af) default).Index < ((Int.toNat (((a0.Sites.getD (Int.toNat a2) default).Routines).length:Int)):Int))))
 (.lf false)) (fun b2=>
 (cn b2
 (gq (0≤(a1.getD (Int.toNat Af) default).Index)
 (gq ((a1.getD (Int.toNat Af) default).Index < (((Int.toNat (((a0.Sites.getD (Int.toNat a2) default).Routines).length:Int)):Nat):Int))
 (gq (0≤(a1.getD (Int.toNat Af) default).Index)
 (gq ((a1.getD (Int.toNat Af) default).Index < (((Int.toNat (((a0.Sites.getD (Int.toNat a2) default).Routines).length:Int)):Nat):Int))
 (rec (Bi (Af+1)) Ah Aj (Ak.set (Int.toNat ((a1.getD (Int.toNat Af) default).Index)) (Bi ((Ak.getD (Int.toNat ((a1.getD (Int.toNat Af) default).Index)) default)+1))) Ai Al)))))
 (rec (Bi (Af+1)) Ah Aj Ak Ai Al))))
 (cn ((a1.getD (Int.toNat Af) default).What == 2)
 (jp (.cn (decide ((a1.getD (Int.toNat Af) default).Index≥0))
 (.lf (decide ((a1.getD (Int.toNat Af) default).Index < ((Int.toNat (((a0.Sites.getD (Int.toNat a2) default).Routines).length:Int)):Int))))
 (.lf false)) (fun b3=>
 (cn b3
 (gq (0≤(a1.getD (Int.toNat Af) default).Index)
 (gq ((a1.getD (Int.toNat Af) default).Index < (((Int.toNat (((a0.Sites.getD (Int.toNat a2) default).Routines).length:Int)):Nat):Int))
 (gq (0≤(a1.getD (Int.toNat Af) default).Index)
 (gq ((a1.getD (Int.toNat Af) default).Index < (((Int.toNat (((a0.Sites.getD (Int.toNat a2) default).Routines).length:Int)):Nat):Int))
 (nx1 Af Ak Ai Al Ah Aj b1)))))
 (nx2 Af Ak Ai Al Ah Aj b1))))
 (cn ((a1.getD (Int.toNat Af) default).What == 8)
 (jp (.cn (decide ((a1.getD (Int.toNat Af) default).Index≥0))
 (.lf (decide ((a1.getD (Int.toNat Af) default).Index < ((Int.toNat ((((a0.Sites.getD (Int.toNat a2) default).Decl).Stores).length:Int)):Int))))
 (.lf false)) (fun b6=>
 (cn b6
 (gq (0≤(a1.getD (Int.toNat Af) default).Index)
 (gq ((a1.getD (Int.toNat Af) default).Index < (((Int.toNat ((((a0.Sites.getD (Int.toNat a2) default).Decl).Stores).length:Int)):Nat):Int))
 (gq (0≤(a1.getD (Int.toNat Af) default).Index)
 (gq ((a1.getD (Int.toNat Af) default).Index < (((Int.toNat ((((a0.Sites.getD (Int.toNat a2) default).Decl).Stores).length:Int)):Nat):Int))
 (rec (Bi (Af+1)) Ah Aj Ak Ai (Al.set (Int.toNat ((a1.getD (Int.toNat Af) default).Index)) (Bi ((Al.getD (Int.toNat ((a1.getD (Int.toNat Af) default).Index)) default)+1))))))))
 (rec (Bi (Af+1)) Ah Aj Ak Ai Al))))
 (cn ((a1.getD (Int.toNat Af) default).What == 9)
 (jp (.cn (decide ((a1.getD (Int.toNat Af) default).Index≥0))
 (.lf (decide ((a1.getD (Int.toNat Af) default).Index < ((Int.toNat ((((a0.Sites.getD (Int.toNat a2) default).Decl).Stores).length:Int)):Int))))
 (.lf false)) (fun b7=>
 (cn b7
 (gq (0≤(a1.getD (Int.toNat Af) default).Index)
 (gq ((a1.getD (Int.toNat Af) default).Index < (((Int.toNat ((((a0.Sites.getD (Int.toNat a2) default).Decl).Stores).length:Int)):Nat):Int))
 (gq (0≤(a1.getD (Int.toNat Af) default).Index)
 (gq ((a1.getD (Int.toNat Af) default).Index < (((Int.toNat ((((a0.Sites.getD (Int.toNat a2) default).Decl).Stores).length:Int)):Nat):Int))
 (rec (Bi (Af+1)) Ah Aj Ak Ai (Al.set (Int.toNat ((a1.getD (Int.toNat Af) default).Index)) (Bi ((Al.getD (Int.toNat ((a1.getD (Int.toNat Af) default).Index)) default)+(-1)))))))))
 (rec (Bi (Af+1)) Ah Aj Ak Ai Al))))
 (cn ((a1.getD (Int.toNat Af) default).What == 4)
 (cn ((a1.getD (Int.toNat Af) default).What == 4)
 (cn (decide ((a1.getD (Int.toNat Af) default).Index < 0))
 (rec (Bi (Af+1)) Ah Aj Ak Ai Al)
 (cn (decide ((a1.getD (Int.toNat Af) default).Index≥((Int.toNat ((((a0.Sites.getD (Int.toNat a2) default).Decl).Resources).length:Int)):Int)))
 (rec (Bi (Af+1)) Ah Aj Ak Ai Al)
 (cn ((a1.getD (Int.toNat Af) default).What != 5)
 (cn (decide ((a1.getD (Int.toNat Af) default).Value < 1))
 (rec (Bi (Af+1)) Ah Aj Ak Ai Al)
 (cn (decide ((a1.getD (Int.toNat Af) default).Value > 1000))
 (rec (Bi (Af+1)) Ah Aj Ak Ai Al)
 (cn ((a1.getD (Int.toNat Af) default).What == 4)
 (jp (.cn (decide ((a1.getD (Int.toNat Af) default).Index≥0))
 (.lf (decide ((a1.getD (Int.toNat Af) default).Index < ((Int.toNat ((((a0.Sites.getD (Int.toNat a2) default).Decl).Resources).length:Int)):Int))))
 (.lf false)) (fun b8=>
 (cn b8
 (gq (0≤(a1.getD (Int.toNat Af) default).Index)
 (gq ((a1.getD (Int.toNat Af) default).Index < (((Int.toNat ((((a0.Sites.getD (Int.toNat a2) default).Decl).Resources).length:Int)):Nat):Int))
 (gq (0≤(a1.getD (Int.toNat Af) default).Index)
 (gq ((a1.getD (Int.toNat Af) default).Index < (((Int.toNat ((((a0.Sites.getD (Int.toNat a2) default).Decl).Resources).length:Int)):Nat):Int))
 (fq (Ah.findIdx? fun b=>((a1.getD (Int.toNat Af) default).Proc == b.u_proc && ((a1.getD (Int.toNat Af) default).Index == b.u_resource))) (fun i9=>
 (rec (Bi (Af+1)) ((Ah.take i9).drop 0++(Ah.take Ah.length).drop (i9+1)) ((Aj.take i9).drop 0++(Aj.take Aj.length).drop (i9+1)) Ak (Ai.set (Int.toNat ((a1.getD (Int.toNat Af) default).Index)) (Bi ((Ai.getD (Int.toNat ((a1.getD (Int.toNat Af) default).Index)) default)+(a1.getD (Int.toNat Af) default).Value))) Al))
 (rec (Bi (Af+1)) Ah Aj Ak (Ai.set (Int.toNat ((a1.getD (Int.toNat Af) default).Index)) (Bi ((Ai.getD (Int.toNat ((a1.getD (Int.toNat Af) default).Index)) default)+(a1.getD (Int.toNat Af) default).Value))) Al))))))
 (fq (Ah.findIdx? fun b=>((a1.getD (Int.toNat Af) default).Proc == b.u_proc && ((a1.getD (Int.toNat Af) default).Index == b.u_resource))) (fun i10=>
 (rec (Bi (Af+1)) ((Ah.take i10).drop 0++(Ah.take Ah.length).drop (i10+1)) ((Aj.take i10).drop 0++(Aj.take Aj.length).drop (i10+1)) Ak Ai Al))
 (rec (Bi (Af+1)) Ah Aj Ak Ai Al)))))
 (cn ((a1.getD (Int.toNat Af) default).What == 6)
 (jp (.cn (decide ((a1.getD (Int.toNat Af) default).Index≥0))
 (.lf (decide ((a1.getD (Int.toNat Af) default).Index < ((Int.toNat ((((a0.Sites.getD (Int.toNat a2) default).Decl).Resources).length:Int)):Int))))
 (.lf false)) (fun b11=>
 (cn b11
 (gq (0≤(a1.getD (Int.toNat Af) default).Index)
 (gq ((a1.getD (Int.toNat Af) default).Index < (((Int.toNat ((((a0.Sites.getD (Int.toNat a2) default).Decl).Resources).length:Int)):Nat):Int))
 (gq (0≤(a1.getD (Int.toNat Af) default).Index)
 (gq ((a1.getD (Int.toNat Af) default).Index < (((Int.toNat ((((a0.Sites.getD (Int.toNat a2) default).Decl).Resources).length:Int)):Nat):Int))
 (rec (Bi (Af+1)) Ah Aj Ak (Ai.set (Int.toNat ((a1.getD (Int.toNat Af) default).Index)) (Bi ((Ai.getD (Int.toNat ((a1.getD (Int.toNat Af) default).Index)) default)+(Bi (0 - (a1.getD (Int.toNat Af) default).Value))))) Al)))))
 (rec (Bi (Af+1)) Ah Aj Ak Ai Al))))
 (cn ((a1.getD (Int.toNat Af) default).What == 7)
 (jp (.cn (decide ((a1.getD (Int.toNat Af) default).Index≥0))
 (.lf (decide ((a1.getD (Int.toNat Af) default).Index < ((Int.toNat ((((a0.Sites.getD (Int.toNat a2) default).Decl).Resources).length:Int)):Int))))
 (.lf false)) (fun b12=>
 (cn b12
 (gq (0≤(a1.getD (Int.toNat Af) default).Index)
 (gq ((a1.getD (Int.toNat Af) default).Index < (((Int.toNat ((((a0.Sites.getD (Int.toNat a2) default).Decl).Resources).length:Int)):Nat):Int))
 (gq (0≤(a1.getD (Int.toNat Af) default).Index)
 (gq ((a1.getD (Int.toNat Af) default).Index < (((Int.toNat ((((a0.Sites.getD (Int.toNat a2) default).Decl).Resources).length:Int)):Nat):Int))
 (fq (Ah.findIdx? fun b=>((a1.getD (Int.toNat Af) default).Proc == b.u_proc && ((a1.getD (Int.toNat Af) default).Index == b.u_resource))) (fun i13=>
 (rec (Bi (Af+1)) Ah (Aj.set i13 true) Ak (Ai.set (Int.toNat ((a1.getD (Int.toNat Af) default).Index)) (Bi ((Ai.getD (Int.toNat ((a1.getD (Int.toNat Af) default).Index)) default)+(Bi (0 - (a1.getD (Int.toNat Af) default).Value))))) Al))
 (rec (Bi (Af+1)) (Ah++ [(⟨(a1.getD (Int.toNat Af) default).Proc,(a1.getD (Int.toNat Af) default).Index⟩:Aw)]) (Aj++ [true]) Ak (Ai.set (Int.toNat ((a1.getD (Int.toNat Af) default).Index)) (Bi ((Ai.getD (Int.toNat ((a1.getD (Int.toNat Af) default).Index)) default)+(Bi (0 - (a1.getD (Int.toNat Af) default).Value))))) Al))))))
 (fq (Ah.findIdx? fun b=>((a1.getD (Int.toNat Af) default).Proc == b.u_proc && ((a1.getD (Int.toNat Af) default).Index == b.u_resource))) (fun i14=>
 (rec (Bi (Af+1)) Ah (Aj.set i14 true) Ak Ai Al))
 (rec (Bi (Af+1)) (Ah++ [(⟨(a1.getD (Int.toNat Af) default).Proc,(a1.getD (Int.toNat Af) default).Index⟩:Aw)]) (Aj++ [true]) Ak Ai Al)))))
 (cn ((a1.getD (Int.toNat Af) default).What == 5)
 (fq (Ah.findIdx? fun b=>((a1.getD (Int.toNat Af) default).Proc == b.u_proc && ((a1.getD (Int.toNat Af) default).Index == b.u_resource))) (fun i15=>
 (rec (Bi (Af+1)) Ah (Aj.set i15 true) Ak Ai Al))
 (rec (Bi (Af+1)) (Ah++ [(⟨(a1.getD (Int.toNat Af) default).Proc,(a1.getD (Int.toNat Af) default).Index⟩:Aw)]) (Aj++ [true]) Ak Ai Al))
 (rec (Bi (Af+1)) Ah Aj Ak Ai Al)))))))
 (cn ((a1.getD (Int.toNat Af) default).What == 4)
 (jp (.cn (decide ((a1.getD (Int.toNat Af) default).Index≥0))
 (.lf (decide ((a1.getD (Int.toNat Af) default).Index < ((Int.toNat ((((a0.Sites.getD (Int.toNat a2) default).Decl).Resources).length:Int)):Int))))
 (.lf false)) (fun b16=>
 (cn b16
 (gq (0≤(a1.getD (Int.toNat Af) default).Index)
 (gq ((a1.getD (Int.toNat Af) default).Index < (((Int.toNat ((((a0.Sites.getD (Int.toNat a2) default).Decl).Resources).length:Int)):Nat):Int))
 (gq (0≤(a1.getD (Int.toNat Af) default).Index)
 (gq ((a1.getD (Int.toNat Af) default).Index < (((Int.toNat ((((a0.Sites.getD (Int.toNat a2) default).Decl).Resources).length:Int)):Nat):Int))
 (fq (Ah.findIdx? fun b=>((a1.getD (Int.toNat Af) default).Proc == b.u_proc && ((a1.getD (Int.toNat Af) default).Index == b.u_resource))) (fun i17=>
 (rec (Bi (Af+1)) ((Ah.take i17).drop 0++(Ah.take Ah.length).drop (i17+1)) ((Aj.take i17).drop 0++(Aj.take Aj.length).drop (i17+1)) Ak (Ai.set (Int.toNat ((a1.getD (Int.toNat Af) default).Index)) (Bi ((Ai.getD (Int.toNat ((a1.getD (Int.toNat Af) default).Index)) default)+(a1.getD (Int.toNat Af) default).Value))) Al))
 (rec (Bi (Af+1)) Ah Aj Ak (Ai.set (Int.toNat ((a1.getD (Int.toNat Af) default).Index)) (Bi ((Ai.getD (Int.toNat ((a1.getD (Int.toNat Af) default).Index)) default)+(a1.getD (Int.toNat Af) default).Value))) Al))))))
 (fq (Ah.findIdx? fun b=>((a1.getD (Int.toNat Af) default).Proc == b.u_proc && ((a1.getD (Int.toNat Af) default).Index == b.u_resource))) (fun i18=>
 (rec (Bi (Af+1)) ((Ah.take i18).drop 0++(Ah.take Ah.length).drop (i18+1)) ((Aj.take i18).drop 0++(Aj.take Aj.length).drop (i18+1)) Ak Ai Al))
 (rec (Bi (Af+1)) Ah Aj Ak Ai Al)))))
 (cn ((a1.getD (Int.toNat Af) default).What == 6)
 (jp (.cn (decide ((a1.getD (Int.toNat Af) default).Index≥0))
 (.lf (decide ((a1.getD (Int.toNat Af) default).Index < ((Int.toNat ((((a0.Sites.getD (Int.toNat a2) default).Decl).Resources).length:Int)):Int))))
 (.lf false)) (fun b19=>
 (cn b19
 (gq (0≤(a1.getD (Int.toNat Af) default).Index)
 (gq ((a1.getD (Int.toNat Af) default).Index < (((Int.toNat ((((a0.Sites.getD (Int.toNat a2) default).Decl).Resources).length:Int)):Nat):Int))
 (gq (0≤(a1.getD (Int.toNat Af) default).Index)
 (gq ((a1.getD (Int.toNat Af) default).Index < (((Int.toNat ((((a0.Sites.getD (Int.toNat a2) default).Decl).Resources).length:Int)):Nat):Int))
 (rec (Bi (Af+1)) Ah Aj Ak (Ai.set (Int.toNat ((a1.getD (Int.toNat Af) default).Index)) (Bi ((Ai.getD (Int.toNat ((a1.getD (Int.toNat Af) default).Index)) default)+(Bi (0 - (a1.getD (Int.toNat Af) default).Value))))) Al)))))
 (rec (Bi (Af+1)) Ah Aj Ak Ai Al))))
 (cn ((a1.getD (Int.toNat Af) default).What == 7)
 (jp (.cn (decide ((a1.getD (Int.toNat Af) default).Index≥0))
 (.lf (decide ((a1.getD (Int.toNat Af) default).Index < ((Int.toNat ((((a0.Sites.getD (Int.toNat a2) default).Decl).Resources).length:Int)):Int))))
 (.lf false)) (fun b20=>
 (cn b20
 (gq (0≤(a1.getD (Int.toNat Af) default).Index)
 (gq ((a1.getD (Int.toNat Af) default).Index < (((Int.toNat ((((a0.Sites.getD (Int.toNat a2) default).Decl).Resources).length:Int)):Nat):Int))
 (gq (0≤(a1.getD (Int.toNat Af) default).Index)
 (gq ((a1.getD (Int.toNat Af) default).Index < (((Int.toNat ((((a0.Sites.getD (Int.toNat a2) default).Decl).Resources).length:Int)):Nat):Int))
 (fq (Ah.findIdx? fun b=>((a1.getD (Int.toNat Af) default).Proc == b.u_proc && ((a1.getD (Int.toNat Af) default).Index == b.u_resource))) (fun i21=>
 (rec (Bi (Af+1)) Ah (Aj.set i21 true) Ak (Ai.set (Int.toNat ((a1.getD (Int.toNat Af) default).Index)) (Bi ((Ai.getD (Int.toNat ((a1.getD (Int.toNat Af) default).Index)) default)+(Bi (0 - (a1.getD (Int.toNat Af) default).Value))))) Al))
 (rec (Bi (Af+1)) (Ah++ [(⟨(a1.getD (Int.toNat Af) default).Proc,(a1.getD (Int.toNat Af) default).Index⟩:Aw)]) (Aj++ [true]) Ak (Ai.set (Int.toNat ((a1.getD (Int.toNat Af) default).Index)) (Bi ((Ai.getD (Int.toNat ((a1.getD (Int.toNat Af) default).Index)) default)+(Bi (0 - (a1.getD (Int.toNat Af) default).Value))))) Al))))))
 (fq (Ah.findIdx? fun b=>((a1.getD (Int.toNat Af) default).Proc == b.u_proc && ((a1.getD (Int.toNat Af) default).Index == b.u_resource))) (fun i22=>
 (rec (Bi (Af+1)) Ah (Aj.set i22 true) Ak Ai Al))
 (rec (Bi (Af+1)) (Ah++ [(⟨(a1.getD (Int.toNat Af) default).Proc,(a1.getD (Int.toNat Af) default).Index⟩:Aw)]) (Aj++ [true]) Ak Ai Al)))))
 (cn ((a1.getD (Int.toNat Af) default).What == 5)
 (fq (Ah.findIdx? fun b=>((a1.getD (Int.toNat Af) default).Proc == b.u_proc && ((a1.getD (Int.toNat Af) default).Index == b.u_resource))) (fun i23=>
 (rec (Bi (Af+1)) Ah (Aj.set i23 true) Ak Ai Al))
 (rec (Bi (Af+1)) (Ah++ [(⟨(a1.getD (Int.toNat Af) default).Proc,(a1.getD (Int.toNat Af) default).Index⟩:Aw)]) (Aj++ [true]) Ak Ai Al))
 (rec (Bi (Af+1)) Ah Aj Ak Ai Al))))))))
 (rec (Bi (Af+1)) Ah Aj Ak Ai Al))
 (cn ((a1.getD (Int.toNat Af) default).What == 6)
 (cn ((a1.getD (Int.toNat Af) default).What == 6)
 (cn (decide ((a1.getD (Int.toNat Af) default).Index < 0))
 (rec (Bi (Af+1)) Ah Aj Ak Ai Al)
 (cn (decide ((a1.getD (Int.toNat Af) default).Index≥((Int.toNat ((((a0.Sites.getD (Int.toNat a2) default).Decl).Resources).length:Int)):Int)))
 (rec (Bi (Af+1)) Ah Aj Ak Ai Al)
 (cn ((a1.getD (Int.toNat Af) default).What != 5)
 (cn (decide ((a1.getD (Int.toNat Af) default).Value < 1))
 (rec (Bi (Af+1)) Ah Aj Ak Ai Al)
 (cn (decide ((a1.getD (Int.toNat Af) default).Value > 1000))
 (rec (Bi (Af+1)) Ah Aj Ak Ai Al)
 (cn ((a1.getD (Int.toNat Af) default).What == 4)
 (jp (.cn (decide ((a1.getD (Int.toNat Af) default).Index≥0))
 (.lf (decide ((a1.getD (Int.toNat Af) default).Index < ((Int.toNat ((((a0.Sites.getD (Int.toNat a2) default).Decl).Resources).length:Int)):Int))))
 (.lf false)) (fun b24=>
 (cn b24
 (gq (0≤(a1.getD (Int.toNat Af) default).Index)
 (gq ((a1.getD (Int.toNat Af) default).Index < (((Int.toNat ((((a0.Sites.getD (Int.toNat a2) default).Decl).Resources).length:Int)):Nat):Int))
 (gq (0≤(a1.getD (Int.toNat Af) default).Index)
 (gq ((a1.getD (Int.toNat Af) default).Index < (((Int.toNat ((((a0.Sites.getD (Int.toNat a2) default).Decl).Resources).length:Int)):Nat):Int))
 (fq (Ah.findIdx? fun b=>((a1.getD (Int.toNat Af) default).Proc == b.u_proc && ((a1.getD (Int.toNat Af) default).Index == b.u_resource))) (fun i25=>
 (rec (Bi (Af+1)) ((Ah.take i25).drop 0++(Ah.take Ah.length).drop (i25+1)) ((Aj.take i25).drop 0++(Aj.take Aj.length).drop (i25+1)) Ak (Ai.set (Int.toNat ((a1.getD (Int.toNat Af) default).Index)) (Bi ((Ai.getD (Int.toNat ((a1.getD (Int.toNat Af) default).Index)) default)+(a1.getD (Int.toNat Af) default).Value))) Al))
 (rec (Bi (Af+1)) Ah Aj Ak (Ai.set (Int.toNat ((a1.getD (Int.toNat Af) default).Index)) (Bi ((Ai.getD (Int.toNat ((a1.getD (Int.toNat Af) default).Index)) default)+(a1.getD (Int.toNat Af) default).Value))) Al))))))
 (fq (Ah.findIdx? fun b=>((a1.getD (Int.toNat Af) default).Proc == b.u_proc && ((a1.getD (Int.toNat Af) default).Index == b.u_resource))) (fun i26=>
 (rec (Bi (Af+1)) ((Ah.take i26).drop 0++(Ah.take Ah.length).drop (i26+1)) ((Aj.take i26).drop 0++(Aj.take Aj.length).drop (i26+1)) Ak Ai Al))
 (rec (Bi (Af+1)) Ah Aj Ak Ai Al)))))
 (cn ((a1.getD (Int.toNat Af) default).What == 6)
 (jp (.cn (decide ((a1.getD (Int.toNat Af) default).Index≥0))
 (.lf (decide ((a1.getD (Int.toNat Af) default).Index < ((Int.toNat ((((a0.Sites.getD (Int.toNat a2) default).Decl).Resources).length:Int)):Int))))
 (.lf false)) (fun b27=>
 (cn b27
 (gq (0≤(a1.getD (Int.toNat Af) default).Index)
 (gq ((a1.getD (Int.toNat Af) default).Index < (((Int.toNat ((((a0.Sites.getD (Int.toNat a2) default).Decl).Resources).length:Int)):Nat):Int))
 (gq (0≤(a1.getD (Int.toNat Af) default).Index)
 (gq ((a1.getD (Int.toNat Af) default).Index < (((Int.toNat ((((a0.Sites.getD (Int.toNat a2) default).Decl).Resources).length:Int)):Nat):Int))
 (rec (Bi (Af+1)) Ah Aj Ak (Ai.set (Int.toNat ((a1.getD (Int.toNat Af) default).Index)) (Bi ((Ai.getD (Int.toNat ((a1.getD (Int.toNat Af) default).Index)) default)+(Bi (0 - (a1.getD (Int.toNat Af) default).Value))))) Al)))))
 (rec (Bi (Af+1)) Ah Aj Ak Ai Al))))
 (cn ((a1.getD (Int.toNat Af) default).What == 7)
 (jp (.cn (decide ((a1.getD (Int.toNat Af) default).Index≥0))
 (.lf (decide ((a1.getD (Int.toNat Af) default).Index < ((Int.toNat ((((a0.Sites.getD (Int.toNat a2) default).Decl).Resources).length:Int)):Int))))
 (.lf false)) (fun b28=>
 (cn b28
 (gq (0≤(a1.getD (Int.toNat Af) default).Index)
 (gq ((a1.getD (Int.toNat Af) default).Index < (((Int.toNat ((((a0.Sites.getD (Int.toNat a2) default).Decl).Resources).length:Int)):Nat):Int))
 (gq (0≤(a1.getD (Int.toNat Af) default).Index)
 (gq ((a1.getD (Int.toNat Af) default).Index < (((Int.toNat ((((a0.Sites.getD (Int.toNat a2) default).Decl).Resources).length:Int)):Nat):Int))
 (fq (Ah.findIdx? fun b=>((a1.getD (Int.toNat Af) default).Proc == b.u_proc && ((a1.getD (Int.toNat Af) default).Index == b.u_resource))) (fun i29=>
 (rec (Bi (Af+1)) Ah (Aj.set i29 true) Ak (Ai.set (Int.toNat ((a1.getD (Int.toNat Af) default).Index)) (Bi ((Ai.getD (Int.toNat ((a1.getD (Int.toNat Af) default).Index)) default)+(Bi (0 - (a1.getD (Int.toNat Af) default).Value))))) Al))
 (rec (Bi (Af+1)) (Ah++ [(⟨(a1.getD (Int.toNat Af) default).Proc,(a1.getD (Int.toNat Af) default).Index⟩:Aw)]) (Aj++ [true]) Ak (Ai.set (Int.toNat ((a1.getD (Int.toNat Af) default).Index)) (Bi ((Ai.getD (Int.toNat ((a1.getD (Int.toNat Af) default).Index)) default)+(Bi (0 - (a1.getD (Int.toNat Af) default).Value))))) Al))))))
 (fq (Ah.findIdx? fun b=>((a1.getD (Int.toNat Af) default).Proc == b.u_proc && ((a1.getD (Int.toNat Af) default).Index == b.u_resource))) (fun i30=>
 (rec (Bi (Af+1)) Ah (Aj.set i30 true) Ak Ai Al))
 (rec (Bi (Af+1)) (Ah++ [(⟨(a1.getD (Int.toNat Af) default).Proc,(a1.getD (Int.toNat Af) default).Index⟩:Aw)]) (Aj++ [true]) Ak Ai Al)))))
 (cn ((a1.getD (Int.toNat Af) default).What == 5)
 (fq (Ah.findIdx? fun b=>((a1.getD (Int.toNat Af) default).Proc == b.u_proc && ((a1.getD (Int.toNat Af) default).Index == b.u_resource))) (fun i31=>
 (rec (Bi (Af+1)) Ah (Aj.set i31 true) Ak Ai Al))
 (rec (Bi (Af+1)) (Ah++ [(⟨(a1.getD (Int.toNat Af) default).Proc,(a1.getD (Int.toNat Af) default).Index⟩:Aw)]) (Aj++ [true]) Ak Ai Al))
 (rec (Bi (Af+1)) Ah Aj Ak Ai Al)))))))
 (cn ((a1.getD (Int.toNat Af) default).What == 4)
 (jp (.cn (decide ((a1.getD (Int.toNat Af) default).Index≥0))
 (.lf (decide ((a1.getD (Int.toNat Af) default).Index < ((Int.toNat ((((a0.Sites.getD (Int.toNat a2) default).Decl).Resources).length:Int)):Int))))
 (.lf false)) (fun b32=>
 (cn b32
 (gq (0≤(a1.getD (Int.toNat Af) default).Index)
 (gq ((a1.getD (Int.toNat Af) default).Index < (((Int.toNat ((((a0.Sites.getD (Int.toNat a2) default).Decl).Resources).length:Int)):Nat):Int))
 (gq (0≤(a1.getD (Int.toNat Af) default).Index)
 (gq ((a1.getD (Int.toNat Af) default).Index < (((Int.toNat ((((a0.Sites.getD (Int.toNat a2) default).Decl).Resources).length:Int)):Nat):Int))
 (fq (Ah.findIdx? fun b=>((a1.getD (Int.toNat Af) default).Proc == b.u_proc && ((a1.getD (Int.toNat Af) default).Index == b.u_resource))) (fun i33=>
 (rec (Bi (Af+1)) ((Ah.take i33).drop 0++(Ah.take Ah.length).drop (i33+1)) ((Aj.take i33).drop 0++(Aj.take Aj.length).drop (i33+1)) Ak (Ai.set (Int.toNat ((a1.getD (Int.toNat Af) default).Index)) (Bi ((Ai.getD (Int.toNat ((a1.getD (Int.toNat Af) default).Index)) default)+(a1.getD (Int.toNat Af) default).Value))) Al))
 (rec (Bi (Af+1)) Ah Aj Ak (Ai.set (Int.toNat ((a1.getD (Int.toNat Af) default).Index)) (Bi ((Ai.getD (Int.toNat ((a1.getD (Int.toNat Af) default).Index)) default)+(a1.getD (Int.toNat Af) default).Value))) Al))))))
 (fq (Ah.findIdx? fun b=>((a1.getD (Int.toNat Af) default).Proc == b.u_proc && ((a1.getD (Int.toNat Af) default).Index == b.u_resource))) (fun i34=>
 (rec (Bi (Af+1)) ((Ah.take i34).drop 0++(Ah.take Ah.length).drop (i34+1)) ((Aj.take i34).drop 0++(Aj.take Aj.length).drop (i34+1)) Ak Ai Al))
 (rec (Bi (Af+1)) Ah Aj Ak Ai Al)))))
 (cn ((a1.getD (Int.toNat Af) default).What == 6)
 (jp (.cn (decide ((a1.getD (Int.toNat Af) default).Index≥0))
 (.lf (decide ((a1.getD (Int.toNat Af) default).Index < ((Int.toNat ((((a0.Sites.getD (Int.toNat a2) default).Decl).Resources).length:Int)):Int))))
 (.lf false)) (fun b35=>
 (cn b35
 (gq (0≤(a1.getD (Int.toNat Af) default).Index)
 (gq ((a1.getD (Int.toNat Af) default).Index < (((Int.toNat ((((a0.Sites.getD (Int.toNat a2) default).Decl).Resources).length:Int)):Nat):Int))
 (gq (0≤(a1.getD (Int.toNat Af) default).Index)
 (gq ((a1.getD (Int.toNat Af) default).Index < (((Int.toNat ((((a0.Sites.getD (Int.toNat a2) default).Decl).Resources).length:Int)):Nat):Int))
 (rec (Bi (Af+1)) Ah Aj Ak (Ai.set (Int.toNat ((a1.getD (Int.toNat Af) default).Index)) (Bi ((Ai.getD (Int.toNat ((a1.getD (Int.toNat Af) default).Index)) default)+(Bi (0 - (a1.getD (Int.toNat Af) default).Value))))) Al)))))
 (rec (Bi (Af+1)) Ah Aj Ak Ai Al))))
 (cn ((a1.getD (Int.toNat Af) default).What == 7)
 (jp (.cn (decide ((a1.getD (Int.toNat Af) default).Index≥0))
 (.lf (decide ((a1.getD (Int.toNat Af) default).Index < ((Int.toNat ((((a0.Sites.getD (Int.toNat a2) default).Decl).Resources).length:Int)):Int))))
 (.lf false)) (fun b36=>
 (cn b36
 (gq (0≤(a1.getD (Int.toNat Af) default).Index)
 (gq ((a1.getD (Int.toNat Af) default).Index < (((Int.toNat ((((a0.Sites.getD (Int.toNat a2) default).Decl).Resources).length:Int)):Nat):Int))
 (gq (0≤(a1.getD (Int.toNat Af) default).Index)
 (gq ((a1.getD (Int.toNat Af) default).Index < (((Int.toNat ((((a0.Sites.getD (Int.toNat a2) default).Decl).Resources).length:Int)):Nat):Int))
 (fq (Ah.findIdx? fun b=>((a1.getD (Int.toNat Af) default).Proc == b.u_proc && ((a1.getD (Int.toNat Af) default).Index == b.u_resource))) (fun i37=>
 (rec (Bi (Af+1)) Ah (Aj.set i37 true) Ak (Ai.set (Int.toNat ((a1.getD (Int.toNat Af) default).Index)) (Bi ((Ai.getD (Int.toNat ((a1.getD (Int.toNat Af) default).Index)) default)+(Bi (0 - (a1.getD (Int.toNat Af) default).Value))))) Al))
 (rec (Bi (Af+1)) (Ah++ [(⟨(a1.getD (Int.toNat Af) default).Proc,(a1.getD (Int.toNat Af) default).Index⟩:Aw)]) (Aj++ [true]) Ak (Ai.set (Int.toNat ((a1.getD (Int.toNat Af) default).Index)) (Bi ((Ai.getD (Int.toNat ((a1.getD (Int.toNat Af) default).Index)) default)+(Bi (0 - (a1.getD (Int.toNat Af) default).Value))))) Al))))))
 (fq (Ah.findIdx? fun b=>((a1.getD (Int.toNat Af) default).Proc == b.u_proc && ((a1.getD (Int.toNat Af) default).Index == b.u_resource))) (fun i38=>
 (rec (Bi (Af+1)) Ah (Aj.set i38 true) Ak Ai Al))
 (rec (Bi (Af+1)) (Ah++ [(⟨(a1.getD (Int.toNat Af) default).Proc,(a1.getD (Int.toNat Af) default).Index⟩:Aw)]) (Aj++ [true]) Ak Ai Al)))))
 (cn ((a1.getD (Int.toNat Af) default).What == 5)
 (fq (Ah.findIdx? fun b=>((a1.getD (Int.toNat Af) default).Proc == b.u_proc && ((a1.getD (Int.toNat Af) default).Index == b.u_resource))) (fun i39=>
 (rec (Bi (Af+1)) Ah (Aj.set i39 true) Ak Ai Al))
 (rec (Bi (Af+1)) (Ah++ [(⟨(a1.getD (Int.toNat Af) default).Proc,(a1.getD (Int.toNat Af) default).Index⟩:Aw)]) (Aj++ [true]) Ak Ai Al))
 (rec (Bi (Af+1)) Ah Aj Ak Ai Al))))))))
 (rec (Bi (Af+1)) Ah Aj Ak Ai Al))
 (cn ((a1.getD (Int.toNat Af) default).What == 7)
 (cn ((a1.getD (Int.toNat Af) default).What == 7)
 (cn (decide ((a1.getD (Int.toNat Af) default).Index < 0))
 (rec (Bi (Af+1)) Ah Aj Ak Ai Al)
 (cn (decide ((a1.getD (Int.toNat Af) default).Index≥((Int.toNat ((((a0.Sites.getD (Int.toNat a2) default).Decl).Resources).length:Int)):Int)))
 (rec (Bi (Af+1)) Ah Aj Ak Ai Al)
 (cn ((a1.getD (Int.toNat Af) default).What != 5)
 (cn (decide ((a1.getD (Int.toNat Af) default).Value < 1))
 (rec (Bi (Af+1)) Ah Aj Ak Ai Al)
 (cn (decide ((a1.getD (Int.toNat Af) default).Value > 1000))
 (rec (Bi (Af+1)) Ah Aj Ak Ai Al)
 (cn ((a1.getD (Int.toNat Af) default).What == 4)
 (jp (.cn (decide ((a1.getD (Int.toNat Af) default).Index≥0))
 (.lf (decide ((a1.getD (Int.toNat Af) default).Index < ((Int.toNat ((((a0.Sites.getD (Int.toNat a2) default).Decl).Resources).length:Int)):Int))))
 (.lf false)) (fun b40=>
 (cn b40
 (gq (0≤(a1.getD (Int.toNat Af) default).Index)
 (gq ((a1.getD (Int.toNat Af) default).Index < (((Int.toNat ((((a0.Sites.getD (Int.toNat a2) default).Decl).Resources).length:Int)):Nat):Int))
 (gq (0≤(a1.getD (Int.toNat Af) default).Index)
 (gq ((a1.getD (Int.toNat Af) default).Index < (((Int.toNat ((((a0.Sites.getD (Int.toNat a2) default).Decl).Resources).length:Int)):Nat):Int))
 (fq (Ah.findIdx? fun b=>((a1.getD (Int.toNat Af) default).Proc == b.u_proc && ((a1.getD (Int.toNat Af) default).Index == b.u_resource))) (fun i41=>
 (rec (Bi (Af+1)) ((Ah.take i41).drop 0++(Ah.take Ah.length).drop (i41+1)) ((Aj.take i41).drop 0++(Aj.take Aj.length).drop (i41+1)) Ak (Ai.set (Int.toNat ((a1.getD (Int.toNat Af) default).Index)) (Bi ((Ai.getD (Int.toNat ((a1.getD (Int.toNat Af) default).Index)) default)+(a1.getD (Int.toNat Af) default).Value))) Al))
 (rec (Bi (Af+1)) Ah Aj Ak (Ai.set (Int.toNat ((a1.getD (Int.toNat Af) default).Index)) (Bi ((Ai.getD (Int.toNat ((a1.getD (Int.toNat Af) default).Index)) default)+(a1.getD (Int.toNat Af) default).Value))) Al))))))
 (fq (Ah.findIdx? fun b=>((a1.getD (Int.toNat Af) default).Proc == b.u_proc && ((a1.getD (Int.toNat Af) default).Index == b.u_resource))) (fun i42=>
 (rec (Bi (Af+1)) ((Ah.take i42).drop 0++(Ah.take Ah.length).drop (i42+1)) ((Aj.take i42).drop 0++(Aj.take Aj.length).drop (i42+1)) Ak Ai Al))
 (rec (Bi (Af+1)) Ah Aj Ak Ai Al)))))
 (cn ((a1.getD (Int.toNat Af) default).What == 6)
 (jp (.cn (decide ((a1.getD (Int.toNat Af) default).Index≥0))
 (.lf (decide ((a1.getD (Int.toNat Af) default).Index < ((Int.toNat ((((a0.Sites.getD (Int.toNat a2) default).Decl).Resources).length:Int)):Int))))
 (.lf false)) (fun b43=>
 (cn b43
 (gq (0≤(a1.getD (Int.toNat Af) default).Index)
 (gq ((a1.getD (Int.toNat Af) default).Index < (((Int.toNat ((((a0.Sites.getD (Int.toNat a2) default).Decl).Resources).length:Int)):Nat):Int))
 (gq (0≤(a1.getD (Int.toNat Af) default).Index)
 (gq ((a1.getD (Int.toNat Af) default).Index < (((Int.toNat ((((a0.Sites.getD (Int.toNat a2) default).Decl).Resources).length:Int)):Nat):Int))
 (rec (Bi (Af+1)) Ah Aj Ak (Ai.set (Int.toNat ((a1.getD (Int.toNat Af) default).Index)) (Bi ((Ai.getD (Int.toNat ((a1.getD (Int.toNat Af) default).Index)) default)+(Bi (0 - (a1.getD (Int.toNat Af) default).Value))))) Al)))))
 (rec (Bi (Af+1)) Ah Aj Ak Ai Al))))
 (cn ((a1.getD (Int.toNat Af) default).What == 7)
 (jp (.cn (decide ((a1.getD (Int.toNat Af) default).Index≥0))
 (.lf (decide ((a1.getD (Int.toNat Af) default).Index < ((Int.toNat ((((a0.Sites.getD (Int.toNat a2) default).Decl).Resources).length:Int)):Int))))
 (.lf false)) (fun b44=>
 (cn b44
 (gq (0≤(a1.getD (Int.toNat Af) default).Index)
 (gq ((a1.getD (Int.toNat Af) default).Index < (((Int.toNat ((((a0.Sites.getD (Int.toNat a2) default).Decl).Resources).length:Int)):Nat):Int))
 (gq (0≤(a1.getD (Int.toNat Af) default).Index)
 (gq ((a1.getD (Int.toNat Af) default).Index < (((Int.toNat ((((a0.Sites.getD (Int.toNat a2) default).Decl).Resources).length:Int)):Nat):Int))
 (fq (Ah.findIdx? fun b=>((a1.getD (Int.toNat Af) default).Proc == b.u_proc && ((a1.getD (Int.toNat Af) default).Index == b.u_resource))) (fun i45=>
 (rec (Bi (Af+1)) Ah (Aj.set i45 true) Ak (Ai.set (Int.toNat ((a1.getD (Int.toNat Af) default).Index)) (Bi ((Ai.getD (Int.toNat ((a1.getD (Int.toNat Af) default).Index)) default)+(Bi (0 - (a1.getD (Int.toNat Af) default).Value))))) Al))
 (rec (Bi (Af+1)) (Ah++ [(⟨(a1.getD (Int.toNat Af) default).Proc,(a1.getD (Int.toNat Af) default).Index⟩:Aw)]) (Aj++ [true]) Ak (Ai.set (Int.toNat ((a1.getD (Int.toNat Af) default).Index)) (Bi ((Ai.getD (Int.toNat ((a1.getD (Int.toNat Af) default).Index)) default)+(Bi (0 - (a1.getD (Int.toNat Af) default).Value))))) Al))))))
 (fq (Ah.findIdx? fun b=>((a1.getD (Int.toNat Af) default).Proc == b.u_proc && ((a1.getD (Int.toNat Af) default).Index == b.u_resource))) (fun i46=>
 (rec (Bi (Af+1)) Ah (Aj.set i46 true) Ak Ai Al))
 (rec (Bi (Af+1)) (Ah++ [(⟨(a1.getD (Int.toNat Af) default).Proc,(a1.getD (Int.toNat Af) default).Index⟩:Aw)]) (Aj++ [true]) Ak Ai Al)))))
 (cn ((a1.getD (Int.toNat Af) default).What == 5)
 (fq (Ah.findIdx? fun b=>((a1.getD (Int.toNat Af) default).Proc == b.u_proc && ((a1.getD (Int.toNat Af) default).Index == b.u_resource))) (fun i47=>
 (rec (Bi (Af+1)) Ah (Aj.set i47 true) Ak Ai Al))
 (rec (Bi (Af+1)) (Ah++ [(⟨(a1.getD (Int.toNat Af) default).Proc,(a1.getD (Int.toNat Af) default).Index⟩:Aw)]) (Aj++ [true]) Ak Ai Al))
 (rec (Bi (Af+1)) Ah Aj Ak Ai Al)))))))
 (cn ((a1.getD (Int.toNat Af) default).What == 4)
 (jp (.cn (decide ((a1.getD (Int.toNat Af) default).Index≥0))
 (.lf (decide ((a1.getD (Int.toNat Af) default).Index < ((Int.toNat ((((a0.Sites.getD (Int.toNat a2) default).Decl).Resources).length:Int)):Int))))
 (.lf false)) (fun b48=>
 (cn b48
 (gq (0≤(a1.getD (Int.toNat Af) default).Index)
 (gq ((a1.getD (Int.toNat Af) default).Index < (((Int.toNat ((((a0.Sites.getD (Int.toNat a2) default).Decl).Resources).length:Int)):Nat):Int))
 (gq (0≤(a1.getD (Int.toNat Af) default).Index)
 (gq ((a1.getD (Int.toNat Af) default).Index < (((Int.toNat ((((a0.Sites.getD (Int.toNat a2) default).Decl).Resources).length:Int)):Nat):Int))
 (fq (Ah.findIdx? fun b=>((a1.getD (Int.toNat Af) default).Proc == b.u_proc && ((a1.getD (Int.toNat Af) default).Index == b.u_resource))) (fun i49=>
 (rec (Bi (Af+1)) ((Ah.take i49).drop 0++(Ah.take Ah.length).drop (i49+1)) ((Aj.take i49).drop 0++(Aj.take Aj.length).drop (i49+1)) Ak (Ai.set (Int.toNat ((a1.getD (Int.toNat Af) default).Index)) (Bi ((Ai.getD (Int.toNat ((a1.getD (Int.toNat Af) default).Index)) default)+(a1.getD (Int.toNat Af) default).Value))) Al))
 (rec (Bi (Af+1)) Ah Aj Ak (Ai.set (Int.toNat ((a1.getD (Int.toNat Af) default).Index)) (Bi ((Ai.getD (Int.toNat ((a1.getD (Int.toNat Af) default).Index)) default)+(a1.getD (Int.toNat Af) default).Value))) Al))))))
 (fq (Ah.findIdx? fun b=>((a1.getD (Int.toNat Af) default).Proc == b.u_proc && ((a1.getD (Int.toNat Af) default).Index == b.u_resource))) (fun i50=>
 (rec (Bi (Af+1)) ((Ah.take i50).drop 0++(Ah.take Ah.length).drop (i50+1)) ((Aj.take i50).drop 0++(Aj.take Aj.length).drop (i50+1)) Ak Ai Al))
 (rec (Bi (Af+1)) Ah Aj Ak Ai Al)))))
 (cn ((a1.getD (Int.toNat Af) default).What == 6)
 (jp (.cn (decide ((a1.getD (Int.toNat Af) default).Index≥0))
 (.lf (decide ((a1.getD (Int.toNat Af) default).Index < ((Int.toNat ((((a0.Sites.getD (Int.toNat a2) default).Decl).Resources).length:Int)):Int))))
 (.lf false)) (fun b51=>
 (cn b51
 (gq (0≤(a1.getD (Int.toNat Af) default).Index)
 (gq ((a1.getD (Int.toNat Af) default).Index < (((Int.toNat ((((a0.Sites.getD (Int.toNat a2) default).Decl).Resources).length:Int)):Nat):Int))
 (gq (0≤(a1.getD (Int.toNat Af) default).Index)
 (gq ((a1.getD (Int.toNat Af) default).Index < (((Int.toNat ((((a0.Sites.getD (Int.toNat a2) default).Decl).Resources).length:Int)):Nat):Int))
 (rec (Bi (Af+1)) Ah Aj Ak (Ai.set (Int.toNat ((a1.getD (Int.toNat Af) default).Index)) (Bi ((Ai.getD (Int.toNat ((a1.getD (Int.toNat Af) default).Index)) default)+(Bi (0 - (a1.getD (Int.toNat Af) default).Value))))) Al)))))
 (rec (Bi (Af+1)) Ah Aj Ak Ai Al))))
 (cn ((a1.getD (Int.toNat Af) default).What == 7)
 (jp (.cn (decide ((a1.getD (Int.toNat Af) default).Index≥0))
 (.lf (decide ((a1.getD (Int.toNat Af) default).Index < ((Int.toNat ((((a0.Sites.getD (Int.toNat a2) default).Decl).Resources).length:Int)):Int))))
 (.lf false)) (fun b52=>
 (cn b52
 (gq (0≤(a1.getD (Int.toNat Af) default).Index)
 (gq ((a1.getD (Int.toNat Af) default).Index < (((Int.toNat ((((a0.Sites.getD (Int.toNat a2) default).Decl).Resources).length:Int)):Nat):Int))
 (gq (0≤(a1.getD (Int.toNat Af) default).Index)
 (gq ((a1.getD (Int.toNat Af) default).Index < (((Int.toNat ((((a0.Sites.getD (Int.toNat a2) default).Decl).Resources).length:Int)):Nat):Int))
 (fq (Ah.findIdx? fun b=>((a1.getD (Int.toNat Af) default).Proc == b.u_proc && ((a1.getD (Int.toNat Af) default).Index == b.u_resource))) (fun i53=>
 (rec (Bi (Af+1)) Ah (Aj.set i53 true) Ak (Ai.set (Int.toNat ((a1.getD (Int.toNat Af) default).Index)) (Bi ((Ai.getD (Int.toNat ((a1.getD (Int.toNat Af) default).Index)) default)+(Bi (0 - (a1.getD (Int.toNat Af) default).Value))))) Al))
 (rec (Bi (Af+1)) (Ah++ [(⟨(a1.getD (Int.toNat Af) default).Proc,(a1.getD (Int.toNat Af) default).Index⟩:Aw)]) (Aj++ [true]) Ak (Ai.set (Int.toNat ((a1.getD (Int.toNat Af) default).Index)) (Bi ((Ai.getD (Int.toNat ((a1.getD (Int.toNat Af) default).Index)) default)+(Bi (0 - (a1.getD (Int.toNat Af) default).Value))))) Al))))))
 (fq (Ah.findIdx? fun b=>((a1.getD (Int.toNat Af) default).Proc == b.u_proc && ((a1.getD (Int.toNat Af) default).Index == b.u_resource))) (fun i54=>
 (rec (Bi (Af+1)) Ah (Aj.set i54 true) Ak Ai Al))
 (rec (Bi (Af+1)) (Ah++ [(⟨(a1.getD (Int.toNat Af) default).Proc,(a1.getD (Int.toNat Af) default).Index⟩:Aw)]) (Aj++ [true]) Ak Ai Al)))))
 (cn ((a1.getD (Int.toNat Af) default).What == 5)
 (fq (Ah.findIdx? fun b=>((a1.getD (Int.toNat Af) default).Proc == b.u_proc && ((a1.getD (Int.toNat Af) default).Index == b.u_resource))) (fun i55=>
 (rec (Bi (Af+1)) Ah (Aj.set i55 true) Ak Ai Al))
 (rec (Bi (Af+1)) (Ah++ [(⟨(a1.getD (Int.toNat Af) default).Proc,(a1.getD (Int.toNat Af) default).Index⟩:Aw)]) (Aj++ [true]) Ak Ai Al))
 (rec (Bi (Af+1)) Ah Aj Ak Ai Al))))))))
 (rec (Bi (Af+1)) Ah Aj Ak Ai Al))
 (cn ((a1.getD (Int.toNat Af) default).What == 5)
 (cn (decide ((a1.getD (Int.toNat Af) default).Index < 0))
 (rec (Bi (Af+1)) Ah Aj Ak Ai Al)
 (cn (decide ((a1.getD (Int.toNat Af) default).Index≥((Int.toNat ((((a0.Sites.getD (Int.toNat a2) default).Decl).Resources).length:Int)):Int)))
 (rec (Bi (Af+1)) Ah Aj Ak Ai Al)
 (cn ((a1.getD (Int.toNat Af) default).What != 5)
 (cn (decide ((a1.getD (Int.toNat Af) default).Value < 1))
 (rec (Bi (Af+1)) Ah Aj Ak Ai Al)
 (cn (decide ((a1.getD (Int.toNat Af) default).Value > 1000))
 (rec (Bi (Af+1)) Ah Aj Ak Ai Al)
 (cn ((a1.getD (Int.toNat Af) default).What == 4)
 (jp (.cn (decide ((a1.getD (Int.toNat Af) default).Index≥0))
 (.lf (decide ((a1.getD (Int.toNat Af) default).Index < ((Int.toNat ((((a0.Sites.getD (Int.toNat a2) default).Decl).Resources).length:Int)):Int))))
 (.lf false)) (fun b56=>
 (cn b56
 (gq (0≤(a1.getD (Int.toNat Af) default).Index)
 (gq ((a1.getD (Int.toNat Af) default).Index < (((Int.toNat ((((a0.Sites.getD (Int.toNat a2) default).Decl).Resources).length:Int)):Nat):Int))
 (gq (0≤(a1.getD (Int.toNat Af) default).Index)
 (gq ((a1.getD (Int.toNat Af) default).Index < (((Int.toNat ((((a0.Sites.getD (Int.toNat a2) default).Decl).Resources).length:Int)):Nat):Int))
 (fq (Ah.findIdx? fun b=>((a1.getD (Int.toNat Af) default).Proc == b.u_proc && ((a1.getD (Int.toNat Af) default).Index == b.u_resource))) (fun i57=>
 (rec (Bi (Af+1)) ((Ah.take i57).drop 0++(Ah.take Ah.length).drop (i57+1)) ((Aj.take i57).drop 0++(Aj.take Aj.length).drop (i57+1)) Ak (Ai.set (Int.toNat ((a1.getD (Int.toNat Af) default).Index)) (Bi ((Ai.getD (Int.toNat ((a1.getD (Int.toNat Af) default).Index)) default)+(a1.getD (Int.toNat Af) default).Value))) Al))
 (rec (Bi (Af+1)) Ah Aj Ak (Ai.set (Int.toNat ((a1.getD (Int.toNat Af) default).Index)) (Bi ((Ai.getD (Int.toNat ((a1.getD (Int.toNat Af) default).Index)) default)+(a1.getD (Int.toNat Af) default).Value))) Al))))))
 (fq (Ah.findIdx? fun b=>((a1.getD (Int.toNat Af) default).Proc == b.u_proc && ((a1.getD (Int.toNat Af) default).Index == b.u_resource))) (fun i58=>
 (rec (Bi (Af+1)) ((Ah.take i58).drop 0++(Ah.take Ah.length).drop (i58+1)) ((Aj.take i58).drop 0++(Aj.take Aj.length).drop (i58+1)) Ak Ai Al))
 (rec (Bi (Af+1)) Ah Aj Ak Ai Al)))))
 (cn ((a1.getD (Int.toNat Af) default).What == 6)
 (jp (.cn (decide ((a1.getD (Int.toNat Af) default).Index≥0))
 (.lf (decide ((a1.getD (Int.toNat Af) default).Index < ((Int.toNat ((((a0.Sites.getD (Int.toNat a2) default).Decl).Resources).length:Int)):Int))))
 (.lf false)) (fun b59=>
 (cn b59
 (gq (0≤(a1.getD (Int.toNat Af) default).Index)
 (gq ((a1.getD (Int.toNat Af) default).Index < (((Int.toNat ((((a0.Sites.getD (Int.toNat a2) default).Decl).Resources).length:Int)):Nat):Int))
 (gq (0≤(a1.getD (Int.toNat Af) default).Index)
 (gq ((a1.getD (Int.toNat Af) default).Index < (((Int.toNat ((((a0.Sites.getD (Int.toNat a2) default).Decl).Resources).length:Int)):Nat):Int))
 (rec (Bi (Af+1)) Ah Aj Ak (Ai.set (Int.toNat ((a1.getD (Int.toNat Af) default).Index)) (Bi ((Ai.getD (Int.toNat ((a1.getD (Int.toNat Af) default).Index)) default)+(Bi (0 - (a1.getD (Int.toNat Af) default).Value))))) Al)))))
 (rec (Bi (Af+1)) Ah Aj Ak Ai Al))))
 (cn ((a1.getD (Int.toNat Af) default).What == 7)
 (jp (.cn (decide ((a1.getD (Int.toNat Af) default).Index≥0))
 (.lf (decide ((a1.getD (Int.toNat Af) default).Index < ((Int.toNat ((((a0.Sites.getD (Int.toNat a2) default).Decl).Resources).length:Int)):Int))))
 (.lf false)) (fun b60=>
 (cn b60
 (gq (0≤(a1.getD (Int.toNat Af) default).Index)
 (gq ((a1.getD (Int.toNat Af) default).Index < (((Int.toNat ((((a0.Sites.getD (Int.toNat a2) default).Decl).Resources).length:Int)):Nat):Int))
 (gq (0≤(a1.getD (Int.toNat Af) default).Index)
 (gq ((a1.getD (Int.toNat Af) default).Index < (((Int.toNat ((((a0.Sites.getD (Int.toNat a2) default).Decl).Resources).length:Int)):Nat):Int))
 (fq (Ah.findIdx? fun b=>((a1.getD (Int.toNat Af) default).Proc == b.u_proc && ((a1.getD (Int.toNat Af) default).Index == b.u_resource))) (fun i61=>
 (rec (Bi (Af+1)) Ah (Aj.set i61 true) Ak (Ai.set (Int.toNat ((a1.getD (Int.toNat Af) default).Index)) (Bi ((Ai.getD (Int.toNat ((a1.getD (Int.toNat Af) default).Index)) default)+(Bi (0 - (a1.getD (Int.toNat Af) default).Value))))) Al))
 (rec (Bi (Af+1)) (Ah++ [(⟨(a1.getD (Int.toNat Af) default).Proc,(a1.getD (Int.toNat Af) default).Index⟩:Aw)]) (Aj++ [true]) Ak (Ai.set (Int.toNat ((a1.getD (Int.toNat Af) default).Index)) (Bi ((Ai.getD (Int.toNat ((a1.getD (Int.toNat Af) default).Index)) default)+(Bi (0 - (a1.getD (Int.toNat Af) default).Value))))) Al))))))
 (fq (Ah.findIdx? fun b=>((a1.getD (Int.toNat Af) default).Proc == b.u_proc && ((a1.getD (Int.toNat Af) default).Index == b.u_resource))) (fun i62=>
 (rec (Bi (Af+1)) Ah (Aj.set i62 true) Ak Ai Al))
 (rec (Bi (Af+1)) (Ah++ [(⟨(a1.getD (Int.toNat Af) default).Proc,(a1.getD (Int.toNat Af) default).Index⟩:Aw)]) (Aj++ [true]) Ak Ai Al)))))
 (cn ((a1.getD (Int.toNat Af) default).What == 5)
 (fq (Ah.findIdx? fun b=>((a1.getD (Int.toNat Af) default).Proc == b.u_proc && ((a1.getD (Int.toNat Af) default).Index == b.u_resource))) (fun i63=>
 (rec (Bi (Af+1)) Ah (Aj.set i63 true) Ak Ai Al))
 (rec (Bi (Af+1)) (Ah++ [(⟨(a1.getD (Int.toNat Af) default).Proc,(a1.getD (Int.toNat Af) default).Index⟩:Aw)]) (Aj++ [true]) Ak Ai Al))
 (rec (Bi (Af+1)) Ah Aj Ak Ai Al)))))))
 (cn ((a1.getD (Int.toNat Af) default).What == 4)
 (jp (.cn (decide ((a1.getD (Int.toNat Af) default).Index≥0))
 (.lf (decide ((a1.getD (Int.toNat Af) default).Index < ((Int.toNat ((((a0.Sites.getD (Int.toNat a2) default).Decl).Resources).length:Int)):Int))))
 (.lf false)) (fun b64=>
 (cn b64
 (gq (0≤(a1.getD (Int.toNat Af) default).Index)
 (gq ((a1.getD (Int.toNat Af) default).Index < (((Int.toNat ((((a0.Sites.getD (Int.toNat a2) default).Decl).Resources).length:Int)):Nat):Int))
 (gq (0≤(a1.getD (Int.toNat Af) default).Index)
 (gq ((a1.getD (Int.toNat Af) default).Index < (((Int.toNat ((((a0.Sites.getD (Int.toNat a2) default).Decl).Resources).length:Int)):Nat):Int))
 (fq (Ah.findIdx? fun b=>((a1.getD (Int.toNat Af) default).Proc == b.u_proc && ((a1.getD (Int.toNat Af) default).Index == b.u_resource))) (fun i65=>
 (rec (Bi (Af+1)) ((Ah.take i65).drop 0++(Ah.take Ah.length).drop (i65+1)) ((Aj.take i65).drop 0++(Aj.take Aj.length).drop (i65+1)) Ak (Ai.set (Int.toNat ((a1.getD (Int.toNat Af) default).Index)) (Bi ((Ai.getD (Int.toNat ((a1.getD (Int.toNat Af) default).Index)) default)+(a1.getD (Int.toNat Af) default).Value))) Al))
 (rec (Bi (Af+1)) Ah Aj Ak (Ai.set (Int.toNat ((a1.getD (Int.toNat Af) default).Index)) (Bi ((Ai.getD (Int.toNat ((a1.getD (Int.toNat Af) default).Index)) default)+(a1.getD (Int.toNat Af) default).Value))) Al))))))
 (fq (Ah.findIdx? fun b=>((a1.getD (Int.toNat Af) default).Proc == b.u_proc && ((a1.getD (Int.toNat Af) default).Index == b.u_resource))) (fun i66=>
 (rec (Bi (Af+1)) ((Ah.take i66).drop 0++(Ah.take Ah.length).drop (i66+1)) ((Aj.take i66).drop 0++(Aj.take Aj.length).drop (i66+1)) Ak Ai Al))
 (rec (Bi (Af+1)) Ah Aj Ak Ai Al)))))
 (cn ((a1.getD (Int.toNat Af) default).What == 6)
 (jp (.cn (decide ((a1.getD (Int.toNat Af) default).Index≥0))
 (.lf (decide ((a1.getD (Int.toNat Af) default).Index < ((Int.toNat ((((a0.Sites.getD (Int.toNat a2) default).Decl).Resources).length:Int)):Int))))
 (.lf false)) (fun b67=>
 (cn b67
 (gq (0≤(a1.getD (Int.toNat Af) default).Index)
 (gq ((a1.getD (Int.toNat Af) default).Index < (((Int.toNat ((((a0.Sites.getD (Int.toNat a2) default).Decl).Resources).length:Int)):Nat):Int))
 (gq (0≤(a1.getD (Int.toNat Af) default).Index)
 (gq ((a1.getD (Int.toNat Af) default).Index < (((Int.toNat ((((a0.Sites.getD (Int.toNat a2) default).Decl).Resources).length:Int)):Nat):Int))
 (rec (Bi (Af+1)) Ah Aj Ak (Ai.set (Int.toNat ((a1.getD (Int.toNat Af) default).Index)) (Bi ((Ai.getD (Int.toNat ((a1.getD (Int.toNat Af) default).Index)) default)+(Bi (0 - (a1.getD (Int.toNat Af) default).Value))))) Al)))))
 (rec (Bi (Af+1)) Ah Aj Ak Ai Al))))
 (cn ((a1.getD (Int.toNat Af) default).What == 7)
 (jp (.cn (decide ((a1.getD (Int.toNat Af) default).Index≥0))
 (.lf (decide ((a1.getD (Int.toNat Af) default).Index < ((Int.toNat ((((a0.Sites.getD (Int.toNat a2) default).Decl).Resources).length:Int)):Int))))
 (.lf false)) (fun b68=>
 (cn b68
 (gq (0≤(a1.getD (Int.toNat Af) default).Index)
 (gq ((a1.getD (Int.toNat Af) default).Index < (((Int.toNat ((((a0.Sites.getD (Int.toNat a2) default).Decl).Resources).length:Int)):Nat):Int))
 (gq (0≤(a1.getD (Int.toNat Af) default).Index)
 (gq ((a1.getD (Int.toNat Af) default).Index < (((Int.toNat ((((a0.Sites.getD (Int.toNat a2) default).Decl).Resources).length:Int)):Nat):Int))
 (fq (Ah.findIdx? fun b=>((a1.getD (Int.toNat Af) default).Proc == b.u_proc && ((a1.getD (Int.toNat Af) default).Index == b.u_resource))) (fun i69=>
 (rec (Bi (Af+1)) Ah (Aj.set i69 true) Ak (Ai.set (Int.toNat ((a1.getD (Int.toNat Af) default).Index)) (Bi ((Ai.getD (Int.toNat ((a1.getD (Int.toNat Af) default).Index)) default)+(Bi (0 - (a1.getD (Int.toNat Af) default).Value))))) Al))
 (rec (Bi (Af+1)) (Ah++ [(⟨(a1.getD (Int.toNat Af) default).Proc,(a1.getD (Int.toNat Af) default).Index⟩:Aw)]) (Aj++ [true]) Ak (Ai.set (Int.toNat ((a1.getD (Int.toNat Af) default).Index)) (Bi ((Ai.getD (Int.toNat ((a1.getD (Int.toNat Af) default).Index)) default)+(Bi (0 - (a1.getD (Int.toNat Af) default).Value))))) Al))))))
 (fq (Ah.findIdx? fun b=>((a1.getD (Int.toNat Af) default).Proc == b.u_proc && ((a1.getD (Int.toNat Af) default).Index == b.u_resource))) (fun i70=>
 (rec (Bi (Af+1)) Ah (Aj.set i70 true) Ak Ai Al))
 (rec (Bi (Af+1)) (Ah++ [(⟨(a1.getD (Int.toNat Af) default).Proc,(a1.getD (Int.toNat Af) default).Index⟩:Aw)]) (Aj++ [true]) Ak Ai Al)))))
 (cn ((a1.getD (Int.toNat Af) default).What == 5)
 (fq (Ah.findIdx? fun b=>((a1.getD (Int.toNat Af) default).Proc == b.u_proc && ((a1.getD (Int.toNat Af) default).Index == b.u_resource))) (fun i71=>
 (rec (Bi (Af+1)) Ah (Aj.set i71 true) Ak Ai Al))
 (rec (Bi (Af+1)) (Ah++ [(⟨(a1.getD (Int.toNat Af) default).Proc,(a1.getD (Int.toNat Af) default).Index⟩:Aw)]) (Aj++ [true]) Ak Ai Al))
 (rec (Bi (Af+1)) Ah Aj Ak Ai Al))))))))
 (rec (Bi (Af+1)) Ah Aj Ak Ai Al)))))))))
 (rec (Bi (Af+1)) Ah Aj Ak Ai Al))))
 (lf (0,Af,Ah,Aj,Ak,Ai,Al)))
def P5 [An A (Nat×Tu8)](a2:Int)(a3:Int)(a1:List Bo)(a0:Ad)(rec:Int→List Aw→List Bool→List Int→List Int→List Int→A)(Af:Int)(Ah:List Aw)(Aj:List Bool)(Ak:List Int)(Ai:List Int)(Al:List Int):A:=Lx L a2 a3 a1 a0 rec Af Ah Aj Ak Ai Al (fun Af Ak Ai Al Ah Aj b1=>bd (Dp L a0 a2 a1 Af a3 Ak Ai Al L 0 Ah Aj) fun o72=>H7 L Af Ak a1 Ai Al rec o72) (fun Af Ak Ai Al Ah Aj b1=>bd (Dq L a0 a2 a1 Af a3 Ak Ai Al L 0 Ah Aj) fun o73=>H8 L Af Ak Ai Al rec o73)
def Dn(L:Nat)(a2:Int)(a3:Int)(a1:List Bo)(a0:Ad):Nat→Int→List Aw→List Bool→List Int→List Int→List Int→Option (Nat×Tu8)
 |0,_,_,_,_,_,_=>none
 |n+1,Af,Ah,Aj,Ak,Ai,Al=>P5 L a2 a3 a1 a0 (Dn L a2 a3 a1 a0 n) Af Ah Aj Ak Ai Al
def Avk(a2:Int)(a3:Int)(a1:List Bo)(a0:Ad):Prop:=LI (EV (O22 L) L 9 c22.w.l.u.l.l) [0,1,2,3,4,8,9,12,19,20,21,22] [4,8,17,19,1012,1015,1016,1017,1030,1034,1038,1042] (Ar8 a2 a3 a1 a0) [.exit 0] (fun n v=>Dn L a2 a3 a1 a0 n v.1 v.2.1 v.2.2.1 v.2.2.2.1 v.2.2.2.2.1 v.2.2.2.2.2) K n
def A6d(a1:List Bo)(Af:Int)(a2:Int)(a3:Int)(b1:Bool)(a0:Ad)(Ah:List Aw)(Aj:List Bool)(Ak:List Int)(Ai:List Int)(Al:List Int):Ci:=(A6z L a1 Af a2 a3 b1 a0 Ah Aj Ak Ai Al n K)
theorem Blb(a0:Ad)(a2:Int)(a1:List Bo)(Af:Int)(a3:Int)(Ak:List Int)(Ai:List Int)(Al:List Int)(b1:Bool)(Ah:List Aw)(Aj:List Bool)(ih:Avk L n K a2 a3 a1 a0)(o72:Nat×Anu):kX [.exit 1] (A7v a0 a2 a1 Af a3 Ak Ai Al) (A6d L n K a1 Af a2 a3 b1 a0 Ah Aj Ak Ai Al) o72=ob (H7 L Af Ak a1 Ai Al (Dn L a2 a3 a1 a0 n) o72) (kX [.exit 0] (Ar8 a2 a3 a1 a0) K):=eE (H7 L Af Ak a1 Ai Al (fun Af Ah Aj Ak Ai Al=>re (ih (Af,Ah,Aj,Ak,Ai,Al))) o72)
def A6e(a1:List Bo)(Af:Int)(a2:Int)(a3:Int)(b1:Bool)(a0:Ad)(Ah:List Aw)(Aj:List Bool)(Ak:List Int)(Ai:List Int)(Al:List Int):Ci:=(A6z L a1 Af a2 a3 b1 a0 Ah Aj Ak Ai Al n K)
theorem Blc(a0:Ad)(a2:Int)(a1:List Bo)(Af:Int)(a3:Int)(Ak:List Int)(Ai:List Int)(Al:List Int)(b1:Bool)(Ah:List Aw)(Aj:List Bool)(ih:Avk L n K a2 a3 a1 a0)(o73:Nat×Anu):kX [.exit 1] (A7w a0 a2 a1 Af a3 Ak Ai Al) (A6e L n K a1 Af a2 a3 b1 a0 Ah Aj Ak Ai Al) o73=ob (H8 L Af Ak Ai Al (Dn L a2 a3 a1 a0 n) o73) (kX [.exit 0] (Ar8 a2 a3 a1 a0) K):=eE (H8 L Af Ak Ai Al (fun Af Ah Aj Ak Ai Al=>re (ih (Af,Ah,Aj,Ak,Ai,Al))) o73)
theorem Bf4(a2:Int)(a3:Int)(a1:List Bo)(a0:Ad):∀n,Avk L n K a2 a3 a1 a0:=lE (fun _=>rfl) fun n v ih=>eE (Lx L a2 a3 a1 a0 (fun Af Ah Aj Ak Ai Al=>re (ih (Af,Ah,Aj,Ak,Ai,Al))) v.1 v.2.1 v.2.2.1 v.2.2.2.1 v.2.2.2.2.1 v.2.2.2.2.2 (fun Af Ak Ai Al Ah Aj b1=>ho (Bf5 L (A6d L n K a1 Af a2 a3 b1 a0 Ah Aj Ak Ai Al) a0 a2 a1 Af a3 Ak Ai Al L (0,Ah,Aj)) fun o72=>Blb L n K a0 a2 a1 Af a3 Ak Ai Al b1 Ah Aj ih o72) (fun Af Ak Ai Al Ah Aj b1=>ho (Bf6 L (A6e L n K a1 Af a2 a3 b1 a0 Ah Aj Ak Ai Al) a0 a2 a1 Af a3 Ak Ai Al L (0,Ah,Aj)) fun o73=>Blc L n K a0 a2 a1 Af a3 Ak Ai Al b1 Ah Aj ih o73))
def Axl(a0:Ad)(o74:Nat×Tu8)(a3:Int)(a2:Int)(v:List Int):St:=⟨[(0,.any),(1,.any),(2,.any),(3,.any),(4,.any),(8,.loc 8 0),(9,.loc 19 0),(11,.any),(19,.any),(22,.any),(44,.any)],[(4,(B4 a0)),(8,[I 0,I 0,.lst true (.t3 []),.lst true (.t3 []),.lst true (.t3 []),.lst true (.t3 [])]),(17,[.mapO true false (.t109 o74.2.2.1) (.t4 o74.2.2.2.1)]),(19,[I a3,I a2,.vw false 1030 3 1 (Int.toNat (((a0.Sites.getD (Int.toNat a2) default).Routines).length:Int)),.vw false 1034 3 1 (Int.toNat ((((a0.Sites.getD (Int.toNat a2) default).Decl).Resources).length:Int)),.vw false 1038 3 1 (Int.toNat ((((a0.Sites.getD (Int.toNat a2) default).Decl).Resources).length:Int)),.vw false 1042 3 1 (Int.toNat ((((a0.Sites.getD (Int.toNat a2) default).Decl).Stores).length:Int)),.mp 17]),(1012,(B4 a0)),(1015,[I a3,I a2,.vw false 1030 3 1 (Int.toNat (((a0.Sites.getD (Int.toNat a2) default).Routines).length:Int)),.vw false 1034 3 1 (Int.toNat ((((a0.Sites.getD (Int.toNat a2) default).Decl).Resources).length:Int)),.vw false 1038 3 1 (Int.toNat ((((a0.Sites.getD (Int.toNat a2) default).Decl).Resources).length:Int)),.vw false 1042 3 1 (Int.toNat ((((a0.Sites.getD (Int.toNat a2) default).Decl).Stores).length:Int))]),(1016,[S ((a0.Sites.getD (Int.toNat a2) default).Decl).Name,lv (.t123 (((a0.Sites.getD (Int.toNat a2) default).Decl).Vars)),lv (.t86 (((a0.Sites.getD (Int.toNat a2) default).Decl).Resources)),lv (.t89 (((a0.Sites.getD (Int.toNat a2) default).Decl).Stores)),lv (.t178 (((a0.Sites.getD (Int.toNat a2) default).Decl).Belts)),lv (.t9 (((a0.Sites.getD (Int.toNat a2) default).Decl).Queues)),lv (.t9 (((a0.Sites.getD (Int.toNat a2) default).Decl).Streams)),lv (.t9 (((a0.Sites.getD (Int.toNat a2) default).Decl).Tallies)),lv (.t9 (((a0.Sites.getD (Int.toNat a2) default).Decl).Levels)),lv (.t9 (((a0.Sites.getD (Int.toNat a2) default).Decl).Counts)),lv (.t93 (((a0.Sites.getD (Int.toNat a2) default).Decl).Routines)),lv (.t150 (((a0.Sites.getD (Int.toNat a2) default).Decl).Starts)),lv (.t154 (((a0.Sites.getD (Int.toNat a2) default).Decl).Laws)),lv (.t78 ((a0.Sites.getD (Int.toNat a2) default).Routines))]),(1017,(Ae ((a0.Sites.getD (Int.toNat a2) default).Decl))),(1030,[.arrO (.t3 o74.2.2.2.2.1)]),(1034,[.arrO (.t3 o74.2.2.2.2.2.1)]),(1038,[.arrO (.t3 v)]),(1042,[.arrO (.t3 o74.2.2.2.2.2.2)])],0⟩
def A5w(a0:Ad)(o74:Nat×Tu8)(a3:Int)(a2:Int)(es:Array MapEntry)(clock r:Nat)(v:List Int):St:=⟨[(0,.any),(1,.any),(2,.any),(3,.any),(4,.any),(8,.loc 8 0),(9,.loc 19 0),(11,.any),(19,.any),(22,.any),(44,.val (Value.pointer (some ⟨r,0,none⟩)))],[(4,(B4 a0)),(8,[I 0,I 0,.lst true (.t3 []),.lst true (.t3 []),.lst true (.t3 []),.lst true (.t3 [])]),(17,[.mapE es clock true false (.t109 o74.2.2.1) (.t4 o74.2.2.2.1)]),(19,[I a3,I a2,.vw false 1030 3 1 (Int.toNat (((a0.Sites.getD (Int.toNat a2) default).Routines).length:Int)),.vw false 1034 3 1 (Int.toNat ((((a0.Sites.getD (Int.toNat a2) default).Decl).Resources).length:Int)),.vw false 1038 3 1 (Int.toNat ((((a0.Sites.getD (Int.toNat a2) default).Decl).Resources).length:Int)),.vw false 1042 3 1 (Int.toNat ((((a0.Sites.getD (Int.toNat a2) default).Decl).Stores).length:Int)),.mp 17]),(1012,(B4 a0)),(1015,[I a3,I a2,.vw false 1030 3 1 (Int.toNat (((a0.Sites.getD (Int.toNat a2) default).Routines).length:Int)),.vw false 1034 3 1 (Int.toNat ((((a0.Sites.getD (Int.toNat a2) default).Decl).Resources).length:Int)),.vw false 1038 3 1 (Int.toNat ((((a0.Sites.getD (Int.toNat a2) default).Decl).Resources).length:Int)),.vw false 1042 3 1 (Int.toNat ((((a0.Sites.getD (Int.toNat a2) default).Decl).Stores).length:Int))]),(1016,[S ((a0.Sites.getD (Int.toNat a2) default).Decl).Name,lv (.t123 (((a0.Sites.getD (Int.toNat a2) default).Decl).Vars)),lv (.t86 (((a0.Sites.getD (Int.toNat a2) default).Decl).Resources)),lv (.t89 (((a0.Sites.getD (Int.toNat a2) default).Decl).Stores)),lv (.t178 (((a0.Sites.getD (Int.toNat a2) default).Decl).Belts)),lv (.t9 (((a0.Sites.getD (Int.toNat a2) default).Decl).Queues)),lv (.t9 (((a0.Sites.getD (Int.toNat a2) default).Decl).Streams)),lv (.t9 (((a0.Sites.getD (Int.toNat a2) default).Decl).Tallies)),lv (.t9 (((a0.Sites.getD (Int.toNat a2) default).Decl).Levels)),lv (.t9 (((a0.Sites.getD (Int.toNat a2) default).Decl).Counts)),lv (.t93 (((a0.Sites.getD (Int.toNat a2) default).Decl).Routines)),lv (.t150 (((a0.Sites.getD (Int.toNat a2) default).Decl).Starts)),lv (.t154 (((a0.Sites.getD (Int.toNat a2) default).Decl).Laws)),lv (.t78 ((a0.Sites.getD (Int.toNat a2) default).Routines))]),(1017,(Ae ((a0.Sites.getD (Int.toNat a2) default).Decl))),(1030,[.arrO (.t3 o74.2.2.2.2.1)]),(1034,[.arrO (.t3 o74.2.2.2.2.2.1)]),(1038,[.arrO (.t3 v)]),(1042,[.arrO (.t3 o74.2.2.2.2.2.2)])],2043⟩
def C7 [An A (List Int)](L:Nat)(a0:Ad)(o74:Nat×Tu8)(a3:Int)(a2:Int)(i0:Nat)(v:List Int):A:=
 (jp (.cn (decide ((o74.2.2.1.getD i0 default).u_resource≥0))
 (.lf (decide ((o74.2.2.1.getD i0 default).u_resource < ((Int.toNat ((((a0.Sites.getD (Int.toNat a2) default).Decl).Resources).length:Int)):Int))))
 (.lf false)) (fun b75=>
 (cn b75
 (gq (0≤(o74.2.2.1.getD i0 default).u_resource)
 (gq ((o74.2.2.1.getD i0 default).u_resource < (((Int.toNat ((((a0.Sites.getD (Int.toNat a2) default).Decl).Resources).length:Int)):Nat):Int))
 (gq (0≤(o74.2.2.1.getD i0 default).u_resource)
 (gq ((o74.2.2.1.getD i0 default).u_resource < (((Int.toNat ((((a0.Sites.getD (Int.toNat a2) default).Decl).Resources).length:Int)):Nat):Int))
 (lf (v.set (Int.toNat ((o74.2.2.1.getD i0 default).u_resource)) (Bi ((v.getD (Int.toNat ((o74.2.2.1.getD i0 default).u_resource)) default)+1))))))))
 (lf v))))
def Alt(x m:Int)(v:List Int):List Int:=if 0≤x∧x < m then v.set (Int.toNat x) (Bi (v.getD (Int.toNat x) default+1)) else v
theorem A2v(x y m:Int)(v:List Int):Alt x m (Alt y m v)=Alt y m (Alt x m v):=by
 unfold Alt
 by_cases h1:0≤x∧x < m<;>by_cases h2:0≤y∧y < m<;>simp only [h1,h2,if_true,if_false,and_self]
 by_cases e:x.toNat=y.toNat
 ·rw [e]
 ·have g:∀(p q:Nat) (z:Int),p≠q→(v.set p z).getD q default=v.getD q default:=fun p q z h=>by
   simp [List.getD,List.getElem?_set_ne h]
  rw [g _ _ _ e,g _ _ _ (fun h=>e h.symm),List.set_comm _ _ e]
theorem A7g(a0:Ad)(o74:Nat×Tu8)(a3:Int)(a2:Int)(i:Nat)(v:List Int):(C7 L a0 o74 a3 a2 i v:Option _)=some (Alt ((o74.2.2.1.getD i default).u_resource) ((Int.toNat ((((a0.Sites.getD (Int.toNat a2) default).Decl).Resources).length:Int):Nat):Int) v):=by
 unfold C7 Alt
 rw [Be3]
 by_cases h1:(0:Int)≤(o74.2.2.1.getD i default).u_resource<;>by_cases h2:(o74.2.2.1.getD i default).u_resource < ((Int.toNat ((((a0.Sites.getD (Int.toNat a2) default).Decl).Resources).length:Int):Nat):Int)<;>simp only [BT.v,Be1,Be2,Be4,ge_iff_le,h1,h2,decide_true,decide_false,cond_true,cond_false,if_true,if_false,and_self,and_false,false_and,true_and]
theorem Acw(a0:Ad)(o74:Nat×Tu8)(a3:Int)(a2:Int)(i j:Nat)(v:List Int)(hi:i < o74.2.2.1.length)(hj:j < o74.2.2.1.length):((C7 L a0 o74 a3 a2 i v:Option _).bind fun v=>C7 L a0 o74 a3 a2 j v)=(C7 L a0 o74 a3 a2 j v:Option _).bind fun v=>C7 L a0 o74 a3 a2 i v:=by
 simp only [A7g,Option.bind_some,A2v]
def P7(a0:Ad)(o74:Nat×Tu8)(a3:Int)(a2:Int)(n:Nat)(v:List Int):Option (List Int):=if o74.2.2.1.length < n then Zy (fun i0 v=>C7 L a0 o74 a3 a2 i0 v) (List.range o74.2.2.1.length) v else none
theorem Bf7(a0:Ad)(o74:Nat×Tu8)(a3:Int)(a2:Int)(v:List Int)(st:St)(h0:∀es clock r,Bcq st 17 44 [.mapE es clock true false (.t109 o74.2.2.1) (.t4 o74.2.2.2.1)] (.val (.pointer (some ⟨r,0,none⟩))) [0,1,2,3,4,8,9,11,19,22,44]=A5w a0 o74 a3 a2 es clock r v)(hl:Cj st= [4,8,17,19,1012,1015,1016,1017,1030,1034,1038,1042])(hbs:st.base=0):Bin (rgF Tryz.prog (O22 L) (EI (O22 L) L 9) L c22.w.u.l) 3 17 true false (.t109 o74.2.2.1) (.t4 o74.2.2.2.1) 44 45 46 47 [0,1,2,3,4,8,9,11,19,22,44] L st (fun st9=>K .normal st9)=ob (P7 L a0 o74 a3 a2 L v) (kR (Axl a0 o74 a3 a2) K):=
 Bcr (Axl a0 o74 a3 a2) (A5w a0 o74 a3 a2) (fun i0 v=>C7 L a0 o74 a3 a2 i0 v) v h0 hl hbs (fun es clock r i0 v G=>eE (C7 L a0 o74 a3 a2 i0 v)) (fun es clock r v=>by kernel_rfl) (Acw L a0 o74 a3 a2)
def Lq [An A Bc](L:Nat)(a3:Int)(a2:Int)(o74:Nat×Tu8)(o76:List Int):A:=
 (lf (⟨a3,a2,o74.2.2.2.2.1,o74.2.2.2.2.2.1,o76,o74.2.2.2.2.2.2⟩:Bc))
def A6g:Ci:=(Bz (EV (O22 L) L 9 c22.w.u.r) (Kb Tryz.prog (RS Tryz.f22) kk))
theorem Ble(a0:Ad)(o74:Nat×Tu8)(a3:Int)(a2:Int)(o76:List Int):kR (Axl a0 o74 a3 a2) (A6g L kk) o76=ob (Lq L a3 a2 o74 o76) (Bkw kk):=eE (Lq L a3 a2 o74 o76)
def Qh [An A Bc](L:Nat)(a0:Ad)(a3:Int)(a2:Int)(o74:Nat×Tu8)(nx4:(Nat×Tu8)→A):A:=
 (sl o74.1 [(nx4 o74)])
def P9 [An A Bc](a0:Ad)(a3:Int)(a2:Int)(o74:Nat×Tu8):A:=Qh L a0 a3 a2 o74 (fun o74=>bd (P7 L a0 o74 a3 a2 L (List.replicate (Int.toNat ((((a0.Sites.getD (Int.toNat a2) default).Decl).Resources).length:Int)) 0)) fun o76=>Lq L a3 a2 o74 o76)
def A6f:Ci:=(Bs 0 (Bz (EV (O22 L) L 9 c22.w.r) (Kb Tryz.prog (RS Tryz.f22) kk)))
theorem Bld(a2:Int)(a3:Int)(a1:List Bo)(a0:Ad)(o74:Nat×Tu8):kX [.exit 0] (Ar8 a2 a3 a1 a0) (A6f L kk) o74=ob (P9 L a0 a3 a2 o74) (Bkw kk):=eE (Qh L a0 a3 a2 o74 (fun o74=>ho (Bf7 L (A6g L kk) a0 o74 a3 a2 (List.replicate (Int.toNat ((((a0.Sites.getD (Int.toNat a2) default).Decl).Resources).length:Int)) 0) (⟨[(43,.mp 17),(42,.loc 19 6),(41,.loc 19 0),(40,.loc 19 0),(8,.loc 8 0),(9,.loc 19 0)],[(4,(B4 a0)),(8,[I 0,I 0,.lst true (.t3 []),.lst true (.t3 []),.lst true (.t3 []),.lst true (.t3 [])]),(17,[.mapO true false (.t109 o74.2.2.1) (.t4 o74.2.2.2.1)]),(19,[I a3,I a2,.vw false 1030 3 1 (Int.toNat (((a0.Sites.getD (Int.toNat a2) default).Routines).length:Int)),.vw false 1034 3 1 (Int.toNat ((((a0.Sites.getD (Int.toNat a2) default).Decl).Resources).length:Int)),.vw false 1038 3 1 (Int.toNat ((((a0.Sites.getD (Int.toNat a2) default).Decl).Resources).length:Int)),.vw false 1042 3 1 (Int.toNat ((((a0.Sites.getD (Int.toNat a2) default).Decl).Stores).length:Int)),.mp 17]),(1012,(B4 a0)),(1015,[I a3,I a2,.vw false 1030 3 1 (Int.toNat (((a0.Sites.getD (Int.toNat a2) default).Routines).length:Int)),.vw false 1034 3 1 (Int.toNat ((((a0.Sites.getD (Int.toNat a2) default).Decl).Resources).length:Int)),.vw false 1038 3 1 (Int.toNat ((((a0.Sites.getD (Int.toNat a2) default).Decl).Resources).length:Int)),.vw false 1042 3 1 (Int.toNat ((((a0.Sites.getD (Int.toNat a2) default).Decl).Stores).length:Int))]),(1016,[S ((a0.Sites.getD (Int.toNat a2) default).Decl).Name,lv (.t123 (((a0.Sites.getD (Int.toNat a2) default).Decl).Vars)),lv (.t86 (((a0.Sites.getD (Int.toNat a2) default).Decl).Resources)),lv (.t89 (((a0.Sites.getD (Int.toNat a2) default).Decl).Stores)),lv (.t178 (((a0.Sites.getD (Int.toNat a2) default).Decl).Belts)),lv (.t9 (((a0.Sites.getD (Int.toNat a2) default).Decl).Queues)),lv (.t9 (((a0.Sites.getD (Int.toNat a2) default).Decl).Streams)),lv (.t9 (((a0.Sites.getD (Int.toNat a2) default).Decl).Tallies)),lv (.t9 (((a0.Sites.getD (Int.toNat a2) default).Decl).Levels)),lv (.t9 (((a0.Sites.getD (Int.toNat a2) default).Decl).Counts)),lv (.t93 (((a0.Sites.getD (Int.toNat a2) default).Decl).Routines)),lv (.t150 (((a0.Sites.getD (Int.toNat a2) default).Decl).Starts)),lv (.t154 (((a0.Sites.getD (Int.toNat a2) default).Decl).Laws)),lv (.t78 ((a0.Sites.getD (Int.toNat a2) default).Routines))]),(1017,(Ae ((a0.Sites.getD (Int.toNat a2) default).Decl))),(1030,[.arrO (.t3 o74.2.2.2.2.1)]),(1034,[.arrO (.t3 o74.2.2.2.2.2.1)]),(1038,[.arrO (.t3 (List.replicate (Int.toNat ((((a0.Sites.getD (Int.toNat a2) default).Decl).Resources).length:Int)) 0))]),(1042,[.arrO (.t3 o74.2.2.2.2.2.2)])],0⟩:St) (fun _ _ _=>by kernel_rfl) (by kernel_rfl) (by kernel_rfl)) fun o76=>Ble L kk a0 o74 a3 a2 o76))
def Qg [An A Bc](L:Nat)(a0:Ad)(a1:List Bo)(a2:Int)(a3:Int)(nx3:A):A:=
 (gi a2 a0.Sites
 (gq (0≤(((a0.Sites.getD (Int.toNat a2) default).Routines).length:Int))
 (gq ((((a0.Sites.getD (Int.toNat a2) default).Routines).length:Int)*((8:Nat):Int)≤140737488355328)
 (gq ((((a0.Sites.getD (Int.toNat a2) default).Routines).length:Int)≤9223372036854775807)
 (gq (0≤((((a0.Sites.getD (Int.toNat a2) default).Decl).Resources).length:Int))
 (gq (((((a0.Sites.getD (Int.toNat a2) default).Decl).Resources).length:Int)*((8:Nat):Int)≤140737488355328)
 (gq (((((a0.Sites.getD (Int.toNat a2) default).Decl).Resources).length:Int)≤9223372036854775807)
 (gq (0≤((((a0.Sites.getD (Int.toNat a2) default).Decl).Resources).length:Int))
 (gq (((((a0.Sites.getD (Int.toNat a2) default).Decl).Resources).length:Int)*((8:Nat):Int)≤140737488355328)
 (gq (((((a0.Sites.getD (Int.toNat a2) default).Decl).Resources).length:Int)≤9223372036854775807)
 (gq (0≤((((a0.Sites.getD (Int.toNat a2) default).Decl).Stores).length:Int))
 (gq (((((a0.Sites.getD (Int.toNat a2) default).Decl).Stores).length:Int)*((8:Nat):Int)≤140737488355328)
 (gq (((((a0.Sites.getD (Int.toNat a2) default).Decl).Stores).length:Int)≤9223372036854775807)
 nx3)))))))))))))
def j8 [An A Bc](a0:Ad)(a1:List Bo)(a2:Int)(a3:Int):A:=Qg L a0 a1 a2 a3 (bd (Dn L a2 a3 a1 a0 L 0 [] [] (List.replicate (Int.toNat (((a0.Sites.getD (Int.toNat a2) default).Routines).length:Int)) 0) (List.replicate (Int.toNat ((((a0.Sites.getD (Int.toNat a2) default).Decl).Resources).length:Int)) 0) (List.replicate (Int.toNat ((((a0.Sites.getD (Int.toNat a2) default).Decl).Stores).length:Int)) 0)) fun o74=>P9 L a0 a3 a2 o74)
def Gp(a0:Ad)(a1:List Bo)(a2:Int)(a3:Int):Option Bc:=j8 L a0 a1 a2 a3
def X22:Qi:=E4 (fun(x:Bc)=> .agg (Xm x)) 22 H5 Bfa (cI .i64) (cI .i64) (Gp L) fun a0 a1 a2 a3 r h=>hF Tryz.func22 (C:=O22 L) (oS _) L (fun kk=>eE (Qg L a0 a1 a2 a3 (ho (Bf4 L (A6f L kk) a2 a3 a1 a0 L (0,[],[],(List.replicate (Int.toNat (((a0.Sites.getD (Int.toNat a2) default).Routines).length:Int)) 0),(List.replicate (Int.toNat ((((a0.Sites.getD (Int.toNat a2) default).Decl).Resources).length:Int)) 0),(List.replicate (Int.toNat ((((a0.Sites.getD (Int.toNat a2) default).Decl).Stores).length:Int)) 0))) fun o74=>Bld L kk a2 a3 a1 a0 o74))) h
end
end Go.Proofs.YthjhkpgonleelaaGreatDoor.Ev
