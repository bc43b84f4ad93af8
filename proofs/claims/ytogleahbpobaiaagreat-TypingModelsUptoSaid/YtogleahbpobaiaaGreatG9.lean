import Derived.Test.YtogleahbpobaiaaGreatG4
import Derived.Test.YtogleahbpobaiaaGreatG7
import Derived.Test.YtogleahbpobaiaaGreatG8
namespace Go.Proofs.YtogleahbpobaiaaGreat.Ev
open Go An
set_option maxRecDepth 100000
set_option maxHeartbeats 4000000
set_option linter.unusedVariables false
set_option linter.unusedSimpArgs false
set_option linter.unnecessarySimpa false
variable {A:Type} (L n:Nat) (kk:Ct) (K:Be) (k:Bx)
noncomputable def c58:EC:=CC Tryz.f58
def O58:Bk:=oL [Cbc L,Cbd L,B2m L,Bpg L,Cbe L,Cbf L,Bm7 L,B2n L]
def Ce1:Int→Prop:=fun x=>kk (I x)
def Bs8(a0:Aj)(a1:Ac)(p801_22:Bool):St:=⟨[(0,.ref (F5 a0)),(3,.loc 3 0),(4,I 0),(7,I a1.Op),(24,B p801_22)],[(3,C7 a1)],0⟩
def Bsi(e0:EC):Be:=(Ay 0 (Bl (EV (O58 L) L 9 e0) (C8 Tryz.prog (RS Tryz.f58) kk)))
def Lz [An A Int](a0:Aj)(a1:Ac)(p801_22:Bool):A:=
 (cn p801_22
 (bd (Bw L a0 (Ab.cp a1.E) [2]) fun r4=>
 (lf r4))
 (cn (a1.Op == 5)
 (bd (Bw L a0 (Ab.cp a1.E) [3]) fun r5=>
 (lf r5))
 (cn (a1.Op == 6)
 (bd (B6 L a0 (Ac.cp a1) (⟨#[114,101,115,111,117,114,99,101]⟩:ByteArray) [(Ab.cp a1.E),(Ab.cp a1.F)]) fun r6=>
 (lf r6))
 (cn (a1.Op == 7)
 (bd (B6 L a0 (Ac.cp a1) (⟨#[114,101,115,111,117,114,99,101]⟩:ByteArray) [(Ab.cp a1.E)]) fun r7=>
 (lf r7))
 (cn (a1.Op == 8)
 (bd (B6 L a0 (Ac.cp a1) (⟨#[115,116,111,114,101]⟩:ByteArray) [(Ab.cp a1.E)]) fun r8=>
 (lf r8))
 (cn (a1.Op == 9)
 (bd (F6 L a0 a1.Name (⟨#[115,116,111,114,101]⟩:ByteArray)) fun r9=>
 (bd (Hr L a0 a1.Of r9 [1]) fun r10=>
 (lf r10)))
 (cn (a1.Op == 10)
 (bd (B6 L a0 (Ac.cp a1) (⟨#[98,101,108,116]⟩:ByteArray) []) fun r11=>
 (lf r11))
 (cn (a1.Op == 11)
 (bd (B6 L a0 (Ac.cp a1) (⟨#[113,117,101,117,101]⟩:ByteArray) []) fun r12=>
 (lf r12))
 (cn (a1.Op == 12)
 (bd (B6 L a0 (Ac.cp a1) (⟨#[113,117,101,117,101]⟩:ByteArray) [(Ab.cp a1.E)]) fun r13=>
 (lf r13))
 (cn (a1.Op == 13)
 (bd (Oz L a0 (Ac.cp a1)) fun r14=>
 (lf r14))
 (cn (a1.Op == 14)
 (bd (Fv L a0.u_env.Site a1.Name) fun r15=>
 (cn (decide (r15 < 0))
 (lf 5)
 (gq (0≤r15)
 (gq (r15 < (a0.u_env.Site.Routines.length:Int))
 (bd (Hq L a0 (a0.u_env.Site.Routines.getD (Int.toNat r15) default) (Ac.cp a1)) fun r16=>
 (lf r16))))))
 (cn (a1.Op == 15)
 (bd (F6 L a0 a1.Name (⟨#[116,97,108,108,121]⟩:ByteArray)) fun r17=>
 (cn (!r17)
 (lf 5)
 (bd (Bw L a0 (Ab.cp a1.E) [1,3]) fun r18=>
 (lf r18))))
 (cn (a1.Op == 16)
 (bd (B6 L a0 (Ac.cp a1) (⟨#[108,101,118,101,108]⟩:ByteArray) [(Ab.cp a1.E)]) fun r19=>
 (lf r19))
 (cn (a1.Op == 17)
 (bd (B6 L a0 (Ac.cp a1) (⟨#[99,111,117,110,116]⟩:ByteArray) [(Ab.cp a1.E)]) fun r20=>
 (lf r20))
 (lf 0)))))))))))))))
theorem B31(a0:Aj)(a1:Ac)(p801_22:Bool):EV (O58 L) L 9 c58.u.l.u.l.x (Bs8 a0 a1 p801_22) (Bsi L kk c58.u.r)=ob (Lz L a0 a1 p801_22) (Ce1 kk):=eE (Lz L a0 a1 p801_22)
def sx_typing_routine_own_0 [An A Int](a0:Aj)(a1:Ac)(nx1:Aj→Ac→Bool→A):A:=
 (cn (a1.Op == 1)
 (bd (P9 L a0 (Ac.cp a1)) fun r1=>
 (lf r1))
 (cn (a1.Op == 2)
 (bd (F6 L a0 a1.Of (⟨#[115,116,114,101,97,109]⟩:ByteArray)) fun r2=>
 (bd (Hr L a0 a1.Name r2 [1,3]) fun r3=>
 (lf r3)))
 (cn (a1.Op == 3)
 (nx1 a0 a1 (a1.Op == 3))
 (nx1 a0 a1 (a1.Op == 4)))))
def Afp [An A Int](a0:Aj)(a1:Ac):A:=sx_typing_routine_own_0 L a0 a1 (fun a0 a1 p801_22=>Lz L a0 a1 p801_22)
theorem B4e(a0:Aj)(a1:Ac)(z1:EC):EW (O58 L) L 9 (RS Tryz.f58) (EC.put (rl [2,1,2,1,8]) z1 c58) [.ref (F5 a0),.agg (C7 a1)] kk= @sx_typing_routine_own_0 Prop L (anP (Ce1 kk)) a0 a1 (fun a0 a1 p801_22=>EV (O58 L) L 9 z1 (Bs8 a0 a1 p801_22) (Bsi L kk c58.u.r)):=by kernel_rfl
def K7(a0:Aj)(a1:Ac):Option Int:=Afp L a0 a1
def X58:Gk:=E2 I 58 Dv Hj (K7 L) fun a0 a1 r h=>hF Tryz.func58 (C:=O58 L) (oS _) L (fun kk=>Eq.trans (b:=EW (O58 L) L 9 (RS Tryz.f58) (EC.put (rl [2,1,2,1,8]) c58.u.l.u.l.x c58) [.ref (F5 a0),.agg (C7 a1)] kk) (by kernel_rfl) ((B4e L kk a0 a1 c58.u.l.u.l.x).trans (eE (sx_typing_routine_own_0 L a0 a1 (fun a0 a1 p801_22=>re (B31 L kk a0 a1 p801_22)))))) h
def Bve(F:Aj→(List Ac)→Option Int):Prop:=∀y0 y1 r,F y0 y1=some r→Ho Tryz.prog 29 [Dv.en y0,Acb.en y1] I r
noncomputable def c29:EC:=CC Tryz.f29
def O29(Ha:Aj→(List Ac)→Option Int)(L:Nat):Bk:=(orc 29 (A2 I Dv Acb Ha) (oL [X58 L]))
theorem s29(Ha:Aj→(List Ac)→Option Int)(B43:Bve Ha)(L:Nat):Ep Tryz.prog (O29 Ha L):=(Gx (a2 _ B43) (oS [X58 L]))
def Cj0(kk:Ct):Int→Prop:=fun x=>kk (I x)
def Btl(a0:Aj)(a1:List Ac)(v:Cw):St:=⟨[(0,.ref (F5 a0)),(1,.any),(4,I v.1),(10,.lst false (.t69 a1)),(11,I (a1.length:Int)),(12,I v.2)],[],0⟩
def Kx [An A Cx](Ha:Aj→(List Ac)→Option Int)(L:Nat)(a0:Aj)(a1:List Ac)(rec:Int→Int→A)(C2:Int)(Ib:Int):A:=
 (cn (decide (Ib < (a1.length:Int)))
 (gq (0≤Ib)
 (gq (Ib < (a1.length:Int))
 (bd (K7 L a0 (Ac.cp (a1.getD (Int.toNat Ib) default))) fun r1=>
 (cn (r1 != 0)
 (lf (0,r1,Ib))
 (bd (Ha a0 ((a1.getD (Int.toNat Ib) default).Body)) fun r2=>
 (cn (r2 != 0)
 (lf (0,r2,Ib))
 (bd (Ha a0 ((a1.getD (Int.toNat Ib) default).Else)) fun r3=>
 (cn (r3 != 0)
 (lf (0,r3,Ib))
 (rec C2 (Da (Ib+1)))))))))))
 (lf (1,C2,Ib)))
def Eg(Ha:Aj→(List Ac)→Option Int)(L:Nat)(a0:Aj)(a1:List Ac):Nat→Int→Int→Option Cx
 |0,_,_=>none
 |n+1,C2,Ib=>Kx Ha L a0 a1 (Eg Ha L a0 a1 n) C2 Ib
theorem B6j(Ha:Aj→(List Ac)→Option Int)(L:Nat)(K:Be)(a0:Aj)(a1:List Ac):LP (EV (O29 Ha L) L 9 c29.u.l.u.l.l) [0,1,4,10,11,12] [] (Btl a0 a1) [.ret,.exit 0] (fun n v=>Eg Ha L a0 a1 n v.1 v.2) K:=lE (fun _=>rfl) fun n v ih=>eE (Kx Ha L a0 a1 (fun C2 Ib=>re (ih (C2,Ib))) v.1 v.2)
def H1 [An A Int](Ha:Aj→(List Ac)→Option Int)(L:Nat)(o4:Nat×Cw):A:=
 (sl o4.1 [(lf o4.2.1),
 (lf 0)])
def Brg(Ha:Aj→(List Ac)→Option Int)(L:Nat)(kk:Ct):Be:=(Ay 0 (Bl (EV (O29 Ha L) L 9 c29.u.r) (C8 Tryz.prog (RS Tryz.f29) kk)))
theorem Cgu(Ha:Aj→(List Ac)→Option Int)(L:Nat)(kk:Ct)(a0:Aj)(a1:List Ac)(o4:Nat×Cw):kX [.ret,.exit 0] (Btl a0 a1) (Brg Ha L kk) o4=ob (H1 Ha L o4) (Cj0 kk):=eE (H1 Ha L o4)
def K6 [An A Int](Ha:Aj→(List Ac)→Option Int)(L:Nat)(a0:Aj)(a1:List Ac)(nx1:A):A:=
 nx1
def Acg [An A Int](Ha:Aj→(List Ac)→Option Int)(L:Nat)(a0:Aj)(a1:List Ac):A:=K6 Ha L a0 a1 (bd (Eg Ha L a0 a1 L 0 0) fun o4=>H1 Ha L o4)
def Uj(Ha:Aj→(List Ac)→Option Int)(L:Nat)(a0:Aj)(a1:List Ac):Option Int:=Acg Ha L a0 a1
theorem b29(Ha:Aj→(List Ac)→Option Int)(B43:Bve Ha)(L:Nat):Bve (Uj Ha L):=fun a0 a1 r h=>hF Tryz.func29 (s29 Ha B43 L) L (fun kk=>eE (K6 Ha L a0 a1 (ho (B6j Ha L (Brg Ha L kk) a0 a1 L (0,0)) fun o4=>Cgu Ha L kk a0 a1 o4))) h
def Dz:Nat→Aj→(List Ac)→Option Int
 |0,_,_=>none
 |L+1,a0,a1=>Uj (Dz L) L a0 a1
theorem B4p(L:Nat):Bve (Dz L):=by
 induction L with
 |zero=>exact fun _ _ _ h=>(by cases h)
 |succ L ih=>
  have i29:=ih
  exact b29 (Dz L) i29 L
def X29(L:Nat):Gk:=E2 I 29 Dv Acb (Dz L) (B4p L)
def Aia [An A Int](a0:Ad)(a1:Int)(a2:List Ao)(a3:List Ac):A:=
 (bd (s7 L a3) fun r1=>
 (cn (r1 != 0)
 (lf r1)
 (jp (.cn (decide (a1 < 0))
 (.lf true)
 (.lf (decide (a1≥(a0.Sites.length:Int))))) (fun b2=>
 (cn b2
 (lf 2)
 (gq (0≤a1)
 (gq (a1 < (a0.Sites.length:Int))
 (bd (Dz L (⟨a0,a1,(⟨a0.Params,a2,(a0.Sites.getD (Int.toNat a1) default)⟩:Aq)⟩:Aj) a3) fun r3=>
 (lf r3)))))))))
def Rv(a0:Ad)(a1:Int)(a2:List Ao)(a3:List Ac):Option Int:=Aia L a0 a1 a2 a3
def X15:Gk:=E4 I 15 D1 (cI .i64) Bpx Acb (Rv L) fun a0 a1 a2 a3 r h=>hF Tryz.func15 (oS [X28 L,X29 L]) L (fun kk=>eE (Aia L a0 a1 a2 a3)) h
noncomputable def c12:EC:=CC Tryz.f12
def O12:Bk:=oL [X15 L,X24 L]
def Cjs:Int→Prop:=fun x=>kk (I x)
def Btb(Ah:Int)(a0:Ad)(v:Cw):St:=⟨[(0,.any),(1,.loc 1 0),(2,I v.1),(3,.any),(4,I Ah),(5,.loc 5 0),(16,.lst false (.t32 a0.Sites)),(17,I (a0.Sites.length:Int)),(18,I Ah),(24,.lst false (.t60 ((a0.Sites.getD (Int.toNat Ah) default).Routines))),(25,I (((a0.Sites.getD (Int.toNat Ah) default).Routines).length:Int)),(26,I v.2)],[(1,Az a0),(5,(Ae (a0.Sites.getD (Int.toNat Ah) default)))],0⟩
def Ut [An A Cx](Ah:Int)(a0:Ad)(rec:Int→Int→A)(B5:Int)(Aoi:Int):A:=
 (cn (decide (Aoi < (((a0.Sites.getD (Int.toNat Ah) default).Routines).length:Int)))
 (gq (0≤Aoi)
 (gq (Aoi < ((((a0.Sites.getD (Int.toNat Ah) default).Routines).length:Nat):Int))
 (gq ((0+((((a0.Sites.getD (Int.toNat Ah) default).Routines).getD (Int.toNat Aoi) default).Params).length)*24≤140737488355328)
 (gq (0+((((a0.Sites.getD (Int.toNat Ah) default).Routines).getD (Int.toNat Aoi) default).Params).length≤maxLen)
 (gq ((((((a0.Sites.getD (Int.toNat Ah) default).Routines).getD (Int.toNat Aoi) default).Params).length+((((a0.Sites.getD (Int.toNat Ah) default).Routines).getD (Int.toNat Aoi) default).Locals).length)*24≤140737488355328)
 (gq (((((a0.Sites.getD (Int.toNat Ah) default).Routines).getD (Int.toNat Aoi) default).Params).length+((((a0.Sites.getD (Int.toNat Ah) default).Routines).getD (Int.toNat Aoi) default).Locals).length≤maxLen)
 (bd (Rv L a0 Ah ((((a0.Sites.getD (Int.toNat Ah) default).Routines).getD (Int.toNat Aoi) default).Params++(((a0.Sites.getD (Int.toNat Ah) default).Routines).getD (Int.toNat Aoi) default).Locals) ((((a0.Sites.getD (Int.toNat Ah) default).Routines).getD (Int.toNat Aoi) default).Body)) fun r2=>
 (cn (r2 != 0)
 (lf (0,r2,Aoi))
 (rec B5 (Da (Aoi+1)))))))))))
 (lf (1,B5,Aoi)))
def Hn(L:Nat)(Ah:Int)(a0:Ad):Nat→Int→Int→Option Cx
 |0,_,_=>none
 |n+1,B5,Aoi=>Ut L Ah a0 (Hn L Ah a0 n) B5 Aoi
theorem B56(Ah:Int)(a0:Ad):LP (EV (O12 L) L 9 c12.w.l.u.l.l.w.l.l.w.l.l) [0,1,2,3,4,5,16,17,18,24,25,26] [1,5] (Btb Ah a0) [.ret,.exit 2] (fun n v=>Hn L Ah a0 n v.1 v.2) K:=lE (fun _=>rfl) fun n v ih=>eE (Ut L Ah a0 (fun B5 Aoi=>re (ih (B5,Aoi))) v.1 v.2)
def Bhg(a0:Ad)(v:Cw):St:=⟨[(0,.any),(1,.loc 1 0),(2,I v.1),(3,.any),(16,.lst false (.t32 a0.Sites)),(17,I (a0.Sites.length:Int)),(18,I v.2)],[(1,Az a0)],0⟩
def Qo [An A Cx](L:Nat)(Ah:Int)(rec:Int→Int→A)(o3:Nat×Cw):A:=
 (sl o3.1 [(lf (0,o3.2.1,Ah)),
 (rec o3.2.1 (Da (Ah+1)))])
def U5 [An A Cx](L:Nat)(a0:Ad)(rec:Int→Int→A)(Ak:Int)(Ah:Int)(nx1:Int→Int→A):A:=
 (cn (decide (Ah < (a0.Sites.length:Int)))
 (gq (0≤Ah)
 (gq (Ah < (a0.Sites.length:Int))
 (nx1 Ah Ak)))
 (lf (1,Ak,Ah)))
def Aap [An A Cx](a0:Ad)(rec:Int→Int→A)(Ak:Int)(Ah:Int):A:=U5 L a0 rec Ak Ah (fun Ah Ak=>bd (Hn L Ah a0 L Ak 0) fun o3=>Qo L Ah rec o3)
def Hm(L:Nat)(a0:Ad):Nat→Int→Int→Option Cx
 |0,_,_=>none
 |n+1,Ak,Ah=>Aap L a0 (Hm L a0 n) Ak Ah
def Box(a0:Ad):Prop:=LI (EV (O12 L) L 9 c12.w.l.u.l.l) [0,1,2,3,16,17,18] [1] (Bhg a0) [.ret,.exit 0] (fun n v=>Hm L a0 n v.1 v.2) K n
def Bq0:Be:=(Ay 2 (Ay 1 (Bl (EV (O12 L) L 9 c12.w.l.u.l.l.w.r) (I7 (Ly (EV (O12 L) L 9 c12.w.l.u.l.l) [0,1,2,3,16,17,18] [1] n) [0,1,2,3,16,17,18] [1] K))))
theorem Cge(Ah:Int)(a0:Ad)(ih:Box L n K a0)(o3:Nat×Cw):kX [.ret,.exit 2] (Btb Ah a0) (Bq0 L n K) o3=ob (Qo L Ah (Hm L a0 n) o3) (kX [.ret,.exit 0] (Bhg a0) K):=eE (Qo L Ah (fun Ak Ah=>re (ih (Ak,Ah))) o3)
theorem B55(a0:Ad):∀n,Box L n K a0:=lE (fun _=>rfl) fun n v ih=>eE (U5 L a0 (fun Ak Ah=>re (ih (Ak,Ah))) v.1 v.2 (fun Ah Ak=>ho (B56 L (Bq0 L n K) Ah a0 L (Ak,0)) fun o3=>Cge L n K Ah a0 ih o3))
def Qp [An A Int](L:Nat)(o4:Nat×Cw):A:=
 (sl o4.1 [(lf o4.2.1),
 (lf 0)])
def Bq1:Be:=(Ay 0 (Bl (EV (O12 L) L 9 c12.w.r) (C8 Tryz.prog (RS Tryz.f12) kk)))
theorem Cgf(a0:Ad)(o4:Nat×Cw):kX [.ret,.exit 0] (Bhg a0) (Bq1 L kk) o4=ob (Qp L o4) (Cjs kk):=eE (Qp L o4)
def U6 [An A Int](a0:Ad)(nx2:A):A:=
 (bd (Ael L a0) fun r1=>
 (cn (r1 != 0)
 (lf r1)
 nx2))
def Ap1 [An A Int](a0:Ad):A:=U6 L a0 (bd (Hm L a0 L 0 0) fun o4=>Qp L o4)
def s9(a0:Ad):Option Int:=Ap1 L a0
def X12:Gk:=E1 I 12 D1 (s9 L) fun a0 r h=>hF Tryz.func12 (C:=O12 L) (oS _) L (fun kk=>eE (U6 L a0 (ho (B55 L (Bq1 L kk) a0 L (0,0)) fun o4=>Cgf L kk a0 o4))) h
end Go.Proofs.YtogleahbpobaiaaGreat.Ev
