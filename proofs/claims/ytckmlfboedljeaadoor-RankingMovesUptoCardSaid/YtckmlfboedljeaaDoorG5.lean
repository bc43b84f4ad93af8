import Derived.Test.YtckmlfboedljeaaDoorG3
namespace Go.Proofs.YtckmlfboedljeaaDoor.Ev
open Go An
set_option maxRecDepth 100000
set_option maxHeartbeats 4000000
set_option linter.unusedVariables false
set_option linter.unusedSimpArgs false
set_option linter.unnecessarySimpa false
noncomputable section
variable {A:Type} (L n:Nat) (kk:R5) (K:Bu) (k:Tv)
def c46:=CC Tryd.f46
def O46:Aq:=oL [X47 L,X75 L]
def A1g:Ad→Prop:=fun x=>kk ((fun(x:Ad)=> .agg (Cr x)) x)
def Aql(a1:Int)(a0:Ad)(v:Int×Int×Int):St:=⟨[(0,.any),(1,V .u64 a1),(2,.loc 2 0),(4,.loc 4 0),(5,.loc 5 0),(6,I v.1)],[(2,(Cr a0)),(4,[V .u64 0,V .u64 0]),(5,[V .u64 v.2.1,V .u64 v.2.2])],0⟩
def Me [An A (Nat×Int×Int×Int)](a1:Int)(a0:Ad)(rec:Int→Int→Int→A)(Ax:Int)(Ao:Int)(Au:Int):A:=
 (cn (decide (Ax≥0))
 (bd (Eu L (⟨Ao,Au⟩:Ad) (⟨Ao,Au⟩:Ad)) fun r1=>
 (bd (P7 L (⟨0,a1⟩:Ad) Ax) fun r2=>
 (cn (r2 == 1)
 (bd (Eu L r1 a0) fun r3=>
 (rec (B1 (Ax - 1)) r3.Hi r3.Lo))
 (rec (B1 (Ax - 1)) r1.Hi r1.Lo))))
 (lf (0,Ax,Ao,Au)))
def Ey(L:Nat)(a1:Int)(a0:Ad):Nat→Int→Int→Int→Option (Nat×Int×Int×Int)
 |0,_,_,_=>none
 |n+1,Ax,Ao,Au=>Me L a1 a0 (Ey L a1 a0 n) Ax Ao Au
theorem Av5(a1:Int)(a0:Ad):LP (EV (O46 L) L 9 c46.w.l.u.l.l) [0,1,2,4,5,6] [2,4,5] (Aql a1 a0) [.exit 0] (fun n v=>Ey L a1 a0 n v.1 v.2.1 v.2.2) K:=lE (fun _=>rfl) fun n v ih=>eE (Me L a1 a0 (fun Ax Ao Au=>re (ih (Ax,Ao,Au))) v.1 v.2.1 v.2.2)
def J6 [An A Ad](L:Nat)(o4:Nat×Int×Int×Int):A:=
 (sl o4.1 [(lf (⟨o4.2.2.1,o4.2.2.2⟩:Ad))])
def Aog:Bu:=(Bi 0 (Ek (EV (O46 L) L 9 c46.w.r) (Gv Tryd.prog (RS Tryd.f46) kk)))
theorem Ay0(a1:Int)(a0:Ad)(o4:Nat×Int×Int×Int):kX [.exit 0] (Aql a1 a0) (Aog L kk) o4=ob (J6 L o4) (A1g kk):=eE (J6 L o4)
def Zr [An A Ad](a0:Ad)(a1:Int):A:=(bd (Ey L a1 a0 L 63 0 0) fun o4=>J6 L o4)
def Lq(a0:Ad)(a1:Int):Option Ad:=Zr L a0 a1
def X46:Hy:=E2 (fun(x:Ad)=> .agg (Cr x)) 46 Cz (cI .u64) (Lq L) fun a0 a1 r h=>hF Tryd.func46 (C:=O46 L) (oS _) L (fun kk=>eE ((ho (Av5 L (Aog L kk) a1 a0 L (63,0,0)) fun o4=>Ay0 L kk a1 a0 o4))) h
def T4 [An A Ad](a0:Int)(a1:Int):A:=
 (bd (Lq L (⟨0,a0⟩:Ad) a1) fun r1=>
 (lf r1))
def C6(a0:Int)(a1:Int):Option Ad:=T4 L a0 a1
def X44:Hy:=E2 (fun(x:Ad)=> .agg (Cr x)) 44 (cI .u64) (cI .u64) (C6 L) fun a0 a1 r h=>hF Tryd.func44 (oS [X46 L]) L (fun kk=>eE (T4 L a0 a1)) h
def Rp [An A Bv](a0:Int)(a1:Int):A:=
 (bd (Cq L a0) fun r1=>
 (bd (Cq L a1) fun r2=>
 (bd (C6 L r1 r2) fun r3=>
 (lf (⟨(!((decide (a0 < 0)) == (decide (a1 < 0)))),r3⟩:Bv)))))
def De(a0:Int)(a1:Int):Option Bv:=Rp L a0 a1
def X54:Hy:=E2 (fun(x:Bv)=> .agg (S9 x)) 54 (cI .i64) (cI .i64) (De L) fun a0 a1 r h=>hF Tryd.func54 (oS [X44 L,X62 L]) L (fun kk=>eE (Rp L a0 a1)) h
def Vy [An A Bv](a0:Bv)(a1:Bv):A:=
 (cn (a0.Minus == a1.Minus)
 (bd (Eu L a0.Abs a1.Abs) fun r1=>
 (lf (⟨a0.Minus,r1⟩:Bv)))
 (bd (Jr L a0.Abs a1.Abs) fun r2=>
 (cn r2
 (bd (Jt L a1.Abs a0.Abs) fun r3=>
 (lf (⟨a1.Minus,r3⟩:Bv)))
 (bd (Jt L a0.Abs a1.Abs) fun r4=>
 (lf (⟨a0.Minus,r4⟩:Bv))))))
def Mz(a0:Bv)(a1:Bv):Option Bv:=Vy L a0 a1
def X53:Hy:=E2 (fun(x:Bv)=> .agg (S9 x)) 53 Rt Rt (Mz L) fun a0 a1 r h=>hF Tryd.func53 (oS [X47 L,X76 L,X77 L]) L (fun kk=>eE (Vy L a0 a1)) h
def V0 [An A Ed](a0:Bv)(a1:Ad):A:=
 (bd (J8 L a0.Abs a1) fun r1=>
 (bd (Gi L a0.Abs r1) fun r2=>
 (bd (Gi L a1 r1) fun r3=>
 (jp (.cn (r2.1.Hi != 0)
 (.lf true)
 (.lf (decide (r2.1.Lo > 4611686018427387904)))) (fun b4=>
 (jp (.cn b4
 (.lf true)
 (.lf (r3.1.Hi != 0))) (fun b5=>
 (jp (.cn b5
 (.lf true)
 (.lf (decide (r3.1.Lo > 1000000000000000)))) (fun b6=>
 (cn b6
 (lf ((⟨0,0⟩:Aa),false))
 (cn a0.Minus
 (lf ((⟨(B1 (0 - (B1 (r2.1.Lo)))),(B1 (r3.1.Lo))⟩:Aa),true))
 (lf ((⟨(B1 (r2.1.Lo)),(B1 (r3.1.Lo))⟩:Aa),true)))))))))))))
def Js(a0:Bv)(a1:Ad):Option Ed:=V0 L a0 a1
def X78:Hy:=E2 (fun(x:Ed)=> .tup [.agg (Al x.1),B x.2]) 78 Rt Cz (Js L) fun a0 a1 r h=>hF Tryd.func78 (oS [X45 L,X61 L]) L (fun kk=>eE (V0 L a0 a1)) h
def Yl [An A Ed](a0:Aa)(a1:Aa):A:=
 (bd (Cx L a0) fun r1=>
 (jb (.cn (!r1)
 (.lf true)
 (.bd (Cx L a1) fun r3=>
 (.lf (!r3)))) (fun b2=>
 (cn b2
 (lf ((⟨0,0⟩:Aa),false))
 (bd (De L a0.N a1.D) fun r4=>
 (bd (De L a1.N a0.D) fun r5=>
 (bd (Mz L r4 r5) fun r6=>
 (bd (Cq L a0.D) fun r7=>
 (bd (Cq L a1.D) fun r8=>
 (bd (C6 L r7 r8) fun r9=>
 (bd (Js L r6 r9) fun r10=>
 (lf (r10.1,r10.2)))))))))))))
def Lp(a0:Aa)(a1:Aa):Option Ed:=Yl L a0 a1
def X51:Hy:=E2 (fun(x:Ed)=> .tup [.agg (Al x.1),B x.2]) 51 Av Av (Lp L) fun a0 a1 r h=>hF Tryd.func51 (oS [X31 L,X44 L,X53 L,X54 L,X62 L,X78 L]) L (fun kk=>eE (Yl L a0 a1)) h
def c56:=CC Tryd.f56
def O56:Aq:=oL [X51 L]
def A1i:Ed→Prop:=fun x=>kk ((fun(x:Ed)=> .tup [.agg (Al x.1),B x.2]) x)
def Aqn(a0:List Aa)(v:Bool×Bool×Int×Int×Int×Int×Int):St:=⟨[(0,lv (.t24 a0)),(2,.loc 2 0),(3,B v.1),(4,.loc 4 0),(5,B v.2.1),(6,I v.2.2.1)],[(2,[I v.2.2.2.1,I v.2.2.2.2.1]),(4,[I v.2.2.2.2.2.1,I v.2.2.2.2.2.2])],0⟩
def Px [An A (Nat×Bool×Bool×Int×Int×Int×Int×Int)](a0:List Aa)(rec:Bool→Bool→Int→Int→Int→Int→Int→A)(Ax:Bool)(Ae:Bool)(Af:Int)(Ai:Int)(Ar:Int)(Ao:Int)(Au:Int):A:=
 (lw Af a0
 (bd (Lp L (⟨Ao,Au⟩:Aa) (a0.getD (Int.toNat Af) default)) fun r1=>
 (cn (!r1.2)
 (lf (0,false,r1.2,Af,0,0,r1.1.N,r1.1.D))
 (rec Ax r1.2 (B1 (Af+1)) Ai Ar r1.1.N r1.1.D)))
 (lf (1,Ax,Ae,Af,Ai,Ar,Ao,Au)))
def Ia(L:Nat)(a0:List Aa):Nat→Bool→Bool→Int→Int→Int→Int→Int→Option (Nat×Bool×Bool×Int×Int×Int×Int×Int)
 |0,_,_,_,_,_,_,_=>none
 |n+1,Ax,Ae,Af,Ai,Ar,Ao,Au=>Px L a0 (Ia L a0 n) Ax Ae Af Ai Ar Ao Au
theorem Av7(a0:List Aa):LP (EV (O56 L) L 9 c56.w.l.u.l.l) [0,2,3,4,5,6] [2,4] (Aqn a0) [.ret,.exit 0] (fun n v=>Ia L a0 n v.1 v.2.1 v.2.2.1 v.2.2.2.1 v.2.2.2.2.1 v.2.2.2.2.2.1 v.2.2.2.2.2.2) K:=lE (fun _=>rfl) fun n v ih=>eE (Px L a0 (fun Ax Ae Af Ai Ar Ao Au=>re (ih (Ax,Ae,Af,Ai,Ar,Ao,Au))) v.1 v.2.1 v.2.2.1 v.2.2.2.1 v.2.2.2.2.1 v.2.2.2.2.2.1 v.2.2.2.2.2.2)
def Mn [An A Ed](L:Nat)(o2:Nat×Bool×Bool×Int×Int×Int×Int×Int):A:=
 (sl o2.1 [(lf ((⟨o2.2.2.2.2.1,o2.2.2.2.2.2.1⟩:Aa),o2.2.1)),
 (lf ((⟨o2.2.2.2.2.2.2.1,o2.2.2.2.2.2.2.2⟩:Aa),true))])
def Aoi:Bu:=(Bi 0 (Ek (EV (O56 L) L 9 c56.w.r) (Gv Tryd.prog (RS Tryd.f56) kk)))
theorem Ay2(a0:List Aa)(o2:Nat×Bool×Bool×Int×Int×Int×Int×Int):kX [.ret,.exit 0] (Aqn a0) (Aoi L kk) o2=ob (Mn L o2) (A1i kk):=eE (Mn L o2)
def Aas [An A Ed](a0:List Aa):A:=(bd (Ia L a0 L false true 0 0 0 0 1) fun o2=>Mn L o2)
def M5(a0:List Aa):Option Ed:=Aas L a0
def X56:Hy:=E1 (fun(x:Ed)=> .tup [.agg (Al x.1),B x.2]) 56 S3 (M5 L) fun a0 r h=>hF Tryd.func56 (C:=O56 L) (oS _) L (fun kk=>eE ((ho (Av7 L (Aoi L kk) a0 L (false,true,0,0,0,0,1)) fun o2=>Ay2 L kk a0 o2))) h
def l6 [An A Ed](a0:Int)(a1:Int):A:=
 (cn (a1 == 0)
 (lf ((⟨0,0⟩:Aa),false))
 (bd (Cq L a0) fun r1=>
 (bd (Cq L a1) fun r2=>
 (bd (Js L (⟨(!((decide (a0 < 0)) == (decide (a1 < 0)))),(⟨0,r1⟩:Ad)⟩:Bv) (⟨0,r2⟩:Ad)) fun r3=>
 (lf (r3.1,r3.2))))))
def Qb(a0:Int)(a1:Int):Option Ed:=l6 L a0 a1
def X49:Hy:=E2 (fun(x:Ed)=> .tup [.agg (Al x.1),B x.2]) 49 (cI .i64) (cI .i64) (Qb L) fun a0 a1 r h=>hF Tryd.func49 (oS [X62 L,X78 L]) L (fun kk=>eE (l6 L a0 a1)) h
def Yn [An A Ed](a0:Aa)(a1:Aa):A:=
 (bd (Cx L a0) fun r1=>
 (jb (.cn (!r1)
 (.lf true)
 (.bd (Cx L a1) fun r3=>
 (.lf (!r3)))) (fun b2=>
 (jp (.cn b2
 (.lf true)
 (.lf (a1.N == 0))) (fun b4=>
 (cn b4
 (lf ((⟨0,0⟩:Aa),false))
 (bd (De L a0.N a1.D) fun r5=>
 (bd (Cq L a0.D) fun r6=>
 (bd (Cq L a1.N) fun r7=>
 (bd (C6 L r6 r7) fun r8=>
 (bd (Js L (⟨(!((decide (a0.N < 0)) == (decide (a1.N < 0)))),r5.Abs⟩:Bv) r8) fun r9=>
 (lf (r9.1,r9.2)))))))))))))
def M3(a0:Aa)(a1:Aa):Option Ed:=Yn L a0 a1
def X57:Hy:=E2 (fun(x:Ed)=> .tup [.agg (Al x.1),B x.2]) 57 Av Av (M3 L) fun a0 a1 r h=>hF Tryd.func57 (oS [X31 L,X44 L,X54 L,X62 L,X78 L]) L (fun kk=>eE (Yn L a0 a1)) h
def V5 [An A Ed](a0:Ab):A:=
 (bd (M5 L a0.Seen) fun r1=>
 (bd (Qb L (a0.Seen.length:Int) 1) fun r2=>
 (bd (M3 L r1.1 r2.1) fun r3=>
 (jp (.cn r1.2
 (.lf r2.2)
 (.lf false)) (fun b4=>
 (jp (.cn b4
 (.lf r3.2)
 (.lf false)) (fun b5=>
 (lf (r3.1,b5)))))))))
def Ew(a0:Ab):Option Ed:=V5 L a0
def X23:Hy:=E1 (fun(x:Ed)=> .tup [.agg (Al x.1),B x.2]) 23 Zv (Ew L) fun a0 r h=>hF Tryd.func23 (oS [X49 L,X56 L,X57 L]) L (fun kk=>eE (V5 L a0)) h
def T6 [An A Aa](a0:Aa):A:=
 (bd (Cx L a0) fun r1=>
 (cn r1
 (lf a0)
 (lf (⟨0,1⟩:Aa))))
def Lr(a0:Aa):Option Aa:=T6 L a0
def X52:Hy:=E1 (fun(x:Aa)=> .agg (Al x)) 52 Av (Lr L) fun a0 r h=>hF Tryd.func52 (oS [X31 L]) L (fun kk=>eE (T6 L a0)) h
def Ym [An A Int](a0:Aa)(a1:Aa):A:=
 (bd (Lr L a0) fun r1=>
 (bd (Lr L a1) fun r2=>
 (bd (De L r1.N r2.D) fun r3=>
 (bd (De L (B1 (0 - r2.N)) r1.D) fun r4=>
 (bd (Mz L r3 r4) fun r5=>
 (cn ((r5.Abs.Hi == 0) && ((r5.Abs.Lo == 0) && true))
 (lf 0)
 (cn r5.Minus
 (lf (-1))
 (lf 1))))))))
def Ge(a0:Aa)(a1:Aa):Option Int:=Ym L a0 a1
def X21:Hy:=E2 I 21 Av Av (Ge L) fun a0 a1 r h=>hF Tryd.func21 (oS [X52 L,X53 L,X54 L]) L (fun kk=>eE (Ym L a0 a1)) h
def c12:=CC Tryd.f12
def O12:Aq:=oL [X21 L,X23 L]
def A1b:So→Prop:=fun x=>kk ((fun(x:So)=> .tup [I x.1,B x.2]) x)
def Ap9(a0:List Ab)(v:Int×Int×Int×Int):St:=⟨[(0,lv (.t39 a0)),(2,I 0),(3,B false),(4,I v.1),(5,.loc 5 0),(6,I v.2.1)],[(5,[I v.2.2.1,I v.2.2.2])],0⟩
def Og [An A (Nat×Int×Int×Int×Int)](a0:List Ab)(rec:Int→Int→Int→Int→A)(Af:Int)(Ai:Int)(Ar:Int)(Ao:Int):A:=
 (lw Ai a0
 (bd (Ew L (a0.getD (Int.toNat Ai) default)) fun r1=>
 (gi Ai a0
 (jp (.cn ((a0.getD (Int.toNat Ai) default).Out == 0)
 (.lf r1.2)
 (.lf false)) (fun b2=>
 (jb (.cn b2
 (.cn (decide (Af < 0))
 (.lf true)
 (.bd (Ge L r1.1 (⟨Ar,Ao⟩:Aa)) fun r4=>
 (.lf (decide (r4 < 0)))))
 (.lf false)) (fun b3=>
 (cn b3
 (rec Ai (B1 (Ai+1)) r1.1.N r1.1.D)
 (rec Af (B1 (Ai+1)) Ar Ao))))))))
 (lf (0,Af,Ai,Ar,Ao)))
def Gx(L:Nat)(a0:List Ab):Nat→Int→Int→Int→Int→Option (Nat×Int×Int×Int×Int)
 |0,_,_,_,_=>none
 |n+1,Af,Ai,Ar,Ao=>Og L a0 (Gx L a0 n) Af Ai Ar Ao
theorem Avq(a0:List Ab):LP (EV (O12 L) L 9 c12.w.u.l.u.l.l) [0,2,3,4,5,6] [5] (Ap9 a0) [.exit 0] (fun n v=>Gx L a0 n v.1 v.2.1 v.2.2.1 v.2.2.2) K:=lE (fun _=>rfl) fun n v ih=>eE (Og L a0 (fun Af Ai Ar Ao=>re (ih (Af,Ai,Ar,Ao))) v.1 v.2.1 v.2.2.1 v.2.2.2)
def Ky [An A So](L:Nat)(a0:List Ab)(o5:Nat×Int×Int×Int×Int):A:=
 (sl o5.1 [(cn (decide (o5.2.1 < 0))
 (lf (0,false))
 (gi o5.2.1 a0
 (lf ((a0.getD (Int.toNat o5.2.1) default).Point,true))))])
def Anz:Bu:=(Bi 0 (Ek (EV (O12 L) L 9 c12.w.u.r) (Gv Tryd.prog (RS Tryd.f12) kk)))
theorem Ayj(a0:List Ab)(o5:Nat×Int×Int×Int×Int):kX [.exit 0] (Ap9 a0) (Anz L kk) o5=ob (Ky L a0 o5) (A1b kk):=eE (Ky L a0 o5)
def l9 [An A So](a0:List Ab):A:=(bd (Gx L a0 L (-1) 0 0 0) fun o5=>Ky L a0 o5)
def Sq(a0:List Ab):Option So:=l9 L a0
def X12:Hy:=E1 (fun(x:So)=> .tup [I x.1,B x.2]) 12 Acn (Sq L) fun a0 r h=>hF Tryd.func12 (C:=O12 L) (oS _) L (fun kk=>eE ((ho (Avq L (Anz L kk) a0 L ((-1),0,0,0)) fun o5=>Ayj L kk a0 o5))) h
end
end Go.Proofs.YtckmlfboedljeaaDoor.Ev
