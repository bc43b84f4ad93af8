import Derived.Test.YtckmlfboedljeaaDoorG3
import Derived.Test.YtckmlfboedljeaaDoorG5
namespace Go.Proofs.YtckmlfboedljeaaDoor.Ev
open Go An
set_option maxRecDepth 100000
set_option maxHeartbeats 4000000
set_option linter.unusedVariables false
set_option linter.unusedSimpArgs false
set_option linter.unnecessarySimpa false
noncomputable section
variable {A:Type} (L n:Nat) (kk:R5) (K:Bu) (k:Tv)
def V4 [An A Ed](a0:List Aa):A:=
 (bd (M5 L a0) fun r1=>
 (jp (.cn (!r1.2)
 (.lf true)
 (.lf ((a0.length:Int) == 0))) (fun b2=>
 (cn b2
 (lf ((⟨0,0⟩:Aa),false))
 (bd (M3 L r1.1 (⟨(a0.length:Int),1⟩:Aa)) fun r3=>
 (lf (r3.1,r3.2)))))))
def Qc(a0:List Aa):Option Ed:=V4 L a0
def X72:Hy:=E1 (fun(x:Ed)=> .tup [.agg (Al x.1),B x.2]) 72 S3 (Qc L) fun a0 r h=>hF Tryd.func72 (oS [X56 L,X57 L]) L (fun kk=>eE (V4 L a0)) h
def V3 [An A Ed](a0:List Aa):A:=
 (cn (decide ((a0.length:Int) > 50))
 (lf ((⟨0,0⟩:Aa),false))
 (bd (Qc L a0) fun r1=>
 (lf (r1.1,r1.2))))
def Sp(a0:List Aa):Option Ed:=V3 L a0
def X41:Hy:=E1 (fun(x:Ed)=> .tup [.agg (Al x.1),B x.2]) 41 S3 (Sp L) fun a0 r h=>hF Tryd.func41 (oS [X72 L]) L (fun kk=>eE (V3 L a0)) h
def Qg [An A Aa](L:Nat)(a0:Aa):A:=
 (lf (⟨(B1 (0 - a0.N)),a0.D⟩:Aa))
def Ju(a0:Aa):Option Aa:=Qg L a0
def X79:Hy:=E1 (fun(x:Aa)=> .agg (Al x)) 79 Av (Ju L) fun a0 r h=>hF Tryd.func79 (oS []) L (fun kk=>eE (Qg L a0)) h
def Yq [An A Ed](a0:Aa)(a1:Aa):A:=
 (bd (Cx L a1) fun r1=>
 (cn (!r1)
 (lf ((⟨0,0⟩:Aa),false))
 (bd (Ju L a1) fun r2=>
 (bd (Lp L a0 r2) fun r3=>
 (lf (r3.1,r3.2))))))
def M4(a0:Aa)(a1:Aa):Option Ed:=Yq L a0 a1
def X50:Hy:=E2 (fun(x:Ed)=> .tup [.agg (Al x.1),B x.2]) 50 Av Av (M4 L) fun a0 a1 r h=>hF Tryd.func50 (oS [X31 L,X51 L,X79 L]) L (fun kk=>eE (Yq L a0 a1)) h
def c73:=CC Tryd.f73
def O73:Aq:=oL [X50 L,X72 L]
def A1m:((List Aa)×Bool)→Prop:=fun x=>kk ((fun(x:(List Aa)×Bool)=> .tup [lv (.t24 x.1),B x.2]) x)
def Aqv(a0:List Aa)(r1:Ed)(v:Tu9):St:=⟨[(0,lv (.t24 a0)),(2,.lst true (.t24 v.1)),(3,B v.2.1),(4,.loc 4 0),(5,.any),(6,.lst true (.t24 v.2.2.1)),(7,I v.2.2.2)],[(4,(Al r1.1))],0⟩
def Hf [An A (Nat×Tu9)](a0:List Aa)(r1:Ed)(rec:List Aa→Bool→List Aa→Int→A)(Ax:List Aa)(Ae:Bool)(Af:List Aa)(Ai:Int):A:=
 (lw Ai a0
 (bd (M4 L (a0.getD (Int.toNat Ai) default) r1.1) fun r2=>
 (cn (!r2.2)
 (lf (0,[],false,Af,Ai))
 (gq ((Af.length+ [r2.1].length)*16≤140737488355328)
 (gq (Af.length+ [r2.1].length≤maxLen)
 (rec Ax Ae (Af++ [r2.1]) (B1 (Ai+1)))))))
 (lf (1,Ax,Ae,Af,Ai)))
def Cs(L:Nat)(a0:List Aa)(r1:Ed):Nat→List Aa→Bool→List Aa→Int→Option (Nat×Tu9)
 |0,_,_,_,_=>none
 |n+1,Ax,Ae,Af,Ai=>Hf L a0 r1 (Cs L a0 r1 n) Ax Ae Af Ai
theorem Awd(a0:List Aa)(r1:Ed):LP (EV (O73 L) L 9 c73.x.l.u.l.l) [0,2,3,4,5,6,7] [4] (Aqv a0 r1) [.ret,.exit 0] (fun n v=>Cs L a0 r1 n v.1 v.2.1 v.2.2.1 v.2.2.2) K:=lE (fun _=>rfl) fun n v ih=>eE (Hf L a0 r1 (fun Ax Ae Af Ai=>re (ih (Ax,Ae,Af,Ai))) v.1 v.2.1 v.2.2.1 v.2.2.2)
def Eh [An A ((List Aa)×Bool)](L:Nat)(o3:Nat×Tu9):A:=
 (sl o3.1 [(lf (o3.2.1,o3.2.2.1)),
 (lf (o3.2.2.2.1,true))])
def Aoo:Bu:=(Bi 0 (Ek (EV (O73 L) L 9 c73.x.r) (Gv Tryd.prog (RS Tryd.f73) kk)))
theorem Ay8(a0:List Aa)(r1:Ed)(o3:Nat×Tu9):kX [.ret,.exit 0] (Aqv a0 r1) (Aoo L kk) o3=ob (Eh L o3) (A1m kk):=eE (Eh L o3)
def Hh [An A ((List Aa)×Bool)](a0:List Aa)(nx1:Ed→A):A:=
 (bd (Qc L a0) fun r1=>
 (cn (!r1.2)
 (lf ([],false))
 (nx1 r1)))
def R6 [An A ((List Aa)×Bool)](a0:List Aa):A:=Hh L a0 (fun r1=>bd (Cs L a0 r1 L [] false [] 0) fun o3=>Eh L o3)
def J9(a0:List Aa):Option ((List Aa)×Bool):=R6 L a0
def X73:Hy:=E1 (fun(x:(List Aa)×Bool)=> .tup [lv (.t24 x.1),B x.2]) 73 S3 (J9 L) fun a0 r h=>hF Tryd.func73 (C:=O73 L) (oS _) L (fun kk=>eE (Hh L a0 (fun r1=>ho (Awd L (Aoo L kk) a0 r1 L ([],false,[],0)) fun o3=>Ay8 L kk a0 r1 o3))) h
def Yp [An A Ed](a0:Aa)(a1:Aa):A:=
 (bd (Cx L a0) fun r1=>
 (jb (.cn (!r1)
 (.lf true)
 (.bd (Cx L a1) fun r3=>
 (.lf (!r3)))) (fun b2=>
 (cn b2
 (lf ((⟨0,0⟩:Aa),false))
 (bd (De L a0.N a1.N) fun r4=>
 (bd (Cq L a0.D) fun r5=>
 (bd (Cq L a1.D) fun r6=>
 (bd (C6 L r5 r6) fun r7=>
 (bd (Js L r4 r7) fun r8=>
 (lf (r8.1,r8.2)))))))))))
def P6(a0:Aa)(a1:Aa):Option Ed:=Yp L a0 a1
def X95:Hy:=E2 (fun(x:Ed)=> .tup [.agg (Al x.1),B x.2]) 95 Av Av (P6 L) fun a0 a1 r h=>hF Tryd.func95 (oS [X31 L,X44 L,X54 L,X62 L,X78 L]) L (fun kk=>eE (Yp L a0 a1)) h
def c74:=CC Tryd.f74
def O74:Aq:=oL [X56 L,X95 L]
def A1n:Ed→Prop:=fun x=>kk ((fun(x:Ed)=> .tup [.agg (Al x.1),B x.2]) x)
def Aqw(a0:List Aa)(a1:List Aa)(v:Aaj):St:=⟨[(0,lv (.t24 a0)),(1,lv (.t24 a1)),(4,.loc 4 0),(5,B v.1),(6,.lst true (.t24 v.2.1)),(7,I v.2.2.1)],[(4,[I v.2.2.2.1,I v.2.2.2.2])],0⟩
def Ji [An A (Nat×Aaj)](a0:List Aa)(a1:List Aa)(rec:Bool→List Aa→Int→Int→Int→A)(Ae:Bool)(Af:List Aa)(Ai:Int)(Ar:Int)(Ao:Int):A:=
 (lw Ai a0
 (gi Ai a1
 (bd (P6 L (a0.getD (Int.toNat Ai) default) (a1.getD (Int.toNat Ai) default)) fun r1=>
 (cn (!r1.2)
 (lf (0,false,Af,Ai,0,0))
 (gq ((Af.length+ [r1.1].length)*16≤140737488355328)
 (gq (Af.length+ [r1.1].length≤maxLen)
 (rec Ae (Af++ [r1.1]) (B1 (Ai+1)) Ar Ao))))))
 (lf (1,Ae,Af,Ai,Ar,Ao)))
def Dk(L:Nat)(a0:List Aa)(a1:List Aa):Nat→Bool→List Aa→Int→Int→Int→Option (Nat×Aaj)
 |0,_,_,_,_,_=>none
 |n+1,Ae,Af,Ai,Ar,Ao=>Ji L a0 a1 (Dk L a0 a1 n) Ae Af Ai Ar Ao
theorem Awe(a0:List Aa)(a1:List Aa):LP (EV (O74 L) L 9 c74.w.l.u.l.l) [0,1,4,5,6,7] [4] (Aqw a0 a1) [.ret,.exit 0] (fun n v=>Dk L a0 a1 n v.1 v.2.1 v.2.2.1 v.2.2.2.1 v.2.2.2.2) K:=lE (fun _=>rfl) fun n v ih=>eE (Ji L a0 a1 (fun Ae Af Ai Ar Ao=>re (ih (Ae,Af,Ai,Ar,Ao))) v.1 v.2.1 v.2.2.1 v.2.2.2.1 v.2.2.2.2)
def Gm [An A Ed](o2:Nat×Aaj):A:=
 (sl o2.1 [(lf ((⟨o2.2.2.2.2.1,o2.2.2.2.2.2⟩:Aa),o2.2.1)),
 (bd (M5 L o2.2.2.1) fun r3=>
 (lf (r3.1,r3.2)))])
def Aop:Bu:=(Bi 0 (Ek (EV (O74 L) L 9 c74.w.r) (Gv Tryd.prog (RS Tryd.f74) kk)))
theorem Ay9(a0:List Aa)(a1:List Aa)(o2:Nat×Aaj):kX [.ret,.exit 0] (Aqw a0 a1) (Aop L kk) o2=ob (Gm L o2) (A1n kk):=eE (Gm L o2)
def T7 [An A Ed](a0:List Aa)(a1:List Aa):A:=(bd (Dk L a0 a1 L false [] 0 0 0) fun o2=>Gm L o2)
def L4(a0:List Aa)(a1:List Aa):Option Ed:=T7 L a0 a1
def X74:Hy:=E2 (fun(x:Ed)=> .tup [.agg (Al x.1),B x.2]) 74 S3 S3 (L4 L) fun a0 a1 r h=>hF Tryd.func74 (C:=O74 L) (oS _) L (fun kk=>eE ((ho (Awe L (Aop L kk) a0 a1 L (false,[],0,0,0)) fun o2=>Ay9 L kk a0 a1 o2))) h
def Qh [An A Ed](a0:List Aa):A:=
 (jp (.cn (decide ((a0.length:Int) < 2))
 (.lf true)
 (.lf (decide ((a0.length:Int) > 50)))) (fun b1=>
 (cn b1
 (lf ((⟨0,0⟩:Aa),false))
 (bd (J9 L a0) fun r2=>
 (bd (L4 L r2.1 r2.1) fun r3=>
 (jp (.cn (!r2.2)
 (.lf true)
 (.lf (!r3.2))) (fun b4=>
 (cn b4
 (lf ((⟨0,0⟩:Aa),false))
 (bd (M3 L r3.1 (⟨(B1 ((a0.length:Int) - 1)),1⟩:Aa)) fun r5=>
 (lf (r5.1,r5.2)))))))))))
def L3(a0:List Aa):Option Ed:=Qh L a0
def X42:Hy:=E1 (fun(x:Ed)=> .tup [.agg (Al x.1),B x.2]) 42 S3 (L3 L) fun a0 r h=>hF Tryd.func42 (oS [X57 L,X73 L,X74 L]) L (fun kk=>eE (Qh L a0)) h
def Qi [An A So](L:Nat)(a0:Int):A:=
 (jp (.cn (decide (a0 < 1))
 (.lf true)
 (.lf (decide (a0 > 50)))) (fun b1=>
 (cn b1
 (lf (0,false))
 (cn (decide (a0≤30))
 (gq (0≤a0)
 (gq (a0 < (([0,12706,4303,3182,2776,2571,2447,2365,2306,2262,2228,2201,2179,2160,2145,2131,2120,2110,2101,2093,2086,2080,2074,2069,2064,2060,2056,2052,2048,2045,2042].length:Nat):Int))
 (lf (([0,12706,4303,3182,2776,2571,2447,2365,2306,2262,2228,2201,2179,2160,2145,2131,2120,2110,2101,2093,2086,2080,2074,2069,2064,2060,2056,2052,2048,2045,2042].getD (Int.toNat a0) default),true))))
 (cn (decide (a0≤40))
 (lf (2021,true))
 (lf (2009,true)))))))
def Jv(a0:Int):Option So:=Qi L a0
def X43:Hy:=E1 (fun(x:So)=> .tup [I x.1,B x.2]) 43 (cI .i64) (Jv L) fun a0 r h=>hF Tryd.func43 (oS []) L (fun kk=>eE (Qi L a0)) h
def c48:=CC Tryd.f48
def O48:Aq:=oL [X44 L,X76 L]
def A1h:So→Prop:=fun x=>kk ((fun(x:So)=> .tup [I x.1,B x.2]) x)
def Aqm(a0:Ad)(v:Gq):St:=⟨[(0,.any),(1,.loc 1 0),(2,I 0),(3,B false),(4,I v.1),(5,I v.2)],[(1,(Cr a0))],0⟩
def Qv [An A (Nat×Gq)](a0:Ad)(rec:Int→Int→A)(Ae:Int)(Af:Int):A:=
 (cn (decide (Ae < Af))
 (bd (C6 L (IntKind.wrap .u64 ((B1 (Int.tdiv (B1 (Ae+Af)) 2)))) (IntKind.wrap .u64 ((B1 (Int.tdiv (B1 (Ae+Af)) 2))))) fun r3=>
 (bd (Jr L r3 a0) fun r4=>
 (cn r4
 (rec (B1 ((B1 (Int.tdiv (B1 (Ae+Af)) 2))+1)) Af)
 (rec Ae (B1 (Int.tdiv (B1 (Ae+Af)) 2))))))
 (lf (0,Ae,Af)))
def Ht(L:Nat)(a0:Ad):Nat→Int→Int→Option (Nat×Gq)
 |0,_,_=>none
 |n+1,Ae,Af=>Qv L a0 (Ht L a0 n) Ae Af
theorem Av6(a0:Ad):LP (EV (O48 L) L 9 c48.w.u.l.l.l) [0,1,2,3,4,5] [1] (Aqm a0) [.exit 0] (fun n v=>Ht L a0 n v.1 v.2) K:=lE (fun _=>rfl) fun n v ih=>eE (Qv L a0 (fun Ae Af=>re (ih (Ae,Af))) v.1 v.2)
def J7 [An A So](L:Nat)(o5:Nat×Gq):A:=
 (sl o5.1 [(lf (o5.2.1,true))])
def Aoh:Bu:=(Bi 0 (Ek (EV (O48 L) L 9 c48.w.u.r) (Gv Tryd.prog (RS Tryd.f48) kk)))
theorem Ay1(a0:Ad)(o5:Nat×Gq):kX [.exit 0] (Aqm a0) (Aoh L kk) o5=ob (J7 L o5) (A1h kk):=eE (J7 L o5)
def Mu [An A So](a0:Ad)(nx1:A):A:=
 (bd (C6 L 1000000000000 1000000000000) fun r1=>
 (bd (Jr L r1 a0) fun r2=>
 (cn r2
 (lf (0,false))
 nx1)))
def Zs [An A So](a0:Ad):A:=Mu L a0 (bd (Ht L a0 L 0 1000000000000) fun o5=>J7 L o5)
def Oo(a0:Ad):Option So:=Zs L a0
def X48:Hy:=E1 (fun(x:So)=> .tup [I x.1,B x.2]) 48 Cz (Oo L) fun a0 r h=>hF Tryd.func48 (C:=O48 L) (oS _) L (fun kk=>eE (Mu L a0 (ho (Av6 L (Aoh L kk) a0 L (0,1000000000000)) fun o5=>Ay1 L kk a0 o5))) h
def l8 [An A (Ac×Int)](a0:List Aa):A:=
 (cn (decide ((a0.length:Int) < 2))
 (lf ((⟨(⟨0,0⟩:Aa),(⟨0,0⟩:Aa)⟩:Ac),7))
 (cn (decide ((a0.length:Int) > 50))
 (lf ((⟨(⟨0,0⟩:Aa),(⟨0,0⟩:Aa)⟩:Ac),6))
 (bd (Sp L a0) fun r1=>
 (bd (L3 L a0) fun r2=>
 (jp (.cn (!r1.2)
 (.lf true)
 (.lf (!r2.2))) (fun b3=>
 (cn b3
 (lf ((⟨(⟨0,0⟩:Aa),(⟨0,0⟩:Aa)⟩:Ac),2))
 (bd (Jv L (B1 ((a0.length:Int) - 1))) fun r4=>
 (bd (C6 L (IntKind.wrap .u64 ((a0.length:Int))) (IntKind.wrap .u64 (r2.1.D))) fun r5=>
 (bd (C6 L (IntKind.wrap .u64 (r4.1)) (IntKind.wrap .u64 (r4.1))) fun r6=>
 (bd (Lq L r6 (IntKind.wrap .u64 (r2.1.N))) fun r7=>
 (bd (Gi L r7 r5) fun r8=>
 (cn (!((r8.2.Hi == 0) && ((r8.2.Lo == 0) && true)))
 (bd (Eu L r8.1 (⟨0,1⟩:Ad)) fun r9=>
 (bd (Oo L r9) fun r10=>
 (cn (!r10.2)
 (lf ((⟨(⟨0,0⟩:Aa),(⟨0,0⟩:Aa)⟩:Ac),2))
 (bd (Qb L r10.1 1000) fun r11=>
 (lf ((⟨r1.1,r11.1⟩:Ac),0))))))
 (bd (Oo L r8.1) fun r12=>
 (cn (!r12.2)
 (lf ((⟨(⟨0,0⟩:Aa),(⟨0,0⟩:Aa)⟩:Ac),2))
 (bd (Qb L r12.1 1000) fun r13=>
 (lf ((⟨r1.1,r13.1⟩:Ac),0))))))))))))))))))
def Iu(a0:List Aa):Option (Ac×Int):=l8 L a0
def X19:Hy:=E1 (fun(x:Ac×Int)=> .tup [.agg (Pv x.1),I x.2]) 19 S3 (Iu L) fun a0 r h=>hF Tryd.func19 (oS [X41 L,X42 L,X43 L,X44 L,X45 L,X46 L,X47 L,X48 L,X49 L]) L (fun kk=>eE (l8 L a0)) h
def T8 [An A Bool](a0:Ac)(a1:Ac):A:=
 (bd (M4 L a0.Mean a0.Half) fun r1=>
 (bd (Lp L a1.Mean a1.Half) fun r2=>
 (jp (.cn r1.2
 (.lf r2.2)
 (.lf false)) (fun b3=>
 (jb (.cn b3
 (.bd (Ge L r1.1 r2.1) fun r5=>
 (.lf (decide (r5 > 0))))
 (.lf false)) (fun b4=>
 (lf b4)))))))
def D6(a0:Ac)(a1:Ac):Option Bool:=T8 L a0 a1
def X20:Hy:=E2 B 20 Oc Oc (D6 L) fun a0 a1 r h=>hF Tryd.func20 (oS [X21 L,X50 L,X51 L]) L (fun kk=>eE (T8 L a0 a1)) h
def c17:=CC Tryd.f17
def O17:Aq:=oL [X19 L,X20 L,X21 L]
def Avk:((List Ab)×Int)→Prop:=fun x=>kk ((fun(x:(List Ab)×Int)=> .tup [lv (.t39 x.1),I x.2]) x)
def Aqf(a0:List Ab)(a1:Int)(v:Tu8):St:=⟨[(0,lv (.t39 a0)),(1,I a1),(4,.lst true (.t39 v.1)),(5,I v.2.1),(6,.vw false 17 42 4 (Int.toNat (a0.length:Int))),(7,I v.2.2.1),(8,I v.2.2.2.1),(11,.any),(12,.any)],[(17,[.arrO (.t42 v.2.2.2.2)])],0⟩
def Mf [An A (Nat×Tu8)](a0:List Ab)(a1:Int)(rec:List Ab→Int→Int→Int→List Ac→A)(Ae:List Ab)(Af:Int)(Ar:Int)(Ao:Int)(Au:List Ac):A:=
 (lw Ao a0
 (jb (.cn ((a0.getD (Int.toNat Ao) default).Out != 0)
 (.lf true)
 (.gq (0≤Ao)
 (.gq (Ao < (a0.length:Int))
 (.lf (decide ((((a0.getD (Int.toNat Ao) default).Seen).length:Int) < 2)))))) (fun b1=>
 (cn b1
 (rec Ae Af Ar (B1 (Ao+1)) Au)
 (gi Ao a0
 (bd (Iu L ((a0.getD (Int.toNat Ao) default).Seen)) fun r2=>
 (cn (r2.2 != 0)
 (lf (0,[],r2.2,Ar,Ao,Au))
 (gq (0≤Ao)
 (gq (Ao < (((Int.toNat (a0.length:Int)):Nat):Int))
 (cn (decide (Ar < 0))
 (rec Ae Af Ao (B1 (Ao+1)) (Au.set (Int.toNat Ao) r2.1))
 (gq (0≤Ar)
 (gq (Ar < (((Int.toNat (a0.length:Int)):Nat):Int))
 (bd (Ge L r2.1.Mean (((Au.set (Int.toNat Ao) r2.1).getD (Int.toNat Ar) default).Mean)) fun r3=>
 (cn (decide (r3 < 0))
 (rec Ae Af Ao (B1 (Ao+1)) (Au.set (Int.toNat Ao) r2.1))
 (rec Ae Af Ar (B1 (Ao+1)) (Au.set (Int.toNat Ao) r2.1)))))))))))))))
 (lf (1,Ae,Af,Ar,Ao,Au)))
def Ez(L:Nat)(a0:List Ab)(a1:Int):Nat→List Ab→Int→Int→Int→List Ac→Option (Nat×Tu8)
 |0,_,_,_,_,_=>none
 |n+1,Ae,Af,Ar,Ao,Au=>Mf L a0 a1 (Ez L a0 a1 n) Ae Af Ar Ao Au
theorem Avz(a0:List Ab)(a1:Int):LP (EV (O17 L) L 9 c17.w.u.l.u.l.l) [0,1,4,5,6,7,8,11,12] [17] (Aqf a0 a1) [.ret,.exit 0] (fun n v=>Ez L a0 a1 n v.1 v.2.1 v.2.2.1 v.2.2.2.1 v.2.2.2.2) K:=lE (fun _=>rfl) fun n v ih=>eE (Mf L a0 a1 (fun Ae Af Ar Ao Au=>re (ih (Ae,Af,Ar,Ao,Au))) v.1 v.2.1 v.2.2.1 v.2.2.2.1 v.2.2.2.2)
def Aqg(a0:List Ab)(a1:Int)(o4:Nat×Tu8)(v:Int):St:=⟨[(0,lv (.t39 a0)),(1,I a1),(4,.lst true (.t39 o4.2.1)),(5,I o4.2.2.1),(6,.vw false 17 42 4 (Int.toNat (a0.length:Int))),(7,I o4.2.2.2.1),(8,.any),(9,.any),(10,.any),(11,.lst true (.t39 [])),(12,I v)],[(17,[.arrO (.t42 o4.2.2.2.2.2)])],0⟩
def Mg [An A (Nat×Int)](a0:List Ab)(a1:Int)(o4:Nat×Tu8)(rec:Int→A)(Cw:Int):A:=
 (lw Cw a0
 (cn ((a0.getD (Int.toNat Cw) default).Out == 0)
 (gi Cw a0
 (cn (decide ((((a0.getD (Int.toNat Cw) default).Seen).length:Int)≥2))
 (gq (0≤Cw)
 (gq (Cw < (((Int.toNat (a0.length:Int)):Nat):Int))
 (gq (0≤o4.2.2.2.1)
 (gq (o4.2.2.2.1 < (((Int.toNat (a0.length:Int)):Nat):Int))
 (bd (D6 L (⟨((o4.2.2.2.2.2.getD (Int.toNat Cw) default).Mean),((o4.2.2.2.2.2.getD (Int.toNat Cw) default).Half)⟩:Ac) (⟨((o4.2.2.2.2.2.getD (Int.toNat o4.2.2.2.1) default).Mean),((o4.2.2.2.2.2.getD (Int.toNat o4.2.2.2.1) default).Half)⟩:Ac)) fun r5=>
 (cn r5
 (gq (0≤Cw)
 (gq (Cw < ((0:Nat):Int))
 fl))
 (rec (B1 (Cw+1)))))))))
 (rec (B1 (Cw+1)))))
 (rec (B1 (Cw+1))))
 (lf (0,Cw)))
def E6(L:Nat)(a0:List Ab)(a1:Int)(o4:Nat×Tu8):Nat→Int→Option (Nat×Int)
 |0,_=>none
 |n+1,Cw=>Mg L a0 a1 o4 (E6 L a0 a1 o4 n) Cw
theorem Av0(a0:List Ab)(a1:Int)(o4:Nat×Tu8):LP (EV (O17 L) L 9 c17.x.u.l.u.l.l) [0,1,4,5,6,7,8,9,10,11,12] [17] (Aqg a0 a1 o4) [.exit 2] (E6 L a0 a1 o4) K:=lE (fun _=>rfl) fun n v ih=>eE (Mg L a0 a1 o4 (fun Cw=>re (ih Cw)) v)
def Aqh(a0:List Ab)(a1:Int)(o4:Nat×Tu8)(v:Int×List Ab):St:=⟨[(0,lv (.t39 a0)),(1,I a1),(4,.lst true (.t39 o4.2.1)),(5,I o4.2.2.1),(6,.vw false 17 42 4 (Int.toNat (a0.length:Int))),(7,I o4.2.2.2.1),(8,.any),(9,.any),(10,.any),(11,.vw false 71 39 3 a0.length),(12,I v.1)],[(17,[.arrO (.t42 o4.2.2.2.2.2)]),(71,[.arrO (.t39 v.2)])],0⟩
def Mh [An A (Nat×Int×List Ab)](a0:List Ab)(a1:Int)(o4:Nat×Tu8)(rec:Int→List Ab→A)(R2:Int)(Mx:List Ab):A:=
 (lw R2 a0
 (cn ((a0.getD (Int.toNat R2) default).Out == 0)
 (gi R2 a0
 (cn (decide ((((a0.getD (Int.toNat R2) default).Seen).length:Int)≥2))
 (gq (0≤R2)
 (gq (R2 < (((Int.toNat (a0.length:Int)):Nat):Int))
 (gq (0≤o4.2.2.2.1)
 (gq (o4.2.2.2.1 < (((Int.toNat (a0.length:Int)):Nat):Int))
 (bd (D6 L (⟨((o4.2.2.2.2.2.getD (Int.toNat R2) default).Mean),((o4.2.2.2.2.2.getD (Int.toNat R2) default).Half)⟩:Ac) (⟨((o4.2.2.2.2.2.getD (Int.toNat o4.2.2.2.1) default).Mean),((o4.2.2.2.2.2.getD (Int.toNat o4.2.2.2.1) default).Half)⟩:Ac)) fun r6=>
 (cn r6
 (gi R2 a0
 (rec (B1 (R2+1)) (Mx.set (Int.toNat R2) (⟨(Mx.getD (Int.toNat R2) default).Point,(Mx.getD (Int.toNat R2) default).Seen,a1⟩:Ab))))
 (rec (B1 (R2+1)) Mx)))))))
 (rec (B1 (R2+1)) Mx)))
 (rec (B1 (R2+1)) Mx))
 (lf (0,R2,Mx)))
def E7(L:Nat)(a0:List Ab)(a1:Int)(o4:Nat×Tu8):Nat→Int→List Ab→Option (Nat×Int×List Ab)
 |0,_,_=>none
 |n+1,R2,Mx=>Mh L a0 a1 o4 (E7 L a0 a1 o4 n) R2 Mx
theorem Av1(a0:List Ab)(a1:Int)(o4:Nat×Tu8):LP (EV (O17 L) L 9 c17.x.u.l.u.l.l) [0,1,4,5,6,7,8,9,10,11,12] [17,71] (Aqh a0 a1 o4) [.exit 2] (fun n v=>E7 L a0 a1 o4 n v.1 v.2) K:=lE (fun _=>rfl) fun n v ih=>eE (Mh L a0 a1 o4 (fun R2 Mx=>re (ih (R2,Mx))) v.1 v.2)
def Mr [An A ((List Ab)×Int)](L:Nat)(o7:Nat×Int):A:=
 (sl o7.1 [(lf ([],0))])
def Aob:Bu:=(Bi 2 (Ek (EV (O17 L) L 9 c17.x.u.r) (Gv Tryd.prog (RS Tryd.f17) kk)))
theorem Ayv(a0:List Ab)(a1:Int)(o4:Nat×Tu8)(o7:Nat×Int):kX [.exit 2] (Aqg a0 a1 o4) (Aob L kk) o7=ob (Mr L o7) (Avk kk):=eE (Mr L o7)
def Ms [An A ((List Ab)×Int)](L:Nat)(o8:Nat×Int×List Ab):A:=
 (sl o8.1 [(lf (o8.2.2,0))])
def Aoc:Bu:=(Bi 2 (Ek (EV (O17 L) L 9 c17.x.u.r) (Gv Tryd.prog (RS Tryd.f17) kk)))
theorem Ayw(a0:List Ab)(a1:Int)(o4:Nat×Tu8)(o8:Nat×Int×List Ab):kX [.exit 2] (Aqh a0 a1 o4) (Aoc L kk) o8=ob (Ms L o8) (Avk kk):=eE (Ms L o8)
def Mw [An A ((List Ab)×Int)](L:Nat)(a0:List Ab)(a1:Int)(o4:Nat×Tu8)(nx2:(Nat×Tu8)→A)(nx3:(Nat×Tu8)→A):A:=
 (sl o4.1 [(lf (o4.2.1,o4.2.2.1)),
 (cn (Nat.beq a0.length 0)
 (nx2 o4)
 (gq (a0.length*40≤140737488355328)
 (gq (a0.length≤maxLen)
 (nx3 o4))))])
def Mq [An A ((List Ab)×Int)](a0:List Ab)(a1:Int)(o4:Nat×Tu8):A:=Mw L a0 a1 o4 (fun o4=>bd (E6 L a0 a1 o4 L 0) fun o7=>Mr L o7) (fun o4=>bd (E7 L a0 a1 o4 L 0 a0) fun o8=>Ms L o8)
def Aoa:Bu:=(Bi 0 (Ek (EV (O17 L) L 9 c17.w.u.r) (Gv Tryd.prog (RS Tryd.f17) kk)))
theorem Ayu(a0:List Ab)(a1:Int)(o4:Nat×Tu8):kX [.ret,.exit 0] (Aqf a0 a1) (Aoa L kk) o4=ob (Mq L a0 a1 o4) (Avk kk):=eE (Mw L a0 a1 o4 (fun o4=>ho (Av0 L (Aob L kk) a0 a1 o4 L 0) fun o7=>Ayv L kk a0 a1 o4 o7) (fun o4=>ho (Av1 L (Aoc L kk) a0 a1 o4 L (0,a0)) fun o8=>Ayw L kk a0 a1 o4 o8))
def Mv [An A ((List Ab)×Int)](L:Nat)(a0:List Ab)(a1:Int)(nx1:A):A:=
 (cn (decide (a1 < 1))
 (lf ([],2))
 (gq (0≤(a0.length:Int))
 (gq ((a0.length:Int)*((32:Nat):Int)≤140737488355328)
 (gq ((a0.length:Int)≤9223372036854775807)
 nx1))))
def Zt [An A ((List Ab)×Int)](a0:List Ab)(a1:Int):A:=Mv L a0 a1 (bd (Ez L a0 a1 L [] 0 (-1) 0 (List.replicate (Int.toNat (a0.length:Int)) (⟨(⟨0,0⟩:Aa),(⟨0,0⟩:Aa)⟩:Ac))) fun o4=>Mq L a0 a1 o4)
def Rg(a0:List Ab)(a1:Int):Option ((List Ab)×Int):=Zt L a0 a1
def X17:Hy:=E2 (fun(x:(List Ab)×Int)=> .tup [lv (.t39 x.1),I x.2]) 17 Acn (cI .i64) (Rg L) fun a0 a1 r h=>hF Tryd.func17 (C:=O17 L) (oS _) L (fun kk=>eE (Mv L a0 a1 (ho (Avz L (Aoa L kk) a0 a1 L ([],0,(-1),0,(List.replicate (Int.toNat (a0.length:Int)) (⟨(⟨0,0⟩:Aa),(⟨0,0⟩:Aa)⟩:Ac)))) fun o4=>Ayu L kk a0 a1 o4))) h
end
end Go.Proofs.YtckmlfboedljeaaDoor.Ev
