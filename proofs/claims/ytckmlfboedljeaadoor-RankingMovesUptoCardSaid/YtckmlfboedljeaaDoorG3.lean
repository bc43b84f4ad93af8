import Derived.Test.YtckmlfboedljeaaDoorG0
namespace Go.Proofs.YtckmlfboedljeaaDoor.Ev
open Go An
set_option maxRecDepth 100000
set_option maxHeartbeats 4000000
set_option linter.unusedVariables false
set_option linter.unusedSimpArgs false
set_option linter.unnecessarySimpa false
noncomputable section
variable {A:Type} (L n:Nat) (kk:R5) (K:Bu) (k:Tv)
def V2 [An A Int](L:Nat)(a0:Int):A:=
 (cn (decide (a0 < 0))
 (lf (IntKind.wrap .u64 ((IntKind.wrap .u64 ((B1 (0 - (B1 (a0+1))))))+1)))
 (lf (IntKind.wrap .u64 (a0))))
def Cq(a0:Int):Option Int:=V2 L a0
def X62:Hy:=E1 (fun(x:Int)=>V .u64 x) 62 (cI .i64) (Cq L) fun a0 r h=>hF Tryd.func62 (oS []) L (fun kk=>eE (V2 L a0)) h
def V1 [An A Ad](L:Nat)(a0:Ad)(a1:Ad):A:=
 (cn (decide ((IntKind.wrap .u64 (a0.Lo+a1.Lo)) < a0.Lo))
 (lf (⟨(IntKind.wrap .u64 ((IntKind.wrap .u64 (a0.Hi+a1.Hi))+1)),(IntKind.wrap .u64 (a0.Lo+a1.Lo))⟩:Ad))
 (lf (⟨(IntKind.wrap .u64 (a0.Hi+a1.Hi)),(IntKind.wrap .u64 (a0.Lo+a1.Lo))⟩:Ad)))
def Eu(a0:Ad)(a1:Ad):Option Ad:=V1 L a0 a1
def X47:Hy:=E2 (fun(x:Ad)=> .agg (Cr x)) 47 Cz Cz (Eu L) fun a0 a1 r h=>hF Tryd.func47 (oS []) L (fun kk=>eE (V1 L a0 a1)) h
def Yr [An A Int](L:Nat)(a0:Ad)(a1:Int):A:=
 (cn (decide (a1≥64))
 (cn (!decide ((IntKind.wrap .u64 ((B1 (a1 - 64)))) < 0))
 (lf (Int.tmod (Int.fdiv a0.Hi (2 ^ (min (Int.toNat (IntKind.wrap .u64 ((B1 (a1 - 64))))) 64))) 2))
 fl)
 (cn (!decide ((IntKind.wrap .u64 (a1)) < 0))
 (lf (Int.tmod (Int.fdiv a0.Lo (2 ^ (min (Int.toNat (IntKind.wrap .u64 (a1))) 64))) 2))
 fl))
def P7(a0:Ad)(a1:Int):Option Int:=Yr L a0 a1
def X75:Hy:=E2 (fun(x:Int)=>V .u64 x) 75 Cz (cI .i64) (P7 L) fun a0 a1 r h=>hF Tryd.func75 (oS []) L (fun kk=>eE (Yr L a0 a1)) h
def Vz [An A Bool](L:Nat)(a0:Ad)(a1:Ad):A:=
 (jp (.cn (decide (a0.Hi < a1.Hi))
 (.lf true)
 (.cn (a0.Hi == a1.Hi)
 (.lf (decide (a0.Lo < a1.Lo)))
 (.lf false))) (fun b1=>
 (lf b1)))
def Jr(a0:Ad)(a1:Ad):Option Bool:=Vz L a0 a1
def X76:Hy:=E2 B 76 Cz Cz (Jr L) fun a0 a1 r h=>hF Tryd.func76 (oS []) L (fun kk=>eE (Vz L a0 a1)) h
def T3 [An A Ad](L:Nat)(a0:Ad)(a1:Ad):A:=
 (cn (decide (a0.Lo < a1.Lo))
 (lf (⟨(IntKind.wrap .u64 ((IntKind.wrap .u64 (a0.Hi - a1.Hi)) - 1)),(IntKind.wrap .u64 (a0.Lo - a1.Lo))⟩:Ad))
 (lf (⟨(IntKind.wrap .u64 (a0.Hi - a1.Hi)),(IntKind.wrap .u64 (a0.Lo - a1.Lo))⟩:Ad)))
def Jt(a0:Ad)(a1:Ad):Option Ad:=T3 L a0 a1
def X77:Hy:=E2 (fun(x:Ad)=> .agg (Cr x)) 77 Cz Cz (Jt L) fun a0 a1 r h=>hF Tryd.func77 (oS []) L (fun kk=>eE (T3 L a0 a1)) h
def c45:=CC Tryd.f45
def O45:Aq:=oL [X47 L,X75 L,X76 L,X77 L]
def A1f:(Ad×Ad)→Prop:=fun x=>kk ((fun(x:Ad×Ad)=> .tup [.agg (Cr x.1),.agg (Cr x.2)]) x)
def Aqk(a0:Ad)(a1:Ad)(v:Int×Int×Int×Int×Int):St:=⟨[(0,.any),(1,.any),(2,.loc 2 0),(3,.loc 3 0),(4,.loc 4 0),(5,.loc 5 0),(6,.loc 6 0),(7,.loc 7 0),(8,I v.1)],[(2,(Cr a0)),(3,(Cr a1)),(4,[V .u64 0,V .u64 0]),(5,[V .u64 0,V .u64 0]),(6,[V .u64 v.2.1,V .u64 v.2.2.1]),(7,[V .u64 v.2.2.2.1,V .u64 v.2.2.2.2])],0⟩
def K2 [An A (Nat×Int×Int×Int×Int×Int)](a0:Ad)(a1:Ad)(rec:Int→Int→Int→Int→Int→A)(Dc:Int)(U2:Int)(O8:Int)(Aab:Int)(Aac:Int):A:=
 (cn (decide (Dc≥0))
 (bd (Eu L (⟨U2,O8⟩:Ad) (⟨U2,O8⟩:Ad)) fun r1=>
 (bd (Eu L (⟨Aab,Aac⟩:Ad) (⟨Aab,Aac⟩:Ad)) fun r2=>
 (bd (P7 L a0 Dc) fun r3=>
 (bd (Eu L r2 (⟨0,r3⟩:Ad)) fun r4=>
 (bd (Jr L r4 a1) fun r5=>
 (cn (!r5)
 (bd (Jt L r4 a1) fun r6=>
 (rec (B1 (Dc - 1)) r1.Hi (IntKind.wrap .u64 (r1.Lo+1)) r6.Hi r6.Lo))
 (rec (B1 (Dc - 1)) r1.Hi r1.Lo r4.Hi r4.Lo)))))))
 (lf (0,Dc,U2,O8,Aab,Aac)))
def Ec(L:Nat)(a0:Ad)(a1:Ad):Nat→Int→Int→Int→Int→Int→Option (Nat×Int×Int×Int×Int×Int)
 |0,_,_,_,_,_=>none
 |n+1,Dc,U2,O8,Aab,Aac=>K2 L a0 a1 (Ec L a0 a1 n) Dc U2 O8 Aab Aac
theorem Av4(a0:Ad)(a1:Ad):LP (EV (O45 L) L 9 c45.w.l.u.l.l) [0,1,2,3,4,5,6,7,8] [2,3,4,5,6,7] (Aqk a0 a1) [.exit 0] (fun n v=>Ec L a0 a1 n v.1 v.2.1 v.2.2.1 v.2.2.2.1 v.2.2.2.2) K:=lE (fun _=>rfl) fun n v ih=>eE (K2 L a0 a1 (fun Dc U2 O8 Aab Aac=>re (ih (Dc,U2,O8,Aab,Aac))) v.1 v.2.1 v.2.2.1 v.2.2.2.1 v.2.2.2.2)
def I1 [An A (Ad×Ad)](L:Nat)(o7:Nat×Int×Int×Int×Int×Int):A:=
 (sl o7.1 [(lf ((⟨o7.2.2.1,o7.2.2.2.1⟩:Ad),(⟨o7.2.2.2.2.1,o7.2.2.2.2.2⟩:Ad)))])
def Aof:Bu:=(Bi 0 (Ek (EV (O45 L) L 9 c45.w.r) (Gv Tryd.prog (RS Tryd.f45) kk)))
theorem Ayz(a0:Ad)(a1:Ad)(o7:Nat×Int×Int×Int×Int×Int):kX [.exit 0] (Aqk a0 a1) (Aof L kk) o7=ob (I1 L o7) (A1f kk):=eE (I1 L o7)
def W2 [An A (Ad×Ad)](a0:Ad)(a1:Ad):A:=(bd (Ec L a0 a1 L 127 0 0 0 0) fun o7=>I1 L o7)
def Gi(a0:Ad)(a1:Ad):Option (Ad×Ad):=W2 L a0 a1
def X45:Hy:=E2 (fun(x:Ad×Ad)=> .tup [.agg (Cr x.1),.agg (Cr x.2)]) 45 Cz Cz (Gi L) fun a0 a1 r h=>hF Tryd.func45 (C:=O45 L) (oS _) L (fun kk=>eE ((ho (Av4 L (Aof L kk) a0 a1 L (127,0,0,0,0)) fun o7=>Ayz L kk a0 a1 o7))) h
def c61:=CC Tryd.f61
def O61:Aq:=oL [X45 L]
def A1k:Ad→Prop:=fun x=>kk ((fun(x:Ad)=> .agg (Cr x)) x)
def Aqq(v:Int×Int×Int×Int):St:=⟨[(0,.any),(1,.any),(2,.loc 2 0),(3,.loc 3 0),(4,.loc 4 0)],[(2,[V .u64 v.1,V .u64 v.2.1]),(3,[V .u64 v.2.2.1,V .u64 v.2.2.2]),(4,[V .u64 0,V .u64 0])],0⟩
def Pg [An A (Nat×Int×Int×Int×Int)](rec:Int→Int→Int→Int→A)(Dc:Int)(Ax:Int)(Ae:Int)(Af:Int):A:=
 (cn (!((Ae == 0) && ((Af == 0) && true)))
 (bd (Gi L (⟨Dc,Ax⟩:Ad) (⟨Ae,Af⟩:Ad)) fun r1=>
 (rec Ae Af r1.2.Hi r1.2.Lo))
 (lf (0,Dc,Ax,Ae,Af)))
def Ix(L:Nat):Nat→Int→Int→Int→Int→Option (Nat×Int×Int×Int×Int)
 |0,_,_,_,_=>none
 |n+1,Dc,Ax,Ae,Af=>Pg L (Ix L n) Dc Ax Ae Af
theorem Av9:LP (EV (O61 L) L 9 c61.u.l.l.l) [0,1,2,3,4] [2,3,4] (Aqq) [.exit 0] (fun n v=>Ix L n v.1 v.2.1 v.2.2.1 v.2.2.2) K:=lE (fun _=>rfl) fun n v ih=>eE (Pg L (fun Dc Ax Ae Af=>re (ih (Dc,Ax,Ae,Af))) v.1 v.2.1 v.2.2.1 v.2.2.2)
def I2 [An A Ad](L:Nat)(o2:Nat×Int×Int×Int×Int):A:=
 (sl o2.1 [(lf (⟨o2.2.1,o2.2.2.1⟩:Ad))])
def Aok:Bu:=(Bi 0 (Ek (EV (O61 L) L 9 c61.u.r) (Gv Tryd.prog (RS Tryd.f61) kk)))
theorem Ay4(o2:Nat×Int×Int×Int×Int):kX [.exit 0] (Aqq) (Aok L kk) o2=ob (I2 L o2) (A1k kk):=eE (I2 L o2)
def W3 [An A Ad](a0:Ad)(a1:Ad):A:=(bd (Ix L L a0.Hi a0.Lo a1.Hi a1.Lo) fun o2=>I2 L o2)
def J8(a0:Ad)(a1:Ad):Option Ad:=W3 L a0 a1
def X61:Hy:=E2 (fun(x:Ad)=> .agg (Cr x)) 61 Cz Cz (J8 L) fun a0 a1 r h=>hF Tryd.func61 (C:=O61 L) (oS _) L (fun kk=>eE ((ho (Av9 L (Aok L kk) L (a0.Hi,a0.Lo,a1.Hi,a1.Lo)) fun o2=>Ay4 L kk o2))) h
def T5 [An A Bool](a0:Aa):A:=
 (jp (.cn (decide (a0.D < 1))
 (.lf true)
 (.lf (decide (a0.D > 1000000000000000)))) (fun b1=>
 (jp (.cn b1
 (.lf true)
 (.lf (decide (a0.N < (-4611686018427387904))))) (fun b2=>
 (jp (.cn b2
 (.lf true)
 (.lf (decide (a0.N > 4611686018427387904)))) (fun b3=>
 (cn b3
 (lf false)
 (bd (Cq L a0.N) fun r4=>
 (bd (Cq L a0.D) fun r5=>
 (bd (J8 L (⟨0,r4⟩:Ad) (⟨0,r5⟩:Ad)) fun r6=>
 (lf ((r6.Hi == 0) && ((r6.Lo == 1) && true)))))))))))))
def Cx(a0:Aa):Option Bool:=T5 L a0
def X31:Hy:=E1 B 31 Av (Cx L) fun a0 r h=>hF Tryd.func31 (oS [X61 L,X62 L]) L (fun kk=>eE (T5 L a0)) h
def c10:=CC Tryd.f10
def O10:Aq:=oL [X31 L]
def A1a:((List Ab)×Int)→Prop:=fun x=>kk ((fun(x:(List Ab)×Int)=> .tup [lv (.t39 x.1),I x.2]) x)
def Ap5(a0:List Ab)(a1:Int)(a2:Aa)(v:List Ab×Int×Int):St:=⟨[(0,lv (.t39 a0)),(1,I a1),(2,.any),(5,.loc 5 0),(6,lv (.t39 v.1)),(7,I v.2.1),(8,I v.2.2)],[(5,(Al a2))],0⟩
def Py [An A (Nat×List Ab×Int×Int)](a0:List Ab)(a1:Int)(a2:Aa)(rec:List Ab→Int→Int→A)(Ae:List Ab)(Af:Int)(Ai:Int):A:=
 (lw Ai a0
 (cn ((a0.getD (Int.toNat Ai) default).Point != a1)
 (rec Ae Af (B1 (Ai+1)))
 (gi Ai a0
 (cn ((a0.getD (Int.toNat Ai) default).Out != 0)
 (lf (0,[],15,Ai))
 (gi Ai a0
 (cn (decide ((((a0.getD (Int.toNat Ai) default).Seen).length:Int)≥50))
 (lf (0,[],13,Ai))
 (bd (Cx L a2) fun r1=>
 (cn (!r1)
 (lf (0,[],2,Ai))
 (cn (Nat.beq a0.length 0)
 (gi Ai a0
 (gq ((0+((a0.getD (Int.toNat Ai) default).Seen).length)*16≤140737488355328)
 (gq (0+((a0.getD (Int.toNat Ai) default).Seen).length≤maxLen)
 (gq ((((a0.getD (Int.toNat Ai) default).Seen).length+ [a2].length)*16≤140737488355328)
 (gq (((a0.getD (Int.toNat Ai) default).Seen).length+ [a2].length≤maxLen)
 (gq (0≤Ai)
 (gq (Ai < ((0:Nat):Int))
 fl)))))))
 (gq (a0.length*40≤140737488355328)
 (gq (a0.length≤maxLen)
 (gi Ai a0
 (gq ((0+((a0.getD (Int.toNat Ai) default).Seen).length)*16≤140737488355328)
 (gq (0+((a0.getD (Int.toNat Ai) default).Seen).length≤maxLen)
 (gq ((((a0.getD (Int.toNat Ai) default).Seen).length+ [a2].length)*16≤140737488355328)
 (gq (((a0.getD (Int.toNat Ai) default).Seen).length+ [a2].length≤maxLen)
 (gi Ai a0
 (lf (0,((a0.set (Int.toNat Ai) (⟨(a0.getD (Int.toNat Ai) default).Point,((a0.getD (Int.toNat Ai) default).Seen++ [a2]),(a0.getD (Int.toNat Ai) default).Out⟩:Ab)),0,Ai)))))))))))))))))))
 (lf (1,Ae,Af,Ai)))
def Ib(L:Nat)(a0:List Ab)(a1:Int)(a2:Aa):Nat→List Ab→Int→Int→Option (Nat×List Ab×Int×Int)
 |0,_,_,_=>none
 |n+1,Ae,Af,Ai=>Py L a0 a1 a2 (Ib L a0 a1 a2 n) Ae Af Ai
theorem Avm(a0:List Ab)(a1:Int)(a2:Aa):LP (EV (O10 L) L 9 c10.u.l.u.l.r.l) [0,1,2,5,6,7,8] [5] (Ap5 a0 a1 a2) [.ret,.exit 0] (fun n v=>Ib L a0 a1 a2 n v.1 v.2.1 v.2.2) K:=lE (fun _=>rfl) fun n v ih=>eE (Py L a0 a1 a2 (fun Ae Af Ai=>re (ih (Ae,Af,Ai))) v.1 v.2.1 v.2.2)
def Mo [An A ((List Ab)×Int)](L:Nat)(o2:Nat×List Ab×Int×Int):A:=
 (sl o2.1 [(lf (o2.2.1,o2.2.2.1)),
 (lf ([],5))])
def Anv:Bu:=(Bi 0 (Ek (EV (O10 L) L 9 c10.u.r) (Gv Tryd.prog (RS Tryd.f10) kk)))
theorem Ayf(a0:List Ab)(a1:Int)(a2:Aa)(o2:Nat×List Ab×Int×Int):kX [.ret,.exit 0] (Ap5 a0 a1 a2) (Anv L kk) o2=ob (Mo L o2) (A1a kk):=eE (Mo L o2)
def Aat [An A ((List Ab)×Int)](a0:List Ab)(a1:Int)(a2:Aa):A:=(bd (Ib L a0 a1 a2 L [] 0 0) fun o2=>Mo L o2)
def U3(a0:List Ab)(a1:Int)(a2:Aa):Option ((List Ab)×Int):=Aat L a0 a1 a2
def X10:Hy:=E3 (fun(x:(List Ab)×Int)=> .tup [lv (.t39 x.1),I x.2]) 10 Acn (cI .i64) Av (U3 L) fun a0 a1 a2 r h=>hF Tryd.func10 (C:=O10 L) (oS _) L (fun kk=>eE ((ho (Avm L (Anv L kk) a0 a1 a2 L ([],0,0)) fun o2=>Ayf L kk a0 a1 a2 o2))) h
end
end Go.Proofs.YtckmlfboedljeaaDoor.Ev
