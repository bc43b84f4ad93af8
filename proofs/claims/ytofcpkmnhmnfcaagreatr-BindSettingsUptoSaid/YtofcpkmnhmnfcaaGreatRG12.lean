import Derived.Test.YtofcpkmnhmnfcaaGreatRG10
import Derived.Test.YtofcpkmnhmnfcaaGreatRG11
namespace Go.Proofs.YtofcpkmnhmnfcaaGreatR.Ev
open Go An
set_option maxRecDepth 100000
set_option maxHeartbeats 4000000
set_option linter.unusedVariables false
set_option linter.unusedSimpArgs false
set_option linter.unnecessarySimpa false
noncomputable section
variable {A:Type} (L n:Nat) (kk:Cz) (K:Ax) (k:Bk)
def Cdx:=CC Tryz.f156
def B3a(L:Nat):Ba:=oL []
def Bj4(a1:ByteArray)(a0:Ac)(v:Co):St:=⟨[(0,.any),(1,S a1),(2,.loc 2 0),(4,I v.1),(5,I v.2)],[(2,(Aq a0))],0⟩
def Aqn [An A B7](L:Nat)(a1:ByteArray)(a0:Ac)(rec:Int→Int→A)(Aj:Int)(Ak:Int):A:=
 (lw Ak a0.Sites
 (cn (((a0.Sites.getD (Int.toNat Ak) default).Name).toList == a1.toList)
 (lf (0,Ak,Ak))
 (rec Aj (B6 (Ak+1))))
 (lf (1,Aj,Ak)))
def Ah3(L:Nat)(a1:ByteArray)(a0:Ac):Nat→Int→Int→Option B7
 |0,_,_=>none
 |n+1,Aj,Ak=>Aqn L a1 a0 (Ah3 L a1 a0 n) Aj Ak
theorem Bym(a1:ByteArray)(a0:Ac):LP (EV (B3a L) L 9 Cdx.u.l.u.l.l) [0,1,2,4,5] [2] (Bj4 a1 a0) [.ret,.exit 0] (fun n v=>Ah3 L a1 a0 n v.1 v.2) K:=lE (fun _=>rfl) fun n v ih=>eE (Aqn L a1 a0 (fun Aj Ak=>re (ih (Aj,Ak))) v.1 v.2)
def Aij [An A Int](L:Nat)(o1:Nat×Co):A:=
 (sl o1.1 [(lf o1.2.1),
 (lf (-1))])
def Bgn:Ax:=(Av 0 (Bb (EV (B3a L) L 9 Cdx.u.r) (Cm Tryz.prog (RS Tryz.f156) kk)))
theorem B8f(a1:ByteArray)(a0:Ac)(o1:Nat×Co):kX [.ret,.exit 0] (Bj4 a1 a0) (Bgn L kk) o1=ob (Aij L o1) (kQ I kk):=eE (Aij L o1)
def Bcw [An A Int](a0:Ac)(a1:ByteArray):A:=(bd (Ah3 L a1 a0 L 0 0) fun o1=>Aij L o1)
def Ake(a0:Ac)(a1:ByteArray):Option Int:=Bcw L a0 a1
def B30:Ew:=E2 I 156 Cq cS (Ake L) fun a0 a1 r h=>hF Tryz.func156 (C:=B3a L) (oS _) L (fun kk=>eE ((ho (Bym L (Bgn L kk) a1 a0 L (0,0)) fun o1=>B8f L kk a1 a0 o1))) h
def c86:=CC Tryz.f86
def O86:Ba:=oL [X51 L,B30 L]
def Bs6(Aj:Int)(a0:Ac)(v:Co):St:=⟨[(0,.any),(1,.loc 1 0),(2,I v.1),(3,I Aj),(4,.loc 4 0),(5,I v.2)],[(1,(Aq a0)),(4,(N1 (a0.Links.getD (Int.toNat Aj) default)))],0⟩
def Anq [An A B7](L:Nat)(Aj:Int)(a0:Ac)(rec:Int→Int→A)(Bl:Int)(It:Int):A:=
 (cn (decide (It < Aj))
 (gi It a0.Links
 (cn (((a0.Links.getD (Int.toNat It) default).From).toList == ((a0.Links.getD (Int.toNat Aj) default).From).toList)
 (gi It a0.Links
 (cn (((a0.Links.getD (Int.toNat It) default).To).toList == ((a0.Links.getD (Int.toNat Aj) default).To).toList)
 (lf (0,4,It))
 (rec Bl (B6 (It+1)))))
 (rec Bl (B6 (It+1)))))
 (lf (1,Bl,It)))
def Afa(L:Nat)(Aj:Int)(a0:Ac):Nat→Int→Int→Option B7
 |0,_,_=>none
 |n+1,Bl,It=>Anq L Aj a0 (Afa L Aj a0 n) Bl It
theorem B7g(Aj:Int)(a0:Ac):LP (EV (O86 L) L 9 c86.w.l.u.l.l.u.l.l.x.u.l.l) [0,1,2,3,4,5] [1,4] (Bs6 Aj a0) [.ret,.exit 2] (fun n v=>Afa L Aj a0 n v.1 v.2) K:=lE (fun _=>rfl) fun n v ih=>eE (Anq L Aj a0 (fun Bl It=>re (ih (Bl,It))) v.1 v.2)
def Bel(a0:Ac)(v:Co):St:=⟨[(0,.any),(1,.loc 1 0),(2,I v.1),(3,I v.2)],[(1,(Aq a0))],0⟩
def Af4 [An A B7](L:Nat)(Aj:Int)(rec:Int→Int→A)(o5:Nat×Co):A:=
 (sl o5.1 [(lf (0,o5.2.1,Aj)),
 (rec o5.2.1 (B6 (Aj+1)))])
def Aoy [An A B7](a0:Ac)(rec:Int→Int→A)(Al:Int)(Aj:Int)(nx1:Int→Int→A):A:=
 (lw Aj a0.Links
 (bd (Ake L a0 ((a0.Links.getD (Int.toNat Aj) default).From)) fun r1=>
 (jb (.cn (decide (r1 < 0))
 (.lf true)
 (.bd (Ake L a0 ((a0.Links.getD (Int.toNat Aj) default).To)) fun r3=>
 (.lf (decide (r3 < 0))))) (fun b2=>
 (cn b2
 (lf (0,5,Aj))
 (cn (((a0.Links.getD (Int.toNat Aj) default).From).toList == ((a0.Links.getD (Int.toNat Aj) default).To).toList)
 (lf (0,1,Aj))
 (bd (Gd L ((a0.Links.getD (Int.toNat Aj) default).Delay) 1 1000000000) fun r4=>
 (cn (!r4)
 (lf (0,2,Aj))
 (nx1 Aj Al))))))))
 (lf (1,Al,Aj)))
def A2z [An A B7](a0:Ac)(rec:Int→Int→A)(Al:Int)(Aj:Int):A:=Aoy L a0 rec Al Aj (fun Aj Al=>bd (Afa L Aj a0 L Al 0) fun o5=>Af4 L Aj rec o5)
def g8(L:Nat)(a0:Ac):Nat→Int→Int→Option B7
 |0,_,_=>none
 |n+1,Al,Aj=>A2z L a0 (g8 L a0 n) Al Aj
def Bnp(a0:Ac):Prop:=LI (EV (O86 L) L 9 c86.w.l.u.l.l) [0,1,2,3] [1] (Bel a0) [.ret,.exit 0] (fun n v=>g8 L a0 n v.1 v.2) K n
def Bqw:Ax:=(Av 2 (Av 1 (Bb (EV (O86 L) L 9 c86.w.l.u.l.l.u.r) (Gj (Ix (EV (O86 L) L 9 c86.w.l.u.l.l) [0,1,2,3] [1] n) [0,1,2,3] [1] K))))
theorem Chd(Aj:Int)(a0:Ac)(ih:Bnp L n K a0)(o5:Nat×Co):kX [.ret,.exit 2] (Bs6 Aj a0) (Bqw L n K) o5=ob (Af4 L Aj (g8 L a0 n) o5) (kX [.ret,.exit 0] (Bel a0) K):=eE (Af4 L Aj (fun Al Aj=>re (ih (Al,Aj))) o5)
theorem B7f(a0:Ac):∀n,Bnp L n K a0:=lE (fun _=>rfl) fun n v ih=>eE (Aoy L a0 (fun Al Aj=>re (ih (Al,Aj))) v.1 v.2 (fun Aj Al=>ho (B7g L (Bqw L n K) Aj a0 L (Al,0)) fun o5=>Chd L n K Aj a0 ih o5))
def Af5 [An A Int](L:Nat)(o6:Nat×Co):A:=
 (sl o6.1 [(lf o6.2.1),
 (lf 0)])
def Bqx:Ax:=(Av 0 (Bb (EV (O86 L) L 9 c86.w.r) (Cm Tryz.prog (RS Tryz.f86) kk)))
theorem Che(a0:Ac)(o6:Nat×Co):kX [.ret,.exit 0] (Bel a0) (Bqx L kk) o6=ob (Af5 L o6) (kQ I kk):=eE (Af5 L o6)
def Aoz [An A Int](L:Nat)(a0:Ac)(nx2:A):A:=
 (cn (decide ((a0.Links.length:Int) > 32))
 (lf 6)
 nx2)
def A9h [An A Int](a0:Ac):A:=Aoz L a0 (bd (g8 L a0 L 0 0) fun o6=>Af5 L o6)
def Axr(a0:Ac):Option Int:=A9h L a0
def X86:Ew:=E1 I 86 Cq (Axr L) fun a0 r h=>hF Tryz.func86 (C:=O86 L) (oS _) L (fun kk=>eE (Aoz L a0 (ho (B7f L (Bqx L kk) a0 L (0,0)) fun o6=>Che L kk a0 o6))) h
def c47:=CC Tryz.f47
def O47:Ba:=oL [X80 L,X81 L,X82 L,X83 L,X84 L,X85 L,X86 L]
def Bsn(a0:Ac)(v:Ay9):St:=⟨[(0,.any),(1,.loc 1 0),(2,I v.1),(3,I v.2.1),(4,.lst true (.t9 v.2.2.1)),(5,I v.2.2.2),(6,.any),(7,.any)],[(1,(Aq a0))],0⟩
def Anj [An A (Nat×Ay9)](a0:Ac)(rec:Int→Int→List ByteArray→Int→A)(Al:Int)(Aj:Int)(Ak:List ByteArray)(Ai:Int):A:=
 (lw Ai a0.Params
 (bd (Axt L (a0.Params.getD (Int.toNat Ai) default) Ak) fun r4=>
 (cn (r4 != 0)
 (lf (0,r4,r4,Ak,Ai))
 (gi Ai a0.Params
 (gq ((Ak.length+ [(a0.Params.getD (Int.toNat Ai) default).Name].length)*16≤140737488355328)
 (gq (Ak.length+ [(a0.Params.getD (Int.toNat Ai) default).Name].length≤maxLen)
 (rec Al r4 (Ak++ [(a0.Params.getD (Int.toNat Ai) default).Name]) (B6 (Ai+1))))))))
 (lf (1,Al,Aj,Ak,Ai)))
def Ae3(L:Nat)(a0:Ac):Nat→Int→Int→List ByteArray→Int→Option (Nat×Ay9)
 |0,_,_,_,_=>none
 |n+1,Al,Aj,Ak,Ai=>Anj L a0 (Ae3 L a0 n) Al Aj Ak Ai
theorem B6q(a0:Ac):LP (EV (O47 L) L 9 c47.x.l.u.l.l) [0,1,2,3,4,5,6,7] [1] (Bsn a0) [.ret,.exit 0] (fun n v=>Ae3 L a0 n v.1 v.2.1 v.2.2.1 v.2.2.2) K:=lE (fun _=>rfl) fun n v ih=>eE (Anj L a0 (fun Al Aj Ak Ai=>re (ih (Al,Aj,Ak,Ai))) v.1 v.2.1 v.2.2.1 v.2.2.2)
def Bso(a0:Ac)(v:Ay9):St:=⟨[(0,.any),(1,.loc 1 0),(2,I v.1),(3,I v.2.1),(4,.any),(5,.any),(6,.lst true (.t9 v.2.2.1)),(7,I v.2.2.2)],[(1,(Aq a0))],0⟩
def Ank [An A (Nat×Ay9)](a0:Ac)(rec:Int→Int→List ByteArray→Int→A)(Bl:Int)(Bv:Int)(It:List ByteArray)(Bu:Int):A:=
 (lw Bu a0.Sites
 (bd (Zh L ((a0.Sites.getD (Int.toNat Bu) default).Name) It) fun r9=>
 (gi Bu a0.Sites
 (bd (A1j L (a0.Sites.getD (Int.toNat Bu) default)) fun r10=>
 (bd (D3 L r9 r10) fun r11=>
 (cn (r11 != 0)
 (lf (0,r11,r11,It,Bu))
 (gi Bu a0.Sites
 (gq ((It.length+ [(a0.Sites.getD (Int.toNat Bu) default).Name].length)*16≤140737488355328)
 (gq (It.length+ [(a0.Sites.getD (Int.toNat Bu) default).Name].length≤maxLen)
 (rec Bl r11 (It++ [(a0.Sites.getD (Int.toNat Bu) default).Name]) (B6 (Bu+1)))))))))))
 (lf (1,Bl,Bv,It,Bu)))
def Ae4(L:Nat)(a0:Ac):Nat→Int→Int→List ByteArray→Int→Option (Nat×Ay9)
 |0,_,_,_,_=>none
 |n+1,Bl,Bv,It,Bu=>Ank L a0 (Ae4 L a0 n) Bl Bv It Bu
theorem B6r(a0:Ac):LP (EV (O47 L) L 9 c47.x.x.l.u.l.l) [0,1,2,3,4,5,6,7] [1] (Bso a0) [.ret,.exit 2] (fun n v=>Ae4 L a0 n v.1 v.2.1 v.2.2.1 v.2.2.2) K:=lE (fun _=>rfl) fun n v ih=>eE (Ank L a0 (fun Bl Bv It Bu=>re (ih (Bl,Bv,It,Bu))) v.1 v.2.1 v.2.2.1 v.2.2.2)
def Af2 [An A Int](a0:Ac)(o12:Nat×Ay9):A:=
 (sl o12.1 [(lf o12.2.1),
 (bd (Axr L a0) fun r13=>
 (lf r13))])
def Bqd:Ax:=(Av 2 (Bb (EV (O47 L) L 9 c47.x.x.r) (Cm Tryz.prog (RS Tryz.f47) kk)))
theorem Cgu(a0:Ac)(o12:Nat×Ay9):kX [.ret,.exit 2] (Bso a0) (Bqd L kk) o12=ob (Af2 L a0 o12) (kQ I kk):=eE (Af2 L a0 o12)
def Aot [An A Int](a0:Ac)(o5:Nat×Ay9)(nx2:(Nat×Ay9)→Int→A):A:=
 (sl o5.1 [(lf o5.2.1),
 (bd (Cu L (decide ((a0.Sites.length:Int) > 0)) 7) fun r6=>
 (bd (Cu L (decide ((a0.Sites.length:Int)≤16)) 6) fun r7=>
 (bd (D3 L r6 r7) fun r8=>
 (cn (r8 != 0)
 (lf r8)
 (nx2 o5 r8)))))])
def Aod [An A Int](a0:Ac)(o5:Nat×Ay9):A:=Aot L a0 o5 (fun o5 r8=>bd (Ae4 L a0 L o5.2.1 r8 [] 0) fun o12=>Af2 L a0 o12)
def Bqc:Ax:=(Av 0 (Bb (EV (O47 L) L 9 c47.x.r) (Cm Tryz.prog (RS Tryz.f47) kk)))
theorem Cgt(a0:Ac)(o5:Nat×Ay9):kX [.ret,.exit 0] (Bsn a0) (Bqc L kk) o5=ob (Aod L a0 o5) (kQ I kk):=eE (Aot L a0 o5 (fun o5 r8=>ho (B6r L (Bqd L kk) a0 L (o5.2.1,r8,[],0)) fun o12=>Cgu L kk a0 o12))
def Aos [An A Int](a0:Ac)(nx1:Int→A):A:=
 (bd (U9 L a0.Name) fun r1=>
 (bd (Cu L (decide ((a0.Params.length:Int)≤32)) 6) fun r2=>
 (bd (D3 L r1 r2) fun r3=>
 (cn (r3 != 0)
 (lf r3)
 (nx1 r3)))))
def A9f [An A Int](a0:Ac):A:=Aos L a0 (fun r3=>bd (Ae3 L a0 L 0 r3 [] 0) fun o5=>Aod L a0 o5)
def Axq(a0:Ac):Option Int:=A9f L a0
def X47:Ew:=E1 I 47 Cq (Axq L) fun a0 r h=>hF Tryz.func47 (C:=O47 L) (oS _) L (fun kk=>eE (Aos L a0 (fun r3=>ho (B6q L (Bqc L kk) a0 L (0,r3,[],0)) fun o5=>Cgt L kk a0 o5))) h
def Atf [An A (List Ao)](L:Nat)(a0:Ap):A:=
 (gq ((0+a0.Params.length)*24≤140737488355328)
 (gq (0+a0.Params.length≤maxLen)
 (gq ((a0.Params.length+a0.Locals.length)*24≤140737488355328)
 (gq (a0.Params.length+a0.Locals.length≤maxLen)
 (lf (a0.Params++a0.Locals))))))
def As5(a0:Ap):Option (List Ao):=Atf L a0
def X49:Ew:=E1 (fun(x:List Ao)=>lv (.t127 x)) 49 b0 (As5 L) fun a0 r h=>hF Tryz.func49 (oS []) L (fun kk=>eE (Atf L a0)) h
def Ayc [An A ByteArray](L:Nat)(a0:Int):A:=
 (cn (a0 == 6)
 (cn (a0 == 6)
 (lf (⟨#[114,101,115,111,117,114,99,101]⟩:ByteArray))
 (cn (a0 == 8)
 (cn (a0 == 8)
 (lf (⟨#[115,116,111,114,101]⟩:ByteArray))
 (cn (a0 == 10)
 (lf (⟨#[98,101,108,116]⟩:ByteArray))
 (cn (a0 == 11)
 (cn (a0 == 11)
 (lf (⟨#[113,117,101,117,101]⟩:ByteArray))
 (cn (a0 == 15)
 (lf (⟨#[116,97,108,108,121]⟩:ByteArray))
 (cn (a0 == 16)
 (lf (⟨#[108,101,118,101,108]⟩:ByteArray))
 (cn (a0 == 17)
 (lf (⟨#[99,111,117,110,116]⟩:ByteArray))
 (lf (⟨#[]⟩:ByteArray))))))
 (cn (a0 == 12)
 (lf (⟨#[113,117,101,117,101]⟩:ByteArray))
 (cn (a0 == 15)
 (lf (⟨#[116,97,108,108,121]⟩:ByteArray))
 (cn (a0 == 16)
 (lf (⟨#[108,101,118,101,108]⟩:ByteArray))
 (cn (a0 == 17)
 (lf (⟨#[99,111,117,110,116]⟩:ByteArray))
 (lf (⟨#[]⟩:ByteArray)))))))))
 (cn (a0 == 9)
 (lf (⟨#[115,116,111,114,101]⟩:ByteArray))
 (cn (a0 == 10)
 (lf (⟨#[98,101,108,116]⟩:ByteArray))
 (cn (a0 == 11)
 (cn (a0 == 11)
 (lf (⟨#[113,117,101,117,101]⟩:ByteArray))
 (cn (a0 == 15)
 (lf (⟨#[116,97,108,108,121]⟩:ByteArray))
 (cn (a0 == 16)
 (lf (⟨#[108,101,118,101,108]⟩:ByteArray))
 (cn (a0 == 17)
 (lf (⟨#[99,111,117,110,116]⟩:ByteArray))
 (lf (⟨#[]⟩:ByteArray))))))
 (cn (a0 == 12)
 (lf (⟨#[113,117,101,117,101]⟩:ByteArray))
 (cn (a0 == 15)
 (lf (⟨#[116,97,108,108,121]⟩:ByteArray))
 (cn (a0 == 16)
 (lf (⟨#[108,101,118,101,108]⟩:ByteArray))
 (cn (a0 == 17)
 (lf (⟨#[99,111,117,110,116]⟩:ByteArray))
 (lf (⟨#[]⟩:ByteArray)))))))))))
 (cn (a0 == 7)
 (lf (⟨#[114,101,115,111,117,114,99,101]⟩:ByteArray))
 (cn (a0 == 8)
 (cn (a0 == 8)
 (lf (⟨#[115,116,111,114,101]⟩:ByteArray))
 (cn (a0 == 10)
 (lf (⟨#[98,101,108,116]⟩:ByteArray))
 (cn (a0 == 11)
 (cn (a0 == 11)
 (lf (⟨#[113,117,101,117,101]⟩:ByteArray))
 (cn (a0 == 15)
 (lf (⟨#[116,97,108,108,121]⟩:ByteArray))
 (cn (a0 == 16)
 (lf (⟨#[108,101,118,101,108]⟩:ByteArray))
 (cn (a0 == 17)
 (lf (⟨#[99,111,117,110,116]⟩:ByteArray))
 (lf (⟨#[]⟩:ByteArray))))))
 (cn (a0 == 12)
 (lf (⟨#[113,117,101,117,101]⟩:ByteArray))
 (cn (a0 == 15)
 (lf (⟨#[116,97,108,108,121]⟩:ByteArray))
 (cn (a0 == 16)
 (lf (⟨#[108,101,118,101,108]⟩:ByteArray))
 (cn (a0 == 17)
 (lf (⟨#[99,111,117,110,116]⟩:ByteArray))
 (lf (⟨#[]⟩:ByteArray)))))))))
 (cn (a0 == 9)
 (lf (⟨#[115,116,111,114,101]⟩:ByteArray))
 (cn (a0 == 10)
 (lf (⟨#[98,101,108,116]⟩:ByteArray))
 (cn (a0 == 11)
 (cn (a0 == 11)
 (lf (⟨#[113,117,101,117,101]⟩:ByteArray))
 (cn (a0 == 15)
 (lf (⟨#[116,97,108,108,121]⟩:ByteArray))
 (cn (a0 == 16)
 (lf (⟨#[108,101,118,101,108]⟩:ByteArray))
 (cn (a0 == 17)
 (lf (⟨#[99,111,117,110,116]⟩:ByteArray))
 (lf (⟨#[]⟩:ByteArray))))))
 (cn (a0 == 12)
 (lf (⟨#[113,117,101,117,101]⟩:ByteArray))
 (cn (a0 == 15)
 (lf (⟨#[116,97,108,108,121]⟩:ByteArray))
 (cn (a0 == 16)
 (lf (⟨#[108,101,118,101,108]⟩:ByteArray))
 (cn (a0 == 17)
 (lf (⟨#[99,111,117,110,116]⟩:ByteArray))
 (lf (⟨#[]⟩:ByteArray))))))))))))
def Axx(a0:Int):Option ByteArray:=Ayc L a0
def Cca:Ew:=E1 S 208 (cI .i64) (Axx L) fun a0 r h=>hF Tryz.func208 (oS []) L (fun kk=>eE (Ayc L a0)) h
def Cee:=CC Tryz.f212
def B3l(L:Nat):Ba:=oL []
def Cfb:Tu6→Prop:=fun x=>kk ((fun(x:Tu6)=> .tup [I x.1,B x.2]) x)
def Bkn(a0:List Ao)(a1:ByteArray)(v:Tu7):St:=⟨[(0,lv (.t127 a0)),(1,S a1),(4,I v.1),(5,B v.2.1),(6,I v.2.2)],[],0⟩
def Ans [An A (Nat×Tu7)](L:Nat)(a0:List Ao)(a1:ByteArray)(rec:Int→Bool→Int→A)(Ak:Int)(Ai:Bool)(Bp:Int):A:=
 (cn (decide (Bp≥0))
 (gi Bp a0
 (cn (((a0.getD (Int.toNat Bp) default).Name).toList == a1.toList)
 (gi Bp a0
 (lf (0,(((a0.getD (Int.toNat Bp) default).Type_),true,Bp))))
 (rec Ak Ai (B6 (Bp - 1)))))
 (lf (1,Ak,Ai,Bp)))
def Afc(L:Nat)(a0:List Ao)(a1:ByteArray):Nat→Int→Bool→Int→Option (Nat×Tu7)
 |0,_,_,_=>none
 |n+1,Ak,Ai,Bp=>Ans L a0 a1 (Afc L a0 a1 n) Ak Ai Bp
theorem By5(a0:List Ao)(a1:ByteArray):LP (EV (B3l L) L 9 Cee.u.l.u.l.l) [0,1,4,5,6] [] (Bkn a0 a1) [.ret,.exit 0] (fun n v=>Afc L a0 a1 n v.1 v.2.1 v.2.2) K:=lE (fun _=>rfl) fun n v ih=>eE (Ans L a0 a1 (fun Ak Ai Bp=>re (ih (Ak,Ai,Bp))) v.1 v.2.1 v.2.2)
def Af7 [An A Tu6](L:Nat)(o1:Nat×Tu7):A:=
 (sl o1.1 [(lf (o1.2.1,o1.2.2.1)),
 (lf (0,false))])
def Bhe:Ax:=(Av 0 (Bb (EV (B3l L) L 9 Cee.u.r) (Cm Tryz.prog (RS Tryz.f212) kk)))
theorem B86(a0:List Ao)(a1:ByteArray)(o1:Nat×Tu7):kX [.ret,.exit 0] (Bkn a0 a1) (Bhe L kk) o1=ob (Af7 L o1) (Cfb kk):=eE (Af7 L o1)
def A9j [An A Tu6](a0:List Ao)(a1:ByteArray):A:=(bd (Afc L a0 a1 L 0 false (B6 ((a0.length:Int) - 1))) fun o1=>Af7 L o1)
def Agw(a0:List Ao)(a1:ByteArray):Option Tu6:=A9j L a0 a1
def Buo:Ew:=E2 (fun(x:Tu6)=> .tup [I x.1,B x.2]) 212 A2e cS (Agw L) fun a0 a1 r h=>hF Tryz.func212 (C:=B3l L) (oS _) L (fun kk=>eE ((ho (By5 L (Bhe L kk) a0 a1 L (0,false,(B6 ((a0.length:Int) - 1)))) fun o1=>B86 L kk a0 a1 o1))) h
def Ceo:=CC Tryz.f236
def B3s(L:Nat):Ba:=oL []
def Cfe:Tu6→Prop:=fun x=>kk ((fun(x:Tu6)=> .tup [I x.1,B x.2]) x)
def Bkv(a0:List Ag)(a1:ByteArray)(v:Tu7):St:=⟨[(0,lv (.t39 a0)),(1,S a1),(4,I v.1),(5,B v.2.1),(6,I v.2.2)],[],0⟩
def Alv [An A (Nat×Tu7)](L:Nat)(a0:List Ag)(a1:ByteArray)(rec:Int→Bool→Int→A)(Ak:Int)(Ai:Bool)(Bp:Int):A:=
 (lw Bp a0
 (cn (((a0.getD (Int.toNat Bp) default).Name).toList == a1.toList)
 (gi Bp a0
 (lf (0,(((a0.getD (Int.toNat Bp) default).Type_),true,Bp))))
 (rec Ak Ai (B6 (Bp+1))))
 (lf (1,Ak,Ai,Bp)))
def Ade(L:Nat)(a0:List Ag)(a1:ByteArray):Nat→Int→Bool→Int→Option (Nat×Tu7)
 |0,_,_,_=>none
 |n+1,Ak,Ai,Bp=>Alv L a0 a1 (Ade L a0 a1 n) Ak Ai Bp
theorem Bzd(a0:List Ag)(a1:ByteArray):LP (EV (B3s L) L 9 Ceo.u.l.u.l.l) [0,1,4,5,6] [] (Bkv a0 a1) [.ret,.exit 0] (fun n v=>Ade L a0 a1 n v.1 v.2.1 v.2.2) K:=lE (fun _=>rfl) fun n v ih=>eE (Alv L a0 a1 (fun Ak Ai Bp=>re (ih (Ak,Ai,Bp))) v.1 v.2.1 v.2.2)
def Adk [An A Tu6](L:Nat)(o1:Nat×Tu7):A:=
 (sl o1.1 [(lf (o1.2.1,o1.2.2.1)),
 (lf (0,false))])
def Bhw:Ax:=(Av 0 (Bb (EV (B3s L) L 9 Ceo.u.r) (Cm Tryz.prog (RS Tryz.f236) kk)))
theorem B9o(a0:List Ag)(a1:ByteArray)(o1:Nat×Tu7):kX [.ret,.exit 0] (Bkv a0 a1) (Bhw L kk) o1=ob (Adk L o1) (Cfe kk):=eE (Adk L o1)
def A7d [An A Tu6](a0:List Ag)(a1:ByteArray):A:=(bd (Ade L a0 a1 L 0 false 0) fun o1=>Adk L o1)
def Zu(a0:List Ag)(a1:ByteArray):Option Tu6:=A7d L a0 a1
def B4m:Ew:=E2 (fun(x:Tu6)=> .tup [I x.1,B x.2]) 236 B45 cS (Zu L) fun a0 a1 r h=>hF Tryz.func236 (C:=B3s L) (oS _) L (fun kk=>eE ((ho (Bzd L (Bhw L kk) a0 a1 L (0,false,0)) fun o1=>B9o L kk a0 a1 o1))) h
def A12 [An A Tu6](a0:Au)(a1:ByteArray):A:=
 (bd (Agw L a0.Locals a1) fun r1=>
 (cn (!r1.2)
 (bd (Zu L a0.Site.Vars a1) fun r2=>
 (cn (!r2.2)
 (bd (Zu L a0.Params a1) fun r3=>
 (lf (r3.1,r3.2)))
 (lf (r2.1,r2.2))))
 (cn (!r1.2)
 (bd (Zu L a0.Params a1) fun r4=>
 (lf (r4.1,r4.2)))
 (lf (r1.1,r1.2)))))
def A1m(a0:Au)(a1:ByteArray):Option Tu6:=A12 L a0 a1
def Ccz:Ew:=E2 (fun(x:Tu6)=> .tup [I x.1,B x.2]) 259 E9 cS (A1m L) fun a0 a1 r h=>hF Tryz.func259 (oS [Buo L,B4m L]) L (fun kk=>eE (A12 L a0 a1)) h
def A13 [An A Co](a0:Au)(a1:Ab):A:=
 (bd (Aee L a0.Site a1.Name) fun r1=>
 (cn (a1.Op == 1)
 (lf (1,0))
 (cn (a1.Op == 2)
 (lf (2,0))
 (cn (a1.Op == 4)
 (lf (3,0))
 (cn (a1.Op == 3)
 (bd (A1m L a0 a1.Name) fun r2=>
 (cn (!r2.2)
 (lf (0,5))
 (lf (r2.1,0))))
 (cn (a1.Op == 22)
 (cn (!(r1.toList == (⟨#[114,101,115,111,117,114,99,101]⟩:ByteArray).toList))
 (lf (0,5))
 (lf (1,0)))
 (cn (a1.Op == 23)
 (cn (!(r1.toList == (⟨#[115,116,111,114,101]⟩:ByteArray).toList))
 (lf (0,5))
 (lf (1,0)))
 (jp (.cn (!(r1.toList == (⟨#[114,101,115,111,117,114,99,101]⟩:ByteArray).toList))
 (.lf (!(r1.toList == (⟨#[113,117,101,117,101]⟩:ByteArray).toList)))
 (.lf false)) (fun b3=>
 (cn b3
 (lf (0,5))
 (lf (1,0))))))))))))
def A1n(a0:Au)(a1:Ab):Option Co:=A13 L a0 a1
def B4q:Ew:=E2 (fun(x:Co)=> .tup [I x.1,I x.2]) 254 E9 Bh (A1n L) fun a0 a1 r h=>hF Tryz.func254 (oS [Bn3 L,Ccz L]) L (fun kk=>eE (A13 L a0 a1)) h
def Ams [An A Bool](L:Nat)(a0:Int):A:=
 (jp (.cn (a0 == 1)
 (.lf true)
 (.lf (a0 == 3))) (fun b1=>
 (lf b1)))
def Nu(a0:Int):Option Bool:=Ams L a0
def Bup:Ew:=E1 B 237 (cI .i64) (Nu L) fun a0 r h=>hF Tryz.func237 (oS []) L (fun kk=>eE (Ams L a0)) h
def Ayd [An A Int](a0:Int)(a1:Int):A:=
 (jb (.cn (a0 == 5)
 (.bd (Nu L a1) fun r2=>
 (.lf r2))
 (.lf false)) (fun b1=>
 (cn b1
 (lf a1)
 (jp (.cn (a0 == 6)
 (.lf (a1 == 2))
 (.lf false)) (fun b3=>
 (cn b3
 (lf 2)
 (jp (.cn (a0 == 7)
 (.lf (a1 == 1))
 (.lf false)) (fun b4=>
 (cn b4
 (lf 3)
 (jp (.cn (a0 == 8)
 (.lf (a1 == 3))
 (.lf false)) (fun b5=>
 (cn b5
 (lf 1)
 (lf 0)))))))))))))
def Axy(a0:Int)(a1:Int):Option Int:=Ayd L a0 a1
def B4r:Ew:=E2 I 255 (cI .i64) (cI .i64) (Axy L) fun a0 a1 r h=>hF Tryz.func255 (oS [Bup L]) L (fun kk=>eE (Ayd L a0 a1)) h
def Vw:=CC Tryz.f256
def Ahk:Ba:=oL [Bup L]
def Bjj(a1:Int)(a2:Int)(p804_3:Bool):St:=⟨[(1,I a1),(6,I 0),(7,B (a1 == a2)),(67,B p804_3)],[],0⟩
def Bi2(e0:EC):Ax:=(Av 0 (Bb (EV (Ahk L) L 9 e0) (Cm Tryz.prog (RS Tryz.f256) kk)))
def Adn [An A Int](L:Nat)(a1:Int)(a2:Int)(p804_3:Bool):A:=
 (cn p804_3
 (jp (.cn (a1 == a2)
 (.lf (a1 == 2))
 (.lf false)) (fun b11=>
 (cn b11
 (lf 2)
 (lf 0))))
 (lf 0))
theorem Bvo(a1:Int)(a2:Int)(p804_3:Bool):EV (Ahk L) L 9 Vw.w.l.u.l.x.x.r (Bjj a1 a2 p804_3) (Bi2 L kk Vw.w.r)=ob (Adn L a1 a2 p804_3) (kQ I kk):=eE (Adn L a1 a2 p804_3)
def A08(a1:Int)(a2:Int)(a0:Int)(p803_4:Bool):St:=⟨[(1,I a1),(6,I 0),(7,B (a1 == a2)),(11,I a0),(59,B p803_4)],[],0⟩
def A0q(e0:EC):Ax:=(Av 0 (Bb (EV (Ahk L) L 9 e0) (Cm Tryz.prog (RS Tryz.f256) kk)))
def sx_R14_binary_3 [An A Int](a1:Int)(a2:Int)(a0:Int)(p803_4:Bool)(nx4:Int→Int→Bool→A):A:=
 (cn p803_4
 (jb (.cn (a1 == a2)
 (.bd (Nu L a1) fun r10=>
 (.lf r10))
 (.lf false)) (fun b9=>
 (cn b9
 (lf 2)
 (lf 0))))
 (cn (a0 == 18)
 (nx4 a1 a2 (a0 == 18))
 (nx4 a1 a2 (a0 == 19))))
def Al3 [An A Int](a1:Int)(a2:Int)(a0:Int)(p803_4:Bool):A:=sx_R14_binary_3 L a1 a2 a0 p803_4 (fun a1 a2 p804_3=>Adn L a1 a2 p804_3)
theorem Bwf(a1:Int)(a2:Int)(a0:Int)(p803_4:Bool)(z4:EC):EV (Ahk L) L 9 (EC.put (rl [3]) z4 Vw.w.l.u.l.x.w.u) (A08 a1 a2 a0 p803_4) (A0q L kk Vw.w.r)= @sx_R14_binary_3 Prop L (anP (kQ I kk)) a1 a2 a0 p803_4 (fun a1 a2 p804_3=>EV (Ahk L) L 9 z4 (Bjj a1 a2 p804_3) (Bi2 L kk Vw.w.r)):=by kernel_rfl
theorem Bvn(a1:Int)(a2:Int)(a0:Int)(p803_4:Bool):EV (Ahk L) L 9 Vw.w.l.u.l.x.w.u (A08 a1 a2 a0 p803_4) (A0q L kk Vw.w.r)=ob (Al3 L a1 a2 a0 p803_4) (kQ I kk):=Eq.trans (b:=EV (Ahk L) L 9 (EC.put (rl [3]) Vw.w.l.u.l.x.x.r Vw.w.l.u.l.x.w.u) (A08 a1 a2 a0 p803_4) (A0q L kk Vw.w.r)) (by kernel_rfl) ((Bwf L kk a1 a2 a0 p803_4 Vw.w.l.u.l.x.x.r).trans (eE (sx_R14_binary_3 L a1 a2 a0 p803_4 (fun a1 a2 p804_3=>re (Bvo L kk a1 a2 p804_3)))))
def A07(a1:Int)(a2:Int)(a0:Int)(p802_4:Bool):St:=⟨[(1,I a1),(6,I 0),(7,B (a1 == a2)),(11,I a0),(55,B p802_4)],[],0⟩
def A0p(e0:EC):Ax:=(Av 0 (Bb (EV (Ahk L) L 9 e0) (Cm Tryz.prog (RS Tryz.f256) kk)))
def sx_R14_binary_2 [An A Int](L:Nat)(a1:Int)(a2:Int)(a0:Int)(p802_4:Bool)(nx3:Int→Int→Int→Bool→A):A:=
 (cn p802_4
 (cn (a1 == a2)
 (lf 2)
 (lf 0))
 (cn (a0 == 16)
 (nx3 a1 a2 a0 (a0 == 16))
 (nx3 a1 a2 a0 (a0 == 17))))
def Al2 [An A Int](a1:Int)(a2:Int)(a0:Int)(p802_4:Bool):A:=sx_R14_binary_2 L a1 a2 a0 p802_4 (fun a1 a2 a0 p803_4=>Al3 L a1 a2 a0 p803_4)
theorem Bwe(a1:Int)(a2:Int)(a0:Int)(p802_4:Bool)(z3:EC):EV (Ahk L) L 9 (EC.put (rl [3]) z3 Vw.w.l.u.l.x.u.r) (A07 a1 a2 a0 p802_4) (A0p L kk Vw.w.r)= @sx_R14_binary_2 Prop (anP (kQ I kk)) L a1 a2 a0 p802_4 (fun a1 a2 a0 p803_4=>EV (Ahk L) L 9 z3 (A08 a1 a2 a0 p803_4) (A0q L kk Vw.w.r)):=by kernel_rfl
theorem Bvm(a1:Int)(a2:Int)(a0:Int)(p802_4:Bool):EV (Ahk L) L 9 Vw.w.l.u.l.x.u.r (A07 a1 a2 a0 p802_4) (A0p L kk Vw.w.r)=ob (Al2 L a1 a2 a0 p802_4) (kQ I kk):=Eq.trans (b:=EV (Ahk L) L 9 (EC.put (rl [3]) Vw.w.l.u.l.x.w.u Vw.w.l.u.l.x.u.r) (A07 a1 a2 a0 p802_4) (A0p L kk Vw.w.r)) (by kernel_rfl) ((Bwe L kk a1 a2 a0 p802_4 Vw.w.l.u.l.x.w.u).trans (eE (sx_R14_binary_2 L a1 a2 a0 p802_4 (fun a1 a2 a0 p803_4=>re (Bvn L kk a1 a2 a0 p803_4)))))
def A06(a1:Int)(a2:Int)(a0:Int)(p801_5:Bool):St:=⟨[(1,I a1),(2,I a2),(6,I 0),(7,B (a1 == a2)),(11,I a0),(12,B p801_5)],[],0⟩
def A0o(e0:EC):Ax:=(Av 0 (Bb (EV (Ahk L) L 9 e0) (Cm Tryz.prog (RS Tryz.f256) kk)))
def sx_R14_binary_1 [An A Int](a1:Int)(a2:Int)(a0:Int)(p801_5:Bool)(nx2:Int→Int→Int→Bool→A):A:=
 (cn p801_5
 (jb (.cn (a1 == a2)
 (.bd (Nu L a1) fun r2=>
 (.lf r2))
 (.lf false)) (fun b1=>
 (cn b1
 (lf a1)
 (lf 0))))
 (cn (a0 == 11)
 (jb (.cn (a1 == 1)
 (.bd (Nu L a2) fun r4=>
 (.lf r4))
 (.lf false)) (fun b3=>
 (cn b3
 (lf a2)
 (jp (.cn (a1 == 3)
 (.lf (a2 == 1))
 (.lf false)) (fun b5=>
 (cn b5
 (lf a1)
 (lf 0)))))))
 (cn (a0 == 12)
 (bd (Nu L a1) fun r6=>
 (jp (.cn r6
 (.lf (a2 == 1))
 (.lf false)) (fun b7=>
 (cn b7
 (lf a1)
 (jp (.cn (a1 == 3)
 (.lf (a2 == 3))
 (.lf false)) (fun b8=>
 (cn b8
 (lf 1)
 (lf 0))))))))
 (cn (a0 == 14)
 (nx2 a1 a2 a0 (a0 == 14))
 (nx2 a1 a2 a0 (a0 == 15))))))
def Al1 [An A Int](a1:Int)(a2:Int)(a0:Int)(p801_5:Bool):A:=sx_R14_binary_1 L a1 a2 a0 p801_5 (fun a1 a2 a0 p802_4=>Al2 L a1 a2 a0 p802_4)
theorem Bwd(a1:Int)(a2:Int)(a0:Int)(p801_5:Bool)(z2:EC):EV (Ahk L) L 9 (EC.put (rl [9]) z2 Vw.w.l.u.l.u) (A06 a1 a2 a0 p801_5) (A0o L kk Vw.w.r)= @sx_R14_binary_1 Prop L (anP (kQ I kk)) a1 a2 a0 p801_5 (fun a1 a2 a0 p802_4=>EV (Ahk L) L 9 z2 (A07 a1 a2 a0 p802_4) (A0p L kk Vw.w.r)):=by kernel_rfl
theorem Bvl(a1:Int)(a2:Int)(a0:Int)(p801_5:Bool):EV (Ahk L) L 9 Vw.w.l.u.l.u (A06 a1 a2 a0 p801_5) (A0o L kk Vw.w.r)=ob (Al1 L a1 a2 a0 p801_5) (kQ I kk):=Eq.trans (b:=EV (Ahk L) L 9 (EC.put (rl [9]) Vw.w.l.u.l.x.u.r Vw.w.l.u.l.u) (A06 a1 a2 a0 p801_5) (A0o L kk Vw.w.r)) (by kernel_rfl) ((Bwd L kk a1 a2 a0 p801_5 Vw.w.l.u.l.x.u.r).trans (eE (sx_R14_binary_1 L a1 a2 a0 p801_5 (fun a1 a2 a0 p802_4=>re (Bvm L kk a1 a2 a0 p802_4)))))
def sx_R14_binary_0 [An A Int](L:Nat)(a0:Int)(a1:Int)(a2:Int)(nx1:Int→Int→Int→Bool→A):A:=
 (cn (a0 == 9)
 (nx1 a1 a2 a0 (a0 == 9))
 (cn (a0 == 10)
 (nx1 a1 a2 a0 (a0 == 10))
 (cn (a0 == 13)
 (nx1 a1 a2 a0 (a0 == 13))
 (cn (a0 == 20)
 (nx1 a1 a2 a0 (a0 == 20))
 (nx1 a1 a2 a0 (a0 == 21))))))
def A7c [An A Int](a0:Int)(a1:Int)(a2:Int):A:=sx_R14_binary_0 L a0 a1 a2 (fun a1 a2 a0 p801_5=>Al1 L a1 a2 a0 p801_5)
theorem Bwc(a0:Int)(a1:Int)(a2:Int)(z1:EC):EW (Ahk L) L 9 (RS Tryz.f256) (EC.put (rl [4,1,2,1,2]) z1 Vw) [I a0,I a1,I a2] kk= @sx_R14_binary_0 Prop (anP (kQ I kk)) L a0 a1 a2 (fun a1 a2 a0 p801_5=>EV (Ahk L) L 9 z1 (A06 a1 a2 a0 p801_5) (A0o L kk Vw.w.r)):=by kernel_rfl
def As6(a0:Int)(a1:Int)(a2:Int):Option Int:=A7c L a0 a1 a2
def B4s:Ew:=E3 I 256 (cI .i64) (cI .i64) (cI .i64) (As6 L) fun a0 a1 a2 r h=>hF Tryz.func256 (C:=Ahk L) (oS _) L (fun kk=>Eq.trans (b:=EW (Ahk L) L 9 (RS Tryz.f256) (EC.put (rl [4,1,2,1,2]) Vw.w.l.u.l.u Vw) [I a0,I a1,I a2] kk) (by kernel_rfl) ((Bwc L kk a0 a1 a2 Vw.w.l.u.l.u).trans (eE (sx_R14_binary_0 L a0 a1 a2 (fun a1 a2 a0 p801_5=>re (Bvl L kk a1 a2 a0 p801_5)))))) h
def Bfm(F:Au→Ab→Option Co):Prop:=∀y0 y1 r,F y0 y1=some r→Ho Tryz.prog 251 [E9.en y0,Bh.en y1] (fun(x:Co)=> .tup [I x.1,I x.2]) r
def Ceu:=CC Tryz.f251
def B3w(Hr:Au→Ab→Option Co)(L:Nat):Ba:=(orc 251 (A2 (fun(x:Co)=> .tup [I x.1,I x.2]) E9 Bh Hr) (oL [B4q L,B4r L,B4s L]))
theorem Cl0(Hr:Au→Ab→Option Co)(Bph:Bfm Hr)(L:Nat):Dm Tryz.prog (B3w Hr L):=(Dt (a2 _ Bph) (oS [B4q L,B4r L,B4s L]))
def Cfg(kk:Cz):Co→Prop:=fun x=>kk ((fun(x:Co)=> .tup [I x.1,I x.2]) x)
def Bkz(a0:Au)(a1:Ab)(v:Int×Int×List Int×Int):St:=⟨[(0,.any),(1,.any),(2,.loc 2 0),(3,.loc 3 0),(4,I v.1),(5,I v.2.1),(6,.lst true (.t37 v.2.2.1)),(7,I v.2.2.2),(10,.any),(46,.any),(53,.any)],[(2,(Nj a0)),(3,(Er a1))],0⟩
def Anv [An A (Nat×Int×Int×List Int×Int)](Hr:Au→Ab→Option Co)(L:Nat)(a0:Au)(a1:Ab)(rec:Int→Int→List Int→Int→A)(Al:Int)(Aj:Int)(Ak:List Int)(Ai:Int):A:=
 (lw Ai a1.Kids
 (bd (Hr a0 (Ab.cp (a1.Kids.getD (Int.toNat Ai) default))) fun r1=>
 (cn (r1.2 != 0)
 (lf (0,0,r1.2,Ak,Ai))
 (gq ((Ak.length+ [r1.1].length)*8≤140737488355328)
 (gq (Ak.length+ [r1.1].length≤maxLen)
 (rec Al Aj (Ak++ [r1.1]) (B6 (Ai+1)))))))
 (lf (1,Al,Aj,Ak,Ai)))
def Aff(Hr:Au→Ab→Option Co)(L:Nat)(a0:Au)(a1:Ab):Nat→Int→Int→List Int→Int→Option (Nat×Int×Int×List Int×Int)
 |0,_,_,_,_=>none
 |n+1,Al,Aj,Ak,Ai=>Anv Hr L a0 a1 (Aff Hr L a0 a1 n) Al Aj Ak Ai
theorem Bzh(Hr:Au→Ab→Option Co)(L:Nat)(K:Ax)(a0:Au)(a1:Ab):LP (EV (B3w Hr L) L 9 Ceu.w.l.u.l.l) [0,1,2,3,4,5,6,7,10,46,53] [2,3] (Bkz a0 a1) [.ret,.exit 0] (fun n v=>Aff Hr L a0 a1 n v.1 v.2.1 v.2.2.1 v.2.2.2) K:=lE (fun _=>rfl) fun n v ih=>eE (Anv Hr L a0 a1 (fun Al Aj Ak Ai=>re (ih (Al,Aj,Ak,Ai))) v.1 v.2.1 v.2.2.1 v.2.2.2)
def Agb [An A Co](Hr:Au→Ab→Option Co)(L:Nat)(a0:Au)(a1:Ab)(o2:Nat×Int×Int×List Int×Int):A:=
 (sl o2.1 [(lf (o2.2.1,o2.2.2.1)),
 (cn ((o2.2.2.2.1.length:Int) == 0)
 (bd (A1n L a0 (Ab.cp a1)) fun r3=>
 (lf (r3.1,r3.2)))
 (cn ((o2.2.2.2.1.length:Int) == 1)
 (gi 0 o2.2.2.2.1
 (bd (Axy L a1.Op (o2.2.2.2.1.getD 0 default)) fun r4=>
 (cn (r4 == 0)
 (lf (0,10))
 (lf (r4,0)))))
 (gi 0 o2.2.2.2.1
 (gi 1 o2.2.2.2.1
 (bd (As6 L a1.Op (o2.2.2.2.1.getD 0 default) (o2.2.2.2.1.getD 1 default)) fun r5=>
 (cn (r5 == 0)
 (lf (0,10))
 (lf (r5,0))))))))])
def Bh0(Hr:Au→Ab→Option Co)(L:Nat)(kk:Cz):Ax:=(Av 0 (Bb (EV (B3w Hr L) L 9 Ceu.w.r) (Cm Tryz.prog (RS Tryz.f251) kk)))
theorem B9s(Hr:Au→Ab→Option Co)(L:Nat)(kk:Cz)(a0:Au)(a1:Ab)(o2:Nat×Int×Int×List Int×Int):kX [.ret,.exit 0] (Bkz a0 a1) (Bh0 Hr L kk) o2=ob (Agb Hr L a0 a1 o2) (Cfg kk):=eE (Agb Hr L a0 a1 o2)
def A9m [An A Co](Hr:Au→Ab→Option Co)(L:Nat)(a0:Au)(a1:Ab):A:=(bd (Aff Hr L a0 a1 L 0 0 [] 0) fun o2=>Agb Hr L a0 a1 o2)
def Axl(Hr:Au→Ab→Option Co)(L:Nat)(a0:Au)(a1:Ab):Option Co:=A9m Hr L a0 a1
theorem Cj8(Hr:Au→Ab→Option Co)(Bph:Bfm Hr)(L:Nat):Bfm (Axl Hr L):=fun a0 a1 r h=>hF Tryz.func251 (Cl0 Hr Bph L) L (fun kk=>eE ((ho (Bzh Hr L (Bh0 Hr L kk) a0 a1 L (0,0,[],0)) fun o2=>B9s Hr L kk a0 a1 o2))) h
def Ab4:Nat→Au→Ab→Option Co
 |0,_,_=>none
 |L+1,a0,a1=>Axl (Ab4 L) L a0 a1
theorem Bw2(L:Nat):Bfm (Ab4 L):=by
 induction L with
 |zero=>exact fun _ _ _ h=>(by cases h)
 |succ L ih=>
  have i251:=ih
  exact Cj8 (Ab4 L) i251 L
def Ccv(L:Nat):Ew:=E2 (fun(x:Co)=> .tup [I x.1,I x.2]) 251 E9 Bh (Ab4 L) (Bw2 L)
def A11 [An A Co](a0:Au)(a1:Ab):A:=
 (bd (Zg L (Ab.cp a1)) fun r1=>
 (cn (r1 != 0)
 (lf (0,r1))
 (bd (Ab4 L a0 (Ab.cp a1)) fun r2=>
 (lf (r2.1,r2.2)))))
def A1l(a0:Au)(a1:Ab):Option Co:=A11 L a0 a1
def Ccp:Ew:=E2 (fun(x:Co)=> .tup [I x.1,I x.2]) 238 E9 Bh (A1l L) fun a0 a1 r h=>hF Tryz.func238 (oS [B4p L,Ccv L]) L (fun kk=>eE (A11 L a0 a1)) h
def A5k [An A Int](a0:Au)(a1:Ab)(a2:Int)(a3:Int):A:=
 (bd (A1l L a0 (Ab.cp a1)) fun r1=>
 (jp (.cn (r1.2 == 0)
 (.lf (r1.1 != a2))
 (.lf false)) (fun b2=>
 (jp (.cn b2
 (.lf (r1.1 != a3))
 (.lf false)) (fun b3=>
 (cn b3
 (lf 10)
 (lf r1.2)))))))
def Re(a0:Au)(a1:Ab)(a2:Int)(a3:Int):Option Int:=A5k L a0 a1 a2 a3
def Bun:Ew:=E4 I 211 E9 Bh (cI .i64) (cI .i64) (Re L) fun a0 a1 a2 a3 r h=>hF Tryz.func211 (oS [Ccp L]) L (fun kk=>eE (A5k L a0 a1 a2 a3)) h
def A5l [An A Int](a0:Au)(a1:Ad):A:=
 (bd (Agw L a0.Locals a1.Name) fun r1=>
 (cn (a1.Op == 1)
 (cn (!r1.2)
 (bd (Zu L a0.Site.Vars a1.Name) fun r2=>
 (cn (!r2.2)
 (lf 5)
 (bd (Re L a0 (Ab.cp a1.E) r2.1 r2.1) fun r3=>
 (lf r3))))
 (cn (!r1.2)
 (lf 5)
 (bd (Re L a0 (Ab.cp a1.E) r1.1 r1.1) fun r4=>
 (lf r4))))
 (jb (.cn (!r1.2)
 (.lf true)
 (.bd (Aee L a0.Site a1.Of) fun r6=>
 (.lf (!(r6.toList == (⟨#[115,116,114,101,97,109]⟩:ByteArray).toList))))) (fun b5=>
 (cn b5
 (lf 5)
 (bd (Nu L r1.1) fun r7=>
 (cn (!r7)
 (lf 10)
 (lf 0))))))))
def A5i(a0:Au)(a1:Ad):Option Int:=A5l L a0 a1
def Ccb:Ew:=E2 I 210 E9 Hi (A5i L) fun a0 a1 r h=>hF Tryz.func210 (oS [Bn3 L,Bun L,Buo L,B4m L,Bup L]) L (fun kk=>eE (A5l L a0 a1)) h
def Cep:=CC Tryz.f239
def B3t:Ba:=oL [Bun L]
def Bkw(a2:List Ao)(a0:Au)(a1:Ad)(v:Co):St:=⟨[(0,.any),(1,.any),(2,lv (.t127 a2)),(3,.loc 3 0),(4,.loc 4 0),(6,I v.1),(7,I v.2)],[(3,(Nj a0)),(4,(D5 a1))],0⟩
def Aqr [An A B7](a2:List Ao)(a0:Au)(a1:Ad)(rec:Int→Int→A)(Aj:Int)(Ak:Int):A:=
 (cn (decide (Ak < (a2.length:Int)))
 (gi Ak a1.Args
 (gi Ak a2
 (gi Ak a2
 (bd (Re L a0 (Ab.cp (a1.Args.getD (Int.toNat Ak) default)) ((a2.getD (Int.toNat Ak) default).Type_) ((a2.getD (Int.toNat Ak) default).Type_)) fun r1=>
 (cn (r1 != 0)
 (lf (0,r1,Ak))
 (rec Aj (B6 (Ak+1))))))))
 (lf (1,Aj,Ak)))
def Ah7(L:Nat)(a2:List Ao)(a0:Au)(a1:Ad):Nat→Int→Int→Option B7
 |0,_,_=>none
 |n+1,Aj,Ak=>Aqr L a2 a0 a1 (Ah7 L a2 a0 a1 n) Aj Ak
theorem Bze(a2:List Ao)(a0:Au)(a1:Ad):LP (EV (B3t L) L 9 Cep.w.l.u.l.l) [0,1,2,3,4,6,7] [3,4] (Bkw a2 a0 a1) [.ret,.exit 0] (fun n v=>Ah7 L a2 a0 a1 n v.1 v.2) K:=lE (fun _=>rfl) fun n v ih=>eE (Aqr L a2 a0 a1 (fun Aj Ak=>re (ih (Aj,Ak))) v.1 v.2)
def Aim [An A Int](a0:Au)(a1:Ad)(o2:Nat×Co):A:=
 (sl o2.1 [(lf o2.2.1),
 (bd (Re L a0 (Ab.cp a1.E) 3 3) fun r3=>
 (lf r3))])
def Bhx:Ax:=(Av 0 (Bb (EV (B3t L) L 9 Cep.w.r) (Cm Tryz.prog (RS Tryz.f239) kk)))
theorem B9p(a2:List Ao)(a0:Au)(a1:Ad)(o2:Nat×Co):kX [.ret,.exit 0] (Bkw a2 a0 a1) (Bhx L kk) o2=ob (Aim L a0 a1 o2) (kQ I kk):=eE (Aim L a0 a1 o2)
def Ark [An A Int](L:Nat)(a0:Au)(a1:Ad)(a2:List Ao)(nx1:A):A:=
 (cn ((a1.Args.length:Int) != (a2.length:Int))
 (lf 8)
 nx1)
def Bcz [An A Int](a0:Au)(a1:Ad)(a2:List Ao):A:=Ark L a0 a1 a2 (bd (Ah7 L a2 a0 a1 L 0 0) fun o2=>Aim L a0 a1 o2)
def Aro(a0:Au)(a1:Ad)(a2:List Ao):Option Int:=Bcz L a0 a1 a2
def Ccq:Ew:=E3 I 239 E9 Hi A2e (Aro L) fun a0 a1 a2 r h=>hF Tryz.func239 (C:=B3t L) (oS _) L (fun kk=>eE (Ark L a0 a1 a2 (ho (Bze L (Bhx L kk) a2 a0 a1 L (0,0)) fun o2=>B9p L kk a2 a0 a1 o2))) h
def Ceq:=CC Tryz.f240
def B3u(L:Nat):Ba:=oL []
def Cff:Tu6→Prop:=fun x=>kk ((fun(x:Tu6)=> .tup [I x.1,B x.2]) x)
def Bkx(a1:ByteArray)(a2:ByteArray)(a0:Ac)(v:Tu7):St:=⟨[(0,.any),(1,S a1),(2,S a2),(3,.loc 3 0),(6,I v.1),(7,B v.2.1),(8,I v.2.2)],[(3,(Aq a0))],0⟩
def Aqm [An A (Nat×Tu7)](L:Nat)(a1:ByteArray)(a2:ByteArray)(a0:Ac)(rec:Int→Bool→Int→A)(Ak:Int)(Ai:Bool)(Bp:Int):A:=
 (lw Bp a0.Links
 (jb (.cn (((a0.Links.getD (Int.toNat Bp) default).From).toList == a1.toList)
 (.gq (0≤Bp)
 (.gq (Bp < (a0.Links.length:Int))
 (.lf (((a0.Links.getD (Int.toNat Bp) default).To).toList == a2.toList))))
 (.lf false)) (fun b1=>
 (cn b1
 (gi Bp a0.Links
 (lf (0,(((a0.Links.getD (Int.toNat Bp) default).Delay),true,Bp))))
 (rec Ak Ai (B6 (Bp+1))))))
 (lf (1,Ak,Ai,Bp)))
def Ah2(L:Nat)(a1:ByteArray)(a2:ByteArray)(a0:Ac):Nat→Int→Bool→Int→Option (Nat×Tu7)
 |0,_,_,_=>none
 |n+1,Ak,Ai,Bp=>Aqm L a1 a2 a0 (Ah2 L a1 a2 a0 n) Ak Ai Bp
theorem Bzf(a1:ByteArray)(a2:ByteArray)(a0:Ac):LP (EV (B3u L) L 9 Ceq.u.l.u.l.l) [0,1,2,3,6,7,8] [3] (Bkx a1 a2 a0) [.ret,.exit 0] (fun n v=>Ah2 L a1 a2 a0 n v.1 v.2.1 v.2.2) K:=lE (fun _=>rfl) fun n v ih=>eE (Aqm L a1 a2 a0 (fun Ak Ai Bp=>re (ih (Ak,Ai,Bp))) v.1 v.2.1 v.2.2)
def Aii [An A Tu6](L:Nat)(o2:Nat×Tu7):A:=
 (sl o2.1 [(lf (o2.2.1,o2.2.2.1)),
 (lf (0,false))])
def Bhy:Ax:=(Av 0 (Bb (EV (B3u L) L 9 Ceq.u.r) (Cm Tryz.prog (RS Tryz.f240) kk)))
theorem B9q(a1:ByteArray)(a2:ByteArray)(a0:Ac)(o2:Nat×Tu7):kX [.ret,.exit 0] (Bkx a1 a2 a0) (Bhy L kk) o2=ob (Aii L o2) (Cff kk):=eE (Aii L o2)
def Bcv [An A Tu6](a0:Ac)(a1:ByteArray)(a2:ByteArray):A:=(bd (Ah2 L a1 a2 a0 L 0 false 0) fun o2=>Aii L o2)
def A1i(a0:Ac)(a1:ByteArray)(a2:ByteArray):Option Tu6:=Bcv L a0 a1 a2
def Ccr:Ew:=E3 (fun(x:Tu6)=> .tup [I x.1,B x.2]) 240 Cq cS cS (A1i L) fun a0 a1 a2 r h=>hF Tryz.func240 (C:=B3u L) (oS _) L (fun kk=>eE ((ho (Bzf L (Bhy L kk) a1 a2 a0 L (0,false,0)) fun o2=>B9q L kk a1 a2 a0 o2))) h
def Ayb [An A Int](a0:Ac)(a1:Au)(a2:Ad):A:=
 (cn (a2.Op == 14)
 (bd (Xp L a1.Site a2.Name) fun r1=>
 (cn (decide (r1 < 0))
 (lf 5)
 (gi r1 a1.Site.Routines
 (bd (Aro L a1 (Ad.cp a2) ((a1.Site.Routines.getD (Int.toNat r1) default).Params)) fun r2=>
 (lf r2)))))
 (bd (Ake L a0 a2.Of) fun r3=>
 (cn (decide (r3 < 0))
 (lf 5)
 (gi r3 a0.Sites
 (bd (Xp L (a0.Sites.getD (Int.toNat r3) default) a2.Name) fun r4=>
 (cn (decide (r4 < 0))
 (lf 5)
 (bd (A1i L a0 a1.Site.Name a2.Of) fun r5=>
 (cn (!r5.2)
 (lf 16)
 (gi r3 a0.Sites
 (gi r3 a0.Sites
 (bd (Xp L (a0.Sites.getD (Int.toNat r3) default) a2.Name) fun r6=>
 (gi r6 ((a0.Sites.getD (Int.toNat r3) default).Routines)
 (bd (Aro L a1 (Ad.cp a2) ((((a0.Sites.getD (Int.toNat r3) default).Routines).getD (Int.toNat r6) default).Params)) fun r7=>
 (lf r7))))))))))))))
def Axw(a0:Ac)(a1:Au)(a2:Ad):Option Int:=Ayb L a0 a1 a2
def Ccc:Ew:=E3 I 213 Cq E9 Hi (Axw L) fun a0 a1 a2 r h=>hF Tryz.func213 (oS [B30 L,B4g L,Ccq L,Ccr L]) L (fun kk=>eE (Ayb L a0 a1 a2)) h
def Vv:=CC Tryz.f160
def Ahj:Ba:=oL [Cca L,Bn3 L,Ccb L,Bun L,Buo L,Ccc L]
def Bje(a0:Ac)(a1:Au)(a2:Ad)(p804_1:Bool):St:=⟨[(4,.loc 4 0),(5,.loc 5 0),(6,I 0),(86,B p804_1)],[(3,(Aq a0)),(4,(Nj a1)),(5,(D5 a2))],0⟩
def Bix(e0:EC):Ax:=(Av 0 (Bb (EV (Ahj L) L 9 e0) (Cm Tryz.prog (RS Tryz.f160) kk)))
def Ain [An A Int](a0:Ac)(a1:Au)(a2:Ad)(p804_1:Bool):A:=
 (cn p804_1
 (bd (Re L a1 (Ab.cp a2.E) 1 1) fun r12=>
 (lf r12))
 (lf 0))
theorem Bu7(a0:Ac)(a1:Au)(a2:Ad)(p804_1:Bool):EV (Ahj L) L 9 Vv.w.u.l.u.l.x.x.w.u.r (Bje a0 a1 a2 p804_1) (Bix L kk Vv.w.u.r)=ob (Ain L a0 a1 a2 p804_1) (kQ I kk):=eE (Ain L a0 a1 a2 p804_1)
def A0w(a2:Ad)(a0:Ac)(a1:Au)(p803_2:Bool):St:=⟨[(3,.loc 3 0),(4,.loc 4 0),(5,.loc 5 0),(6,I 0),(26,I a2.Op),(73,B p803_2)],[(3,(Aq a0)),(4,(Nj a1)),(5,(D5 a2))],0⟩
def A0e(e0:EC):Ax:=(Av 0 (Bb (EV (Ahj L) L 9 e0) (Cm Tryz.prog (RS Tryz.f160) kk)))
def sx_R14_stmt_3 [An A Int](a2:Ad)(a0:Ac)(a1:Au)(p803_2:Bool)(nx4:Ac→Au→Ad→Bool→A):A:=
 (cn p803_2
 (bd (Axw L a0 a1 (Ad.cp a2)) fun r10=>
 (lf r10))
 (cn (a2.Op == 15)
 (bd (Re L a1 (Ab.cp a2.E) 1 3) fun r11=>
 (lf r11))
 (cn (a2.Op == 7)
 (nx4 a0 a1 a2 (a2.Op == 7))
 (cn (a2.Op == 8)
 (nx4 a0 a1 a2 (a2.Op == 8))
 (cn (a2.Op == 12)
 (nx4 a0 a1 a2 (a2.Op == 12))
 (cn (a2.Op == 16)
 (nx4 a0 a1 a2 (a2.Op == 16))
 (nx4 a0 a1 a2 (a2.Op == 17))))))))
def Arc [An A Int](a2:Ad)(a0:Ac)(a1:Au)(p803_2:Bool):A:=sx_R14_stmt_3 L a2 a0 a1 p803_2 (fun a0 a1 a2 p804_1=>Ain L a0 a1 a2 p804_1)
theorem Bvy(a2:Ad)(a0:Ac)(a1:Au)(p803_2:Bool)(z4:EC):EV (Ahj L) L 9 (EC.put (rl [6]) z4 Vv.w.u.l.u.l.x.x.r) (A0w a2 a0 a1 p803_2) (A0e L kk Vv.w.u.r)= @sx_R14_stmt_3 Prop L (anP (kQ I kk)) a2 a0 a1 p803_2 (fun a0 a1 a2 p804_1=>EV (Ahj L) L 9 z4 (Bje a0 a1 a2 p804_1) (Bix L kk Vv.w.u.r)):=by kernel_rfl
theorem Bu6(a2:Ad)(a0:Ac)(a1:Au)(p803_2:Bool):EV (Ahj L) L 9 Vv.w.u.l.u.l.x.x.r (A0w a2 a0 a1 p803_2) (A0e L kk Vv.w.u.r)=ob (Arc L a2 a0 a1 p803_2) (kQ I kk):=Eq.trans (b:=EV (Ahj L) L 9 (EC.put (rl [6]) Vv.w.u.l.u.l.x.x.w.u.r Vv.w.u.l.u.l.x.x.r) (A0w a2 a0 a1 p803_2) (A0e L kk Vv.w.u.r)) (by kernel_rfl) ((Bvy L kk a2 a0 a1 p803_2 Vv.w.u.l.u.l.x.x.w.u.r).trans (eE (sx_R14_stmt_3 L a2 a0 a1 p803_2 (fun a0 a1 a2 p804_1=>re (Bu7 L kk a0 a1 a2 p804_1)))))
def A0v(a2:Ad)(a0:Ac)(a1:Au)(p802_2:Bool):St:=⟨[(3,.loc 3 0),(4,.loc 4 0),(5,.loc 5 0),(6,I 0),(26,I a2.Op),(33,B p802_2)],[(3,(Aq a0)),(4,(Nj a1)),(5,(D5 a2))],0⟩
def A0d(e0:EC):Ax:=(Av 0 (Bb (EV (Ahj L) L 9 e0) (Cm Tryz.prog (RS Tryz.f160) kk)))
def sx_R14_stmt_2 [An A Int](a2:Ad)(a0:Ac)(a1:Au)(p802_2:Bool)(nx3:Ad→Ac→Au→Bool→A):A:=
 (cn p802_2
 (bd (Re L a1 (Ab.cp a2.E) 2 2) fun r5=>
 (lf r5))
 (cn (a2.Op == 5)
 (bd (Re L a1 (Ab.cp a2.E) 3 3) fun r6=>
 (lf r6))
 (cn (a2.Op == 6)
 (bd (Re L a1 (Ab.cp a2.E) 1 1) fun r7=>
 (cn (r7 != 0)
 (lf r7)
 (bd (Re L a1 (Ab.cp a2.F) 1 1) fun r8=>
 (lf r8))))
 (cn (a2.Op == 9)
 (bd (Agw L a1.Locals a2.Of) fun r9=>
 (cn (!r9.2)
 (lf 5)
 (cn (r9.1 != 1)
 (lf 10)
 (lf 0))))
 (cn (a2.Op == 13)
 (nx3 a2 a0 a1 (a2.Op == 13))
 (nx3 a2 a0 a1 (a2.Op == 14)))))))
def Arb [An A Int](a2:Ad)(a0:Ac)(a1:Au)(p802_2:Bool):A:=sx_R14_stmt_2 L a2 a0 a1 p802_2 (fun a2 a0 a1 p803_2=>Arc L a2 a0 a1 p803_2)
theorem Bvx(a2:Ad)(a0:Ac)(a1:Au)(p802_2:Bool)(z3:EC):EV (Ahj L) L 9 (EC.put (rl [12]) z3 Vv.w.u.l.u.l.w.r) (A0v a2 a0 a1 p802_2) (A0d L kk Vv.w.u.r)= @sx_R14_stmt_2 Prop L (anP (kQ I kk)) a2 a0 a1 p802_2 (fun a2 a0 a1 p803_2=>EV (Ahj L) L 9 z3 (A0w a2 a0 a1 p803_2) (A0e L kk Vv.w.u.r)):=by kernel_rfl
theorem Bu5(a2:Ad)(a0:Ac)(a1:Au)(p802_2:Bool):EV (Ahj L) L 9 Vv.w.u.l.u.l.w.r (A0v a2 a0 a1 p802_2) (A0d L kk Vv.w.u.r)=ob (Arb L a2 a0 a1 p802_2) (kQ I kk):=Eq.trans (b:=EV (Ahj L) L 9 (EC.put (rl [12]) Vv.w.u.l.u.l.x.x.r Vv.w.u.l.u.l.w.r) (A0v a2 a0 a1 p802_2) (A0d L kk Vv.w.u.r)) (by kernel_rfl) ((Bvx L kk a2 a0 a1 p802_2 Vv.w.u.l.u.l.x.x.r).trans (eE (sx_R14_stmt_2 L a2 a0 a1 p802_2 (fun a2 a0 a1 p803_2=>re (Bu6 L kk a2 a0 a1 p803_2)))))
def A0u(a2:Ad)(a0:Ac)(a1:Au)(p801_2:Bool):St:=⟨[(3,.loc 3 0),(4,.loc 4 0),(5,.loc 5 0),(6,I 0),(26,I a2.Op),(27,B p801_2)],[(3,(Aq a0)),(4,(Nj a1)),(5,(D5 a2))],0⟩
def A0c(e0:EC):Ax:=(Av 0 (Bb (EV (Ahj L) L 9 e0) (Cm Tryz.prog (RS Tryz.f160) kk)))
def sx_R14_stmt_1 [An A Int](a2:Ad)(a0:Ac)(a1:Au)(p801_2:Bool)(nx2:Ad→Ac→Au→Bool→A):A:=
 (cn p801_2
 (bd (A5i L a1 (Ad.cp a2)) fun r4=>
 (lf r4))
 (cn (a2.Op == 3)
 (nx2 a2 a0 a1 (a2.Op == 3))
 (nx2 a2 a0 a1 (a2.Op == 4))))
def Ara [An A Int](a2:Ad)(a0:Ac)(a1:Au)(p801_2:Bool):A:=sx_R14_stmt_1 L a2 a0 a1 p801_2 (fun a2 a0 a1 p802_2=>Arb L a2 a0 a1 p802_2)
theorem Bvw(a2:Ad)(a0:Ac)(a1:Au)(p801_2:Bool)(z2:EC):EV (Ahj L) L 9 (EC.put (rl [3]) z2 Vv.w.u.l.u.l.u) (A0u a2 a0 a1 p801_2) (A0c L kk Vv.w.u.r)= @sx_R14_stmt_1 Prop L (anP (kQ I kk)) a2 a0 a1 p801_2 (fun a2 a0 a1 p802_2=>EV (Ahj L) L 9 z2 (A0v a2 a0 a1 p802_2) (A0d L kk Vv.w.u.r)):=by kernel_rfl
theorem Bu4(a2:Ad)(a0:Ac)(a1:Au)(p801_2:Bool):EV (Ahj L) L 9 Vv.w.u.l.u.l.u (A0u a2 a0 a1 p801_2) (A0c L kk Vv.w.u.r)=ob (Ara L a2 a0 a1 p801_2) (kQ I kk):=Eq.trans (b:=EV (Ahj L) L 9 (EC.put (rl [3]) Vv.w.u.l.u.l.w.r Vv.w.u.l.u.l.u) (A0u a2 a0 a1 p801_2) (A0c L kk Vv.w.u.r)) (by kernel_rfl) ((Bvw L kk a2 a0 a1 p801_2 Vv.w.u.l.u.l.w.r).trans (eE (sx_R14_stmt_1 L a2 a0 a1 p801_2 (fun a2 a0 a1 p802_2=>re (Bu5 L kk a2 a0 a1 p802_2)))))
def sx_R14_stmt_0 [An A Int](a0:Ac)(a1:Au)(a2:Ad)(nx1:Ad→Ac→Au→Bool→A):A:=
 (bd (Axx L a2.Op) fun r1=>
 (jb (.cn (!(r1.toList == (⟨#[]⟩:ByteArray).toList))
 (.bd (Aee L a1.Site a2.Name) fun r3=>
 (.lf (!(r3.toList == r1.toList))))
 (.lf false)) (fun b2=>
 (cn b2
 (lf 5)
 (cn (a2.Op == 1)
 (nx1 a2 a0 a1 (a2.Op == 1))
 (nx1 a2 a0 a1 (a2.Op == 2)))))))
def Bc0 [An A Int](a0:Ac)(a1:Au)(a2:Ad):A:=sx_R14_stmt_0 L a0 a1 a2 (fun a2 a0 a1 p801_2=>Ara L a2 a0 a1 p801_2)
theorem Bvv(a0:Ac)(a1:Au)(a2:Ad)(z1:EC):EW (Ahj L) L 9 (RS Tryz.f160) (EC.put (rl [6,1,2,1,2]) z1 Vv) [.agg (Aq a0),.agg (Nj a1),.agg (D5 a2)] kk= @sx_R14_stmt_0 Prop L (anP (kQ I kk)) a0 a1 a2 (fun a2 a0 a1 p801_2=>EV (Ahj L) L 9 z1 (A0u a2 a0 a1 p801_2) (A0c L kk Vv.w.u.r)):=by kernel_rfl
def A1o(a0:Ac)(a1:Au)(a2:Ad):Option Int:=Bc0 L a0 a1 a2
def B31:Ew:=E3 I 160 Cq E9 Hi (A1o L) fun a0 a1 a2 r h=>hF Tryz.func160 (C:=Ahj L) (oS _) L (fun kk=>Eq.trans (b:=EW (Ahj L) L 9 (RS Tryz.f160) (EC.put (rl [6,1,2,1,2]) Vv.w.u.l.u.l.u Vv) [.agg (Aq a0),.agg (Nj a1),.agg (D5 a2)] kk) (by kernel_rfl) ((Bvv L kk a0 a1 a2 Vv.w.u.l.u.l.u).trans (eE (sx_R14_stmt_0 L a0 a1 a2 (fun a2 a0 a1 p801_2=>re (Bu4 L kk a2 a0 a1 p801_2)))))) h
def Bui(F:Ac→Au→(List Ad)→Option Int):Prop:=∀y0 y1 y2 r,F y0 y1 y2=some r→Ho Tryz.prog 88 [Cq.en y0,E9.en y1,Tw.en y2] I r
def c88:=CC Tryz.f88
def O88(Lt:Ac→Au→(List Ad)→Option Int)(L:Nat):Ba:=(orc 88 (A3 I Cq E9 Tw Lt) (oL [B31 L]))
theorem s88(Lt:Ac→Au→(List Ad)→Option Int)(B5n:Bui Lt)(L:Nat):Dm Tryz.prog (O88 Lt L):=(Dt (a3 _ B5n) (oS [B31 L]))
def Bs7(a2:List Ad)(a0:Ac)(a1:Au)(v:Co):St:=⟨[(0,.any),(1,.any),(2,lv (.t96 a2)),(3,.loc 3 0),(4,.loc 4 0),(6,I v.1),(7,I v.2)],[(3,(Aq a0)),(4,(Nj a1))],0⟩
def Anu [An A B7](Lt:Ac→Au→(List Ad)→Option Int)(L:Nat)(a2:List Ad)(a0:Ac)(a1:Au)(rec:Int→Int→A)(Aj:Int)(Ak:Int):A:=
 (lw Ak a2
 (bd (A1o L a0 a1 (Ad.cp (a2.getD (Int.toNat Ak) default))) fun r1=>
 (cn (r1 == 0)
 (gi Ak a2
 (bd (Lt a0 a1 ((a2.getD (Int.toNat Ak) default).Body)) fun r2=>
 (cn (r2 == 0)
 (gi Ak a2
 (bd (Lt a0 a1 ((a2.getD (Int.toNat Ak) default).Else)) fun r3=>
 (cn (r3 != 0)
 (lf (0,r3,Ak))
 (rec Aj (B6 (Ak+1))))))
 (cn (r2 != 0)
 (lf (0,r2,Ak))
 (rec Aj (B6 (Ak+1)))))))
 (cn (r1 == 0)
 (gi Ak a2
 (bd (Lt a0 a1 ((a2.getD (Int.toNat Ak) default).Else)) fun r4=>
 (cn (r4 != 0)
 (lf (0,r4,Ak))
 (rec Aj (B6 (Ak+1))))))
 (cn (r1 != 0)
 (lf (0,r1,Ak))
 (rec Aj (B6 (Ak+1)))))))
 (lf (1,Aj,Ak)))
def Afe(Lt:Ac→Au→(List Ad)→Option Int)(L:Nat)(a2:List Ad)(a0:Ac)(a1:Au):Nat→Int→Int→Option B7
 |0,_,_=>none
 |n+1,Aj,Ak=>Anu Lt L a2 a0 a1 (Afe Lt L a2 a0 a1 n) Aj Ak
theorem B7h(Lt:Ac→Au→(List Ad)→Option Int)(L:Nat)(K:Ax)(a2:List Ad)(a0:Ac)(a1:Au):LP (EV (O88 Lt L) L 9 c88.u.l.u.l.l) [0,1,2,3,4,6,7] [3,4] (Bs7 a2 a0 a1) [.ret,.exit 0] (fun n v=>Afe Lt L a2 a0 a1 n v.1 v.2) K:=lE (fun _=>rfl) fun n v ih=>eE (Anu Lt L a2 a0 a1 (fun Aj Ak=>re (ih (Aj,Ak))) v.1 v.2)
def Aga [An A Int](Lt:Ac→Au→(List Ad)→Option Int)(L:Nat)(o5:Nat×Co):A:=
 (sl o5.1 [(lf o5.2.1),
 (lf 0)])
def Bqy(Lt:Ac→Au→(List Ad)→Option Int)(L:Nat)(kk:Cz):Ax:=(Av 0 (Bb (EV (O88 Lt L) L 9 c88.u.r) (Cm Tryz.prog (RS Tryz.f88) kk)))
theorem Chf(Lt:Ac→Au→(List Ad)→Option Int)(L:Nat)(kk:Cz)(a2:List Ad)(a0:Ac)(a1:Au)(o5:Nat×Co):kX [.ret,.exit 0] (Bs7 a2 a0 a1) (Bqy Lt L kk) o5=ob (Aga Lt L o5) (kQ I kk):=eE (Aga Lt L o5)
def A9l [An A Int](Lt:Ac→Au→(List Ad)→Option Int)(L:Nat)(a0:Ac)(a1:Au)(a2:List Ad):A:=(bd (Afe Lt L a2 a0 a1 L 0 0) fun o5=>Aga Lt L o5)
def Axk(Lt:Ac→Au→(List Ad)→Option Int)(L:Nat)(a0:Ac)(a1:Au)(a2:List Ad):Option Int:=A9l Lt L a0 a1 a2
theorem b88(Lt:Ac→Au→(List Ad)→Option Int)(B5n:Bui Lt)(L:Nat):Bui (Axk Lt L):=fun a0 a1 a2 r h=>hF Tryz.func88 (s88 Lt B5n L) L (fun kk=>eE ((ho (B7h Lt L (Bqy Lt L kk) a2 a0 a1 L (0,0)) fun o5=>Chf Lt L kk a2 a0 a1 o5))) h
def Ab3:Nat→Ac→Au→(List Ad)→Option Int
 |0,_,_,_=>none
 |L+1,a0,a1,a2=>Axk (Ab3 L) L a0 a1 a2
theorem B5i(L:Nat):Bui (Ab3 L):=by
 induction L with
 |zero=>exact fun _ _ _ _ h=>(by cases h)
 |succ L ih=>
  have i88:=ih
  exact b88 (Ab3 L) i88 L
def X88(L:Nat):Ew:=E3 I 88 Cq E9 Tw (Ab3 L) (B5i L)
def Aya [An A Int](a0:Ac)(a1:Int)(a2:List Ao)(a3:List Ad):A:=
 (bd (Amc L a3) fun r1=>
 (cn (r1 != 0)
 (lf r1)
 (jp (.cn (decide (a1 < 0))
 (.lf true)
 (.lf (decide (a1≥(a0.Sites.length:Int))))) (fun b2=>
 (cn b2
 (lf 2)
 (gi a1 a0.Sites
 (bd (Ab3 L a0 (⟨a0.Params,a2,(a0.Sites.getD (Int.toNat a1) default)⟩:Au) a3) fun r3=>
 (lf r3))))))))
def Axv(a0:Ac)(a1:Int)(a2:List Ao)(a3:List Ad):Option Int:=Aya L a0 a1 a2 a3
def X48:Ew:=E4 I 48 Cq (cI .i64) A2e Tw (Axv L) fun a0 a1 a2 a3 r h=>hF Tryz.func48 (oS [X87 L,X88 L]) L (fun kk=>eE (Aya L a0 a1 a2 a3)) h
end
end Go.Proofs.YtofcpkmnhmnfcaaGreatR.Ev
