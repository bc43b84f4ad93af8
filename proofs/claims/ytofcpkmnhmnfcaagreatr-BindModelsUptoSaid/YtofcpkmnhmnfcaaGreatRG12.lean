import Derived.Test.YtofcpkmnhmnfcaaGreatRG10
import Derived.Test.YtofcpkmnhmnfcaaGreatRG11
namespace Go.Proofs.YtofcpkmnhmnfcaaGreatR.Ev
open Go An
set_option maxRecDepth 100000
set_option maxHeartbeats 4000000
set_option linter.unusedVariables false
set_option linter.unusedSimpArgs false
set_option linter.unnecessarySimpa false
noncomputable section
variable {A:Type} (L n:Nat) (kk:Cz) (K:Ba) (k:Bq)
def Cj8:=CC Tryz.f156
def B9e(L:Nat):Bd:=oL []
def Bql(a1:ByteArray)(a0:Ac)(v:Cs):St:=⟨[(0,.any),(1,S a1),(2,.loc 2 0),(4,I v.1),(5,I v.2)],[(2,(Au a0))],0⟩
def Aic [An A Cm](L:Nat)(a1:ByteArray)(a0:Ac)(rec:Int→Int→A)(Ai:Int)(Ak:Int):A:=
 (lw Ak a0.Sites
 (cn (((a0.Sites.getD (Int.toNat Ak) default).Name).toList == a1.toList)
 (lf (0,Ak,Ak))
 (rec Ai (B7 (Ak+1))))
 (lf (1,Ai,Ak)))
def Tr(L:Nat)(a1:ByteArray)(a0:Ac):Nat→Int→Int→Option Cm
 |0,_,_=>none
 |n+1,Ai,Ak=>Aic L a1 a0 (Tr L a1 a0 n) Ai Ak
theorem B42(a1:ByteArray)(a0:Ac):LP (EV (B9e L) L 9 Cj8.u.l.u.l.l) [0,1,2,4,5] [2] (Bql a1 a0) [.ret,.exit 0] (fun n v=>Tr L a1 a0 n v.1 v.2) K:=lE (fun _=>rfl) fun n v ih=>eE (Aic L a1 a0 (fun Ai Ak=>re (ih (Ai,Ak))) v.1 v.2)
def Aa3 [An A Int](L:Nat)(o1:Nat×Cs):A:=
 (sl o1.1 [(lf o1.2.1),
 (lf (-1))])
def Bm7:Ba:=(Av 0 (Be (EV (B9e L) L 9 Cj8.u.r) (Cp Tryz.prog (RS Tryz.f156) kk)))
theorem Cer(a1:ByteArray)(a0:Ac)(o1:Nat×Cs):kX [.ret,.exit 0] (Bql a1 a0) (Bm7 L kk) o1=ob (Aa3 L o1) (kQ I kk):=eE (Aa3 L o1)
def A6y [An A Int](a0:Ac)(a1:ByteArray):A:=(bd (Tr L a1 a0 L 0 0) fun o1=>Aa3 L o1)
def Yx(a0:Ac)(a1:ByteArray):Option Int:=A6y L a0 a1
def B94:F7:=E2 I 156 Cu cS (Yx L) fun a0 a1 r h=>hF Tryz.func156 (C:=B9e L) (oS _) L (fun kk=>eE ((ho (B42 L (Bm7 L kk) a1 a0 L (0,0)) fun o1=>Cer L kk a1 a0 o1))) h
def c86:=CC Tryz.f86
def O86:Bd:=oL [X51 L,B94 L]
def Bzb(Ai:Int)(a0:Ac)(v:Cs):St:=⟨[(0,.any),(1,.loc 1 0),(2,I v.1),(3,I Ai),(4,.loc 4 0),(5,I v.2)],[(1,(Au a0)),(4,(P7 (a0.Links.getD (Int.toNat Ai) default)))],0⟩
def Ad5 [An A Cm](L:Nat)(Ai:Int)(a0:Ac)(rec:Int→Int→A)(Bo:Int)(Gh:Int):A:=
 (cn (decide (Gh < Ai))
 (gi Gh a0.Links
 (cn (((a0.Links.getD (Int.toNat Gh) default).From).toList == ((a0.Links.getD (Int.toNat Ai) default).From).toList)
 (gi Gh a0.Links
 (cn (((a0.Links.getD (Int.toNat Gh) default).To).toList == ((a0.Links.getD (Int.toNat Ai) default).To).toList)
 (lf (0,4,Gh))
 (rec Bo (B7 (Gh+1)))))
 (rec Bo (B7 (Gh+1)))))
 (lf (1,Bo,Gh)))
def Mh(L:Nat)(Ai:Int)(a0:Ac):Nat→Int→Int→Option Cm
 |0,_,_=>none
 |n+1,Bo,Gh=>Ad5 L Ai a0 (Mh L Ai a0 n) Bo Gh
theorem Cds(Ai:Int)(a0:Ac):LP (EV (O86 L) L 9 c86.w.l.u.l.l.u.l.l.x.u.l.l) [0,1,2,3,4,5] [1,4] (Bzb Ai a0) [.ret,.exit 2] (fun n v=>Mh L Ai a0 n v.1 v.2) K:=lE (fun _=>rfl) fun n v ih=>eE (Ad5 L Ai a0 (fun Bo Gh=>re (ih (Bo,Gh))) v.1 v.2)
def Bk7(a0:Ac)(v:Cs):St:=⟨[(0,.any),(1,.loc 1 0),(2,I v.1),(3,I v.2)],[(1,(Au a0))],0⟩
def Zv [An A Cm](L:Nat)(Ai:Int)(rec:Int→Int→A)(o5:Nat×Cs):A:=
 (sl o5.1 [(lf (0,o5.2.1,Ai)),
 (rec o5.2.1 (B7 (Ai+1)))])
def Afg [An A Cm](a0:Ac)(rec:Int→Int→A)(Al:Int)(Ai:Int)(nx1:Int→Int→A):A:=
 (lw Ai a0.Links
 (bd (Yx L a0 ((a0.Links.getD (Int.toNat Ai) default).From)) fun r1=>
 (jb (.cn (decide (r1 < 0))
 (.lf true)
 (.bd (Yx L a0 ((a0.Links.getD (Int.toNat Ai) default).To)) fun r3=>
 (.lf (decide (r3 < 0))))) (fun b2=>
 (cn b2
 (lf (0,5,Ai))
 (cn (((a0.Links.getD (Int.toNat Ai) default).From).toList == ((a0.Links.getD (Int.toNat Ai) default).To).toList)
 (lf (0,1,Ai))
 (bd (Dp L ((a0.Links.getD (Int.toNat Ai) default).Delay) 1 1000000000) fun r4=>
 (cn (!r4)
 (lf (0,2,Ai))
 (nx1 Ai Al))))))))
 (lf (1,Al,Ai)))
def Amk [An A Cm](a0:Ac)(rec:Int→Int→A)(Al:Int)(Ai:Int):A:=Afg L a0 rec Al Ai (fun Ai Al=>bd (Mh L Ai a0 L Al 0) fun o5=>Zv L Ai rec o5)
def Mg(L:Nat)(a0:Ac):Nat→Int→Int→Option Cm
 |0,_,_=>none
 |n+1,Al,Ai=>Amk L a0 (Mg L a0 n) Al Ai
def Bt8(a0:Ac):Prop:=LI (EV (O86 L) L 9 c86.w.l.u.l.l) [0,1,2,3] [1] (Bk7 a0) [.ret,.exit 0] (fun n v=>Mg L a0 n v.1 v.2) K n
def Bw8:Ba:=(Av 2 (Av 1 (Be (EV (O86 L) L 9 c86.w.l.u.l.l.u.r) (Hh (Jj (EV (O86 L) L 9 c86.w.l.u.l.l) [0,1,2,3] [1] n) [0,1,2,3] [1] K))))
theorem Cno(Ai:Int)(a0:Ac)(ih:Bt8 L n K a0)(o5:Nat×Cs):kX [.ret,.exit 2] (Bzb Ai a0) (Bw8 L n K) o5=ob (Zv L Ai (Mg L a0 n) o5) (kX [.ret,.exit 0] (Bk7 a0) K):=eE (Zv L Ai (fun Al Ai=>re (ih (Al,Ai))) o5)
theorem Cdr(a0:Ac):∀n,Bt8 L n K a0:=lE (fun _=>rfl) fun n v ih=>eE (Afg L a0 (fun Al Ai=>re (ih (Al,Ai))) v.1 v.2 (fun Ai Al=>ho (Cds L (Bw8 L n K) Ai a0 L (Al,0)) fun o5=>Cno L n K Ai a0 ih o5))
def Zw [An A Int](L:Nat)(o6:Nat×Cs):A:=
 (sl o6.1 [(lf o6.2.1),
 (lf 0)])
def Bw9:Ba:=(Av 0 (Be (EV (O86 L) L 9 c86.w.r) (Cp Tryz.prog (RS Tryz.f86) kk)))
theorem Cnp(a0:Ac)(o6:Nat×Cs):kX [.ret,.exit 0] (Bk7 a0) (Bw9 L kk) o6=ob (Zw L o6) (kQ I kk):=eE (Zw L o6)
def Afh [An A Int](L:Nat)(a0:Ac)(nx2:A):A:=
 (cn (decide ((a0.Links.length:Int) > 32))
 (lf 6)
 nx2)
def A2v [An A Int](a0:Ac):A:=Afh L a0 (bd (Mg L a0 L 0 0) fun o6=>Zw L o6)
def Anc(a0:Ac):Option Int:=A2v L a0
def X86:F7:=E1 I 86 Cu (Anc L) fun a0 r h=>hF Tryz.func86 (C:=O86 L) (oS _) L (fun kk=>eE (Afh L a0 (ho (Cdr L (Bw9 L kk) a0 L (0,0)) fun o6=>Cnp L kk a0 o6))) h
def c47:=CC Tryz.f47
def O47:Bd:=oL [X80 L,X81 L,X82 L,X83 L,X84 L,X85 L,X86 L]
def Bys(a0:Ac)(v:A3u):St:=⟨[(0,.any),(1,.loc 1 0),(2,I v.1),(3,I v.2.1),(4,.lst true (.t9 v.2.2.1)),(5,I v.2.2.2),(6,.any),(7,.any)],[(1,(Au a0))],0⟩
def Ady [An A (Nat×A3u)](a0:Ac)(rec:Int→Int→List ByteArray→Int→A)(Al:Int)(Ai:Int)(Ak:List ByteArray)(Aj:Int):A:=
 (lw Aj a0.Params
 (bd (Ai2 L (a0.Params.getD (Int.toNat Aj) default) Ak) fun r4=>
 (cn (r4 != 0)
 (lf (0,r4,r4,Ak,Aj))
 (gi Aj a0.Params
 (gq ((Ak.length+ [(a0.Params.getD (Int.toNat Aj) default).Name].length)*16≤140737488355328)
 (gq (Ak.length+ [(a0.Params.getD (Int.toNat Aj) default).Name].length≤maxLen)
 (rec Al r4 (Ak++ [(a0.Params.getD (Int.toNat Aj) default).Name]) (B7 (Aj+1))))))))
 (lf (1,Al,Ai,Ak,Aj)))
def Qe(L:Nat)(a0:Ac):Nat→Int→Int→List ByteArray→Int→Option (Nat×A3u)
 |0,_,_,_,_=>none
 |n+1,Al,Ai,Ak,Aj=>Ady L a0 (Qe L a0 n) Al Ai Ak Aj
theorem Cc2(a0:Ac):LP (EV (O47 L) L 9 c47.x.l.u.l.l) [0,1,2,3,4,5,6,7] [1] (Bys a0) [.ret,.exit 0] (fun n v=>Qe L a0 n v.1 v.2.1 v.2.2.1 v.2.2.2) K:=lE (fun _=>rfl) fun n v ih=>eE (Ady L a0 (fun Al Ai Ak Aj=>re (ih (Al,Ai,Ak,Aj))) v.1 v.2.1 v.2.2.1 v.2.2.2)
def Byt(a0:Ac)(v:A3u):St:=⟨[(0,.any),(1,.loc 1 0),(2,I v.1),(3,I v.2.1),(4,.any),(5,.any),(6,.lst true (.t9 v.2.2.1)),(7,I v.2.2.2)],[(1,(Au a0))],0⟩
def Adz [An A (Nat×A3u)](a0:Ac)(rec:Int→Int→List ByteArray→Int→A)(Bo:Int)(Bt:Int)(Gh:List ByteArray)(B1:Int):A:=
 (lw B1 a0.Sites
 (bd (Oz L ((a0.Sites.getD (Int.toNat B1) default).Name) Gh) fun r9=>
 (gi B1 a0.Sites
 (bd (Alw L (a0.Sites.getD (Int.toNat B1) default)) fun r10=>
 (bd (C8 L r9 r10) fun r11=>
 (cn (r11 != 0)
 (lf (0,r11,r11,Gh,B1))
 (gi B1 a0.Sites
 (gq ((Gh.length+ [(a0.Sites.getD (Int.toNat B1) default).Name].length)*16≤140737488355328)
 (gq (Gh.length+ [(a0.Sites.getD (Int.toNat B1) default).Name].length≤maxLen)
 (rec Bo r11 (Gh++ [(a0.Sites.getD (Int.toNat B1) default).Name]) (B7 (B1+1)))))))))))
 (lf (1,Bo,Bt,Gh,B1)))
def Qf(L:Nat)(a0:Ac):Nat→Int→Int→List ByteArray→Int→Option (Nat×A3u)
 |0,_,_,_,_=>none
 |n+1,Bo,Bt,Gh,B1=>Adz L a0 (Qf L a0 n) Bo Bt Gh B1
theorem Cc3(a0:Ac):LP (EV (O47 L) L 9 c47.x.x.l.u.l.l) [0,1,2,3,4,5,6,7] [1] (Byt a0) [.ret,.exit 2] (fun n v=>Qf L a0 n v.1 v.2.1 v.2.2.1 v.2.2.2) K:=lE (fun _=>rfl) fun n v ih=>eE (Adz L a0 (fun Bo Bt Gh B1=>re (ih (Bo,Bt,Gh,B1))) v.1 v.2.1 v.2.2.1 v.2.2.2)
def Zt [An A Int](a0:Ac)(o12:Nat×A3u):A:=
 (sl o12.1 [(lf o12.2.1),
 (bd (Anc L a0) fun r13=>
 (lf r13))])
def Bwp:Ba:=(Av 2 (Be (EV (O47 L) L 9 c47.x.x.r) (Cp Tryz.prog (RS Tryz.f47) kk)))
theorem Cm5(a0:Ac)(o12:Nat×A3u):kX [.ret,.exit 2] (Byt a0) (Bwp L kk) o12=ob (Zt L a0 o12) (kQ I kk):=eE (Zt L a0 o12)
def Afb [An A Int](a0:Ac)(o5:Nat×A3u)(nx2:(Nat×A3u)→Int→A):A:=
 (sl o5.1 [(lf o5.2.1),
 (bd (B8 L (decide ((a0.Sites.length:Int) > 0)) 7) fun r6=>
 (bd (B8 L (decide ((a0.Sites.length:Int)≤16)) 6) fun r7=>
 (bd (C8 L r6 r7) fun r8=>
 (cn (r8 != 0)
 (lf r8)
 (nx2 o5 r8)))))])
def Aeq [An A Int](a0:Ac)(o5:Nat×A3u):A:=Afb L a0 o5 (fun o5 r8=>bd (Qf L a0 L o5.2.1 r8 [] 0) fun o12=>Zt L a0 o12)
def Bwo:Ba:=(Av 0 (Be (EV (O47 L) L 9 c47.x.r) (Cp Tryz.prog (RS Tryz.f47) kk)))
theorem Cm4(a0:Ac)(o5:Nat×A3u):kX [.ret,.exit 0] (Bys a0) (Bwo L kk) o5=ob (Aeq L a0 o5) (kQ I kk):=eE (Afb L a0 o5 (fun o5 r8=>ho (Cc3 L (Bwp L kk) a0 L (o5.2.1,r8,[],0)) fun o12=>Cm5 L kk a0 o12))
def Afa [An A Int](a0:Ac)(nx1:Int→A):A:=
 (bd (R8 L a0.Name) fun r1=>
 (bd (B8 L (decide ((a0.Params.length:Int)≤32)) 6) fun r2=>
 (bd (C8 L r1 r2) fun r3=>
 (cn (r3 != 0)
 (lf r3)
 (nx1 r3)))))
def A2t [An A Int](a0:Ac):A:=Afa L a0 (fun r3=>bd (Qe L a0 L 0 r3 [] 0) fun o5=>Aeq L a0 o5)
def Anb(a0:Ac):Option Int:=A2t L a0
def X47:F7:=E1 I 47 Cu (Anb L) fun a0 r h=>hF Tryz.func47 (C:=O47 L) (oS _) L (fun kk=>eE (Afa L a0 (fun r3=>ho (Cc2 L (Bwo L kk) a0 L (0,r3,[],0)) fun o5=>Cm4 L kk a0 o5))) h
def Aq8 [An A (List Ap)](L:Nat)(a0:Am):A:=
 (gq ((0+a0.Params.length)*24≤140737488355328)
 (gq (0+a0.Params.length≤maxLen)
 (gq ((a0.Params.length+a0.Locals.length)*24≤140737488355328)
 (gq (a0.Params.length+a0.Locals.length≤maxLen)
 (lf (a0.Params++a0.Locals))))))
def Akx(a0:Am):Option (List Ap):=Aq8 L a0
def X49:F7:=E1 (fun(x:List Ap)=>lv (.t127 x)) 49 Adm (Akx L) fun a0 r h=>hF Tryz.func49 (oS []) L (fun kk=>eE (Aq8 L a0)) h
def Atu [An A ByteArray](L:Nat)(a0:Int):A:=
 (cn (a0 == 6)
 (cn (a0 == 6)
 (lf (⟨#[114,101,115,111,117,114,99,101]⟩:ByteArray))
 (cn (a0 == 8)
 (cn (a0 == 8)
 (lf (⟨#[115,116,111,114,101]⟩:ByteArray))
 (cn (a0 == 10)
 (lf (⟨#[98,101,108,116]⟩:ByteArray))
 (cn (a0 == 11)
 (cn (a0 == 11)
 (lf (⟨#[113,117,101,117,101]⟩:ByteArray))
 (cn (a0 == 15)
 (lf (⟨#[116,97,108,108,121]⟩:ByteArray))
 (cn (a0 == 16)
 (lf (⟨#[108,101,118,101,108]⟩:ByteArray))
 (cn (a0 == 17)
 (lf (⟨#[99,111,117,110,116]⟩:ByteArray))
 (lf (⟨#[]⟩:ByteArray))))))
 (cn (a0 == 12)
 (lf (⟨#[113,117,101,117,101]⟩:ByteArray))
 (cn (a0 == 15)
 (lf (⟨#[116,97,108,108,121]⟩:ByteArray))
 (cn (a0 == 16)
 (lf (⟨#[108,101,118,101,108]⟩:ByteArray))
 (cn (a0 == 17)
 (lf (⟨#[99,111,117,110,116]⟩:ByteArray))
 (lf (⟨#[]⟩:ByteArray)))))))))
 (cn (a0 == 9)
 (lf (⟨#[115,116,111,114,101]⟩:ByteArray))
 (cn (a0 == 10)
 (lf (⟨#[98,101,108,116]⟩:ByteArray))
 (cn (a0 == 11)
 (cn (a0 == 11)
 (lf (⟨#[113,117,101,117,101]⟩:ByteArray))
 (cn (a0 == 15)
 (lf (⟨#[116,97,108,108,121]⟩:ByteArray))
 (cn (a0 == 16)
 (lf (⟨#[108,101,118,101,108]⟩:ByteArray))
 (cn (a0 == 17)
 (lf (⟨#[99,111,117,110,116]⟩:ByteArray))
 (lf (⟨#[]⟩:ByteArray))))))
 (cn (a0 == 12)
 (lf (⟨#[113,117,101,117,101]⟩:ByteArray))
 (cn (a0 == 15)
 (lf (⟨#[116,97,108,108,121]⟩:ByteArray))
 (cn (a0 == 16)
 (lf (⟨#[108,101,118,101,108]⟩:ByteArray))
 (cn (a0 == 17)
 (lf (⟨#[99,111,117,110,116]⟩:ByteArray))
 (lf (⟨#[]⟩:ByteArray)))))))))))
 (cn (a0 == 7)
 (lf (⟨#[114,101,115,111,117,114,99,101]⟩:ByteArray))
 (cn (a0 == 8)
 (cn (a0 == 8)
 (lf (⟨#[115,116,111,114,101]⟩:ByteArray))
 (cn (a0 == 10)
 (lf (⟨#[98,101,108,116]⟩:ByteArray))
 (cn (a0 == 11)
 (cn (a0 == 11)
 (lf (⟨#[113,117,101,117,101]⟩:ByteArray))
 (cn (a0 == 15)
 (lf (⟨#[116,97,108,108,121]⟩:ByteArray))
 (cn (a0 == 16)
 (lf (⟨#[108,101,118,101,108]⟩:ByteArray))
 (cn (a0 == 17)
 (lf (⟨#[99,111,117,110,116]⟩:ByteArray))
 (lf (⟨#[]⟩:ByteArray))))))
 (cn (a0 == 12)
 (lf (⟨#[113,117,101,117,101]⟩:ByteArray))
 (cn (a0 == 15)
 (lf (⟨#[116,97,108,108,121]⟩:ByteArray))
 (cn (a0 == 16)
 (lf (⟨#[108,101,118,101,108]⟩:ByteArray))
 (cn (a0 == 17)
 (lf (⟨#[99,111,117,110,116]⟩:ByteArray))
 (lf (⟨#[]⟩:ByteArray)))))))))
 (cn (a0 == 9)
 (lf (⟨#[115,116,111,114,101]⟩:ByteArray))
 (cn (a0 == 10)
 (lf (⟨#[98,101,108,116]⟩:ByteArray))
 (cn (a0 == 11)
 (cn (a0 == 11)
 (lf (⟨#[113,117,101,117,101]⟩:ByteArray))
 (cn (a0 == 15)
 (lf (⟨#[116,97,108,108,121]⟩:ByteArray))
 (cn (a0 == 16)
 (lf (⟨#[108,101,118,101,108]⟩:ByteArray))
 (cn (a0 == 17)
 (lf (⟨#[99,111,117,110,116]⟩:ByteArray))
 (lf (⟨#[]⟩:ByteArray))))))
 (cn (a0 == 12)
 (lf (⟨#[113,117,101,117,101]⟩:ByteArray))
 (cn (a0 == 15)
 (lf (⟨#[116,97,108,108,121]⟩:ByteArray))
 (cn (a0 == 16)
 (lf (⟨#[108,101,118,101,108]⟩:ByteArray))
 (cn (a0 == 17)
 (lf (⟨#[99,111,117,110,116]⟩:ByteArray))
 (lf (⟨#[]⟩:ByteArray))))))))))))
def Anf(a0:Int):Option ByteArray:=Atu L a0
def Cim:F7:=E1 S 208 (cI .i64) (Anf L) fun a0 r h=>hF Tryz.func208 (oS []) L (fun kk=>eE (Atu L a0)) h
def Ckp:=CC Tryz.f212
def B9p(L:Nat):Bd:=oL []
def Clm:Tu6→Prop:=fun x=>kk ((fun(x:Tu6)=> .tup [I x.1,B x.2]) x)
def Bq4(a0:List Ap)(a1:ByteArray)(v:Tu7):St:=⟨[(0,lv (.t127 a0)),(1,S a1),(4,I v.1),(5,B v.2.1),(6,I v.2.2)],[],0⟩
def Zb [An A (Nat×Tu7)](L:Nat)(a0:List Ap)(a1:ByteArray)(rec:Int→Bool→Int→A)(Ak:Int)(Aj:Bool)(Bu:Int):A:=
 (cn (decide (Bu≥0))
 (gi Bu a0
 (cn (((a0.getD (Int.toNat Bu) default).Name).toList == a1.toList)
 (gi Bu a0
 (lf (0,(((a0.getD (Int.toNat Bu) default).Type_),true,Bu))))
 (rec Ak Aj (B7 (Bu - 1)))))
 (lf (1,Ak,Aj,Bu)))
def Qm(L:Nat)(a0:List Ap)(a1:ByteArray):Nat→Int→Bool→Int→Option (Nat×Tu7)
 |0,_,_,_=>none
 |n+1,Ak,Aj,Bu=>Zb L a0 a1 (Qm L a0 a1 n) Ak Aj Bu
theorem B5l(a0:List Ap)(a1:ByteArray):LP (EV (B9p L) L 9 Ckp.u.l.u.l.l) [0,1,4,5,6] [] (Bq4 a0 a1) [.ret,.exit 0] (fun n v=>Qm L a0 a1 n v.1 v.2.1 v.2.2) K:=lE (fun _=>rfl) fun n v ih=>eE (Zb L a0 a1 (fun Ak Aj Bu=>re (ih (Ak,Aj,Bu))) v.1 v.2.1 v.2.2)
def Zy [An A Tu6](L:Nat)(o1:Nat×Tu7):A:=
 (sl o1.1 [(lf (o1.2.1,o1.2.2.1)),
 (lf (0,false))])
def Bny:Ba:=(Av 0 (Be (EV (B9p L) L 9 Ckp.u.r) (Cp Tryz.prog (RS Tryz.f212) kk)))
theorem Cfi(a0:List Ap)(a1:ByteArray)(o1:Nat×Tu7):kX [.ret,.exit 0] (Bq4 a0 a1) (Bny L kk) o1=ob (Zy L o1) (Clm kk):=eE (Zy L o1)
def A2x [An A Tu6](a0:List Ap)(a1:ByteArray):A:=(bd (Qm L a0 a1 L 0 false (B7 ((a0.length:Int) - 1))) fun o1=>Zy L o1)
def Acm(a0:List Ap)(a1:ByteArray):Option Tu6:=A2x L a0 a1
def B00:F7:=E2 (fun(x:Tu6)=> .tup [I x.1,B x.2]) 212 A7c cS (Acm L) fun a0 a1 r h=>hF Tryz.func212 (C:=B9p L) (oS _) L (fun kk=>eE ((ho (B5l L (Bny L kk) a0 a1 L (0,false,(B7 ((a0.length:Int) - 1)))) fun o1=>Cfi L kk a0 a1 o1))) h
def Ckz:=CC Tryz.f236
def B9w(L:Nat):Bd:=oL []
def Clp:Tu6→Prop:=fun x=>kk ((fun(x:Tu6)=> .tup [I x.1,B x.2]) x)
def Brc(a0:List Ag)(a1:ByteArray)(v:Tu7):St:=⟨[(0,lv (.t39 a0)),(1,S a1),(4,I v.1),(5,B v.2.1),(6,I v.2.2)],[],0⟩
def Abg [An A (Nat×Tu7)](L:Nat)(a0:List Ag)(a1:ByteArray)(rec:Int→Bool→Int→A)(Ak:Int)(Aj:Bool)(Bu:Int):A:=
 (lw Bu a0
 (cn (((a0.getD (Int.toNat Bu) default).Name).toList == a1.toList)
 (gi Bu a0
 (lf (0,(((a0.getD (Int.toNat Bu) default).Type_),true,Bu))))
 (rec Ak Aj (B7 (Bu+1))))
 (lf (1,Ak,Aj,Bu)))
def Nf(L:Nat)(a0:List Ag)(a1:ByteArray):Nat→Int→Bool→Int→Option (Nat×Tu7)
 |0,_,_,_=>none
 |n+1,Ak,Aj,Bu=>Abg L a0 a1 (Nf L a0 a1 n) Ak Aj Bu
theorem B5t(a0:List Ag)(a1:ByteArray):LP (EV (B9w L) L 9 Ckz.u.l.u.l.l) [0,1,4,5,6] [] (Brc a0 a1) [.ret,.exit 0] (fun n v=>Nf L a0 a1 n v.1 v.2.1 v.2.2) K:=lE (fun _=>rfl) fun n v ih=>eE (Abg L a0 a1 (fun Ak Aj Bu=>re (ih (Ak,Aj,Bu))) v.1 v.2.1 v.2.2)
def Wn [An A Tu6](L:Nat)(o1:Nat×Tu7):A:=
 (sl o1.1 [(lf (o1.2.1,o1.2.2.1)),
 (lf (0,false))])
def Bog:Ba:=(Av 0 (Be (EV (B9w L) L 9 Ckz.u.r) (Cp Tryz.prog (RS Tryz.f236) kk)))
theorem Cf0(a0:List Ag)(a1:ByteArray)(o1:Nat×Tu7):kX [.ret,.exit 0] (Brc a0 a1) (Bog L kk) o1=ob (Wn L o1) (Clp kk):=eE (Wn L o1)
def Ayg [An A Tu6](a0:List Ag)(a1:ByteArray):A:=(bd (Nf L a0 a1 L 0 false 0) fun o1=>Wn L o1)
def Vs(a0:List Ag)(a1:ByteArray):Option Tu6:=Ayg L a0 a1
def Caq:F7:=E2 (fun(x:Tu6)=> .tup [I x.1,B x.2]) 236 Ca9 cS (Vs L) fun a0 a1 r h=>hF Tryz.func236 (C:=B9w L) (oS _) L (fun kk=>eE ((ho (B5t L (Bog L kk) a0 a1 L (0,false,0)) fun o1=>Cf0 L kk a0 a1 o1))) h
def Aw0 [An A Tu6](a0:Aq)(a1:ByteArray):A:=
 (bd (Acm L a0.Locals a1) fun r1=>
 (cn (!r1.2)
 (bd (Vs L a0.Site.Vars a1) fun r2=>
 (cn (!r2.2)
 (bd (Vs L a0.Params a1) fun r3=>
 (lf (r3.1,r3.2)))
 (lf (r2.1,r2.2))))
 (cn (!r1.2)
 (bd (Vs L a0.Params a1) fun r4=>
 (lf (r4.1,r4.2)))
 (lf (r1.1,r1.2)))))
def Aqy(a0:Aq)(a1:ByteArray):Option Tu6:=Aw0 L a0 a1
def Cjb:F7:=E2 (fun(x:Tu6)=> .tup [I x.1,B x.2]) 259 Gg cS (Aqy L) fun a0 a1 r h=>hF Tryz.func259 (oS [B00 L,Caq L]) L (fun kk=>eE (Aw0 L a0 a1)) h
def Aw1 [An A Cs](a0:Aq)(a1:Ab):A:=
 (bd (Ab9 L a0.Site a1.Name) fun r1=>
 (cn (a1.Op == 1)
 (lf (1,0))
 (cn (a1.Op == 2)
 (lf (2,0))
 (cn (a1.Op == 4)
 (lf (3,0))
 (cn (a1.Op == 3)
 (bd (Aqy L a0 a1.Name) fun r2=>
 (cn (!r2.2)
 (lf (0,5))
 (lf (r2.1,0))))
 (cn (a1.Op == 22)
 (cn (!(r1.toList == (⟨#[114,101,115,111,117,114,99,101]⟩:ByteArray).toList))
 (lf (0,5))
 (lf (1,0)))
 (cn (a1.Op == 23)
 (cn (!(r1.toList == (⟨#[115,116,111,114,101]⟩:ByteArray).toList))
 (lf (0,5))
 (lf (1,0)))
 (jp (.cn (!(r1.toList == (⟨#[114,101,115,111,117,114,99,101]⟩:ByteArray).toList))
 (.lf (!(r1.toList == (⟨#[113,117,101,117,101]⟩:ByteArray).toList)))
 (.lf false)) (fun b3=>
 (cn b3
 (lf (0,5))
 (lf (1,0))))))))))))
def Aly(a0:Aq)(a1:Ab):Option Cs:=Aw1 L a0 a1
def Cau:F7:=E2 (fun(x:Cs)=> .tup [I x.1,I x.2]) 254 Gg Bj (Aly L) fun a0 a1 r h=>hF Tryz.func254 (oS [Bul L,Cjb L]) L (fun kk=>eE (Aw1 L a0 a1)) h
def Al3 [An A Bool](L:Nat)(a0:Int):A:=
 (jp (.cn (a0 == 1)
 (.lf true)
 (.lf (a0 == 3))) (fun b1=>
 (lf b1)))
def Jo(a0:Int):Option Bool:=Al3 L a0
def B01:F7:=E1 B 237 (cI .i64) (Jo L) fun a0 r h=>hF Tryz.func237 (oS []) L (fun kk=>eE (Al3 L a0)) h
def Atv [An A Int](a0:Int)(a1:Int):A:=
 (jb (.cn (a0 == 5)
 (.bd (Jo L a1) fun r2=>
 (.lf r2))
 (.lf false)) (fun b1=>
 (cn b1
 (lf a1)
 (jp (.cn (a0 == 6)
 (.lf (a1 == 2))
 (.lf false)) (fun b3=>
 (cn b3
 (lf 2)
 (jp (.cn (a0 == 7)
 (.lf (a1 == 1))
 (.lf false)) (fun b4=>
 (cn b4
 (lf 3)
 (jp (.cn (a0 == 8)
 (.lf (a1 == 3))
 (.lf false)) (fun b5=>
 (cn b5
 (lf 1)
 (lf 0)))))))))))))
def Ang(a0:Int)(a1:Int):Option Int:=Atv L a0 a1
def Cav:F7:=E2 I 255 (cI .i64) (cI .i64) (Ang L) fun a0 a1 r h=>hF Tryz.func255 (oS [B01 L]) L (fun kk=>eE (Atv L a0 a1)) h
def g0:=CC Tryz.f256
def An6:Bd:=oL [B01 L]
def Bp0(a1:Int)(a2:Int)(p804_3:Bool):St:=⟨[(1,I a1),(6,I 0),(7,B (a1 == a2)),(67,B p804_3)],[],0⟩
def Bpm(e0:EC):Ba:=(Av 0 (Be (EV (An6 L) L 9 e0) (Cp Tryz.prog (RS Tryz.f256) kk)))
def Ab3 [An A Int](L:Nat)(a1:Int)(a2:Int)(p804_3:Bool):A:=
 (cn p804_3
 (jp (.cn (a1 == a2)
 (.lf (a1 == 2))
 (.lf false)) (fun b11=>
 (cn b11
 (lf 2)
 (lf 0))))
 (lf 0))
theorem B1z(a1:Int)(a2:Int)(p804_3:Bool):EV (An6 L) L 9 g0.w.l.u.l.x.x.r (Bp0 a1 a2 p804_3) (Bpm L kk g0.w.r)=ob (Ab3 L a1 a2 p804_3) (kQ I kk):=eE (Ab3 L a1 a2 p804_3)
def A6d(a1:Int)(a2:Int)(a0:Int)(p803_4:Bool):St:=⟨[(1,I a1),(6,I 0),(7,B (a1 == a2)),(11,I a0),(59,B p803_4)],[],0⟩
def A5u(e0:EC):Ba:=(Av 0 (Be (EV (An6 L) L 9 e0) (Cp Tryz.prog (RS Tryz.f256) kk)))
def sx_R14_binary_3 [An A Int](a1:Int)(a2:Int)(a0:Int)(p803_4:Bool)(nx4:Int→Int→Bool→A):A:=
 (cn p803_4
 (jb (.cn (a1 == a2)
 (.bd (Jo L a1) fun r10=>
 (.lf r10))
 (.lf false)) (fun b9=>
 (cn b9
 (lf 2)
 (lf 0))))
 (cn (a0 == 18)
 (nx4 a1 a2 (a0 == 18))
 (nx4 a1 a2 (a0 == 19))))
def Akr [An A Int](a1:Int)(a2:Int)(a0:Int)(p803_4:Bool):A:=sx_R14_binary_3 L a1 a2 a0 p803_4 (fun a1 a2 p804_3=>Ab3 L a1 a2 p804_3)
theorem B2p(a1:Int)(a2:Int)(a0:Int)(p803_4:Bool)(z4:EC):EV (An6 L) L 9 (EC.put (rl [3]) z4 g0.w.l.u.l.x.w.u) (A6d a1 a2 a0 p803_4) (A5u L kk g0.w.r)= @sx_R14_binary_3 Prop L (anP (kQ I kk)) a1 a2 a0 p803_4 (fun a1 a2 p804_3=>EV (An6 L) L 9 z4 (Bp0 a1 a2 p804_3) (Bpm L kk g0.w.r)):=by kernel_rfl
theorem B1y(a1:Int)(a2:Int)(a0:Int)(p803_4:Bool):EV (An6 L) L 9 g0.w.l.u.l.x.w.u (A6d a1 a2 a0 p803_4) (A5u L kk g0.w.r)=ob (Akr L a1 a2 a0 p803_4) (kQ I kk):=Eq.trans (b:=EV (An6 L) L 9 (EC.put (rl [3]) g0.w.l.u.l.x.x.r g0.w.l.u.l.x.w.u) (A6d a1 a2 a0 p803_4) (A5u L kk g0.w.r)) (by kernel_rfl) ((B2p L kk a1 a2 a0 p803_4 g0.w.l.u.l.x.x.r).trans (eE (sx_R14_binary_3 L a1 a2 a0 p803_4 (fun a1 a2 p804_3=>re (B1z L kk a1 a2 p804_3)))))
def A6c(a1:Int)(a2:Int)(a0:Int)(p802_4:Bool):St:=⟨[(1,I a1),(6,I 0),(7,B (a1 == a2)),(11,I a0),(55,B p802_4)],[],0⟩
def A5t(e0:EC):Ba:=(Av 0 (Be (EV (An6 L) L 9 e0) (Cp Tryz.prog (RS Tryz.f256) kk)))
def sx_R14_binary_2 [An A Int](L:Nat)(a1:Int)(a2:Int)(a0:Int)(p802_4:Bool)(nx3:Int→Int→Int→Bool→A):A:=
 (cn p802_4
 (cn (a1 == a2)
 (lf 2)
 (lf 0))
 (cn (a0 == 16)
 (nx3 a1 a2 a0 (a0 == 16))
 (nx3 a1 a2 a0 (a0 == 17))))
def Akq [An A Int](a1:Int)(a2:Int)(a0:Int)(p802_4:Bool):A:=sx_R14_binary_2 L a1 a2 a0 p802_4 (fun a1 a2 a0 p803_4=>Akr L a1 a2 a0 p803_4)
theorem B2o(a1:Int)(a2:Int)(a0:Int)(p802_4:Bool)(z3:EC):EV (An6 L) L 9 (EC.put (rl [3]) z3 g0.w.l.u.l.x.u.r) (A6c a1 a2 a0 p802_4) (A5t L kk g0.w.r)= @sx_R14_binary_2 Prop (anP (kQ I kk)) L a1 a2 a0 p802_4 (fun a1 a2 a0 p803_4=>EV (An6 L) L 9 z3 (A6d a1 a2 a0 p803_4) (A5u L kk g0.w.r)):=by kernel_rfl
theorem B1x(a1:Int)(a2:Int)(a0:Int)(p802_4:Bool):EV (An6 L) L 9 g0.w.l.u.l.x.u.r (A6c a1 a2 a0 p802_4) (A5t L kk g0.w.r)=ob (Akq L a1 a2 a0 p802_4) (kQ I kk):=Eq.trans (b:=EV (An6 L) L 9 (EC.put (rl [3]) g0.w.l.u.l.x.w.u g0.w.l.u.l.x.u.r) (A6c a1 a2 a0 p802_4) (A5t L kk g0.w.r)) (by kernel_rfl) ((B2o L kk a1 a2 a0 p802_4 g0.w.l.u.l.x.w.u).trans (eE (sx_R14_binary_2 L a1 a2 a0 p802_4 (fun a1 a2 a0 p803_4=>re (B1y L kk a1 a2 a0 p803_4)))))
def A6b(a1:Int)(a2:Int)(a0:Int)(p801_5:Bool):St:=⟨[(1,I a1),(2,I a2),(6,I 0),(7,B (a1 == a2)),(11,I a0),(12,B p801_5)],[],0⟩
def A5s(e0:EC):Ba:=(Av 0 (Be (EV (An6 L) L 9 e0) (Cp Tryz.prog (RS Tryz.f256) kk)))
def sx_R14_binary_1 [An A Int](a1:Int)(a2:Int)(a0:Int)(p801_5:Bool)(nx2:Int→Int→Int→Bool→A):A:=
 (cn p801_5
 (jb (.cn (a1 == a2)
 (.bd (Jo L a1) fun r2=>
 (.lf r2))
 (.lf false)) (fun b1=>
 (cn b1
 (lf a1)
 (lf 0))))
 (cn (a0 == 11)
 (jb (.cn (a1 == 1)
 (.bd (Jo L a2) fun r4=>
 (.lf r4))
 (.lf false)) (fun b3=>
 (cn b3
 (lf a2)
 (jp (.cn (a1 == 3)
 (.lf (a2 == 1))
 (.lf false)) (fun b5=>
 (cn b5
 (lf a1)
 (lf 0)))))))
 (cn (a0 == 12)
 (bd (Jo L a1) fun r6=>
 (jp (.cn r6
 (.lf (a2 == 1))
 (.lf false)) (fun b7=>
 (cn b7
 (lf a1)
 (jp (.cn (a1 == 3)
 (.lf (a2 == 3))
 (.lf false)) (fun b8=>
 (cn b8
 (lf 1)
 (lf 0))))))))
 (cn (a0 == 14)
 (nx2 a1 a2 a0 (a0 == 14))
 (nx2 a1 a2 a0 (a0 == 15))))))
def Akp [An A Int](a1:Int)(a2:Int)(a0:Int)(p801_5:Bool):A:=sx_R14_binary_1 L a1 a2 a0 p801_5 (fun a1 a2 a0 p802_4=>Akq L a1 a2 a0 p802_4)
theorem B2n(a1:Int)(a2:Int)(a0:Int)(p801_5:Bool)(z2:EC):EV (An6 L) L 9 (EC.put (rl [9]) z2 g0.w.l.u.l.u) (A6b a1 a2 a0 p801_5) (A5s L kk g0.w.r)= @sx_R14_binary_1 Prop L (anP (kQ I kk)) a1 a2 a0 p801_5 (fun a1 a2 a0 p802_4=>EV (An6 L) L 9 z2 (A6c a1 a2 a0 p802_4) (A5t L kk g0.w.r)):=by kernel_rfl
theorem B1w(a1:Int)(a2:Int)(a0:Int)(p801_5:Bool):EV (An6 L) L 9 g0.w.l.u.l.u (A6b a1 a2 a0 p801_5) (A5s L kk g0.w.r)=ob (Akp L a1 a2 a0 p801_5) (kQ I kk):=Eq.trans (b:=EV (An6 L) L 9 (EC.put (rl [9]) g0.w.l.u.l.x.u.r g0.w.l.u.l.u) (A6b a1 a2 a0 p801_5) (A5s L kk g0.w.r)) (by kernel_rfl) ((B2n L kk a1 a2 a0 p801_5 g0.w.l.u.l.x.u.r).trans (eE (sx_R14_binary_1 L a1 a2 a0 p801_5 (fun a1 a2 a0 p802_4=>re (B1x L kk a1 a2 a0 p802_4)))))
def sx_R14_binary_0 [An A Int](L:Nat)(a0:Int)(a1:Int)(a2:Int)(nx1:Int→Int→Int→Bool→A):A:=
 (cn (a0 == 9)
 (nx1 a1 a2 a0 (a0 == 9))
 (cn (a0 == 10)
 (nx1 a1 a2 a0 (a0 == 10))
 (cn (a0 == 13)
 (nx1 a1 a2 a0 (a0 == 13))
 (cn (a0 == 20)
 (nx1 a1 a2 a0 (a0 == 20))
 (nx1 a1 a2 a0 (a0 == 21))))))
def Ayf [An A Int](a0:Int)(a1:Int)(a2:Int):A:=sx_R14_binary_0 L a0 a1 a2 (fun a1 a2 a0 p801_5=>Akp L a1 a2 a0 p801_5)
theorem B2m(a0:Int)(a1:Int)(a2:Int)(z1:EC):EW (An6 L) L 9 (RS Tryz.f256) (EC.put (rl [4,1,2,1,2]) z1 g0) [I a0,I a1,I a2] kk= @sx_R14_binary_0 Prop (anP (kQ I kk)) L a0 a1 a2 (fun a1 a2 a0 p801_5=>EV (An6 L) L 9 z1 (A6b a1 a2 a0 p801_5) (A5s L kk g0.w.r)):=by kernel_rfl
def Aky(a0:Int)(a1:Int)(a2:Int):Option Int:=Ayf L a0 a1 a2
def Caw:F7:=E3 I 256 (cI .i64) (cI .i64) (cI .i64) (Aky L) fun a0 a1 a2 r h=>hF Tryz.func256 (C:=An6 L) (oS _) L (fun kk=>Eq.trans (b:=EW (An6 L) L 9 (RS Tryz.f256) (EC.put (rl [4,1,2,1,2]) g0.w.l.u.l.u g0) [I a0,I a1,I a2] kk) (by kernel_rfl) ((B2m L kk a0 a1 a2 g0.w.l.u.l.u).trans (eE (sx_R14_binary_0 L a0 a1 a2 (fun a1 a2 a0 p801_5=>re (B1w L kk a1 a2 a0 p801_5)))))) h
def Bl6(F:Aq→Ab→Option Cs):Prop:=∀y0 y1 r,F y0 y1=some r→Ho Tryz.prog 251 [Gg.en y0,Bj.en y1] (fun(x:Cs)=> .tup [I x.1,I x.2]) r
def Ck5:=CC Tryz.f251
def B90(Gc:Aq→Ab→Option Cs)(L:Nat):Bd:=(orc 251 (A2 (fun(x:Cs)=> .tup [I x.1,I x.2]) Gg Bj Gc) (oL [Cau L,Cav L,Caw L]))
theorem Cr2(Gc:Aq→Ab→Option Cs)(Bvt:Bl6 Gc)(L:Nat):Dv Tryz.prog (B90 Gc L):=(D4 (a2 _ Bvt) (oS [Cau L,Cav L,Caw L]))
def Clr(kk:Cz):Cs→Prop:=fun x=>kk ((fun(x:Cs)=> .tup [I x.1,I x.2]) x)
def Brg(a0:Aq)(a1:Ab)(v:Int×Int×List Int×Int):St:=⟨[(0,.any),(1,.any),(2,.loc 2 0),(3,.loc 3 0),(4,I v.1),(5,I v.2.1),(6,.lst true (.t37 v.2.2.1)),(7,I v.2.2.2),(10,.any),(46,.any),(53,.any)],[(2,(Pu a0)),(3,(F3 a1))],0⟩
def Ad9 [An A (Nat×Int×Int×List Int×Int)](Gc:Aq→Ab→Option Cs)(L:Nat)(a0:Aq)(a1:Ab)(rec:Int→Int→List Int→Int→A)(Al:Int)(Ai:Int)(Ak:List Int)(Aj:Int):A:=
 (lw Aj a1.Kids
 (bd (Gc a0 (Ab.cp (a1.Kids.getD (Int.toNat Aj) default))) fun r1=>
 (cn (r1.2 != 0)
 (lf (0,0,r1.2,Ak,Aj))
 (gq ((Ak.length+ [r1.1].length)*8≤140737488355328)
 (gq (Ak.length+ [r1.1].length≤maxLen)
 (rec Al Ai (Ak++ [r1.1]) (B7 (Aj+1)))))))
 (lf (1,Al,Ai,Ak,Aj)))
def Qo(Gc:Aq→Ab→Option Cs)(L:Nat)(a0:Aq)(a1:Ab):Nat→Int→Int→List Int→Int→Option (Nat×Int×Int×List Int×Int)
 |0,_,_,_,_=>none
 |n+1,Al,Ai,Ak,Aj=>Ad9 Gc L a0 a1 (Qo Gc L a0 a1 n) Al Ai Ak Aj
theorem B5x(Gc:Aq→Ab→Option Cs)(L:Nat)(K:Ba)(a0:Aq)(a1:Ab):LP (EV (B90 Gc L) L 9 Ck5.w.l.u.l.l) [0,1,2,3,4,5,6,7,10,46,53] [2,3] (Brg a0 a1) [.ret,.exit 0] (fun n v=>Qo Gc L a0 a1 n v.1 v.2.1 v.2.2.1 v.2.2.2) K:=lE (fun _=>rfl) fun n v ih=>eE (Ad9 Gc L a0 a1 (fun Al Ai Ak Aj=>re (ih (Al,Ai,Ak,Aj))) v.1 v.2.1 v.2.2.1 v.2.2.2)
def Z2 [An A Cs](Gc:Aq→Ab→Option Cs)(L:Nat)(a0:Aq)(a1:Ab)(o2:Nat×Int×Int×List Int×Int):A:=
 (sl o2.1 [(lf (o2.2.1,o2.2.2.1)),
 (cn ((o2.2.2.2.1.length:Int) == 0)
 (bd (Aly L a0 (Ab.cp a1)) fun r3=>
 (lf (r3.1,r3.2)))
 (cn ((o2.2.2.2.1.length:Int) == 1)
 (gi 0 o2.2.2.2.1
 (bd (Ang L a1.Op (o2.2.2.2.1.getD 0 default)) fun r4=>
 (cn (r4 == 0)
 (lf (0,10))
 (lf (r4,0)))))
 (gi 0 o2.2.2.2.1
 (gi 1 o2.2.2.2.1
 (bd (Aky L a1.Op (o2.2.2.2.1.getD 0 default) (o2.2.2.2.1.getD 1 default)) fun r5=>
 (cn (r5 == 0)
 (lf (0,10))
 (lf (r5,0))))))))])
def Bok(Gc:Aq→Ab→Option Cs)(L:Nat)(kk:Cz):Ba:=(Av 0 (Be (EV (B90 Gc L) L 9 Ck5.w.r) (Cp Tryz.prog (RS Tryz.f251) kk)))
theorem Cf4(Gc:Aq→Ab→Option Cs)(L:Nat)(kk:Cz)(a0:Aq)(a1:Ab)(o2:Nat×Int×Int×List Int×Int):kX [.ret,.exit 0] (Brg a0 a1) (Bok Gc L kk) o2=ob (Z2 Gc L a0 a1 o2) (Clr kk):=eE (Z2 Gc L a0 a1 o2)
def A20 [An A Cs](Gc:Aq→Ab→Option Cs)(L:Nat)(a0:Aq)(a1:Ab):A:=(bd (Qo Gc L a0 a1 L 0 0 [] 0) fun o2=>Z2 Gc L a0 a1 o2)
def As7(Gc:Aq→Ab→Option Cs)(L:Nat)(a0:Aq)(a1:Ab):Option Cs:=A20 Gc L a0 a1
theorem Cqc(Gc:Aq→Ab→Option Cs)(Bvt:Bl6 Gc)(L:Nat):Bl6 (As7 Gc L):=fun a0 a1 r h=>hF Tryz.func251 (Cr2 Gc Bvt L) L (fun kk=>eE ((ho (B5x Gc L (Bok Gc L kk) a0 a1 L (0,0,[],0)) fun o2=>Cf4 Gc L kk a0 a1 o2))) h
def Si:Nat→Aq→Ab→Option Cs
 |0,_,_=>none
 |L+1,a0,a1=>As7 (Si L) L a0 a1
theorem B3b(L:Nat):Bl6 (Si L):=by
 induction L with
 |zero=>exact fun _ _ _ h=>(by cases h)
 |succ L ih=>
  have i251:=ih
  exact Cqc (Si L) i251 L
def Ci7(L:Nat):F7:=E2 (fun(x:Cs)=> .tup [I x.1,I x.2]) 251 Gg Bj (Si L) (B3b L)
def Awz [An A Cs](a0:Aq)(a1:Ab):A:=
 (bd (R9 L (Ab.cp a1)) fun r1=>
 (cn (r1 != 0)
 (lf (0,r1))
 (bd (Si L a0 (Ab.cp a1)) fun r2=>
 (lf (r2.1,r2.2)))))
def Aqx(a0:Aq)(a1:Ab):Option Cs:=Awz L a0 a1
def Ci1:F7:=E2 (fun(x:Cs)=> .tup [I x.1,I x.2]) 238 Gg Bj (Aqx L) fun a0 a1 r h=>hF Tryz.func238 (oS [Cat L,Ci7 L]) L (fun kk=>eE (Awz L a0 a1)) h
def A0k [An A Int](a0:Aq)(a1:Ab)(a2:Int)(a3:Int):A:=
 (bd (Aqx L a0 (Ab.cp a1)) fun r1=>
 (jp (.cn (r1.2 == 0)
 (.lf (r1.1 != a2))
 (.lf false)) (fun b2=>
 (jp (.cn b2
 (.lf (r1.1 != a3))
 (.lf false)) (fun b3=>
 (cn b3
 (lf 10)
 (lf r1.2)))))))
def I8(a0:Aq)(a1:Ab)(a2:Int)(a3:Int):Option Int:=A0k L a0 a1 a2 a3
def B0z:F7:=E4 I 211 Gg Bj (cI .i64) (cI .i64) (I8 L) fun a0 a1 a2 a3 r h=>hF Tryz.func211 (oS [Ci1 L]) L (fun kk=>eE (A0k L a0 a1 a2 a3)) h
def A0l [An A Int](a0:Aq)(a1:Ad):A:=
 (bd (Acm L a0.Locals a1.Name) fun r1=>
 (cn (a1.Op == 1)
 (cn (!r1.2)
 (bd (Vs L a0.Site.Vars a1.Name) fun r2=>
 (cn (!r2.2)
 (lf 5)
 (bd (I8 L a0 (Ab.cp a1.E) r2.1 r2.1) fun r3=>
 (lf r3))))
 (cn (!r1.2)
 (lf 5)
 (bd (I8 L a0 (Ab.cp a1.E) r1.1 r1.1) fun r4=>
 (lf r4))))
 (jb (.cn (!r1.2)
 (.lf true)
 (.bd (Ab9 L a0.Site a1.Of) fun r6=>
 (.lf (!(r6.toList == (⟨#[115,116,114,101,97,109]⟩:ByteArray).toList))))) (fun b5=>
 (cn b5
 (lf 5)
 (bd (Jo L r1.1) fun r7=>
 (cn (!r7)
 (lf 10)
 (lf 0))))))))
def Au5(a0:Aq)(a1:Ad):Option Int:=A0l L a0 a1
def Cin:F7:=E2 I 210 Gg H7 (Au5 L) fun a0 a1 r h=>hF Tryz.func210 (oS [Bul L,B0z L,B00 L,Caq L,B01 L]) L (fun kk=>eE (A0l L a0 a1)) h
def Ck0:=CC Tryz.f239
def B9x:Bd:=oL [B0z L]
def Brd(a2:List Ap)(a0:Aq)(a1:Ad)(v:Cs):St:=⟨[(0,.any),(1,.any),(2,lv (.t127 a2)),(3,.loc 3 0),(4,.loc 4 0),(6,I v.1),(7,I v.2)],[(3,(Pu a0)),(4,(Ej a1))],0⟩
def Aig [An A Cm](a2:List Ap)(a0:Aq)(a1:Ad)(rec:Int→Int→A)(Ai:Int)(Ak:Int):A:=
 (cn (decide (Ak < (a2.length:Int)))
 (gi Ak a1.Args
 (gi Ak a2
 (gi Ak a2
 (bd (I8 L a0 (Ab.cp (a1.Args.getD (Int.toNat Ak) default)) ((a2.getD (Int.toNat Ak) default).Type_) ((a2.getD (Int.toNat Ak) default).Type_)) fun r1=>
 (cn (r1 != 0)
 (lf (0,r1,Ak))
 (rec Ai (B7 (Ak+1))))))))
 (lf (1,Ai,Ak)))
def Tu(L:Nat)(a2:List Ap)(a0:Aq)(a1:Ad):Nat→Int→Int→Option Cm
 |0,_,_=>none
 |n+1,Ai,Ak=>Aig L a2 a0 a1 (Tu L a2 a0 a1 n) Ai Ak
theorem B5u(a2:List Ap)(a0:Aq)(a1:Ad):LP (EV (B9x L) L 9 Ck0.w.l.u.l.l) [0,1,2,3,4,6,7] [3,4] (Brd a2 a0 a1) [.ret,.exit 0] (fun n v=>Tu L a2 a0 a1 n v.1 v.2) K:=lE (fun _=>rfl) fun n v ih=>eE (Aig L a2 a0 a1 (fun Ai Ak=>re (ih (Ai,Ak))) v.1 v.2)
def Aa6 [An A Int](a0:Aq)(a1:Ad)(o2:Nat×Cs):A:=
 (sl o2.1 [(lf o2.2.1),
 (bd (I8 L a0 (Ab.cp a1.E) 3 3) fun r3=>
 (lf r3))])
def Boh:Ba:=(Av 0 (Be (EV (B9x L) L 9 Ck0.w.r) (Cp Tryz.prog (RS Tryz.f239) kk)))
theorem Cf1(a2:List Ap)(a0:Aq)(a1:Ad)(o2:Nat×Cs):kX [.ret,.exit 0] (Brd a2 a0 a1) (Boh L kk) o2=ob (Aa6 L a0 a1 o2) (kQ I kk):=eE (Aa6 L a0 a1 o2)
def Aiz [An A Int](L:Nat)(a0:Aq)(a1:Ad)(a2:List Ap)(nx1:A):A:=
 (cn ((a1.Args.length:Int) != (a2.length:Int))
 (lf 8)
 nx1)
def A61 [An A Int](a0:Aq)(a1:Ad)(a2:List Ap):A:=Aiz L a0 a1 a2 (bd (Tu L a2 a0 a1 L 0 0) fun o2=>Aa6 L a0 a1 o2)
def Af4(a0:Aq)(a1:Ad)(a2:List Ap):Option Int:=A61 L a0 a1 a2
def Ci2:F7:=E3 I 239 Gg H7 A7c (Af4 L) fun a0 a1 a2 r h=>hF Tryz.func239 (C:=B9x L) (oS _) L (fun kk=>eE (Aiz L a0 a1 a2 (ho (B5u L (Boh L kk) a2 a0 a1 L (0,0)) fun o2=>Cf1 L kk a2 a0 a1 o2))) h
def Ck1:=CC Tryz.f240
def B9y(L:Nat):Bd:=oL []
def Clq:Tu6→Prop:=fun x=>kk ((fun(x:Tu6)=> .tup [I x.1,B x.2]) x)
def Bre(a1:ByteArray)(a2:ByteArray)(a0:Ac)(v:Tu7):St:=⟨[(0,.any),(1,S a1),(2,S a2),(3,.loc 3 0),(6,I v.1),(7,B v.2.1),(8,I v.2.2)],[(3,(Au a0))],0⟩
def Ah9 [An A (Nat×Tu7)](L:Nat)(a1:ByteArray)(a2:ByteArray)(a0:Ac)(rec:Int→Bool→Int→A)(Ak:Int)(Aj:Bool)(Bu:Int):A:=
 (lw Bu a0.Links
 (jb (.cn (((a0.Links.getD (Int.toNat Bu) default).From).toList == a1.toList)
 (.gq (0≤Bu)
 (.gq (Bu < (a0.Links.length:Int))
 (.lf (((a0.Links.getD (Int.toNat Bu) default).To).toList == a2.toList))))
 (.lf false)) (fun b1=>
 (cn b1
 (gi Bu a0.Links
 (lf (0,(((a0.Links.getD (Int.toNat Bu) default).Delay),true,Bu))))
 (rec Ak Aj (B7 (Bu+1))))))
 (lf (1,Ak,Aj,Bu)))
def Tn(L:Nat)(a1:ByteArray)(a2:ByteArray)(a0:Ac):Nat→Int→Bool→Int→Option (Nat×Tu7)
 |0,_,_,_=>none
 |n+1,Ak,Aj,Bu=>Ah9 L a1 a2 a0 (Tn L a1 a2 a0 n) Ak Aj Bu
theorem B5v(a1:ByteArray)(a2:ByteArray)(a0:Ac):LP (EV (B9y L) L 9 Ck1.u.l.u.l.l) [0,1,2,3,6,7,8] [3] (Bre a1 a2 a0) [.ret,.exit 0] (fun n v=>Tn L a1 a2 a0 n v.1 v.2.1 v.2.2) K:=lE (fun _=>rfl) fun n v ih=>eE (Ah9 L a1 a2 a0 (fun Ak Aj Bu=>re (ih (Ak,Aj,Bu))) v.1 v.2.1 v.2.2)
def Aa1 [An A Tu6](L:Nat)(o2:Nat×Tu7):A:=
 (sl o2.1 [(lf (o2.2.1,o2.2.2.1)),
 (lf (0,false))])
def Boi:Ba:=(Av 0 (Be (EV (B9y L) L 9 Ck1.u.r) (Cp Tryz.prog (RS Tryz.f240) kk)))
theorem Cf2(a1:ByteArray)(a2:ByteArray)(a0:Ac)(o2:Nat×Tu7):kX [.ret,.exit 0] (Bre a1 a2 a0) (Boi L kk) o2=ob (Aa1 L o2) (Clq kk):=eE (Aa1 L o2)
def A6w [An A Tu6](a0:Ac)(a1:ByteArray)(a2:ByteArray):A:=(bd (Tn L a1 a2 a0 L 0 false 0) fun o2=>Aa1 L o2)
def Aqw(a0:Ac)(a1:ByteArray)(a2:ByteArray):Option Tu6:=A6w L a0 a1 a2
def Ci3:F7:=E3 (fun(x:Tu6)=> .tup [I x.1,B x.2]) 240 Cu cS cS (Aqw L) fun a0 a1 a2 r h=>hF Tryz.func240 (C:=B9y L) (oS _) L (fun kk=>eE ((ho (B5v L (Boi L kk) a1 a2 a0 L (0,false,0)) fun o2=>Cf2 L kk a1 a2 a0 o2))) h
def Att [An A Int](a0:Ac)(a1:Aq)(a2:Ad):A:=
 (cn (a2.Op == 14)
 (bd (Tg L a1.Site a2.Name) fun r1=>
 (cn (decide (r1 < 0))
 (lf 5)
 (gi r1 a1.Site.Routines
 (bd (Af4 L a1 (Ad.cp a2) ((a1.Site.Routines.getD (Int.toNat r1) default).Params)) fun r2=>
 (lf r2)))))
 (bd (Yx L a0 a2.Of) fun r3=>
 (cn (decide (r3 < 0))
 (lf 5)
 (gi r3 a0.Sites
 (bd (Tg L (a0.Sites.getD (Int.toNat r3) default) a2.Name) fun r4=>
 (cn (decide (r4 < 0))
 (lf 5)
 (bd (Aqw L a0 a1.Site.Name a2.Of) fun r5=>
 (cn (!r5.2)
 (lf 16)
 (gi r3 a0.Sites
 (gi r3 a0.Sites
 (bd (Tg L (a0.Sites.getD (Int.toNat r3) default) a2.Name) fun r6=>
 (gi r6 ((a0.Sites.getD (Int.toNat r3) default).Routines)
 (bd (Af4 L a1 (Ad.cp a2) ((((a0.Sites.getD (Int.toNat r3) default).Routines).getD (Int.toNat r6) default).Params)) fun r7=>
 (lf r7))))))))))))))
def Ane(a0:Ac)(a1:Aq)(a2:Ad):Option Int:=Att L a0 a1 a2
def Cio:F7:=E3 I 213 Cu Gg H7 (Ane L) fun a0 a1 a2 r h=>hF Tryz.func213 (oS [B94 L,Cak L,Ci2 L,Ci3 L]) L (fun kk=>eE (Att L a0 a1 a2)) h
def f7:=CC Tryz.f160
def An5:Bd:=oL [Cim L,Bul L,Cin L,B0z L,B00 L,Cio L]
def Bpv(a0:Ac)(a1:Aq)(a2:Ad)(p804_1:Bool):St:=⟨[(4,.loc 4 0),(5,.loc 5 0),(6,I 0),(86,B p804_1)],[(3,(Au a0)),(4,(Pu a1)),(5,(Ej a2))],0⟩
def Bph(e0:EC):Ba:=(Av 0 (Be (EV (An5 L) L 9 e0) (Cp Tryz.prog (RS Tryz.f160) kk)))
def Ain [An A Int](a0:Ac)(a1:Aq)(a2:Ad)(p804_1:Bool):A:=
 (cn p804_1
 (bd (I8 L a1 (Ab.cp a2.E) 1 1) fun r12=>
 (lf r12))
 (lf 0))
theorem B1i(a0:Ac)(a1:Aq)(a2:Ad)(p804_1:Bool):EV (An5 L) L 9 f7.w.u.l.u.l.x.x.w.u.r (Bpv a0 a1 a2 p804_1) (Bph L kk f7.w.u.r)=ob (Ain L a0 a1 a2 p804_1) (kQ I kk):=eE (Ain L a0 a1 a2 p804_1)
def A51(a2:Ad)(a0:Ac)(a1:Aq)(p803_2:Bool):St:=⟨[(3,.loc 3 0),(4,.loc 4 0),(5,.loc 5 0),(6,I 0),(26,I a2.Op),(73,B p803_2)],[(3,(Au a0)),(4,(Pu a1)),(5,(Ej a2))],0⟩
def A5i(e0:EC):Ba:=(Av 0 (Be (EV (An5 L) L 9 e0) (Cp Tryz.prog (RS Tryz.f160) kk)))
def sx_R14_stmt_3 [An A Int](a2:Ad)(a0:Ac)(a1:Aq)(p803_2:Bool)(nx4:Ac→Aq→Ad→Bool→A):A:=
 (cn p803_2
 (bd (Ane L a0 a1 (Ad.cp a2)) fun r10=>
 (lf r10))
 (cn (a2.Op == 15)
 (bd (I8 L a1 (Ab.cp a2.E) 1 3) fun r11=>
 (lf r11))
 (cn (a2.Op == 7)
 (nx4 a0 a1 a2 (a2.Op == 7))
 (cn (a2.Op == 8)
 (nx4 a0 a1 a2 (a2.Op == 8))
 (cn (a2.Op == 12)
 (nx4 a0 a1 a2 (a2.Op == 12))
 (cn (a2.Op == 16)
 (nx4 a0 a1 a2 (a2.Op == 16))
 (nx4 a0 a1 a2 (a2.Op == 17))))))))
def Ao6 [An A Int](a2:Ad)(a0:Ac)(a1:Aq)(p803_2:Bool):A:=sx_R14_stmt_3 L a2 a0 a1 p803_2 (fun a0 a1 a2 p804_1=>Ain L a0 a1 a2 p804_1)
theorem B18(a2:Ad)(a0:Ac)(a1:Aq)(p803_2:Bool)(z4:EC):EV (An5 L) L 9 (EC.put (rl [6]) z4 f7.w.u.l.u.l.x.x.r) (A51 a2 a0 a1 p803_2) (A5i L kk f7.w.u.r)= @sx_R14_stmt_3 Prop L (anP (kQ I kk)) a2 a0 a1 p803_2 (fun a0 a1 a2 p804_1=>EV (An5 L) L 9 z4 (Bpv a0 a1 a2 p804_1) (Bph L kk f7.w.u.r)):=by kernel_rfl
theorem B1h(a2:Ad)(a0:Ac)(a1:Aq)(p803_2:Bool):EV (An5 L) L 9 f7.w.u.l.u.l.x.x.r (A51 a2 a0 a1 p803_2) (A5i L kk f7.w.u.r)=ob (Ao6 L a2 a0 a1 p803_2) (kQ I kk):=Eq.trans (b:=EV (An5 L) L 9 (EC.put (rl [6]) f7.w.u.l.u.l.x.x.w.u.r f7.w.u.l.u.l.x.x.r) (A51 a2 a0 a1 p803_2) (A5i L kk f7.w.u.r)) (by kernel_rfl) ((B18 L kk a2 a0 a1 p803_2 f7.w.u.l.u.l.x.x.w.u.r).trans (eE (sx_R14_stmt_3 L a2 a0 a1 p803_2 (fun a0 a1 a2 p804_1=>re (B1i L kk a0 a1 a2 p804_1)))))
def A50(a2:Ad)(a0:Ac)(a1:Aq)(p802_2:Bool):St:=⟨[(3,.loc 3 0),(4,.loc 4 0),(5,.loc 5 0),(6,I 0),(26,I a2.Op),(33,B p802_2)],[(3,(Au a0)),(4,(Pu a1)),(5,(Ej a2))],0⟩
def A5h(e0:EC):Ba:=(Av 0 (Be (EV (An5 L) L 9 e0) (Cp Tryz.prog (RS Tryz.f160) kk)))
def sx_R14_stmt_2 [An A Int](a2:Ad)(a0:Ac)(a1:Aq)(p802_2:Bool)(nx3:Ad→Ac→Aq→Bool→A):A:=
 (cn p802_2
 (bd (I8 L a1 (Ab.cp a2.E) 2 2) fun r5=>
 (lf r5))
 (cn (a2.Op == 5)
 (bd (I8 L a1 (Ab.cp a2.E) 3 3) fun r6=>
 (lf r6))
 (cn (a2.Op == 6)
 (bd (I8 L a1 (Ab.cp a2.E) 1 1) fun r7=>
 (cn (r7 != 0)
 (lf r7)
 (bd (I8 L a1 (Ab.cp a2.F) 1 1) fun r8=>
 (lf r8))))
 (cn (a2.Op == 9)
 (bd (Acm L a1.Locals a2.Of) fun r9=>
 (cn (!r9.2)
 (lf 5)
 (cn (r9.1 != 1)
 (lf 10)
 (lf 0))))
 (cn (a2.Op == 13)
 (nx3 a2 a0 a1 (a2.Op == 13))
 (nx3 a2 a0 a1 (a2.Op == 14)))))))
def Ao5 [An A Int](a2:Ad)(a0:Ac)(a1:Aq)(p802_2:Bool):A:=sx_R14_stmt_2 L a2 a0 a1 p802_2 (fun a2 a0 a1 p803_2=>Ao6 L a2 a0 a1 p803_2)
theorem B17(a2:Ad)(a0:Ac)(a1:Aq)(p802_2:Bool)(z3:EC):EV (An5 L) L 9 (EC.put (rl [12]) z3 f7.w.u.l.u.l.w.r) (A50 a2 a0 a1 p802_2) (A5h L kk f7.w.u.r)= @sx_R14_stmt_2 Prop L (anP (kQ I kk)) a2 a0 a1 p802_2 (fun a2 a0 a1 p803_2=>EV (An5 L) L 9 z3 (A51 a2 a0 a1 p803_2) (A5i L kk f7.w.u.r)):=by kernel_rfl
theorem B1g(a2:Ad)(a0:Ac)(a1:Aq)(p802_2:Bool):EV (An5 L) L 9 f7.w.u.l.u.l.w.r (A50 a2 a0 a1 p802_2) (A5h L kk f7.w.u.r)=ob (Ao5 L a2 a0 a1 p802_2) (kQ I kk):=Eq.trans (b:=EV (An5 L) L 9 (EC.put (rl [12]) f7.w.u.l.u.l.x.x.r f7.w.u.l.u.l.w.r) (A50 a2 a0 a1 p802_2) (A5h L kk f7.w.u.r)) (by kernel_rfl) ((B17 L kk a2 a0 a1 p802_2 f7.w.u.l.u.l.x.x.r).trans (eE (sx_R14_stmt_2 L a2 a0 a1 p802_2 (fun a2 a0 a1 p803_2=>re (B1h L kk a2 a0 a1 p803_2)))))
def A5z(a2:Ad)(a0:Ac)(a1:Aq)(p801_2:Bool):St:=⟨[(3,.loc 3 0),(4,.loc 4 0),(5,.loc 5 0),(6,I 0),(26,I a2.Op),(27,B p801_2)],[(3,(Au a0)),(4,(Pu a1)),(5,(Ej a2))],0⟩
def A5g(e0:EC):Ba:=(Av 0 (Be (EV (An5 L) L 9 e0) (Cp Tryz.prog (RS Tryz.f160) kk)))
def sx_R14_stmt_1 [An A Int](a2:Ad)(a0:Ac)(a1:Aq)(p801_2:Bool)(nx2:Ad→Ac→Aq→Bool→A):A:=
 (cn p801_2
 (bd (Au5 L a1 (Ad.cp a2)) fun r4=>
 (lf r4))
 (cn (a2.Op == 3)
 (nx2 a2 a0 a1 (a2.Op == 3))
 (nx2 a2 a0 a1 (a2.Op == 4))))
def Ao4 [An A Int](a2:Ad)(a0:Ac)(a1:Aq)(p801_2:Bool):A:=sx_R14_stmt_1 L a2 a0 a1 p801_2 (fun a2 a0 a1 p802_2=>Ao5 L a2 a0 a1 p802_2)
theorem B16(a2:Ad)(a0:Ac)(a1:Aq)(p801_2:Bool)(z2:EC):EV (An5 L) L 9 (EC.put (rl [3]) z2 f7.w.u.l.u.l.u) (A5z a2 a0 a1 p801_2) (A5g L kk f7.w.u.r)= @sx_R14_stmt_1 Prop L (anP (kQ I kk)) a2 a0 a1 p801_2 (fun a2 a0 a1 p802_2=>EV (An5 L) L 9 z2 (A50 a2 a0 a1 p802_2) (A5h L kk f7.w.u.r)):=by kernel_rfl
theorem B1f(a2:Ad)(a0:Ac)(a1:Aq)(p801_2:Bool):EV (An5 L) L 9 f7.w.u.l.u.l.u (A5z a2 a0 a1 p801_2) (A5g L kk f7.w.u.r)=ob (Ao4 L a2 a0 a1 p801_2) (kQ I kk):=Eq.trans (b:=EV (An5 L) L 9 (EC.put (rl [3]) f7.w.u.l.u.l.w.r f7.w.u.l.u.l.u) (A5z a2 a0 a1 p801_2) (A5g L kk f7.w.u.r)) (by kernel_rfl) ((B16 L kk a2 a0 a1 p801_2 f7.w.u.l.u.l.w.r).trans (eE (sx_R14_stmt_1 L a2 a0 a1 p801_2 (fun a2 a0 a1 p802_2=>re (B1g L kk a2 a0 a1 p802_2)))))
def sx_R14_stmt_0 [An A Int](a0:Ac)(a1:Aq)(a2:Ad)(nx1:Ad→Ac→Aq→Bool→A):A:=
 (bd (Anf L a2.Op) fun r1=>
 (jb (.cn (!(r1.toList == (⟨#[]⟩:ByteArray).toList))
 (.bd (Ab9 L a1.Site a2.Name) fun r3=>
 (.lf (!(r3.toList == r1.toList))))
 (.lf false)) (fun b2=>
 (cn b2
 (lf 5)
 (cn (a2.Op == 1)
 (nx1 a2 a0 a1 (a2.Op == 1))
 (nx1 a2 a0 a1 (a2.Op == 2)))))))
def A62 [An A Int](a0:Ac)(a1:Aq)(a2:Ad):A:=sx_R14_stmt_0 L a0 a1 a2 (fun a2 a0 a1 p801_2=>Ao4 L a2 a0 a1 p801_2)
theorem B15(a0:Ac)(a1:Aq)(a2:Ad)(z1:EC):EW (An5 L) L 9 (RS Tryz.f160) (EC.put (rl [6,1,2,1,2]) z1 f7) [.agg (Au a0),.agg (Pu a1),.agg (Ej a2)] kk= @sx_R14_stmt_0 Prop L (anP (kQ I kk)) a0 a1 a2 (fun a2 a0 a1 p801_2=>EV (An5 L) L 9 z1 (A5z a2 a0 a1 p801_2) (A5g L kk f7.w.u.r)):=by kernel_rfl
def Alz(a0:Ac)(a1:Aq)(a2:Ad):Option Int:=A62 L a0 a1 a2
def B95:F7:=E3 I 160 Cu Gg H7 (Alz L) fun a0 a1 a2 r h=>hF Tryz.func160 (C:=An5 L) (oS _) L (fun kk=>Eq.trans (b:=EW (An5 L) L 9 (RS Tryz.f160) (EC.put (rl [6,1,2,1,2]) f7.w.u.l.u.l.u f7) [.agg (Au a0),.agg (Pu a1),.agg (Ej a2)] kk) (by kernel_rfl) ((B15 L kk a0 a1 a2 f7.w.u.l.u.l.u).trans (eE (sx_R14_stmt_0 L a0 a1 a2 (fun a2 a0 a1 p801_2=>re (B1f L kk a2 a0 a1 p801_2)))))) h
def B0u(F:Ac→Aq→(List Ad)→Option Int):Prop:=∀y0 y1 y2 r,F y0 y1 y2=some r→Ho Tryz.prog 88 [Cu.en y0,Gg.en y1,Xe.en y2] I r
def c88:=CC Tryz.f88
def O88(Hl:Ac→Aq→(List Ad)→Option Int)(L:Nat):Bd:=(orc 88 (A3 I Cu Gg Xe Hl) (oL [B95 L]))
theorem s88(Hl:Ac→Aq→(List Ad)→Option Int)(Cbr:B0u Hl)(L:Nat):Dv Tryz.prog (O88 Hl L):=(D4 (a3 _ Cbr) (oS [B95 L]))
def Bzc(a2:List Ad)(a0:Ac)(a1:Aq)(v:Cs):St:=⟨[(0,.any),(1,.any),(2,lv (.t96 a2)),(3,.loc 3 0),(4,.loc 4 0),(6,I v.1),(7,I v.2)],[(3,(Au a0)),(4,(Pu a1))],0⟩
def Ad8 [An A Cm](Hl:Ac→Aq→(List Ad)→Option Int)(L:Nat)(a2:List Ad)(a0:Ac)(a1:Aq)(rec:Int→Int→A)(Ai:Int)(Ak:Int):A:=
 (lw Ak a2
 (bd (Alz L a0 a1 (Ad.cp (a2.getD (Int.toNat Ak) default))) fun r1=>
 (cn (r1 == 0)
 (gi Ak a2
 (bd (Hl a0 a1 ((a2.getD (Int.toNat Ak) default).Body)) fun r2=>
 (cn (r2 == 0)
 (gi Ak a2
 (bd (Hl a0 a1 ((a2.getD (Int.toNat Ak) default).Else)) fun r3=>
 (cn (r3 != 0)
 (lf (0,r3,Ak))
 (rec Ai (B7 (Ak+1))))))
 (cn (r2 != 0)
 (lf (0,r2,Ak))
 (rec Ai (B7 (Ak+1)))))))
 (cn (r1 == 0)
 (gi Ak a2
 (bd (Hl a0 a1 ((a2.getD (Int.toNat Ak) default).Else)) fun r4=>
 (cn (r4 != 0)
 (lf (0,r4,Ak))
 (rec Ai (B7 (Ak+1))))))
 (cn (r1 != 0)
 (lf (0,r1,Ak))
 (rec Ai (B7 (Ak+1)))))))
 (lf (1,Ai,Ak)))
def Qn(Hl:Ac→Aq→(List Ad)→Option Int)(L:Nat)(a2:List Ad)(a0:Ac)(a1:Aq):Nat→Int→Int→Option Cm
 |0,_,_=>none
 |n+1,Ai,Ak=>Ad8 Hl L a2 a0 a1 (Qn Hl L a2 a0 a1 n) Ai Ak
theorem Cdt(Hl:Ac→Aq→(List Ad)→Option Int)(L:Nat)(K:Ba)(a2:List Ad)(a0:Ac)(a1:Aq):LP (EV (O88 Hl L) L 9 c88.u.l.u.l.l) [0,1,2,3,4,6,7] [3,4] (Bzc a2 a0 a1) [.ret,.exit 0] (fun n v=>Qn Hl L a2 a0 a1 n v.1 v.2) K:=lE (fun _=>rfl) fun n v ih=>eE (Ad8 Hl L a2 a0 a1 (fun Ai Ak=>re (ih (Ai,Ak))) v.1 v.2)
def Z1 [An A Int](Hl:Ac→Aq→(List Ad)→Option Int)(L:Nat)(o5:Nat×Cs):A:=
 (sl o5.1 [(lf o5.2.1),
 (lf 0)])
def Bxa(Hl:Ac→Aq→(List Ad)→Option Int)(L:Nat)(kk:Cz):Ba:=(Av 0 (Be (EV (O88 Hl L) L 9 c88.u.r) (Cp Tryz.prog (RS Tryz.f88) kk)))
theorem Cnq(Hl:Ac→Aq→(List Ad)→Option Int)(L:Nat)(kk:Cz)(a2:List Ad)(a0:Ac)(a1:Aq)(o5:Nat×Cs):kX [.ret,.exit 0] (Bzc a2 a0 a1) (Bxa Hl L kk) o5=ob (Z1 Hl L o5) (kQ I kk):=eE (Z1 Hl L o5)
def A2z [An A Int](Hl:Ac→Aq→(List Ad)→Option Int)(L:Nat)(a0:Ac)(a1:Aq)(a2:List Ad):A:=(bd (Qn Hl L a2 a0 a1 L 0 0) fun o5=>Z1 Hl L o5)
def As6(Hl:Ac→Aq→(List Ad)→Option Int)(L:Nat)(a0:Ac)(a1:Aq)(a2:List Ad):Option Int:=A2z Hl L a0 a1 a2
theorem b88(Hl:Ac→Aq→(List Ad)→Option Int)(Cbr:B0u Hl)(L:Nat):B0u (As6 Hl L):=fun a0 a1 a2 r h=>hF Tryz.func88 (s88 Hl Cbr L) L (fun kk=>eE ((ho (Cdt Hl L (Bxa Hl L kk) a2 a0 a1 L (0,0)) fun o5=>Cnq Hl L kk a2 a0 a1 o5))) h
def Sh:Nat→Ac→Aq→(List Ad)→Option Int
 |0,_,_,_=>none
 |L+1,a0,a1,a2=>As6 (Sh L) L a0 a1 a2
theorem Cbm(L:Nat):B0u (Sh L):=by
 induction L with
 |zero=>exact fun _ _ _ _ h=>(by cases h)
 |succ L ih=>
  have i88:=ih
  exact b88 (Sh L) i88 L
def X88(L:Nat):F7:=E3 I 88 Cu Gg Xe (Sh L) (Cbm L)
def Ats [An A Int](a0:Ac)(a1:Int)(a2:List Ap)(a3:List Ad):A:=
 (bd (Ai1 L a3) fun r1=>
 (cn (r1 != 0)
 (lf r1)
 (jp (.cn (decide (a1 < 0))
 (.lf true)
 (.lf (decide (a1≥(a0.Sites.length:Int))))) (fun b2=>
 (cn b2
 (lf 2)
 (gi a1 a0.Sites
 (bd (Sh L a0 (⟨a0.Params,a2,(a0.Sites.getD (Int.toNat a1) default)⟩:Aq) a3) fun r3=>
 (lf r3))))))))
def Ai3(a0:Ac)(a1:Int)(a2:List Ap)(a3:List Ad):Option Int:=Ats L a0 a1 a2 a3
def X48:F7:=E4 I 48 Cu (cI .i64) A7c Xe (Ai3 L) fun a0 a1 a2 a3 r h=>hF Tryz.func48 (oS [X87 L,X88 L]) L (fun kk=>eE (Ats L a0 a1 a2 a3)) h
end
end Go.Proofs.YtofcpkmnhmnfcaaGreatR.Ev
