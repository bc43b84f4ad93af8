import Derived.Test.YtfencmicmnhglaaGreatG10
import Derived.Test.YtfencmicmnhglaaGreatG11
namespace Go.Proofs.YtfencmicmnhglaaGreat.Ev
open Go An
set_option maxRecDepth 100000
set_option maxHeartbeats 4000000
set_option linter.unusedVariables false
set_option linter.unusedSimpArgs false
set_option linter.unnecessarySimpa false
noncomputable section
variable {A:Type} (L n:Nat) (kk:Dm) (K:Be) (k:Bx)
def Cj6:=CC Tryz.f130
def B8r(L:Nat):Bi:=oL []
def Bq2(a1:ByteArray)(a0:Ad)(v:Cp):St:=⟨[(0,.any),(1,S a1),(2,.loc 2 0),(4,I v.1),(5,I v.2)],[(2,(Aw a0))],0⟩
def Af9 [An A B8](L:Nat)(a1:ByteArray)(a0:Ad)(rec:Int→Int→A)(Ag:Int)(Aj:Int):A:=
 (lw Aj a0.Sites
 (cn (((a0.Sites.getD (Int.toNat Aj) default).Name).toList == a1.toList)
 (lf (0,Aj,Aj))
 (rec Ag (Cq (Aj+1))))
 (lf (1,Ag,Aj)))
def Sk(L:Nat)(a1:ByteArray)(a0:Ad):Nat→Int→Int→Option B8
 |0,_,_=>none
 |n+1,Ag,Aj=>Af9 L a1 a0 (Sk L a1 a0 n) Ag Aj
theorem B4i(a1:ByteArray)(a0:Ad):LP (EV (B8r L) L 9 Cj6.u.l.u.l.l) [0,1,2,4,5] [2] (Bq2 a1 a0) [.ret,.exit 0] (fun n v=>Sk L a1 a0 n v.1 v.2) K:=lE (fun _=>rfl) fun n v ih=>eE (Af9 L a1 a0 (fun Ag Aj=>re (ih (Ag,Aj))) v.1 v.2)
def n9 [An A Int](L:Nat)(o1:Nat×Cp):A:=
 (sl o1.1 [(lf o1.2.1),
 (lf (-1))])
def Bnh:Be:=(Ax 0 (Bk (EV (B8r L) L 9 Cj6.u.r) (C0 Tryz.prog (RS Tryz.f130) kk)))
theorem Cds(a1:ByteArray)(a0:Ad)(o1:Nat×Cp):kX [.ret,.exit 0] (Bq2 a1 a0) (Bnh L kk) o1=ob (n9 L o1) (kQ I kk):=eE (n9 L o1)
def A5g [An A Int](a0:Ad)(a1:ByteArray):A:=(bd (Sk L a1 a0 L 0 0) fun o1=>n9 L o1)
def Wy(a0:Ad)(a1:ByteArray):Option Int:=A5g L a0 a1
def B9l:Gh:=E2 I 130 C6 cS (Wy L) fun a0 a1 r h=>hF Tryz.func130 (C:=B8r L) (oS _) L (fun kk=>eE ((ho (B4i L (Bnh L kk) a1 a0 L (0,0)) fun o1=>Cds L kk a1 a0 o1))) h
def c75:=CC Tryz.f75
def O75:Bi:=oL [X79 L,B9l L]
def Byu(Ag:Int)(a0:Ad)(v:Cp):St:=⟨[(0,.any),(1,.loc 1 0),(2,I v.1),(3,I Ag),(4,.loc 4 0),(5,I v.2)],[(1,(Aw a0)),(4,(Jj (a0.Links.getD (Int.toNat Ag) default)))],0⟩
def Ab6 [An A B8](L:Nat)(Ag:Int)(a0:Ad)(rec:Int→Int→A)(Bz:Int)(Gk:Int):A:=
 (cn (decide (Gk < Ag))
 (gi Gk a0.Links
 (cn (((a0.Links.getD (Int.toNat Gk) default).From).toList == ((a0.Links.getD (Int.toNat Ag) default).From).toList)
 (gi Gk a0.Links
 (cn (((a0.Links.getD (Int.toNat Gk) default).To).toList == ((a0.Links.getD (Int.toNat Ag) default).To).toList)
 (lf (0,4,Gk))
 (rec Bz (Cq (Gk+1)))))
 (rec Bz (Cq (Gk+1)))))
 (lf (1,Bz,Gk)))
def Lx(L:Nat)(Ag:Int)(a0:Ad):Nat→Int→Int→Option B8
 |0,_,_=>none
 |n+1,Bz,Gk=>Ab6 L Ag a0 (Lx L Ag a0 n) Bz Gk
theorem Ccz(Ag:Int)(a0:Ad):LP (EV (O75 L) L 9 c75.w.l.u.l.l.u.l.l.x.u.l.l) [0,1,2,3,4,5] [1,4] (Byu Ag a0) [.ret,.exit 2] (fun n v=>Lx L Ag a0 n v.1 v.2) K:=lE (fun _=>rfl) fun n v ih=>eE (Ab6 L Ag a0 (fun Bz Gk=>re (ih (Bz,Gk))) v.1 v.2)
def Bk6(a0:Ad)(v:Cp):St:=⟨[(0,.any),(1,.loc 1 0),(2,I v.1),(3,I v.2)],[(1,(Aw a0))],0⟩
def Xv [An A B8](L:Nat)(Ag:Int)(rec:Int→Int→A)(o5:Nat×Cp):A:=
 (sl o5.1 [(lf (0,o5.2.1,Ag)),
 (rec o5.2.1 (Cq (Ag+1)))])
def Adk [An A B8](a0:Ad)(rec:Int→Int→A)(Ao:Int)(Ag:Int)(nx1:Int→Int→A):A:=
 (lw Ag a0.Links
 (bd (Wy L a0 ((a0.Links.getD (Int.toNat Ag) default).From)) fun r1=>
 (jb (.cn (decide (r1 < 0))
 (.lf true)
 (.bd (Wy L a0 ((a0.Links.getD (Int.toNat Ag) default).To)) fun r3=>
 (.lf (decide (r3 < 0))))) (fun b2=>
 (cn b2
 (lf (0,5,Ag))
 (cn (((a0.Links.getD (Int.toNat Ag) default).From).toList == ((a0.Links.getD (Int.toNat Ag) default).To).toList)
 (lf (0,1,Ag))
 (bd (D2 L ((a0.Links.getD (Int.toNat Ag) default).Delay) 1 1000000000) fun r4=>
 (cn (!r4)
 (lf (0,2,Ag))
 (nx1 Ag Ao))))))))
 (lf (1,Ao,Ag)))
def Aj7 [An A B8](a0:Ad)(rec:Int→Int→A)(Ao:Int)(Ag:Int):A:=Adk L a0 rec Ao Ag (fun Ag Ao=>bd (Lx L Ag a0 L Ao 0) fun o5=>Xv L Ag rec o5)
def Lw(L:Nat)(a0:Ad):Nat→Int→Int→Option B8
 |0,_,_=>none
 |n+1,Ao,Ag=>Aj7 L a0 (Lw L a0 n) Ao Ag
def Buq(a0:Ad):Prop:=LI (EV (O75 L) L 9 c75.w.l.u.l.l) [0,1,2,3] [1] (Bk6 a0) [.ret,.exit 0] (fun n v=>Lw L a0 n v.1 v.2) K n
def Bxi:Be:=(Ax 2 (Ax 1 (Bk (EV (O75 L) L 9 c75.w.l.u.l.l.u.r) (Ir (Lh (EV (O75 L) L 9 c75.w.l.u.l.l) [0,1,2,3] [1] n) [0,1,2,3] [1] K))))
theorem Cof(Ag:Int)(a0:Ad)(ih:Buq L n K a0)(o5:Nat×Cp):kX [.ret,.exit 2] (Byu Ag a0) (Bxi L n K) o5=ob (Xv L Ag (Lw L a0 n) o5) (kX [.ret,.exit 0] (Bk6 a0) K):=eE (Xv L Ag (fun Ao Ag=>re (ih (Ao,Ag))) o5)
theorem Ccy(a0:Ad):∀n,Buq L n K a0:=lE (fun _=>rfl) fun n v ih=>eE (Adk L a0 (fun Ao Ag=>re (ih (Ao,Ag))) v.1 v.2 (fun Ag Ao=>ho (Ccz L (Bxi L n K) Ag a0 L (Ao,0)) fun o5=>Cof L n K Ag a0 ih o5))
def Xw [An A Int](L:Nat)(o6:Nat×Cp):A:=
 (sl o6.1 [(lf o6.2.1),
 (lf 0)])
def Bxj:Be:=(Ax 0 (Bk (EV (O75 L) L 9 c75.w.r) (C0 Tryz.prog (RS Tryz.f75) kk)))
theorem Cog(a0:Ad)(o6:Nat×Cp):kX [.ret,.exit 0] (Bk6 a0) (Bxj L kk) o6=ob (Xw L o6) (kQ I kk):=eE (Xw L o6)
def Adl [An A Int](L:Nat)(a0:Ad)(nx2:A):A:=
 (cn (decide ((a0.Links.length:Int) > 32))
 (lf 6)
 nx2)
def A07 [An A Int](a0:Ad):A:=Adl L a0 (bd (Lw L a0 L 0 0) fun o6=>Xw L o6)
def Ak0(a0:Ad):Option Int:=A07 L a0
def X75:Gh:=E1 I 75 C6 (Ak0 L) fun a0 r h=>hF Tryz.func75 (C:=O75 L) (oS _) L (fun kk=>eE (Adl L a0 (ho (Ccy L (Bxj L kk) a0 L (0,0)) fun o6=>Cog L kk a0 o6))) h
def c47:=CC Tryz.f47
def O47:Bi:=oL [X69 L,X70 L,X71 L,X72 L,X73 L,X74 L,X75 L]
def Byj(a0:Ad)(v:Tu9):St:=⟨[(0,.any),(1,.loc 1 0),(2,I v.1),(3,I v.2.1),(4,.lst true (.t9 v.2.2.1)),(5,I v.2.2.2),(6,.any),(7,.any)],[(1,(Aw a0))],0⟩
def Abz [An A (Nat×Tu9)](a0:Ad)(rec:Int→Int→List ByteArray→Int→A)(Ao:Int)(Ag:Int)(Aj:List ByteArray)(Ai:Int):A:=
 (lw Ai a0.Params
 (bd (Agu L (a0.Params.getD (Int.toNat Ai) default) Aj) fun r4=>
 (cn (r4 != 0)
 (lf (0,r4,r4,Aj,Ai))
 (gi Ai a0.Params
 (gq ((Aj.length+ [(a0.Params.getD (Int.toNat Ai) default).Name].length)*16≤140737488355328)
 (gq (Aj.length+ [(a0.Params.getD (Int.toNat Ai) default).Name].length≤maxLen)
 (rec Ao r4 (Aj++ [(a0.Params.getD (Int.toNat Ai) default).Name]) (Cq (Ai+1))))))))
 (lf (1,Ao,Ag,Aj,Ai)))
def O4(L:Nat)(a0:Ad):Nat→Int→Int→List ByteArray→Int→Option (Nat×Tu9)
 |0,_,_,_,_=>none
 |n+1,Ao,Ag,Aj,Ai=>Abz L a0 (O4 L a0 n) Ao Ag Aj Ai
theorem Ccg(a0:Ad):LP (EV (O47 L) L 9 c47.x.l.u.l.l) [0,1,2,3,4,5,6,7] [1] (Byj a0) [.ret,.exit 0] (fun n v=>O4 L a0 n v.1 v.2.1 v.2.2.1 v.2.2.2) K:=lE (fun _=>rfl) fun n v ih=>eE (Abz L a0 (fun Ao Ag Aj Ai=>re (ih (Ao,Ag,Aj,Ai))) v.1 v.2.1 v.2.2.1 v.2.2.2)
def Byk(a0:Ad)(v:Tu9):St:=⟨[(0,.any),(1,.loc 1 0),(2,I v.1),(3,I v.2.1),(4,.any),(5,.any),(6,.lst true (.t9 v.2.2.1)),(7,I v.2.2.2)],[(1,(Aw a0))],0⟩
def Ab0 [An A (Nat×Tu9)](a0:Ad)(rec:Int→Int→List ByteArray→Int→A)(Bz:Int)(Ct:Int)(Gk:List ByteArray)(Bw:Int):A:=
 (lw Bw a0.Sites
 (bd (N1 L ((a0.Sites.getD (Int.toNat Bw) default).Name) Gk) fun r9=>
 (gi Bw a0.Sites
 (bd (Aji L (a0.Sites.getD (Int.toNat Bw) default)) fun r10=>
 (bd (C9 L r9 r10) fun r11=>
 (cn (r11 != 0)
 (lf (0,r11,r11,Gk,Bw))
 (gi Bw a0.Sites
 (gq ((Gk.length+ [(a0.Sites.getD (Int.toNat Bw) default).Name].length)*16≤140737488355328)
 (gq (Gk.length+ [(a0.Sites.getD (Int.toNat Bw) default).Name].length≤maxLen)
 (rec Bz r11 (Gk++ [(a0.Sites.getD (Int.toNat Bw) default).Name]) (Cq (Bw+1)))))))))))
 (lf (1,Bz,Ct,Gk,Bw)))
def O7(L:Nat)(a0:Ad):Nat→Int→Int→List ByteArray→Int→Option (Nat×Tu9)
 |0,_,_,_,_=>none
 |n+1,Bz,Ct,Gk,Bw=>Ab0 L a0 (O7 L a0 n) Bz Ct Gk Bw
theorem Cch(a0:Ad):LP (EV (O47 L) L 9 c47.x.x.l.u.l.l) [0,1,2,3,4,5,6,7] [1] (Byk a0) [.ret,.exit 2] (fun n v=>O7 L a0 n v.1 v.2.1 v.2.2.1 v.2.2.2) K:=lE (fun _=>rfl) fun n v ih=>eE (Ab0 L a0 (fun Bz Ct Gk Bw=>re (ih (Bz,Ct,Gk,Bw))) v.1 v.2.1 v.2.2.1 v.2.2.2)
def Xt [An A Int](a0:Ad)(o12:Nat×Tu9):A:=
 (sl o12.1 [(lf o12.2.1),
 (bd (Ak0 L a0) fun r13=>
 (lf r13))])
def Bw6:Be:=(Ax 2 (Bk (EV (O47 L) L 9 c47.x.x.r) (C0 Tryz.prog (RS Tryz.f47) kk)))
theorem Cn3(a0:Ad)(o12:Nat×Tu9):kX [.ret,.exit 2] (Byk a0) (Bw6 L kk) o12=ob (Xt L a0 o12) (kQ I kk):=eE (Xt L a0 o12)
def Adf [An A Int](a0:Ad)(o5:Nat×Tu9)(nx2:(Nat×Tu9)→Int→A):A:=
 (sl o5.1 [(lf o5.2.1),
 (bd (Co L (decide ((a0.Sites.length:Int) > 0)) 7) fun r6=>
 (bd (Co L (decide ((a0.Sites.length:Int)≤16)) 6) fun r7=>
 (bd (C9 L r6 r7) fun r8=>
 (cn (r8 != 0)
 (lf r8)
 (nx2 o5 r8)))))])
def Acp [An A Int](a0:Ad)(o5:Nat×Tu9):A:=Adf L a0 o5 (fun o5 r8=>bd (O7 L a0 L o5.2.1 r8 [] 0) fun o12=>Xt L a0 o12)
def Bw5:Be:=(Ax 0 (Bk (EV (O47 L) L 9 c47.x.r) (C0 Tryz.prog (RS Tryz.f47) kk)))
theorem Cn2(a0:Ad)(o5:Nat×Tu9):kX [.ret,.exit 0] (Byj a0) (Bw5 L kk) o5=ob (Acp L a0 o5) (kQ I kk):=eE (Adf L a0 o5 (fun o5 r8=>ho (Cch L (Bw6 L kk) a0 L (o5.2.1,r8,[],0)) fun o12=>Cn3 L kk a0 o12))
def Ade [An A Int](a0:Ad)(nx1:Int→A):A:=
 (bd (Q0 L a0.Name) fun r1=>
 (bd (Co L (decide ((a0.Params.length:Int)≤32)) 6) fun r2=>
 (bd (C9 L r1 r2) fun r3=>
 (cn (r3 != 0)
 (lf r3)
 (nx1 r3)))))
def A05 [An A Int](a0:Ad):A:=Ade L a0 (fun r3=>bd (O4 L a0 L 0 r3 [] 0) fun o5=>Acp L a0 o5)
def Akz(a0:Ad):Option Int:=A05 L a0
def X47:Gh:=E1 I 47 C6 (Akz L) fun a0 r h=>hF Tryz.func47 (C:=O47 L) (oS _) L (fun kk=>eE (Ade L a0 (fun r3=>ho (Ccg L (Bw5 L kk) a0 L (0,r3,[],0)) fun o5=>Cn2 L kk a0 o5))) h
def Ao6 [An A (List Ap)](L:Nat)(a0:Ak):A:=
 (gq ((0+a0.Params.length)*24≤140737488355328)
 (gq (0+a0.Params.length≤maxLen)
 (gq ((a0.Params.length+a0.Locals.length)*24≤140737488355328)
 (gq (a0.Params.length+a0.Locals.length≤maxLen)
 (lf (a0.Params++a0.Locals))))))
def Aij(a0:Ak):Option (List Ap):=Ao6 L a0
def X49:Gh:=E1 (fun(x:List Ap)=>lv (.t190 x)) 49 Abk (Aij L) fun a0 r h=>hF Tryz.func49 (oS []) L (fun kk=>eE (Ao6 L a0)) h
def Arm [An A ByteArray](L:Nat)(a0:Int):A:=
 (cn (a0 == 6)
 (cn (a0 == 6)
 (lf (⟨#[114,101,115,111,117,114,99,101]⟩:ByteArray))
 (cn (a0 == 8)
 (cn (a0 == 8)
 (lf (⟨#[115,116,111,114,101]⟩:ByteArray))
 (cn (a0 == 10)
 (lf (⟨#[98,101,108,116]⟩:ByteArray))
 (cn (a0 == 11)
 (cn (a0 == 11)
 (lf (⟨#[113,117,101,117,101]⟩:ByteArray))
 (cn (a0 == 15)
 (lf (⟨#[116,97,108,108,121]⟩:ByteArray))
 (cn (a0 == 16)
 (lf (⟨#[108,101,118,101,108]⟩:ByteArray))
 (cn (a0 == 17)
 (lf (⟨#[99,111,117,110,116]⟩:ByteArray))
 (lf (⟨#[]⟩:ByteArray))))))
 (cn (a0 == 12)
 (lf (⟨#[113,117,101,117,101]⟩:ByteArray))
 (cn (a0 == 15)
 (lf (⟨#[116,97,108,108,121]⟩:ByteArray))
 (cn (a0 == 16)
 (lf (⟨#[108,101,118,101,108]⟩:ByteArray))
 (cn (a0 == 17)
 (lf (⟨#[99,111,117,110,116]⟩:ByteArray))
 (lf (⟨#[]⟩:ByteArray)))))))))
 (cn (a0 == 9)
 (lf (⟨#[115,116,111,114,101]⟩:ByteArray))
 (cn (a0 == 10)
 (lf (⟨#[98,101,108,116]⟩:ByteArray))
 (cn (a0 == 11)
 (cn (a0 == 11)
 (lf (⟨#[113,117,101,117,101]⟩:ByteArray))
 (cn (a0 == 15)
 (lf (⟨#[116,97,108,108,121]⟩:ByteArray))
 (cn (a0 == 16)
 (lf (⟨#[108,101,118,101,108]⟩:ByteArray))
 (cn (a0 == 17)
 (lf (⟨#[99,111,117,110,116]⟩:ByteArray))
 (lf (⟨#[]⟩:ByteArray))))))
 (cn (a0 == 12)
 (lf (⟨#[113,117,101,117,101]⟩:ByteArray))
 (cn (a0 == 15)
 (lf (⟨#[116,97,108,108,121]⟩:ByteArray))
 (cn (a0 == 16)
 (lf (⟨#[108,101,118,101,108]⟩:ByteArray))
 (cn (a0 == 17)
 (lf (⟨#[99,111,117,110,116]⟩:ByteArray))
 (lf (⟨#[]⟩:ByteArray)))))))))))
 (cn (a0 == 7)
 (lf (⟨#[114,101,115,111,117,114,99,101]⟩:ByteArray))
 (cn (a0 == 8)
 (cn (a0 == 8)
 (lf (⟨#[115,116,111,114,101]⟩:ByteArray))
 (cn (a0 == 10)
 (lf (⟨#[98,101,108,116]⟩:ByteArray))
 (cn (a0 == 11)
 (cn (a0 == 11)
 (lf (⟨#[113,117,101,117,101]⟩:ByteArray))
 (cn (a0 == 15)
 (lf (⟨#[116,97,108,108,121]⟩:ByteArray))
 (cn (a0 == 16)
 (lf (⟨#[108,101,118,101,108]⟩:ByteArray))
 (cn (a0 == 17)
 (lf (⟨#[99,111,117,110,116]⟩:ByteArray))
 (lf (⟨#[]⟩:ByteArray))))))
 (cn (a0 == 12)
 (lf (⟨#[113,117,101,117,101]⟩:ByteArray))
 (cn (a0 == 15)
 (lf (⟨#[116,97,108,108,121]⟩:ByteArray))
 (cn (a0 == 16)
 (lf (⟨#[108,101,118,101,108]⟩:ByteArray))
 (cn (a0 == 17)
 (lf (⟨#[99,111,117,110,116]⟩:ByteArray))
 (lf (⟨#[]⟩:ByteArray)))))))))
 (cn (a0 == 9)
 (lf (⟨#[115,116,111,114,101]⟩:ByteArray))
 (cn (a0 == 10)
 (lf (⟨#[98,101,108,116]⟩:ByteArray))
 (cn (a0 == 11)
 (cn (a0 == 11)
 (lf (⟨#[113,117,101,117,101]⟩:ByteArray))
 (cn (a0 == 15)
 (lf (⟨#[116,97,108,108,121]⟩:ByteArray))
 (cn (a0 == 16)
 (lf (⟨#[108,101,118,101,108]⟩:ByteArray))
 (cn (a0 == 17)
 (lf (⟨#[99,111,117,110,116]⟩:ByteArray))
 (lf (⟨#[]⟩:ByteArray))))))
 (cn (a0 == 12)
 (lf (⟨#[113,117,101,117,101]⟩:ByteArray))
 (cn (a0 == 15)
 (lf (⟨#[116,97,108,108,121]⟩:ByteArray))
 (cn (a0 == 16)
 (lf (⟨#[108,101,118,101,108]⟩:ByteArray))
 (cn (a0 == 17)
 (lf (⟨#[99,111,117,110,116]⟩:ByteArray))
 (lf (⟨#[]⟩:ByteArray))))))))))))
def Ak2(a0:Int):Option ByteArray:=Arm L a0
def Ch1:Gh:=E1 S 165 (cI .i64) (Ak2 L) fun a0 r h=>hF Tryz.func165 (oS []) L (fun kk=>eE (Arm L a0)) h
def Cki:=CC Tryz.f169
def B80(L:Nat):Bi:=oL []
def Clv:V4→Prop:=fun x=>kk ((fun(x:V4)=> .tup [I x.1,B x.2]) x)
def Brj(a0:List Ap)(a1:ByteArray)(v:Tu6):St:=⟨[(0,lv (.t190 a0)),(1,S a1),(4,I v.1),(5,B v.2.1),(6,I v.2.2)],[],0⟩
def Xb [An A (Nat×Tu6)](L:Nat)(a0:List Ap)(a1:ByteArray)(rec:Int→Bool→Int→A)(Aj:Int)(Ai:Bool)(Bg:Int):A:=
 (cn (decide (Bg≥0))
 (gi Bg a0
 (cn (((a0.getD (Int.toNat Bg) default).Name).toList == a1.toList)
 (gi Bg a0
 (lf (0,(((a0.getD (Int.toNat Bg) default).Type_),true,Bg))))
 (rec Aj Ai (Cq (Bg - 1)))))
 (lf (1,Aj,Ai,Bg)))
def Pv(L:Nat)(a0:List Ap)(a1:ByteArray):Nat→Int→Bool→Int→Option (Nat×Tu6)
 |0,_,_,_=>none
 |n+1,Aj,Ai,Bg=>Xb L a0 a1 (Pv L a0 a1 n) Aj Ai Bg
theorem B4z(a0:List Ap)(a1:ByteArray):LP (EV (B80 L) L 9 Cki.u.l.u.l.l) [0,1,4,5,6] [] (Brj a0 a1) [.ret,.exit 0] (fun n v=>Pv L a0 a1 n v.1 v.2.1 v.2.2) K:=lE (fun _=>rfl) fun n v ih=>eE (Xb L a0 a1 (fun Aj Ai Bg=>re (ih (Aj,Ai,Bg))) v.1 v.2.1 v.2.2)
def Xy [An A V4](L:Nat)(o1:Nat×Tu6):A:=
 (sl o1.1 [(lf (o1.2.1,o1.2.2.1)),
 (lf (0,false))])
def Bn6:Be:=(Ax 0 (Bk (EV (B80 L) L 9 Cki.u.r) (C0 Tryz.prog (RS Tryz.f169) kk)))
theorem Ceh(a0:List Ap)(a1:ByteArray)(o1:Nat×Tu6):kX [.ret,.exit 0] (Brj a0 a1) (Bn6 L kk) o1=ob (Xy L o1) (Clv kk):=eE (Xy L o1)
def A09 [An A V4](a0:List Ap)(a1:ByteArray):A:=(bd (Pv L a0 a1 L 0 false (Cq ((a0.length:Int) - 1))) fun o1=>Xy L o1)
def Aao(a0:List Ap)(a1:ByteArray):Option V4:=A09 L a0 a1
def B0c:Gh:=E2 (fun(x:V4)=> .tup [I x.1,B x.2]) 169 Bfn cS (Aao L) fun a0 a1 r h=>hF Tryz.func169 (C:=B80 L) (oS _) L (fun kk=>eE ((ho (B4z L (Bn6 L kk) a0 a1 L (0,false,(Cq ((a0.length:Int) - 1)))) fun o1=>Ceh L kk a0 a1 o1))) h
def Ckt:=CC Tryz.f194
def B88(L:Nat):Bi:=oL []
def Cly:V4→Prop:=fun x=>kk ((fun(x:V4)=> .tup [I x.1,B x.2]) x)
def Brs(a0:List Al)(a1:ByteArray)(v:Tu6):St:=⟨[(0,lv (.t77 a0)),(1,S a1),(4,I v.1),(5,B v.2.1),(6,I v.2.2)],[],0⟩
def u5 [An A (Nat×Tu6)](L:Nat)(a0:List Al)(a1:ByteArray)(rec:Int→Bool→Int→A)(Aj:Int)(Ai:Bool)(Bg:Int):A:=
 (lw Bg a0
 (cn (((a0.getD (Int.toNat Bg) default).Name).toList == a1.toList)
 (gi Bg a0
 (lf (0,(((a0.getD (Int.toNat Bg) default).Type_),true,Bg))))
 (rec Aj Ai (Cq (Bg+1))))
 (lf (1,Aj,Ai,Bg)))
def Mo(L:Nat)(a0:List Al)(a1:ByteArray):Nat→Int→Bool→Int→Option (Nat×Tu6)
 |0,_,_,_=>none
 |n+1,Aj,Ai,Bg=>u5 L a0 a1 (Mo L a0 a1 n) Aj Ai Bg
theorem B48(a0:List Al)(a1:ByteArray):LP (EV (B88 L) L 9 Ckt.u.l.u.l.l) [0,1,4,5,6] [] (Brs a0 a1) [.ret,.exit 0] (fun n v=>Mo L a0 a1 n v.1 v.2.1 v.2.2) K:=lE (fun _=>rfl) fun n v ih=>eE (u5 L a0 a1 (fun Aj Ai Bg=>re (ih (Aj,Ai,Bg))) v.1 v.2.1 v.2.2)
def Vb [An A V4](L:Nat)(o1:Nat×Tu6):A:=
 (sl o1.1 [(lf (o1.2.1,o1.2.2.1)),
 (lf (0,false))])
def Bop:Be:=(Ax 0 (Bk (EV (B88 L) L 9 Ckt.u.r) (C0 Tryz.prog (RS Tryz.f194) kk)))
theorem Ce0(a0:List Al)(a1:ByteArray)(o1:Nat×Tu6):kX [.ret,.exit 0] (Brs a0 a1) (Bop L kk) o1=ob (Vb L o1) (Cly kk):=eE (Vb L o1)
def Awj [An A V4](a0:List Al)(a1:ByteArray):A:=(bd (Mo L a0 a1 L 0 false 0) fun o1=>Vb L o1)
def Um(a0:List Al)(a1:ByteArray):Option V4:=Awj L a0 a1
def B92:Gh:=E2 (fun(x:V4)=> .tup [I x.1,B x.2]) 194 Cp6 cS (Um L) fun a0 a1 r h=>hF Tryz.func194 (C:=B88 L) (oS _) L (fun kk=>eE ((ho (B48 L (Bop L kk) a0 a1 L (0,false,0)) fun o1=>Ce0 L kk a0 a1 o1))) h
def Au6 [An A V4](a0:Ar)(a1:ByteArray):A:=
 (bd (Aao L a0.Locals a1) fun r1=>
 (cn (!r1.2)
 (bd (Um L a0.Site.Vars a1) fun r2=>
 (cn (!r2.2)
 (bd (Um L a0.Params a1) fun r3=>
 (lf (r3.1,r3.2)))
 (lf (r2.1,r2.2))))
 (cn (!r1.2)
 (bd (Um L a0.Params a1) fun r4=>
 (lf (r4.1,r4.2)))
 (lf (r1.1,r1.2)))))
def Aou(a0:Ar)(a1:ByteArray):Option V4:=Au6 L a0 a1
def Civ:Gh:=E2 (fun(x:V4)=> .tup [I x.1,B x.2]) 236 Gj cS (Aou L) fun a0 a1 r h=>hF Tryz.func236 (oS [B0c L,B92 L]) L (fun kk=>eE (Au6 L a0 a1)) h
def Au7 [An A Cp](a0:Ar)(a1:Ab):A:=
 (bd (Aab L a0.Site a1.Name) fun r1=>
 (cn (a1.Op == 1)
 (lf (1,0))
 (cn (a1.Op == 2)
 (lf (2,0))
 (cn (a1.Op == 4)
 (lf (3,0))
 (cn (a1.Op == 3)
 (bd (Aou L a0 a1.Name) fun r2=>
 (cn (!r2.2)
 (lf (0,5))
 (lf (r2.1,0))))
 (cn (a1.Op == 22)
 (cn (!(r1.toList == (⟨#[114,101,115,111,117,114,99,101]⟩:ByteArray).toList))
 (lf (0,5))
 (lf (1,0)))
 (cn (a1.Op == 23)
 (cn (!(r1.toList == (⟨#[115,116,111,114,101]⟩:ByteArray).toList))
 (lf (0,5))
 (lf (1,0)))
 (jp (.cn (!(r1.toList == (⟨#[114,101,115,111,117,114,99,101]⟩:ByteArray).toList))
 (.lf (!(r1.toList == (⟨#[113,117,101,117,101]⟩:ByteArray).toList)))
 (.lf false)) (fun b3=>
 (cn b3
 (lf (0,5))
 (lf (1,0))))))))))))
def Ajk(a0:Ar)(a1:Ab):Option Cp:=Au7 L a0 a1
def B99:Gh:=E2 (fun(x:Cp)=> .tup [I x.1,I x.2]) 229 Gj Bu (Ajk L) fun a0 a1 r h=>hF Tryz.func229 (oS [Bu0 L,Civ L]) L (fun kk=>eE (Au7 L a0 a1)) h
def Ajp [An A Bool](L:Nat)(a0:Int):A:=
 (jp (.cn (a0 == 1)
 (.lf true)
 (.lf (a0 == 3))) (fun b1=>
 (lf b1)))
def Jh(a0:Int):Option Bool:=Ajp L a0
def B0e:Gh:=E1 B 195 (cI .i64) (Jh L) fun a0 r h=>hF Tryz.func195 (oS []) L (fun kk=>eE (Ajp L a0)) h
def Arn [An A Int](a0:Int)(a1:Int):A:=
 (jb (.cn (a0 == 5)
 (.bd (Jh L a1) fun r2=>
 (.lf r2))
 (.lf false)) (fun b1=>
 (cn b1
 (lf a1)
 (jp (.cn (a0 == 6)
 (.lf (a1 == 2))
 (.lf false)) (fun b3=>
 (cn b3
 (lf 2)
 (jp (.cn (a0 == 7)
 (.lf (a1 == 1))
 (.lf false)) (fun b4=>
 (cn b4
 (lf 3)
 (jp (.cn (a0 == 8)
 (.lf (a1 == 3))
 (.lf false)) (fun b5=>
 (cn b5
 (lf 1)
 (lf 0)))))))))))))
def Ak3(a0:Int)(a1:Int):Option Int:=Arn L a0 a1
def Caa:Gh:=E2 I 230 (cI .i64) (cI .i64) (Ak3 L) fun a0 a1 r h=>hF Tryz.func230 (oS [B0e L]) L (fun kk=>eE (Arn L a0 a1)) h
def Ym:=CC Tryz.f231
def Alv:Bi:=oL [B0e L]
def Bqm(a1:Int)(a2:Int)(p804_3:Bool):St:=⟨[(1,I a1),(6,I 0),(7,B (a1 == a2)),(67,B p804_3)],[],0⟩
def Bp7(e0:EC):Be:=(Ax 0 (Bk (EV (Alv L) L 9 e0) (C0 Tryz.prog (RS Tryz.f231) kk)))
def y6 [An A Int](L:Nat)(a1:Int)(a2:Int)(p804_3:Bool):A:=
 (cn p804_3
 (jp (.cn (a1 == a2)
 (.lf (a1 == 2))
 (.lf false)) (fun b11=>
 (cn b11
 (lf 2)
 (lf 0))))
 (lf 0))
theorem B1g(a1:Int)(a2:Int)(p804_3:Bool):EV (Alv L) L 9 Ym.w.l.u.l.x.x.r (Bqm a1 a2 p804_3) (Bp7 L kk Ym.w.r)=ob (y6 L a1 a2 p804_3) (kQ I kk):=eE (y6 L a1 a2 p804_3)
def A4x(a1:Int)(a2:Int)(a0:Int)(p803_4:Bool):St:=⟨[(1,I a1),(6,I 0),(7,B (a1 == a2)),(11,I a0),(59,B p803_4)],[],0⟩
def A4e(e0:EC):Be:=(Ax 0 (Bk (EV (Alv L) L 9 e0) (C0 Tryz.prog (RS Tryz.f231) kk)))
def sx_R14_binary_3 [An A Int](a1:Int)(a2:Int)(a0:Int)(p803_4:Bool)(nx4:Int→Int→Bool→A):A:=
 (cn p803_4
 (jb (.cn (a1 == a2)
 (.bd (Jh L a1) fun r10=>
 (.lf r10))
 (.lf false)) (fun b9=>
 (cn b9
 (lf 2)
 (lf 0))))
 (cn (a0 == 18)
 (nx4 a1 a2 (a0 == 18))
 (nx4 a1 a2 (a0 == 19))))
def Aid [An A Int](a1:Int)(a2:Int)(a0:Int)(p803_4:Bool):A:=sx_R14_binary_3 L a1 a2 a0 p803_4 (fun a1 a2 p804_3=>y6 L a1 a2 p804_3)
theorem B16(a1:Int)(a2:Int)(a0:Int)(p803_4:Bool)(z4:EC):EV (Alv L) L 9 (EC.put (rl [3]) z4 Ym.w.l.u.l.x.w.u) (A4x a1 a2 a0 p803_4) (A4e L kk Ym.w.r)= @sx_R14_binary_3 Prop L (anP (kQ I kk)) a1 a2 a0 p803_4 (fun a1 a2 p804_3=>EV (Alv L) L 9 z4 (Bqm a1 a2 p804_3) (Bp7 L kk Ym.w.r)):=by kernel_rfl
theorem B1f(a1:Int)(a2:Int)(a0:Int)(p803_4:Bool):EV (Alv L) L 9 Ym.w.l.u.l.x.w.u (A4x a1 a2 a0 p803_4) (A4e L kk Ym.w.r)=ob (Aid L a1 a2 a0 p803_4) (kQ I kk):=Eq.trans (b:=EV (Alv L) L 9 (EC.put (rl [3]) Ym.w.l.u.l.x.x.r Ym.w.l.u.l.x.w.u) (A4x a1 a2 a0 p803_4) (A4e L kk Ym.w.r)) (by kernel_rfl) ((B16 L kk a1 a2 a0 p803_4 Ym.w.l.u.l.x.x.r).trans (eE (sx_R14_binary_3 L a1 a2 a0 p803_4 (fun a1 a2 p804_3=>re (B1g L kk a1 a2 p804_3)))))
def A4w(a1:Int)(a2:Int)(a0:Int)(p802_4:Bool):St:=⟨[(1,I a1),(6,I 0),(7,B (a1 == a2)),(11,I a0),(55,B p802_4)],[],0⟩
def A4d(e0:EC):Be:=(Ax 0 (Bk (EV (Alv L) L 9 e0) (C0 Tryz.prog (RS Tryz.f231) kk)))
def sx_R14_binary_2 [An A Int](L:Nat)(a1:Int)(a2:Int)(a0:Int)(p802_4:Bool)(nx3:Int→Int→Int→Bool→A):A:=
 (cn p802_4
 (cn (a1 == a2)
 (lf 2)
 (lf 0))
 (cn (a0 == 16)
 (nx3 a1 a2 a0 (a0 == 16))
 (nx3 a1 a2 a0 (a0 == 17))))
def Aic [An A Int](a1:Int)(a2:Int)(a0:Int)(p802_4:Bool):A:=sx_R14_binary_2 L a1 a2 a0 p802_4 (fun a1 a2 a0 p803_4=>Aid L a1 a2 a0 p803_4)
theorem B15(a1:Int)(a2:Int)(a0:Int)(p802_4:Bool)(z3:EC):EV (Alv L) L 9 (EC.put (rl [3]) z3 Ym.w.l.u.l.x.u.r) (A4w a1 a2 a0 p802_4) (A4d L kk Ym.w.r)= @sx_R14_binary_2 Prop (anP (kQ I kk)) L a1 a2 a0 p802_4 (fun a1 a2 a0 p803_4=>EV (Alv L) L 9 z3 (A4x a1 a2 a0 p803_4) (A4e L kk Ym.w.r)):=by kernel_rfl
theorem B1e(a1:Int)(a2:Int)(a0:Int)(p802_4:Bool):EV (Alv L) L 9 Ym.w.l.u.l.x.u.r (A4w a1 a2 a0 p802_4) (A4d L kk Ym.w.r)=ob (Aic L a1 a2 a0 p802_4) (kQ I kk):=Eq.trans (b:=EV (Alv L) L 9 (EC.put (rl [3]) Ym.w.l.u.l.x.w.u Ym.w.l.u.l.x.u.r) (A4w a1 a2 a0 p802_4) (A4d L kk Ym.w.r)) (by kernel_rfl) ((B15 L kk a1 a2 a0 p802_4 Ym.w.l.u.l.x.w.u).trans (eE (sx_R14_binary_2 L a1 a2 a0 p802_4 (fun a1 a2 a0 p803_4=>re (B1f L kk a1 a2 a0 p803_4)))))
def A4v(a1:Int)(a2:Int)(a0:Int)(p801_5:Bool):St:=⟨[(1,I a1),(2,I a2),(6,I 0),(7,B (a1 == a2)),(11,I a0),(12,B p801_5)],[],0⟩
def A4c(e0:EC):Be:=(Ax 0 (Bk (EV (Alv L) L 9 e0) (C0 Tryz.prog (RS Tryz.f231) kk)))
def sx_R14_binary_1 [An A Int](a1:Int)(a2:Int)(a0:Int)(p801_5:Bool)(nx2:Int→Int→Int→Bool→A):A:=
 (cn p801_5
 (jb (.cn (a1 == a2)
 (.bd (Jh L a1) fun r2=>
 (.lf r2))
 (.lf false)) (fun b1=>
 (cn b1
 (lf a1)
 (lf 0))))
 (cn (a0 == 11)
 (jb (.cn (a1 == 1)
 (.bd (Jh L a2) fun r4=>
 (.lf r4))
 (.lf false)) (fun b3=>
 (cn b3
 (lf a2)
 (jp (.cn (a1 == 3)
 (.lf (a2 == 1))
 (.lf false)) (fun b5=>
 (cn b5
 (lf a1)
 (lf 0)))))))
 (cn (a0 == 12)
 (bd (Jh L a1) fun r6=>
 (jp (.cn r6
 (.lf (a2 == 1))
 (.lf false)) (fun b7=>
 (cn b7
 (lf a1)
 (jp (.cn (a1 == 3)
 (.lf (a2 == 3))
 (.lf false)) (fun b8=>
 (cn b8
 (lf 1)
 (lf 0))))))))
 (cn (a0 == 14)
 (nx2 a1 a2 a0 (a0 == 14))
 (nx2 a1 a2 a0 (a0 == 15))))))
def Aib [An A Int](a1:Int)(a2:Int)(a0:Int)(p801_5:Bool):A:=sx_R14_binary_1 L a1 a2 a0 p801_5 (fun a1 a2 a0 p802_4=>Aic L a1 a2 a0 p802_4)
theorem B14(a1:Int)(a2:Int)(a0:Int)(p801_5:Bool)(z2:EC):EV (Alv L) L 9 (EC.put (rl [9]) z2 Ym.w.l.u.l.u) (A4v a1 a2 a0 p801_5) (A4c L kk Ym.w.r)= @sx_R14_binary_1 Prop L (anP (kQ I kk)) a1 a2 a0 p801_5 (fun a1 a2 a0 p802_4=>EV (Alv L) L 9 z2 (A4w a1 a2 a0 p802_4) (A4d L kk Ym.w.r)):=by kernel_rfl
theorem B1d(a1:Int)(a2:Int)(a0:Int)(p801_5:Bool):EV (Alv L) L 9 Ym.w.l.u.l.u (A4v a1 a2 a0 p801_5) (A4c L kk Ym.w.r)=ob (Aib L a1 a2 a0 p801_5) (kQ I kk):=Eq.trans (b:=EV (Alv L) L 9 (EC.put (rl [9]) Ym.w.l.u.l.x.u.r Ym.w.l.u.l.u) (A4v a1 a2 a0 p801_5) (A4c L kk Ym.w.r)) (by kernel_rfl) ((B14 L kk a1 a2 a0 p801_5 Ym.w.l.u.l.x.u.r).trans (eE (sx_R14_binary_1 L a1 a2 a0 p801_5 (fun a1 a2 a0 p802_4=>re (B1e L kk a1 a2 a0 p802_4)))))
def sx_R14_binary_0 [An A Int](L:Nat)(a0:Int)(a1:Int)(a2:Int)(nx1:Int→Int→Int→Bool→A):A:=
 (cn (a0 == 9)
 (nx1 a1 a2 a0 (a0 == 9))
 (cn (a0 == 10)
 (nx1 a1 a2 a0 (a0 == 10))
 (cn (a0 == 13)
 (nx1 a1 a2 a0 (a0 == 13))
 (cn (a0 == 20)
 (nx1 a1 a2 a0 (a0 == 20))
 (nx1 a1 a2 a0 (a0 == 21))))))
def Awi [An A Int](a0:Int)(a1:Int)(a2:Int):A:=sx_R14_binary_0 L a0 a1 a2 (fun a1 a2 a0 p801_5=>Aib L a1 a2 a0 p801_5)
theorem B13(a0:Int)(a1:Int)(a2:Int)(z1:EC):EW (Alv L) L 9 (RS Tryz.f231) (EC.put (rl [4,1,2,1,2]) z1 Ym) [I a0,I a1,I a2] kk= @sx_R14_binary_0 Prop (anP (kQ I kk)) L a0 a1 a2 (fun a1 a2 a0 p801_5=>EV (Alv L) L 9 z1 (A4v a1 a2 a0 p801_5) (A4c L kk Ym.w.r)):=by kernel_rfl
def Aik(a0:Int)(a1:Int)(a2:Int):Option Int:=Awi L a0 a1 a2
def Cab:Gh:=E3 I 231 (cI .i64) (cI .i64) (cI .i64) (Aik L) fun a0 a1 a2 r h=>hF Tryz.func231 (C:=Alv L) (oS _) L (fun kk=>Eq.trans (b:=EW (Alv L) L 9 (RS Tryz.f231) (EC.put (rl [4,1,2,1,2]) Ym.w.l.u.l.u Ym) [I a0,I a1,I a2] kk) (by kernel_rfl) ((B13 L kk a0 a1 a2 Ym.w.l.u.l.u).trans (eE (sx_R14_binary_0 L a0 a1 a2 (fun a1 a2 a0 p801_5=>re (B1d L kk a1 a2 a0 p801_5)))))) h
def Bl1(F:Ar→Ab→Option Cp):Prop:=∀y0 y1 r,F y0 y1=some r→Ho Tryz.prog 213 [Gj.en y0,Bu.en y1] (fun(x:Cp)=> .tup [I x.1,I x.2]) r
def Ck1:=CC Tryz.f213
def B9e(Gb:Ar→Ab→Option Cp)(L:Nat):Bi:=(orc 213 (A2 (fun(x:Cp)=> .tup [I x.1,I x.2]) Gj Bu Gb) (oL [B99 L,Caa L,Cab L]))
theorem Crb(Gb:Ar→Ab→Option Cp)(Bv4:Bl1 Gb)(L:Nat):Er Tryz.prog (B9e Gb L):=(Hk (a2 _ Bv4) (oS [B99 L,Caa L,Cab L]))
def Cl1(kk:Dm):Cp→Prop:=fun x=>kk ((fun(x:Cp)=> .tup [I x.1,I x.2]) x)
def Br2(a0:Ar)(a1:Ab)(v:Int×Int×List Int×Int):St:=⟨[(0,.any),(1,.any),(2,.loc 2 0),(3,.loc 3 0),(4,I v.1),(5,I v.2.1),(6,.lst true (.t75 v.2.2.1)),(7,I v.2.2.2),(10,.any),(46,.any),(53,.any)],[(2,(Kq a0)),(3,(Dd a1))],0⟩
def Aca [An A (Nat×Int×Int×List Int×Int)](Gb:Ar→Ab→Option Cp)(L:Nat)(a0:Ar)(a1:Ab)(rec:Int→Int→List Int→Int→A)(Ao:Int)(Ag:Int)(Aj:List Int)(Ai:Int):A:=
 (lw Ai a1.Kids
 (bd (Gb a0 (Ab.cp (a1.Kids.getD (Int.toNat Ai) default))) fun r1=>
 (cn (r1.2 != 0)
 (lf (0,0,r1.2,Aj,Ai))
 (gq ((Aj.length+ [r1.1].length)*8≤140737488355328)
 (gq (Aj.length+ [r1.1].length≤maxLen)
 (rec Ao Ag (Aj++ [r1.1]) (Cq (Ai+1)))))))
 (lf (1,Ao,Ag,Aj,Ai)))
def Px(Gb:Ar→Ab→Option Cp)(L:Nat)(a0:Ar)(a1:Ab):Nat→Int→Int→List Int→Int→Option (Nat×Int×Int×List Int×Int)
 |0,_,_,_,_=>none
 |n+1,Ao,Ag,Aj,Ai=>Aca Gb L a0 a1 (Px Gb L a0 a1 n) Ao Ag Aj Ai
theorem B5i(Gb:Ar→Ab→Option Cp)(L:Nat)(K:Be)(a0:Ar)(a1:Ab):LP (EV (B9e Gb L) L 9 Ck1.w.l.u.l.l) [0,1,2,3,4,5,6,7,10,46,53] [2,3] (Br2 a0 a1) [.ret,.exit 0] (fun n v=>Px Gb L a0 a1 n v.1 v.2.1 v.2.2.1 v.2.2.2) K:=lE (fun _=>rfl) fun n v ih=>eE (Aca Gb L a0 a1 (fun Ao Ag Aj Ai=>re (ih (Ao,Ag,Aj,Ai))) v.1 v.2.1 v.2.2.1 v.2.2.2)
def X2 [An A Cp](Gb:Ar→Ab→Option Cp)(L:Nat)(a0:Ar)(a1:Ab)(o2:Nat×Int×Int×List Int×Int):A:=
 (sl o2.1 [(lf (o2.2.1,o2.2.2.1)),
 (cn ((o2.2.2.2.1.length:Int) == 0)
 (bd (Ajk L a0 (Ab.cp a1)) fun r3=>
 (lf (r3.1,r3.2)))
 (cn ((o2.2.2.2.1.length:Int) == 1)
 (gi 0 o2.2.2.2.1
 (bd (Ak3 L a1.Op (o2.2.2.2.1.getD 0 default)) fun r4=>
 (cn (r4 == 0)
 (lf (0,10))
 (lf (r4,0)))))
 (gi 0 o2.2.2.2.1
 (gi 1 o2.2.2.2.1
 (bd (Aik L a1.Op (o2.2.2.2.1.getD 0 default) (o2.2.2.2.1.getD 1 default)) fun r5=>
 (cn (r5 == 0)
 (lf (0,10))
 (lf (r5,0))))))))])
def Bo2(Gb:Ar→Ab→Option Cp)(L:Nat)(kk:Dm):Be:=(Ax 0 (Bk (EV (B9e Gb L) L 9 Ck1.w.r) (C0 Tryz.prog (RS Tryz.f213) kk)))
theorem Cfc(Gb:Ar→Ab→Option Cp)(L:Nat)(kk:Dm)(a0:Ar)(a1:Ab)(o2:Nat×Int×Int×List Int×Int):kX [.ret,.exit 0] (Br2 a0 a1) (Bo2 Gb L kk) o2=ob (X2 Gb L a0 a1 o2) (Cl1 kk):=eE (X2 Gb L a0 a1 o2)
def A1c [An A Cp](Gb:Ar→Ab→Option Cp)(L:Nat)(a0:Ar)(a1:Ab):A:=(bd (Px Gb L a0 a1 L 0 0 [] 0) fun o2=>X2 Gb L a0 a1 o2)
def Aq3(Gb:Ar→Ab→Option Cp)(L:Nat)(a0:Ar)(a1:Ab):Option Cp:=A1c Gb L a0 a1
theorem Cpv(Gb:Ar→Ab→Option Cp)(Bv4:Bl1 Gb)(L:Nat):Bl1 (Aq3 Gb L):=fun a0 a1 r h=>hF Tryz.func213 (Crb Gb Bv4 L) L (fun kk=>eE ((ho (B5i Gb L (Bo2 Gb L kk) a0 a1 L (0,0,[],0)) fun o2=>Cfc Gb L kk a0 a1 o2))) h
def Rg:Nat→Ar→Ab→Option Cp
 |0,_,_=>none
 |L+1,a0,a1=>Aq3 (Rg L) L a0 a1
theorem B2q(L:Nat):Bl1 (Rg L):=by
 induction L with
 |zero=>exact fun _ _ _ h=>(by cases h)
 |succ L ih=>
  have i213:=ih
  exact Cpv (Rg L) i213 L
def Cio(L:Nat):Gh:=E2 (fun(x:Cp)=> .tup [I x.1,I x.2]) 213 Gj Bu (Rg L) (B2q L)
def Au5 [An A Cp](a0:Ar)(a1:Ab):A:=
 (bd (Ra L (Ab.cp a1)) fun r1=>
 (cn (r1 != 0)
 (lf (0,r1))
 (bd (Rg L a0 (Ab.cp a1)) fun r2=>
 (lf (r2.1,r2.2)))))
def Aot(a0:Ar)(a1:Ab):Option Cp:=Au5 L a0 a1
def Cie:Gh:=E2 (fun(x:Cp)=> .tup [I x.1,I x.2]) 196 Gj Bu (Aot L) fun a0 a1 r h=>hF Tryz.func196 (oS [B94 L,Cio L]) L (fun kk=>eE (Au5 L a0 a1)) h
def Ays [An A Int](a0:Ar)(a1:Ab)(a2:Int)(a3:Int):A:=
 (bd (Aot L a0 (Ab.cp a1)) fun r1=>
 (jp (.cn (r1.2 == 0)
 (.lf (r1.1 != a2))
 (.lf false)) (fun b2=>
 (jp (.cn b2
 (.lf (r1.1 != a3))
 (.lf false)) (fun b3=>
 (cn b3
 (lf 10)
 (lf r1.2)))))))
def Iy(a0:Ar)(a1:Ab)(a2:Int)(a3:Int):Option Int:=Ays L a0 a1 a2 a3
def B0b:Gh:=E4 I 168 Gj Bu (cI .i64) (cI .i64) (Iy L) fun a0 a1 a2 a3 r h=>hF Tryz.func168 (oS [Cie L]) L (fun kk=>eE (Ays L a0 a1 a2 a3)) h
def Ayt [An A Int](a0:Ar)(a1:Ac):A:=
 (bd (Aao L a0.Locals a1.Name) fun r1=>
 (cn (a1.Op == 1)
 (cn (!r1.2)
 (bd (Um L a0.Site.Vars a1.Name) fun r2=>
 (cn (!r2.2)
 (lf 5)
 (bd (Iy L a0 (Ab.cp a1.E) r2.1 r2.1) fun r3=>
 (lf r3))))
 (cn (!r1.2)
 (lf 5)
 (bd (Iy L a0 (Ab.cp a1.E) r1.1 r1.1) fun r4=>
 (lf r4))))
 (jb (.cn (!r1.2)
 (.lf true)
 (.bd (Aab L a0.Site a1.Of) fun r6=>
 (.lf (!(r6.toList == (⟨#[115,116,114,101,97,109]⟩:ByteArray).toList))))) (fun b5=>
 (cn b5
 (lf 5)
 (bd (Jh L r1.1) fun r7=>
 (cn (!r7)
 (lf 10)
 (lf 0))))))))
def Ati(a0:Ar)(a1:Ac):Option Int:=Ayt L a0 a1
def Ch2:Gh:=E2 I 167 Gj H3 (Ati L) fun a0 a1 r h=>hF Tryz.func167 (oS [Bu0 L,B0b L,B0c L,B92 L,B0e L]) L (fun kk=>eE (Ayt L a0 a1)) h
def Cku:=CC Tryz.f197
def B89:Bi:=oL [B0b L]
def Brt(a2:List Ap)(a0:Ar)(a1:Ac)(v:Cp):St:=⟨[(0,.any),(1,.any),(2,lv (.t190 a2)),(3,.loc 3 0),(4,.loc 4 0),(6,I v.1),(7,I v.2)],[(3,(Kq a0)),(4,(C5 a1))],0⟩
def Agd [An A B8](a2:List Ap)(a0:Ar)(a1:Ac)(rec:Int→Int→A)(Ag:Int)(Aj:Int):A:=
 (cn (decide (Aj < (a2.length:Int)))
 (gi Aj a1.Args
 (gi Aj a2
 (gi Aj a2
 (bd (Iy L a0 (Ab.cp (a1.Args.getD (Int.toNat Aj) default)) ((a2.getD (Int.toNat Aj) default).Type_) ((a2.getD (Int.toNat Aj) default).Type_)) fun r1=>
 (cn (r1 != 0)
 (lf (0,r1,Aj))
 (rec Ag (Cq (Aj+1))))))))
 (lf (1,Ag,Aj)))
def Sn(L:Nat)(a2:List Ap)(a0:Ar)(a1:Ac):Nat→Int→Int→Option B8
 |0,_,_=>none
 |n+1,Ag,Aj=>Agd L a2 a0 a1 (Sn L a2 a0 a1 n) Ag Aj
theorem B49(a2:List Ap)(a0:Ar)(a1:Ac):LP (EV (B89 L) L 9 Cku.w.l.u.l.l) [0,1,2,3,4,6,7] [3,4] (Brt a2 a0 a1) [.ret,.exit 0] (fun n v=>Sn L a2 a0 a1 n v.1 v.2) K:=lE (fun _=>rfl) fun n v ih=>eE (Agd L a2 a0 a1 (fun Ag Aj=>re (ih (Ag,Aj))) v.1 v.2)
def r0 [An A Int](a0:Ar)(a1:Ac)(o2:Nat×Cp):A:=
 (sl o2.1 [(lf o2.2.1),
 (bd (Iy L a0 (Ab.cp a1.E) 3 3) fun r3=>
 (lf r3))])
def Boq:Be:=(Ax 0 (Bk (EV (B89 L) L 9 Cku.w.r) (C0 Tryz.prog (RS Tryz.f197) kk)))
theorem Ce1(a2:List Ap)(a0:Ar)(a1:Ac)(o2:Nat×Cp):kX [.ret,.exit 0] (Brt a2 a0 a1) (Boq L kk) o2=ob (r0 L a0 a1 o2) (kQ I kk):=eE (r0 L a0 a1 o2)
def Agr [An A Int](L:Nat)(a0:Ar)(a1:Ac)(a2:List Ap)(nx1:A):A:=
 (cn ((a1.Args.length:Int) != (a2.length:Int))
 (lf 8)
 nx1)
def A5j [An A Int](a0:Ar)(a1:Ac)(a2:List Ap):A:=Agr L a0 a1 a2 (bd (Sn L a2 a0 a1 L 0 0) fun o2=>r0 L a0 a1 o2)
def Ad5(a0:Ar)(a1:Ac)(a2:List Ap):Option Int:=A5j L a0 a1 a2
def Cif:Gh:=E3 I 197 Gj H3 Bfn (Ad5 L) fun a0 a1 a2 r h=>hF Tryz.func197 (C:=B89 L) (oS _) L (fun kk=>eE (Agr L a0 a1 a2 (ho (B49 L (Boq L kk) a2 a0 a1 L (0,0)) fun o2=>Ce1 L kk a2 a0 a1 o2))) h
def Ckv:=CC Tryz.f198
def B9a(L:Nat):Bi:=oL []
def Clz:V4→Prop:=fun x=>kk ((fun(x:V4)=> .tup [I x.1,B x.2]) x)
def Bru(a1:ByteArray)(a2:ByteArray)(a0:Ad)(v:Tu6):St:=⟨[(0,.any),(1,S a1),(2,S a2),(3,.loc 3 0),(6,I v.1),(7,B v.2.1),(8,I v.2.2)],[(3,(Aw a0))],0⟩
def Af8 [An A (Nat×Tu6)](L:Nat)(a1:ByteArray)(a2:ByteArray)(a0:Ad)(rec:Int→Bool→Int→A)(Aj:Int)(Ai:Bool)(Bg:Int):A:=
 (lw Bg a0.Links
 (jb (.cn (((a0.Links.getD (Int.toNat Bg) default).From).toList == a1.toList)
 (.gq (0≤Bg)
 (.gq (Bg < (a0.Links.length:Int))
 (.lf (((a0.Links.getD (Int.toNat Bg) default).To).toList == a2.toList))))
 (.lf false)) (fun b1=>
 (cn b1
 (gi Bg a0.Links
 (lf (0,(((a0.Links.getD (Int.toNat Bg) default).Delay),true,Bg))))
 (rec Aj Ai (Cq (Bg+1))))))
 (lf (1,Aj,Ai,Bg)))
def Sj(L:Nat)(a1:ByteArray)(a2:ByteArray)(a0:Ad):Nat→Int→Bool→Int→Option (Nat×Tu6)
 |0,_,_,_=>none
 |n+1,Aj,Ai,Bg=>Af8 L a1 a2 a0 (Sj L a1 a2 a0 n) Aj Ai Bg
theorem B5a(a1:ByteArray)(a2:ByteArray)(a0:Ad):LP (EV (B9a L) L 9 Ckv.u.l.u.l.l) [0,1,2,3,6,7,8] [3] (Bru a1 a2 a0) [.ret,.exit 0] (fun n v=>Sj L a1 a2 a0 n v.1 v.2.1 v.2.2) K:=lE (fun _=>rfl) fun n v ih=>eE (Af8 L a1 a2 a0 (fun Aj Ai Bg=>re (ih (Aj,Ai,Bg))) v.1 v.2.1 v.2.2)
def n8 [An A V4](L:Nat)(o2:Nat×Tu6):A:=
 (sl o2.1 [(lf (o2.2.1,o2.2.2.1)),
 (lf (0,false))])
def Bor:Be:=(Ax 0 (Bk (EV (B9a L) L 9 Ckv.u.r) (C0 Tryz.prog (RS Tryz.f198) kk)))
theorem Ce2(a1:ByteArray)(a2:ByteArray)(a0:Ad)(o2:Nat×Tu6):kX [.ret,.exit 0] (Bru a1 a2 a0) (Bor L kk) o2=ob (n8 L o2) (Clz kk):=eE (n8 L o2)
def A5f [An A V4](a0:Ad)(a1:ByteArray)(a2:ByteArray):A:=(bd (Sj L a1 a2 a0 L 0 false 0) fun o2=>n8 L o2)
def Aos(a0:Ad)(a1:ByteArray)(a2:ByteArray):Option V4:=A5f L a0 a1 a2
def Cig:Gh:=E3 (fun(x:V4)=> .tup [I x.1,B x.2]) 198 C6 cS cS (Aos L) fun a0 a1 a2 r h=>hF Tryz.func198 (C:=B9a L) (oS _) L (fun kk=>eE ((ho (B5a L (Bor L kk) a1 a2 a0 L (0,false,0)) fun o2=>Ce2 L kk a1 a2 a0 o2))) h
def Arl [An A Int](a0:Ad)(a1:Ar)(a2:Ac):A:=
 (cn (a2.Op == 14)
 (bd (Se L a1.Site a2.Name) fun r1=>
 (cn (decide (r1 < 0))
 (lf 5)
 (gi r1 a1.Site.Routines
 (bd (Ad5 L a1 (Ac.cp a2) ((a1.Site.Routines.getD (Int.toNat r1) default).Params)) fun r2=>
 (lf r2)))))
 (bd (Wy L a0 a2.Of) fun r3=>
 (cn (decide (r3 < 0))
 (lf 5)
 (gi r3 a0.Sites
 (bd (Se L (a0.Sites.getD (Int.toNat r3) default) a2.Name) fun r4=>
 (cn (decide (r4 < 0))
 (lf 5)
 (bd (Aos L a0 a1.Site.Name a2.Of) fun r5=>
 (cn (!r5.2)
 (lf 16)
 (gi r3 a0.Sites
 (gi r3 a0.Sites
 (bd (Se L (a0.Sites.getD (Int.toNat r3) default) a2.Name) fun r6=>
 (gi r6 ((a0.Sites.getD (Int.toNat r3) default).Routines)
 (bd (Ad5 L a1 (Ac.cp a2) ((((a0.Sites.getD (Int.toNat r3) default).Routines).getD (Int.toNat r6) default).Params)) fun r7=>
 (lf r7))))))))))))))
def Ak1(a0:Ad)(a1:Ar)(a2:Ac):Option Int:=Arl L a0 a1 a2
def Ch3:Gh:=E3 I 170 C6 Gj H3 (Ak1 L) fun a0 a1 a2 r h=>hF Tryz.func170 (oS [B9l L,B9v L,Cif L,Cig L]) L (fun kk=>eE (Arl L a0 a1 a2)) h
def Yl:=CC Tryz.f134
def Alu:Bi:=oL [Ch1 L,Bu0 L,Ch2 L,B0b L,B0c L,Ch3 L]
def Bqh(a0:Ad)(a1:Ar)(a2:Ac)(p804_1:Bool):St:=⟨[(4,.loc 4 0),(5,.loc 5 0),(6,I 0),(86,B p804_1)],[(3,(Aw a0)),(4,(Kq a1)),(5,(C5 a2))],0⟩
def Bp2(e0:EC):Be:=(Ax 0 (Bk (EV (Alu L) L 9 e0) (C0 Tryz.prog (RS Tryz.f134) kk)))
def Agi [An A Int](a0:Ad)(a1:Ar)(a2:Ac)(p804_1:Bool):A:=
 (cn p804_1
 (bd (Iy L a1 (Ab.cp a2.E) 1 1) fun r12=>
 (lf r12))
 (lf 0))
theorem B0z(a0:Ad)(a1:Ar)(a2:Ac)(p804_1:Bool):EV (Alu L) L 9 Yl.w.u.l.u.l.x.x.w.u.r (Bqh a0 a1 a2 p804_1) (Bp2 L kk Yl.w.u.r)=ob (Agi L a0 a1 a2 p804_1) (kQ I kk):=eE (Agi L a0 a1 a2 p804_1)
def A4l(a2:Ac)(a0:Ad)(a1:Ar)(p803_2:Bool):St:=⟨[(3,.loc 3 0),(4,.loc 4 0),(5,.loc 5 0),(6,I 0),(26,I a2.Op),(73,B p803_2)],[(3,(Aw a0)),(4,(Kq a1)),(5,(C5 a2))],0⟩
def A32(e0:EC):Be:=(Ax 0 (Bk (EV (Alu L) L 9 e0) (C0 Tryz.prog (RS Tryz.f134) kk)))
def sx_R14_stmt_3 [An A Int](a2:Ac)(a0:Ad)(a1:Ar)(p803_2:Bool)(nx4:Ad→Ar→Ac→Bool→A):A:=
 (cn p803_2
 (bd (Ak1 L a0 a1 (Ac.cp a2)) fun r10=>
 (lf r10))
 (cn (a2.Op == 15)
 (bd (Iy L a1 (Ab.cp a2.E) 1 3) fun r11=>
 (lf r11))
 (cn (a2.Op == 7)
 (nx4 a0 a1 a2 (a2.Op == 7))
 (cn (a2.Op == 8)
 (nx4 a0 a1 a2 (a2.Op == 8))
 (cn (a2.Op == 12)
 (nx4 a0 a1 a2 (a2.Op == 12))
 (cn (a2.Op == 16)
 (nx4 a0 a1 a2 (a2.Op == 16))
 (nx4 a0 a1 a2 (a2.Op == 17))))))))
def Amx [An A Int](a2:Ac)(a0:Ad)(a1:Ar)(p803_2:Bool):A:=sx_R14_stmt_3 L a2 a0 a1 p803_2 (fun a0 a1 a2 p804_1=>Agi L a0 a1 a2 p804_1)
theorem B1p(a2:Ac)(a0:Ad)(a1:Ar)(p803_2:Bool)(z4:EC):EV (Alu L) L 9 (EC.put (rl [6]) z4 Yl.w.u.l.u.l.x.x.r) (A4l a2 a0 a1 p803_2) (A32 L kk Yl.w.u.r)= @sx_R14_stmt_3 Prop L (anP (kQ I kk)) a2 a0 a1 p803_2 (fun a0 a1 a2 p804_1=>EV (Alu L) L 9 z4 (Bqh a0 a1 a2 p804_1) (Bp2 L kk Yl.w.u.r)):=by kernel_rfl
theorem B0y(a2:Ac)(a0:Ad)(a1:Ar)(p803_2:Bool):EV (Alu L) L 9 Yl.w.u.l.u.l.x.x.r (A4l a2 a0 a1 p803_2) (A32 L kk Yl.w.u.r)=ob (Amx L a2 a0 a1 p803_2) (kQ I kk):=Eq.trans (b:=EV (Alu L) L 9 (EC.put (rl [6]) Yl.w.u.l.u.l.x.x.w.u.r Yl.w.u.l.u.l.x.x.r) (A4l a2 a0 a1 p803_2) (A32 L kk Yl.w.u.r)) (by kernel_rfl) ((B1p L kk a2 a0 a1 p803_2 Yl.w.u.l.u.l.x.x.w.u.r).trans (eE (sx_R14_stmt_3 L a2 a0 a1 p803_2 (fun a0 a1 a2 p804_1=>re (B0z L kk a0 a1 a2 p804_1)))))
def A4k(a2:Ac)(a0:Ad)(a1:Ar)(p802_2:Bool):St:=⟨[(3,.loc 3 0),(4,.loc 4 0),(5,.loc 5 0),(6,I 0),(26,I a2.Op),(33,B p802_2)],[(3,(Aw a0)),(4,(Kq a1)),(5,(C5 a2))],0⟩
def A31(e0:EC):Be:=(Ax 0 (Bk (EV (Alu L) L 9 e0) (C0 Tryz.prog (RS Tryz.f134) kk)))
def sx_R14_stmt_2 [An A Int](a2:Ac)(a0:Ad)(a1:Ar)(p802_2:Bool)(nx3:Ac→Ad→Ar→Bool→A):A:=
 (cn p802_2
 (bd (Iy L a1 (Ab.cp a2.E) 2 2) fun r5=>
 (lf r5))
 (cn (a2.Op == 5)
 (bd (Iy L a1 (Ab.cp a2.E) 3 3) fun r6=>
 (lf r6))
 (cn (a2.Op == 6)
 (bd (Iy L a1 (Ab.cp a2.E) 1 1) fun r7=>
 (cn (r7 != 0)
 (lf r7)
 (bd (Iy L a1 (Ab.cp a2.F) 1 1) fun r8=>
 (lf r8))))
 (cn (a2.Op == 9)
 (bd (Aao L a1.Locals a2.Of) fun r9=>
 (cn (!r9.2)
 (lf 5)
 (cn (r9.1 != 1)
 (lf 10)
 (lf 0))))
 (cn (a2.Op == 13)
 (nx3 a2 a0 a1 (a2.Op == 13))
 (nx3 a2 a0 a1 (a2.Op == 14)))))))
def Amw [An A Int](a2:Ac)(a0:Ad)(a1:Ar)(p802_2:Bool):A:=sx_R14_stmt_2 L a2 a0 a1 p802_2 (fun a2 a0 a1 p803_2=>Amx L a2 a0 a1 p803_2)
theorem B1o(a2:Ac)(a0:Ad)(a1:Ar)(p802_2:Bool)(z3:EC):EV (Alu L) L 9 (EC.put (rl [12]) z3 Yl.w.u.l.u.l.w.r) (A4k a2 a0 a1 p802_2) (A31 L kk Yl.w.u.r)= @sx_R14_stmt_2 Prop L (anP (kQ I kk)) a2 a0 a1 p802_2 (fun a2 a0 a1 p803_2=>EV (Alu L) L 9 z3 (A4l a2 a0 a1 p803_2) (A32 L kk Yl.w.u.r)):=by kernel_rfl
theorem B0x(a2:Ac)(a0:Ad)(a1:Ar)(p802_2:Bool):EV (Alu L) L 9 Yl.w.u.l.u.l.w.r (A4k a2 a0 a1 p802_2) (A31 L kk Yl.w.u.r)=ob (Amw L a2 a0 a1 p802_2) (kQ I kk):=Eq.trans (b:=EV (Alu L) L 9 (EC.put (rl [12]) Yl.w.u.l.u.l.x.x.r Yl.w.u.l.u.l.w.r) (A4k a2 a0 a1 p802_2) (A31 L kk Yl.w.u.r)) (by kernel_rfl) ((B1o L kk a2 a0 a1 p802_2 Yl.w.u.l.u.l.x.x.r).trans (eE (sx_R14_stmt_2 L a2 a0 a1 p802_2 (fun a2 a0 a1 p803_2=>re (B0y L kk a2 a0 a1 p803_2)))))
def A4j(a2:Ac)(a0:Ad)(a1:Ar)(p801_2:Bool):St:=⟨[(3,.loc 3 0),(4,.loc 4 0),(5,.loc 5 0),(6,I 0),(26,I a2.Op),(27,B p801_2)],[(3,(Aw a0)),(4,(Kq a1)),(5,(C5 a2))],0⟩
def A30(e0:EC):Be:=(Ax 0 (Bk (EV (Alu L) L 9 e0) (C0 Tryz.prog (RS Tryz.f134) kk)))
def sx_R14_stmt_1 [An A Int](a2:Ac)(a0:Ad)(a1:Ar)(p801_2:Bool)(nx2:Ac→Ad→Ar→Bool→A):A:=
 (cn p801_2
 (bd (Ati L a1 (Ac.cp a2)) fun r4=>
 (lf r4))
 (cn (a2.Op == 3)
 (nx2 a2 a0 a1 (a2.Op == 3))
 (nx2 a2 a0 a1 (a2.Op == 4))))
def Amv [An A Int](a2:Ac)(a0:Ad)(a1:Ar)(p801_2:Bool):A:=sx_R14_stmt_1 L a2 a0 a1 p801_2 (fun a2 a0 a1 p802_2=>Amw L a2 a0 a1 p802_2)
theorem B1n(a2:Ac)(a0:Ad)(a1:Ar)(p801_2:Bool)(z2:EC):EV (Alu L) L 9 (EC.put (rl [3]) z2 Yl.w.u.l.u.l.u) (A4j a2 a0 a1 p801_2) (A30 L kk Yl.w.u.r)= @sx_R14_stmt_1 Prop L (anP (kQ I kk)) a2 a0 a1 p801_2 (fun a2 a0 a1 p802_2=>EV (Alu L) L 9 z2 (A4k a2 a0 a1 p802_2) (A31 L kk Yl.w.u.r)):=by kernel_rfl
theorem B0w(a2:Ac)(a0:Ad)(a1:Ar)(p801_2:Bool):EV (Alu L) L 9 Yl.w.u.l.u.l.u (A4j a2 a0 a1 p801_2) (A30 L kk Yl.w.u.r)=ob (Amv L a2 a0 a1 p801_2) (kQ I kk):=Eq.trans (b:=EV (Alu L) L 9 (EC.put (rl [3]) Yl.w.u.l.u.l.w.r Yl.w.u.l.u.l.u) (A4j a2 a0 a1 p801_2) (A30 L kk Yl.w.u.r)) (by kernel_rfl) ((B1n L kk a2 a0 a1 p801_2 Yl.w.u.l.u.l.w.r).trans (eE (sx_R14_stmt_1 L a2 a0 a1 p801_2 (fun a2 a0 a1 p802_2=>re (B0x L kk a2 a0 a1 p802_2)))))
def sx_R14_stmt_0 [An A Int](a0:Ad)(a1:Ar)(a2:Ac)(nx1:Ac→Ad→Ar→Bool→A):A:=
 (bd (Ak2 L a2.Op) fun r1=>
 (jb (.cn (!(r1.toList == (⟨#[]⟩:ByteArray).toList))
 (.bd (Aab L a1.Site a2.Name) fun r3=>
 (.lf (!(r3.toList == r1.toList))))
 (.lf false)) (fun b2=>
 (cn b2
 (lf 5)
 (cn (a2.Op == 1)
 (nx1 a2 a0 a1 (a2.Op == 1))
 (nx1 a2 a0 a1 (a2.Op == 2)))))))
def A5k [An A Int](a0:Ad)(a1:Ar)(a2:Ac):A:=sx_R14_stmt_0 L a0 a1 a2 (fun a2 a0 a1 p801_2=>Amv L a2 a0 a1 p801_2)
theorem B1m(a0:Ad)(a1:Ar)(a2:Ac)(z1:EC):EW (Alu L) L 9 (RS Tryz.f134) (EC.put (rl [6,1,2,1,2]) z1 Yl) [.agg (Aw a0),.agg (Kq a1),.agg (C5 a2)] kk= @sx_R14_stmt_0 Prop L (anP (kQ I kk)) a0 a1 a2 (fun a2 a0 a1 p801_2=>EV (Alu L) L 9 z1 (A4j a2 a0 a1 p801_2) (A30 L kk Yl.w.u.r)):=by kernel_rfl
def Ajl(a0:Ad)(a1:Ar)(a2:Ac):Option Int:=A5k L a0 a1 a2
def B9m:Gh:=E3 I 134 C6 Gj H3 (Ajl L) fun a0 a1 a2 r h=>hF Tryz.func134 (C:=Alu L) (oS _) L (fun kk=>Eq.trans (b:=EW (Alu L) L 9 (RS Tryz.f134) (EC.put (rl [6,1,2,1,2]) Yl.w.u.l.u.l.u Yl) [.agg (Aw a0),.agg (Kq a1),.agg (C5 a2)] kk) (by kernel_rfl) ((B1m L kk a0 a1 a2 Yl.w.u.l.u.l.u).trans (eE (sx_R14_stmt_0 L a0 a1 a2 (fun a2 a0 a1 p801_2=>re (B0w L kk a2 a0 a1 p801_2)))))) h
def Bz6(F:Ad→Ar→(List Ac)→Option Int):Prop:=∀y0 y1 y2 r,F y0 y1 y2=some r→Ho Tryz.prog 77 [C6.en y0,Gj.en y1,Aae.en y2] I r
def c77:=CC Tryz.f77
def O77(Hr:Ad→Ar→(List Ac)→Option Int)(L:Nat):Bi:=(orc 77 (A3 I C6 Gj Aae Hr) (oL [B9m L]))
theorem s77(Hr:Ad→Ar→(List Ac)→Option Int)(Cbi:Bz6 Hr)(L:Nat):Er Tryz.prog (O77 Hr L):=(Hk (a3 _ Cbi) (oS [B9m L]))
def Byv(a2:List Ac)(a0:Ad)(a1:Ar)(v:Cp):St:=⟨[(0,.any),(1,.any),(2,lv (.t99 a2)),(3,.loc 3 0),(4,.loc 4 0),(6,I v.1),(7,I v.2)],[(3,(Aw a0)),(4,(Kq a1))],0⟩
def Ab9 [An A B8](Hr:Ad→Ar→(List Ac)→Option Int)(L:Nat)(a2:List Ac)(a0:Ad)(a1:Ar)(rec:Int→Int→A)(Ag:Int)(Aj:Int):A:=
 (lw Aj a2
 (bd (Ajl L a0 a1 (Ac.cp (a2.getD (Int.toNat Aj) default))) fun r1=>
 (cn (r1 == 0)
 (gi Aj a2
 (bd (Hr a0 a1 ((a2.getD (Int.toNat Aj) default).Body)) fun r2=>
 (cn (r2 == 0)
 (gi Aj a2
 (bd (Hr a0 a1 ((a2.getD (Int.toNat Aj) default).Else)) fun r3=>
 (cn (r3 != 0)
 (lf (0,r3,Aj))
 (rec Ag (Cq (Aj+1))))))
 (cn (r2 != 0)
 (lf (0,r2,Aj))
 (rec Ag (Cq (Aj+1)))))))
 (cn (r1 == 0)
 (gi Aj a2
 (bd (Hr a0 a1 ((a2.getD (Int.toNat Aj) default).Else)) fun r4=>
 (cn (r4 != 0)
 (lf (0,r4,Aj))
 (rec Ag (Cq (Aj+1))))))
 (cn (r1 != 0)
 (lf (0,r1,Aj))
 (rec Ag (Cq (Aj+1)))))))
 (lf (1,Ag,Aj)))
def Pw(Hr:Ad→Ar→(List Ac)→Option Int)(L:Nat)(a2:List Ac)(a0:Ad)(a1:Ar):Nat→Int→Int→Option B8
 |0,_,_=>none
 |n+1,Ag,Aj=>Ab9 Hr L a2 a0 a1 (Pw Hr L a2 a0 a1 n) Ag Aj
theorem Cc0(Hr:Ad→Ar→(List Ac)→Option Int)(L:Nat)(K:Be)(a2:List Ac)(a0:Ad)(a1:Ar):LP (EV (O77 Hr L) L 9 c77.u.l.u.l.l) [0,1,2,3,4,6,7] [3,4] (Byv a2 a0 a1) [.ret,.exit 0] (fun n v=>Pw Hr L a2 a0 a1 n v.1 v.2) K:=lE (fun _=>rfl) fun n v ih=>eE (Ab9 Hr L a2 a0 a1 (fun Ag Aj=>re (ih (Ag,Aj))) v.1 v.2)
def X1 [An A Int](Hr:Ad→Ar→(List Ac)→Option Int)(L:Nat)(o5:Nat×Cp):A:=
 (sl o5.1 [(lf o5.2.1),
 (lf 0)])
def Bxk(Hr:Ad→Ar→(List Ac)→Option Int)(L:Nat)(kk:Dm):Be:=(Ax 0 (Bk (EV (O77 Hr L) L 9 c77.u.r) (C0 Tryz.prog (RS Tryz.f77) kk)))
theorem Coh(Hr:Ad→Ar→(List Ac)→Option Int)(L:Nat)(kk:Dm)(a2:List Ac)(a0:Ad)(a1:Ar)(o5:Nat×Cp):kX [.ret,.exit 0] (Byv a2 a0 a1) (Bxk Hr L kk) o5=ob (X1 Hr L o5) (kQ I kk):=eE (X1 Hr L o5)
def A1b [An A Int](Hr:Ad→Ar→(List Ac)→Option Int)(L:Nat)(a0:Ad)(a1:Ar)(a2:List Ac):A:=(bd (Pw Hr L a2 a0 a1 L 0 0) fun o5=>X1 Hr L o5)
def Aq2(Hr:Ad→Ar→(List Ac)→Option Int)(L:Nat)(a0:Ad)(a1:Ar)(a2:List Ac):Option Int:=A1b Hr L a0 a1 a2
theorem b77(Hr:Ad→Ar→(List Ac)→Option Int)(Cbi:Bz6 Hr)(L:Nat):Bz6 (Aq2 Hr L):=fun a0 a1 a2 r h=>hF Tryz.func77 (s77 Hr Cbi L) L (fun kk=>eE ((ho (Cc0 Hr L (Bxk Hr L kk) a2 a0 a1 L (0,0)) fun o5=>Coh Hr L kk a2 a0 a1 o5))) h
def Rf:Nat→Ad→Ar→(List Ac)→Option Int
 |0,_,_,_=>none
 |L+1,a0,a1,a2=>Aq2 (Rf L) L a0 a1 a2
theorem Cbe(L:Nat):Bz6 (Rf L):=by
 induction L with
 |zero=>exact fun _ _ _ _ h=>(by cases h)
 |succ L ih=>
  have i77:=ih
  exact b77 (Rf L) i77 L
def X77(L:Nat):Gh:=E3 I 77 C6 Gj Aae (Rf L) (Cbe L)
def Ark [An A Int](a0:Ad)(a1:Int)(a2:List Ap)(a3:List Ac):A:=
 (bd (Agt L a3) fun r1=>
 (cn (r1 != 0)
 (lf r1)
 (jp (.cn (decide (a1 < 0))
 (.lf true)
 (.lf (decide (a1≥(a0.Sites.length:Int))))) (fun b2=>
 (cn b2
 (lf 2)
 (gi a1 a0.Sites
 (bd (Rf L a0 (⟨a0.Params,a2,(a0.Sites.getD (Int.toNat a1) default)⟩:Ar) a3) fun r3=>
 (lf r3))))))))
def Agv(a0:Ad)(a1:Int)(a2:List Ap)(a3:List Ac):Option Int:=Ark L a0 a1 a2 a3
def X48:Gh:=E4 I 48 C6 (cI .i64) Bfn Aae (Agv L) fun a0 a1 a2 a3 r h=>hF Tryz.func48 (oS [X76 L,X77 L]) L (fun kk=>eE (Ark L a0 a1 a2 a3)) h
end
end Go.Proofs.YtfencmicmnhglaaGreat.Ev
