import Derived.Test.YtogleahbpobaiaaGreatG10
import Derived.Test.YtogleahbpobaiaaGreatG11
namespace Go.Proofs.YtogleahbpobaiaaGreat.Ev
open Go An
set_option maxRecDepth 100000
set_option maxHeartbeats 4000000
set_option linter.unusedVariables false
set_option linter.unusedSimpArgs false
set_option linter.unnecessarySimpa false
variable {A:Type} (L n:Nat) (kk:Ct) (K:Be) (k:Bx)
noncomputable def c51:EC:=CC Tryz.f51
def O51:Bk:=oL [X46 L,X50 L,Bvs L,Ca7 L,Ca8 L,Ca9 L]
def B5z:Int→Prop:=fun x=>kk (I x)
def Btp(r1:List (List ByteArray))(Ah:Int)(a0:Aa)(v:Tu7):St:=⟨[(0,.any),(1,.loc 1 0),(2,I v.1),(3,.lst true (.t9 v.2.1)),(4,.lst false (.t27 r1)),(5,I Ah),(6,I v.2.2),(8,.any),(9,.any),(10,.any),(11,.any),(12,.any)],[(1,Ae a0)],0⟩
def Aez [An A (Nat×Tu7)](r1:List (List ByteArray))(Ah:Int)(a0:Aa)(rec:Int→List ByteArray→Int→A)(B5:Int)(C1:List ByteArray)(n6:Int):A:=
 (gq (0≤Ah)
 (gq (Ah < (r1.length:Int))
 (cn (decide (n6 < ((r1.getD (Int.toNat Ah) default).length:Int)))
 (gq (0≤Ah)
 (gq (Ah < (r1.length:Int))
 (gq (0≤n6)
 (gq (n6 < (((r1.getD (Int.toNat Ah) default).length:Nat):Int))
 (bd (Nk L ((r1.getD (Int.toNat Ah) default).getD (Int.toNat n6) default) C1) fun r3=>
 (bd (Dh L a0 Ah n6) fun r4=>
 (bd (C3 L r3 r4) fun r5=>
 (cn (r5 != 0)
 (lf (0,r5,C1,n6))
 (gq (0≤Ah)
 (gq (Ah < (r1.length:Int))
 (gq (0≤n6)
 (gq (n6 < (((r1.getD (Int.toNat Ah) default).length:Nat):Int))
 (gq ((C1.length+ [((r1.getD (Int.toNat Ah) default).getD (Int.toNat n6) default)].length)*16≤140737488355328)
 (gq (C1.length+ [((r1.getD (Int.toNat Ah) default).getD (Int.toNat n6) default)].length≤maxLen)
 (rec B5 (C1++ [((r1.getD (Int.toNat Ah) default).getD (Int.toNat n6) default)]) (Da (n6+1)))))))))))))))))
 (lf (1,B5,C1,n6)))))
def Nq(L:Nat)(r1:List (List ByteArray))(Ah:Int)(a0:Aa):Nat→Int→List ByteArray→Int→Option (Nat×Tu7)
 |0,_,_,_=>none
 |n+1,B5,C1,n6=>Aez L r1 Ah a0 (Nq L r1 Ah a0 n) B5 C1 n6
theorem B6v(r1:List (List ByteArray))(Ah:Int)(a0:Aa):LP (EV (O51 L) L 9 c51.w.u.l.u.l.l.u.l.l.w.l.l) [0,1,2,3,4,5,6,8,9,10,11,12] [1] (Btp r1 Ah a0) [.ret,.exit 2] (fun n v=>Nq L r1 Ah a0 n v.1 v.2.1 v.2.2) K:=lE (fun _=>rfl) fun n v ih=>eE (Aez L r1 Ah a0 (fun B5 C1 n6=>re (ih (B5,C1,n6))) v.1 v.2.1 v.2.2)
def Bhr(r1:List (List ByteArray))(a0:Aa)(v:Tu7):St:=⟨[(0,.any),(1,.loc 1 0),(2,I v.1),(3,.lst true (.t9 v.2.1)),(4,.lst false (.t27 r1)),(5,I v.2.2),(8,.any),(9,.any),(10,.any),(11,.any),(12,.any)],[(1,Ae a0)],0⟩
def Y0 [An A (Nat×Tu7)](L:Nat)(Ah:Int)(rec:Int→List ByteArray→Int→A)(o6:Nat×Tu7):A:=
 (sl o6.1 [(lf (0,o6.2.1,o6.2.2.1,Ah)),
 (rec o6.2.1 o6.2.2.1 (Da (Ah+1)))])
def Afd [An A (Nat×Tu7)](L:Nat)(r1:List (List ByteArray))(a0:Aa)(rec:Int→List ByteArray→Int→A)(Ak:Int)(Ag:List ByteArray)(Ah:Int)(nx1:Int→Int→(List ByteArray)→A):A:=
 (cn (decide (Ah < (r1.length:Int)))
 (gq (0≤Ah)
 (gq (Ah < (r1.length:Int))
 (jb (.cn (decide (((r1.getD (Int.toNat Ah) default).length:Int) > 32))
 (.lf true)
 (.cn (Ah == 9)
 (.gq (0≤Ah)
 (.gq (Ah < (r1.length:Int))
 (.lf (decide (((r1.getD (Int.toNat Ah) default).length:Int) > 16)))))
 (.lf false))) (fun b2=>
 (cn b2
 (lf (0,6,Ag,Ah))
 (nx1 Ah Ak Ag))))))
 (lf (1,Ak,Ag,Ah)))
def Akq [An A (Nat×Tu7)](r1:List (List ByteArray))(a0:Aa)(rec:Int→List ByteArray→Int→A)(Ak:Int)(Ag:List ByteArray)(Ah:Int):A:=Afd L r1 a0 rec Ak Ag Ah (fun Ah Ak Ag=>bd (Nq L r1 Ah a0 L Ak Ag 0) fun o6=>Y0 L Ah rec o6)
def Np(L:Nat)(r1:List (List ByteArray))(a0:Aa):Nat→Int→List ByteArray→Int→Option (Nat×Tu7)
 |0,_,_,_=>none
 |n+1,Ak,Ag,Ah=>Akq L r1 a0 (Np L r1 a0 n) Ak Ag Ah
def Bo8(r1:List (List ByteArray))(a0:Aa):Prop:=LI (EV (O51 L) L 9 c51.w.u.l.u.l.l) [0,1,2,3,4,5,8,9,10,11,12] [1] (Bhr r1 a0) [.ret,.exit 0] (fun n v=>Np L r1 a0 n v.1 v.2.1 v.2.2) K n
def Brm:Be:=(Ay 2 (Ay 1 (Bl (EV (O51 L) L 9 c51.w.u.l.u.l.l.u.r) (I7 (Ly (EV (O51 L) L 9 c51.w.u.l.u.l.l) [0,1,2,3,4,5,8,9,10,11,12] [1] n) [0,1,2,3,4,5,8,9,10,11,12] [1] K))))
theorem Cg0(r1:List (List ByteArray))(Ah:Int)(a0:Aa)(ih:Bo8 L n K r1 a0)(o6:Nat×Tu7):kX [.ret,.exit 2] (Btp r1 Ah a0) (Brm L n K) o6=ob (Y0 L Ah (Np L r1 a0 n) o6) (kX [.ret,.exit 0] (Bhr r1 a0) K):=eE (Y0 L Ah (fun Ak Ag Ah=>re (ih (Ak,Ag,Ah))) o6)
theorem B6u(r1:List (List ByteArray))(a0:Aa):∀n,Bo8 L n K r1 a0:=lE (fun _=>rfl) fun n v ih=>eE (Afd L r1 a0 (fun Ak Ag Ah=>re (ih (Ak,Ag,Ah))) v.1 v.2.1 v.2.2 (fun Ah Ak Ag=>ho (B6v L (Brm L n K) r1 Ah a0 L (Ak,Ag,0)) fun o6=>Cg0 L n K r1 Ah a0 ih o6))
def Btq(a0:Aa)(v:Cw):St:=⟨[(0,.any),(1,.loc 1 0),(2,I v.1),(3,.any),(4,.any),(5,.any),(6,.any),(7,.any),(8,I v.2),(10,.any),(11,.any),(12,.any)],[(1,Ae a0)],0⟩
def Ae0 [An A Cx](a0:Aa)(rec:Int→Int→A)(Gd:Int)(Rn:Int):A:=
 (cn (decide (Rn < (a0.Starts.length:Int)))
 (gq (0≤Rn)
 (gq (Rn < (a0.Starts.length:Int))
 (bd (j9 L a0 (a0.Starts.getD (Int.toNat Rn) default)) fun r8=>
 (cn (r8 != 0)
 (lf (0,r8,Rn))
 (rec Gd (Da (Rn+1)))))))
 (lf (1,Gd,Rn)))
def Rb(L:Nat)(a0:Aa):Nat→Int→Int→Option Cx
 |0,_,_=>none
 |n+1,Gd,Rn=>Ae0 L a0 (Rb L a0 n) Gd Rn
theorem B6w(a0:Aa):LP (EV (O51 L) L 9 c51.x.u.l.u.l.l) [0,1,2,3,4,5,6,7,8,10,11,12] [1] (Btq a0) [.ret,.exit 4] (fun n v=>Rb L a0 n v.1 v.2) K:=lE (fun _=>rfl) fun n v ih=>eE (Ae0 L a0 (fun Gd Rn=>re (ih (Gd,Rn))) v.1 v.2)
def Btr(a0:Aa)(v:Tu7):St:=⟨[(0,.any),(1,.loc 1 0),(2,I v.1),(3,.any),(4,.any),(5,.any),(6,.any),(7,.any),(8,.any),(9,.any),(10,.lst true (.t9 v.2.1)),(11,I v.2.2)],[(1,Ae a0)],0⟩
def Ae1 [An A (Nat×Tu7)](a0:Aa)(rec:Int→List ByteArray→Int→A)(K3:Int)(Jj:List ByteArray)(Asb:Int):A:=
 (cn (decide (Asb < (a0.Laws.length:Int)))
 (gq (0≤Asb)
 (gq (Asb < (a0.Laws.length:Int))
 (bd (Ale L a0 (a0.Laws.getD (Int.toNat Asb) default) Jj) fun r10=>
 (cn (r10 != 0)
 (lf (0,r10,Jj,Asb))
 (gq (0≤Asb)
 (gq (Asb < (a0.Laws.length:Int))
 (gq ((Jj.length+ [(a0.Laws.getD (Int.toNat Asb) default).Name].length)*16≤140737488355328)
 (gq (Jj.length+ [(a0.Laws.getD (Int.toNat Asb) default).Name].length≤maxLen)
 (rec K3 (Jj++ [(a0.Laws.getD (Int.toNat Asb) default).Name]) (Da (Asb+1)))))))))))
 (lf (1,K3,Jj,Asb)))
def Rc(L:Nat)(a0:Aa):Nat→Int→List ByteArray→Int→Option (Nat×Tu7)
 |0,_,_,_=>none
 |n+1,K3,Jj,Asb=>Ae1 L a0 (Rc L a0 n) K3 Jj Asb
theorem B6x(a0:Aa):LP (EV (O51 L) L 9 c51.x.x.l.u.l.l) [0,1,2,3,4,5,6,7,8,9,10,11] [1] (Btr a0) [.ret,.exit 6] (fun n v=>Rc L a0 n v.1 v.2.1 v.2.2) K:=lE (fun _=>rfl) fun n v ih=>eE (Ae1 L a0 (fun K3 Jj Asb=>re (ih (K3,Jj,Asb))) v.1 v.2.1 v.2.2)
def Y1 [An A Int](L:Nat)(o11:Nat×Tu7):A:=
 (sl o11.1 [(lf o11.2.1),
 (lf 0)])
def Brp:Be:=(Ay 6 (Bl (EV (O51 L) L 9 c51.x.x.r) (C8 Tryz.prog (RS Tryz.f51) kk)))
theorem Cg3(a0:Aa)(o11:Nat×Tu7):kX [.ret,.exit 6] (Btr a0) (Brp L kk) o11=ob (Y1 L o11) (B5z kk):=eE (Y1 L o11)
def Afg [An A Int](L:Nat)(a0:Aa)(o9:Nat×Cw)(nx4:Cx→A):A:=
 (sl o9.1 [(lf o9.2.1),
 (cn (decide ((a0.Laws.length:Int) > 32))
 (lf 6)
 (nx4 o9))])
def Ae5 [An A Int](a0:Aa)(o9:Nat×Cw):A:=Afg L a0 o9 (fun o9=>bd (Rc L a0 L o9.2.1 [] 0) fun o11=>Y1 L o11)
def Bro:Be:=(Ay 4 (Bl (EV (O51 L) L 9 c51.x.u.r) (C8 Tryz.prog (RS Tryz.f51) kk)))
theorem Cg2(a0:Aa)(o9:Nat×Cw):kX [.ret,.exit 4] (Btq a0) (Bro L kk) o9=ob (Ae5 L a0 o9) (B5z kk):=eE (Afg L a0 o9 (fun o9=>ho (B6x L (Brp L kk) a0 L (o9.2.1,[],0)) fun o11=>Cg3 L kk a0 o11))
def Aff [An A Int](L:Nat)(a0:Aa)(o7:Nat×Tu7)(nx3:(Nat×Tu7)→A):A:=
 (sl o7.1 [(lf o7.2.1),
 (cn (decide ((a0.Starts.length:Int) > 32))
 (lf 6)
 (nx3 o7))])
def Ae4 [An A Int](a0:Aa)(o7:Nat×Tu7):A:=Aff L a0 o7 (fun o7=>bd (Rb L a0 L o7.2.1 0) fun o9=>Ae5 L a0 o9)
def Brn:Be:=(Ay 0 (Bl (EV (O51 L) L 9 c51.w.u.r) (C8 Tryz.prog (RS Tryz.f51) kk)))
theorem Cg1(r1:List (List ByteArray))(a0:Aa)(o7:Nat×Tu7):kX [.ret,.exit 0] (Bhr r1 a0) (Brn L kk) o7=ob (Ae4 L a0 o7) (B5z kk):=eE (Aff L a0 o7 (fun o7=>ho (B6w L (Bro L kk) a0 L (o7.2.1,0)) fun o9=>Cg2 L kk a0 o9))
def Afe [An A Int](a0:Aa)(nx2:(List (List ByteArray))→A):A:=
 (bd (j8 L a0) fun r1=>
 (nx2 r1))
def A2m [An A Int](a0:Aa):A:=Afe L a0 (fun r1=>bd (Np L r1 a0 L 0 [] 0) fun o7=>Ae4 L a0 o7)
def Ahz(a0:Aa):Option Int:=A2m L a0
def X51:Gk:=E1 I 51 C0 (Ahz L) fun a0 r h=>hF Tryz.func51 (C:=O51 L) (oS _) L (fun kk=>eE (Afe L a0 (fun r1=>ho (B6u L (Brn L kk) r1 a0 L (0,[],0)) fun o7=>Cg1 L kk r1 a0 o7))) h
noncomputable def Ccz:EC:=CC Tryz.f116
def B1z(L:Nat):Bk:=oL []
def Cef:Int→Prop:=fun x=>kk (I x)
def Bl6(a1:ByteArray)(a0:Ad)(v:Cw):St:=⟨[(0,.any),(1,S a1),(2,.loc 2 0),(4,I v.1),(5,I v.2)],[(2,Az a0)],0⟩
def Aey [An A Cx](L:Nat)(a1:ByteArray)(a0:Ad)(rec:Int→Int→A)(Ag:Int)(Am:Int):A:=
 (cn (decide (Am < (a0.Sites.length:Int)))
 (gq (0≤Am)
 (gq (Am < (a0.Sites.length:Int))
 (cn (((a0.Sites.getD (Int.toNat Am) default).Name).toList == a1.toList)
 (lf (0,Am,Am))
 (rec Ag (Da (Am+1))))))
 (lf (1,Ag,Am)))
def Ra(L:Nat)(a1:ByteArray)(a0:Ad):Nat→Int→Int→Option Cx
 |0,_,_=>none
 |n+1,Ag,Am=>Aey L a1 a0 (Ra L a1 a0 n) Ag Am
theorem Byq(a1:ByteArray)(a0:Ad):LP (EV (B1z L) L 9 Ccz.u.l.u.l.l) [0,1,2,4,5] [2] (Bl6 a1 a0) [.ret,.exit 0] (fun n v=>Ra L a1 a0 n v.1 v.2) K:=lE (fun _=>rfl) fun n v ih=>eE (Aey L a1 a0 (fun Ag Am=>re (ih (Ag,Am))) v.1 v.2)
def Yz [An A Int](L:Nat)(o1:Nat×Cw):A:=
 (sl o1.1 [(lf o1.2.1),
 (lf (-1))])
def Bjk:Be:=(Ay 0 (Bl (EV (B1z L) L 9 Ccz.u.r) (C8 Tryz.prog (RS Tryz.f116) kk)))
theorem B71(a1:ByteArray)(a0:Ad)(o1:Nat×Cw):kX [.ret,.exit 0] (Bl6 a1 a0) (Bjk L kk) o1=ob (Yz L o1) (Cef kk):=eE (Yz L o1)
def Afc [An A Int](L:Nat)(a0:Ad)(a1:ByteArray)(nx1:A):A:=
 nx1
def A2l [An A Int](a0:Ad)(a1:ByteArray):A:=Afc L a0 a1 (bd (Ra L a1 a0 L 0 0) fun o1=>Yz L o1)
def Vd(a0:Ad)(a1:ByteArray):Option Int:=A2l L a0 a1
def B2h:Gk:=E2 I 116 D1 cS (Vd L) fun a0 a1 r h=>hF Tryz.func116 (C:=B1z L) (oS _) L (fun kk=>eE (Afc L a0 a1 (ho (Byq L (Bjk L kk) a1 a0 L (0,0)) fun o1=>B71 L kk a1 a0 o1))) h
noncomputable def c52:EC:=CC Tryz.f52
def O52:Bk:=oL [B2h L,Bcb L]
def Cj5:Int→Prop:=fun x=>kk (I x)
def Bts(Ag:Int)(a0:Ad)(v:Cw):St:=⟨[(0,.any),(1,.loc 1 0),(2,I v.1),(3,I Ag),(4,.loc 4 0),(5,I v.2)],[(1,Az a0),(4,(I5 (a0.Links.getD (Int.toNat Ag) default)))],0⟩
def Aaj [An A Cx](L:Nat)(Ag:Int)(a0:Ad)(rec:Int→Int→A)(B5:Int)(Iz:Int):A:=
 (cn (decide (Iz < Ag))
 (gq (0≤Iz)
 (gq (Iz < (a0.Links.length:Int))
 (cn (((a0.Links.getD (Int.toNat Iz) default).From).toList == ((a0.Links.getD (Int.toNat Ag) default).From).toList)
 (gq (0≤Iz)
 (gq (Iz < (a0.Links.length:Int))
 (cn (((a0.Links.getD (Int.toNat Iz) default).To).toList == ((a0.Links.getD (Int.toNat Ag) default).To).toList)
 (lf (0,4,Iz))
 (rec B5 (Da (Iz+1))))))
 (rec B5 (Da (Iz+1))))))
 (lf (1,B5,Iz)))
def Lc(L:Nat)(Ag:Int)(a0:Ad):Nat→Int→Int→Option Cx
 |0,_,_=>none
 |n+1,B5,Iz=>Aaj L Ag a0 (Lc L Ag a0 n) B5 Iz
theorem B6z(Ag:Int)(a0:Ad):LP (EV (O52 L) L 9 c52.w.l.u.l.l.u.l.l.x.u.l.l) [0,1,2,3,4,5] [1,4] (Bts Ag a0) [.ret,.exit 2] (fun n v=>Lc L Ag a0 n v.1 v.2) K:=lE (fun _=>rfl) fun n v ih=>eE (Aaj L Ag a0 (fun B5 Iz=>re (ih (B5,Iz))) v.1 v.2)
def Bhs(a0:Ad)(v:Cw):St:=⟨[(0,.any),(1,.loc 1 0),(2,I v.1),(3,I v.2)],[(1,Az a0)],0⟩
def V7 [An A Cx](L:Nat)(Ag:Int)(rec:Int→Int→A)(o5:Nat×Cw):A:=
 (sl o5.1 [(lf (0,o5.2.1,Ag)),
 (rec o5.2.1 (Da (Ag+1)))])
def Abu [An A Cx](a0:Ad)(rec:Int→Int→A)(Ak:Int)(Ag:Int)(nx1:Int→Int→A):A:=
 (cn (decide (Ag < (a0.Links.length:Int)))
 (gq (0≤Ag)
 (gq (Ag < (a0.Links.length:Int))
 (bd (Vd L a0 ((a0.Links.getD (Int.toNat Ag) default).From)) fun r1=>
 (jb (.cn (decide (r1 < 0))
 (.lf true)
 (.bd (Vd L a0 ((a0.Links.getD (Int.toNat Ag) default).To)) fun r3=>
 (.lf (decide (r3 < 0))))) (fun b2=>
 (cn b2
 (lf (0,5,Ag))
 (cn (((a0.Links.getD (Int.toNat Ag) default).From).toList == ((a0.Links.getD (Int.toNat Ag) default).To).toList)
 (lf (0,1,Ag))
 (bd (Dr L ((a0.Links.getD (Int.toNat Ag) default).Delay) 1 1000000000) fun r4=>
 (cn (!r4)
 (lf (0,2,Ag))
 (nx1 Ag Ak))))))))))
 (lf (1,Ak,Ag)))
def Aip [An A Cx](a0:Ad)(rec:Int→Int→A)(Ak:Int)(Ag:Int):A:=Abu L a0 rec Ak Ag (fun Ag Ak=>bd (Lc L Ag a0 L Ak 0) fun o5=>V7 L Ag rec o5)
def Lb(L:Nat)(a0:Ad):Nat→Int→Int→Option Cx
 |0,_,_=>none
 |n+1,Ak,Ag=>Aip L a0 (Lb L a0 n) Ak Ag
def Bo9(a0:Ad):Prop:=LI (EV (O52 L) L 9 c52.w.l.u.l.l) [0,1,2,3] [1] (Bhs a0) [.ret,.exit 0] (fun n v=>Lb L a0 n v.1 v.2) K n
def Brq:Be:=(Ay 2 (Ay 1 (Bl (EV (O52 L) L 9 c52.w.l.u.l.l.u.r) (I7 (Ly (EV (O52 L) L 9 c52.w.l.u.l.l) [0,1,2,3] [1] n) [0,1,2,3] [1] K))))
theorem Cg4(Ag:Int)(a0:Ad)(ih:Bo9 L n K a0)(o5:Nat×Cw):kX [.ret,.exit 2] (Bts Ag a0) (Brq L n K) o5=ob (V7 L Ag (Lb L a0 n) o5) (kX [.ret,.exit 0] (Bhs a0) K):=eE (V7 L Ag (fun Ak Ag=>re (ih (Ak,Ag))) o5)
theorem B6y(a0:Ad):∀n,Bo9 L n K a0:=lE (fun _=>rfl) fun n v ih=>eE (Abu L a0 (fun Ak Ag=>re (ih (Ak,Ag))) v.1 v.2 (fun Ag Ak=>ho (B6z L (Brq L n K) Ag a0 L (Ak,0)) fun o5=>Cg4 L n K Ag a0 ih o5))
def V8 [An A Int](L:Nat)(o6:Nat×Cw):A:=
 (sl o6.1 [(lf o6.2.1),
 (lf 0)])
def Brr:Be:=(Ay 0 (Bl (EV (O52 L) L 9 c52.w.r) (C8 Tryz.prog (RS Tryz.f52) kk)))
theorem Cg5(a0:Ad)(o6:Nat×Cw):kX [.ret,.exit 0] (Bhs a0) (Brr L kk) o6=ob (V8 L o6) (Cj5 kk):=eE (V8 L o6)
def Abv [An A Int](L:Nat)(a0:Ad)(nx2:A):A:=
 (cn (decide ((a0.Links.length:Int) > 32))
 (lf 6)
 nx2)
def Ayy [An A Int](a0:Ad):A:=Abv L a0 (bd (Lb L a0 L 0 0) fun o6=>V8 L o6)
def Ajj(a0:Ad):Option Int:=Ayy L a0
def X52:Gk:=E1 I 52 D1 (Ajj L) fun a0 r h=>hF Tryz.func52 (C:=O52 L) (oS _) L (fun kk=>eE (Abv L a0 (ho (B6y L (Brr L kk) a0 L (0,0)) fun o6=>Cg5 L kk a0 o6))) h
noncomputable def c25:EC:=CC Tryz.f25
def O25:Bk:=oL [X46 L,X47 L,X48 L,X49 L,X50 L,X51 L,X52 L]
def Ce0:Int→Prop:=fun x=>kk (I x)
def Btj(a0:Ad)(v:Tu9):St:=⟨[(0,.any),(1,.loc 1 0),(2,I v.1),(3,I v.2.1),(4,.lst true (.t9 v.2.2.1)),(5,I v.2.2.2),(6,.any),(7,.any)],[(1,Az a0)],0⟩
def Aac [An A (Nat×Tu9)](a0:Ad)(rec:Int→Int→List ByteArray→Int→A)(Ak:Int)(Ag:Int)(Am:List ByteArray)(Ah:Int):A:=
 (cn (decide (Ah < (a0.Params.length:Int)))
 (gq (0≤Ah)
 (gq (Ah < (a0.Params.length:Int))
 (bd (Afk L (a0.Params.getD (Int.toNat Ah) default) Am) fun r4=>
 (cn (r4 != 0)
 (lf (0,r4,r4,Am,Ah))
 (gq (0≤Ah)
 (gq (Ah < (a0.Params.length:Int))
 (gq ((Am.length+ [(a0.Params.getD (Int.toNat Ah) default).Name].length)*16≤140737488355328)
 (gq (Am.length+ [(a0.Params.getD (Int.toNat Ah) default).Name].length≤maxLen)
 (rec Ak r4 (Am++ [(a0.Params.getD (Int.toNat Ah) default).Name]) (Da (Ah+1)))))))))))
 (lf (1,Ak,Ag,Am,Ah)))
def Oa(L:Nat)(a0:Ad):Nat→Int→Int→List ByteArray→Int→Option (Nat×Tu9)
 |0,_,_,_,_=>none
 |n+1,Ak,Ag,Am,Ah=>Aac L a0 (Oa L a0 n) Ak Ag Am Ah
theorem B6h(a0:Ad):LP (EV (O25 L) L 9 c25.x.l.u.l.l) [0,1,2,3,4,5,6,7] [1] (Btj a0) [.ret,.exit 0] (fun n v=>Oa L a0 n v.1 v.2.1 v.2.2.1 v.2.2.2) K:=lE (fun _=>rfl) fun n v ih=>eE (Aac L a0 (fun Ak Ag Am Ah=>re (ih (Ak,Ag,Am,Ah))) v.1 v.2.1 v.2.2.1 v.2.2.2)
def Btk(a0:Ad)(v:Tu9):St:=⟨[(0,.any),(1,.loc 1 0),(2,I v.1),(3,I v.2.1),(4,.any),(5,.any),(6,.lst true (.t9 v.2.2.1)),(7,I v.2.2.2)],[(1,Az a0)],0⟩
def Aad [An A (Nat×Tu9)](a0:Ad)(rec:Int→Int→List ByteArray→Int→A)(B5:Int)(C1:Int)(Iz:List ByteArray)(B2:Int):A:=
 (cn (decide (B2 < (a0.Sites.length:Int)))
 (gq (0≤B2)
 (gq (B2 < (a0.Sites.length:Int))
 (bd (Nk L ((a0.Sites.getD (Int.toNat B2) default).Name) Iz) fun r9=>
 (gq (0≤B2)
 (gq (B2 < (a0.Sites.length:Int))
 (bd (Ahz L (a0.Sites.getD (Int.toNat B2) default)) fun r10=>
 (bd (C3 L r9 r10) fun r11=>
 (cn (r11 != 0)
 (lf (0,r11,r11,Iz,B2))
 (gq (0≤B2)
 (gq (B2 < (a0.Sites.length:Int))
 (gq ((Iz.length+ [(a0.Sites.getD (Int.toNat B2) default).Name].length)*16≤140737488355328)
 (gq (Iz.length+ [(a0.Sites.getD (Int.toNat B2) default).Name].length≤maxLen)
 (rec B5 r11 (Iz++ [(a0.Sites.getD (Int.toNat B2) default).Name]) (Da (B2+1)))))))))))))))
 (lf (1,B5,C1,Iz,B2)))
def Ob(L:Nat)(a0:Ad):Nat→Int→Int→List ByteArray→Int→Option (Nat×Tu9)
 |0,_,_,_,_=>none
 |n+1,B5,C1,Iz,B2=>Aad L a0 (Ob L a0 n) B5 C1 Iz B2
theorem B6i(a0:Ad):LP (EV (O25 L) L 9 c25.x.x.l.u.l.l) [0,1,2,3,4,5,6,7] [1] (Btk a0) [.ret,.exit 2] (fun n v=>Ob L a0 n v.1 v.2.1 v.2.2.1 v.2.2.2) K:=lE (fun _=>rfl) fun n v ih=>eE (Aad L a0 (fun B5 C1 Iz B2=>re (ih (B5,C1,Iz,B2))) v.1 v.2.1 v.2.2.1 v.2.2.2)
def V5 [An A Int](a0:Ad)(o12:Nat×Tu9):A:=
 (sl o12.1 [(lf o12.2.1),
 (bd (Ajj L a0) fun r13=>
 (lf r13))])
def Brf:Be:=(Ay 2 (Bl (EV (O25 L) L 9 c25.x.x.r) (C8 Tryz.prog (RS Tryz.f25) kk)))
theorem Cgt(a0:Ad)(o12:Nat×Tu9):kX [.ret,.exit 2] (Btk a0) (Brf L kk) o12=ob (V5 L a0 o12) (Ce0 kk):=eE (V5 L a0 o12)
def Abo [An A Int](a0:Ad)(o5:Nat×Tu9)(nx2:(Nat×Tu9)→Int→A):A:=
 (sl o5.1 [(lf o5.2.1),
 (bd (Ck L (decide ((a0.Sites.length:Int) > 0)) 7) fun r6=>
 (bd (Ck L (decide ((a0.Sites.length:Int)≤16)) 6) fun r7=>
 (bd (C3 L r6 r7) fun r8=>
 (cn (r8 != 0)
 (lf r8)
 (nx2 o5 r8)))))])
def Aaz [An A Int](a0:Ad)(o5:Nat×Tu9):A:=Abo L a0 o5 (fun o5 r8=>bd (Ob L a0 L o5.2.1 r8 [] 0) fun o12=>V5 L a0 o12)
def Bre:Be:=(Ay 0 (Bl (EV (O25 L) L 9 c25.x.r) (C8 Tryz.prog (RS Tryz.f25) kk)))
theorem Cgs(a0:Ad)(o5:Nat×Tu9):kX [.ret,.exit 0] (Btj a0) (Bre L kk) o5=ob (Aaz L a0 o5) (Ce0 kk):=eE (Abo L a0 o5 (fun o5 r8=>ho (B6i L (Brf L kk) a0 L (o5.2.1,r8,[],0)) fun o12=>Cgt L kk a0 o12))
def Abn [An A Int](a0:Ad)(nx1:Int→A):A:=
 (bd (Py L a0.Name) fun r1=>
 (bd (Ck L (decide ((a0.Params.length:Int)≤32)) 6) fun r2=>
 (bd (C3 L r1 r2) fun r3=>
 (cn (r3 != 0)
 (lf r3)
 (nx1 r3)))))
def Ayw [An A Int](a0:Ad):A:=Abn L a0 (fun r3=>bd (Oa L a0 L 0 r3 [] 0) fun o5=>Aaz L a0 o5)
def Aji(a0:Ad):Option Int:=Ayw L a0
def X25:Gk:=E1 I 25 D1 (Aji L) fun a0 r h=>hF Tryz.func25 (C:=O25 L) (oS _) L (fun kk=>eE (Abn L a0 (fun r3=>ho (B6h L (Bre L kk) a0 L (0,r3,[],0)) fun o5=>Cgs L kk a0 o5))) h
def Ana [An A (List Ao)](L:Nat)(a0:Ai):A:=
 (gq ((0+a0.Params.length)*24≤140737488355328)
 (gq (0+a0.Params.length≤maxLen)
 (gq ((a0.Params.length+a0.Locals.length)*24≤140737488355328)
 (gq (a0.Params.length+a0.Locals.length≤maxLen)
 (lf (a0.Params++a0.Locals))))))
def Ag6(a0:Ai):Option (List Ao):=Ana L a0
def X27:Gk:=E1 (fun(x:List Ao)=> .lst false (.t55 x)) 27 w3 (Ag6 L) fun a0 r h=>hF Tryz.func27 (oS []) L (fun kk=>eE (Ana L a0)) h
def Apw [An A ByteArray](L:Nat)(a0:Int):A:=
 (cn (a0 == 6)
 (cn (a0 == 6)
 (lf (⟨#[114,101,115,111,117,114,99,101]⟩:ByteArray))
 (cn (a0 == 8)
 (cn (a0 == 8)
 (lf (⟨#[115,116,111,114,101]⟩:ByteArray))
 (cn (a0 == 10)
 (lf (⟨#[98,101,108,116]⟩:ByteArray))
 (cn (a0 == 11)
 (cn (a0 == 11)
 (lf (⟨#[113,117,101,117,101]⟩:ByteArray))
 (cn (a0 == 15)
 (lf (⟨#[116,97,108,108,121]⟩:ByteArray))
 (cn (a0 == 16)
 (lf (⟨#[108,101,118,101,108]⟩:ByteArray))
 (cn (a0 == 17)
 (lf (⟨#[99,111,117,110,116]⟩:ByteArray))
 (lf (⟨#[]⟩:ByteArray))))))
 (cn (a0 == 12)
 (lf (⟨#[113,117,101,117,101]⟩:ByteArray))
 (cn (a0 == 15)
 (lf (⟨#[116,97,108,108,121]⟩:ByteArray))
 (cn (a0 == 16)
 (lf (⟨#[108,101,118,101,108]⟩:ByteArray))
 (cn (a0 == 17)
 (lf (⟨#[99,111,117,110,116]⟩:ByteArray))
 (lf (⟨#[]⟩:ByteArray)))))))))
 (cn (a0 == 9)
 (lf (⟨#[115,116,111,114,101]⟩:ByteArray))
 (cn (a0 == 10)
 (lf (⟨#[98,101,108,116]⟩:ByteArray))
 (cn (a0 == 11)
 (cn (a0 == 11)
 (lf (⟨#[113,117,101,117,101]⟩:ByteArray))
 (cn (a0 == 15)
 (lf (⟨#[116,97,108,108,121]⟩:ByteArray))
 (cn (a0 == 16)
 (lf (⟨#[108,101,118,101,108]⟩:ByteArray))
 (cn (a0 == 17)
 (lf (⟨#[99,111,117,110,116]⟩:ByteArray))
 (lf (⟨#[]⟩:ByteArray))))))
 (cn (a0 == 12)
 (lf (⟨#[113,117,101,117,101]⟩:ByteArray))
 (cn (a0 == 15)
 (lf (⟨#[116,97,108,108,121]⟩:ByteArray))
 (cn (a0 == 16)
 (lf (⟨#[108,101,118,101,108]⟩:ByteArray))
 (cn (a0 == 17)
 (lf (⟨#[99,111,117,110,116]⟩:ByteArray))
 (lf (⟨#[]⟩:ByteArray)))))))))))
 (cn (a0 == 7)
 (lf (⟨#[114,101,115,111,117,114,99,101]⟩:ByteArray))
 (cn (a0 == 8)
 (cn (a0 == 8)
 (lf (⟨#[115,116,111,114,101]⟩:ByteArray))
 (cn (a0 == 10)
 (lf (⟨#[98,101,108,116]⟩:ByteArray))
 (cn (a0 == 11)
 (cn (a0 == 11)
 (lf (⟨#[113,117,101,117,101]⟩:ByteArray))
 (cn (a0 == 15)
 (lf (⟨#[116,97,108,108,121]⟩:ByteArray))
 (cn (a0 == 16)
 (lf (⟨#[108,101,118,101,108]⟩:ByteArray))
 (cn (a0 == 17)
 (lf (⟨#[99,111,117,110,116]⟩:ByteArray))
 (lf (⟨#[]⟩:ByteArray))))))
 (cn (a0 == 12)
 (lf (⟨#[113,117,101,117,101]⟩:ByteArray))
 (cn (a0 == 15)
 (lf (⟨#[116,97,108,108,121]⟩:ByteArray))
 (cn (a0 == 16)
 (lf (⟨#[108,101,118,101,108]⟩:ByteArray))
 (cn (a0 == 17)
 (lf (⟨#[99,111,117,110,116]⟩:ByteArray))
 (lf (⟨#[]⟩:ByteArray)))))))))
 (cn (a0 == 9)
 (lf (⟨#[115,116,111,114,101]⟩:ByteArray))
 (cn (a0 == 10)
 (lf (⟨#[98,101,108,116]⟩:ByteArray))
 (cn (a0 == 11)
 (cn (a0 == 11)
 (lf (⟨#[113,117,101,117,101]⟩:ByteArray))
 (cn (a0 == 15)
 (lf (⟨#[116,97,108,108,121]⟩:ByteArray))
 (cn (a0 == 16)
 (lf (⟨#[108,101,118,101,108]⟩:ByteArray))
 (cn (a0 == 17)
 (lf (⟨#[99,111,117,110,116]⟩:ByteArray))
 (lf (⟨#[]⟩:ByteArray))))))
 (cn (a0 == 12)
 (lf (⟨#[113,117,101,117,101]⟩:ByteArray))
 (cn (a0 == 15)
 (lf (⟨#[116,97,108,108,121]⟩:ByteArray))
 (cn (a0 == 16)
 (lf (⟨#[108,101,118,101,108]⟩:ByteArray))
 (cn (a0 == 17)
 (lf (⟨#[99,111,117,110,116]⟩:ByteArray))
 (lf (⟨#[]⟩:ByteArray))))))))))))
def Ajm(a0:Int):Option ByteArray:=Apw L a0
def Cbm:Gk:=E1 S 166 (cI .i64) (Ajm L) fun a0 r h=>hF Tryz.func166 (oS []) L (fun kk=>eE (Apw L a0)) h
noncomputable def c21:EC:=CC Tryz.f21
def O21(L:Nat):Bk:=oL []
def Cjx:v6→Prop:=fun x=>kk ((fun(x:v6)=> .tup [I x.1,B x.2]) x)
def Btg(a0:List Ao)(a1:ByteArray)(v:Tu6):St:=⟨[(0,.lst false (.t55 a0)),(1,S a1),(4,I v.1),(5,B v.2.1),(6,I v.2.2)],[],0⟩
def Vo [An A (Nat×Tu6)](L:Nat)(a0:List Ao)(a1:ByteArray)(rec:Int→Bool→Int→A)(Am:Int)(Ah:Bool)(Br:Int):A:=
 (cn (decide (Br≥0))
 (gq (0≤Br)
 (gq (Br < (a0.length:Int))
 (cn (((a0.getD (Int.toNat Br) default).Name).toList == a1.toList)
 (gq (0≤Br)
 (gq (Br < (a0.length:Int))
 (lf (0,(((a0.getD (Int.toNat Br) default).Type_),true,Br)))))
 (rec Am Ah (Da (Br - 1))))))
 (lf (1,Am,Ah,Br)))
def Oj(L:Nat)(a0:List Ao)(a1:ByteArray):Nat→Int→Bool→Int→Option (Nat×Tu6)
 |0,_,_,_=>none
 |n+1,Am,Ah,Br=>Vo L a0 a1 (Oj L a0 a1 n) Am Ah Br
theorem B6c(a0:List Ao)(a1:ByteArray):LP (EV (O21 L) L 9 c21.u.l.u.l.l) [0,1,4,5,6] [] (Btg a0 a1) [.ret,.exit 0] (fun n v=>Oj L a0 a1 n v.1 v.2.1 v.2.2) K:=lE (fun _=>rfl) fun n v ih=>eE (Vo L a0 a1 (fun Am Ah Br=>re (ih (Am,Ah,Br))) v.1 v.2.1 v.2.2)
def Wa [An A v6](L:Nat)(o1:Nat×Tu6):A:=
 (sl o1.1 [(lf (o1.2.1,o1.2.2.1)),
 (lf (0,false))])
def Bq7:Be:=(Ay 0 (Bl (EV (O21 L) L 9 c21.u.r) (C8 Tryz.prog (RS Tryz.f21) kk)))
theorem Cgl(a0:List Ao)(a1:ByteArray)(o1:Nat×Tu6):kX [.ret,.exit 0] (Btg a0 a1) (Bq7 L kk) o1=ob (Wa L o1) (Cjx kk):=eE (Wa L o1)
def Abx [An A v6](L:Nat)(a0:List Ao)(a1:ByteArray)(nx1:A):A:=
 nx1
def Ay0 [An A v6](a0:List Ao)(a1:ByteArray):A:=Abx L a0 a1 (bd (Oj L a0 a1 L 0 false (Da ((a0.length:Int) - 1))) fun o1=>Wa L o1)
def m0(a0:List Ao)(a1:ByteArray):Option v6:=Ay0 L a0 a1
def X21:Gk:=E2 (fun(x:v6)=> .tup [I x.1,B x.2]) 21 Bpx cS (m0 L) fun a0 a1 r h=>hF Tryz.func21 (C:=O21 L) (oS _) L (fun kk=>eE (Abx L a0 a1 (ho (B6c L (Bq7 L kk) a0 a1 L (0,false,(Da ((a0.length:Int) - 1)))) fun o1=>Cgl L kk a0 a1 o1))) h
noncomputable def c22:EC:=CC Tryz.f22
def O22(L:Nat):Bk:=oL []
def Cjy:v6→Prop:=fun x=>kk ((fun(x:v6)=> .tup [I x.1,B x.2]) x)
def Bth(a0:List Al)(a1:ByteArray)(v:Tu6):St:=⟨[(0,.lst false (.t57 a0)),(1,S a1),(4,I v.1),(5,B v.2.1),(6,I v.2.2)],[],0⟩
def Zb [An A (Nat×Tu6)](L:Nat)(a0:List Al)(a1:ByteArray)(rec:Int→Bool→Int→A)(Am:Int)(Ah:Bool)(Br:Int):A:=
 (cn (decide (Br < (a0.length:Int)))
 (gq (0≤Br)
 (gq (Br < (a0.length:Int))
 (cn (((a0.getD (Int.toNat Br) default).Name).toList == a1.toList)
 (gq (0≤Br)
 (gq (Br < (a0.length:Int))
 (lf (0,(((a0.getD (Int.toNat Br) default).Type_),true,Br)))))
 (rec Am Ah (Da (Br+1))))))
 (lf (1,Am,Ah,Br)))
def L4(L:Nat)(a0:List Al)(a1:ByteArray):Nat→Int→Bool→Int→Option (Nat×Tu6)
 |0,_,_,_=>none
 |n+1,Am,Ah,Br=>Zb L a0 a1 (L4 L a0 a1 n) Am Ah Br
theorem B6d(a0:List Al)(a1:ByteArray):LP (EV (O22 L) L 9 c22.u.l.u.l.l) [0,1,4,5,6] [] (Bth a0 a1) [.ret,.exit 0] (fun n v=>L4 L a0 a1 n v.1 v.2.1 v.2.2) K:=lE (fun _=>rfl) fun n v ih=>eE (Zb L a0 a1 (fun Am Ah Br=>re (ih (Am,Ah,Br))) v.1 v.2.1 v.2.2)
def Tv [An A v6](L:Nat)(o1:Nat×Tu6):A:=
 (sl o1.1 [(lf (o1.2.1,o1.2.2.1)),
 (lf (0,false))])
def Bq8:Be:=(Ay 0 (Bl (EV (O22 L) L 9 c22.u.r) (C8 Tryz.prog (RS Tryz.f22) kk)))
theorem Cgm(a0:List Al)(a1:ByteArray)(o1:Nat×Tu6):kX [.ret,.exit 0] (Bth a0 a1) (Bq8 L kk) o1=ob (Tv L o1) (Cjy kk):=eE (Tv L o1)
def Zt [An A v6](L:Nat)(a0:List Al)(a1:ByteArray)(nx1:A):A:=
 nx1
def Auk [An A v6](a0:List Al)(a1:ByteArray):A:=Zt L a0 a1 (bd (L4 L a0 a1 L 0 false 0) fun o1=>Tv L o1)
def S7(a0:List Al)(a1:ByteArray):Option v6:=Auk L a0 a1
def X22:Gk:=E2 (fun(x:v6)=> .tup [I x.1,B x.2]) 22 Cjq cS (S7 L) fun a0 a1 r h=>hF Tryz.func22 (C:=O22 L) (oS _) L (fun kk=>eE (Zt L a0 a1 (ho (B6d L (Bq8 L kk) a0 a1 L (0,false,0)) fun o1=>Cgm L kk a0 a1 o1))) h
def As8 [An A v6](a0:Aq)(a1:ByteArray):A:=
 (bd (m0 L a0.Locals a1) fun r1=>
 (cn (!r1.2)
 (bd (S7 L a0.Site.Vars a1) fun r2=>
 (cn (!r2.2)
 (bd (S7 L a0.Params a1) fun r3=>
 (lf (r3.1,r3.2)))
 (lf (r2.1,r2.2))))
 (cn (!r1.2)
 (bd (S7 L a0.Params a1) fun r4=>
 (lf (r4.1,r4.2)))
 (lf (r1.1,r1.2)))))
def Am1(a0:Aq)(a1:ByteArray):Option v6:=As8 L a0 a1
def X10:Gk:=E2 (fun(x:v6)=> .tup [I x.1,B x.2]) 10 Ew cS (Am1 L) fun a0 a1 r h=>hF Tryz.func10 (oS [X21 L,X22 L]) L (fun kk=>eE (As8 L a0 a1)) h
def As9 [An A Cw](a0:Aq)(a1:Ab):A:=
 (bd (Z7 L a0.Site a1.Name) fun r1=>
 (cn (a1.Op == 1)
 (lf (1,0))
 (cn (a1.Op == 2)
 (lf (2,0))
 (cn (a1.Op == 4)
 (lf (3,0))
 (cn (a1.Op == 3)
 (bd (Am1 L a0 a1.Name) fun r2=>
 (cn (!r2.2)
 (lf (0,5))
 (lf (r2.1,0))))
 (cn (a1.Op == 22)
 (cn (!(r1.toList == (⟨#[114,101,115,111,117,114,99,101]⟩:ByteArray).toList))
 (lf (0,5))
 (lf (1,0)))
 (cn (a1.Op == 23)
 (cn (!(r1.toList == (⟨#[115,116,111,114,101]⟩:ByteArray).toList))
 (lf (0,5))
 (lf (1,0)))
 (jp (.cn (!(r1.toList == (⟨#[114,101,115,111,117,114,99,101]⟩:ByteArray).toList))
 (.lf (!(r1.toList == (⟨#[113,117,101,117,101]⟩:ByteArray).toList)))
 (.lf false)) (fun b3=>
 (cn b3
 (lf (0,5))
 (lf (1,0))))))))))))
def Ah1(a0:Aq)(a1:Ab):Option Cw:=As9 L a0 a1
def X36:Gk:=E2 (fun(x:Cw)=> .tup [I x.1,I x.2]) 36 Ew Bs (Ah1 L) fun a0 a1 r h=>hF Tryz.func36 (oS [X10 L,X67 L]) L (fun kk=>eE (As9 L a0 a1)) h
def Ah6 [An A Bool](L:Nat)(a0:Int):A:=
 (jp (.cn (a0 == 1)
 (.lf true)
 (.lf (a0 == 3))) (fun b1=>
 (lf b1)))
def I3(a0:Int):Option Bool:=Ah6 L a0
def X68:Gk:=E1 B 68 (cI .i64) (I3 L) fun a0 r h=>hF Tryz.func68 (oS []) L (fun kk=>eE (Ah6 L a0)) h
def Apx [An A Int](a0:Int)(a1:Int):A:=
 (jb (.cn (a0 == 5)
 (.bd (I3 L a1) fun r2=>
 (.lf r2))
 (.lf false)) (fun b1=>
 (cn b1
 (lf a1)
 (jp (.cn (a0 == 6)
 (.lf (a1 == 2))
 (.lf false)) (fun b3=>
 (cn b3
 (lf 2)
 (jp (.cn (a0 == 7)
 (.lf (a1 == 1))
 (.lf false)) (fun b4=>
 (cn b4
 (lf 3)
 (jp (.cn (a0 == 8)
 (.lf (a1 == 3))
 (.lf false)) (fun b5=>
 (cn b5
 (lf 1)
 (lf 0)))))))))))))
def Ajn(a0:Int)(a1:Int):Option Int:=Apx L a0 a1
def X37:Gk:=E2 I 37 (cI .i64) (cI .i64) (Ajn L) fun a0 a1 r h=>hF Tryz.func37 (oS [X68 L]) L (fun kk=>eE (Apx L a0 a1)) h
noncomputable def c38:EC:=CC Tryz.f38
def O38:Bk:=oL [X68 L]
def Bd6:Int→Prop:=fun x=>kk (I x)
def Bs7(a1:Int)(a2:Int)(p804_3:Bool):St:=⟨[(1,I a1),(6,I 0),(7,B (a1 == a2)),(67,B p804_3)],[],0⟩
def Bsh(e0:EC):Be:=(Ay 0 (Bl (EV (O38 L) L 9 e0) (C8 Tryz.prog (RS Tryz.f38) kk)))
def Zs [An A Int](L:Nat)(a1:Int)(a2:Int)(p804_3:Bool):A:=
 (cn p804_3
 (jp (.cn (a1 == a2)
 (.lf (a1 == 2))
 (.lf false)) (fun b11=>
 (cn b11
 (lf 2)
 (lf 0))))
 (lf 0))
theorem B30(a1:Int)(a2:Int)(p804_3:Bool):EV (O38 L) L 9 c38.w.l.u.l.x.x.r (Bs7 a1 a2 p804_3) (Bsh L kk c38.w.r)=ob (Zs L a1 a2 p804_3) (Bd6 kk):=eE (Zs L a1 a2 p804_3)
def Bbv(a1:Int)(a2:Int)(a0:Int)(p803_4:Bool):St:=⟨[(1,I a1),(6,I 0),(7,B (a1 == a2)),(11,I a0),(59,B p803_4)],[],0⟩
def Bai(e0:EC):Be:=(Ay 0 (Bl (EV (O38 L) L 9 e0) (C8 Tryz.prog (RS Tryz.f38) kk)))
def sx_R14_binary_3 [An A Int](a1:Int)(a2:Int)(a0:Int)(p803_4:Bool)(nx4:Int→Int→Bool→A):A:=
 (cn p803_4
 (jb (.cn (a1 == a2)
 (.bd (I3 L a1) fun r10=>
 (.lf r10))
 (.lf false)) (fun b9=>
 (cn b9
 (lf 2)
 (lf 0))))
 (cn (a0 == 18)
 (nx4 a1 a2 (a0 == 18))
 (nx4 a1 a2 (a0 == 19))))
def Agx [An A Int](a1:Int)(a2:Int)(a0:Int)(p803_4:Bool):A:=sx_R14_binary_3 L a1 a2 a0 p803_4 (fun a1 a2 p804_3=>Zs L a1 a2 p804_3)
theorem B4d(a1:Int)(a2:Int)(a0:Int)(p803_4:Bool)(z4:EC):EV (O38 L) L 9 (EC.put (rl [3]) z4 c38.w.l.u.l.x.w.u) (Bbv a1 a2 a0 p803_4) (Bai L kk c38.w.r)= @sx_R14_binary_3 Prop L (anP (Bd6 kk)) a1 a2 a0 p803_4 (fun a1 a2 p804_3=>EV (O38 L) L 9 z4 (Bs7 a1 a2 p804_3) (Bsh L kk c38.w.r)):=by kernel_rfl
theorem B3z(a1:Int)(a2:Int)(a0:Int)(p803_4:Bool):EV (O38 L) L 9 c38.w.l.u.l.x.w.u (Bbv a1 a2 a0 p803_4) (Bai L kk c38.w.r)=ob (Agx L a1 a2 a0 p803_4) (Bd6 kk):=Eq.trans (b:=EV (O38 L) L 9 (EC.put (rl [3]) c38.w.l.u.l.x.x.r c38.w.l.u.l.x.w.u) (Bbv a1 a2 a0 p803_4) (Bai L kk c38.w.r)) (by kernel_rfl) ((B4d L kk a1 a2 a0 p803_4 c38.w.l.u.l.x.x.r).trans (eE (sx_R14_binary_3 L a1 a2 a0 p803_4 (fun a1 a2 p804_3=>re (B30 L kk a1 a2 p804_3)))))
def Bbu(a1:Int)(a2:Int)(a0:Int)(p802_4:Bool):St:=⟨[(1,I a1),(6,I 0),(7,B (a1 == a2)),(11,I a0),(55,B p802_4)],[],0⟩
def Bah(e0:EC):Be:=(Ay 0 (Bl (EV (O38 L) L 9 e0) (C8 Tryz.prog (RS Tryz.f38) kk)))
def sx_R14_binary_2 [An A Int](L:Nat)(a1:Int)(a2:Int)(a0:Int)(p802_4:Bool)(nx3:Int→Int→Int→Bool→A):A:=
 (cn p802_4
 (cn (a1 == a2)
 (lf 2)
 (lf 0))
 (cn (a0 == 16)
 (nx3 a1 a2 a0 (a0 == 16))
 (nx3 a1 a2 a0 (a0 == 17))))
def Agw [An A Int](a1:Int)(a2:Int)(a0:Int)(p802_4:Bool):A:=sx_R14_binary_2 L a1 a2 a0 p802_4 (fun a1 a2 a0 p803_4=>Agx L a1 a2 a0 p803_4)
theorem B4c(a1:Int)(a2:Int)(a0:Int)(p802_4:Bool)(z3:EC):EV (O38 L) L 9 (EC.put (rl [3]) z3 c38.w.l.u.l.x.u.r) (Bbu a1 a2 a0 p802_4) (Bah L kk c38.w.r)= @sx_R14_binary_2 Prop (anP (Bd6 kk)) L a1 a2 a0 p802_4 (fun a1 a2 a0 p803_4=>EV (O38 L) L 9 z3 (Bbv a1 a2 a0 p803_4) (Bai L kk c38.w.r)):=by kernel_rfl
theorem B3y(a1:Int)(a2:Int)(a0:Int)(p802_4:Bool):EV (O38 L) L 9 c38.w.l.u.l.x.u.r (Bbu a1 a2 a0 p802_4) (Bah L kk c38.w.r)=ob (Agw L a1 a2 a0 p802_4) (Bd6 kk):=Eq.trans (b:=EV (O38 L) L 9 (EC.put (rl [3]) c38.w.l.u.l.x.w.u c38.w.l.u.l.x.u.r) (Bbu a1 a2 a0 p802_4) (Bah L kk c38.w.r)) (by kernel_rfl) ((B4c L kk a1 a2 a0 p802_4 c38.w.l.u.l.x.w.u).trans (eE (sx_R14_binary_2 L a1 a2 a0 p802_4 (fun a1 a2 a0 p803_4=>re (B3z L kk a1 a2 a0 p803_4)))))
def Bbt(a1:Int)(a2:Int)(a0:Int)(p801_5:Bool):St:=⟨[(1,I a1),(2,I a2),(6,I 0),(7,B (a1 == a2)),(11,I a0),(12,B p801_5)],[],0⟩
def Bag(e0:EC):Be:=(Ay 0 (Bl (EV (O38 L) L 9 e0) (C8 Tryz.prog (RS Tryz.f38) kk)))
def sx_R14_binary_1 [An A Int](a1:Int)(a2:Int)(a0:Int)(p801_5:Bool)(nx2:Int→Int→Int→Bool→A):A:=
 (cn p801_5
 (jb (.cn (a1 == a2)
 (.bd (I3 L a1) fun r2=>
 (.lf r2))
 (.lf false)) (fun b1=>
 (cn b1
 (lf a1)
 (lf 0))))
 (cn (a0 == 11)
 (jb (.cn (a1 == 1)
 (.bd (I3 L a2) fun r4=>
 (.lf r4))
 (.lf false)) (fun b3=>
 (cn b3
 (lf a2)
 (jp (.cn (a1 == 3)
 (.lf (a2 == 1))
 (.lf false)) (fun b5=>
 (cn b5
 (lf a1)
 (lf 0)))))))
 (cn (a0 == 12)
 (bd (I3 L a1) fun r6=>
 (jp (.cn r6
 (.lf (a2 == 1))
 (.lf false)) (fun b7=>
 (cn b7
 (lf a1)
 (jp (.cn (a1 == 3)
 (.lf (a2 == 3))
 (.lf false)) (fun b8=>
 (cn b8
 (lf 1)
 (lf 0))))))))
 (cn (a0 == 14)
 (nx2 a1 a2 a0 (a0 == 14))
 (nx2 a1 a2 a0 (a0 == 15))))))
def Agv [An A Int](a1:Int)(a2:Int)(a0:Int)(p801_5:Bool):A:=sx_R14_binary_1 L a1 a2 a0 p801_5 (fun a1 a2 a0 p802_4=>Agw L a1 a2 a0 p802_4)
theorem B4b(a1:Int)(a2:Int)(a0:Int)(p801_5:Bool)(z2:EC):EV (O38 L) L 9 (EC.put (rl [9]) z2 c38.w.l.u.l.u) (Bbt a1 a2 a0 p801_5) (Bag L kk c38.w.r)= @sx_R14_binary_1 Prop L (anP (Bd6 kk)) a1 a2 a0 p801_5 (fun a1 a2 a0 p802_4=>EV (O38 L) L 9 z2 (Bbu a1 a2 a0 p802_4) (Bah L kk c38.w.r)):=by kernel_rfl
theorem B3x(a1:Int)(a2:Int)(a0:Int)(p801_5:Bool):EV (O38 L) L 9 c38.w.l.u.l.u (Bbt a1 a2 a0 p801_5) (Bag L kk c38.w.r)=ob (Agv L a1 a2 a0 p801_5) (Bd6 kk):=Eq.trans (b:=EV (O38 L) L 9 (EC.put (rl [9]) c38.w.l.u.l.x.u.r c38.w.l.u.l.u) (Bbt a1 a2 a0 p801_5) (Bag L kk c38.w.r)) (by kernel_rfl) ((B4b L kk a1 a2 a0 p801_5 c38.w.l.u.l.x.u.r).trans (eE (sx_R14_binary_1 L a1 a2 a0 p801_5 (fun a1 a2 a0 p802_4=>re (B3y L kk a1 a2 a0 p802_4)))))
def sx_R14_binary_0 [An A Int](L:Nat)(a0:Int)(a1:Int)(a2:Int)(nx1:Int→Int→Int→Bool→A):A:=
 (cn (a0 == 9)
 (nx1 a1 a2 a0 (a0 == 9))
 (cn (a0 == 10)
 (nx1 a1 a2 a0 (a0 == 10))
 (cn (a0 == 13)
 (nx1 a1 a2 a0 (a0 == 13))
 (cn (a0 == 20)
 (nx1 a1 a2 a0 (a0 == 20))
 (nx1 a1 a2 a0 (a0 == 21))))))
def Auj [An A Int](a0:Int)(a1:Int)(a2:Int):A:=sx_R14_binary_0 L a0 a1 a2 (fun a1 a2 a0 p801_5=>Agv L a1 a2 a0 p801_5)
theorem B4a(a0:Int)(a1:Int)(a2:Int)(z1:EC):EW (O38 L) L 9 (RS Tryz.f38) (EC.put (rl [4,1,2,1,2]) z1 c38) [I a0,I a1,I a2] kk= @sx_R14_binary_0 Prop (anP (Bd6 kk)) L a0 a1 a2 (fun a1 a2 a0 p801_5=>EV (O38 L) L 9 z1 (Bbt a1 a2 a0 p801_5) (Bag L kk c38.w.r)):=by kernel_rfl
def Ag7(a0:Int)(a1:Int)(a2:Int):Option Int:=Auj L a0 a1 a2
def X38:Gk:=E3 I 38 (cI .i64) (cI .i64) (cI .i64) (Ag7 L) fun a0 a1 a2 r h=>hF Tryz.func38 (C:=O38 L) (oS _) L (fun kk=>Eq.trans (b:=EW (O38 L) L 9 (RS Tryz.f38) (EC.put (rl [4,1,2,1,2]) c38.w.l.u.l.u c38) [I a0,I a1,I a2] kk) (by kernel_rfl) ((B4a L kk a0 a1 a2 c38.w.l.u.l.u).trans (eE (sx_R14_binary_0 L a0 a1 a2 (fun a1 a2 a0 p801_5=>re (B3x L kk a1 a2 a0 p801_5)))))) h
def Bvc(F:Aq→Ab→Option Cw):Prop:=∀y0 y1 r,F y0 y1=some r→Ho Tryz.prog 19 [Ew.en y0,Bs.en y1] (fun(x:Cw)=> .tup [I x.1,I x.2]) r
noncomputable def c19:EC:=CC Tryz.f19
def O19(Hu:Aq→Ab→Option Cw)(L:Nat):Bk:=(orc 19 (A2 (fun(x:Cw)=> .tup [I x.1,I x.2]) Ew Bs Hu) (oL [X36 L,X37 L,X38 L]))
theorem s19(Hu:Aq→Ab→Option Cw)(B41:Bvc Hu)(L:Nat):Ep Tryz.prog (O19 Hu L):=(Gx (a2 _ B41) (oS [X36 L,X37 L,X38 L]))
def Cjv(kk:Ct):Cw→Prop:=fun x=>kk ((fun(x:Cw)=> .tup [I x.1,I x.2]) x)
def Bte(a0:Aq)(a1:Ab)(v:Int×Int×List Int×Int):St:=⟨[(0,.any),(1,.any),(2,.loc 2 0),(3,.loc 3 0),(4,I v.1),(5,I v.2.1),(6,.lst true (.t41 v.2.2.1)),(7,I v.2.2.2),(10,.any),(46,.any),(53,.any)],[(2,J4 a0),(3,C5 a1)],0⟩
def Aan [An A (Nat×Int×Int×List Int×Int)](Hu:Aq→Ab→Option Cw)(L:Nat)(a0:Aq)(a1:Ab)(rec:Int→Int→List Int→Int→A)(Ak:Int)(Ag:Int)(Am:List Int)(Ah:Int):A:=
 (cn (decide (Ah < (a1.Kids.length:Int)))
 (gq (0≤Ah)
 (gq (Ah < (a1.Kids.length:Int))
 (bd (Hu a0 (Ab.cp (a1.Kids.getD (Int.toNat Ah) default))) fun r1=>
 (cn (r1.2 != 0)
 (lf (0,0,r1.2,Am,Ah))
 (gq ((Am.length+ [r1.1].length)*8≤140737488355328)
 (gq (Am.length+ [r1.1].length≤maxLen)
 (rec Ak Ag (Am++ [r1.1]) (Da (Ah+1)))))))))
 (lf (1,Ak,Ag,Am,Ah)))
def Ol(Hu:Aq→Ab→Option Cw)(L:Nat)(a0:Aq)(a1:Ab):Nat→Int→Int→List Int→Int→Option (Nat×Int×Int×List Int×Int)
 |0,_,_,_,_=>none
 |n+1,Ak,Ag,Am,Ah=>Aan Hu L a0 a1 (Ol Hu L a0 a1 n) Ak Ag Am Ah
theorem B6a(Hu:Aq→Ab→Option Cw)(L:Nat)(K:Be)(a0:Aq)(a1:Ab):LP (EV (O19 Hu L) L 9 c19.w.l.u.l.l) [0,1,2,3,4,5,6,7,10,46,53] [2,3] (Bte a0 a1) [.ret,.exit 0] (fun n v=>Ol Hu L a0 a1 n v.1 v.2.1 v.2.2.1 v.2.2.2) K:=lE (fun _=>rfl) fun n v ih=>eE (Aan Hu L a0 a1 (fun Ak Ag Am Ah=>re (ih (Ak,Ag,Am,Ah))) v.1 v.2.1 v.2.2.1 v.2.2.2)
def We [An A Cw](Hu:Aq→Ab→Option Cw)(L:Nat)(a0:Aq)(a1:Ab)(o2:Nat×Int×Int×List Int×Int):A:=
 (sl o2.1 [(lf (o2.2.1,o2.2.2.1)),
 (cn ((o2.2.2.2.1.length:Int) == 0)
 (bd (Ah1 L a0 (Ab.cp a1)) fun r3=>
 (lf (r3.1,r3.2)))
 (cn ((o2.2.2.2.1.length:Int) == 1)
 (gq (0≤0)
 (gq (0 < (o2.2.2.2.1.length:Int))
 (bd (Ajn L a1.Op (o2.2.2.2.1.getD 0 default)) fun r4=>
 (cn (r4 == 0)
 (lf (0,10))
 (lf (r4,0))))))
 (gq (0≤0)
 (gq (0 < (o2.2.2.2.1.length:Int))
 (gq (0≤1)
 (gq (1 < (o2.2.2.2.1.length:Int))
 (bd (Ag7 L a1.Op (o2.2.2.2.1.getD 0 default) (o2.2.2.2.1.getD 1 default)) fun r5=>
 (cn (r5 == 0)
 (lf (0,10))
 (lf (r5,0))))))))))])
def Bq5(Hu:Aq→Ab→Option Cw)(L:Nat)(kk:Ct):Be:=(Ay 0 (Bl (EV (O19 Hu L) L 9 c19.w.r) (C8 Tryz.prog (RS Tryz.f19) kk)))
theorem Cgj(Hu:Aq→Ab→Option Cw)(L:Nat)(kk:Ct)(a0:Aq)(a1:Ab)(o2:Nat×Int×Int×List Int×Int):kX [.ret,.exit 0] (Bte a0 a1) (Bq5 Hu L kk) o2=ob (We Hu L a0 a1 o2) (Cjv kk):=eE (We Hu L a0 a1 o2)
def Ab1 [An A Cw](Hu:Aq→Ab→Option Cw)(L:Nat)(a0:Aq)(a1:Ab)(nx1:A):A:=
 nx1
def Ay3 [An A Cw](Hu:Aq→Ab→Option Cw)(L:Nat)(a0:Aq)(a1:Ab):A:=Ab1 Hu L a0 a1 (bd (Ol Hu L a0 a1 L 0 0 [] 0) fun o2=>We Hu L a0 a1 o2)
def Apb(Hu:Aq→Ab→Option Cw)(L:Nat)(a0:Aq)(a1:Ab):Option Cw:=Ay3 Hu L a0 a1
theorem b19(Hu:Aq→Ab→Option Cw)(B41:Bvc Hu)(L:Nat):Bvc (Apb Hu L):=fun a0 a1 r h=>hF Tryz.func19 (s19 Hu B41 L) L (fun kk=>eE (Ab1 Hu L a0 a1 (ho (B6a Hu L (Bq5 Hu L kk) a0 a1 L (0,0,[],0)) fun o2=>Cgj Hu L kk a0 a1 o2))) h
def P4:Nat→Aq→Ab→Option Cw
 |0,_,_=>none
 |L+1,a0,a1=>Apb (P4 L) L a0 a1
theorem B4n(L:Nat):Bvc (P4 L):=by
 induction L with
 |zero=>exact fun _ _ _ h=>(by cases h)
 |succ L ih=>
  have i19:=ih
  exact b19 (P4 L) i19 L
def X19(L:Nat):Gk:=E2 (fun(x:Cw)=> .tup [I x.1,I x.2]) 19 Ew Bs (P4 L) (B4n L)
def As7 [An A Cw](a0:Aq)(a1:Ab):A:=
 (bd (Pz L (Ab.cp a1)) fun r1=>
 (cn (r1 != 0)
 (lf (0,r1))
 (bd (P4 L a0 (Ab.cp a1)) fun r2=>
 (lf (r2.1,r2.2)))))
def Am0(a0:Aq)(a1:Ab):Option Cw:=As7 L a0 a1
def X8:Gk:=E2 (fun(x:Cw)=> .tup [I x.1,I x.2]) 8 Ew Bs (Am0 L) fun a0 a1 r h=>hF Tryz.func8 (oS [X18 L,X19 L]) L (fun kk=>eE (As7 L a0 a1)) h
def Awr [An A Int](a0:Aq)(a1:Ab)(a2:Int)(a3:Int):A:=
 (bd (Am0 L a0 (Ab.cp a1)) fun r1=>
 (jp (.cn (r1.2 == 0)
 (.lf (r1.1 != a2))
 (.lf false)) (fun b2=>
 (jp (.cn b2
 (.lf (r1.1 != a3))
 (.lf false)) (fun b3=>
 (cn b3
 (lf 10)
 (lf r1.2)))))))
def Ij(a0:Aq)(a1:Ab)(a2:Int)(a3:Int):Option Int:=Awr L a0 a1 a2 a3
def Bvw:Gk:=E4 I 168 Ew Bs (cI .i64) (cI .i64) (Ij L) fun a0 a1 a2 a3 r h=>hF Tryz.func168 (oS [X8 L]) L (fun kk=>eE (Awr L a0 a1 a2 a3)) h
def Aws [An A Int](a0:Aq)(a1:Ac):A:=
 (bd (m0 L a0.Locals a1.Name) fun r1=>
 (cn (a1.Op == 1)
 (cn (!r1.2)
 (bd (S7 L a0.Site.Vars a1.Name) fun r2=>
 (cn (!r2.2)
 (lf 5)
 (bd (Ij L a0 (Ab.cp a1.E) r2.1 r2.1) fun r3=>
 (lf r3))))
 (cn (!r1.2)
 (lf 5)
 (bd (Ij L a0 (Ab.cp a1.E) r1.1 r1.1) fun r4=>
 (lf r4))))
 (jb (.cn (!r1.2)
 (.lf true)
 (.bd (Z7 L a0.Site a1.Of) fun r6=>
 (.lf (!(r6.toList == (⟨#[115,116,114,101,97,109]⟩:ByteArray).toList))))) (fun b5=>
 (cn b5
 (lf 5)
 (bd (I3 L r1.1) fun r7=>
 (cn (!r7)
 (lf 10)
 (lf 0))))))))
def Arq(a0:Aq)(a1:Ac):Option Int:=Aws L a0 a1
def Cbn:Gk:=E2 I 167 Ew Hj (Arq L) fun a0 a1 r h=>hF Tryz.func167 (oS [X21 L,X22 L,X67 L,X68 L,Bvw L]) L (fun kk=>eE (Aws L a0 a1)) h
noncomputable def Cdl:EC:=CC Tryz.f192
def B2c:Bk:=oL [Bvw L]
def Cev:Int→Prop:=fun x=>kk (I x)
def Bms(a2:List Ao)(a0:Aq)(a1:Ac)(v:Cw):St:=⟨[(0,.any),(1,.any),(2,.lst false (.t55 a2)),(3,.loc 3 0),(4,.loc 4 0),(6,I v.1),(7,I v.2)],[(3,J4 a0),(4,C7 a1)],0⟩
def Ae2 [An A Cx](a2:List Ao)(a0:Aq)(a1:Ac)(rec:Int→Int→A)(Ag:Int)(Am:Int):A:=
 (cn (decide (Am < (a2.length:Int)))
 (gq (0≤Am)
 (gq (Am < (a1.Args.length:Int))
 (gq (0≤Am)
 (gq (Am < (a2.length:Int))
 (gq (0≤Am)
 (gq (Am < (a2.length:Int))
 (bd (Ij L a0 (Ab.cp (a1.Args.getD (Int.toNat Am) default)) ((a2.getD (Int.toNat Am) default).Type_) ((a2.getD (Int.toNat Am) default).Type_)) fun r1=>
 (cn (r1 != 0)
 (lf (0,r1,Am))
 (rec Ag (Da (Am+1)))))))))))
 (lf (1,Ag,Am)))
def Re(L:Nat)(a2:List Ao)(a0:Aq)(a1:Ac):Nat→Int→Int→Option Cx
 |0,_,_=>none
 |n+1,Ag,Am=>Ae2 L a2 a0 a1 (Re L a2 a0 a1 n) Ag Am
theorem Bzc(a2:List Ao)(a0:Aq)(a1:Ac):LP (EV (B2c L) L 9 Cdl.w.l.u.l.l) [0,1,2,3,4,6,7] [3,4] (Bms a2 a0 a1) [.ret,.exit 0] (fun n v=>Re L a2 a0 a1 n v.1 v.2) K:=lE (fun _=>rfl) fun n v ih=>eE (Ae2 L a2 a0 a1 (fun Ag Am=>re (ih (Ag,Am))) v.1 v.2)
def Y2 [An A Int](a0:Aq)(a1:Ac)(o2:Nat×Cw):A:=
 (sl o2.1 [(lf o2.2.1),
 (bd (Ij L a0 (Ab.cp a1.E) 3 3) fun r3=>
 (lf r3))])
def Bko:Be:=(Ay 0 (Bl (EV (B2c L) L 9 Cdl.w.r) (C8 Tryz.prog (RS Tryz.f192) kk)))
theorem B85(a2:List Ao)(a0:Aq)(a1:Ac)(o2:Nat×Cw):kX [.ret,.exit 0] (Bms a2 a0 a1) (Bko L kk) o2=ob (Y2 L a0 a1 o2) (Cev kk):=eE (Y2 L a0 a1 o2)
def Afh [An A Int](L:Nat)(a0:Aq)(a1:Ac)(a2:List Ao)(nx1:A):A:=
 (cn ((a1.Args.length:Int) != (a2.length:Int))
 (lf 8)
 nx1)
def A2o [An A Int](a0:Aq)(a1:Ac)(a2:List Ao):A:=Afh L a0 a1 a2 (bd (Re L a2 a0 a1 L 0 0) fun o2=>Y2 L a0 a1 o2)
def Ack(a0:Aq)(a1:Ac)(a2:List Ao):Option Int:=A2o L a0 a1 a2
def Cb1:Gk:=E3 I 192 Ew Hj Bpx (Ack L) fun a0 a1 a2 r h=>hF Tryz.func192 (C:=B2c L) (oS _) L (fun kk=>eE (Afh L a0 a1 a2 (ho (Bzc L (Bko L kk) a2 a0 a1 L (0,0)) fun o2=>B85 L kk a2 a0 a1 o2))) h
noncomputable def Cdm:EC:=CC Tryz.f193
def B2d(L:Nat):Bk:=oL []
def Cew:v6→Prop:=fun x=>kk ((fun(x:v6)=> .tup [I x.1,B x.2]) x)
def Bmt(a1:ByteArray)(a2:ByteArray)(a0:Ad)(v:Tu6):St:=⟨[(0,.any),(1,S a1),(2,S a2),(3,.loc 3 0),(6,I v.1),(7,B v.2.1),(8,I v.2.2)],[(3,Az a0)],0⟩
def Aex [An A (Nat×Tu6)](L:Nat)(a1:ByteArray)(a2:ByteArray)(a0:Ad)(rec:Int→Bool→Int→A)(Am:Int)(Ah:Bool)(Br:Int):A:=
 (cn (decide (Br < (a0.Links.length:Int)))
 (gq (0≤Br)
 (gq (Br < (a0.Links.length:Int))
 (jb (.cn (((a0.Links.getD (Int.toNat Br) default).From).toList == a1.toList)
 (.gq (0≤Br)
 (.gq (Br < (a0.Links.length:Int))
 (.lf (((a0.Links.getD (Int.toNat Br) default).To).toList == a2.toList))))
 (.lf false)) (fun b1=>
 (cn b1
 (gq (0≤Br)
 (gq (Br < (a0.Links.length:Int))
 (lf (0,(((a0.Links.getD (Int.toNat Br) default).Delay),true,Br)))))
 (rec Am Ah (Da (Br+1))))))))
 (lf (1,Am,Ah,Br)))
def Q0(L:Nat)(a1:ByteArray)(a2:ByteArray)(a0:Ad):Nat→Int→Bool→Int→Option (Nat×Tu6)
 |0,_,_,_=>none
 |n+1,Am,Ah,Br=>Aex L a1 a2 a0 (Q0 L a1 a2 a0 n) Am Ah Br
theorem Bzd(a1:ByteArray)(a2:ByteArray)(a0:Ad):LP (EV (B2d L) L 9 Cdm.u.l.u.l.l) [0,1,2,3,6,7,8] [3] (Bmt a1 a2 a0) [.ret,.exit 0] (fun n v=>Q0 L a1 a2 a0 n v.1 v.2.1 v.2.2) K:=lE (fun _=>rfl) fun n v ih=>eE (Aex L a1 a2 a0 (fun Am Ah Br=>re (ih (Am,Ah,Br))) v.1 v.2.1 v.2.2)
def Yy [An A v6](L:Nat)(o2:Nat×Tu6):A:=
 (sl o2.1 [(lf (o2.2.1,o2.2.2.1)),
 (lf (0,false))])
def Bkp:Be:=(Ay 0 (Bl (EV (B2d L) L 9 Cdm.u.r) (C8 Tryz.prog (RS Tryz.f193) kk)))
theorem B86(a1:ByteArray)(a2:ByteArray)(a0:Ad)(o2:Nat×Tu6):kX [.ret,.exit 0] (Bmt a1 a2 a0) (Bkp L kk) o2=ob (Yy L o2) (Cew kk):=eE (Yy L o2)
def Afb [An A v6](L:Nat)(a0:Ad)(a1:ByteArray)(a2:ByteArray)(nx1:A):A:=
 nx1
def A2k [An A v6](a0:Ad)(a1:ByteArray)(a2:ByteArray):A:=Afb L a0 a1 a2 (bd (Q0 L a1 a2 a0 L 0 false 0) fun o2=>Yy L o2)
def Amz(a0:Ad)(a1:ByteArray)(a2:ByteArray):Option v6:=A2k L a0 a1 a2
def Cb2:Gk:=E3 (fun(x:v6)=> .tup [I x.1,B x.2]) 193 D1 cS cS (Amz L) fun a0 a1 a2 r h=>hF Tryz.func193 (C:=B2d L) (oS _) L (fun kk=>eE (Afb L a0 a1 a2 (ho (Bzd L (Bkp L kk) a1 a2 a0 L (0,false,0)) fun o2=>B86 L kk a1 a2 a0 o2))) h
def Apv [An A Int](a0:Ad)(a1:Aq)(a2:Ac):A:=
 (cn (a2.Op == 14)
 (bd (Qu L a1.Site a2.Name) fun r1=>
 (cn (decide (r1 < 0))
 (lf 5)
 (gq (0≤r1)
 (gq (r1 < (a1.Site.Routines.length:Int))
 (bd (Ack L a1 (Ac.cp a2) ((a1.Site.Routines.getD (Int.toNat r1) default).Params)) fun r2=>
 (lf r2))))))
 (bd (Vd L a0 a2.Of) fun r3=>
 (cn (decide (r3 < 0))
 (lf 5)
 (gq (0≤r3)
 (gq (r3 < (a0.Sites.length:Int))
 (bd (Qu L (a0.Sites.getD (Int.toNat r3) default) a2.Name) fun r4=>
 (cn (decide (r4 < 0))
 (lf 5)
 (bd (Amz L a0 a1.Site.Name a2.Of) fun r5=>
 (cn (!r5.2)
 (lf 16)
 (gq (0≤r3)
 (gq (r3 < (a0.Sites.length:Int))
 (gq (0≤r3)
 (gq (r3 < (a0.Sites.length:Int))
 (bd (Qu L (a0.Sites.getD (Int.toNat r3) default) a2.Name) fun r6=>
 (gq (0≤r6)
 (gq (r6 < ((((a0.Sites.getD (Int.toNat r3) default).Routines).length:Nat):Int))
 (bd (Ack L a1 (Ac.cp a2) ((((a0.Sites.getD (Int.toNat r3) default).Routines).getD (Int.toNat r6) default).Params)) fun r7=>
 (lf r7))))))))))))))))))
def Ajl(a0:Ad)(a1:Aq)(a2:Ac):Option Int:=Apv L a0 a1 a2
def Cbo:Gk:=E3 I 169 D1 Ew Hj (Ajl L) fun a0 a1 a2 r h=>hF Tryz.func169 (oS [B2h L,B2w L,Cb1 L,Cb2 L]) L (fun kk=>eE (Apv L a0 a1 a2)) h
end Go.Proofs.YtogleahbpobaiaaGreat.Ev
