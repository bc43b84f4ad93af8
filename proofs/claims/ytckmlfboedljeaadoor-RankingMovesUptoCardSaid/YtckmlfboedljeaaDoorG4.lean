import Derived.Test.YtckmlfboedljeaaDoorG1
import Derived.Test.YtckmlfboedljeaaDoorG2
namespace Go.Proofs.YtckmlfboedljeaaDoor.Ev
open Go An
set_option maxRecDepth 100000
set_option maxHeartbeats 4000000
set_option linter.unusedVariables false
set_option linter.unusedSimpArgs false
set_option linter.unnecessarySimpa false
noncomputable section
variable {A:Type} (L n:Nat) (kk:R5) (K:Bu) (k:Tv)
def Ql [An A Ed](a0:List Aa):A:=
 (cn ((a0.length:Int) == 0)
 (lf ((⟨0,0⟩:Aa),false))
 (bd (Lc L a0) fun r1=>
 (cn (!r1.2)
 (lf ((⟨0,0⟩:Aa),false))
 (bd (Lb L r1.1 (⟨(a0.length:Int),1⟩:Aa)) fun r2=>
 (lf (r2.1,r2.2))))))
def Hn(a0:List Aa):Option Ed:=Ql L a0
def X32:Hy:=E1 (fun(x:Ed)=> .tup [.agg (Al x.1),B x.2]) 32 S3 (Hn L) fun a0 r h=>hF Tryd.func32 (oS [X63 L,X64 L]) L (fun kk=>eE (Ql L a0)) h
def c33:=CC Tryd.f33
def c11:=CC Tryd.f11
def O11:Aq:=oL [X32 L,X34 L,X36 L]
def Avj:So→Prop:=fun x=>kk ((fun(x:So)=> .tup [I x.1,B x.2]) x)
def Ap6(a0:List Ab)(v:Tu7):St:=⟨[(0,lv (.t39 a0)),(2,I 0),(3,B false),(4,.mp 13),(9,.any),(10,.any),(11,.any),(12,.any),(14,lv (.t39 a0)),(15,I (a0.length:Int)),(16,I v.1),(34,.any)],[(13,[.mapO false true (.t3 v.2.1) (.t24 v.2.2)])],0⟩
def Jj [An A (Nat×Tu7)](a0:List Ab)(rec:Int→List Int→List Aa→A)(Ar:Int)(Ao:List Int)(Au:List Aa):A:=
 (lw Ar a0
 (bd (Hn L ((a0.getD (Int.toNat Ar) default).Seen)) fun r1=>
 (cn r1.2
 (fq (Ao.findIdx? fun b=>Ar == b) (fun i2=>
 (rec (B1 (Ar+1)) Ao (Au.set i2 r1.1)))
 (rec (B1 (Ar+1)) (Ao++ [Ar]) (Au++ [r1.1])))
 (rec (B1 (Ar+1)) Ao Au)))
 (lf (0,Ar,Ao,Au)))
def Dl(L:Nat)(a0:List Ab):Nat→Int→List Int→List Aa→Option (Nat×Tu7)
 |0,_,_,_=>none
 |n+1,Ar,Ao,Au=>Jj L a0 (Dl L a0 n) Ar Ao Au
theorem Avn(a0:List Ab):LP (EV (O11 L) L 9 c11.w.l.u.l.l) [0,2,3,4,9,10,11,12,14,15,16,34] [13] (Ap6 a0) [.exit 0] (fun n v=>Dl L a0 n v.1 v.2.1 v.2.2) K:=lE (fun _=>rfl) fun n v ih=>eE (Jj L a0 (fun Ar Ao Au=>re (ih (Ar,Ao,Au))) v.1 v.2.1 v.2.2)
def Ap7(a0:List Ab)(v:Tu7):St:=⟨[(0,lv (.t39 a0)),(2,I 0),(3,B false),(4,.mp 13),(5,.any),(6,.any),(7,.any),(8,.any),(11,.any),(12,.any),(16,.any),(32,lv (.t39 a0)),(33,I (a0.length:Int)),(34,I v.1)],[(13,[.mapO false true (.t3 v.2.1) (.t24 v.2.2)])],0⟩
def Jk [An A (Nat×Tu7)](L:Nat)(a0:List Ab)(rec:Int→List Int→List Aa→A)(Aae:Int)(C1:List Int)(Cw:List Aa):A:=
 (lw Aae a0
 (cn ((a0.getD (Int.toNat Aae) default).Out != 0)
 (fq (C1.findIdx? fun b=>Aae == b) (fun i4=>
 (rec (B1 (Aae+1)) ((C1.take i4).drop 0++(C1.take C1.length).drop (i4+1)) ((Cw.take i4).drop 0++(Cw.take Cw.length).drop (i4+1))))
 (rec (B1 (Aae+1)) C1 Cw))
 (rec (B1 (Aae+1)) C1 Cw))
 (lf (0,Aae,C1,Cw)))
def Dm(L:Nat)(a0:List Ab):Nat→Int→List Int→List Aa→Option (Nat×Tu7)
 |0,_,_,_=>none
 |n+1,Aae,C1,Cw=>Jk L a0 (Dm L a0 n) Aae C1 Cw
theorem Avo(a0:List Ab):LP (EV (O11 L) L 9 c11.w.u.l.u.l.l) [0,2,3,4,5,6,7,8,11,12,16,32,33,34] [13] (Ap7 a0) [.exit 2] (fun n v=>Dm L a0 n v.1 v.2.1 v.2.2) K:=lE (fun _=>rfl) fun n v ih=>eE (Jk L a0 (fun Aae C1 Cw=>re (ih (Aae,C1,Cw))) v.1 v.2.1 v.2.2)
def Ap8(r6:List Int)(o5:Nat×Tu7)(v:Re):St:=⟨[(0,.any),(1,.mp 13),(2,.clo 35 0 []),(6,I 0),(7,B false),(8,I v.1),(9,B v.2.1),(14,lv (.t3 r6)),(15,I (r6.length:Int)),(16,I v.2.2)],[(13,[.mapO false true (.t3 o5.2.2.1) (.t24 o5.2.2.2)])],14⟩
def Jl [An A (Nat×Re)](r6:List Int)(o5:Nat×Tu7)(rec:Int→Bool→Int→A)(Eo:Int)(Ep:Bool)(Et:Int):A:=
 (lw Et r6
 (fq (o5.2.2.1.findIdx? fun b=>(r6.getD (Int.toNat Et) default) == b) (fun i7=>
 (cn (!Ep)
 (nq (rec (r6.getD (Int.toNat Et) default) true (B1 (Et+1))))
 (fq (o5.2.2.1.findIdx? fun b=>Eo == b) (fun i8=>
 (bd (Cl L (o5.2.2.2.getD i7 default) (o5.2.2.2.getD i8 default)) fun r9=>
 (nq (cn (decide (r9 < 0))
 (rec (r6.getD (Int.toNat Et) default) true (B1 (Et+1)))
 (rec Eo Ep (B1 (Et+1)))))))
 (bd (Cl L (o5.2.2.2.getD i7 default) (⟨0,0⟩:Aa)) fun r10=>
 (nq (cn (decide (r10 < 0))
 (rec (r6.getD (Int.toNat Et) default) true (B1 (Et+1)))
 (rec Eo Ep (B1 (Et+1)))))))))
 (nq (rec Eo Ep (B1 (Et+1)))))
 (lf (0,Eo,Ep,Et)))
def Dn(L:Nat)(r6:List Int)(o5:Nat×Tu7):Nat→Int→Bool→Int→Option (Nat×Re)
 |0,_,_,_=>none
 |n+1,Eo,Ep,Et=>Jl L r6 o5 (Dn L r6 o5 n) Eo Ep Et
theorem Avp(r6:List Int)(o5:Nat×Tu7):LP (EV (O11 L) L 8 c33.w.l.u.l.l) [0,1,2,6,7,8,9,14,15,16] [13] (Ap8 r6 o5) [.exit 0] (fun n v=>Dn L r6 o5 n v.1 v.2.1 v.2.2) K:=lE (fun _=>rfl) fun n v ih=>eE (Jl L r6 o5 (fun Eo Ep Et=>re (ih (Eo,Ep,Et))) v.1 v.2.1 v.2.2)
def Gn [An A So](L:Nat)(a0:List Ab)(o11:Nat×Re):A:=
 (sl o11.1 [(cn (!o11.2.2.1)
 (lf (0,false))
 (gi o11.2.1 a0
 (lf ((a0.getD (Int.toNat o11.2.1) default).Point,true))))])
def Any(r6:List Int)(a0:List Ab)(o5:Nat×Tu7):Bu:=(Bi 0 (Ek (EV (O11 L) L 8 c33.w.r) (Xn Tryd.prog (RS Tryd.f33) (Wl Tryd.prog (O11 L) (EI (O11 L) L 9) 5 (List.drop 5 c11.x.l.ops) ⟨[(49,.mp 13),(48,lv (.t3 r6)),(47,I (a0.length:Int)),(46,lv (.t39 a0)),(0,lv (.t39 a0)),(2,I 0),(3,B false),(4,.mp 13)],[(13,[.mapO false true (.t3 o5.2.2.1) (.t24 o5.2.2.2)])],0⟩ (some 50) (fun st9=>(Ek (EV (O11 L) L 9 c11.x.r) (Gv Tryd.prog (RS Tryd.f11) kk)) .normal st9)))))
theorem Ayi(r6:List Int)(o5:Nat×Tu7)(a0:List Ab)(o11:Nat×Re):kX [.exit 0] (Ap8 r6 o5) (Any L kk r6 a0 o5) o11=ob (Gn L a0 o11) (Avj kk):=eE (Gn L a0 o11)
def Jp [An A So](a0:List Ab)(o5:Nat×Tu7)(nx3:(List Int)→(Nat×Tu7)→A):A:=
 (sl o5.1 [(bd (Cy L (a0.length:Int)) fun r6=>
 (nx3 r6 o5))])
def Jn [An A So](a0:List Ab)(o5:Nat×Tu7):A:=Jp L a0 o5 (fun r6 o5=>bd (Dn L r6 o5 L 0 false 0) fun o11=>Gn L a0 o11)
def Anx:Bu:=(Bi 2 (Ek (EV (O11 L) L 9 c11.w.u.r) (Gv Tryd.prog (RS Tryd.f11) kk)))
theorem Ayh(a0:List Ab)(o5:Nat×Tu7):kX [.exit 2] (Ap7 a0) (Anx L kk) o5=ob (Jn L a0 o5) (Avj kk):=eE (Jp L a0 o5 (fun r6 o5=>ho (Avp L (Any L kk r6 a0 o5) r6 o5 L (0,false,0)) fun o11=>Ayi L kk r6 o5 a0 o11))
def Jo [An A So](L:Nat)(a0:List Ab)(o3:Nat×Tu7)(nx2:(Nat×Tu7)→A):A:=
 (sl o3.1 [(nx2 o3)])
def Jm [An A So](a0:List Ab)(o3:Nat×Tu7):A:=Jo L a0 o3 (fun o3=>bd (Dm L a0 L 0 o3.2.2.1 o3.2.2.2) fun o5=>Jn L a0 o5)
def Anw:Bu:=(Bi 0 (Ek (EV (O11 L) L 9 c11.w.r) (Gv Tryd.prog (RS Tryd.f11) kk)))
theorem Ayg(a0:List Ab)(o3:Nat×Tu7):kX [.exit 0] (Ap6 a0) (Anw L kk) o3=ob (Jm L a0 o3) (Avj kk):=eE (Jo L a0 o3 (fun o3=>ho (Avo L (Anx L kk) a0 L (0,o3.2.2.1,o3.2.2.2)) fun o5=>Ayh L kk a0 o5))
def Ub [An A So](a0:List Ab):A:=(bd (Dl L a0 L 0 [] []) fun o3=>Jm L a0 o3)
def Hm(a0:List Ab):Option So:=Ub L a0
def X11:Hy:=E1 (fun(x:So)=> .tup [I x.1,B x.2]) 11 Acn (Hm L) fun a0 r h=>hF Tryd.func11 (C:=O11 L) (oS _) L (fun kk=>eE ((ho (Avn L (Anw L kk) a0 L (0,[],[])) fun o3=>Ayg L kk a0 o3))) h
end
end Go.Proofs.YtckmlfboedljeaaDoor.Ev
