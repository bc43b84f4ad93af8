import Derived.Test.YtogleahbpobaiaaGreatG0
namespace Go.Proofs.YtogleahbpobaiaaGreat.Ev
open Go An
set_option maxRecDepth 100000
set_option maxHeartbeats 4000000
set_option linter.unusedVariables false
set_option linter.unusedSimpArgs false
set_option linter.unnecessarySimpa false
variable {A:Type} (L n:Nat) (kk:Ct) (K:Be) (k:Bx)
def Bvd(F:(List Ac)→Option Int):Prop:=∀y0 r,F y0=some r→Ho Tryz.prog 23 [Acb.en y0] I r
noncomputable def c23:EC:=CC Tryz.f23
def O23(Gz:(List Ac)→Option Int)(L:Nat):Bk:=(orc 23 (A1 I Acb Gz) (oL []))
theorem s23(Gz:(List Ac)→Option Int)(B42:Bvd Gz)(L:Nat):Ep Tryz.prog (O23 Gz L):=(Gx (a1 _ B42) (oS []))
def Cjz(kk:Ct):Int→Prop:=fun x=>kk (I x)
def Bti(a0:List Ac)(v:Cw):St:=⟨[(0,.lst false (.t69 a0)),(2,I 0),(3,I v.1),(4,I v.2)],[],0⟩
def Aaa [An A Cx](Gz:(List Ac)→Option Int)(L:Nat)(a0:List Ac)(rec:Int→Int→A)(Am:Int)(Ah:Int):A:=
 (cn (decide (Ah < (a0.length:Int)))
 (gq (0≤Ah)
 (gq (Ah < (a0.length:Int))
 (bd (Gz ((a0.getD (Int.toNat Ah) default).Body)) fun r1=>
 (gq (0≤Ah)
 (gq (Ah < (a0.length:Int))
 (bd (Gz ((a0.getD (Int.toNat Ah) default).Else)) fun r2=>
 (rec (Da ((Da ((Da (Am+1))+r1))+r2)) (Da (Ah+1)))))))))
 (lf (0,Am,Ah)))
def N8(Gz:(List Ac)→Option Int)(L:Nat)(a0:List Ac):Nat→Int→Int→Option Cx
 |0,_,_=>none
 |n+1,Am,Ah=>Aaa Gz L a0 (N8 Gz L a0 n) Am Ah
theorem B6e(Gz:(List Ac)→Option Int)(L:Nat)(K:Be)(a0:List Ac):LP (EV (O23 Gz L) L 9 c23.w.l.u.l.l) [0,2,3,4] [] (Bti a0) [.exit 0] (fun n v=>N8 Gz L a0 n v.1 v.2) K:=lE (fun _=>rfl) fun n v ih=>eE (Aaa Gz L a0 (fun Am Ah=>re (ih (Am,Ah))) v.1 v.2)
def Vv [An A Int](Gz:(List Ac)→Option Int)(L:Nat)(o3:Nat×Cw):A:=
 (sl o3.1 [(lf o3.2.1)])
def Bq9(Gz:(List Ac)→Option Int)(L:Nat)(kk:Ct):Be:=(Ay 0 (Bl (EV (O23 Gz L) L 9 c23.w.r) (C8 Tryz.prog (RS Tryz.f23) kk)))
theorem Cgn(Gz:(List Ac)→Option Int)(L:Nat)(kk:Ct)(a0:List Ac)(o3:Nat×Cw):kX [.exit 0] (Bti a0) (Bq9 Gz L kk) o3=ob (Vv Gz L o3) (Cjz kk):=eE (Vv Gz L o3)
def Abk [An A Int](Gz:(List Ac)→Option Int)(L:Nat)(a0:List Ac)(nx1:A):A:=
 nx1
def Ayt [An A Int](Gz:(List Ac)→Option Int)(L:Nat)(a0:List Ac):A:=Abk Gz L a0 (bd (N8 Gz L a0 L 0 0) fun o3=>Vv Gz L o3)
def Ao8(Gz:(List Ac)→Option Int)(L:Nat)(a0:List Ac):Option Int:=Ayt Gz L a0
theorem b23(Gz:(List Ac)→Option Int)(B42:Bvd Gz)(L:Nat):Bvd (Ao8 Gz L):=fun a0 r h=>hF Tryz.func23 (s23 Gz B42 L) L (fun kk=>eE (Abk Gz L a0 (ho (B6e Gz L (Bq9 Gz L kk) a0 L (0,0)) fun o3=>Cgn Gz L kk a0 o3))) h
def Ii:Nat→(List Ac)→Option Int
 |0,_=>none
 |L+1,a0=>Ao8 (Ii L) L a0
theorem B4o(L:Nat):Bvd (Ii L):=by
 induction L with
 |zero=>exact fun _ _ h=>(by cases h)
 |succ L ih=>
  have i23:=ih
  exact b23 (Ii L) i23 L
def X23(L:Nat):Gk:=E1 I 23 Acb (Ii L) (B4o L)
end Go.Proofs.YtogleahbpobaiaaGreat.Ev
