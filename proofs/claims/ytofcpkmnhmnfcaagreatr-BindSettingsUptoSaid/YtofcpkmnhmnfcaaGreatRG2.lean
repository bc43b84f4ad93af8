import Derived.Test.YtofcpkmnhmnfcaaGreatRG0
namespace Go.Proofs.YtofcpkmnhmnfcaaGreatR.Ev
open Go An
set_option maxRecDepth 100000
set_option maxHeartbeats 4000000
set_option linter.unusedVariables false
set_option linter.unusedSimpArgs false
set_option linter.unnecessarySimpa false
noncomputable section
variable {A:Type} (L n:Nat) (kk:Cz) (K:Ax) (k:Bk)
def Buf(F:Ab→Option Int):Prop:=∀y0 r,F y0=some r→Ho Tryz.prog 41 [Bh.en y0] I r
def c41:=CC Tryz.f41
def O41(Iy:Ab→Option Int)(L:Nat):Ba:=(orc 41 (A1 I Bh Iy) (oL []))
theorem s41(Iy:Ab→Option Int)(B5k:Buf Iy)(L:Nat):Dm Tryz.prog (O41 Iy L):=(Dt (a1 _ B5k) (oS []))
def Bsl(a0:Ab)(v:Co):St:=⟨[(0,.any),(1,.loc 1 0),(2,I 0),(3,I v.1),(4,I v.2)],[(1,(Er a0))],0⟩
def f5 [An A B7](Iy:Ab→Option Int)(L:Nat)(a0:Ab)(rec:Int→Int→A)(Aj:Int)(Ak:Int):A:=
 (lw Ak a0.Kids
 (bd (Iy (Ab.cp (a0.Kids.getD (Int.toNat Ak) default))) fun r1=>
 (rec (B6 (Aj+r1)) (B6 (Ak+1))))
 (lf (0,Aj,Ak)))
def N2(Iy:Ab→Option Int)(L:Nat)(a0:Ab):Nat→Int→Int→Option B7
 |0,_,_=>none
 |n+1,Aj,Ak=>f5 Iy L a0 (N2 Iy L a0 n) Aj Ak
theorem B6o(Iy:Ab→Option Int)(L:Nat)(K:Ax)(a0:Ab):LP (EV (O41 Iy L) L 9 c41.w.l.u.l.l) [0,1,2,3,4] [1] (Bsl a0) [.exit 0] (fun n v=>N2 Iy L a0 n v.1 v.2) K:=lE (fun _=>rfl) fun n v ih=>eE (f5 Iy L a0 (fun Aj Ak=>re (ih (Aj,Ak))) v.1 v.2)
def Vm [An A Int](Iy:Ab→Option Int)(L:Nat)(o2:Nat×Co):A:=
 (sl o2.1 [(lf o2.2.1)])
def Bqa(Iy:Ab→Option Int)(L:Nat)(kk:Cz):Ax:=(Av 0 (Bb (EV (O41 Iy L) L 9 c41.w.r) (Cm Tryz.prog (RS Tryz.f41) kk)))
theorem Cgr(Iy:Ab→Option Int)(L:Nat)(kk:Cz)(a0:Ab)(o2:Nat×Co):kX [.exit 0] (Bsl a0) (Bqa Iy L kk) o2=ob (Vm Iy L o2) (kQ I kk):=eE (Vm Iy L o2)
def Ax3 [An A Int](Iy:Ab→Option Int)(L:Nat)(a0:Ab):A:=(bd (N2 Iy L a0 L 1 0) fun o2=>Vm Iy L o2)
def Al9(Iy:Ab→Option Int)(L:Nat)(a0:Ab):Option Int:=Ax3 Iy L a0
theorem b41(Iy:Ab→Option Int)(B5k:Buf Iy)(L:Nat):Buf (Al9 Iy L):=fun a0 r h=>hF Tryz.func41 (s41 Iy B5k L) L (fun kk=>eE ((ho (B6o Iy L (Bqa Iy L kk) a0 L (1,0)) fun o2=>Cgr Iy L kk a0 o2))) h
def F4:Nat→Ab→Option Int
 |0,_=>none
 |L+1,a0=>Al9 (F4 L) L a0
theorem B5f(L:Nat):Buf (F4 L):=by
 induction L with
 |zero=>exact fun _ _ h=>(by cases h)
 |succ L ih=>
  have i41:=ih
  exact b41 (F4 L) i41 L
def X41(L:Nat):Ew:=E1 I 41 Bh (F4 L) (B5f L)
def Bue(F:(List Ad)→Option Int):Prop:=∀y0 r,F y0=some r→Ho Tryz.prog 17 [Tw.en y0] I r
def c17:=CC Tryz.f17
def O17(C1:(List Ad)→Option Int)(L:Nat):Ba:=(orc 17 (A1 I Tw C1) (oL [X41 L]))
theorem s17(C1:(List Ad)→Option Int)(B5j:Bue C1)(L:Nat):Dm Tryz.prog (O17 C1 L):=(Dt (a1 _ B5j) (oS [X41 L]))
def Bsb(a0:List Ad)(Ai:Int)(v:Co):St:=⟨[(0,lv (.t96 a0)),(2,I 0),(3,I v.1),(4,I Ai),(5,.loc 5 0),(6,I v.2)],[(5,(D5 (a0.getD (Int.toNat Ai) default)))],0⟩
def Abl [An A B7](C1:(List Ad)→Option Int)(L:Nat)(a0:List Ad)(Ai:Int)(rec:Int→Int→A)(It:Int)(Ld:Int):A:=
 (lw Ld ((a0.getD (Int.toNat Ai) default).Args)
 (bd (F4 L (Ab.cp (((a0.getD (Int.toNat Ai) default).Args).getD (Int.toNat Ld) default))) fun r5=>
 (rec (B6 (It+r5)) (B6 (Ld+1))))
 (lf (0,It,Ld)))
def Ni(C1:(List Ad)→Option Int)(L:Nat)(a0:List Ad)(Ai:Int):Nat→Int→Int→Option B7
 |0,_,_=>none
 |n+1,It,Ld=>Abl C1 L a0 Ai (Ni C1 L a0 Ai n) It Ld
theorem B6b(C1:(List Ad)→Option Int)(L:Nat)(K:Ax)(a0:List Ad)(Ai:Int):LP (EV (O17 C1 L) L 9 c17.w.l.u.l.l.u.l.l.w.u.l.l) [0,2,3,4,5,6] [5] (Bsb a0 Ai) [.exit 2] (fun n v=>Ni C1 L a0 Ai n v.1 v.2) K:=lE (fun _=>rfl) fun n v ih=>eE (Abl C1 L a0 Ai (fun It Ld=>re (ih (It,Ld))) v.1 v.2)
def Bd9(a0:List Ad)(v:Co):St:=⟨[(0,lv (.t96 a0)),(2,I 0),(3,I v.1),(4,I v.2)],[],0⟩
def Xz [An A B7](C1:(List Ad)→Option Int)(L:Nat)(Ai:Int)(rec:Int→Int→A)(o6:Nat×Co):A:=
 (sl o6.1 [(rec o6.2.1 (B6 (Ai+1)))])
def Abw [An A B7](C1:(List Ad)→Option Int)(L:Nat)(a0:List Ad)(rec:Int→Int→A)(Ak:Int)(Ai:Int)(nx1:Int→Int→Int→Int→Int→Int→A):A:=
 (lw Ai a0
 (bd (F4 L (Ab.cp ((a0.getD (Int.toNat Ai) default).E))) fun r1=>
 (bd (F4 L (Ab.cp ((a0.getD (Int.toNat Ai) default).F))) fun r2=>
 (bd (C1 ((a0.getD (Int.toNat Ai) default).Body)) fun r3=>
 (bd (C1 ((a0.getD (Int.toNat Ai) default).Else)) fun r4=>
 (nx1 Ai Ak r1 r2 r3 r4)))))
 (lf (0,Ak,Ai)))
def Ahw [An A B7](C1:(List Ad)→Option Int)(L:Nat)(a0:List Ad)(rec:Int→Int→A)(Ak:Int)(Ai:Int):A:=Abw C1 L a0 rec Ak Ai (fun Ai Ak r1 r2 r3 r4=>bd (Ni C1 L a0 Ai L (B6 ((B6 ((B6 ((B6 ((B6 ((B6 ((B6 (Ak+1))+r1))+r2))+((((a0.getD (Int.toNat Ai) default).Dist).Values).length:Int)))+((((a0.getD (Int.toNat Ai) default).Dist).Weights).length:Int)))+r3))+r4)) 0) fun o6=>Xz C1 L Ai rec o6)
def Nh(C1:(List Ad)→Option Int)(L:Nat)(a0:List Ad):Nat→Int→Int→Option B7
 |0,_,_=>none
 |n+1,Ak,Ai=>Ahw C1 L a0 (Nh C1 L a0 n) Ak Ai
def Bnd(C1:(List Ad)→Option Int)(L:Nat)(n:Nat)(K:Ax)(a0:List Ad):Prop:=LI (EV (O17 C1 L) L 9 c17.w.l.u.l.l) [0,2,3,4] [] (Bd9 a0) [.exit 0] (fun n v=>Nh C1 L a0 n v.1 v.2) K n
def Bpu(C1:(List Ad)→Option Int)(L:Nat)(n:Nat)(K:Ax):Ax:=(Av 2 (Av 1 (Bb (EV (O17 C1 L) L 9 c17.w.l.u.l.l.u.r) (Gj (Ix (EV (O17 C1 L) L 9 c17.w.l.u.l.l) [0,2,3,4] [] n) [0,2,3,4] [] K))))
theorem Cgb(C1:(List Ad)→Option Int)(L:Nat)(n:Nat)(K:Ax)(a0:List Ad)(Ai:Int)(ih:Bnd C1 L n K a0)(o6:Nat×Co):kX [.exit 2] (Bsb a0 Ai) (Bpu C1 L n K) o6=ob (Xz C1 L Ai (Nh C1 L a0 n) o6) (kX [.exit 0] (Bd9 a0) K):=eE (Xz C1 L Ai (fun Ak Ai=>re (ih (Ak,Ai))) o6)
theorem B6a(C1:(List Ad)→Option Int)(L:Nat)(K:Ax)(a0:List Ad):∀n,Bnd C1 L n K a0:=lE (fun _=>rfl) fun n v ih=>eE (Abw C1 L a0 (fun Ak Ai=>re (ih (Ak,Ai))) v.1 v.2 (fun Ai Ak r1 r2 r3 r4=>ho (B6b C1 L (Bpu C1 L n K) a0 Ai L ((B6 ((B6 ((B6 ((B6 ((B6 ((B6 ((B6 (Ak+1))+r1))+r2))+((((a0.getD (Int.toNat Ai) default).Dist).Values).length:Int)))+((((a0.getD (Int.toNat Ai) default).Dist).Weights).length:Int)))+r3))+r4)),0)) fun o6=>Cgb C1 L n K a0 Ai ih o6))
def X0 [An A Int](C1:(List Ad)→Option Int)(L:Nat)(o7:Nat×Co):A:=
 (sl o7.1 [(lf o7.2.1)])
def Bpv(C1:(List Ad)→Option Int)(L:Nat)(kk:Cz):Ax:=(Av 0 (Bb (EV (O17 C1 L) L 9 c17.w.r) (Cm Tryz.prog (RS Tryz.f17) kk)))
theorem Cgc(C1:(List Ad)→Option Int)(L:Nat)(kk:Cz)(a0:List Ad)(o7:Nat×Co):kX [.exit 0] (Bd9 a0) (Bpv C1 L kk) o7=ob (X0 C1 L o7) (kQ I kk):=eE (X0 C1 L o7)
def A1w [An A Int](C1:(List Ad)→Option Int)(L:Nat)(a0:List Ad):A:=(bd (Nh C1 L a0 L 0 0) fun o7=>X0 C1 L o7)
def Arm(C1:(List Ad)→Option Int)(L:Nat)(a0:List Ad):Option Int:=A1w C1 L a0
theorem b17(C1:(List Ad)→Option Int)(B5j:Bue C1)(L:Nat):Bue (Arm C1 L):=fun a0 r h=>hF Tryz.func17 (s17 C1 B5j L) L (fun kk=>eE ((ho (B6a C1 L (Bpv C1 L kk) a0 L (0,0)) fun o7=>Cgc C1 L kk a0 o7))) h
def Nt:Nat→(List Ad)→Option Int
 |0,_=>none
 |L+1,a0=>Arm (Nt L) L a0
theorem B5e(L:Nat):Bue (Nt L):=by
 induction L with
 |zero=>exact fun _ _ h=>(by cases h)
 |succ L ih=>
  have i17:=ih
  exact b17 (Nt L) i17 L
def X17(L:Nat):Ew:=E1 I 17 Tw (Nt L) (B5e L)
end
end Go.Proofs.YtofcpkmnhmnfcaaGreatR.Ev
