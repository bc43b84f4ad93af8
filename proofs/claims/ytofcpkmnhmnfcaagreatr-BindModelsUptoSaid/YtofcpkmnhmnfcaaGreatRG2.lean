import Derived.Test.YtofcpkmnhmnfcaaGreatRG0
namespace Go.Proofs.YtofcpkmnhmnfcaaGreatR.Ev
open Go An
set_option maxRecDepth 100000
set_option maxHeartbeats 4000000
set_option linter.unusedVariables false
set_option linter.unusedSimpArgs false
set_option linter.unnecessarySimpa false
noncomputable section
variable {A:Type} (L n:Nat) (kk:Cz) (K:Ba) (k:Bq)
def B0r(F:Ab→Option Int):Prop:=∀y0 r,F y0=some r→Ho Tryz.prog 41 [Bj.en y0] I r
def c41:=CC Tryz.f41
def O41(Jk:Ab→Option Int)(L:Nat):Bd:=(orc 41 (A1 I Bj Jk) (oL []))
theorem s41(Jk:Ab→Option Int)(Cbo:B0r Jk)(L:Nat):Dv Tryz.prog (O41 Jk L):=(D4 (a1 _ Cbo) (oS []))
def Byq(a0:Ab)(v:Cs):St:=⟨[(0,.any),(1,.loc 1 0),(2,I 0),(3,I v.1),(4,I v.2)],[(1,(F3 a0))],0⟩
def Adv [An A Cm](Jk:Ab→Option Int)(L:Nat)(a0:Ab)(rec:Int→Int→A)(Ai:Int)(Ak:Int):A:=
 (lw Ak a0.Kids
 (bd (Jk (Ab.cp (a0.Kids.getD (Int.toNat Ak) default))) fun r1=>
 (rec (B7 (Ai+r1)) (B7 (Ak+1))))
 (lf (0,Ai,Ak)))
def Qb(Jk:Ab→Option Int)(L:Nat)(a0:Ab):Nat→Int→Int→Option Cm
 |0,_,_=>none
 |n+1,Ai,Ak=>Adv Jk L a0 (Qb Jk L a0 n) Ai Ak
theorem Cc0(Jk:Ab→Option Int)(L:Nat)(K:Ba)(a0:Ab):LP (EV (O41 Jk L) L 9 c41.w.l.u.l.l) [0,1,2,3,4] [1] (Byq a0) [.exit 0] (fun n v=>Qb Jk L a0 n v.1 v.2) K:=lE (fun _=>rfl) fun n v ih=>eE (Adv Jk L a0 (fun Ai Ak=>re (ih (Ai,Ak))) v.1 v.2)
def Zi [An A Int](Jk:Ab→Option Int)(L:Nat)(o2:Nat×Cs):A:=
 (sl o2.1 [(lf o2.2.1)])
def Bwm(Jk:Ab→Option Int)(L:Nat)(kk:Cz):Ba:=(Av 0 (Be (EV (O41 Jk L) L 9 c41.w.r) (Cp Tryz.prog (RS Tryz.f41) kk)))
theorem Cm2(Jk:Ab→Option Int)(L:Nat)(kk:Cz)(a0:Ab)(o2:Nat×Cs):kX [.exit 0] (Byq a0) (Bwm Jk L kk) o2=ob (Zi Jk L o2) (kQ I kk):=eE (Zi Jk L o2)
def A2p [An A Int](Jk:Ab→Option Int)(L:Nat)(a0:Ab):A:=(bd (Qb Jk L a0 L 1 0) fun o2=>Zi Jk L o2)
def As3(Jk:Ab→Option Int)(L:Nat)(a0:Ab):Option Int:=A2p Jk L a0
theorem b41(Jk:Ab→Option Int)(Cbo:B0r Jk)(L:Nat):B0r (As3 Jk L):=fun a0 r h=>hF Tryz.func41 (s41 Jk Cbo L) L (fun kk=>eE ((ho (Cc0 Jk L (Bwm Jk L kk) a0 L (1,0)) fun o2=>Cm2 Jk L kk a0 o2))) h
def Gp:Nat→Ab→Option Int
 |0,_=>none
 |L+1,a0=>As3 (Gp L) L a0
theorem Cbj(L:Nat):B0r (Gp L):=by
 induction L with
 |zero=>exact fun _ _ h=>(by cases h)
 |succ L ih=>
  have i41:=ih
  exact b41 (Gp L) i41 L
def X41(L:Nat):F7:=E1 I 41 Bj (Gp L) (Cbj L)
def B0q(F:(List Ad)→Option Int):Prop:=∀y0 r,F y0=some r→Ho Tryz.prog 17 [Xe.en y0] I r
def c17:=CC Tryz.f17
def O17(C1:(List Ad)→Option Int)(L:Nat):Bd:=(orc 17 (A1 I Xe C1) (oL [X41 L]))
theorem s17(C1:(List Ad)→Option Int)(Cbn:B0q C1)(L:Nat):Dv Tryz.prog (O17 C1 L):=(D4 (a1 _ Cbn) (oS [X41 L]))
def Byg(a0:List Ad)(Aj:Int)(v:Cs):St:=⟨[(0,lv (.t96 a0)),(2,I 0),(3,I v.1),(4,I Aj),(5,.loc 5 0),(6,I v.2)],[(5,(Ej (a0.getD (Int.toNat Aj) default)))],0⟩
def Ah6 [An A Cm](C1:(List Ad)→Option Int)(L:Nat)(a0:List Ad)(Aj:Int)(rec:Int→Int→A)(Gh:Int)(Ub:Int):A:=
 (lw Ub ((a0.getD (Int.toNat Aj) default).Args)
 (bd (Gp L (Ab.cp (((a0.getD (Int.toNat Aj) default).Args).getD (Int.toNat Ub) default))) fun r5=>
 (rec (B7 (Gh+r5)) (B7 (Ub+1))))
 (lf (0,Gh,Ub)))
def O7(C1:(List Ad)→Option Int)(L:Nat)(a0:List Ad)(Aj:Int):Nat→Int→Int→Option Cm
 |0,_,_=>none
 |n+1,Gh,Ub=>Ah6 C1 L a0 Aj (O7 C1 L a0 Aj n) Gh Ub
theorem Ccn(C1:(List Ad)→Option Int)(L:Nat)(K:Ba)(a0:List Ad)(Aj:Int):LP (EV (O17 C1 L) L 9 c17.w.l.u.l.l.u.l.l.w.u.l.l) [0,2,3,4,5,6] [5] (Byg a0 Aj) [.exit 2] (fun n v=>O7 C1 L a0 Aj n v.1 v.2) K:=lE (fun _=>rfl) fun n v ih=>eE (Ah6 C1 L a0 Aj (fun Gh Ub=>re (ih (Gh,Ub))) v.1 v.2)
def Bkv(a0:List Ad)(v:Cs):St:=⟨[(0,lv (.t96 a0)),(2,I 0),(3,I v.1),(4,I v.2)],[],0⟩
def Aax [An A Cm](C1:(List Ad)→Option Int)(L:Nat)(Aj:Int)(rec:Int→Int→A)(o6:Nat×Cs):A:=
 (sl o6.1 [(rec o6.2.1 (B7 (Aj+1)))])
def Air [An A Cm](C1:(List Ad)→Option Int)(L:Nat)(a0:List Ad)(rec:Int→Int→A)(Ak:Int)(Aj:Int)(nx1:Int→Int→Int→Int→Int→Int→A):A:=
 (lw Aj a0
 (bd (Gp L (Ab.cp ((a0.getD (Int.toNat Aj) default).E))) fun r1=>
 (bd (Gp L (Ab.cp ((a0.getD (Int.toNat Aj) default).F))) fun r2=>
 (bd (C1 ((a0.getD (Int.toNat Aj) default).Body)) fun r3=>
 (bd (C1 ((a0.getD (Int.toNat Aj) default).Else)) fun r4=>
 (nx1 Aj Ak r1 r2 r3 r4)))))
 (lf (0,Ak,Aj)))
def Aom [An A Cm](C1:(List Ad)→Option Int)(L:Nat)(a0:List Ad)(rec:Int→Int→A)(Ak:Int)(Aj:Int):A:=Air C1 L a0 rec Ak Aj (fun Aj Ak r1 r2 r3 r4=>bd (O7 C1 L a0 Aj L (B7 ((B7 ((B7 ((B7 ((B7 ((B7 ((B7 (Ak+1))+r1))+r2))+((((a0.getD (Int.toNat Aj) default).Dist).Values).length:Int)))+((((a0.getD (Int.toNat Aj) default).Dist).Weights).length:Int)))+r3))+r4)) 0) fun o6=>Aax C1 L Aj rec o6)
def O5(C1:(List Ad)→Option Int)(L:Nat)(a0:List Ad):Nat→Int→Int→Option Cm
 |0,_,_=>none
 |n+1,Ak,Aj=>Aom C1 L a0 (O5 C1 L a0 n) Ak Aj
def Btw(C1:(List Ad)→Option Int)(L:Nat)(n:Nat)(K:Ba)(a0:List Ad):Prop:=LI (EV (O17 C1 L) L 9 c17.w.l.u.l.l) [0,2,3,4] [] (Bkv a0) [.exit 0] (fun n v=>O5 C1 L a0 n v.1 v.2) K n
def Bv6(C1:(List Ad)→Option Int)(L:Nat)(n:Nat)(K:Ba):Ba:=(Av 2 (Av 1 (Be (EV (O17 C1 L) L 9 c17.w.l.u.l.l.u.r) (Hh (Jj (EV (O17 C1 L) L 9 c17.w.l.u.l.l) [0,2,3,4] [] n) [0,2,3,4] [] K))))
theorem Cmm(C1:(List Ad)→Option Int)(L:Nat)(n:Nat)(K:Ba)(a0:List Ad)(Aj:Int)(ih:Btw C1 L n K a0)(o6:Nat×Cs):kX [.exit 2] (Byg a0 Aj) (Bv6 C1 L n K) o6=ob (Aax C1 L Aj (O5 C1 L a0 n) o6) (kX [.exit 0] (Bkv a0) K):=eE (Aax C1 L Aj (fun Ak Aj=>re (ih (Ak,Aj))) o6)
theorem Ccm(C1:(List Ad)→Option Int)(L:Nat)(K:Ba)(a0:List Ad):∀n,Btw C1 L n K a0:=lE (fun _=>rfl) fun n v ih=>eE (Air C1 L a0 (fun Ak Aj=>re (ih (Ak,Aj))) v.1 v.2 (fun Aj Ak r1 r2 r3 r4=>ho (Ccn C1 L (Bv6 C1 L n K) a0 Aj L ((B7 ((B7 ((B7 ((B7 ((B7 ((B7 ((B7 (Ak+1))+r1))+r2))+((((a0.getD (Int.toNat Aj) default).Dist).Values).length:Int)))+((((a0.getD (Int.toNat Aj) default).Dist).Weights).length:Int)))+r3))+r4)),0)) fun o6=>Cmm C1 L n K a0 Aj ih o6))
def Aay [An A Int](C1:(List Ad)→Option Int)(L:Nat)(o7:Nat×Cs):A:=
 (sl o7.1 [(lf o7.2.1)])
def Bv7(C1:(List Ad)→Option Int)(L:Nat)(kk:Cz):Ba:=(Av 0 (Be (EV (O17 C1 L) L 9 c17.w.r) (Cp Tryz.prog (RS Tryz.f17) kk)))
theorem Cmn(C1:(List Ad)→Option Int)(L:Nat)(kk:Cz)(a0:List Ad)(o7:Nat×Cs):kX [.exit 0] (Bkv a0) (Bv7 C1 L kk) o7=ob (Aay C1 L o7) (kQ I kk):=eE (Aay C1 L o7)
def A6t [An A Int](C1:(List Ad)→Option Int)(L:Nat)(a0:List Ad):A:=(bd (O5 C1 L a0 L 0 0) fun o7=>Aay C1 L o7)
def Awo(C1:(List Ad)→Option Int)(L:Nat)(a0:List Ad):Option Int:=A6t C1 L a0
theorem b17(C1:(List Ad)→Option Int)(Cbn:B0q C1)(L:Nat):B0q (Awo C1 L):=fun a0 r h=>hF Tryz.func17 (s17 C1 Cbn L) L (fun kk=>eE ((ho (Ccm C1 L (Bv7 C1 L kk) a0 L (0,0)) fun o7=>Cmn C1 L kk a0 o7))) h
def P4:Nat→(List Ad)→Option Int
 |0,_=>none
 |L+1,a0=>Awo (P4 L) L a0
theorem Cbi(L:Nat):B0q (P4 L):=by
 induction L with
 |zero=>exact fun _ _ h=>(by cases h)
 |succ L ih=>
  have i17:=ih
  exact b17 (P4 L) i17 L
def X17(L:Nat):F7:=E1 I 17 Xe (P4 L) (Cbi L)
end
end Go.Proofs.YtofcpkmnhmnfcaaGreatR.Ev
