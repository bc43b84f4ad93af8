import Derived.Test.YtfencmicmnhglaaGreatG0
namespace Go.Proofs.YtfencmicmnhglaaGreat.Ev
open Go An
set_option maxRecDepth 100000
set_option maxHeartbeats 4000000
set_option linter.unusedVariables false
set_option linter.unusedSimpArgs false
set_option linter.unnecessarySimpa false
noncomputable section
variable {A:Type} (L n:Nat) (kk:Il) (K:Br) (k:Bn)
def Biv(F:Ab→Option Int):Prop:=∀y0 r,F y0=some r→Ho Tryz.prog 41 [Ct.en y0] I r
def c41:=CC Tryz.f41
def O41(Ik:Ab→Option Int)(L:Nat):Bq:=(orc 41 (A1 I Ct Ik) (oL []))
theorem s41(Ik:Ab→Option Int)(Brm:Biv Ik)(L:Nat):Gd Tryz.prog (O41 Ik L):=(M5 (a1 _ Brm) (oS []))
def Bhn(a0:Ab)(v:D2):St:=⟨[(0,.any),(1,.loc 1 0),(2,I 0),(3,I v.1),(4,I v.2)],[(1,F3 a0)],0⟩
def Yw [An A Ki](Ik:Ab→Option Int)(L:Nat)(a0:Ab)(rec:Int→Int→A)(Ao:Int)(Bc:Int):A:=
 (lw Bc a0.Kids
 (bd (Ik (Ab.cp (a0.Kids.getD (Int.toNat Bc) default))) fun r1=>
 (rec (Dp (Ao+r1)) (Dp (Bc+1))))
 (lf (0,Ao,Bc)))
def Nb(Ik:Ab→Option Int)(L:Nat)(a0:Ab):Nat→Int→Int→Option Ki
 |0,_,_=>none
 |n+1,Ao,Bc=>Yw Ik L a0 (Nb Ik L a0 n) Ao Bc
theorem Bsl(Ik:Ab→Option Int)(L:Nat)(K:Br)(a0:Ab):LP (EV (O41 Ik L) L 9 c41.w.l.u.l.l) [0,1,2,3,4] [1] (Bhn a0) [.exit 0] (fun n v=>Nb Ik L a0 n v.1 v.2) K:=lE (fun _=>rfl) fun n v ih=>eE (Yw Ik L a0 (fun Ao Bc=>re (ih (Ao,Bc))) v.1 v.2)
def T7 [An A Int](Ik:Ab→Option Int)(L:Nat)(o2:Nat×D2):A:=
 (sl o2.1 [(lf o2.2.1)])
def Bf0(Ik:Ab→Option Int)(L:Nat)(kk:Il):Br:=(Ba 0 (Bg (EV (O41 Ik L) L 9 c41.w.r) (Gu Tryz.prog (RS Tryz.f41) kk)))
theorem B1q(Ik:Ab→Option Int)(L:Nat)(kk:Il)(a0:Ab)(o2:Nat×D2):kX [.exit 0] (Bhn a0) (Bf0 Ik L kk) o2=ob (T7 Ik L o2) (kQ I kk):=eE (T7 Ik L o2)
def Aqh [An A Int](Ik:Ab→Option Int)(L:Nat)(a0:Ab):A:=(bd (Nb Ik L a0 L 1 0) fun o2=>T7 Ik L o2)
def Aht(Ik:Ab→Option Int)(L:Nat)(a0:Ab):Option Int:=Aqh Ik L a0
theorem b41(Ik:Ab→Option Int)(Brm:Biv Ik)(L:Nat):Biv (Aht Ik L):=fun a0 r h=>hF Tryz.func41 (s41 Ik Brm L) L (fun kk=>eE ((ho (Bsl Ik L (Bf0 Ik L kk) a0 L (1,0)) fun o2=>B1q Ik L kk a0 o2))) h
def Gi:Nat→Ab→Option Int
 |0,_=>none
 |L+1,a0=>Aht (Gi L) L a0
theorem Brj(L:Nat):Biv (Gi L):=by
 induction L with
 |zero=>exact fun _ _ h=>(by cases h)
 |succ L ih=>
  have i41:=ih
  exact b41 (Gi L) i41 L
def X41(L:Nat):N2:=E1 I 41 Ct (Gi L) (Brj L)
def Biu(F:(List Ac)→Option Int):Prop:=∀y0 r,F y0=some r→Ho Tryz.prog 16 [Aib.en y0] I r
def c16:=CC Tryz.f16
def O16(Cx:(List Ac)→Option Int)(L:Nat):Bq:=(orc 16 (A1 I Aib Cx) (oL [X41 L]))
theorem s16(Cx:(List Ac)→Option Int)(Brl:Biu Cx)(L:Nat):Gd Tryz.prog (O16 Cx L):=(M5 (a1 _ Brl) (oS [X41 L]))
def Bhi(a0:List Ac)(Al:Int)(v:D2):St:=⟨[(0,lv (.t99 a0)),(2,I 0),(3,I v.1),(4,I Al),(5,.loc 5 0),(6,I v.2)],[(5,(Eo (a0.getD (Int.toNat Al) default)))],0⟩
def v7 [An A Ki](Cx:(List Ac)→Option Int)(L:Nat)(a0:List Ac)(Al:Int)(rec:Int→Int→A)(S2:Int)(Agu:Int):A:=
 (lw Agu ((a0.getD (Int.toNat Al) default).Args)
 (bd (Gi L (Ab.cp (((a0.getD (Int.toNat Al) default).Args).getD (Int.toNat Agu) default))) fun r5=>
 (rec (Dp (S2+r5)) (Dp (Agu+1))))
 (lf (0,S2,Agu)))
def Ms(Cx:(List Ac)→Option Int)(L:Nat)(a0:List Ac)(Al:Int):Nat→Int→Int→Option Ki
 |0,_,_=>none
 |n+1,S2,Agu=>v7 Cx L a0 Al (Ms Cx L a0 Al n) S2 Agu
theorem Bsf(Cx:(List Ac)→Option Int)(L:Nat)(K:Br)(a0:List Ac)(Al:Int):LP (EV (O16 Cx L) L 9 c16.w.l.u.l.l.u.l.l.w.u.l.l) [0,2,3,4,5,6] [5] (Bhi a0 Al) [.exit 2] (fun n v=>Ms Cx L a0 Al n v.1 v.2) K:=lE (fun _=>rfl) fun n v ih=>eE (v7 Cx L a0 Al (fun S2 Agu=>re (ih (S2,Agu))) v.1 v.2)
def A5k(a0:List Ac)(v:D2):St:=⟨[(0,lv (.t99 a0)),(2,I 0),(3,I v.1),(4,I v.2)],[],0⟩
def Wf [An A Ki](Cx:(List Ac)→Option Int)(L:Nat)(Al:Int)(rec:Int→Int→A)(o6:Nat×D2):A:=
 (sl o6.1 [(rec o6.2.1 (Dp (Al+1)))])
def w4 [An A Ki](Cx:(List Ac)→Option Int)(L:Nat)(a0:List Ac)(rec:Int→Int→A)(Bc:Int)(Al:Int)(nx1:Int→Int→Int→Int→Int→Int→A):A:=
 (lw Al a0
 (bd (Gi L (Ab.cp ((a0.getD (Int.toNat Al) default).E))) fun r1=>
 (bd (Gi L (Ab.cp ((a0.getD (Int.toNat Al) default).F))) fun r2=>
 (bd (Cx ((a0.getD (Int.toNat Al) default).Body)) fun r3=>
 (bd (Cx ((a0.getD (Int.toNat Al) default).Else)) fun r4=>
 (nx1 Al Bc r1 r2 r3 r4)))))
 (lf (0,Bc,Al)))
def Ady [An A Ki](Cx:(List Ac)→Option Int)(L:Nat)(a0:List Ac)(rec:Int→Int→A)(Bc:Int)(Al:Int):A:=w4 Cx L a0 rec Bc Al (fun Al Bc r1 r2 r3 r4=>bd (Ms Cx L a0 Al L (Dp ((Dp ((Dp ((Dp ((Dp ((Dp ((Dp (Bc+1))+r1))+r2))+((((a0.getD (Int.toNat Al) default).Dist).Values).length:Int)))+((((a0.getD (Int.toNat Al) default).Dist).Weights).length:Int)))+r3))+r4)) 0) fun o6=>Wf Cx L Al rec o6)
def Mr(Cx:(List Ac)→Option Int)(L:Nat)(a0:List Ac):Nat→Int→Int→Option Ki
 |0,_,_=>none
 |n+1,Bc,Al=>Ady Cx L a0 (Mr Cx L a0 n) Bc Al
def Bc9(Cx:(List Ac)→Option Int)(L:Nat)(n:Nat)(K:Br)(a0:List Ac):Prop:=LI (EV (O16 Cx L) L 9 c16.w.l.u.l.l) [0,2,3,4] [] (A5k a0) [.exit 0] (fun n v=>Mr Cx L a0 n v.1 v.2) K n
def Bfs(Cx:(List Ac)→Option Int)(L:Nat)(n:Nat)(K:Br):Br:=(Ba 2 (Ba 1 (Bg (EV (O16 Cx L) L 9 c16.w.l.u.l.l.u.r) (Ii (Kw (EV (O16 Cx L) L 9 c16.w.l.u.l.l) [0,2,3,4] [] n) [0,2,3,4] [] K))))
theorem B1i(Cx:(List Ac)→Option Int)(L:Nat)(n:Nat)(K:Br)(a0:List Ac)(Al:Int)(ih:Bc9 Cx L n K a0)(o6:Nat×D2):kX [.exit 2] (Bhi a0 Al) (Bfs Cx L n K) o6=ob (Wf Cx L Al (Mr Cx L a0 n) o6) (kX [.exit 0] (A5k a0) K):=eE (Wf Cx L Al (fun Bc Al=>re (ih (Bc,Al))) o6)
theorem Bse(Cx:(List Ac)→Option Int)(L:Nat)(K:Br)(a0:List Ac):∀n,Bc9 Cx L n K a0:=lE (fun _=>rfl) fun n v ih=>eE (w4 Cx L a0 (fun Bc Al=>re (ih (Bc,Al))) v.1 v.2 (fun Al Bc r1 r2 r3 r4=>ho (Bsf Cx L (Bfs Cx L n K) a0 Al L ((Dp ((Dp ((Dp ((Dp ((Dp ((Dp ((Dp (Bc+1))+r1))+r2))+((((a0.getD (Int.toNat Al) default).Dist).Values).length:Int)))+((((a0.getD (Int.toNat Al) default).Dist).Weights).length:Int)))+r3))+r4)),0)) fun o6=>B1i Cx L n K a0 Al ih o6))
def Wg [An A Int](Cx:(List Ac)→Option Int)(L:Nat)(o7:Nat×D2):A:=
 (sl o7.1 [(lf o7.2.1)])
def Bft(Cx:(List Ac)→Option Int)(L:Nat)(kk:Il):Br:=(Ba 0 (Bg (EV (O16 Cx L) L 9 c16.w.r) (Gu Tryz.prog (RS Tryz.f16) kk)))
theorem B1j(Cx:(List Ac)→Option Int)(L:Nat)(kk:Il)(a0:List Ac)(o7:Nat×D2):kX [.exit 0] (A5k a0) (Bft Cx L kk) o7=ob (Wg Cx L o7) (kQ I kk):=eE (Wg Cx L o7)
def As4 [An A Int](Cx:(List Ac)→Option Int)(L:Nat)(a0:List Ac):A:=(bd (Mr Cx L a0 L 0 0) fun o7=>Wg Cx L o7)
def Akx(Cx:(List Ac)→Option Int)(L:Nat)(a0:List Ac):Option Int:=As4 Cx L a0
theorem b16(Cx:(List Ac)→Option Int)(Brl:Biu Cx)(L:Nat):Biu (Akx Cx L):=fun a0 r h=>hF Tryz.func16 (s16 Cx Brl L) L (fun kk=>eE ((ho (Bse Cx L (Bft Cx L kk) a0 L (0,0)) fun o7=>B1j Cx L kk a0 o7))) h
def Px:Nat→(List Ac)→Option Int
 |0,_=>none
 |L+1,a0=>Akx (Px L) L a0
theorem Bri(L:Nat):Biu (Px L):=by
 induction L with
 |zero=>exact fun _ _ h=>(by cases h)
 |succ L ih=>
  have i16:=ih
  exact b16 (Px L) i16 L
def X16(L:Nat):N2:=E1 I 16 Aib (Px L) (Bri L)
end
end Go.Proofs.YtfencmicmnhglaaGreat.Ev
