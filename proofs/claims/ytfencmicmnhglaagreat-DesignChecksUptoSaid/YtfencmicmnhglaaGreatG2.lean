import Derived.Test.YtfencmicmnhglaaGreatG0
namespace Go.Proofs.YtfencmicmnhglaaGreat.Ev
open Go An
set_option maxRecDepth 100000
set_option maxHeartbeats 4000000
set_option linter.unusedVariables false
set_option linter.unusedSimpArgs false
set_option linter.unnecessarySimpa false
noncomputable section
variable {A:Type} (L n:Nat) (kk:Dm) (K:Be) (k:Bx)
def Bz4(F:Ab→Option Int):Prop:=∀y0 r,F y0=some r→Ho Tryz.prog 41 [Bu.en y0] I r
def c41:=CC Tryz.f41
def O41(Je:Ab→Option Int)(L:Nat):Bi:=(orc 41 (A1 I Bu Je) (oL []))
theorem s41(Je:Ab→Option Int)(Cbg:Bz4 Je)(L:Nat):Er Tryz.prog (O41 Je L):=(Hk (a1 _ Cbg) (oS []))
def Byi(a0:Ab)(v:Cp):St:=⟨[(0,.any),(1,.loc 1 0),(2,I 0),(3,I v.1),(4,I v.2)],[(1,(Dd a0))],0⟩
def Abw [An A B8](Je:Ab→Option Int)(L:Nat)(a0:Ab)(rec:Int→Int→A)(Ag:Int)(Aj:Int):A:=
 (lw Aj a0.Kids
 (bd (Je (Ab.cp (a0.Kids.getD (Int.toNat Aj) default))) fun r1=>
 (rec (Cq (Ag+r1)) (Cq (Aj+1))))
 (lf (0,Ag,Aj)))
def O1(Je:Ab→Option Int)(L:Nat)(a0:Ab):Nat→Int→Int→Option B8
 |0,_,_=>none
 |n+1,Ag,Aj=>Abw Je L a0 (O1 Je L a0 n) Ag Aj
theorem Ccd(Je:Ab→Option Int)(L:Nat)(K:Be)(a0:Ab):LP (EV (O41 Je L) L 9 c41.w.l.u.l.l) [0,1,2,3,4] [1] (Byi a0) [.exit 0] (fun n v=>O1 Je L a0 n v.1 v.2) K:=lE (fun _=>rfl) fun n v ih=>eE (Abw Je L a0 (fun Ag Aj=>re (ih (Ag,Aj))) v.1 v.2)
def Xi [An A Int](Je:Ab→Option Int)(L:Nat)(o2:Nat×Cp):A:=
 (sl o2.1 [(lf o2.2.1)])
def Bw0(Je:Ab→Option Int)(L:Nat)(kk:Dm):Be:=(Ax 0 (Bk (EV (O41 Je L) L 9 c41.w.r) (C0 Tryz.prog (RS Tryz.f41) kk)))
theorem Cnx(Je:Ab→Option Int)(L:Nat)(kk:Dm)(a0:Ab)(o2:Nat×Cp):kX [.exit 0] (Byi a0) (Bw0 Je L kk) o2=ob (Xi Je L o2) (kQ I kk):=eE (Xi Je L o2)
def A01 [An A Int](Je:Ab→Option Int)(L:Nat)(a0:Ab):A:=(bd (O1 Je L a0 L 1 0) fun o2=>Xi Je L o2)
def Aqz(Je:Ab→Option Int)(L:Nat)(a0:Ab):Option Int:=A01 Je L a0
theorem b41(Je:Ab→Option Int)(Cbg:Bz4 Je)(L:Nat):Bz4 (Aqz Je L):=fun a0 r h=>hF Tryz.func41 (s41 Je Cbg L) L (fun kk=>eE ((ho (Ccd Je L (Bw0 Je L kk) a0 L (1,0)) fun o2=>Cnx Je L kk a0 o2))) h
def Gx:Nat→Ab→Option Int
 |0,_=>none
 |L+1,a0=>Aqz (Gx L) L a0
theorem Cbc(L:Nat):Bz4 (Gx L):=by
 induction L with
 |zero=>exact fun _ _ h=>(by cases h)
 |succ L ih=>
  have i41:=ih
  exact b41 (Gx L) i41 L
def X41(L:Nat):Gh:=E1 I 41 Bu (Gx L) (Cbc L)
def Bz3(F:(List Ac)→Option Int):Prop:=∀y0 r,F y0=some r→Ho Tryz.prog 16 [Aae.en y0] I r
def c16:=CC Tryz.f16
def O16(C4:(List Ac)→Option Int)(L:Nat):Bi:=(orc 16 (A1 I Aae C4) (oL [X41 L]))
theorem s16(C4:(List Ac)→Option Int)(Cbf:Bz3 C4)(L:Nat):Er Tryz.prog (O16 C4 L):=(Hk (a1 _ Cbf) (oS [X41 L]))
def Byc(a0:List Ac)(Ai:Int)(v:Cp):St:=⟨[(0,lv (.t99 a0)),(2,I 0),(3,I v.1),(4,I Ai),(5,.loc 5 0),(6,I v.2)],[(5,(C5 (a0.getD (Int.toNat Ai) default)))],0⟩
def Af5 [An A B8](C4:(List Ac)→Option Int)(L:Nat)(a0:List Ac)(Ai:Int)(rec:Int→Int→A)(Gk:Int)(Yb:Int):A:=
 (lw Yb ((a0.getD (Int.toNat Ai) default).Args)
 (bd (Gx L (Ab.cp (((a0.getD (Int.toNat Ai) default).Args).getD (Int.toNat Yb) default))) fun r5=>
 (rec (Cq (Gk+r5)) (Cq (Yb+1))))
 (lf (0,Gk,Yb)))
def N9(C4:(List Ac)→Option Int)(L:Nat)(a0:List Ac)(Ai:Int):Nat→Int→Int→Option B8
 |0,_,_=>none
 |n+1,Gk,Yb=>Af5 C4 L a0 Ai (N9 C4 L a0 Ai n) Gk Yb
theorem Cb5(C4:(List Ac)→Option Int)(L:Nat)(K:Be)(a0:List Ac)(Ai:Int):LP (EV (O16 C4 L) L 9 c16.w.l.u.l.l.u.l.l.w.u.l.l) [0,2,3,4,5,6] [5] (Byc a0 Ai) [.exit 2] (fun n v=>N9 C4 L a0 Ai n v.1 v.2) K:=lE (fun _=>rfl) fun n v ih=>eE (Af5 C4 L a0 Ai (fun Gk Yb=>re (ih (Gk,Yb))) v.1 v.2)
def Bkt(a0:List Ac)(v:Cp):St:=⟨[(0,lv (.t99 a0)),(2,I 0),(3,I v.1),(4,I v.2)],[],0⟩
def m9 [An A B8](C4:(List Ac)→Option Int)(L:Nat)(Ai:Int)(rec:Int→Int→A)(o6:Nat×Cp):A:=
 (sl o6.1 [(rec o6.2.1 (Cq (Ai+1)))])
def Agl [An A B8](C4:(List Ac)→Option Int)(L:Nat)(a0:List Ac)(rec:Int→Int→A)(Aj:Int)(Ai:Int)(nx1:Int→Int→Int→Int→Int→Int→A):A:=
 (lw Ai a0
 (bd (Gx L (Ab.cp ((a0.getD (Int.toNat Ai) default).E))) fun r1=>
 (bd (Gx L (Ab.cp ((a0.getD (Int.toNat Ai) default).F))) fun r2=>
 (bd (C4 ((a0.getD (Int.toNat Ai) default).Body)) fun r3=>
 (bd (C4 ((a0.getD (Int.toNat Ai) default).Else)) fun r4=>
 (nx1 Ai Aj r1 r2 r3 r4)))))
 (lf (0,Aj,Ai)))
def Amd [An A B8](C4:(List Ac)→Option Int)(L:Nat)(a0:List Ac)(rec:Int→Int→A)(Aj:Int)(Ai:Int):A:=Agl C4 L a0 rec Aj Ai (fun Ai Aj r1 r2 r3 r4=>bd (N9 C4 L a0 Ai L (Cq ((Cq ((Cq ((Cq ((Cq ((Cq ((Cq (Aj+1))+r1))+r2))+((((a0.getD (Int.toNat Ai) default).Dist).Values).length:Int)))+((((a0.getD (Int.toNat Ai) default).Dist).Weights).length:Int)))+r3))+r4)) 0) fun o6=>m9 C4 L Ai rec o6)
def N8(C4:(List Ac)→Option Int)(L:Nat)(a0:List Ac):Nat→Int→Int→Option B8
 |0,_,_=>none
 |n+1,Aj,Ai=>Amd C4 L a0 (N8 C4 L a0 n) Aj Ai
def Bud(C4:(List Ac)→Option Int)(L:Nat)(n:Nat)(K:Be)(a0:List Ac):Prop:=LI (EV (O16 C4 L) L 9 c16.w.l.u.l.l) [0,2,3,4] [] (Bkt a0) [.exit 0] (fun n v=>N8 C4 L a0 n v.1 v.2) K n
def Bwr(C4:(List Ac)→Option Int)(L:Nat)(n:Nat)(K:Be):Be:=(Ax 2 (Ax 1 (Bk (EV (O16 C4 L) L 9 c16.w.l.u.l.l.u.r) (Ir (Lh (EV (O16 C4 L) L 9 c16.w.l.u.l.l) [0,2,3,4] [] n) [0,2,3,4] [] K))))
theorem Cno(C4:(List Ac)→Option Int)(L:Nat)(n:Nat)(K:Be)(a0:List Ac)(Ai:Int)(ih:Bud C4 L n K a0)(o6:Nat×Cp):kX [.exit 2] (Byc a0 Ai) (Bwr C4 L n K) o6=ob (m9 C4 L Ai (N8 C4 L a0 n) o6) (kX [.exit 0] (Bkt a0) K):=eE (m9 C4 L Ai (fun Aj Ai=>re (ih (Aj,Ai))) o6)
theorem Cb4(C4:(List Ac)→Option Int)(L:Nat)(K:Be)(a0:List Ac):∀n,Bud C4 L n K a0:=lE (fun _=>rfl) fun n v ih=>eE (Agl C4 L a0 (fun Aj Ai=>re (ih (Aj,Ai))) v.1 v.2 (fun Ai Aj r1 r2 r3 r4=>ho (Cb5 C4 L (Bwr C4 L n K) a0 Ai L ((Cq ((Cq ((Cq ((Cq ((Cq ((Cq ((Cq (Aj+1))+r1))+r2))+((((a0.getD (Int.toNat Ai) default).Dist).Values).length:Int)))+((((a0.getD (Int.toNat Ai) default).Dist).Weights).length:Int)))+r3))+r4)),0)) fun o6=>Cno C4 L n K a0 Ai ih o6))
def n5 [An A Int](C4:(List Ac)→Option Int)(L:Nat)(o7:Nat×Cp):A:=
 (sl o7.1 [(lf o7.2.1)])
def Bws(C4:(List Ac)→Option Int)(L:Nat)(kk:Dm):Be:=(Ax 0 (Bk (EV (O16 C4 L) L 9 c16.w.r) (C0 Tryz.prog (RS Tryz.f16) kk)))
theorem Cnp(C4:(List Ac)→Option Int)(L:Nat)(kk:Dm)(a0:List Ac)(o7:Nat×Cp):kX [.exit 0] (Bkt a0) (Bws C4 L kk) o7=ob (n5 C4 L o7) (kQ I kk):=eE (n5 C4 L o7)
def A5c [An A Int](C4:(List Ac)→Option Int)(L:Nat)(a0:List Ac):A:=(bd (N8 C4 L a0 L 0 0) fun o7=>n5 C4 L o7)
def Auv(C4:(List Ac)→Option Int)(L:Nat)(a0:List Ac):Option Int:=A5c C4 L a0
theorem b16(C4:(List Ac)→Option Int)(Cbf:Bz3 C4)(L:Nat):Bz3 (Auv C4 L):=fun a0 r h=>hF Tryz.func16 (s16 C4 Cbf L) L (fun kk=>eE ((ho (Cb4 C4 L (Bws C4 L kk) a0 L (0,0)) fun o7=>Cnp C4 L kk a0 o7))) h
def Sd:Nat→(List Ac)→Option Int
 |0,_=>none
 |L+1,a0=>Auv (Sd L) L a0
theorem Cbb(L:Nat):Bz3 (Sd L):=by
 induction L with
 |zero=>exact fun _ _ h=>(by cases h)
 |succ L ih=>
  have i16:=ih
  exact b16 (Sd L) i16 L
def X16(L:Nat):Gh:=E1 I 16 Aae (Sd L) (Cbb L)
end
end Go.Proofs.YtfencmicmnhglaaGreat.Ev
