import Derived.Test.YtcbandfdmbkokaaGreatG4
namespace Go.Proofs.YtcbandfdmbkokaaGreat.Ev
open Go
set_option maxRecDepth 100000
set_option linter.unusedVariables false
set_option linter.unusedSimpArgs false
set_option linter.unnecessarySimpa false
noncomputable def c52:EC:=(C4 Tryz.prog inl Tryz.f52).getD .stop
def O52(L:Nat):Bi:=(Cp 87 (A1 (fun(x:Bool)=>B x) (cI .i64) (C1 L)) Kg)
theorem s52(L:Nat):Bs Tryz.prog (O52 L):=(Ad (a1 _ (h87 L)) (Az Tryz.prog))
def Zj{A:Type}(an:An A)(L:Nat)(a0:Int)(a1:Int)(out:Int→A):A:=
 (an.jb (bif (a0 == 5) then (Option.bind (C1 L a1) fun r2=>
 (some r2))
 else (some false)) (fun j=>(an.cn (a0 == 5)
 (an.bd (C1 L a1) fun r3=>
 (an.lf j r3))
 (an.lf j false))) (fun b1=>
 (an.cn b1
 (an.lf out a1)
 (an.jp (bif (a0 == 6) then (a1 == 2)
 else false) (fun j=>(an.cn (a0 == 6)
 (an.ap j (a1 == 2))
 (an.ap j false))) (fun b4=>
 (an.cn b4
 (an.lf out 2)
 (an.jp (bif (a0 == 7) then (a1 == 1)
 else false) (fun j=>(an.cn (a0 == 7)
 (an.ap j (a1 == 1))
 (an.ap j false))) (fun b5=>
 (an.cn b5
 (an.lf out 3)
 (an.jp (bif (a0 == 8) then (a1 == 3)
 else false) (fun j=>(an.cn (a0 == 8)
 (an.ap j (a1 == 3))
 (an.ap j false))) (fun b6=>
 (an.cn b6
 (an.lf out 1)
 (an.lf out 0)))))))))))))
def O0(L:Nat)(a0:Int)(a1:Int):Option Int:=Zj (Bq _) L a0 a1 some
theorem e52(L:Nat)(a0:Int)(a1:Int)(kk:PV→Prop):EW (O52 L) L 9 (RS Tryz.f52) c52 [I a0,I a1] kk=ob (O0 L a0 a1) (fun(x:Int)=>kk (I x)):=by
 refine Eq.trans (b:=Zj Bh L a0 a1 (fun(x:Int)=>kk (I x))) (by kernel_rfl) ?_
 generalize (fun(x:Int)=>kk (I x))=Q
 unfold O0 Zj
 dsimp only [Bh,Bq]
 try simp only [y1,y2,y3,y4,y5 Q,y6,y7,y8 Q,y9,z1,z2,z3,z4]
theorem h52(L:Nat)(a0:Int)(a1:Int)(r:Int)(h:O0 L a0 a1=some r):Bc Tryz.prog 52 [I a0,I a1] (I r):=
 hE Cg (s52 L) mixed Tryz.func52 (by kernel_rfl:C4 Tryz.prog inl Tryz.f52=some c52) (er:=fun(x:Int)=>I x) (by kernel_rfl) (e52 L a0 a1) h
noncomputable def c53:EC:=(C4 Tryz.prog inl Tryz.f53).getD .stop
def O53(L:Nat):Bi:=(Cp 87 (A1 (fun(x:Bool)=>B x) (cI .i64) (C1 L)) Kg)
theorem s53(L:Nat):Bs Tryz.prog (O53 L):=(Ad (a1 _ (h87 L)) (Az Tryz.prog))
def A6l(a1:Int)(a2:Int)(p804_3:Bool):St:=({ fr:= [(1,I a1),(6,I 0),(7,B (a1 == a2)),(67,B p804_3)],ob:= [],base:=0 } :St)
def A5r(L:Nat)(e0:EC)(kk:PV→Prop):Ex→St→Prop:=(Ca 0 (Dl (EV (O53 L) L 9 e0) (Dx Tryz.prog (RS Tryz.f53) kk)))
def Mo{A:Type}(an:An A)(L:Nat)(a1:Int)(a2:Int)(p804_3:Bool)(out:Int→A):A:=
 (an.cn p804_3
 (an.jp (bif (a1 == a2) then (a1 == 2)
 else false) (fun j=>(an.cn (a1 == a2)
 (an.ap j (a1 == 2))
 (an.ap j false))) (fun b14=>
 (an.cn b14
 (an.lf out 2)
 (an.lf out 0))))
 (an.lf out 0))
theorem Bb0(L:Nat)(a1:Int)(a2:Int)(p804_3:Bool)(kk:PV→Prop):EV (O53 L) L 9 c53.r.r.r.r.l.r.r.l.r.r.r.r.r.r.r.r.r.r.r.r.r.r.r.r.r (A6l a1 a2 p804_3) (A5r L c53.r.r.r.r.r kk)=Mo Bh L a1 a2 p804_3 (fun(x:Int)=>kk (I x)):=by kernel_rfl
theorem Bis(L:Nat)(a1:Int)(a2:Int)(p804_3:Bool)(Q:Int→Prop):Mo Bh L a1 a2 p804_3 Q=ob (Mo (Bq _) L a1 a2 p804_3 some) Q:=by
 unfold Mo
 dsimp only [Bh,Bq]
 try simp only [y1,y2,y3,y4,y5 Q,y6,y7,y8 Q,y9,z1,z2,z3,z4]
def Aud(a1:Int)(a2:Int)(a0:Int)(p803_4:Bool):St:=({ fr:= [(1,I a1),(6,I 0),(7,B (a1 == a2)),(11,I a0),(59,B p803_4)],ob:= [],base:=0 } :St)
def Asx(L:Nat)(e0:EC)(kk:PV→Prop):Ex→St→Prop:=(Ca 0 (Dl (EV (O53 L) L 9 e0) (Dx Tryz.prog (RS Tryz.f53) kk)))
def Ou{A:Type}(an:An A)(L:Nat)(a1:Int)(a2:Int)(a0:Int)(p803_4:Bool)(nx4:Int→Int→Bool→A)(out:Int→A):A:=
 (an.cn p803_4
 (an.jb (bif (a1 == a2) then (Option.bind (C1 L a1) fun r12=>
 (some r12))
 else (some false)) (fun j=>(an.cn (a1 == a2)
 (an.bd (C1 L a1) fun r13=>
 (an.lf j r13))
 (an.lf j false))) (fun b11=>
 (an.cn b11
 (an.lf out 2)
 (an.lf out 0))))
 (an.cn (a0 == 18)
 (nx4 a1 a2 (a0 == 18))
 (nx4 a1 a2 (a0 == 19))))
def Jn{A:Type}(an:An A)(L:Nat)(a1:Int)(a2:Int)(a0:Int)(p803_4:Bool)(out:Int→A):A:=Ou an L a1 a2 a0 p803_4 (fun a1 a2 p804_3=>Mo an L a1 a2 p804_3 out) out
theorem Bh2(L:Nat)(a1:Int)(a2:Int)(a0:Int)(p803_4:Bool)(g4:Int→Int→Bool→Option Int)(Q:Int→Prop):Ou Bh L a1 a2 a0 p803_4 (fun a1 a2 p804_3=>ob (g4 a1 a2 p804_3) Q) Q=ob (Ou (Bq _) L a1 a2 a0 p803_4 g4 some) Q:=by
 unfold Ou
 dsimp only [Bh,Bq]
 try simp only [y1,y2,y3,y4,y5 Q,y6,y7,y8 Q,y9,z1,z2,z3,z4]
theorem Bcn(L:Nat)(a1:Int)(a2:Int)(a0:Int)(p803_4:Bool)(kk:PV→Prop)(z4:EC):EV (O53 L) L 9 (EC.put [false,false,false] z4 c53.r.r.r.r.l.r.r.l.r.r.r.r.r.r.r.r.r.r.r.r.r.r) (Aud a1 a2 a0 p803_4) (Asx L c53.r.r.r.r.r kk)=Ou Bh L a1 a2 a0 p803_4 (fun a1 a2 p804_3=>EV (O53 L) L 9 z4 (A6l a1 a2 p804_3) (A5r L c53.r.r.r.r.r kk)) (fun(x:Int)=>kk (I x)):=by kernel_rfl
theorem Bbz(L:Nat)(a1:Int)(a2:Int)(a0:Int)(p803_4:Bool)(kk:PV→Prop):EV (O53 L) L 9 c53.r.r.r.r.l.r.r.l.r.r.r.r.r.r.r.r.r.r.r.r.r.r (Aud a1 a2 a0 p803_4) (Asx L c53.r.r.r.r.r kk)=Jn Bh L a1 a2 a0 p803_4 (fun(x:Int)=>kk (I x)):=by
 refine Eq.trans (b:=EV (O53 L) L 9 (EC.put [false,false,false] c53.r.r.r.r.l.r.r.l.r.r.r.r.r.r.r.r.r.r.r.r.r.r.r.r.r c53.r.r.r.r.l.r.r.l.r.r.r.r.r.r.r.r.r.r.r.r.r.r) (Aud a1 a2 a0 p803_4) (Asx L c53.r.r.r.r.r kk)) (by kernel_rfl) ?_
 refine Eq.trans (Bcn L a1 a2 a0 p803_4 kk c53.r.r.r.r.l.r.r.l.r.r.r.r.r.r.r.r.r.r.r.r.r.r.r.r.r) ?_
 unfold Jn
 simp only [Bb0]
theorem Bir(L:Nat)(a1:Int)(a2:Int)(a0:Int)(p803_4:Bool)(Q:Int→Prop):Jn Bh L a1 a2 a0 p803_4 Q=ob (Jn (Bq _) L a1 a2 a0 p803_4 some) Q:=by
 unfold Jn
 simp only [Bis]
 exact Bh2 L a1 a2 a0 p803_4 (fun a1 a2 p804_3=>Mo (Bq _) L a1 a2 p804_3 some) Q
def Auc(a1:Int)(a2:Int)(a0:Int)(p802_4:Bool):St:=({ fr:= [(1,I a1),(6,I 0),(7,B (a1 == a2)),(11,I a0),(55,B p802_4)],ob:= [],base:=0 } :St)
def Asw(L:Nat)(e0:EC)(kk:PV→Prop):Ex→St→Prop:=(Ca 0 (Dl (EV (O53 L) L 9 e0) (Dx Tryz.prog (RS Tryz.f53) kk)))
def Ot{A:Type}(an:An A)(L:Nat)(a1:Int)(a2:Int)(a0:Int)(p802_4:Bool)(nx3:Int→Int→Int→Bool→A)(out:Int→A):A:=
 (an.cn p802_4
 (an.cn (a1 == a2)
 (an.lf out 2)
 (an.lf out 0))
 (an.cn (a0 == 16)
 (nx3 a1 a2 a0 (a0 == 16))
 (nx3 a1 a2 a0 (a0 == 17))))
def Jm{A:Type}(an:An A)(L:Nat)(a1:Int)(a2:Int)(a0:Int)(p802_4:Bool)(out:Int→A):A:=Ot an L a1 a2 a0 p802_4 (fun a1 a2 a0 p803_4=>Jn an L a1 a2 a0 p803_4 out) out
theorem Bh1(L:Nat)(a1:Int)(a2:Int)(a0:Int)(p802_4:Bool)(g3:Int→Int→Int→Bool→Option Int)(Q:Int→Prop):Ot Bh L a1 a2 a0 p802_4 (fun a1 a2 a0 p803_4=>ob (g3 a1 a2 a0 p803_4) Q) Q=ob (Ot (Bq _) L a1 a2 a0 p802_4 g3 some) Q:=by
 unfold Ot
 dsimp only [Bh,Bq]
 try simp only [y1,y2,y3,y4,y5 Q,y6,y7,y8 Q,y9,z1,z2,z3,z4]
theorem Bcm(L:Nat)(a1:Int)(a2:Int)(a0:Int)(p802_4:Bool)(kk:PV→Prop)(z3:EC):EV (O53 L) L 9 (EC.put [false,false,false] z3 c53.r.r.r.r.l.r.r.l.r.r.r.r.r.r.r.r.r.r.r) (Auc a1 a2 a0 p802_4) (Asw L c53.r.r.r.r.r kk)=Ot Bh L a1 a2 a0 p802_4 (fun a1 a2 a0 p803_4=>EV (O53 L) L 9 z3 (Aud a1 a2 a0 p803_4) (Asx L c53.r.r.r.r.r kk)) (fun(x:Int)=>kk (I x)):=by kernel_rfl
theorem Bby(L:Nat)(a1:Int)(a2:Int)(a0:Int)(p802_4:Bool)(kk:PV→Prop):EV (O53 L) L 9 c53.r.r.r.r.l.r.r.l.r.r.r.r.r.r.r.r.r.r.r (Auc a1 a2 a0 p802_4) (Asw L c53.r.r.r.r.r kk)=Jm Bh L a1 a2 a0 p802_4 (fun(x:Int)=>kk (I x)):=by
 refine Eq.trans (b:=EV (O53 L) L 9 (EC.put [false,false,false] c53.r.r.r.r.l.r.r.l.r.r.r.r.r.r.r.r.r.r.r.r.r.r c53.r.r.r.r.l.r.r.l.r.r.r.r.r.r.r.r.r.r.r) (Auc a1 a2 a0 p802_4) (Asw L c53.r.r.r.r.r kk)) (by kernel_rfl) ?_
 refine Eq.trans (Bcm L a1 a2 a0 p802_4 kk c53.r.r.r.r.l.r.r.l.r.r.r.r.r.r.r.r.r.r.r.r.r.r) ?_
 unfold Jm
 simp only [Bbz]
theorem Biq(L:Nat)(a1:Int)(a2:Int)(a0:Int)(p802_4:Bool)(Q:Int→Prop):Jm Bh L a1 a2 a0 p802_4 Q=ob (Jm (Bq _) L a1 a2 a0 p802_4 some) Q:=by
 unfold Jm
 simp only [Bir]
 exact Bh1 L a1 a2 a0 p802_4 (fun a1 a2 a0 p803_4=>Jn (Bq _) L a1 a2 a0 p803_4 some) Q
def Aub(a1:Int)(a2:Int)(a0:Int)(p801_5:Bool):St:=({ fr:= [(1,I a1),(2,I a2),(6,I 0),(7,B (a1 == a2)),(11,I a0),(12,B p801_5)],ob:= [],base:=0 } :St)
def Asv(L:Nat)(e0:EC)(kk:PV→Prop):Ex→St→Prop:=(Ca 0 (Dl (EV (O53 L) L 9 e0) (Dx Tryz.prog (RS Tryz.f53) kk)))
def Oq{A:Type}(an:An A)(L:Nat)(a1:Int)(a2:Int)(a0:Int)(p801_5:Bool)(nx2:Int→Int→Int→Bool→A)(out:Int→A):A:=
 (an.cn p801_5
 (an.jb (bif (a1 == a2) then (Option.bind (C1 L a1) fun r2=>
 (some r2))
 else (some false)) (fun j=>(an.cn (a1 == a2)
 (an.bd (C1 L a1) fun r3=>
 (an.lf j r3))
 (an.lf j false))) (fun b1=>
 (an.cn b1
 (an.lf out a1)
 (an.lf out 0))))
 (an.cn (a0 == 11)
 (an.jb (bif (a1 == 1) then (Option.bind (C1 L a2) fun r5=>
 (some r5))
 else (some false)) (fun j=>(an.cn (a1 == 1)
 (an.bd (C1 L a2) fun r6=>
 (an.lf j r6))
 (an.lf j false))) (fun b4=>
 (an.cn b4
 (an.lf out a2)
 (an.jp (bif (a1 == 3) then (a2 == 1)
 else false) (fun j=>(an.cn (a1 == 3)
 (an.ap j (a2 == 1))
 (an.ap j false))) (fun b7=>
 (an.cn b7
 (an.lf out a1)
 (an.lf out 0)))))))
 (an.cn (a0 == 12)
 (an.bd (C1 L a1) fun r8=>
 (an.jp (bif r8 then (a2 == 1)
 else false) (fun j=>(an.cn r8
 (an.ap j (a2 == 1))
 (an.ap j false))) (fun b9=>
 (an.cn b9
 (an.lf out a1)
 (an.jp (bif (a1 == 3) then (a2 == 3)
 else false) (fun j=>(an.cn (a1 == 3)
 (an.ap j (a2 == 3))
 (an.ap j false))) (fun b10=>
 (an.cn b10
 (an.lf out 1)
 (an.lf out 0))))))))
 (an.cn (a0 == 14)
 (nx2 a1 a2 a0 (a0 == 14))
 (nx2 a1 a2 a0 (a0 == 15))))))
def Jl{A:Type}(an:An A)(L:Nat)(a1:Int)(a2:Int)(a0:Int)(p801_5:Bool)(out:Int→A):A:=Oq an L a1 a2 a0 p801_5 (fun a1 a2 a0 p802_4=>Jm an L a1 a2 a0 p802_4 out) out
theorem Bh0(L:Nat)(a1:Int)(a2:Int)(a0:Int)(p801_5:Bool)(g2:Int→Int→Int→Bool→Option Int)(Q:Int→Prop):Oq Bh L a1 a2 a0 p801_5 (fun a1 a2 a0 p802_4=>ob (g2 a1 a2 a0 p802_4) Q) Q=ob (Oq (Bq _) L a1 a2 a0 p801_5 g2 some) Q:=by
 unfold Oq
 dsimp only [Bh,Bq]
 try simp only [y1,y2,y3,y4,y5 Q,y6,y7,y8 Q,y9,z1,z2,z3,z4]
theorem Bcl(L:Nat)(a1:Int)(a2:Int)(a0:Int)(p801_5:Bool)(kk:PV→Prop)(z2:EC):EV (O53 L) L 9 (EC.put [false,false,false,false,false,false,false,false,false] z2 c53.r.r.r.r.l.r.r.l.r.r) (Aub a1 a2 a0 p801_5) (Asv L c53.r.r.r.r.r kk)=Oq Bh L a1 a2 a0 p801_5 (fun a1 a2 a0 p802_4=>EV (O53 L) L 9 z2 (Auc a1 a2 a0 p802_4) (Asw L c53.r.r.r.r.r kk)) (fun(x:Int)=>kk (I x)):=by kernel_rfl
theorem Bbx(L:Nat)(a1:Int)(a2:Int)(a0:Int)(p801_5:Bool)(kk:PV→Prop):EV (O53 L) L 9 c53.r.r.r.r.l.r.r.l.r.r (Aub a1 a2 a0 p801_5) (Asv L c53.r.r.r.r.r kk)=Jl Bh L a1 a2 a0 p801_5 (fun(x:Int)=>kk (I x)):=by
 refine Eq.trans (b:=EV (O53 L) L 9 (EC.put [false,false,false,false,false,false,false,false,false] c53.r.r.r.r.l.r.r.l.r.r.r.r.r.r.r.r.r.r.r c53.r.r.r.r.l.r.r.l.r.r) (Aub a1 a2 a0 p801_5) (Asv L c53.r.r.r.r.r kk)) (by kernel_rfl) ?_
 refine Eq.trans (Bcl L a1 a2 a0 p801_5 kk c53.r.r.r.r.l.r.r.l.r.r.r.r.r.r.r.r.r.r.r) ?_
 unfold Jl
 simp only [Bby]
theorem Bip(L:Nat)(a1:Int)(a2:Int)(a0:Int)(p801_5:Bool)(Q:Int→Prop):Jl Bh L a1 a2 a0 p801_5 Q=ob (Jl (Bq _) L a1 a2 a0 p801_5 some) Q:=by
 unfold Jl
 simp only [Biq]
 exact Bh0 L a1 a2 a0 p801_5 (fun a1 a2 a0 p802_4=>Jm (Bq _) L a1 a2 a0 p802_4 some) Q
def Oo{A:Type}(an:An A)(L:Nat)(a0:Int)(a1:Int)(a2:Int)(nx1:Int→Int→Int→Bool→A)(out:Int→A):A:=
 (an.cn (a0 == 9)
 (nx1 a1 a2 a0 (a0 == 9))
 (an.cn (a0 == 10)
 (nx1 a1 a2 a0 (a0 == 10))
 (an.cn (a0 == 13)
 (nx1 a1 a2 a0 (a0 == 13))
 (an.cn (a0 == 20)
 (nx1 a1 a2 a0 (a0 == 20))
 (nx1 a1 a2 a0 (a0 == 21))))))
def n8{A:Type}(an:An A)(L:Nat)(a0:Int)(a1:Int)(a2:Int)(out:Int→A):A:=Oo an L a0 a1 a2 (fun a1 a2 a0 p801_5=>Jl an L a1 a2 a0 p801_5 out) out
theorem Bhz(L:Nat)(a0:Int)(a1:Int)(a2:Int)(g1:Int→Int→Int→Bool→Option Int)(Q:Int→Prop):Oo Bh L a0 a1 a2 (fun a1 a2 a0 p801_5=>ob (g1 a1 a2 a0 p801_5) Q) Q=ob (Oo (Bq _) L a0 a1 a2 g1 some) Q:=by
 unfold Oo
 dsimp only [Bh,Bq]
 try simp only [y1,y2,y3,y4,y5 Q,y6,y7,y8 Q,y9,z1,z2,z3,z4]
theorem Bck(L:Nat)(a0:Int)(a1:Int)(a2:Int)(kk:PV→Prop)(z1:EC):EW (O53 L) L 9 (RS Tryz.f53) (EC.put [false,false,false,false,true,false,false,true,false,false] z1 c53) [I a0,I a1,I a2] kk=Oo Bh L a0 a1 a2 (fun a1 a2 a0 p801_5=>EV (O53 L) L 9 z1 (Aub a1 a2 a0 p801_5) (Asv L c53.r.r.r.r.r kk)) (fun(x:Int)=>kk (I x)):=by kernel_rfl
def Mu(L:Nat)(a0:Int)(a1:Int)(a2:Int):Option Int:=n8 (Bq _) L a0 a1 a2 some
theorem e53(L:Nat)(a0:Int)(a1:Int)(a2:Int)(kk:PV→Prop):EW (O53 L) L 9 (RS Tryz.f53) c53 [I a0,I a1,I a2] kk=ob (Mu L a0 a1 a2) (fun(x:Int)=>kk (I x)):=by
 refine Eq.trans (b:=EW (O53 L) L 9 (RS Tryz.f53) (EC.put [false,false,false,false,true,false,false,true,false,false] c53.r.r.r.r.l.r.r.l.r.r c53) [I a0,I a1,I a2] kk) (by kernel_rfl) ?_
 refine Eq.trans (Bck L a0 a1 a2 kk c53.r.r.r.r.l.r.r.l.r.r) ?_
 simp only [Bbx]
 generalize (fun(x:Int)=>kk (I x))=Q
 simp only [Bip]
 unfold Mu n8
 exact Bhz L a0 a1 a2 (fun a1 a2 a0 p801_5=>Jl (Bq _) L a1 a2 a0 p801_5 some) Q
theorem h53(L:Nat)(a0:Int)(a1:Int)(a2:Int)(r:Int)(h:Mu L a0 a1 a2=some r):Bc Tryz.prog 53 [I a0,I a1,I a2] (I r):=
 hE Cg (s53 L) mixed Tryz.func53 (by kernel_rfl:C4 Tryz.prog inl Tryz.f53=some c53) (er:=fun(x:Int)=>I x) (by kernel_rfl) (e53 L a0 a1 a2) h
noncomputable def c28:EC:=(C4 Tryz.prog inl Tryz.f28).getD .stop
def O28(Gf:Ai→Aa→Option (Int×Int))(L:Nat):Bi:=(Cp 28 (A2 (fun(x:(Int×Int))=> .tup [I x.1,I x.2]) Cl Bm Gf) (Cp 51 (A2 (fun(x:(Int×Int))=> .tup [I x.1,I x.2]) Cl Bm (Ps L)) (Cp 52 (A2 (fun(x:Int)=>I x) (cI .i64) (cI .i64) (O0 L)) (Cp 53 (A3 (fun(x:Int)=>I x) (cI .i64) (cI .i64) (cI .i64) (Mu L)) Kg))))
theorem s28(Gf:Ai→Aa→Option (Int×Int))(Bdo:∀(y0:Ai) (y1:Aa) (r:(Int×Int)),Gf y0 y1=some r→Bc Tryz.prog 28 [.agg (B8 y0),.agg (Ay y1)] (.tup [I r.1,I r.2]))(L:Nat):Bs Tryz.prog (O28 Gf L):=(Ad (a2 _ Bdo) (Ad (a2 _ (h51 L)) (Ad (a2 _ (h52 L)) (Ad (a3 _ (h53 L)) (Az Tryz.prog)))))
def Am7(a0:Ai)(a1:Aa)(A9:Int)(Ae:Int)(Ah:List Int)(Aj:Int):St:=({ fr:= [(0,.any),(1,.any),(2,.loc 2 0),(3,.loc 3 0),(4,I A9),(5,I Ae),(6,.lst true (.t41 Ah)),(7,I Aj),(10,.any),(46,.any),(53,.any)],ob:= [(2,(B8 a0)),(3,(Ay a1))],base:=0 } :St)
def Aq3(a0:Ai)(a1:Aa)(K:Ex→St→Prop):Nat×(Int×Int×List Int×Int)→Prop:=fun o=>Cr o.1 [K .ret (Am7 a0 a1 o.2.1 o.2.2.1 o.2.2.2.1 o.2.2.2.2),K (.exit 0) (Am7 a0 a1 o.2.1 o.2.2.1 o.2.2.2.1 o.2.2.2.2)]
def N6{A:Type}(an:An A)(Gf:Ai→Aa→Option (Int×Int))(L:Nat)(a0:Ai)(a1:Aa)(rec:Int→Int→List Int→Int→A)(out:Nat×(Int×Int×List Int×Int)→A)(A9:Int)(Ae:Int)(Ah:List Int)(Aj:Int):A:=
 (an.cn (decide (Aj < (a1.Kids.length:Int)))
 (an.gd ((0:Int)≤Aj)
 (an.gd (Aj < ((a1.Kids.length:Nat):Int))
 (an.bd (Gf a0 (Aa.cp (a1.Kids.getD (Int.toNat Aj) default))) fun r1=>
 (an.cn (r1.2 != 0)
 (an.lf out (0,(0,r1.2,Ah,Aj)))
 (an.gd ((Ah.length+ [r1.1].length)*8≤140737488355328)
 (an.gd (Ah.length+ [r1.1].length≤maxLen)
 (rec A9 Ae (Ah++ [r1.1]) (F9 (Aj+1)))))))))
 (an.lf out (1,(A9,Ae,Ah,Aj))))
def Lm(Gf:Ai→Aa→Option (Int×Int))(L:Nat)(a0:Ai)(a1:Aa):Nat→Int→Int→List Int→Int→Option (Nat×(Int×Int×List Int×Int))
 |0,_,_,_,_=>none
 |n+1,A9,Ae,Ah,Aj=>N6 (Bq _) Gf L a0 a1 (Lm Gf L a0 a1 n) some A9 Ae Ah Aj
theorem Bfq(Gf:Ai→Aa→Option (Int×Int))(L:Nat)(a0:Ai)(a1:Aa)(g:Int→Int→List Int→Int→Option (Nat×(Int×Int×List Int×Int)))(Q:Nat×(Int×Int×List Int×Int)→Prop)(A9:Int)(Ae:Int)(Ah:List Int)(Aj:Int):N6 Bh Gf L a0 a1 (fun A9 Ae Ah Aj=>ob (g A9 Ae Ah Aj) Q) Q A9 Ae Ah Aj=ob (N6 (Bq _) Gf L a0 a1 g some A9 Ae Ah Aj) Q:=by
 unfold N6
 dsimp only [Bh,Bq]
 try simp only [y1,y2,y3,y4,y5 Q,y6,y7,y8 Q,y9,z1,z2,z3,z4]
theorem Beo(Gf:Ai→Aa→Option (Int×Int))(L:Nat)(a0:Ai)(a1:Aa)(n:Nat)(A9:Int)(Ae:Int)(Ah:List Int)(Aj:Int)(K:Ex→St→Prop):Bl (EV (O28 Gf L) L 9 c28.r.r.r.r.l.r.r.l.l) [0,1,2,3,4,5,6,7,10,46,53] [2,3] n (Am7 a0 a1 A9 Ae Ah Aj) K=ob (Lm Gf L a0 a1 n A9 Ae Ah Aj) (fun o=>Aq3 a0 a1 K o):=by
 induction n generalizing A9 Ae Ah Aj with
 |zero=>rfl
 |succ n ih=>
  refine Eq.trans (b:=N6 Bh Gf L a0 a1 (fun A9 Ae Ah Aj=>Bl (EV (O28 Gf L) L 9 c28.r.r.r.r.l.r.r.l.l) [0,1,2,3,4,5,6,7,10,46,53] [2,3] n (Am7 a0 a1 A9 Ae Ah Aj) K) (Aq3 a0 a1 K) A9 Ae Ah Aj) (by kernel_rfl) ?_
  simp only [ih]
  exact Bfq Gf L a0 a1 (Lm Gf L a0 a1 n) (Aq3 a0 a1 K) A9 Ae Ah Aj
def A4m(Gf:Ai→Aa→Option (Int×Int))(L:Nat)(kk:PV→Prop):Ex→St→Prop:=(Ca 0 (Dl (EV (O28 Gf L) L 9 c28.r.r.r.r.r) (Dx Tryz.prog (RS Tryz.f28) kk)))
theorem Bpr(Gf:Ai→Aa→Option (Int×Int))(L:Nat)(a0:Ai)(a1:Aa)(kk:PV→Prop)(o1:Nat×(Int×Int×List Int×Int)):Aq3 a0 a1 (A4m Gf L kk) o1=
 (Cr o1.1 [(ob (some (o1.2.1,o1.2.2.1)) (fun(x:(Int×Int))=>kk (.tup [I x.1,I x.2]))),
 (br ((o1.2.2.2.1.length:Int) == 0)
 (ob (Ps L a0 (Aa.cp a1)) fun r2=>
 (ob (some (r2.1,r2.2)) (fun(x:(Int×Int))=>kk (.tup [I x.1,I x.2]))))
 (br ((o1.2.2.2.1.length:Int) == 1)
 (gd ((0:Int)≤0)
 (gd (0 < ((o1.2.2.2.1.length:Nat):Int))
 (ob (O0 L a1.Op (o1.2.2.2.1.getD 0 default)) fun r3=>
 (br (r3 == 0)
 (ob (some (0,10)) (fun(x:(Int×Int))=>kk (.tup [I x.1,I x.2])))
 (ob (some (r3,0)) (fun(x:(Int×Int))=>kk (.tup [I x.1,I x.2])))))))
 (gd ((0:Int)≤0)
 (gd (0 < ((o1.2.2.2.1.length:Nat):Int))
 (gd ((0:Int)≤1)
 (gd (1 < ((o1.2.2.2.1.length:Nat):Int))
 (ob (Mu L a1.Op (o1.2.2.2.1.getD 0 default) (o1.2.2.2.1.getD 1 default)) fun r4=>
 (br (r4 == 0)
 (ob (some (0,10)) (fun(x:(Int×Int))=>kk (.tup [I x.1,I x.2])))
 (ob (some (r4,0)) (fun(x:(Int×Int))=>kk (.tup [I x.1,I x.2])))))))))))]):=by kernel_rfl
def Wn{A:Type}(an:An A)(Gf:Ai→Aa→Option (Int×Int))(L:Nat)(a0:Ai)(a1:Aa)(out:(Int×Int)→A):A:=
 (an.bd (Lm Gf L a0 a1 L 0 0 [] 0) fun o1=>
 (an.sl o1.1 [(an.lf out (o1.2.1,o1.2.2.1)),
 (an.cn ((o1.2.2.2.1.length:Int) == 0)
 (an.bd (Ps L a0 (Aa.cp a1)) fun r2=>
 (an.lf out (r2.1,r2.2)))
 (an.cn ((o1.2.2.2.1.length:Int) == 1)
 (an.gd ((0:Int)≤0)
 (an.gd (0 < ((o1.2.2.2.1.length:Nat):Int))
 (an.bd (O0 L a1.Op (o1.2.2.2.1.getD 0 default)) fun r3=>
 (an.cn (r3 == 0)
 (an.lf out (0,10))
 (an.lf out (r3,0))))))
 (an.gd ((0:Int)≤0)
 (an.gd (0 < ((o1.2.2.2.1.length:Nat):Int))
 (an.gd ((0:Int)≤1)
 (an.gd (1 < ((o1.2.2.2.1.length:Nat):Int))
 (an.bd (Mu L a1.Op (o1.2.2.2.1.getD 0 default) (o1.2.2.2.1.getD 1 default)) fun r4=>
 (an.cn (r4 == 0)
 (an.lf out (0,10))
 (an.lf out (r4,0))))))))))]))
def V9(Gf:Ai→Aa→Option (Int×Int))(L:Nat)(a0:Ai)(a1:Aa):Option (Int×Int):=Wn (Bq _) Gf L a0 a1 some
theorem e28(Gf:Ai→Aa→Option (Int×Int))(L:Nat)(a0:Ai)(a1:Aa)(kk:PV→Prop):EW (O28 Gf L) L 9 (RS Tryz.f28) c28 [.agg (B8 a0),.agg (Ay a1)] kk=ob (V9 Gf L a0 a1) (fun(x:(Int×Int))=>kk (.tup [I x.1,I x.2])):=by
 refine Eq.trans (b:=Wn Bh Gf L a0 a1 (fun(x:(Int×Int))=>kk (.tup [I x.1,I x.2]))) ?_ ?_
 ·refine Eq.trans (b:=(Bl (EV (O28 Gf L) L 9 c28.r.r.r.r.l.r.r.l.l) [0,1,2,3,4,5,6,7,10,46,53] [2,3] L (Am7 a0 a1 0 0 [] 0) (A4m Gf L kk))) (by kernel_rfl) ?_
  unfold Wn
  dsimp only [Bh]
  simp only [Beo,Bpr]
 generalize (fun(x:(Int×Int))=>kk (.tup [I x.1,I x.2]))=Q
 unfold V9 Wn
 dsimp only [Bh,Bq]
 try simp only [y1,y2,y3,y4,y5 Q,y6,y7,y8 Q,y9,z1,z2,z3,z4]
theorem b28(Gf:Ai→Aa→Option (Int×Int))(Bdo:∀(y0:Ai) (y1:Aa) (r:(Int×Int)),Gf y0 y1=some r→Bc Tryz.prog 28 [.agg (B8 y0),.agg (Ay y1)] (.tup [I r.1,I r.2]))(L:Nat)(a0:Ai)(a1:Aa)(r:(Int×Int))(h:V9 Gf L a0 a1=some r):Bc Tryz.prog 28 [.agg (B8 a0),.agg (Ay a1)] (.tup [I r.1,I r.2]):=
 hE Cg (s28 Gf Bdo L) mixed Tryz.func28 (by kernel_rfl:C4 Tryz.prog inl Tryz.f28=some c28) (er:=fun(x:(Int×Int))=> .tup [I x.1,I x.2]) (by kernel_rfl) (e28 Gf L a0 a1) h
def Kz:Nat→Ai→Aa→Option (Int×Int)
 |0,_,_=>none
 |L+1,a0,a1=>V9 (Kz L) L a0 a1
theorem Bc8:∀L,(∀(y0:Ai) (y1:Aa) (r:(Int×Int)),Kz L y0 y1=some r→Bc Tryz.prog 28 [.agg (B8 y0),.agg (Ay y1)] (.tup [I r.1,I r.2])):=by
 intro L
 induction L with
 |zero=>exact fun _ _ r h=>(by cases h)
 |succ L ih=>
  have i28:=ih
  exact fun y0 y1 r h=>b28 (Kz L) i28 L y0 y1 r h
theorem h28(L:Nat):∀(y0:Ai) (y1:Aa) (r:(Int×Int)),Kz L y0 y1=some r→Bc Tryz.prog 28 [.agg (B8 y0),.agg (Ay y1)] (.tup [I r.1,I r.2]):=Bc8 L
noncomputable def c13:EC:=(C4 Tryz.prog inl Tryz.f13).getD .stop
def O13(L:Nat):Bi:=(Cp 23 (A1 (fun(x:Int)=>I x) Bm (E3 L)) (Cp 28 (A2 (fun(x:(Int×Int))=> .tup [I x.1,I x.2]) Cl Bm (Kz L)) Kg))
theorem s13(L:Nat):Bs Tryz.prog (O13 L):=(Ad (a1 _ (h23 L)) (Ad (a2 _ (h28 L)) (Az Tryz.prog)))
def n6{A:Type}(an:An A)(L:Nat)(a0:Ai)(a1:Aa)(out:(Int×Int)→A):A:=
 (an.bd (E3 L (Aa.cp a1)) fun r1=>
 (an.cn (r1 != 0)
 (an.lf out (0,r1))
 (an.bd (Kz L a0 (Aa.cp a1)) fun r2=>
 (an.lf out (r2.1,r2.2)))))
def Sw(L:Nat)(a0:Ai)(a1:Aa):Option (Int×Int):=n6 (Bq _) L a0 a1 some
theorem e13(L:Nat)(a0:Ai)(a1:Aa)(kk:PV→Prop):EW (O13 L) L 9 (RS Tryz.f13) c13 [.agg (B8 a0),.agg (Ay a1)] kk=ob (Sw L a0 a1) (fun(x:(Int×Int))=>kk (.tup [I x.1,I x.2])):=by
 refine Eq.trans (b:=n6 Bh L a0 a1 (fun(x:(Int×Int))=>kk (.tup [I x.1,I x.2]))) (by kernel_rfl) ?_
 generalize (fun(x:(Int×Int))=>kk (.tup [I x.1,I x.2]))=Q
 unfold Sw n6
 dsimp only [Bh,Bq]
 try simp only [y1,y2,y3,y4,y5 Q,y6,y7,y8 Q,y9,z1,z2,z3,z4]
theorem h13(L:Nat)(a0:Ai)(a1:Aa)(r:(Int×Int))(h:Sw L a0 a1=some r):Bc Tryz.prog 13 [.agg (B8 a0),.agg (Ay a1)] (.tup [I r.1,I r.2]):=
 hE Cg (s13 L) mixed Tryz.func13 (by kernel_rfl:C4 Tryz.prog inl Tryz.f13=some c13) (er:=fun(x:(Int×Int))=> .tup [I x.1,I x.2]) (by kernel_rfl) (e13 L a0 a1) h
noncomputable def c99:EC:=(C4 Tryz.prog inl Tryz.f99).getD .stop
def O99(L:Nat):Bi:=(Cp 13 (A2 (fun(x:(Int×Int))=> .tup [I x.1,I x.2]) Cl Bm (Sw L)) Kg)
theorem s99(L:Nat):Bs Tryz.prog (O99 L):=(Ad (a2 _ (h13 L)) (Az Tryz.prog))
def Ab7{A:Type}(an:An A)(L:Nat)(a0:Ai)(a1:Aa)(a2:Int)(a3:Int)(out:Int→A):A:=
 (an.bd (Sw L a0 (Aa.cp a1)) fun r1=>
 (an.jp (bif (r1.2 == 0) then (r1.1 != a2)
 else false) (fun j=>(an.cn (r1.2 == 0)
 (an.ap j (r1.1 != a2))
 (an.ap j false))) (fun b2=>
 (an.jp (bif b2 then (r1.1 != a3)
 else false) (fun j=>(an.cn b2
 (an.ap j (r1.1 != a3))
 (an.ap j false))) (fun b3=>
 (an.cn b3
 (an.lf out 10)
 (an.lf out r1.2)))))))
def Eg(L:Nat)(a0:Ai)(a1:Aa)(a2:Int)(a3:Int):Option Int:=Ab7 (Bq _) L a0 a1 a2 a3 some
theorem e99(L:Nat)(a0:Ai)(a1:Aa)(a2:Int)(a3:Int)(kk:PV→Prop):EW (O99 L) L 9 (RS Tryz.f99) c99 [.agg (B8 a0),.agg (Ay a1),I a2,I a3] kk=ob (Eg L a0 a1 a2 a3) (fun(x:Int)=>kk (I x)):=by
 refine Eq.trans (b:=Ab7 Bh L a0 a1 a2 a3 (fun(x:Int)=>kk (I x))) (by kernel_rfl) ?_
 generalize (fun(x:Int)=>kk (I x))=Q
 unfold Eg Ab7
 dsimp only [Bh,Bq]
 try simp only [y1,y2,y3,y4,y5 Q,y6,y7,y8 Q,y9,z1,z2,z3,z4]
theorem h99(L:Nat)(a0:Ai)(a1:Aa)(a2:Int)(a3:Int)(r:Int)(h:Eg L a0 a1 a2 a3=some r):Bc Tryz.prog 99 [.agg (B8 a0),.agg (Ay a1),I a2,I a3] (I r):=
 hE Cg (s99 L) mixed Tryz.func99 (by kernel_rfl:C4 Tryz.prog inl Tryz.f99=some c99) (er:=fun(x:Int)=>I x) (by kernel_rfl) (e99 L a0 a1 a2 a3) h
noncomputable def c98:EC:=(C4 Tryz.prog inl Tryz.f98).getD .stop
def O98(L:Nat):Bi:=(Cp 30 (A2 (fun(x:(Int×Bool))=> .tup [I x.1,B x.2]) Acj cS (I5 L)) (Cp 31 (A2 (fun(x:(Int×Bool))=> .tup [I x.1,B x.2]) Bbn cS (Hm L)) (Cp 86 (A2 (fun(x:ByteArray)=>S x) Cw cS (Ij L)) (Cp 87 (A1 (fun(x:Bool)=>B x) (cI .i64) (C1 L)) (Cp 99 (A4 (fun(x:Int)=>I x) Cl Bm (cI .i64) (cI .i64) (Eg L)) Kg)))))
theorem s98(L:Nat):Bs Tryz.prog (O98 L):=(Ad (a2 _ (h30 L)) (Ad (a2 _ (h31 L)) (Ad (a2 _ (h86 L)) (Ad (a1 _ (h87 L)) (Ad (a4 _ (h99 L)) (Az Tryz.prog))))))
def Ab8{A:Type}(an:An A)(L:Nat)(a0:Ai)(a1:Ab)(out:Int→A):A:=
 (an.bd (I5 L a0.Locals a1.Name) fun r1=>
 (an.cn (a1.Op == 1)
 (an.cn (!r1.2)
 (an.bd (Hm L a0.Site.Vars a1.Name) fun r2=>
 (an.cn (!r2.2)
 (an.lf out 5)
 (an.bd (Eg L a0 (Aa.cp a1.E) r2.1 r2.1) fun r3=>
 (an.lf out r3))))
 (an.cn (!r1.2)
 (an.lf out 5)
 (an.bd (Eg L a0 (Aa.cp a1.E) r1.1 r1.1) fun r4=>
 (an.lf out r4))))
 (an.jb (bif (!r1.2) then (some true)
 else (Option.bind (Ij L a0.Site a1.Of) fun r6=>
 (some (!(r6.toList == (⟨#[115,116,114,101,97,109]⟩:ByteArray).toList))))) (fun j=>(an.cn (!r1.2)
 (an.lf j true)
 (an.bd (Ij L a0.Site a1.Of) fun r7=>
 (an.lf j (!(r7.toList == (⟨#[115,116,114,101,97,109]⟩:ByteArray).toList)))))) (fun b5=>
 (an.cn b5
 (an.lf out 5)
 (an.bd (C1 L r1.1) fun r8=>
 (an.cn (!r8)
 (an.lf out 10)
 (an.lf out 0))))))))
def T0(L:Nat)(a0:Ai)(a1:Ab):Option Int:=Ab8 (Bq _) L a0 a1 some
theorem e98(L:Nat)(a0:Ai)(a1:Ab)(kk:PV→Prop):EW (O98 L) L 9 (RS Tryz.f98) c98 [.agg (B8 a0),.agg (B2 a1)] kk=ob (T0 L a0 a1) (fun(x:Int)=>kk (I x)):=by
 refine Eq.trans (b:=Ab8 Bh L a0 a1 (fun(x:Int)=>kk (I x))) (by kernel_rfl) ?_
 generalize (fun(x:Int)=>kk (I x))=Q
 unfold T0 Ab8
 dsimp only [Bh,Bq]
 try simp only [y1,y2,y3,y4,y5 Q,y6,y7,y8 Q,y9,z1,z2,z3,z4]
theorem h98(L:Nat)(a0:Ai)(a1:Ab)(r:Int)(h:T0 L a0 a1=some r):Bc Tryz.prog 98 [.agg (B8 a0),.agg (B2 a1)] (I r):=
 hE Cg (s98 L) mixed Tryz.func98 (by kernel_rfl:C4 Tryz.prog inl Tryz.f98=some c98) (er:=fun(x:Int)=>I x) (by kernel_rfl) (e98 L a0 a1) h
noncomputable def Bme:EC:=(C4 Tryz.prog inl Tryz.f187).getD .stop
def Bk5(L:Nat):Bi:=(Cp 143 (A2 (fun(x:Int)=>I x) cl9 cS (G9 L)) (Cp 144 (A1 (fun(x:(List (List ByteArray)))=> .lst false (.t27 x)) Cw (Kx L)) Kg))
theorem Bub(L:Nat):Bs Tryz.prog (Bk5 L):=(Ad (a2 _ (A77 L)) (Ad (a1 _ (Bc3 L)) (Az Tryz.prog)))
def Vx{A:Type}(an:An A)(L:Nat)(a0:Ac)(a1:ByteArray)(out:Int→A):A:=
 (an.bd (Kx L a0) fun r1=>
 (an.gd ((0:Int)≤9)
 (an.gd (9 < ((r1.length:Nat):Int))
 (an.bd (G9 L (r1.getD 9 default) a1) fun r2=>
 (an.lf out r2)))))
def Ie(L:Nat)(a0:Ac)(a1:ByteArray):Option Int:=Vx (Bq _) L a0 a1 some
theorem Bsb(L:Nat)(a0:Ac)(a1:ByteArray)(kk:PV→Prop):EW (Bk5 L) L 9 (RS Tryz.f187) Bme [.agg (Bk a0),S a1] kk=ob (Ie L a0 a1) (fun(x:Int)=>kk (I x)):=by
 refine Eq.trans (b:=Vx Bh L a0 a1 (fun(x:Int)=>kk (I x))) (by kernel_rfl) ?_
 generalize (fun(x:Int)=>kk (I x))=Q
 unfold Ie Vx
 dsimp only [Bh,Bq]
 try simp only [y1,y2,y3,y4,y5 Q,y6,y7,y8 Q,y9,z1,z2,z3,z4]
theorem Bnh(L:Nat)(a0:Ac)(a1:ByteArray)(r:Int)(h:Ie L a0 a1=some r):Bc Tryz.prog 187 [.agg (Bk a0),S a1] (I r):=
 hE Cg (Bub L) mixed Tryz.func187 (by kernel_rfl:C4 Tryz.prog inl Tryz.f187=some Bme) (er:=fun(x:Int)=>I x) (by kernel_rfl) (Bsb L a0 a1) h
noncomputable def A1s:EC:=(C4 Tryz.prog inl Tryz.f188).getD .stop
def A1a(L:Nat):Bi:=(Cp 99 (A4 (fun(x:Int)=>I x) Cl Bm (cI .i64) (cI .i64) (Eg L)) Kg)
theorem Buc(L:Nat):Bs Tryz.prog (A1a L):=(Ad (a4 _ (h99 L)) (Az Tryz.prog))
def Afv(a2:(List Be))(a0:Ai)(a1:Ab)(Ae:Int)(Ah:Int):St:=({ fr:= [(0,.any),(1,.any),(2,.lst false (.t68 a2)),(3,.loc 3 0),(4,.loc 4 0),(6,I Ae),(7,I Ah)],ob:= [(3,(B8 a0)),(4,(B2 a1))],base:=0 } :St)
def Aka(a2:(List Be))(a0:Ai)(a1:Ab)(K:Ex→St→Prop):Nat×(Int×Int)→Prop:=fun o=>Cr o.1 [K .ret (Afv a2 a0 a1 o.2.1 o.2.2),K (.exit 0) (Afv a2 a0 a1 o.2.1 o.2.2)]
def P0{A:Type}(an:An A)(L:Nat)(a2:(List Be))(a0:Ai)(a1:Ab)(rec:Int→Int→A)(out:Nat×(Int×Int)→A)(Ae:Int)(Ah:Int):A:=
 (an.cn (decide (Ah < (a2.length:Int)))
 (an.gd ((0:Int)≤Ah)
 (an.gd (Ah < ((a1.Args.length:Nat):Int))
 (an.gd ((0:Int)≤Ah)
 (an.gd (Ah < ((a2.length:Nat):Int))
 (an.gd ((0:Int)≤Ah)
 (an.gd (Ah < ((a2.length:Nat):Int))
 (an.bd (Eg L a0 (Aa.cp (a1.Args.getD (Int.toNat Ah) default)) ((a2.getD (Int.toNat Ah) default).Type_) ((a2.getD (Int.toNat Ah) default).Type_)) fun r1=>
 (an.cn (r1 != 0)
 (an.lf out (0,(r1,Ah)))
 (rec Ae (F9 (Ah+1)))))))))))
 (an.lf out (1,(Ae,Ah))))
def Nc(L:Nat)(a2:(List Be))(a0:Ai)(a1:Ab):Nat→Int→Int→Option (Nat×(Int×Int))
 |0,_,_=>none
 |n+1,Ae,Ah=>P0 (Bq _) L a2 a0 a1 (Nc L a2 a0 a1 n) some Ae Ah
theorem A9k(L:Nat)(a2:(List Be))(a0:Ai)(a1:Ab)(g:Int→Int→Option (Nat×(Int×Int)))(Q:Nat×(Int×Int)→Prop)(Ae:Int)(Ah:Int):P0 Bh L a2 a0 a1 (fun Ae Ah=>ob (g Ae Ah) Q) Q Ae Ah=ob (P0 (Bq _) L a2 a0 a1 g some Ae Ah) Q:=by
 unfold P0
 dsimp only [Bh,Bq]
 try simp only [y1,y2,y3,y4,y5 Q,y6,y7,y8 Q,y9,z1,z2,z3,z4]
theorem A81(L:Nat)(a2:(List Be))(a0:Ai)(a1:Ab)(n:Nat)(Ae:Int)(Ah:Int)(K:Ex→St→Prop):Bl (EV (A1a L) L 9 A1s.r.r.r.r.l.r.r.l.l) [0,1,2,3,4,6,7] [3,4] n (Afv a2 a0 a1 Ae Ah) K=ob (Nc L a2 a0 a1 n Ae Ah) (fun o=>Aka a2 a0 a1 K o):=by
 induction n generalizing Ae Ah with
 |zero=>rfl
 |succ n ih=>
  refine Eq.trans (b:=P0 Bh L a2 a0 a1 (fun Ae Ah=>Bl (EV (A1a L) L 9 A1s.r.r.r.r.l.r.r.l.l) [0,1,2,3,4,6,7] [3,4] n (Afv a2 a0 a1 Ae Ah) K) (Aka a2 a0 a1 K) Ae Ah) (by kernel_rfl) ?_
  simp only [ih]
  exact A9k L a2 a0 a1 (Nc L a2 a0 a1 n) (Aka a2 a0 a1 K) Ae Ah
def A0m(L:Nat)(kk:PV→Prop):Ex→St→Prop:=(Ca 0 (Dl (EV (A1a L) L 9 A1s.r.r.r.r.r) (Dx Tryz.prog (RS Tryz.f188) kk)))
theorem Bhe(L:Nat)(a2:(List Be))(a0:Ai)(a1:Ab)(kk:PV→Prop)(o1:Nat×(Int×Int)):Aka a2 a0 a1 (A0m L kk) o1=
 (Cr o1.1 [(ob (some o1.2.1) (fun(x:Int)=>kk (I x))),
 (ob (Eg L a0 (Aa.cp a1.E) 3 3) fun r2=>
 (ob (some r2) (fun(x:Int)=>kk (I x))))]):=by kernel_rfl
def Yb{A:Type}(an:An A)(L:Nat)(a0:Ai)(a1:Ab)(a2:(List Be))(out:Int→A):A:=
 (an.cn ((a1.Args.length:Int) != (a2.length:Int))
 (an.lf out 8)
 (an.bd (Nc L a2 a0 a1 L 0 0) fun o1=>
 (an.sl o1.1 [(an.lf out o1.2.1),
 (an.bd (Eg L a0 (Aa.cp a1.E) 3 3) fun r2=>
 (an.lf out r2))])))
def Pr(L:Nat)(a0:Ai)(a1:Ab)(a2:(List Be)):Option Int:=Yb (Bq _) L a0 a1 a2 some
theorem Bsc(L:Nat)(a0:Ai)(a1:Ab)(a2:(List Be))(kk:PV→Prop):EW (A1a L) L 9 (RS Tryz.f188) A1s [.agg (B8 a0),.agg (B2 a1),.lst false (.t68 a2)] kk=ob (Pr L a0 a1 a2) (fun(x:Int)=>kk (I x)):=by
 refine Eq.trans (b:=Yb Bh L a0 a1 a2 (fun(x:Int)=>kk (I x))) ?_ ?_
 ·refine Eq.trans (b:=(br ((a1.Args.length:Int) != (a2.length:Int))
 (ob (some 8) (fun(x:Int)=>kk (I x)))
 (Bl (EV (A1a L) L 9 A1s.r.r.r.r.l.r.r.l.l) [0,1,2,3,4,6,7] [3,4] L (Afv a2 a0 a1 0 0) (A0m L kk)))) (by kernel_rfl) ?_
  unfold Yb
  dsimp only [Bh]
  simp only [A81,Bhe]
 generalize (fun(x:Int)=>kk (I x))=Q
 unfold Pr Yb
 dsimp only [Bh,Bq]
 try simp only [y1,y2,y3,y4,y5 Q,y6,y7,y8 Q,y9,z1,z2,z3,z4]
theorem Bni(L:Nat)(a0:Ai)(a1:Ab)(a2:(List Be))(r:Int)(h:Pr L a0 a1 a2=some r):Bc Tryz.prog 188 [.agg (B8 a0),.agg (B2 a1),.lst false (.t68 a2)] (I r):=
 hE Cg (Buc L) mixed Tryz.func188 (by kernel_rfl:C4 Tryz.prog inl Tryz.f188=some A1s) (er:=fun(x:Int)=>I x) (by kernel_rfl) (Bsc L a0 a1 a2) h
noncomputable def A1o:EC:=(C4 Tryz.prog inl Tryz.f148).getD .stop
def A06(L:Nat):Bi:=Kg
theorem Btv(L:Nat):Bs Tryz.prog (A06 L):=(Az Tryz.prog)
def Afq(a1:ByteArray)(a0:Af)(Ae:Int)(Ah:Int):St:=({ fr:= [(0,.any),(1,S a1),(2,.loc 2 0),(4,I Ae),(5,I Ah)],ob:= [(2,(Bz a0))],base:=0 } :St)
def Aj5(a1:ByteArray)(a0:Af)(K:Ex→St→Prop):Nat×(Int×Int)→Prop:=fun o=>Cr o.1 [K .ret (Afq a1 a0 o.2.1 o.2.2),K (.exit 0) (Afq a1 a0 o.2.1 o.2.2)]
def Pz{A:Type}(an:An A)(L:Nat)(a1:ByteArray)(a0:Af)(rec:Int→Int→A)(out:Nat×(Int×Int)→A)(Ae:Int)(Ah:Int):A:=
 (an.cn (decide (Ah < (a0.Sites.length:Int)))
 (an.gd ((0:Int)≤Ah)
 (an.gd (Ah < ((a0.Sites.length:Nat):Int))
 (an.cn (((a0.Sites.getD (Int.toNat Ah) default).Name).toList == a1.toList)
 (an.lf out (0,(Ah,Ah)))
 (rec Ae (F9 (Ah+1))))))
 (an.lf out (1,(Ae,Ah))))
def Nb(L:Nat)(a1:ByteArray)(a0:Af):Nat→Int→Int→Option (Nat×(Int×Int))
 |0,_,_=>none
 |n+1,Ae,Ah=>Pz (Bq _) L a1 a0 (Nb L a1 a0 n) some Ae Ah
theorem A9e(L:Nat)(a1:ByteArray)(a0:Af)(g:Int→Int→Option (Nat×(Int×Int)))(Q:Nat×(Int×Int)→Prop)(Ae:Int)(Ah:Int):Pz Bh L a1 a0 (fun Ae Ah=>ob (g Ae Ah) Q) Q Ae Ah=ob (Pz (Bq _) L a1 a0 g some Ae Ah) Q:=by
 unfold Pz
 dsimp only [Bh,Bq]
 try simp only [y1,y2,y3,y4,y5 Q,y6,y7,y8 Q,y9,z1,z2,z3,z4]
theorem A8v(L:Nat)(a1:ByteArray)(a0:Af)(n:Nat)(Ae:Int)(Ah:Int)(K:Ex→St→Prop):Bl (EV (A06 L) L 9 A1o.r.r.l.r.r.l.l) [0,1,2,4,5] [2] n (Afq a1 a0 Ae Ah) K=ob (Nb L a1 a0 n Ae Ah) (fun o=>Aj5 a1 a0 K o):=by
 induction n generalizing Ae Ah with
 |zero=>rfl
 |succ n ih=>
  refine Eq.trans (b:=Pz Bh L a1 a0 (fun Ae Ah=>Bl (EV (A06 L) L 9 A1o.r.r.l.r.r.l.l) [0,1,2,4,5] [2] n (Afq a1 a0 Ae Ah) K) (Aj5 a1 a0 K) Ae Ah) (by kernel_rfl) ?_
  simp only [ih]
  exact A9e L a1 a0 (Nb L a1 a0 n) (Aj5 a1 a0 K) Ae Ah
def Az8(L:Nat)(kk:PV→Prop):Ex→St→Prop:=(Ca 0 (Dl (EV (A06 L) L 9 A1o.r.r.r) (Dx Tryz.prog (RS Tryz.f148) kk)))
theorem Bg0(L:Nat)(a1:ByteArray)(a0:Af)(kk:PV→Prop)(o1:Nat×(Int×Int)):Aj5 a1 a0 (Az8 L kk) o1=
 (Cr o1.1 [(ob (some o1.2.1) (fun(x:Int)=>kk (I x))),
 (ob (some (-1)) (fun(x:Int)=>kk (I x)))]):=by kernel_rfl
def Ya{A:Type}(an:An A)(L:Nat)(a0:Af)(a1:ByteArray)(out:Int→A):A:=
 (an.bd (Nb L a1 a0 L 0 0) fun o1=>
 (an.sl o1.1 [(an.lf out o1.2.1),
 (an.lf out (-1))]))
def Sv(L:Nat)(a0:Af)(a1:ByteArray):Option Int:=Ya (Bq _) L a0 a1 some
theorem Brv(L:Nat)(a0:Af)(a1:ByteArray)(kk:PV→Prop):EW (A06 L) L 9 (RS Tryz.f148) A1o [.agg (Bz a0),S a1] kk=ob (Sv L a0 a1) (fun(x:Int)=>kk (I x)):=by
 refine Eq.trans (b:=Ya Bh L a0 a1 (fun(x:Int)=>kk (I x))) ?_ ?_
 ·refine Eq.trans (b:=(Bl (EV (A06 L) L 9 A1o.r.r.l.r.r.l.l) [0,1,2,4,5] [2] L (Afq a1 a0 0 0) (Az8 L kk))) (by kernel_rfl) ?_
  unfold Ya
  dsimp only [Bh]
  simp only [A8v,Bg0]
 generalize (fun(x:Int)=>kk (I x))=Q
 unfold Sv Ya
 dsimp only [Bh,Bq]
 try simp only [y1,y2,y3,y4,y5 Q,y6,y7,y8 Q,y9,z1,z2,z3,z4]
theorem Bm2(L:Nat)(a0:Af)(a1:ByteArray)(r:Int)(h:Sv L a0 a1=some r):Bc Tryz.prog 148 [.agg (Bz a0),S a1] (I r):=
 hE Cg (Btv L) mixed Tryz.func148 (by kernel_rfl:C4 Tryz.prog inl Tryz.f148=some A1o) (er:=fun(x:Int)=>I x) (by kernel_rfl) (Brv L a0 a1) h
noncomputable def A1t:EC:=(C4 Tryz.prog inl Tryz.f189).getD .stop
def A1b(L:Nat):Bi:=Kg
theorem Bud(L:Nat):Bs Tryz.prog (A1b L):=(Az Tryz.prog)
def Afw(a1:ByteArray)(a2:ByteArray)(a0:Af)(Ah:Int)(Aj:Bool)(Ba:Int):St:=({ fr:= [(0,.any),(1,S a1),(2,S a2),(3,.loc 3 0),(6,I Ah),(7,B Aj),(8,I Ba)],ob:= [(3,(Bz a0))],base:=0 } :St)
def Akb(a1:ByteArray)(a2:ByteArray)(a0:Af)(K:Ex→St→Prop):Nat×(Int×Bool×Int)→Prop:=fun o=>Cr o.1 [K .ret (Afw a1 a2 a0 o.2.1 o.2.2.1 o.2.2.2),K (.exit 0) (Afw a1 a2 a0 o.2.1 o.2.2.1 o.2.2.2)]
def Py{A:Type}(an:An A)(L:Nat)(a1:ByteArray)(a2:ByteArray)(a0:Af)(rec:Int→Bool→Int→A)(out:Nat×(Int×Bool×Int)→A)(Ah:Int)(Aj:Bool)(Ba:Int):A:=
 (an.cn (decide (Ba < (a0.Links.length:Int)))
 (an.gd ((0:Int)≤Ba)
 (an.gd (Ba < ((a0.Links.length:Nat):Int))
 (an.jb (bif (((a0.Links.getD (Int.toNat Ba) default).From).toList == a1.toList) then (if (0:Int)≤Ba then
 (if Ba < ((a0.Links.length:Nat):Int) then
 (some (((a0.Links.getD (Int.toNat Ba) default).To).toList == a2.toList)) else none) else none)
 else (some false)) (fun j=>(an.cn (((a0.Links.getD (Int.toNat Ba) default).From).toList == a1.toList)
 (an.gd ((0:Int)≤Ba)
 (an.gd (Ba < ((a0.Links.length:Nat):Int))
 (an.lf j (((a0.Links.getD (Int.toNat Ba) default).To).toList == a2.toList))))
 (an.lf j false))) (fun b1=>
 (an.cn b1
 (an.gd ((0:Int)≤Ba)
 (an.gd (Ba < ((a0.Links.length:Nat):Int))
 (an.lf out (0,(((a0.Links.getD (Int.toNat Ba) default).Delay),true,Ba)))))
 (rec Ah Aj (F9 (Ba+1))))))))
 (an.lf out (1,(Ah,Aj,Ba))))
def Na(L:Nat)(a1:ByteArray)(a2:ByteArray)(a0:Af):Nat→Int→Bool→Int→Option (Nat×(Int×Bool×Int))
 |0,_,_,_=>none
 |n+1,Ah,Aj,Ba=>Py (Bq _) L a1 a2 a0 (Na L a1 a2 a0 n) some Ah Aj Ba
theorem A9l(L:Nat)(a1:ByteArray)(a2:ByteArray)(a0:Af)(g:Int→Bool→Int→Option (Nat×(Int×Bool×Int)))(Q:Nat×(Int×Bool×Int)→Prop)(Ah:Int)(Aj:Bool)(Ba:Int):Py Bh L a1 a2 a0 (fun Ah Aj Ba=>ob (g Ah Aj Ba) Q) Q Ah Aj Ba=ob (Py (Bq _) L a1 a2 a0 g some Ah Aj Ba) Q:=by
 unfold Py
 dsimp only [Bh,Bq]
 try simp only [y1,y2,y3,y4,y5 Q,y6,y7,y8 Q,y9,z1,z2,z3,z4]
 try simp only [z5,z6,y1,y2,y3,y4,y5 Q,y6,y7,y8 Q,y9,z1,z2,z3,z4]
theorem A82(L:Nat)(a1:ByteArray)(a2:ByteArray)(a0:Af)(n:Nat)(Ah:Int)(Aj:Bool)(Ba:Int)(K:Ex→St→Prop):Bl (EV (A1b L) L 9 A1t.r.r.l.r.r.l.l) [0,1,2,3,6,7,8] [3] n (Afw a1 a2 a0 Ah Aj Ba) K=ob (Na L a1 a2 a0 n Ah Aj Ba) (fun o=>Akb a1 a2 a0 K o):=by
 induction n generalizing Ah Aj Ba with
 |zero=>rfl
 |succ n ih=>
  refine Eq.trans (b:=Py Bh L a1 a2 a0 (fun Ah Aj Ba=>Bl (EV (A1b L) L 9 A1t.r.r.l.r.r.l.l) [0,1,2,3,6,7,8] [3] n (Afw a1 a2 a0 Ah Aj Ba) K) (Akb a1 a2 a0 K) Ah Aj Ba) (by kernel_rfl) ?_
  simp only [ih]
  exact A9l L a1 a2 a0 (Na L a1 a2 a0 n) (Akb a1 a2 a0 K) Ah Aj Ba
def A0n(L:Nat)(kk:PV→Prop):Ex→St→Prop:=(Ca 0 (Dl (EV (A1b L) L 9 A1t.r.r.r) (Dx Tryz.prog (RS Tryz.f189) kk)))
theorem Bhf(L:Nat)(a1:ByteArray)(a2:ByteArray)(a0:Af)(kk:PV→Prop)(o1:Nat×(Int×Bool×Int)):Akb a1 a2 a0 (A0n L kk) o1=
 (Cr o1.1 [(ob (some (o1.2.1,o1.2.2.1)) (fun(x:(Int×Bool))=>kk (.tup [I x.1,B x.2]))),
 (ob (some (0,false)) (fun(x:(Int×Bool))=>kk (.tup [I x.1,B x.2])))]):=by kernel_rfl
def X9{A:Type}(an:An A)(L:Nat)(a0:Af)(a1:ByteArray)(a2:ByteArray)(out:(Int×Bool)→A):A:=
 (an.bd (Na L a1 a2 a0 L 0 false 0) fun o1=>
 (an.sl o1.1 [(an.lf out (o1.2.1,o1.2.2.1)),
 (an.lf out (0,false))]))
def Su(L:Nat)(a0:Af)(a1:ByteArray)(a2:ByteArray):Option (Int×Bool):=X9 (Bq _) L a0 a1 a2 some
theorem Bsd(L:Nat)(a0:Af)(a1:ByteArray)(a2:ByteArray)(kk:PV→Prop):EW (A1b L) L 9 (RS Tryz.f189) A1t [.agg (Bz a0),S a1,S a2] kk=ob (Su L a0 a1 a2) (fun(x:(Int×Bool))=>kk (.tup [I x.1,B x.2])):=by
 refine Eq.trans (b:=X9 Bh L a0 a1 a2 (fun(x:(Int×Bool))=>kk (.tup [I x.1,B x.2]))) ?_ ?_
 ·refine Eq.trans (b:=(Bl (EV (A1b L) L 9 A1t.r.r.l.r.r.l.l) [0,1,2,3,6,7,8] [3] L (Afw a1 a2 a0 0 false 0) (A0n L kk))) (by kernel_rfl) ?_
  unfold X9
  dsimp only [Bh]
  simp only [A82,Bhf]
 generalize (fun(x:(Int×Bool))=>kk (.tup [I x.1,B x.2]))=Q
 unfold Su X9
 dsimp only [Bh,Bq]
 try simp only [y1,y2,y3,y4,y5 Q,y6,y7,y8 Q,y9,z1,z2,z3,z4]
theorem Bnj(L:Nat)(a0:Af)(a1:ByteArray)(a2:ByteArray)(r:(Int×Bool))(h:Su L a0 a1 a2=some r):Bc Tryz.prog 189 [.agg (Bz a0),S a1,S a2] (.tup [I r.1,B r.2]):=
 hE Cg (Bud L) mixed Tryz.func189 (by kernel_rfl:C4 Tryz.prog inl Tryz.f189=some A1t) (er:=fun(x:(Int×Bool))=> .tup [I x.1,B x.2]) (by kernel_rfl) (Bsd L a0 a1 a2) h
noncomputable def Bl0:EC:=(C4 Tryz.prog inl Tryz.f100).getD .stop
def Bkr(L:Nat):Bi:=(Cp 148 (A2 (fun(x:Int)=>I x) C2 cS (Sv L)) (Cp 187 (A2 (fun(x:Int)=>I x) Cw cS (Ie L)) (Cp 188 (A3 (fun(x:Int)=>I x) Cl Co Acj (Pr L)) (Cp 189 (A3 (fun(x:(Int×Bool))=> .tup [I x.1,B x.2]) C2 cS cS (Su L)) Kg))))
theorem Btn(L:Nat):Bs Tryz.prog (Bkr L):=(Ad (a2 _ (Bm2 L)) (Ad (a2 _ (Bnh L)) (Ad (a3 _ (Bni L)) (Ad (a3 _ (Bnj L)) (Az Tryz.prog)))))
def Zi{A:Type}(an:An A)(L:Nat)(a0:Af)(a1:Ai)(a2:Ab)(out:Int→A):A:=
 (an.cn (a2.Op == 14)
 (an.bd (Ie L a1.Site a2.Name) fun r1=>
 (an.cn (decide (r1 < 0))
 (an.lf out 5)
 (an.gd ((0:Int)≤r1)
 (an.gd (r1 < ((a1.Site.Routines.length:Nat):Int))
 (an.bd (Pr L a1 (Ab.cp a2) ((a1.Site.Routines.getD (Int.toNat r1) default).Params)) fun r2=>
 (an.lf out r2))))))
 (an.bd (Sv L a0 a2.Of) fun r3=>
 (an.cn (decide (r3 < 0))
 (an.lf out 5)
 (an.gd ((0:Int)≤r3)
 (an.gd (r3 < ((a0.Sites.length:Nat):Int))
 (an.bd (Ie L (a0.Sites.getD (Int.toNat r3) default) a2.Name) fun r4=>
 (an.cn (decide (r4 < 0))
 (an.lf out 5)
 (an.bd (Su L a0 a1.Site.Name a2.Of) fun r5=>
 (an.cn (!r5.2)
 (an.lf out 16)
 (an.gd ((0:Int)≤r3)
 (an.gd (r3 < ((a0.Sites.length:Nat):Int))
 (an.gd ((0:Int)≤r3)
 (an.gd (r3 < ((a0.Sites.length:Nat):Int))
 (an.bd (Ie L (a0.Sites.getD (Int.toNat r3) default) a2.Name) fun r6=>
 (an.gd ((0:Int)≤r6)
 (an.gd (r6 < ((((a0.Sites.getD (Int.toNat r3) default).Routines).length:Nat):Int))
 (an.bd (Pr L a1 (Ab.cp a2) ((((a0.Sites.getD (Int.toNat r3) default).Routines).getD (Int.toNat r6) default).Params)) fun r7=>
 (an.lf out r7))))))))))))))))))
def Rc(L:Nat)(a0:Af)(a1:Ai)(a2:Ab):Option Int:=Zi (Bq _) L a0 a1 a2 some
theorem Brn(L:Nat)(a0:Af)(a1:Ai)(a2:Ab)(kk:PV→Prop):EW (Bkr L) L 9 (RS Tryz.f100) Bl0 [.agg (Bz a0),.agg (B8 a1),.agg (B2 a2)] kk=ob (Rc L a0 a1 a2) (fun(x:Int)=>kk (I x)):=by
 refine Eq.trans (b:=Zi Bh L a0 a1 a2 (fun(x:Int)=>kk (I x))) (by kernel_rfl) ?_
 generalize (fun(x:Int)=>kk (I x))=Q
 unfold Rc Zi
 dsimp only [Bh,Bq]
 try simp only [y1,y2,y3,y4,y5 Q,y6,y7,y8 Q,y9,z1,z2,z3,z4]
theorem Bmw(L:Nat)(a0:Af)(a1:Ai)(a2:Ab)(r:Int)(h:Rc L a0 a1 a2=some r):Bc Tryz.prog 100 [.agg (Bz a0),.agg (B8 a1),.agg (B2 a2)] (I r):=
 hE Cg (Btn L) mixed Tryz.func100 (by kernel_rfl:C4 Tryz.prog inl Tryz.f100=some Bl0) (er:=fun(x:Int)=>I x) (by kernel_rfl) (Brn L a0 a1 a2) h
noncomputable def c57:EC:=(C4 Tryz.prog inl Tryz.f57).getD .stop
def O57(L:Nat):Bi:=(Cp 30 (A2 (fun(x:(Int×Bool))=> .tup [I x.1,B x.2]) Acj cS (I5 L)) (Cp 86 (A2 (fun(x:ByteArray)=>S x) Cw cS (Ij L)) (Cp 97 (A1 (fun(x:ByteArray)=>S x) (cI .i64) (Re L)) (Cp 98 (A2 (fun(x:Int)=>I x) Cl Co (T0 L)) (Cp 99 (A4 (fun(x:Int)=>I x) Cl Bm (cI .i64) (cI .i64) (Eg L)) (Cp 100 (A3 (fun(x:Int)=>I x) C2 Cl Co (Rc L)) Kg))))))
theorem s57(L:Nat):Bs Tryz.prog (O57 L):=(Ad (a2 _ (h30 L)) (Ad (a2 _ (h86 L)) (Ad (a1 _ (h97 L)) (Ad (a2 _ (h98 L)) (Ad (a4 _ (h99 L)) (Ad (a3 _ (Bmw L)) (Az Tryz.prog)))))))
def A6n(a0:Af)(a1:Ai)(a2:Ab)(p804_1:Bool):St:=({ fr:= [(4,.loc 4 0),(5,.loc 5 0),(6,I 0),(86,B p804_1)],ob:= [(3,(Bz a0)),(4,(B8 a1)),(5,(B2 a2))],base:=0 } :St)
def A5t(L:Nat)(e0:EC)(kk:PV→Prop):Ex→St→Prop:=(Ca 0 (Dl (EV (O57 L) L 9 e0) (Dx Tryz.prog (RS Tryz.f57) kk)))
def P6{A:Type}(an:An A)(L:Nat)(a0:Af)(a1:Ai)(a2:Ab)(p804_1:Bool)(out:Int→A):A:=
 (an.cn p804_1
 (an.bd (Eg L a1 (Aa.cp a2.E) 1 1) fun r13=>
 (an.lf out r13))
 (an.lf out 0))
theorem Bb5(L:Nat)(a0:Af)(a1:Ai)(a2:Ab)(p804_1:Bool)(kk:PV→Prop):EV (O57 L) L 9 c57.r.r.r.r.r.r.l.r.r.l.r.r.r.r.r.r.r.r.r.r.r.r.r.r.r.r.r.r.r.r.r.r.r (A6n a0 a1 a2 p804_1) (A5t L c57.r.r.r.r.r.r.r kk)=P6 Bh L a0 a1 a2 p804_1 (fun(x:Int)=>kk (I x)):=by kernel_rfl
theorem Biy(L:Nat)(a0:Af)(a1:Ai)(a2:Ab)(p804_1:Bool)(Q:Int→Prop):P6 Bh L a0 a1 a2 p804_1 Q=ob (P6 (Bq _) L a0 a1 a2 p804_1 some) Q:=by
 unfold P6
 dsimp only [Bh,Bq]
 try simp only [y1,y2,y3,y4,y5 Q,y6,y7,y8 Q,y9,z1,z2,z3,z4]
def Aug(a2:Ab)(a0:Af)(a1:Ai)(p803_2:Bool):St:=({ fr:= [(3,.loc 3 0),(4,.loc 4 0),(5,.loc 5 0),(6,I 0),(26,I a2.Op),(73,B p803_2)],ob:= [(3,(Bz a0)),(4,(B8 a1)),(5,(B2 a2))],base:=0 } :St)
def As0(L:Nat)(e0:EC)(kk:PV→Prop):Ex→St→Prop:=(Ca 0 (Dl (EV (O57 L) L 9 e0) (Dx Tryz.prog (RS Tryz.f57) kk)))
def Sh{A:Type}(an:An A)(L:Nat)(a2:Ab)(a0:Af)(a1:Ai)(p803_2:Bool)(nx4:Af→Ai→Ab→Bool→A)(out:Int→A):A:=
 (an.cn p803_2
 (an.bd (Rc L a0 a1 (Ab.cp a2)) fun r11=>
 (an.lf out r11))
 (an.cn (a2.Op == 15)
 (an.bd (Eg L a1 (Aa.cp a2.E) 1 3) fun r12=>
 (an.lf out r12))
 (an.cn (a2.Op == 7)
 (nx4 a0 a1 a2 (a2.Op == 7))
 (an.cn (a2.Op == 8)
 (nx4 a0 a1 a2 (a2.Op == 8))
 (an.cn (a2.Op == 12)
 (nx4 a0 a1 a2 (a2.Op == 12))
 (an.cn (a2.Op == 16)
 (nx4 a0 a1 a2 (a2.Op == 16))
 (nx4 a0 a1 a2 (a2.Op == 17))))))))
def Nm{A:Type}(an:An A)(L:Nat)(a2:Ab)(a0:Af)(a1:Ai)(p803_2:Bool)(out:Int→A):A:=Sh an L a2 a0 a1 p803_2 (fun a0 a1 a2 p804_1=>P6 an L a0 a1 a2 p804_1 out) out
theorem Bh7(L:Nat)(a2:Ab)(a0:Af)(a1:Ai)(p803_2:Bool)(g4:Af→Ai→Ab→Bool→Option Int)(Q:Int→Prop):Sh Bh L a2 a0 a1 p803_2 (fun a0 a1 a2 p804_1=>ob (g4 a0 a1 a2 p804_1) Q) Q=ob (Sh (Bq _) L a2 a0 a1 p803_2 g4 some) Q:=by
 unfold Sh
 dsimp only [Bh,Bq]
 try simp only [y1,y2,y3,y4,y5 Q,y6,y7,y8 Q,y9,z1,z2,z3,z4]
theorem Bcs(L:Nat)(a2:Ab)(a0:Af)(a1:Ai)(p803_2:Bool)(kk:PV→Prop)(z4:EC):EV (O57 L) L 9 (EC.put [false,false,false,false,false,false] z4 c57.r.r.r.r.r.r.l.r.r.l.r.r.r.r.r.r.r.r.r.r.r.r.r.r.r.r.r) (Aug a2 a0 a1 p803_2) (As0 L c57.r.r.r.r.r.r.r kk)=Sh Bh L a2 a0 a1 p803_2 (fun a0 a1 a2 p804_1=>EV (O57 L) L 9 z4 (A6n a0 a1 a2 p804_1) (A5t L c57.r.r.r.r.r.r.r kk)) (fun(x:Int)=>kk (I x)):=by kernel_rfl
theorem Bb4(L:Nat)(a2:Ab)(a0:Af)(a1:Ai)(p803_2:Bool)(kk:PV→Prop):EV (O57 L) L 9 c57.r.r.r.r.r.r.l.r.r.l.r.r.r.r.r.r.r.r.r.r.r.r.r.r.r.r.r (Aug a2 a0 a1 p803_2) (As0 L c57.r.r.r.r.r.r.r kk)=Nm Bh L a2 a0 a1 p803_2 (fun(x:Int)=>kk (I x)):=by
 refine Eq.trans (b:=EV (O57 L) L 9 (EC.put [false,false,false,false,false,false] c57.r.r.r.r.r.r.l.r.r.l.r.r.r.r.r.r.r.r.r.r.r.r.r.r.r.r.r.r.r.r.r.r.r c57.r.r.r.r.r.r.l.r.r.l.r.r.r.r.r.r.r.r.r.r.r.r.r.r.r.r.r) (Aug a2 a0 a1 p803_2) (As0 L c57.r.r.r.r.r.r.r kk)) (by kernel_rfl) ?_
 refine Eq.trans (Bcs L a2 a0 a1 p803_2 kk c57.r.r.r.r.r.r.l.r.r.l.r.r.r.r.r.r.r.r.r.r.r.r.r.r.r.r.r.r.r.r.r.r.r) ?_
 unfold Nm
 simp only [Bb5]
theorem Bix(L:Nat)(a2:Ab)(a0:Af)(a1:Ai)(p803_2:Bool)(Q:Int→Prop):Nm Bh L a2 a0 a1 p803_2 Q=ob (Nm (Bq _) L a2 a0 a1 p803_2 some) Q:=by
 unfold Nm
 simp only [Biy]
 exact Bh7 L a2 a0 a1 p803_2 (fun a0 a1 a2 p804_1=>P6 (Bq _) L a0 a1 a2 p804_1 some) Q
def Auf(a2:Ab)(a0:Af)(a1:Ai)(p802_2:Bool):St:=({ fr:= [(3,.loc 3 0),(4,.loc 4 0),(5,.loc 5 0),(6,I 0),(26,I a2.Op),(33,B p802_2)],ob:= [(3,(Bz a0)),(4,(B8 a1)),(5,(B2 a2))],base:=0 } :St)
def Asz(L:Nat)(e0:EC)(kk:PV→Prop):Ex→St→Prop:=(Ca 0 (Dl (EV (O57 L) L 9 e0) (Dx Tryz.prog (RS Tryz.f57) kk)))
def Sg{A:Type}(an:An A)(L:Nat)(a2:Ab)(a0:Af)(a1:Ai)(p802_2:Bool)(nx3:Ab→Af→Ai→Bool→A)(out:Int→A):A:=
 (an.cn p802_2
 (an.bd (Eg L a1 (Aa.cp a2.E) 2 2) fun r6=>
 (an.lf out r6))
 (an.cn (a2.Op == 5)
 (an.bd (Eg L a1 (Aa.cp a2.E) 3 3) fun r7=>
 (an.lf out r7))
 (an.cn (a2.Op == 6)
 (an.bd (Eg L a1 (Aa.cp a2.E) 1 1) fun r8=>
 (an.cn (r8 != 0)
 (an.lf out r8)
 (an.bd (Eg L a1 (Aa.cp a2.F) 1 1) fun r9=>
 (an.lf out r9))))
 (an.cn (a2.Op == 9)
 (an.bd (I5 L a1.Locals a2.Of) fun r10=>
 (an.cn (!r10.2)
 (an.lf out 5)
 (an.cn (r10.1 != 1)
 (an.lf out 10)
 (an.lf out 0))))
 (an.cn (a2.Op == 13)
 (nx3 a2 a0 a1 (a2.Op == 13))
 (nx3 a2 a0 a1 (a2.Op == 14)))))))
def Nl{A:Type}(an:An A)(L:Nat)(a2:Ab)(a0:Af)(a1:Ai)(p802_2:Bool)(out:Int→A):A:=Sg an L a2 a0 a1 p802_2 (fun a2 a0 a1 p803_2=>Nm an L a2 a0 a1 p803_2 out) out
theorem Bh6(L:Nat)(a2:Ab)(a0:Af)(a1:Ai)(p802_2:Bool)(g3:Ab→Af→Ai→Bool→Option Int)(Q:Int→Prop):Sg Bh L a2 a0 a1 p802_2 (fun a2 a0 a1 p803_2=>ob (g3 a2 a0 a1 p803_2) Q) Q=ob (Sg (Bq _) L a2 a0 a1 p802_2 g3 some) Q:=by
 unfold Sg
 dsimp only [Bh,Bq]
 try simp only [y1,y2,y3,y4,y5 Q,y6,y7,y8 Q,y9,z1,z2,z3,z4]
theorem Bcr(L:Nat)(a2:Ab)(a0:Af)(a1:Ai)(p802_2:Bool)(kk:PV→Prop)(z3:EC):EV (O57 L) L 9 (EC.put [false,false,false,false,false,false,false,false,false,false,false,false] z3 c57.r.r.r.r.r.r.l.r.r.l.r.r.r.r.r) (Auf a2 a0 a1 p802_2) (Asz L c57.r.r.r.r.r.r.r kk)=Sg Bh L a2 a0 a1 p802_2 (fun a2 a0 a1 p803_2=>EV (O57 L) L 9 z3 (Aug a2 a0 a1 p803_2) (As0 L c57.r.r.r.r.r.r.r kk)) (fun(x:Int)=>kk (I x)):=by kernel_rfl
theorem Bb3(L:Nat)(a2:Ab)(a0:Af)(a1:Ai)(p802_2:Bool)(kk:PV→Prop):EV (O57 L) L 9 c57.r.r.r.r.r.r.l.r.r.l.r.r.r.r.r (Auf a2 a0 a1 p802_2) (Asz L c57.r.r.r.r.r.r.r kk)=Nl Bh L a2 a0 a1 p802_2 (fun(x:Int)=>kk (I x)):=by
 refine Eq.trans (b:=EV (O57 L) L 9 (EC.put [false,false,false,false,false,false,false,false,false,false,false,false] c57.r.r.r.r.r.r.l.r.r.l.r.r.r.r.r.r.r.r.r.r.r.r.r.r.r.r.r c57.r.r.r.r.r.r.l.r.r.l.r.r.r.r.r) (Auf a2 a0 a1 p802_2) (Asz L c57.r.r.r.r.r.r.r kk)) (by kernel_rfl) ?_
 refine Eq.trans (Bcr L a2 a0 a1 p802_2 kk c57.r.r.r.r.r.r.l.r.r.l.r.r.r.r.r.r.r.r.r.r.r.r.r.r.r.r.r) ?_
 unfold Nl
 simp only [Bb4]
theorem Biw(L:Nat)(a2:Ab)(a0:Af)(a1:Ai)(p802_2:Bool)(Q:Int→Prop):Nl Bh L a2 a0 a1 p802_2 Q=ob (Nl (Bq _) L a2 a0 a1 p802_2 some) Q:=by
 unfold Nl
 simp only [Bix]
 exact Bh6 L a2 a0 a1 p802_2 (fun a2 a0 a1 p803_2=>Nm (Bq _) L a2 a0 a1 p803_2 some) Q
def Aue(a2:Ab)(a0:Af)(a1:Ai)(p801_2:Bool):St:=({ fr:= [(3,.loc 3 0),(4,.loc 4 0),(5,.loc 5 0),(6,I 0),(26,I a2.Op),(27,B p801_2)],ob:= [(3,(Bz a0)),(4,(B8 a1)),(5,(B2 a2))],base:=0 } :St)
def Asy(L:Nat)(e0:EC)(kk:PV→Prop):Ex→St→Prop:=(Ca 0 (Dl (EV (O57 L) L 9 e0) (Dx Tryz.prog (RS Tryz.f57) kk)))
def Sf{A:Type}(an:An A)(L:Nat)(a2:Ab)(a0:Af)(a1:Ai)(p801_2:Bool)(nx2:Ab→Af→Ai→Bool→A)(out:Int→A):A:=
 (an.cn p801_2
 (an.bd (T0 L a1 (Ab.cp a2)) fun r5=>
 (an.lf out r5))
 (an.cn (a2.Op == 3)
 (nx2 a2 a0 a1 (a2.Op == 3))
 (nx2 a2 a0 a1 (a2.Op == 4))))
def Nk{A:Type}(an:An A)(L:Nat)(a2:Ab)(a0:Af)(a1:Ai)(p801_2:Bool)(out:Int→A):A:=Sf an L a2 a0 a1 p801_2 (fun a2 a0 a1 p802_2=>Nl an L a2 a0 a1 p802_2 out) out
theorem Bh5(L:Nat)(a2:Ab)(a0:Af)(a1:Ai)(p801_2:Bool)(g2:Ab→Af→Ai→Bool→Option Int)(Q:Int→Prop):Sf Bh L a2 a0 a1 p801_2 (fun a2 a0 a1 p802_2=>ob (g2 a2 a0 a1 p802_2) Q) Q=ob (Sf (Bq _) L a2 a0 a1 p801_2 g2 some) Q:=by
 unfold Sf
 dsimp only [Bh,Bq]
 try simp only [y1,y2,y3,y4,y5 Q,y6,y7,y8 Q,y9,z1,z2,z3,z4]
theorem Bcq(L:Nat)(a2:Ab)(a0:Af)(a1:Ai)(p801_2:Bool)(kk:PV→Prop)(z2:EC):EV (O57 L) L 9 (EC.put [false,false,false] z2 c57.r.r.r.r.r.r.l.r.r.l.r.r) (Aue a2 a0 a1 p801_2) (Asy L c57.r.r.r.r.r.r.r kk)=Sf Bh L a2 a0 a1 p801_2 (fun a2 a0 a1 p802_2=>EV (O57 L) L 9 z2 (Auf a2 a0 a1 p802_2) (Asz L c57.r.r.r.r.r.r.r kk)) (fun(x:Int)=>kk (I x)):=by kernel_rfl
theorem Bb2(L:Nat)(a2:Ab)(a0:Af)(a1:Ai)(p801_2:Bool)(kk:PV→Prop):EV (O57 L) L 9 c57.r.r.r.r.r.r.l.r.r.l.r.r (Aue a2 a0 a1 p801_2) (Asy L c57.r.r.r.r.r.r.r kk)=Nk Bh L a2 a0 a1 p801_2 (fun(x:Int)=>kk (I x)):=by
 refine Eq.trans (b:=EV (O57 L) L 9 (EC.put [false,false,false] c57.r.r.r.r.r.r.l.r.r.l.r.r.r.r.r c57.r.r.r.r.r.r.l.r.r.l.r.r) (Aue a2 a0 a1 p801_2) (Asy L c57.r.r.r.r.r.r.r kk)) (by kernel_rfl) ?_
 refine Eq.trans (Bcq L a2 a0 a1 p801_2 kk c57.r.r.r.r.r.r.l.r.r.l.r.r.r.r.r) ?_
 unfold Nk
 simp only [Bb3]
theorem Biv(L:Nat)(a2:Ab)(a0:Af)(a1:Ai)(p801_2:Bool)(Q:Int→Prop):Nk Bh L a2 a0 a1 p801_2 Q=ob (Nk (Bq _) L a2 a0 a1 p801_2 some) Q:=by
 unfold Nk
 simp only [Biw]
 exact Bh5 L a2 a0 a1 p801_2 (fun a2 a0 a1 p802_2=>Nl (Bq _) L a2 a0 a1 p802_2 some) Q
def Se{A:Type}(an:An A)(L:Nat)(a0:Af)(a1:Ai)(a2:Ab)(nx1:Ab→Af→Ai→Bool→A)(out:Int→A):A:=
 (an.bd (Re L a2.Op) fun r1=>
 (an.jb (bif (!(r1.toList == (⟨#[]⟩:ByteArray).toList)) then (Option.bind (Ij L a1.Site a2.Name) fun r3=>
 (some (!(r3.toList == r1.toList))))
 else (some false)) (fun j=>(an.cn (!(r1.toList == (⟨#[]⟩:ByteArray).toList))
 (an.bd (Ij L a1.Site a2.Name) fun r4=>
 (an.lf j (!(r4.toList == r1.toList))))
 (an.lf j false))) (fun b2=>
 (an.cn b2
 (an.lf out 5)
 (an.cn (a2.Op == 1)
 (nx1 a2 a0 a1 (a2.Op == 1))
 (nx1 a2 a0 a1 (a2.Op == 2)))))))
def Ac9{A:Type}(an:An A)(L:Nat)(a0:Af)(a1:Ai)(a2:Ab)(out:Int→A):A:=Se an L a0 a1 a2 (fun a2 a0 a1 p801_2=>Nk an L a2 a0 a1 p801_2 out) out
theorem Bh4(L:Nat)(a0:Af)(a1:Ai)(a2:Ab)(g1:Ab→Af→Ai→Bool→Option Int)(Q:Int→Prop):Se Bh L a0 a1 a2 (fun a2 a0 a1 p801_2=>ob (g1 a2 a0 a1 p801_2) Q) Q=ob (Se (Bq _) L a0 a1 a2 g1 some) Q:=by
 unfold Se
 dsimp only [Bh,Bq]
 try simp only [y1,y2,y3,y4,y5 Q,y6,y7,y8 Q,y9,z1,z2,z3,z4]
theorem Bcp(L:Nat)(a0:Af)(a1:Ai)(a2:Ab)(kk:PV→Prop)(z1:EC):EW (O57 L) L 9 (RS Tryz.f57) (EC.put [false,false,false,false,false,false,true,false,false,true,false,false] z1 c57) [.agg (Bz a0),.agg (B8 a1),.agg (B2 a2)] kk=Se Bh L a0 a1 a2 (fun a2 a0 a1 p801_2=>EV (O57 L) L 9 z1 (Aue a2 a0 a1 p801_2) (Asy L c57.r.r.r.r.r.r.r kk)) (fun(x:Int)=>kk (I x)):=by kernel_rfl
def Rl(L:Nat)(a0:Af)(a1:Ai)(a2:Ab):Option Int:=Ac9 (Bq _) L a0 a1 a2 some
theorem e57(L:Nat)(a0:Af)(a1:Ai)(a2:Ab)(kk:PV→Prop):EW (O57 L) L 9 (RS Tryz.f57) c57 [.agg (Bz a0),.agg (B8 a1),.agg (B2 a2)] kk=ob (Rl L a0 a1 a2) (fun(x:Int)=>kk (I x)):=by
 refine Eq.trans (b:=EW (O57 L) L 9 (RS Tryz.f57) (EC.put [false,false,false,false,false,false,true,false,false,true,false,false] c57.r.r.r.r.r.r.l.r.r.l.r.r c57) [.agg (Bz a0),.agg (B8 a1),.agg (B2 a2)] kk) (by kernel_rfl) ?_
 refine Eq.trans (Bcp L a0 a1 a2 kk c57.r.r.r.r.r.r.l.r.r.l.r.r) ?_
 simp only [Bb2]
 generalize (fun(x:Int)=>kk (I x))=Q
 simp only [Biv]
 unfold Rl Ac9
 exact Bh4 L a0 a1 a2 (fun a2 a0 a1 p801_2=>Nk (Bq _) L a2 a0 a1 p801_2 some) Q
theorem h57(L:Nat)(a0:Af)(a1:Ai)(a2:Ab)(r:Int)(h:Rl L a0 a1 a2=some r):Bc Tryz.prog 57 [.agg (Bz a0),.agg (B8 a1),.agg (B2 a2)] (I r):=
 hE Cg (s57 L) mixed Tryz.func57 (by kernel_rfl:C4 Tryz.prog inl Tryz.f57=some c57) (er:=fun(x:Int)=>I x) (by kernel_rfl) (e57 L a0 a1 a2) h
noncomputable def c35:EC:=(C4 Tryz.prog inl Tryz.f35).getD .stop
def O35(Ep:Af→Ai→(List Ab)→Option Int)(L:Nat):Bi:=(Cp 35 (A3 (fun(x:Int)=>I x) C2 Cl S1 Ep) (Cp 57 (A3 (fun(x:Int)=>I x) C2 Cl Co (Rl L)) Kg))
theorem s35(Ep:Af→Ai→(List Ab)→Option Int)(Bdr:∀(y0:Af) (y1:Ai) (y2:(List Ab)) (r:Int),Ep y0 y1 y2=some r→Bc Tryz.prog 35 [.agg (Bz y0),.agg (B8 y1),.lst false (.t82 y2)] (I r))(L:Nat):Bs Tryz.prog (O35 Ep L):=(Ad (a3 _ Bdr) (Ad (a3 _ (h57 L)) (Az Tryz.prog)))
def Anc(a2:(List Ab))(a0:Af)(a1:Ai)(Ae:Int)(Ah:Int):St:=({ fr:= [(0,.any),(1,.any),(2,.lst false (.t82 a2)),(3,.loc 3 0),(4,.loc 4 0),(6,I Ae),(7,I Ah)],ob:= [(3,(Bz a0)),(4,(B8 a1))],base:=0 } :St)
def Aq9(a2:(List Ab))(a0:Af)(a1:Ai)(K:Ex→St→Prop):Nat×(Int×Int)→Prop:=fun o=>Cr o.1 [K .ret (Anc a2 a0 a1 o.2.1 o.2.2),K (.exit 0) (Anc a2 a0 a1 o.2.1 o.2.2)]
def N5{A:Type}(an:An A)(Ep:Af→Ai→(List Ab)→Option Int)(L:Nat)(a2:(List Ab))(a0:Af)(a1:Ai)(rec:Int→Int→A)(out:Nat×(Int×Int)→A)(Ae:Int)(Ah:Int):A:=
 (an.cn (decide (Ah < (a2.length:Int)))
 (an.gd ((0:Int)≤Ah)
 (an.gd (Ah < ((a2.length:Nat):Int))
 (an.bd (Rl L a0 a1 (Ab.cp (a2.getD (Int.toNat Ah) default))) fun r1=>
 (an.cn (r1 == 0)
 (an.gd ((0:Int)≤Ah)
 (an.gd (Ah < ((a2.length:Nat):Int))
 (an.bd (Ep a0 a1 ((a2.getD (Int.toNat Ah) default).Body)) fun r2=>
 (an.cn (r2 == 0)
 (an.gd ((0:Int)≤Ah)
 (an.gd (Ah < ((a2.length:Nat):Int))
 (an.bd (Ep a0 a1 ((a2.getD (Int.toNat Ah) default).Else)) fun r3=>
 (an.cn (r3 != 0)
 (an.lf out (0,(r3,Ah)))
 (rec Ae (F9 (Ah+1)))))))
 (an.cn (r2 != 0)
 (an.lf out (0,(r2,Ah)))
 (rec Ae (F9 (Ah+1))))))))
 (an.cn (r1 == 0)
 (an.gd ((0:Int)≤Ah)
 (an.gd (Ah < ((a2.length:Nat):Int))
 (an.bd (Ep a0 a1 ((a2.getD (Int.toNat Ah) default).Else)) fun r4=>
 (an.cn (r4 != 0)
 (an.lf out (0,(r4,Ah)))
 (rec Ae (F9 (Ah+1)))))))
 (an.cn (r1 != 0)
 (an.lf out (0,(r1,Ah)))
 (rec Ae (F9 (Ah+1)))))))))
 (an.lf out (1,(Ae,Ah))))
def Ll(Ep:Af→Ai→(List Ab)→Option Int)(L:Nat)(a2:(List Ab))(a0:Af)(a1:Ai):Nat→Int→Int→Option (Nat×(Int×Int))
 |0,_,_=>none
 |n+1,Ae,Ah=>N5 (Bq _) Ep L a2 a0 a1 (Ll Ep L a2 a0 a1 n) some Ae Ah
theorem Bfw(Ep:Af→Ai→(List Ab)→Option Int)(L:Nat)(a2:(List Ab))(a0:Af)(a1:Ai)(g:Int→Int→Option (Nat×(Int×Int)))(Q:Nat×(Int×Int)→Prop)(Ae:Int)(Ah:Int):N5 Bh Ep L a2 a0 a1 (fun Ae Ah=>ob (g Ae Ah) Q) Q Ae Ah=ob (N5 (Bq _) Ep L a2 a0 a1 g some Ae Ah) Q:=by
 unfold N5
 dsimp only [Bh,Bq]
 try simp only [y1,y2,y3,y4,y5 Q,y6,y7,y8 Q,y9,z1,z2,z3,z4]
theorem Beu(Ep:Af→Ai→(List Ab)→Option Int)(L:Nat)(a2:(List Ab))(a0:Af)(a1:Ai)(n:Nat)(Ae:Int)(Ah:Int)(K:Ex→St→Prop):Bl (EV (O35 Ep L) L 9 c35.r.r.l.r.r.l.l) [0,1,2,3,4,6,7] [3,4] n (Anc a2 a0 a1 Ae Ah) K=ob (Ll Ep L a2 a0 a1 n Ae Ah) (fun o=>Aq9 a2 a0 a1 K o):=by
 induction n generalizing Ae Ah with
 |zero=>rfl
 |succ n ih=>
  refine Eq.trans (b:=N5 Bh Ep L a2 a0 a1 (fun Ae Ah=>Bl (EV (O35 Ep L) L 9 c35.r.r.l.r.r.l.l) [0,1,2,3,4,6,7] [3,4] n (Anc a2 a0 a1 Ae Ah) K) (Aq9 a2 a0 a1 K) Ae Ah) (by kernel_rfl) ?_
  simp only [ih]
  exact Bfw Ep L a2 a0 a1 (Ll Ep L a2 a0 a1 n) (Aq9 a2 a0 a1 K) Ae Ah
def A4s(Ep:Af→Ai→(List Ab)→Option Int)(L:Nat)(kk:PV→Prop):Ex→St→Prop:=(Ca 0 (Dl (EV (O35 Ep L) L 9 c35.r.r.r) (Dx Tryz.prog (RS Tryz.f35) kk)))
theorem Bpx(Ep:Af→Ai→(List Ab)→Option Int)(L:Nat)(a2:(List Ab))(a0:Af)(a1:Ai)(kk:PV→Prop)(o1:Nat×(Int×Int)):Aq9 a2 a0 a1 (A4s Ep L kk) o1=
 (Cr o1.1 [(ob (some o1.2.1) (fun(x:Int)=>kk (I x))),
 (ob (some 0) (fun(x:Int)=>kk (I x)))]):=by kernel_rfl
def Wm{A:Type}(an:An A)(Ep:Af→Ai→(List Ab)→Option Int)(L:Nat)(a0:Af)(a1:Ai)(a2:(List Ab))(out:Int→A):A:=
 (an.bd (Ll Ep L a2 a0 a1 L 0 0) fun o1=>
 (an.sl o1.1 [(an.lf out o1.2.1),
 (an.lf out 0)]))
def V8(Ep:Af→Ai→(List Ab)→Option Int)(L:Nat)(a0:Af)(a1:Ai)(a2:(List Ab)):Option Int:=Wm (Bq _) Ep L a0 a1 a2 some
theorem e35(Ep:Af→Ai→(List Ab)→Option Int)(L:Nat)(a0:Af)(a1:Ai)(a2:(List Ab))(kk:PV→Prop):EW (O35 Ep L) L 9 (RS Tryz.f35) c35 [.agg (Bz a0),.agg (B8 a1),.lst false (.t82 a2)] kk=ob (V8 Ep L a0 a1 a2) (fun(x:Int)=>kk (I x)):=by
 refine Eq.trans (b:=Wm Bh Ep L a0 a1 a2 (fun(x:Int)=>kk (I x))) ?_ ?_
 ·refine Eq.trans (b:=(Bl (EV (O35 Ep L) L 9 c35.r.r.l.r.r.l.l) [0,1,2,3,4,6,7] [3,4] L (Anc a2 a0 a1 0 0) (A4s Ep L kk))) (by kernel_rfl) ?_
  unfold Wm
  dsimp only [Bh]
  simp only [Beu,Bpx]
 generalize (fun(x:Int)=>kk (I x))=Q
 unfold V8 Wm
 dsimp only [Bh,Bq]
 try simp only [y1,y2,y3,y4,y5 Q,y6,y7,y8 Q,y9,z1,z2,z3,z4]
theorem b35(Ep:Af→Ai→(List Ab)→Option Int)(Bdr:∀(y0:Af) (y1:Ai) (y2:(List Ab)) (r:Int),Ep y0 y1 y2=some r→Bc Tryz.prog 35 [.agg (Bz y0),.agg (B8 y1),.lst false (.t82 y2)] (I r))(L:Nat)(a0:Af)(a1:Ai)(a2:(List Ab))(r:Int)(h:V8 Ep L a0 a1 a2=some r):Bc Tryz.prog 35 [.agg (Bz a0),.agg (B8 a1),.lst false (.t82 a2)] (I r):=
 hE Cg (s35 Ep Bdr L) mixed Tryz.func35 (by kernel_rfl:C4 Tryz.prog inl Tryz.f35=some c35) (er:=fun(x:Int)=>I x) (by kernel_rfl) (e35 Ep L a0 a1 a2) h
def Ky:Nat→Af→Ai→(List Ab)→Option Int
 |0,_,_,_=>none
 |L+1,a0,a1,a2=>V8 (Ky L) L a0 a1 a2
theorem Bdb:∀L,(∀(y0:Af) (y1:Ai) (y2:(List Ab)) (r:Int),Ky L y0 y1 y2=some r→Bc Tryz.prog 35 [.agg (Bz y0),.agg (B8 y1),.lst false (.t82 y2)] (I r)):=by
 intro L
 induction L with
 |zero=>exact fun _ _ _ r h=>(by cases h)
 |succ L ih=>
  have i35:=ih
  exact fun y0 y1 y2 r h=>b35 (Ky L) i35 L y0 y1 y2 r h
theorem h35(L:Nat):∀(y0:Af) (y1:Ai) (y2:(List Ab)) (r:Int),Ky L y0 y1 y2=some r→Bc Tryz.prog 35 [.agg (Bz y0),.agg (B8 y1),.lst false (.t82 y2)] (I r):=Bdb L
noncomputable def c18:EC:=(C4 Tryz.prog inl Tryz.f18).getD .stop
def O18(L:Nat):Bi:=(Cp 34 (A1 (fun(x:Int)=>I x) S1 (Q9 L)) (Cp 35 (A3 (fun(x:Int)=>I x) C2 Cl S1 (Ky L)) Kg))
theorem s18(L:Nat):Bs Tryz.prog (O18 L):=(Ad (a1 _ (h34 L)) (Ad (a3 _ (h35 L)) (Az Tryz.prog)))
def Zh{A:Type}(an:An A)(L:Nat)(a0:Af)(a1:Int)(a2:(List Be))(a3:(List Ab))(out:Int→A):A:=
 (an.bd (Q9 L a3) fun r1=>
 (an.cn (r1 != 0)
 (an.lf out r1)
 (an.jp (bif (decide (a1 < 0)) then true
 else (decide (a1≥(a0.Sites.length:Int)))) (fun j=>(an.cn (decide (a1 < 0))
 (an.ap j true)
 (an.ap j (decide (a1≥(a0.Sites.length:Int)))))) (fun b2=>
 (an.cn b2
 (an.lf out 2)
 (an.gd ((0:Int)≤a1)
 (an.gd (a1 < ((a0.Sites.length:Nat):Int))
 (an.bd (Ky L a0 (⟨a0.Params,a2,(a0.Sites.getD (Int.toNat a1) default)⟩:Ai) a3) fun r3=>
 (an.lf out r3)))))))))
def Rb(L:Nat)(a0:Af)(a1:Int)(a2:(List Be))(a3:(List Ab)):Option Int:=Zh (Bq _) L a0 a1 a2 a3 some
theorem e18(L:Nat)(a0:Af)(a1:Int)(a2:(List Be))(a3:(List Ab))(kk:PV→Prop):EW (O18 L) L 9 (RS Tryz.f18) c18 [.agg (Bz a0),I a1,.lst false (.t68 a2),.lst false (.t82 a3)] kk=ob (Rb L a0 a1 a2 a3) (fun(x:Int)=>kk (I x)):=by
 refine Eq.trans (b:=Zh Bh L a0 a1 a2 a3 (fun(x:Int)=>kk (I x))) (by kernel_rfl) ?_
 generalize (fun(x:Int)=>kk (I x))=Q
 unfold Rb Zh
 dsimp only [Bh,Bq]
 try simp only [y1,y2,y3,y4,y5 Q,y6,y7,y8 Q,y9,z1,z2,z3,z4]
 try simp only [z5,z6,y1,y2,y3,y4,y5 Q,y6,y7,y8 Q,y9,z1,z2,z3,z4]
theorem h18(L:Nat)(a0:Af)(a1:Int)(a2:(List Be))(a3:(List Ab))(r:Int)(h:Rb L a0 a1 a2 a3=some r):Bc Tryz.prog 18 [.agg (Bz a0),I a1,.lst false (.t68 a2),.lst false (.t82 a3)] (I r):=
 hE Cg (s18 L) mixed Tryz.func18 (by kernel_rfl:C4 Tryz.prog inl Tryz.f18=some c18) (er:=fun(x:Int)=>I x) (by kernel_rfl) (e18 L a0 a1 a2 a3) h
def I4(L:Nat):Option Bool:=some true
def Bte:Bi:=(Cp 10 (A1 (fun(x:Bool)=>B x) Cl (M3 100)) (Cp 32 (A1 (fun(x:Int)=>I x) S1 (Fo 100)) (Cp 16 (A1 (fun(x:Bool)=>B x) C2 (R7 100)) (Cp 39 (A1 (fun(x:Int)=>I x) S1 (Io 100)) (Cp 40 (A1 (fun(x:Int)=>I x) S1 (Ip 100)) (Cp 72 (A1 (fun(x:(Bn×Bool))=> .tup [.agg (D0 x.1),B x.2]) (cI .i64) (O3 100)) (Cp 151 (A2 (fun(x:Bool)=>B x) Bm Bm (K1 100)) (Cp 206 (A2 (fun(x:Bool)=>B x) cl3 cl3 (Ds 100)) (Cp 152 (A2 (fun(x:Bool)=>B x) Ei Ei (K0 100)) (Cp 73 (A2 (fun(x:Bool)=>B x) Co Zr (M6 100)) (Cp 101 (A1 (fun(x:Bool)=>B x) (cI .u8) (Gk 100)) (Cp 102 (A1 (fun(x:Bool)=>B x) cS (Gu 100)) (Cp 58 (A1 (fun(x:Int)=>I x) cS (Hi 100)) (Cp 81 (A1 (fun(x:Int)=>I x) Bm (Il 100)) (Cp 82 (A1 (fun(x:Int)=>I x) Bm (Ik 100)) (Cp 216 (A1 (fun(x:Int)=>I x) (cI .i64) (K2 100)) (Cp 215 (A2 (fun(x:Bool)=>B x) Gy (cI .i64) (Hb 100)) (Cp 78 (A1 (fun(x:Bool)=>B x) (cI .i64) (Hh 100)) (Cp 217 (A2 (fun(x:Bool)=>B x) Gy (cI .i64) (Eu 100)) (Cp 199 (A1 (fun(x:Bool)=>B x) (cI .i64) (Ui 100)) (Cp 218 (A2 (fun(x:(Int×Int×Bool))=> .tup [I x.1,I x.2.1,B x.2.2]) Gy (cI .i64) (Ek 100)) (Cp 169 (A2 (fun(x:Int)=>I x) Gy Bm (Gx 100)) (Cp 83 (A2 (fun(x:Int)=>I x) Gy Bm (D5 100)) (Cp 46 (A2 (fun(x:Int)=>I x) Gy Bm (Ha 100)) (Cp 26 (A1 (fun(x:Int)=>I x) Bm (Gw 100)) (Cp 207 (A1 (fun(x:Bool)=>B x) Ei (M4 100)) (Cp 208 (A3 (fun(x:Bool)=>B x) (cI .i64) (cI .i64) cl3 (Dg 100)) (Cp 153 (A1 (fun(x:Int)=>I x) Ei (Mv 100)) (Cp 74 (A2 (fun(x:Int)=>I x) Co Zr (Mw 100)) (Cp 41 (A1 (fun(x:Int)=>I x) S1 (Iq 100)) (Cp 21 (A1 (fun(x:Int)=>I x) S1 (Kn 100)) (Cp 29 (A2 (fun(x:(Int×Bool))=> .tup [I x.1,B x.2]) Acj cS (Db 100)) (Cp 14 (A2 (fun(x:(Int×Bool))=> .tup [I x.1,B x.2]) Cl cS (Kp 100)) (Cp 178 (A2 (fun(x:Int)=>I x) cl9 cS (Cc 100)) (Cp 94 (A2 (fun(x:Int)=>I x) Cw cS (Dr 100)) (Cp 84 (A2 (fun(x:(ByteArray×Int))=> .tup [S x.1,I x.2]) Cw cS (M5 100)) (Cp 48 (A2 (fun(x:ByteArray)=>S x) Cw cS (Im 100)) (Cp 47 (A2 (fun(x:Bool)=>B x) (cI .i64) cS (Ho 100)) (Cp 85 (A1 (fun(x:Bool)=>B x) (cI .i64) (Cm 100)) (Cp 49 (A2 (fun(x:Int)=>I x) (cI .i64) (cI .i64) (Ir 100)) (Cp 50 (A3 (fun(x:Int)=>I x) (cI .i64) (cI .i64) (cI .i64) (Hn 100)) (Cp 27 (A2 (fun(x:(Int×Int))=> .tup [I x.1,I x.2]) Cl Bm (Hj 100)) (Cp 12 (A2 (fun(x:(Int×Int))=> .tup [I x.1,I x.2]) Cl Bm (Ko 100)) (Cp 91 (A3 (fun(x:Int)=>I x) B6 Bm Ar7 (Br 100)) (Cp 88 (A2 (fun(x:Int)=>I x) B6 Co (E4 100)) (Cp 90 (A3 (fun(x:Bool)=>B x) B6 cS cS (Cu 100)) (Cp 179 (A3 (fun(x:Int)=>I x) B6 cS Ar7 (Em 100)) (Cp 89 (A4 (fun(x:Int)=>I x) B6 cS cB Ar7 (Dh 100)) (Cp 92 (A4 (fun(x:Int)=>I x) B6 Co cS Bmr (B9 100)) (Cp 138 (A2 (fun(x:Int)=>I x) C2 cS (O2 100)) (Cp 180 (A3 (fun(x:(Int×Bool))=> .tup [I x.1,B x.2]) C2 cS cS (O1 100)) (Cp 95 (A3 (fun(x:Int)=>I x) B6 Yd Co (C7 100)) (Cp 93 (A2 (fun(x:Int)=>I x) B6 Co (Eh 100)) (Cp 54 (A2 (fun(x:Int)=>I x) B6 Co (D6 100)) (Cp 33 (A2 (fun(x:Int)=>I x) B6 S1 (C8 100)) (Cp 17 (A4 (fun(x:Int)=>I x) C2 (cI .i64) Acj S1 (El 100)) (Cp 55 (A1 (fun(x:Int)=>I x) S1 (Kw 100)) (Cp 183 (A1 (fun(x:(B4×Bool))=> .tup [.agg (E7 x.1),B x.2]) (cI .i64) (Tk 100)) (Cp 221 (A1 (fun(x:Bool)=>B x) Bm (Nq 100)) (Cp 233 (A2 (fun(x:Bool)=>B x) cl3 cl3 (Gj 100)) (Cp 222 (A2 (fun(x:Bool)=>B x) Ei Ei (Ss 100)) (Cp 184 (A1 (fun(x:Bool)=>B x) Co (Oz 100)) (Cp 139 (A1 (fun(x:Bool)=>B x) (cI .u8) (Ih 100)) (Cp 202 (A0 (fun(x:(List ByteArray))=> .lst false (.t9 x)) (No 100)) (Cp 143 (A2 (fun(x:Int)=>I x) cl9 cS (G9 100)) (Cp 140 (A1 (fun(x:Bool)=>B x) cS (Ic 100)) (Cp 66 (A1 (fun(x:Int)=>I x) cS (E2 100)) (Cp 75 (A1 (fun(x:Int)=>I x) Bm (Kv 100)) (Cp 76 (A1 (fun(x:Int)=>I x) Bm (Ku 100)) (Cp 154 (A1 (fun(x:Int)=>I x) (cI .i64) (Q7 100)) (Cp 155 (A1 (fun(x:Bool)=>B x) (cI .i64) (Ii 100)) (Cp 156 (A1 (fun(x:Bool)=>B x) (cI .i64) (Wb 100)) (Cp 157 (A1 (fun(x:Int)=>I x) (cI .i64) (J0 100)) (Cp 77 (A2 (fun(x:Int)=>I x) Bm cB (L6 100)) (Cp 42 (A2 (fun(x:Int)=>I x) Bm cB (Q8 100)) (Cp 23 (A1 (fun(x:Int)=>I x) Bm (E3 100)) (Cp 185 (A2 (fun(x:Int)=>I x) Co Ahw (Ra 100)) (Cp 223 (A1 (fun(x:Bool)=>B x) Ei (Oy 100)) (Cp 224 (A3 (fun(x:Bool)=>B x) (cI .i64) (cI .i64) (cI .i64) (Cz 100)) (Cp 225 (A1 (fun(x:Int)=>I x) Ei (Q6 100)) (Cp 186 (A1 (fun(x:Int)=>I x) Ei (Q0 100)) (Cp 96 (A1 (fun(x:Int)=>I x) Co (S8 100)) (Cp 56 (A1 (fun(x:Int)=>I x) S1 (Np 100)) (Cp 34 (A1 (fun(x:Int)=>I x) S1 (Q9 100)) (Cp 97 (A1 (fun(x:ByteArray)=>S x) (cI .i64) (Re 100)) (Cp 144 (A1 (fun(x:(List (List ByteArray)))=> .lst false (.t27 x)) Cw (Kx 100)) (Cp 86 (A2 (fun(x:ByteArray)=>S x) Cw cS (Ij 100)) (Cp 30 (A2 (fun(x:(Int×Bool))=> .tup [I x.1,B x.2]) Acj cS (I5 100)) (Cp 31 (A2 (fun(x:(Int×Bool))=> .tup [I x.1,B x.2]) Bbn cS (Hm 100)) (Cp 15 (A2 (fun(x:(Int×Bool))=> .tup [I x.1,B x.2]) Cl cS (Sx 100)) (Cp 51 (A2 (fun(x:(Int×Int))=> .tup [I x.1,I x.2]) Cl Bm (Ps 100)) (Cp 87 (A1 (fun(x:Bool)=>B x) (cI .i64) (C1 100)) (Cp 52 (A2 (fun(x:Int)=>I x) (cI .i64) (cI .i64) (O0 100)) (Cp 53 (A3 (fun(x:Int)=>I x) (cI .i64) (cI .i64) (cI .i64) (Mu 100)) (Cp 28 (A2 (fun(x:(Int×Int))=> .tup [I x.1,I x.2]) Cl Bm (Kz 100)) (Cp 13 (A2 (fun(x:(Int×Int))=> .tup [I x.1,I x.2]) Cl Bm (Sw 100)) (Cp 99 (A4 (fun(x:Int)=>I x) Cl Bm (cI .i64) (cI .i64) (Eg 100)) (Cp 98 (A2 (fun(x:Int)=>I x) Cl Co (T0 100)) (Cp 187 (A2 (fun(x:Int)=>I x) Cw cS (Ie 100)) (Cp 188 (A3 (fun(x:Int)=>I x) Cl Co Acj (Pr 100)) (Cp 148 (A2 (fun(x:Int)=>I x) C2 cS (Sv 100)) (Cp 189 (A3 (fun(x:(Int×Bool))=> .tup [I x.1,B x.2]) C2 cS cS (Su 100)) (Cp 100 (A3 (fun(x:Int)=>I x) C2 Cl Co (Rc 100)) (Cp 57 (A3 (fun(x:Int)=>I x) C2 Cl Co (Rl 100)) (Cp 35 (A3 (fun(x:Int)=>I x) C2 Cl S1 (Ky 100)) (Cp 18 (A4 (fun(x:Int)=>I x) C2 (cI .i64) Acj S1 (Rb 100)) Kg))))))))))))))))))))))))))))))))))))))))))))))))))))))))))))))))))))))))))))))))))))))))))))))))))))))))))
def Btd:Nat→Bool:=fun f=>inL f [10,32,16,39,40,72,151,206,152,73,101,102,58,81,82,216,215,78,217,199,218,169,83,46,26,207,208,153,74,41,21,29,14,178,94,84,48,47,85,49,50,27,12,91,88,90,179,89,92,138,180,95,93,54,33,17,55,183,221,233,222,184,139,202,143,140,66,75,76,154,155,156,157,77,42,23,185,223,224,225,186,96,56,34,97,144,86,30,31,15,51,87,52,53,28,13,99,98,187,188,148,189,100,57,35,18]
theorem h11(L:Nat)(r:Bool)(h:I4 L=some r):Bc Tryz.prog 11 [] (B r):=by
 injection h with h
 subst h
 exact A15 (inl:=inl) (nb:=Btd) (base:=Bte) Cg mixed (Ad (a1 _ (h10 100)) (Ad (a1 _ (h32 100)) (Ad (a1 _ (h16 100)) (Ad (a1 _ (h39 100)) (Ad (a1 _ (h40 100)) (Ad (a1 _ (h72 100)) (Ad (a2 _ (Bm3 100)) (Ad (a2 _ (Bnm 100)) (Ad (a2 _ (Bm4 100)) (Ad (a2 _ (h73 100)) (Ad (a1 _ (Bmx 100)) (Ad (a1 _ (Bmy 100)) (Ad (a1 _ (h58 100)) (Ad (a1 _ (h81 100)) (Ad (a1 _ (h82 100)) (Ad (a1 _ (Bc5 100)) (Ad (a2 _ (Bnp 100)) (Ad (a1 _ (h78 100)) (Ad (a2 _ (Bnq 100)) (Ad (a1 _ (Bnk 100)) (Ad (a2 _ (Bnr 100)) (Ad (a2 _ (Bna 100)) (Ad (a2 _ (h83 100)) (Ad (a2 _ (h46 100)) (Ad (a1 _ (h26 100)) (Ad (a1 _ (Bnn 100)) (Ad (a3 _ (Bno 100)) (Ad (a1 _ (Bm5 100)) (Ad (a2 _ (h74 100)) (Ad (a1 _ (h41 100)) (Ad (a1 _ (h21 100)) (Ad (a2 _ (h29 100)) (Ad (a2 _ (h14 100)) (Ad (a2 _ (Bnb 100)) (Ad (a2 _ (h94 100)) (Ad (a2 _ (h84 100)) (Ad (a2 _ (h48 100)) (Ad (a2 _ (h47 100)) (Ad (a1 _ (h85 100)) (Ad (a2 _ (h49 100)) (Ad (a3 _ (h50 100)) (Ad (a2 _ (h27 100)) (Ad (a2 _ (h12 100)) (Ad (a3 _ (h91 100)) (Ad (a2 _ (h88 100)) (Ad (a3 _ (h90 100)) (Ad (a3 _ (Bnc 100)) (Ad (a4 _ (h89 100)) (Ad (a4 _ (h92 100)) (Ad (a2 _ (Bmz 100)) (Ad (a3 _ (Bnd 100)) (Ad (a3 _ (h95 100)) (Ad (a2 _ (h93 100)) (Ad (a2 _ (h54 100)) (Ad (a2 _ (h33 100)) (Ad (a4 _ (h17 100)) (Ad (a1 _ (h55 100)) (Ad (a1 _ (Bc4 100)) (Ad (a1 _ (Bns 100)) (Ad (a2 _ (Bnw 100)) (Ad (a2 _ (Bnt 100)) (Ad (a1 _ (Bne 100)) (Ad (a1 _ (Bm0 100)) (Ad (a0 _ (Bnl 100)) (Ad (a2 _ (A77 100)) (Ad (a1 _ (Bm1 100)) (Ad (a1 _ (h66 100)) (Ad (a1 _ (h75 100)) (Ad (a1 _ (h76 100)) (Ad (a1 _ (Bm6 100)) (Ad (a1 _ (Bm7 100)) (Ad (a1 _ (Bm8 100)) (Ad (a1 _ (Bm9 100)) (Ad (a2 _ (h77 100)) (Ad (a2 _ (h42 100)) (Ad (a1 _ (h23 100)) (Ad (a2 _ (Bnf 100)) (Ad (a1 _ (Bnu 100)) (Ad (a3 _ (Bc6 100)) (Ad (a1 _ (Bnv 100)) (Ad (a1 _ (Bng 100)) (Ad (a1 _ (h96 100)) (Ad (a1 _ (h56 100)) (Ad (a1 _ (h34 100)) (Ad (a1 _ (h97 100)) (Ad (a1 _ (Bc3 100)) (Ad (a2 _ (h86 100)) (Ad (a2 _ (h30 100)) (Ad (a2 _ (h31 100)) (Ad (a2 _ (h15 100)) (Ad (a2 _ (h51 100)) (Ad (a1 _ (h87 100)) (Ad (a2 _ (h52 100)) (Ad (a3 _ (h53 100)) (Ad (a2 _ (h28 100)) (Ad (a2 _ (h13 100)) (Ad (a4 _ (h99 100)) (Ad (a2 _ (h98 100)) (Ad (a2 _ (Bnh 100)) (Ad (a3 _ (Bni 100)) (Ad (a2 _ (Bm2 100)) (Ad (a3 _ (Bnj 100)) (Ad (a3 _ (Bmw 100)) (Ad (a3 _ (h57 100)) (Ad (a3 _ (h35 100)) (Ad (a4 _ (h18 100)) (Az Tryz.prog))))))))))))))))))))))))))))))))))))))))))))))))))))))))))))))))))))))))))))))))))))))))))))))))))))))))))) 100 9 40 (fun kk=>by kernel_rfl)
noncomputable def c4:EC:=(C4 Tryz.prog inl Tryz.f4).getD .stop
def O4(L:Nat):Bi:=(Cp 11 (A0 (fun(x:Bool)=>B x) (I4 L)) (Cp 16 (A1 (fun(x:Bool)=>B x) C2 (R7 L)) (Cp 17 (A4 (fun(x:Int)=>I x) C2 (cI .i64) Acj S1 (El L)) (Cp 18 (A4 (fun(x:Int)=>I x) C2 (cI .i64) Acj S1 (Rb L)) Kg))))
theorem s4(L:Nat):Bs Tryz.prog (O4 L):=(Ad (a0 _ (h11 L)) (Ad (a1 _ (h16 L)) (Ad (a4 _ (h17 L)) (Ad (a4 _ (h18 L)) (Az Tryz.prog)))))
def Sk{A:Type}(an:An A)(L:Nat)(a0:Mq)(out:Bool→A):A:=
 (an.bd (R7 L a0.M) fun r1=>
 (an.jp (bif (!r1) then true
 else (decide ((a0.Locals.length:Int) > 20))) (fun j=>(an.cn (!r1)
 (an.ap j true)
 (an.ap j (decide ((a0.Locals.length:Int) > 20))))) (fun b2=>
 (an.cn b2
 (an.bd (I4 L) fun r3=>
 (an.lf out r3))
 (an.bd (El L a0.M a0.Site a0.Locals a0.A) fun r4=>
 (an.bd (Rb L a0.M a0.Site a0.Locals a0.A) fun r5=>
 (an.cn (r4 == r5)
 (an.bd (I4 L) fun r6=>
 (an.lf out r6))
 (an.lf out false))))))))
def Ox(L:Nat)(a0:Mq):Option Bool:=Sk (Bq _) L a0 some
theorem e4(L:Nat)(a0:Mq)(kk:PV→Prop):EW (O4 L) L 9 (RS Tryz.f4) c4 [.agg (Rn a0)] kk=ob (Ox L a0) (fun(x:Bool)=>kk (B x)):=by
 refine Eq.trans (b:=Sk Bh L a0 (fun(x:Bool)=>kk (B x))) (by kernel_rfl) ?_
 generalize (fun(x:Bool)=>kk (B x))=Q
 unfold Ox Sk
 dsimp only [Bh,Bq]
 try simp only [y1,y2,y3,y4,y5 Q,y6,y7,y8 Q,y9,z1,z2,z3,z4]
theorem h4(L:Nat)(a0:Mq)(r:Bool)(h:Ox L a0=some r):Bc Tryz.prog 4 [.agg (Rn a0)] (B r):=
 hE Cg (s4 L) mixed Tryz.func4 (by kernel_rfl:C4 Tryz.prog inl Tryz.f4=some c4) (er:=fun(x:Bool)=>B x) (by kernel_rfl) (e4 L a0) h
noncomputable def c7:EC:=(C4 Tryz.prog inl Tryz.f7).getD .stop
def O7(L:Nat):Bi:=(Cp 11 (A0 (fun(x:Bool)=>B x) (I4 L)) (Cp 16 (A1 (fun(x:Bool)=>B x) C2 (R7 L)) (Cp 17 (A4 (fun(x:Int)=>I x) C2 (cI .i64) Acj S1 (El L)) (Cp 21 (A1 (fun(x:Int)=>I x) S1 (Kn L)) Kg))))
theorem s7(L:Nat):Bs Tryz.prog (O7 L):=(Ad (a0 _ (h11 L)) (Ad (a1 _ (h16 L)) (Ad (a4 _ (h17 L)) (Ad (a1 _ (h21 L)) (Az Tryz.prog)))))
def Sj{A:Type}(an:An A)(L:Nat)(a0:Mq)(out:Bool→A):A:=
 (an.bd (R7 L a0.M) fun r1=>
 (an.jp (bif (!r1) then true
 else (decide ((a0.Locals.length:Int) > 20))) (fun j=>(an.cn (!r1)
 (an.ap j true)
 (an.ap j (decide ((a0.Locals.length:Int) > 20))))) (fun b2=>
 (an.jp (bif b2 then true
 else (decide ((a0.A.length:Int) > 40))) (fun j=>(an.cn b2
 (an.ap j true)
 (an.ap j (decide ((a0.A.length:Int) > 40))))) (fun b3=>
 (an.jp (bif b3 then true
 else (decide ((a0.B.length:Int) > 40))) (fun j=>(an.cn b3
 (an.ap j true)
 (an.ap j (decide ((a0.B.length:Int) > 40))))) (fun b4=>
 (an.cn b4
 (an.bd (I4 L) fun r5=>
 (an.lf out r5))
 (an.gd ((0+a0.A.length)*312≤140737488355328)
 (an.gd (0+a0.A.length≤maxLen)
 (an.gd ((a0.A.length+a0.B.length)*312≤140737488355328)
 (an.gd (a0.A.length+a0.B.length≤maxLen)
 (an.bd (Kn L (a0.A++a0.B)) fun r6=>
 (an.cn (r6 != 0)
 (an.bd (I4 L) fun r7=>
 (an.lf out r7))
 (an.bd (El L a0.M 0 a0.Locals a0.A) fun r8=>
 (an.cn (r8 == 0)
 (an.bd (El L a0.M 0 a0.Locals a0.B) fun r9=>
 (an.bd (El L a0.M 0 a0.Locals (a0.A++a0.B)) fun r10=>
 (an.jb (bif (r10 == r9) then (Option.bind (I4 L) fun r12=>
 (some r12))
 else (some false)) (fun j=>(an.cn (r10 == r9)
 (an.bd (I4 L) fun r13=>
 (an.lf j r13))
 (an.lf j false))) (fun b11=>
 (an.lf out b11)))))
 (an.bd (El L a0.M 0 a0.Locals (a0.A++a0.B)) fun r14=>
 (an.jb (bif (r14 == r8) then (Option.bind (I4 L) fun r16=>
 (some r16))
 else (some false)) (fun j=>(an.cn (r14 == r8)
 (an.bd (I4 L) fun r17=>
 (an.lf j r17))
 (an.lf j false))) (fun b15=>
 (an.lf out b15))))))))))))))))))))
def Ow(L:Nat)(a0:Mq):Option Bool:=Sj (Bq _) L a0 some
theorem e7(L:Nat)(a0:Mq)(kk:PV→Prop):EW (O7 L) L 9 (RS Tryz.f7) c7 [.agg (Rn a0)] kk=ob (Ow L a0) (fun(x:Bool)=>kk (B x)):=by
 refine Eq.trans (b:=Sj Bh L a0 (fun(x:Bool)=>kk (B x))) (by kernel_rfl) ?_
 generalize (fun(x:Bool)=>kk (B x))=Q
 unfold Ow Sj
 dsimp only [Bh,Bq]
 try simp only [y1,y2,y3,y4,y5 Q,y6,y7,y8 Q,y9,z1,z2,z3,z4]
 try simp only [z5,z6,y1,y2,y3,y4,y5 Q,y6,y7,y8 Q,y9,z1,z2,z3,z4]
theorem h7(L:Nat)(a0:Mq)(r:Bool)(h:Ow L a0=some r):Bc Tryz.prog 7 [.agg (Rn a0)] (B r):=
 hE Cg (s7 L) mixed Tryz.func7 (by kernel_rfl:C4 Tryz.prog inl Tryz.f7=some c7) (er:=fun(x:Bool)=>B x) (by kernel_rfl) (e7 L a0) h
end Go.Proofs.YtcbandfdmbkokaaGreat.Ev
