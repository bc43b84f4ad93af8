import Derived.Test.YtcbandfdmbkokaaGreatG1
namespace Go.Proofs.YtcbandfdmbkokaaGreat.Ev
open Go
set_option maxRecDepth 100000
set_option linter.unusedVariables false
set_option linter.unusedSimpArgs false
set_option linter.unnecessarySimpa false
noncomputable def Bmq:EC:=(C4 Tryz.prog inl Tryz.f230).getD .stop
noncomputable def A7o:EC:=(C4 Tryz.prog inl Tryz.f234).getD .stop
noncomputable def A7m:EC:=(C4 Tryz.prog inl Tryz.f208).getD .stop
def Ad7(L:Nat):Bi:=Kg
theorem Bui(L:Nat):Bs Tryz.prog (Ad7 L):=(Az Tryz.prog)
def Afy(p1_0:List Int)(p1_1:Int)(p1_2:Int)(Ae:Int)(Aj:Int):St:=({ fr:= [(0,.lst false (.t3 p1_0)),(1,.clo 231 0 [.loc 3 0,.loc 4 0]),(4,I Ae),(7,I (p1_0.length:Int)),(8,I Aj)],ob:= [(3,[I p1_1]),(4,[I p1_2])],base:=5 } :St)
def Akd(p1_0:List Int)(p1_1:Int)(p1_2:Int)(K:Ex→St→Prop):Nat×(Int×Int)→Prop:=fun o=>Cr o.1 [K .ret (Afy p1_0 p1_1 p1_2 o.2.1 o.2.2),K (.exit 0) (Afy p1_0 p1_1 p1_2 o.2.1 o.2.2)]
def J1{A:Type}(an:An A)(L:Nat)(p1_0:List Int)(p1_1:Int)(p1_2:Int)(rec:Int→Int→A)(out:Nat×(Int×Int)→A)(Ae:Int)(Aj:Int):A:=
 (an.cn (decide (Aj < (p1_0.length:Int)))
 (an.gd ((0:Int)≤Aj)
 (an.gd (Aj < ((p1_0.length:Nat):Int))
 (an.jp (bif (decide ((p1_0.getD (Int.toNat Aj) default) < p1_1)) then true
 else (decide ((p1_0.getD (Int.toNat Aj) default) > p1_2))) (fun j=>(an.cn (decide ((p1_0.getD (Int.toNat Aj) default) < p1_1))
 (an.ap j true)
 (an.ap j (decide ((p1_0.getD (Int.toNat Aj) default) > p1_2))))) (fun b1=>
 (an.cn b1
 (an.lf out (0,(Aj,Aj)))
 (rec Ae (F9 (Aj+1))))))))
 (an.lf out (1,(Ae,Aj))))
def Hz(L:Nat)(p1_0:List Int)(p1_1:Int)(p1_2:Int):Nat→Int→Int→Option (Nat×(Int×Int))
 |0,_,_=>none
 |n+1,Ae,Aj=>J1 (Bq _) L p1_0 p1_1 p1_2 (Hz L p1_0 p1_1 p1_2 n) some Ae Aj
theorem A9n(L:Nat)(p1_0:List Int)(p1_1:Int)(p1_2:Int)(g:Int→Int→Option (Nat×(Int×Int)))(Q:Nat×(Int×Int)→Prop)(Ae:Int)(Aj:Int):J1 Bh L p1_0 p1_1 p1_2 (fun Ae Aj=>ob (g Ae Aj) Q) Q Ae Aj=ob (J1 (Bq _) L p1_0 p1_1 p1_2 g some Ae Aj) Q:=by
 unfold J1
 dsimp only [Bh,Bq]
 try simp only [y1,y2,y3,y4,y5 Q,y6,y7,y8 Q,y9,z1,z2,z3,z4]
 try simp only [z5,z6,y1,y2,y3,y4,y5 Q,y6,y7,y8 Q,y9,z1,z2,z3,z4]
theorem A84(L:Nat)(p1_0:List Int)(p1_1:Int)(p1_2:Int)(n:Nat)(Ae:Int)(Aj:Int)(K:Ex→St→Prop):Bl (EV (Ad7 L) L 7 A7o.r.r.l.r.r.l.l) [0,1,4,7,8] [3,4] n (Afy p1_0 p1_1 p1_2 Ae Aj) K=ob (Hz L p1_0 p1_1 p1_2 n Ae Aj) (fun o=>Akd p1_0 p1_1 p1_2 K o):=by
 induction n generalizing Ae Aj with
 |zero=>rfl
 |succ n ih=>
  refine Eq.trans (b:=J1 Bh L p1_0 p1_1 p1_2 (fun Ae Aj=>Bl (EV (Ad7 L) L 7 A7o.r.r.l.r.r.l.l) [0,1,4,7,8] [3,4] n (Afy p1_0 p1_1 p1_2 Ae Aj) K) (Akd p1_0 p1_1 p1_2 K) Ae Aj) (by kernel_rfl) ?_
  simp only [ih]
  exact A9n L p1_0 p1_1 p1_2 (Hz L p1_0 p1_1 p1_2 n) (Akd p1_0 p1_1 p1_2 K) Ae Aj
def Azw(p1_0:List Int)(p1_1:Int)(p1_2:Int):List PV:= [.lst false (.t3 p1_0),.clo 231 0 [.loc 3 0,.loc 4 0]]
def Azz(p1_0:List Int)(p1_1:Int)(p1_2:Int):List (Nat×List PV):= [(3,[I p1_1]),(4,[I p1_2])]
def Ab4(p1_0:List Int)(p1_1:Int)(p1_2:Int)(k:PV→List (Nat×List PV)→Prop):Int→Prop:=fun o=>k (I o) [(3,[I p1_1]),(4,[I p1_2])]
def Qf{A:Type}(an:An A)(L:Nat)(p1_0:List Int)(p1_1:Int)(p1_2:Int)(out:Int→A):A:=
 (an.bd (Hz L p1_0 p1_1 p1_2 L 0 0) fun o1=>
 (an.sl o1.1 [(an.lf out o1.2.1),
 (an.lf out (-1))]))
def Td(L:Nat)(p1_0:List Int)(p1_1:Int)(p1_2:Int):Option Int:=Qf (Bq _) L p1_0 p1_1 p1_2 some
def A0p(L:Nat)(p1_0:List Int)(p1_1:Int)(p1_2:Int)(k:PV→List (Nat×List PV)→Prop):Ex→St→Prop:=(Ca 0 (Dl (EV (Ad7 L) L 7 A7o.r.r.r) (Acy Tryz.prog (RS Tryz.f234) k)))
theorem Bhh(L:Nat)(p1_0:List Int)(p1_1:Int)(p1_2:Int)(k:PV→List (Nat×List PV)→Prop)(o1:Nat×(Int×Int)):Akd p1_0 p1_1 p1_2 (A0p L p1_0 p1_1 p1_2 k) o1=
 (Cr o1.1 [(ob (some o1.2.1) (Ab4 p1_0 p1_1 p1_2 k)),
 (ob (some (-1)) (Ab4 p1_0 p1_1 p1_2 k))]):=by kernel_rfl
theorem A8d(L:Nat)(p1_0:List Int)(p1_1:Int)(p1_2:Int)(k:PV→List (Nat×List PV)→Prop):YO (Ad7 L) L 8 234 (Azw p1_0 p1_1 p1_2) (Azz p1_0 p1_1 p1_2) k=ob (Td L p1_0 p1_1 p1_2) (fun o=>Ab4 p1_0 p1_1 p1_2 k o):=by
 refine (Zn _ _ _ jn4 _ _ _ _ _ _ _).trans ?_
 refine Eq.trans (b:=Qf Bh L p1_0 p1_1 p1_2 (Ab4 p1_0 p1_1 p1_2 k)) ?_ ?_
 ·refine Eq.trans (b:=(Bl (EV (Ad7 L) L 7 A7o.r.r.l.r.r.l.l) [0,1,4,7,8] [3,4] L (Afy p1_0 p1_1 p1_2 0 0) (A0p L p1_0 p1_1 p1_2 k))) (by kernel_rfl) ?_
  unfold Qf
  dsimp only [Bh]
  simp only [A84,Bhh]
 generalize Ab4 p1_0 p1_1 p1_2 k=Q
 unfold Td Qf
 dsimp only [Bh,Bq]
 try simp only [y1,y2,y3,y4,y5 Q,y6,y7,y8 Q,y9,z1,z2,z3,z4]
def A0q(L:Nat)(a2:(List Int))(a0:Int)(a1:Int)(kk:PV→Prop):PV→List (Nat×List PV)→Prop:=(u4 Tryz.prog (Ad7 L) (EI (Ad7 L) L 8) 2 (List.drop 3 Bmq.r.r.l.ops) ({ fr:= [(6,.clo 231 0 [.loc 3 0,.loc 4 0]),(5,.lst false (.t3 a2)),(0,.lst false (.t3 a2)),(1,.clo 231 0 [.loc 3 0,.loc 4 0]),(4,B false)],ob:= [(3,[I a0]),(4,[I a1])],base:=5 } :St) (some 7) (fun st9=>(Dl (EV (Ad7 L) L 8 Bmq.r.r.r) (Acy Tryz.prog (RS Tryz.f230) (u4 Tryz.prog (Ad7 L) (EI (Ad7 L) L 9) 2 (List.drop 3 A7m.r.r.l.ops) ({ fr:= [(8,.clo 231 0 [.loc 3 0,.loc 4 0]),(7,.lst false (.t3 a2)),(2,.lst false (.t3 a2)),(3,.loc 3 0),(4,.loc 4 0),(6,B false)],ob:= [(3,[I a0]),(4,[I a1])],base:=0 } :St) (some 9) (fun st9=>(Dl (EV (Ad7 L) L 9 A7m.r.r.r) (Dx Tryz.prog (RS Tryz.f208) kk)) .normal st9)))) .normal st9))
theorem Bhi(L:Nat)(a2:(List Int))(a0:Int)(a1:Int)(kk:PV→Prop)(o1:Int):Ab4 a2 a0 a1 (A0q L a2 a0 a1 kk) o1=
 (ob (some (!(decide (o1≥0)))) (fun(x:Bool)=>kk (B x))):=by kernel_rfl
def Tl{A:Type}(an:An A)(L:Nat)(a0:Int)(a1:Int)(a2:(List Int))(out:Bool→A):A:=
 (an.bd (Td L a2 a0 a1) fun o1=>
 (an.lf out (!(decide (o1≥0)))))
def Dg(L:Nat)(a0:Int)(a1:Int)(a2:(List Int)):Option Bool:=Tl (Bq _) L a0 a1 a2 some
theorem Bsi(L:Nat)(a0:Int)(a1:Int)(a2:(List Int))(kk:PV→Prop):EW (Ad7 L) L 9 (RS Tryz.f208) A7m [I a0,I a1,.lst false (.t3 a2)] kk=ob (Dg L a0 a1 a2) (fun(x:Bool)=>kk (B x)):=by
 refine Eq.trans (b:=Tl Bh L a0 a1 a2 (fun(x:Bool)=>kk (B x))) ?_ ?_
 ·refine Eq.trans (b:=(YO (Ad7 L) L 8 234 (Azw a2 a0 a1) (Azz a2 a0 a1) (A0q L a2 a0 a1 kk))) (by kernel_rfl) ?_
  unfold Tl
  dsimp only [Bh]
  simp only [A8d,Bhi]
 generalize (fun(x:Bool)=>kk (B x))=Q
 unfold Dg Tl
 dsimp only [Bh,Bq]
 try simp only [y1,y2,y3,y4,y5 Q,y6,y7,y8 Q,y9,z1,z2,z3,z4]
theorem Bno(L:Nat)(a0:Int)(a1:Int)(a2:(List Int))(r:Bool)(h:Dg L a0 a1 a2=some r):Bc Tryz.prog 208 [I a0,I a1,.lst false (.t3 a2)] (B r):=
 hE Cg (Bui L) mixed Tryz.func208 (by kernel_rfl:C4 Tryz.prog inl Tryz.f208=some A7m) (er:=fun(x:Bool)=>B x) (by kernel_rfl) (Bsi L a0 a1 a2) h
noncomputable def Bl6:EC:=(C4 Tryz.prog inl Tryz.f153).getD .stop
def Bkx(L:Nat):Bi:=(Cp 207 (A1 (fun(x:Bool)=>B x) Ei (M4 L)) (Cp 208 (A3 (fun(x:Bool)=>B x) (cI .i64) (cI .i64) cl3 (Dg L)) Kg))
theorem Bty(L:Nat):Bs Tryz.prog (Bkx L):=(Ad (a1 _ (Bnn L)) (Ad (a3 _ (Bno L)) (Az Tryz.prog)))
def Xm{A:Type}(an:An A)(L:Nat)(a0:Bo)(out:Int→A):A:=
 (an.bd (M4 L a0) fun r1=>
 (an.cn (!r1)
 (an.lf out 1)
 (an.cn (a0.Op == 1)
 (an.bd (Dg L 0 1000000000 [a0.A]) fun r2=>
 (an.cn (!r2)
 (an.lf out 2)
 (an.lf out 0)))
 (an.cn (a0.Op == 2)
 (an.bd (Dg L 0 1000000000 [a0.A,a0.B]) fun r3=>
 (an.jp (bif r3 then (decide (a0.A≤a0.B))
 else false) (fun j=>(an.cn r3
 (an.ap j (decide (a0.A≤a0.B)))
 (an.ap j false))) (fun b4=>
 (an.cn (!b4)
 (an.lf out 2)
 (an.lf out 0)))))
 (an.cn (a0.Op == 4)
 (an.bd (Dg L 1 20 [a0.N]) fun r5=>
 (an.cn r5
 (an.jb (Option.bind (Dg L 0 1000000 [a0.A,a0.B]) fun r7=>
 (some r7)) (fun j=>(an.bd (Dg L 0 1000000 [a0.A,a0.B]) fun r8=>
 (an.lf j r8))) (fun b6=>
 (an.jp (bif b6 then (decide (a0.A≤a0.B))
 else false) (fun j=>(an.cn b6
 (an.ap j (decide (a0.A≤a0.B)))
 (an.ap j false))) (fun b9=>
 (an.cn (!b9)
 (an.lf out 2)
 (an.lf out 0))))))
 (an.nj (an.nj (an.lf out 2)))))
 (an.cn (a0.Op == 5)
 (an.bd (Dg L 1 1000 [a0.A,a0.B]) fun r10=>
 (an.cn (!r10)
 (an.lf out 2)
 (an.lf out 0)))
 (an.cn (a0.Op == 3)
 (an.cn ((a0.Values.length:Int) != (a0.Weights.length:Int))
 (an.lf out 8)
 (an.cn ((a0.Values.length:Int) == 0)
 (an.lf out 7)
 (an.cn (decide ((a0.Values.length:Int) > 20))
 (an.lf out 6)
 (an.bd (Dg L 0 1000000000 a0.Values) fun r11=>
 (an.jb (bif r11 then (Option.bind (Dg L 1 1000 a0.Weights) fun r13=>
 (some r13))
 else (some false)) (fun j=>(an.cn r11
 (an.bd (Dg L 1 1000 a0.Weights) fun r14=>
 (an.lf j r14))
 (an.lf j false))) (fun b12=>
 (an.cn (!b12)
 (an.lf out 2)
 (an.lf out 0))))))))
 (an.lf out 2))))))))
def Mv(L:Nat)(a0:Bo):Option Int:=Xm (Bq _) L a0 some
theorem Bry(L:Nat)(a0:Bo)(kk:PV→Prop):EW (Bkx L) L 9 (RS Tryz.f153) Bl6 [.agg (C9 a0)] kk=ob (Mv L a0) (fun(x:Int)=>kk (I x)):=by
 refine Eq.trans (b:=Xm Bh L a0 (fun(x:Int)=>kk (I x))) (by kernel_rfl) ?_
 generalize (fun(x:Int)=>kk (I x))=Q
 unfold Mv Xm
 dsimp only [Bh,Bq]
 try simp only [y1,y2,y3,y4,y5 Q,y6,y7,y8 Q,y9,z1,z2,z3,z4]
theorem Bm5(L:Nat)(a0:Bo)(r:Int)(h:Mv L a0=some r):Bc Tryz.prog 153 [.agg (C9 a0)] (I r):=
 hE Cg (Bty L) mixed Tryz.func153 (by kernel_rfl:C4 Tryz.prog inl Tryz.f153=some Bl6) (er:=fun(x:Int)=>I x) (by kernel_rfl) (Bry L a0) h
noncomputable def c74:EC:=(C4 Tryz.prog inl Tryz.f74).getD .stop
def O74(L:Nat):Bi:=(Cp 26 (A1 (fun(x:Int)=>I x) Bm (Gw L)) (Cp 58 (A1 (fun(x:Int)=>I x) cS (Hi L)) (Cp 153 (A1 (fun(x:Int)=>I x) Ei (Mv L)) Kg)))
theorem s74(L:Nat):Bs Tryz.prog (O74 L):=(Ad (a1 _ (h26 L)) (Ad (a1 _ (h58 L)) (Ad (a1 _ (Bm5 L)) (Az Tryz.prog))))
def Ani(a1:Bn)(a0:Ab)(A9:Int)(Aj:Int):St:=({ fr:= [(0,.any),(1,.any),(2,.loc 2 0),(3,.loc 3 0),(4,I A9),(9,.any),(10,.any),(12,.any),(13,.any),(24,.lst true (.t188 [(⟨a1.u_name,a0.Name⟩:D9),(⟨a1.u_of,a0.Of⟩:D9)])),(25,I ([(⟨a1.u_name,a0.Name⟩:D9),(⟨a1.u_of,a0.Of⟩:D9)].length:Int)),(26,I Aj),(53,.any),(74,.any)],ob:= [(2,(B2 a0)),(3,(D0 a1))],base:=0 } :St)
def Arh(a1:Bn)(a0:Ab)(K:Ex→St→Prop):Nat×(Int×Int)→Prop:=fun o=>Cr o.1 [K .ret (Ani a1 a0 o.2.1 o.2.2),K (.exit 0) (Ani a1 a0 o.2.1 o.2.2)]
def Om{A:Type}(an:An A)(L:Nat)(a1:Bn)(a0:Ab)(rec:Int→Int→A)(out:Nat×(Int×Int)→A)(A9:Int)(Aj:Int):A:=
 (an.cn (decide (Aj < ([(⟨a1.u_name,a0.Name⟩:D9),(⟨a1.u_of,a0.Of⟩:D9)].length:Int)))
 (an.gd ((0:Int)≤Aj)
 (an.gd (Aj < (([(⟨a1.u_name,a0.Name⟩:D9),(⟨a1.u_of,a0.Of⟩:D9)].length:Nat):Int))
 (an.bd (Hi L (([(⟨a1.u_name,a0.Name⟩:D9),(⟨a1.u_of,a0.Of⟩:D9)].getD (Int.toNat Aj) default).u_name)) fun r1=>
 (an.jp (bif ([(⟨a1.u_name,a0.Name⟩:D9),(⟨a1.u_of,a0.Of⟩:D9)].getD (Int.toNat Aj) default).u_is then (r1 != 0)
 else false) (fun j=>(an.cn (([(⟨a1.u_name,a0.Name⟩:D9),(⟨a1.u_of,a0.Of⟩:D9)].getD (Int.toNat Aj) default).u_is)
 (an.ap j (r1 != 0))
 (an.ap j false))) (fun b2=>
 (an.cn b2
 (an.lf out (0,(r1,Aj)))
 (rec A9 (F9 (Aj+1)))))))))
 (an.lf out (1,(A9,Aj))))
def Jf(L:Nat)(a1:Bn)(a0:Ab):Nat→Int→Int→Option (Nat×(Int×Int))
 |0,_,_=>none
 |n+1,A9,Aj=>Om (Bq _) L a1 a0 (Jf L a1 a0 n) some A9 Aj
theorem Bf4(L:Nat)(a1:Bn)(a0:Ab)(g:Int→Int→Option (Nat×(Int×Int)))(Q:Nat×(Int×Int)→Prop)(A9:Int)(Aj:Int):Om Bh L a1 a0 (fun A9 Aj=>ob (g A9 Aj) Q) Q A9 Aj=ob (Om (Bq _) L a1 a0 g some A9 Aj) Q:=by
 unfold Om
 dsimp only [Bh,Bq]
 try simp only [y1,y2,y3,y4,y5 Q,y6,y7,y8 Q,y9,z1,z2,z3,z4]
 try simp only [z5,z6,y1,y2,y3,y4,y5 Q,y6,y7,y8 Q,y9,z1,z2,z3,z4]
theorem Be2(L:Nat)(a1:Bn)(a0:Ab)(n:Nat)(A9:Int)(Aj:Int)(K:Ex→St→Prop):Bl (EV (O74 L) L 9 c74.r.r.l.r.r.l.l) [0,1,2,3,4,9,10,12,13,24,25,26,53,74] [2,3] n (Ani a1 a0 A9 Aj) K=ob (Jf L a1 a0 n A9 Aj) (fun o=>Arh a1 a0 K o):=by
 induction n generalizing A9 Aj with
 |zero=>rfl
 |succ n ih=>
  refine Eq.trans (b:=Om Bh L a1 a0 (fun A9 Aj=>Bl (EV (O74 L) L 9 c74.r.r.l.r.r.l.l) [0,1,2,3,4,9,10,12,13,24,25,26,53,74] [2,3] n (Ani a1 a0 A9 Aj) K) (Arh a1 a0 K) A9 Aj) (by kernel_rfl) ?_
  simp only [ih]
  exact Bf4 L a1 a0 (Jf L a1 a0 n) (Arh a1 a0 K) A9 Aj
def Anj(a1:Bn)(a0:Ab)(m4:Int)(E9:Int):St:=({ fr:= [(0,.any),(1,.any),(2,.loc 2 0),(3,.loc 3 0),(4,I m4),(6,.any),(7,.any),(12,.any),(13,.any),(26,.any),(51,.lst true (.t190 [(⟨a1.u_e,(Aa.cp a0.E)⟩:My),(⟨a1.u_f,(Aa.cp a0.F)⟩:My)])),(52,I ([(⟨a1.u_e,(Aa.cp a0.E)⟩:My),(⟨a1.u_f,(Aa.cp a0.F)⟩:My)].length:Int)),(53,I E9),(74,.any)],ob:= [(2,(B2 a0)),(3,(D0 a1))],base:=0 } :St)
def Ari(a1:Bn)(a0:Ab)(K:Ex→St→Prop):Nat×(Int×Int)→Prop:=fun o=>Cr o.1 [K .ret (Anj a1 a0 o.2.1 o.2.2),K (.exit 2) (Anj a1 a0 o.2.1 o.2.2)]
def On{A:Type}(an:An A)(L:Nat)(a1:Bn)(a0:Ab)(rec:Int→Int→A)(out:Nat×(Int×Int)→A)(m4:Int)(E9:Int):A:=
 (an.cn (decide (E9 < ([(⟨a1.u_e,(Aa.cp a0.E)⟩:My),(⟨a1.u_f,(Aa.cp a0.F)⟩:My)].length:Int)))
 (an.gd ((0:Int)≤E9)
 (an.gd (E9 < (([(⟨a1.u_e,(Aa.cp a0.E)⟩:My),(⟨a1.u_f,(Aa.cp a0.F)⟩:My)].length:Nat):Int))
 (an.cn (!(([(⟨a1.u_e,(Aa.cp a0.E)⟩:My),(⟨a1.u_f,(Aa.cp a0.F)⟩:My)].getD (Int.toNat E9) default).u_is))
 (rec m4 (F9 (E9+1)))
 (an.bd (Gw L (Aa.cp (([(⟨a1.u_e,(Aa.cp a0.E)⟩:My),(⟨a1.u_f,(Aa.cp a0.F)⟩:My)].getD (Int.toNat E9) default).u_e))) fun r2=>
 (an.cn (r2 != 0)
 (an.lf out (0,(r2,E9)))
 (rec m4 (F9 (E9+1))))))))
 (an.lf out (1,(m4,E9))))
def Jg(L:Nat)(a1:Bn)(a0:Ab):Nat→Int→Int→Option (Nat×(Int×Int))
 |0,_,_=>none
 |n+1,m4,E9=>On (Bq _) L a1 a0 (Jg L a1 a0 n) some m4 E9
theorem Bf5(L:Nat)(a1:Bn)(a0:Ab)(g:Int→Int→Option (Nat×(Int×Int)))(Q:Nat×(Int×Int)→Prop)(m4:Int)(E9:Int):On Bh L a1 a0 (fun m4 E9=>ob (g m4 E9) Q) Q m4 E9=ob (On (Bq _) L a1 a0 g some m4 E9) Q:=by
 unfold On
 dsimp only [Bh,Bq]
 try simp only [y1,y2,y3,y4,y5 Q,y6,y7,y8 Q,y9,z1,z2,z3,z4]
theorem Be3(L:Nat)(a1:Bn)(a0:Ab)(n:Nat)(m4:Int)(E9:Int)(K:Ex→St→Prop):Bl (EV (O74 L) L 9 c74.r.r.r.r.l.r.r.l.l) [0,1,2,3,4,6,7,12,13,26,51,52,53,74] [2,3] n (Anj a1 a0 m4 E9) K=ob (Jg L a1 a0 n m4 E9) (fun o=>Ari a1 a0 K o):=by
 induction n generalizing m4 E9 with
 |zero=>rfl
 |succ n ih=>
  refine Eq.trans (b:=On Bh L a1 a0 (fun m4 E9=>Bl (EV (O74 L) L 9 c74.r.r.r.r.l.r.r.l.l) [0,1,2,3,4,6,7,12,13,26,51,52,53,74] [2,3] n (Anj a1 a0 m4 E9) K) (Ari a1 a0 K) m4 E9) (by kernel_rfl) ?_
  simp only [ih]
  exact Bf5 L a1 a0 (Jg L a1 a0 n) (Ari a1 a0 K) m4 E9
def Ank(a0:Ab)(a1:Bn)(Tg:Int)(Mt:Int):St:=({ fr:= [(0,.any),(1,.any),(2,.loc 2 0),(3,.loc 3 0),(4,I Tg),(6,.any),(7,.any),(9,.any),(10,.any),(26,.any),(53,.any),(72,.lst false (.t38 a0.Args)),(73,I (a0.Args.length:Int)),(74,I Mt)],ob:= [(2,(B2 a0)),(3,(D0 a1))],base:=0 } :St)
def Arj(a0:Ab)(a1:Bn)(K:Ex→St→Prop):Nat×(Int×Int)→Prop:=fun o=>Cr o.1 [K .ret (Ank a0 a1 o.2.1 o.2.2),K (.exit 4) (Ank a0 a1 o.2.1 o.2.2)]
def Mh{A:Type}(an:An A)(L:Nat)(a0:Ab)(a1:Bn)(rec:Int→Int→A)(out:Nat×(Int×Int)→A)(Tg:Int)(Mt:Int):A:=
 (an.cn (decide (Mt < (a0.Args.length:Int)))
 (an.gd ((0:Int)≤Mt)
 (an.gd (Mt < ((a0.Args.length:Nat):Int))
 (an.bd (Gw L (Aa.cp (a0.Args.getD (Int.toNat Mt) default))) fun r3=>
 (an.cn (r3 != 0)
 (an.lf out (0,(r3,Mt)))
 (rec Tg (F9 (Mt+1)))))))
 (an.lf out (1,(Tg,Mt))))
def Jh(L:Nat)(a0:Ab)(a1:Bn):Nat→Int→Int→Option (Nat×(Int×Int))
 |0,_,_=>none
 |n+1,Tg,Mt=>Mh (Bq _) L a0 a1 (Jh L a0 a1 n) some Tg Mt
theorem Bf6(L:Nat)(a0:Ab)(a1:Bn)(g:Int→Int→Option (Nat×(Int×Int)))(Q:Nat×(Int×Int)→Prop)(Tg:Int)(Mt:Int):Mh Bh L a0 a1 (fun Tg Mt=>ob (g Tg Mt) Q) Q Tg Mt=ob (Mh (Bq _) L a0 a1 g some Tg Mt) Q:=by
 unfold Mh
 dsimp only [Bh,Bq]
 try simp only [y1,y2,y3,y4,y5 Q,y6,y7,y8 Q,y9,z1,z2,z3,z4]
theorem Be4(L:Nat)(a0:Ab)(a1:Bn)(n:Nat)(Tg:Int)(Mt:Int)(K:Ex→St→Prop):Bl (EV (O74 L) L 9 c74.r.r.r.r.r.r.r.r.l.r.r.l.l) [0,1,2,3,4,6,7,9,10,26,53,72,73,74] [2,3] n (Ank a0 a1 Tg Mt) K=ob (Jh L a0 a1 n Tg Mt) (fun o=>Arj a0 a1 K o):=by
 induction n generalizing Tg Mt with
 |zero=>rfl
 |succ n ih=>
  refine Eq.trans (b:=Mh Bh L a0 a1 (fun Tg Mt=>Bl (EV (O74 L) L 9 c74.r.r.r.r.r.r.r.r.l.r.r.l.l) [0,1,2,3,4,6,7,9,10,26,53,72,73,74] [2,3] n (Ank a0 a1 Tg Mt) K) (Arj a0 a1 K) Tg Mt) (by kernel_rfl) ?_
  simp only [ih]
  exact Bf6 L a0 a1 (Jh L a0 a1 n) (Arj a0 a1 K) Tg Mt
def A40(L:Nat)(kk:PV→Prop):Ex→St→Prop:=(Ca 0 (Dl (EV (O74 L) L 9 c74.r.r.r) (Dx Tryz.prog (RS Tryz.f74) kk)))
def A41(L:Nat)(kk:PV→Prop):Ex→St→Prop:=(Ca 2 (Dl (EV (O74 L) L 9 c74.r.r.r.r.r) (Dx Tryz.prog (RS Tryz.f74) kk)))
def A42(L:Nat)(kk:PV→Prop):Ex→St→Prop:=(Ca 4 (Dl (EV (O74 L) L 9 c74.r.r.r.r.r.r.r.r.r) (Dx Tryz.prog (RS Tryz.f74) kk)))
theorem Bp5(L:Nat)(a1:Bn)(a0:Ab)(kk:PV→Prop)(o1:Nat×(Int×Int)):Arh a1 a0 (A40 L kk) o1=
 (Cr o1.1 [(ob (some o1.2.1) (fun(x:Int)=>kk (I x))),
 (Bl (EV (O74 L) L 9 c74.r.r.r.r.l.r.r.l.l) [0,1,2,3,4,6,7,12,13,26,51,52,53,74] [2,3] L (Anj a1 a0 o1.2.1 0) (A41 L kk))]):=by kernel_rfl
theorem Bp6(L:Nat)(a1:Bn)(a0:Ab)(kk:PV→Prop)(o2:Nat×(Int×Int)):Ari a1 a0 (A41 L kk) o2=
 (Cr o2.1 [(ob (some o2.2.1) (fun(x:Int)=>kk (I x))),
 (br (decide ((a0.Args.length:Int) > 6))
 (ob (some 6) (fun(x:Int)=>kk (I x)))
 (Bl (EV (O74 L) L 9 c74.r.r.r.r.r.r.r.r.l.r.r.l.l) [0,1,2,3,4,6,7,9,10,26,53,72,73,74] [2,3] L (Ank a0 a1 o2.2.1 0) (A42 L kk)))]):=by kernel_rfl
theorem Bp7(L:Nat)(a0:Ab)(a1:Bn)(kk:PV→Prop)(o3:Nat×(Int×Int)):Arj a0 a1 (A42 L kk) o3=
 (Cr o3.1 [(ob (some o3.2.1) (fun(x:Int)=>kk (I x))),
 (br a1.u_dist
 (ob (Mv L a0.Dist) fun r4=>
 (ob (some r4) (fun(x:Int)=>kk (I x))))
 (ob (some 0) (fun(x:Int)=>kk (I x))))]):=by kernel_rfl
def U0{A:Type}(an:An A)(L:Nat)(a0:Ab)(a1:Bn)(out:Int→A):A:=
 (an.bd (Jf L a1 a0 L 0 0) fun o1=>
 (an.sl o1.1 [(an.lf out o1.2.1),
 (an.bd (Jg L a1 a0 L o1.2.1 0) fun o2=>
 (an.sl o2.1 [(an.lf out o2.2.1),
 (an.cn (decide ((a0.Args.length:Int) > 6))
 (an.lf out 6)
 (an.bd (Jh L a0 a1 L o2.2.1 0) fun o3=>
 (an.sl o3.1 [(an.lf out o3.2.1),
 (an.cn a1.u_dist
 (an.bd (Mv L a0.Dist) fun r4=>
 (an.lf out r4))
 (an.lf out 0))])))]))]))
def Mw(L:Nat)(a0:Ab)(a1:Bn):Option Int:=U0 (Bq _) L a0 a1 some
theorem e74(L:Nat)(a0:Ab)(a1:Bn)(kk:PV→Prop):EW (O74 L) L 9 (RS Tryz.f74) c74 [.agg (B2 a0),.agg (D0 a1)] kk=ob (Mw L a0 a1) (fun(x:Int)=>kk (I x)):=by
 refine Eq.trans (b:=U0 Bh L a0 a1 (fun(x:Int)=>kk (I x))) ?_ ?_
 ·refine Eq.trans (b:=(Bl (EV (O74 L) L 9 c74.r.r.l.r.r.l.l) [0,1,2,3,4,9,10,12,13,24,25,26,53,74] [2,3] L (Ani a1 a0 0 0) (A40 L kk))) (by kernel_rfl) ?_
  unfold U0
  dsimp only [Bh]
  simp only [Be2,Be3,Be4,Bp5,Bp6,Bp7]
 generalize (fun(x:Int)=>kk (I x))=Q
 unfold Mw U0
 dsimp only [Bh,Bq]
 try simp only [y1,y2,y3,y4,y5 Q,y6,y7,y8 Q,y9,z1,z2,z3,z4]
theorem h74(L:Nat)(a0:Ab)(a1:Bn)(r:Int)(h:Mw L a0 a1=some r):Bc Tryz.prog 74 [.agg (B2 a0),.agg (D0 a1)] (I r):=
 hE Cg (s74 L) mixed Tryz.func74 (by kernel_rfl:C4 Tryz.prog inl Tryz.f74=some c74) (er:=fun(x:Int)=>I x) (by kernel_rfl) (e74 L a0 a1) h
noncomputable def c41:EC:=(C4 Tryz.prog inl Tryz.f41).getD .stop
def O41(F3:(List Ab)→Option Int)(L:Nat):Bi:=(Cp 41 (A1 (fun(x:Int)=>I x) S1 F3) (Cp 72 (A1 (fun(x:(Bn×Bool))=> .tup [.agg (D0 x.1),B x.2]) (cI .i64) (O3 L)) (Cp 73 (A2 (fun(x:Bool)=>B x) Co Zr (M6 L)) (Cp 74 (A2 (fun(x:Int)=>I x) Co Zr (Mw L)) Kg))))
theorem s41(F3:(List Ab)→Option Int)(Bdu:∀(y0:(List Ab)) (r:Int),F3 y0=some r→Bc Tryz.prog 41 [.lst false (.t82 y0)] (I r))(L:Nat):Bs Tryz.prog (O41 F3 L):=(Ad (a1 _ Bdu) (Ad (a1 _ (h72 L)) (Ad (a2 _ (h73 L)) (Ad (a2 _ (h74 L)) (Az Tryz.prog)))))
def Ane(a0:(List Ab))(A9:Int)(Aj:Int):St:=({ fr:= [(0,.any),(2,I A9),(10,.lst false (.t82 a0)),(11,I (a0.length:Int)),(12,I Aj)],ob:= [],base:=0 } :St)
def Arc(a0:(List Ab))(K:Ex→St→Prop):Nat×(Int×Int)→Prop:=fun o=>Cr o.1 [K .ret (Ane a0 o.2.1 o.2.2),K (.exit 0) (Ane a0 o.2.1 o.2.2)]
def Mg{A:Type}(an:An A)(F3:(List Ab)→Option Int)(L:Nat)(a0:(List Ab))(rec:Int→Int→A)(out:Nat×(Int×Int)→A)(A9:Int)(Aj:Int):A:=
 (an.cn (decide (Aj < (a0.length:Int)))
 (an.gd ((0:Int)≤Aj)
 (an.gd (Aj < ((a0.length:Nat):Int))
 (an.bd (O3 L ((a0.getD (Int.toNat Aj) default).Op)) fun r1=>
 (an.jb (bif (!r1.2) then (some true)
 else (Option.bind (M6 L (Ab.cp (a0.getD (Int.toNat Aj) default)) r1.1) fun r3=>
 (some (!r3)))) (fun j=>(an.cn (!r1.2)
 (an.lf j true)
 (an.bd (M6 L (Ab.cp (a0.getD (Int.toNat Aj) default)) r1.1) fun r4=>
 (an.lf j (!r4))))) (fun b2=>
 (an.cn b2
 (an.lf out (0,(1,Aj)))
 (an.bd (Mw L (Ab.cp (a0.getD (Int.toNat Aj) default)) r1.1) fun r5=>
 (an.cn (r5 != 0)
 (an.lf out (0,(r5,Aj)))
 (an.bd (F3 ((a0.getD (Int.toNat Aj) default).Body)) fun r6=>
 (an.cn (r6 != 0)
 (an.lf out (0,(r6,Aj)))
 (an.bd (F3 ((a0.getD (Int.toNat Aj) default).Else)) fun r7=>
 (an.cn (r7 != 0)
 (an.lf out (0,(r7,Aj)))
 (rec A9 (F9 (Aj+1)))))))))))))))
 (an.lf out (1,(A9,Aj))))
def Je(F3:(List Ab)→Option Int)(L:Nat)(a0:(List Ab)):Nat→Int→Int→Option (Nat×(Int×Int))
 |0,_,_=>none
 |n+1,A9,Aj=>Mg (Bq _) F3 L a0 (Je F3 L a0 n) some A9 Aj
theorem Bfz(F3:(List Ab)→Option Int)(L:Nat)(a0:(List Ab))(g:Int→Int→Option (Nat×(Int×Int)))(Q:Nat×(Int×Int)→Prop)(A9:Int)(Aj:Int):Mg Bh F3 L a0 (fun A9 Aj=>ob (g A9 Aj) Q) Q A9 Aj=ob (Mg (Bq _) F3 L a0 g some A9 Aj) Q:=by
 unfold Mg
 dsimp only [Bh,Bq]
 try simp only [y1,y2,y3,y4,y5 Q,y6,y7,y8 Q,y9,z1,z2,z3,z4]
 try simp only [z5,z6,y1,y2,y3,y4,y5 Q,y6,y7,y8 Q,y9,z1,z2,z3,z4]
theorem Bex(F3:(List Ab)→Option Int)(L:Nat)(a0:(List Ab))(n:Nat)(A9:Int)(Aj:Int)(K:Ex→St→Prop):Bl (EV (O41 F3 L) L 9 c41.r.r.l.r.r.l.l) [0,2,10,11,12] [] n (Ane a0 A9 Aj) K=ob (Je F3 L a0 n A9 Aj) (fun o=>Arc a0 K o):=by
 induction n generalizing A9 Aj with
 |zero=>rfl
 |succ n ih=>
  refine Eq.trans (b:=Mg Bh F3 L a0 (fun A9 Aj=>Bl (EV (O41 F3 L) L 9 c41.r.r.l.r.r.l.l) [0,2,10,11,12] [] n (Ane a0 A9 Aj) K) (Arc a0 K) A9 Aj) (by kernel_rfl) ?_
  simp only [ih]
  exact Bfz F3 L a0 (Je F3 L a0 n) (Arc a0 K) A9 Aj
def A4v(F3:(List Ab)→Option Int)(L:Nat)(kk:PV→Prop):Ex→St→Prop:=(Ca 0 (Dl (EV (O41 F3 L) L 9 c41.r.r.r) (Dx Tryz.prog (RS Tryz.f41) kk)))
theorem Bp0(F3:(List Ab)→Option Int)(L:Nat)(a0:(List Ab))(kk:PV→Prop)(o1:Nat×(Int×Int)):Arc a0 (A4v F3 L kk) o1=
 (Cr o1.1 [(ob (some o1.2.1) (fun(x:Int)=>kk (I x))),
 (ob (some 0) (fun(x:Int)=>kk (I x)))]):=by kernel_rfl
def Uz{A:Type}(an:An A)(F3:(List Ab)→Option Int)(L:Nat)(a0:(List Ab))(out:Int→A):A:=
 (an.bd (Je F3 L a0 L 0 0) fun o1=>
 (an.sl o1.1 [(an.lf out o1.2.1),
 (an.lf out 0)]))
def Ug(F3:(List Ab)→Option Int)(L:Nat)(a0:(List Ab)):Option Int:=Uz (Bq _) F3 L a0 some
theorem e41(F3:(List Ab)→Option Int)(L:Nat)(a0:(List Ab))(kk:PV→Prop):EW (O41 F3 L) L 9 (RS Tryz.f41) c41 [.lst false (.t82 a0)] kk=ob (Ug F3 L a0) (fun(x:Int)=>kk (I x)):=by
 refine Eq.trans (b:=Uz Bh F3 L a0 (fun(x:Int)=>kk (I x))) ?_ ?_
 ·refine Eq.trans (b:=(Bl (EV (O41 F3 L) L 9 c41.r.r.l.r.r.l.l) [0,2,10,11,12] [] L (Ane a0 0 0) (A4v F3 L kk))) (by kernel_rfl) ?_
  unfold Uz
  dsimp only [Bh]
  simp only [Bex,Bp0]
 generalize (fun(x:Int)=>kk (I x))=Q
 unfold Ug Uz
 dsimp only [Bh,Bq]
 try simp only [y1,y2,y3,y4,y5 Q,y6,y7,y8 Q,y9,z1,z2,z3,z4]
theorem b41(F3:(List Ab)→Option Int)(Bdu:∀(y0:(List Ab)) (r:Int),F3 y0=some r→Bc Tryz.prog 41 [.lst false (.t82 y0)] (I r))(L:Nat)(a0:(List Ab))(r:Int)(h:Ug F3 L a0=some r):Bc Tryz.prog 41 [.lst false (.t82 a0)] (I r):=
 hE Cg (s41 F3 Bdu L) mixed Tryz.func41 (by kernel_rfl:C4 Tryz.prog inl Tryz.f41=some c41) (er:=fun(x:Int)=>I x) (by kernel_rfl) (e41 F3 L a0) h
def Iq:Nat→(List Ab)→Option Int
 |0,_=>none
 |L+1,a0=>Ug (Iq L) L a0
theorem Bde:∀L,(∀(y0:(List Ab)) (r:Int),Iq L y0=some r→Bc Tryz.prog 41 [.lst false (.t82 y0)] (I r)):=by
 intro L
 induction L with
 |zero=>exact fun _ r h=>(by cases h)
 |succ L ih=>
  have i41:=ih
  exact fun y0 r h=>b41 (Iq L) i41 L y0 r h
theorem h41(L:Nat):∀(y0:(List Ab)) (r:Int),Iq L y0=some r→Bc Tryz.prog 41 [.lst false (.t82 y0)] (I r):=Bde L
noncomputable def c21:EC:=(C4 Tryz.prog inl Tryz.f21).getD .stop
def O21(L:Nat):Bi:=(Cp 39 (A1 (fun(x:Int)=>I x) S1 (Io L)) (Cp 40 (A1 (fun(x:Int)=>I x) S1 (Ip L)) (Cp 41 (A1 (fun(x:Int)=>I x) S1 (Iq L)) Kg)))
theorem s21(L:Nat):Bs Tryz.prog (O21 L):=(Ad (a1 _ (h39 L)) (Ad (a1 _ (h40 L)) (Ad (a1 _ (h41 L)) (Az Tryz.prog))))
def Xp{A:Type}(an:An A)(L:Nat)(a0:(List Ab))(out:Int→A):A:=
 (an.bd (Io L a0) fun r1=>
 (an.cn (decide (r1 > 200))
 (an.lf out 6)
 (an.bd (Ip L a0) fun r2=>
 (an.cn (decide (r2 > 12))
 (an.lf out 11)
 (an.bd (Iq L a0) fun r3=>
 (an.lf out r3))))))
def Kn(L:Nat)(a0:(List Ab)):Option Int:=Xp (Bq _) L a0 some
theorem e21(L:Nat)(a0:(List Ab))(kk:PV→Prop):EW (O21 L) L 9 (RS Tryz.f21) c21 [.lst false (.t82 a0)] kk=ob (Kn L a0) (fun(x:Int)=>kk (I x)):=by
 refine Eq.trans (b:=Xp Bh L a0 (fun(x:Int)=>kk (I x))) (by kernel_rfl) ?_
 generalize (fun(x:Int)=>kk (I x))=Q
 unfold Kn Xp
 dsimp only [Bh,Bq]
 try simp only [y1,y2,y3,y4,y5 Q,y6,y7,y8 Q,y9,z1,z2,z3,z4]
theorem h21(L:Nat)(a0:(List Ab))(r:Int)(h:Kn L a0=some r):Bc Tryz.prog 21 [.lst false (.t82 a0)] (I r):=
 hE Cg (s21 L) mixed Tryz.func21 (by kernel_rfl:C4 Tryz.prog inl Tryz.f21=some c21) (er:=fun(x:Int)=>I x) (by kernel_rfl) (e21 L a0) h
noncomputable def c29:EC:=(C4 Tryz.prog inl Tryz.f29).getD .stop
def O29(L:Nat):Bi:=Kg
theorem s29(L:Nat):Bs Tryz.prog (O29 L):=(Az Tryz.prog)
def Am8(a0:(List Be))(a1:ByteArray)(Ah:Int)(Aj:Bool)(Ba:Int):St:=({ fr:= [(0,.lst false (.t68 a0)),(1,S a1),(4,I Ah),(5,B Aj),(6,I Ba)],ob:= [],base:=0 } :St)
def Aq4(a0:(List Be))(a1:ByteArray)(K:Ex→St→Prop):Nat×(Int×Bool×Int)→Prop:=fun o=>Cr o.1 [K .ret (Am8 a0 a1 o.2.1 o.2.2.1 o.2.2.2),K (.exit 0) (Am8 a0 a1 o.2.1 o.2.2.1 o.2.2.2)]
def Hd{A:Type}(an:An A)(L:Nat)(a0:(List Be))(a1:ByteArray)(rec:Int→Bool→Int→A)(out:Nat×(Int×Bool×Int)→A)(Ah:Int)(Aj:Bool)(Ba:Int):A:=
 (an.cn (decide (Ba≥0))
 (an.gd ((0:Int)≤Ba)
 (an.gd (Ba < ((a0.length:Nat):Int))
 (an.cn (((a0.getD (Int.toNat Ba) default).Name).toList == a1.toList)
 (an.gd ((0:Int)≤Ba)
 (an.gd (Ba < ((a0.length:Nat):Int))
 (an.lf out (0,(((a0.getD (Int.toNat Ba) default).Type_),true,Ba)))))
 (rec Ah Aj (F9 (Ba - 1))))))
 (an.lf out (1,(Ah,Aj,Ba))))
def Hf(L:Nat)(a0:(List Be))(a1:ByteArray):Nat→Int→Bool→Int→Option (Nat×(Int×Bool×Int))
 |0,_,_,_=>none
 |n+1,Ah,Aj,Ba=>Hd (Bq _) L a0 a1 (Hf L a0 a1 n) some Ah Aj Ba
theorem Bfr(L:Nat)(a0:(List Be))(a1:ByteArray)(g:Int→Bool→Int→Option (Nat×(Int×Bool×Int)))(Q:Nat×(Int×Bool×Int)→Prop)(Ah:Int)(Aj:Bool)(Ba:Int):Hd Bh L a0 a1 (fun Ah Aj Ba=>ob (g Ah Aj Ba) Q) Q Ah Aj Ba=ob (Hd (Bq _) L a0 a1 g some Ah Aj Ba) Q:=by
 unfold Hd
 dsimp only [Bh,Bq]
 try simp only [y1,y2,y3,y4,y5 Q,y6,y7,y8 Q,y9,z1,z2,z3,z4]
theorem Bep(L:Nat)(a0:(List Be))(a1:ByteArray)(n:Nat)(Ah:Int)(Aj:Bool)(Ba:Int)(K:Ex→St→Prop):Bl (EV (O29 L) L 9 c29.r.r.l.r.r.l.l) [0,1,4,5,6] [] n (Am8 a0 a1 Ah Aj Ba) K=ob (Hf L a0 a1 n Ah Aj Ba) (fun o=>Aq4 a0 a1 K o):=by
 induction n generalizing Ah Aj Ba with
 |zero=>rfl
 |succ n ih=>
  refine Eq.trans (b:=Hd Bh L a0 a1 (fun Ah Aj Ba=>Bl (EV (O29 L) L 9 c29.r.r.l.r.r.l.l) [0,1,4,5,6] [] n (Am8 a0 a1 Ah Aj Ba) K) (Aq4 a0 a1 K) Ah Aj Ba) (by kernel_rfl) ?_
  simp only [ih]
  exact Bfr L a0 a1 (Hf L a0 a1 n) (Aq4 a0 a1 K) Ah Aj Ba
def A4n(L:Nat)(kk:PV→Prop):Ex→St→Prop:=(Ca 0 (Dl (EV (O29 L) L 9 c29.r.r.r) (Dx Tryz.prog (RS Tryz.f29) kk)))
theorem Bps(L:Nat)(a0:(List Be))(a1:ByteArray)(kk:PV→Prop)(o1:Nat×(Int×Bool×Int)):Aq4 a0 a1 (A4n L kk) o1=
 (Cr o1.1 [(ob (some (o1.2.1,o1.2.2.1)) (fun(x:(Int×Bool))=>kk (.tup [I x.1,B x.2]))),
 (ob (some (0,false)) (fun(x:(Int×Bool))=>kk (.tup [I x.1,B x.2])))]):=by kernel_rfl
def Sz{A:Type}(an:An A)(L:Nat)(a0:(List Be))(a1:ByteArray)(out:(Int×Bool)→A):A:=
 (an.bd (Hf L a0 a1 L 0 false (F9 ((a0.length:Int) - 1))) fun o1=>
 (an.sl o1.1 [(an.lf out (o1.2.1,o1.2.2.1)),
 (an.lf out (0,false))]))
def Db(L:Nat)(a0:(List Be))(a1:ByteArray):Option (Int×Bool):=Sz (Bq _) L a0 a1 some
theorem e29(L:Nat)(a0:(List Be))(a1:ByteArray)(kk:PV→Prop):EW (O29 L) L 9 (RS Tryz.f29) c29 [.lst false (.t68 a0),S a1] kk=ob (Db L a0 a1) (fun(x:(Int×Bool))=>kk (.tup [I x.1,B x.2])):=by
 refine Eq.trans (b:=Sz Bh L a0 a1 (fun(x:(Int×Bool))=>kk (.tup [I x.1,B x.2]))) ?_ ?_
 ·refine Eq.trans (b:=(Bl (EV (O29 L) L 9 c29.r.r.l.r.r.l.l) [0,1,4,5,6] [] L (Am8 a0 a1 0 false (F9 ((a0.length:Int) - 1))) (A4n L kk))) (by kernel_rfl) ?_
  unfold Sz
  dsimp only [Bh]
  simp only [Bep,Bps]
 generalize (fun(x:(Int×Bool))=>kk (.tup [I x.1,B x.2]))=Q
 unfold Db Sz
 dsimp only [Bh,Bq]
 try simp only [y1,y2,y3,y4,y5 Q,y6,y7,y8 Q,y9,z1,z2,z3,z4]
theorem h29(L:Nat)(a0:(List Be))(a1:ByteArray)(r:(Int×Bool))(h:Db L a0 a1=some r):Bc Tryz.prog 29 [.lst false (.t68 a0),S a1] (.tup [I r.1,B r.2]):=
 hE Cg (s29 L) mixed Tryz.func29 (by kernel_rfl:C4 Tryz.prog inl Tryz.f29=some c29) (er:=fun(x:(Int×Bool))=> .tup [I x.1,B x.2]) (by kernel_rfl) (e29 L a0 a1) h
noncomputable def c14:EC:=(C4 Tryz.prog inl Tryz.f14).getD .stop
def O14(L:Nat):Bi:=(Cp 29 (A2 (fun(x:(Int×Bool))=> .tup [I x.1,B x.2]) Acj cS (Db L)) Kg)
theorem s14(L:Nat):Bs Tryz.prog (O14 L):=(Ad (a2 _ (h29 L)) (Az Tryz.prog))
def Am4(a1:ByteArray)(a0:Ai)(Ae:Int)(Ah:Bool)(Ms:Int):St:=({ fr:= [(0,.any),(1,S a1),(2,.loc 2 0),(4,I Ae),(5,B Ah),(6,.any),(7,.any),(11,.any),(23,.lst false (.t72 a0.Site.Vars)),(24,I (a0.Site.Vars.length:Int)),(25,I Ms),(39,.any)],ob:= [(2,(B8 a0))],base:=0 } :St)
def Aqz(a1:ByteArray)(a0:Ai)(K:Ex→St→Prop):Nat×(Int×Bool×Int)→Prop:=fun o=>Cr o.1 [K .ret (Am4 a1 a0 o.2.1 o.2.2.1 o.2.2.2),K (.exit 0) (Am4 a1 a0 o.2.1 o.2.2.1 o.2.2.2)]
def J6{A:Type}(an:An A)(L:Nat)(a1:ByteArray)(a0:Ai)(rec:Int→Bool→Int→A)(out:Nat×(Int×Bool×Int)→A)(Ae:Int)(Ah:Bool)(Ms:Int):A:=
 (an.cn (decide (Ms < (a0.Site.Vars.length:Int)))
 (an.gd ((0:Int)≤Ms)
 (an.gd (Ms < ((a0.Site.Vars.length:Nat):Int))
 (an.cn (((a0.Site.Vars.getD (Int.toNat Ms) default).Name).toList == a1.toList)
 (an.lf out (0,(((a0.Site.Vars.getD (Int.toNat Ms) default).Type_),true,Ms)))
 (rec Ae Ah (F9 (Ms+1))))))
 (an.lf out (1,(Ae,Ah,Ms))))
def H5(L:Nat)(a1:ByteArray)(a0:Ai):Nat→Int→Bool→Int→Option (Nat×(Int×Bool×Int))
 |0,_,_,_=>none
 |n+1,Ae,Ah,Ms=>J6 (Bq _) L a1 a0 (H5 L a1 a0 n) some Ae Ah Ms
theorem Bfl(L:Nat)(a1:ByteArray)(a0:Ai)(g:Int→Bool→Int→Option (Nat×(Int×Bool×Int)))(Q:Nat×(Int×Bool×Int)→Prop)(Ae:Int)(Ah:Bool)(Ms:Int):J6 Bh L a1 a0 (fun Ae Ah Ms=>ob (g Ae Ah Ms) Q) Q Ae Ah Ms=ob (J6 (Bq _) L a1 a0 g some Ae Ah Ms) Q:=by
 unfold J6
 dsimp only [Bh,Bq]
 try simp only [y1,y2,y3,y4,y5 Q,y6,y7,y8 Q,y9,z1,z2,z3,z4]
theorem Bej(L:Nat)(a1:ByteArray)(a0:Ai)(n:Nat)(Ae:Int)(Ah:Bool)(Ms:Int)(K:Ex→St→Prop):Bl (EV (O14 L) L 9 c14.r.r.r.r.l.r.r.l.l) [0,1,2,4,5,6,7,11,23,24,25,39] [2] n (Am4 a1 a0 Ae Ah Ms) K=ob (H5 L a1 a0 n Ae Ah Ms) (fun o=>Aqz a1 a0 K o):=by
 induction n generalizing Ae Ah Ms with
 |zero=>rfl
 |succ n ih=>
  refine Eq.trans (b:=J6 Bh L a1 a0 (fun Ae Ah Ms=>Bl (EV (O14 L) L 9 c14.r.r.r.r.l.r.r.l.l) [0,1,2,4,5,6,7,11,23,24,25,39] [2] n (Am4 a1 a0 Ae Ah Ms) K) (Aqz a1 a0 K) Ae Ah Ms) (by kernel_rfl) ?_
  simp only [ih]
  exact Bfl L a1 a0 (H5 L a1 a0 n) (Aqz a1 a0 K) Ae Ah Ms
def Am5(a1:ByteArray)(a0:Ai)(C5:Int)(Tf:Bool)(Xe:Int):St:=({ fr:= [(0,.any),(1,S a1),(2,.any),(4,I C5),(5,B Tf),(6,.any),(7,.any),(9,.any),(25,.any),(37,.lst false (.t72 a0.Params)),(38,I (a0.Params.length:Int)),(39,I Xe)],ob:= [(2,(B8 a0))],base:=0 } :St)
def Aq0(a1:ByteArray)(a0:Ai)(K:Ex→St→Prop):Nat×(Int×Bool×Int)→Prop:=fun o=>Cr o.1 [K .ret (Am5 a1 a0 o.2.1 o.2.2.1 o.2.2.2),K (.exit 2) (Am5 a1 a0 o.2.1 o.2.2.1 o.2.2.2)]
def J7{A:Type}(an:An A)(L:Nat)(a1:ByteArray)(a0:Ai)(rec:Int→Bool→Int→A)(out:Nat×(Int×Bool×Int)→A)(C5:Int)(Tf:Bool)(Xe:Int):A:=
 (an.cn (decide (Xe < (a0.Params.length:Int)))
 (an.gd ((0:Int)≤Xe)
 (an.gd (Xe < ((a0.Params.length:Nat):Int))
 (an.cn (((a0.Params.getD (Int.toNat Xe) default).Name).toList == a1.toList)
 (an.lf out (0,(((a0.Params.getD (Int.toNat Xe) default).Type_),true,Xe)))
 (rec C5 Tf (F9 (Xe+1))))))
 (an.lf out (1,(C5,Tf,Xe))))
def H6(L:Nat)(a1:ByteArray)(a0:Ai):Nat→Int→Bool→Int→Option (Nat×(Int×Bool×Int))
 |0,_,_,_=>none
 |n+1,C5,Tf,Xe=>J7 (Bq _) L a1 a0 (H6 L a1 a0 n) some C5 Tf Xe
theorem Bfm(L:Nat)(a1:ByteArray)(a0:Ai)(g:Int→Bool→Int→Option (Nat×(Int×Bool×Int)))(Q:Nat×(Int×Bool×Int)→Prop)(C5:Int)(Tf:Bool)(Xe:Int):J7 Bh L a1 a0 (fun C5 Tf Xe=>ob (g C5 Tf Xe) Q) Q C5 Tf Xe=ob (J7 (Bq _) L a1 a0 g some C5 Tf Xe) Q:=by
 unfold J7
 dsimp only [Bh,Bq]
 try simp only [y1,y2,y3,y4,y5 Q,y6,y7,y8 Q,y9,z1,z2,z3,z4]
theorem Bek(L:Nat)(a1:ByteArray)(a0:Ai)(n:Nat)(C5:Int)(Tf:Bool)(Xe:Int)(K:Ex→St→Prop):Bl (EV (O14 L) L 9 c14.r.r.r.r.r.r.l.r.r.l.l) [0,1,2,4,5,6,7,9,25,37,38,39] [2] n (Am5 a1 a0 C5 Tf Xe) K=ob (H6 L a1 a0 n C5 Tf Xe) (fun o=>Aq0 a1 a0 K o):=by
 induction n generalizing C5 Tf Xe with
 |zero=>rfl
 |succ n ih=>
  refine Eq.trans (b:=J7 Bh L a1 a0 (fun C5 Tf Xe=>Bl (EV (O14 L) L 9 c14.r.r.r.r.r.r.l.r.r.l.l) [0,1,2,4,5,6,7,9,25,37,38,39] [2] n (Am5 a1 a0 C5 Tf Xe) K) (Aq0 a1 a0 K) C5 Tf Xe) (by kernel_rfl) ?_
  simp only [ih]
  exact Bfm L a1 a0 (H6 L a1 a0 n) (Aq0 a1 a0 K) C5 Tf Xe
def A4h(L:Nat)(kk:PV→Prop):Ex→St→Prop:=(Ca 0 (Dl (EV (O14 L) L 9 c14.r.r.r.r.r) (Dx Tryz.prog (RS Tryz.f14) kk)))
def A4i(L:Nat)(kk:PV→Prop):Ex→St→Prop:=(Ca 2 (Dl (EV (O14 L) L 9 c14.r.r.r.r.r.r.r) (Dx Tryz.prog (RS Tryz.f14) kk)))
theorem Bpm(L:Nat)(a1:ByteArray)(a0:Ai)(kk:PV→Prop)(o2:Nat×(Int×Bool×Int)):Aqz a1 a0 (A4h L kk) o2=
 (Cr o2.1 [(ob (some (o2.2.1,o2.2.2.1)) (fun(x:(Int×Bool))=>kk (.tup [I x.1,B x.2]))),
 (Bl (EV (O14 L) L 9 c14.r.r.r.r.r.r.l.r.r.l.l) [0,1,2,4,5,6,7,9,25,37,38,39] [2] L (Am5 a1 a0 o2.2.1 o2.2.2.1 0) (A4i L kk))]):=by kernel_rfl
theorem Bpn(L:Nat)(a1:ByteArray)(a0:Ai)(kk:PV→Prop)(o3:Nat×(Int×Bool×Int)):Aq0 a1 a0 (A4i L kk) o3=
 (Cr o3.1 [(ob (some (o3.2.1,o3.2.2.1)) (fun(x:(Int×Bool))=>kk (.tup [I x.1,B x.2]))),
 (ob (some (0,false)) (fun(x:(Int×Bool))=>kk (.tup [I x.1,B x.2])))]):=by kernel_rfl
def Tp{A:Type}(an:An A)(L:Nat)(a0:Ai)(a1:ByteArray)(out:(Int×Bool)→A):A:=
 (an.bd (Db L a0.Locals a1) fun r1=>
 (an.cn r1.2
 (an.lf out (r1.1,true))
 (an.bd (H5 L a1 a0 L 0 false 0) fun o2=>
 (an.sl o2.1 [(an.lf out (o2.2.1,o2.2.2.1)),
 (an.bd (H6 L a1 a0 L o2.2.1 o2.2.2.1 0) fun o3=>
 (an.sl o3.1 [(an.lf out (o3.2.1,o3.2.2.1)),
 (an.lf out (0,false))]))]))))
def Kp(L:Nat)(a0:Ai)(a1:ByteArray):Option (Int×Bool):=Tp (Bq _) L a0 a1 some
theorem e14(L:Nat)(a0:Ai)(a1:ByteArray)(kk:PV→Prop):EW (O14 L) L 9 (RS Tryz.f14) c14 [.agg (B8 a0),S a1] kk=ob (Kp L a0 a1) (fun(x:(Int×Bool))=>kk (.tup [I x.1,B x.2])):=by
 refine Eq.trans (b:=Tp Bh L a0 a1 (fun(x:(Int×Bool))=>kk (.tup [I x.1,B x.2]))) ?_ ?_
 ·refine Eq.trans (b:=(ob (Db L a0.Locals a1) fun r1=>
 (br r1.2
 (ob (some (r1.1,true)) (fun(x:(Int×Bool))=>kk (.tup [I x.1,B x.2])))
 (Bl (EV (O14 L) L 9 c14.r.r.r.r.l.r.r.l.l) [0,1,2,4,5,6,7,11,23,24,25,39] [2] L (Am4 a1 a0 0 false 0) (A4h L kk))))) (by kernel_rfl) ?_
  unfold Tp
  dsimp only [Bh]
  simp only [Bej,Bek,Bpm,Bpn]
 generalize (fun(x:(Int×Bool))=>kk (.tup [I x.1,B x.2]))=Q
 unfold Kp Tp
 dsimp only [Bh,Bq]
 try simp only [y1,y2,y3,y4,y5 Q,y6,y7,y8 Q,y9,z1,z2,z3,z4]
theorem h14(L:Nat)(a0:Ai)(a1:ByteArray)(r:(Int×Bool))(h:Kp L a0 a1=some r):Bc Tryz.prog 14 [.agg (B8 a0),S a1] (.tup [I r.1,B r.2]):=
 hE Cg (s14 L) mixed Tryz.func14 (by kernel_rfl:C4 Tryz.prog inl Tryz.f14=some c14) (er:=fun(x:(Int×Bool))=> .tup [I x.1,B x.2]) (by kernel_rfl) (e14 L a0 a1) h
noncomputable def A1q:EC:=(C4 Tryz.prog inl Tryz.f178).getD .stop
def A08(L:Nat):Bi:=Kg
theorem Bt4(L:Nat):Bs Tryz.prog (A08 L):=(Az Tryz.prog)
def Afs(a0:(List ByteArray))(a1:ByteArray)(Ah:Int)(Ba:Int):St:=({ fr:= [(0,.lst false (.t9 a0)),(1,S a1),(4,I Ah),(7,I (a0.length:Int)),(8,I Ba)],ob:= [],base:=0 } :St)
def Aj7(a0:(List ByteArray))(a1:ByteArray)(K:Ex→St→Prop):Nat×(Int×Int)→Prop:=fun o=>Cr o.1 [K .ret (Afs a0 a1 o.2.1 o.2.2),K (.exit 0) (Afs a0 a1 o.2.1 o.2.2)]
def Ea{A:Type}(an:An A)(L:Nat)(a0:(List ByteArray))(a1:ByteArray)(rec:Int→Int→A)(out:Nat×(Int×Int)→A)(Ah:Int)(Ba:Int):A:=
 (an.cn (decide (Ba < (a0.length:Int)))
 (an.gd ((0:Int)≤Ba)
 (an.gd (Ba < ((a0.length:Nat):Int))
 (an.cn (a1.toList == (a0.getD (Int.toNat Ba) default).toList)
 (an.lf out (0,(Ba,Ba)))
 (rec Ah (F9 (Ba+1))))))
 (an.lf out (1,(Ah,Ba))))
def Dm(L:Nat)(a0:(List ByteArray))(a1:ByteArray):Nat→Int→Int→Option (Nat×(Int×Int))
 |0,_,_=>none
 |n+1,Ah,Ba=>Ea (Bq _) L a0 a1 (Dm L a0 a1 n) some Ah Ba
theorem A9g(L:Nat)(a0:(List ByteArray))(a1:ByteArray)(g:Int→Int→Option (Nat×(Int×Int)))(Q:Nat×(Int×Int)→Prop)(Ah:Int)(Ba:Int):Ea Bh L a0 a1 (fun Ah Ba=>ob (g Ah Ba) Q) Q Ah Ba=ob (Ea (Bq _) L a0 a1 g some Ah Ba) Q:=by
 unfold Ea
 dsimp only [Bh,Bq]
 try simp only [y1,y2,y3,y4,y5 Q,y6,y7,y8 Q,y9,z1,z2,z3,z4]
theorem A8x(L:Nat)(a0:(List ByteArray))(a1:ByteArray)(n:Nat)(Ah:Int)(Ba:Int)(K:Ex→St→Prop):Bl (EV (A08 L) L 9 A1q.r.r.l.r.r.l.l) [0,1,4,7,8] [] n (Afs a0 a1 Ah Ba) K=ob (Dm L a0 a1 n Ah Ba) (fun o=>Aj7 a0 a1 K o):=by
 induction n generalizing Ah Ba with
 |zero=>rfl
 |succ n ih=>
  refine Eq.trans (b:=Ea Bh L a0 a1 (fun Ah Ba=>Bl (EV (A08 L) L 9 A1q.r.r.l.r.r.l.l) [0,1,4,7,8] [] n (Afs a0 a1 Ah Ba) K) (Aj7 a0 a1 K) Ah Ba) (by kernel_rfl) ?_
  simp only [ih]
  exact A9g L a0 a1 (Dm L a0 a1 n) (Aj7 a0 a1 K) Ah Ba
def A0a(L:Nat)(kk:PV→Prop):Ex→St→Prop:=(Ca 0 (Dl (EV (A08 L) L 9 A1q.r.r.r) (Dx Tryz.prog (RS Tryz.f178) kk)))
theorem Bg2(L:Nat)(a0:(List ByteArray))(a1:ByteArray)(kk:PV→Prop)(o1:Nat×(Int×Int)):Aj7 a0 a1 (A0a L kk) o1=
 (Cr o1.1 [(ob (some o1.2.1) (fun(x:Int)=>kk (I x))),
 (ob (some (-1)) (fun(x:Int)=>kk (I x)))]):=by kernel_rfl
def Jw{A:Type}(an:An A)(L:Nat)(a0:(List ByteArray))(a1:ByteArray)(out:Int→A):A:=
 (an.bd (Dm L a0 a1 L 0 0) fun o1=>
 (an.sl o1.1 [(an.lf out o1.2.1),
 (an.lf out (-1))]))
def Cc(L:Nat)(a0:(List ByteArray))(a1:ByteArray):Option Int:=Jw (Bq _) L a0 a1 some
theorem Br4(L:Nat)(a0:(List ByteArray))(a1:ByteArray)(kk:PV→Prop):EW (A08 L) L 9 (RS Tryz.f178) A1q [.lst false (.t9 a0),S a1] kk=ob (Cc L a0 a1) (fun(x:Int)=>kk (I x)):=by
 refine Eq.trans (b:=Jw Bh L a0 a1 (fun(x:Int)=>kk (I x))) ?_ ?_
 ·refine Eq.trans (b:=(Bl (EV (A08 L) L 9 A1q.r.r.l.r.r.l.l) [0,1,4,7,8] [] L (Afs a0 a1 0 0) (A0a L kk))) (by kernel_rfl) ?_
  unfold Jw
  dsimp only [Bh]
  simp only [A8x,Bg2]
 generalize (fun(x:Int)=>kk (I x))=Q
 unfold Cc Jw
 dsimp only [Bh,Bq]
 try simp only [y1,y2,y3,y4,y5 Q,y6,y7,y8 Q,y9,z1,z2,z3,z4]
theorem Bnb(L:Nat)(a0:(List ByteArray))(a1:ByteArray)(r:Int)(h:Cc L a0 a1=some r):Bc Tryz.prog 178 [.lst false (.t9 a0),S a1] (I r):=
 hE Cg (Bt4 L) mixed Tryz.func178 (by kernel_rfl:C4 Tryz.prog inl Tryz.f178=some A1q) (er:=fun(x:Int)=>I x) (by kernel_rfl) (Br4 L a0 a1) h
noncomputable def A7k:EC:=(C4 Tryz.prog inl Tryz.f181).getD .stop
noncomputable def c94:EC:=(C4 Tryz.prog inl Tryz.f94).getD .stop
def O94(L:Nat):Bi:=Kg
theorem s94(L:Nat):Bs Tryz.prog (O94 L):=(Az Tryz.prog)
def Anv(p1_0:List Bg)(p1_1:Ac)(p1_2:ByteArray)(Ae:Int)(Aj:Int):St:=({ fr:= [(0,.lst false (.t74 p1_0)),(1,.clo 182 0 [.loc 3 0]),(4,I Ae),(7,I (p1_0.length:Int)),(8,I Aj)],ob:= [(2,(Bk p1_1)),(3,[S p1_2])],base:=4 } :St)
def Ary(p1_0:List Bg)(p1_1:Ac)(p1_2:ByteArray)(K:Ex→St→Prop):Nat×(Int×Int)→Prop:=fun o=>Cr o.1 [K .ret (Anv p1_0 p1_1 p1_2 o.2.1 o.2.2),K (.exit 0) (Anv p1_0 p1_1 p1_2 o.2.1 o.2.2)]
def Hs{A:Type}(an:An A)(L:Nat)(p1_0:List Bg)(p1_1:Ac)(p1_2:ByteArray)(rec:Int→Int→A)(out:Nat×(Int×Int)→A)(Ae:Int)(Aj:Int):A:=
 (an.cn (decide (Aj < (p1_0.length:Int)))
 (an.gd ((0:Int)≤Aj)
 (an.gd (Aj < ((p1_0.length:Nat):Int))
 (an.cn (((p1_0.getD (Int.toNat Aj) default).Name).toList == p1_2.toList)
 (an.lf out (0,(Aj,Aj)))
 (rec Ae (F9 (Aj+1))))))
 (an.lf out (1,(Ae,Aj))))
def Gq(L:Nat)(p1_0:List Bg)(p1_1:Ac)(p1_2:ByteArray):Nat→Int→Int→Option (Nat×(Int×Int))
 |0,_,_=>none
 |n+1,Ae,Aj=>Hs (Bq _) L p1_0 p1_1 p1_2 (Gq L p1_0 p1_1 p1_2 n) some Ae Aj
theorem Bgl(L:Nat)(p1_0:List Bg)(p1_1:Ac)(p1_2:ByteArray)(g:Int→Int→Option (Nat×(Int×Int)))(Q:Nat×(Int×Int)→Prop)(Ae:Int)(Aj:Int):Hs Bh L p1_0 p1_1 p1_2 (fun Ae Aj=>ob (g Ae Aj) Q) Q Ae Aj=ob (Hs (Bq _) L p1_0 p1_1 p1_2 g some Ae Aj) Q:=by
 unfold Hs
 dsimp only [Bh,Bq]
 try simp only [y1,y2,y3,y4,y5 Q,y6,y7,y8 Q,y9,z1,z2,z3,z4]
theorem Bfj(L:Nat)(p1_0:List Bg)(p1_1:Ac)(p1_2:ByteArray)(n:Nat)(Ae:Int)(Aj:Int)(K:Ex→St→Prop):Bl (EV (O94 L) L 8 A7k.r.r.l.r.r.l.l) [0,1,4,7,8] [2,3] n (Anv p1_0 p1_1 p1_2 Ae Aj) K=ob (Gq L p1_0 p1_1 p1_2 n Ae Aj) (fun o=>Ary p1_0 p1_1 p1_2 K o):=by
 induction n generalizing Ae Aj with
 |zero=>rfl
 |succ n ih=>
  refine Eq.trans (b:=Hs Bh L p1_0 p1_1 p1_2 (fun Ae Aj=>Bl (EV (O94 L) L 8 A7k.r.r.l.r.r.l.l) [0,1,4,7,8] [2,3] n (Anv p1_0 p1_1 p1_2 Ae Aj) K) (Ary p1_0 p1_1 p1_2 K) Ae Aj) (by kernel_rfl) ?_
  simp only [ih]
  exact Bgl L p1_0 p1_1 p1_2 (Gq L p1_0 p1_1 p1_2 n) (Ary p1_0 p1_1 p1_2 K) Ae Aj
def A3x(p1_0:List Bg)(p1_1:Ac)(p1_2:ByteArray):List PV:= [.lst false (.t74 p1_0),.clo 182 0 [.loc 3 0]]
def A33(p1_0:List Bg)(p1_1:Ac)(p1_2:ByteArray):List (Nat×List PV):= [(2,(Bk p1_1)),(3,[S p1_2])]
def Agf(p1_0:List Bg)(p1_1:Ac)(p1_2:ByteArray)(k:PV→List (Nat×List PV)→Prop):Int→Prop:=fun o=>k (I o) [(2,(Bk p1_1)),(3,[S p1_2])]
def Nt{A:Type}(an:An A)(L:Nat)(p1_0:List Bg)(p1_1:Ac)(p1_2:ByteArray)(out:Int→A):A:=
 (an.bd (Gq L p1_0 p1_1 p1_2 L 0 0) fun o1=>
 (an.sl o1.1 [(an.lf out o1.2.1),
 (an.lf out (-1))]))
def Nu(L:Nat)(p1_0:List Bg)(p1_1:Ac)(p1_2:ByteArray):Option Int:=Nt (Bq _) L p1_0 p1_1 p1_2 some
def A5l(L:Nat)(p1_0:List Bg)(p1_1:Ac)(p1_2:ByteArray)(k:PV→List (Nat×List PV)→Prop):Ex→St→Prop:=(Ca 0 (Dl (EV (O94 L) L 8 A7k.r.r.r) (Acy Tryz.prog (RS Tryz.f181) k)))
theorem Bqq(L:Nat)(p1_0:List Bg)(p1_1:Ac)(p1_2:ByteArray)(k:PV→List (Nat×List PV)→Prop)(o1:Nat×(Int×Int)):Ary p1_0 p1_1 p1_2 (A5l L p1_0 p1_1 p1_2 k) o1=
 (Cr o1.1 [(ob (some o1.2.1) (Agf p1_0 p1_1 p1_2 k)),
 (ob (some (-1)) (Agf p1_0 p1_1 p1_2 k))]):=by kernel_rfl
theorem Bd7(L:Nat)(p1_0:List Bg)(p1_1:Ac)(p1_2:ByteArray)(k:PV→List (Nat×List PV)→Prop):YO (O94 L) L 9 181 (A3x p1_0 p1_1 p1_2) (A33 p1_0 p1_1 p1_2) k=ob (Nu L p1_0 p1_1 p1_2) (fun o=>Agf p1_0 p1_1 p1_2 k o):=by
 refine (Zn _ _ _ jn4 _ _ _ _ _ _ _).trans ?_
 refine Eq.trans (b:=Nt Bh L p1_0 p1_1 p1_2 (Agf p1_0 p1_1 p1_2 k)) ?_ ?_
 ·refine Eq.trans (b:=(Bl (EV (O94 L) L 8 A7k.r.r.l.r.r.l.l) [0,1,4,7,8] [2,3] L (Anv p1_0 p1_1 p1_2 0 0) (A5l L p1_0 p1_1 p1_2 k))) (by kernel_rfl) ?_
  unfold Nt
  dsimp only [Bh]
  simp only [Bfj,Bqq]
 generalize Agf p1_0 p1_1 p1_2 k=Q
 unfold Nu Nt
 dsimp only [Bh,Bq]
 try simp only [y1,y2,y3,y4,y5 Q,y6,y7,y8 Q,y9,z1,z2,z3,z4]
def A5m(L:Nat)(a0:Ac)(a1:ByteArray)(kk:PV→Prop):PV→List (Nat×List PV)→Prop:=(u4 Tryz.prog (O94 L) (EI (O94 L) L 9) 1 (List.drop 4 c94.r.r.l.ops) ({ fr:= [(7,.clo 182 0 [.loc 3 0]),(6,.lst false (.t74 a0.Routines)),(5,.loc 2 10),(2,.loc 2 0),(3,.loc 3 0),(4,I 0)],ob:= [(2,(Bk a0)),(3,[S a1])],base:=0 } :St) (some 8) (fun st9=>(Dl (EV (O94 L) L 9 c94.r.r.r) (Dx Tryz.prog (RS Tryz.f94) kk)) .normal st9))
theorem Bqr(L:Nat)(a0:Ac)(a1:ByteArray)(kk:PV→Prop)(o1:Int):Agf a0.Routines a0 a1 (A5m L a0 a1 kk) o1=
 (ob (some o1) (fun(x:Int)=>kk (I x))):=by kernel_rfl
def Ru{A:Type}(an:An A)(L:Nat)(a0:Ac)(a1:ByteArray)(out:Int→A):A:=
 (an.bd (Nu L a0.Routines a0 a1) fun o1=>
 (an.lf out o1))
def Dr(L:Nat)(a0:Ac)(a1:ByteArray):Option Int:=Ru (Bq _) L a0 a1 some
theorem e94(L:Nat)(a0:Ac)(a1:ByteArray)(kk:PV→Prop):EW (O94 L) L 9 (RS Tryz.f94) c94 [.agg (Bk a0),S a1] kk=ob (Dr L a0 a1) (fun(x:Int)=>kk (I x)):=by
 refine Eq.trans (b:=Ru Bh L a0 a1 (fun(x:Int)=>kk (I x))) ?_ ?_
 ·refine Eq.trans (b:=(YO (O94 L) L 9 181 (A3x a0.Routines a0 a1) (A33 a0.Routines a0 a1) (A5m L a0 a1 kk))) (by kernel_rfl) ?_
  unfold Ru
  dsimp only [Bh]
  simp only [Bd7,Bqr]
 generalize (fun(x:Int)=>kk (I x))=Q
 unfold Dr Ru
 dsimp only [Bh,Bq]
 try simp only [y1,y2,y3,y4,y5 Q,y6,y7,y8 Q,y9,z1,z2,z3,z4]
theorem h94(L:Nat)(a0:Ac)(a1:ByteArray)(r:Int)(h:Dr L a0 a1=some r):Bc Tryz.prog 94 [.agg (Bk a0),S a1] (I r):=
 hE Cg (s94 L) mixed Tryz.func94 (by kernel_rfl:C4 Tryz.prog inl Tryz.f94=some c94) (er:=fun(x:Int)=>I x) (by kernel_rfl) (e94 L a0 a1) h
noncomputable def A7f:EC:=(C4 Tryz.prog inl Tryz.f170).getD .stop
noncomputable def A7g:EC:=(C4 Tryz.prog inl Tryz.f172).getD .stop
noncomputable def A7h:EC:=(C4 Tryz.prog inl Tryz.f174).getD .stop
noncomputable def A7i:EC:=(C4 Tryz.prog inl Tryz.f176).getD .stop
noncomputable def c84:EC:=(C4 Tryz.prog inl Tryz.f84).getD .stop
def f9(L:Nat):Bi:=(Cp 94 (A2 (fun(x:Int)=>I x) Cw cS (Dr L)) (Cp 178 (A2 (fun(x:Int)=>I x) cl9 cS (Cc L)) Kg))
theorem s84(L:Nat):Bs Tryz.prog (f9 L):=(Ad (a2 _ (h94 L)) (Ad (a2 _ (Bnb L)) (Az Tryz.prog)))
def Ann(p1_0:List Bp)(p1_1:Ac)(p1_2:ByteArray)(Ae:Int)(Aj:Int):St:=({ fr:= [(0,.lst false (.t72 p1_0)),(1,.clo 171 0 [.loc 3 0]),(4,I Ae),(7,I (p1_0.length:Int)),(8,I Aj)],ob:= [(2,(Bk p1_1)),(3,[S p1_2])],base:=4 } :St)
def Arq(p1_0:List Bp)(p1_1:Ac)(p1_2:ByteArray)(K:Ex→St→Prop):Nat×(Int×Int)→Prop:=fun o=>Cr o.1 [K .ret (Ann p1_0 p1_1 p1_2 o.2.1 o.2.2),K (.exit 0) (Ann p1_0 p1_1 p1_2 o.2.1 o.2.2)]
def J2{A:Type}(an:An A)(L:Nat)(p1_0:List Bp)(p1_1:Ac)(p1_2:ByteArray)(rec:Int→Int→A)(out:Nat×(Int×Int)→A)(Ae:Int)(Aj:Int):A:=
 (an.cn (decide (Aj < (p1_0.length:Int)))
 (an.gd ((0:Int)≤Aj)
 (an.gd (Aj < ((p1_0.length:Nat):Int))
 (an.cn (((p1_0.getD (Int.toNat Aj) default).Name).toList == p1_2.toList)
 (an.lf out (0,(Aj,Aj)))
 (rec Ae (F9 (Aj+1))))))
 (an.lf out (1,(Ae,Aj))))
def H0(L:Nat)(p1_0:List Bp)(p1_1:Ac)(p1_2:ByteArray):Nat→Int→Int→Option (Nat×(Int×Int))
 |0,_,_=>none
 |n+1,Ae,Aj=>J2 (Bq _) L p1_0 p1_1 p1_2 (H0 L p1_0 p1_1 p1_2 n) some Ae Aj
theorem Bgd(L:Nat)(p1_0:List Bp)(p1_1:Ac)(p1_2:ByteArray)(g:Int→Int→Option (Nat×(Int×Int)))(Q:Nat×(Int×Int)→Prop)(Ae:Int)(Aj:Int):J2 Bh L p1_0 p1_1 p1_2 (fun Ae Aj=>ob (g Ae Aj) Q) Q Ae Aj=ob (J2 (Bq _) L p1_0 p1_1 p1_2 g some Ae Aj) Q:=by
 unfold J2
 dsimp only [Bh,Bq]
 try simp only [y1,y2,y3,y4,y5 Q,y6,y7,y8 Q,y9,z1,z2,z3,z4]
theorem Bfb(L:Nat)(p1_0:List Bp)(p1_1:Ac)(p1_2:ByteArray)(n:Nat)(Ae:Int)(Aj:Int)(K:Ex→St→Prop):Bl (EV (f9 L) L 8 A7f.r.r.l.r.r.l.l) [0,1,4,7,8] [2,3] n (Ann p1_0 p1_1 p1_2 Ae Aj) K=ob (H0 L p1_0 p1_1 p1_2 n Ae Aj) (fun o=>Arq p1_0 p1_1 p1_2 K o):=by
 induction n generalizing Ae Aj with
 |zero=>rfl
 |succ n ih=>
  refine Eq.trans (b:=J2 Bh L p1_0 p1_1 p1_2 (fun Ae Aj=>Bl (EV (f9 L) L 8 A7f.r.r.l.r.r.l.l) [0,1,4,7,8] [2,3] n (Ann p1_0 p1_1 p1_2 Ae Aj) K) (Arq p1_0 p1_1 p1_2 K) Ae Aj) (by kernel_rfl) ?_
  simp only [ih]
  exact Bgd L p1_0 p1_1 p1_2 (H0 L p1_0 p1_1 p1_2 n) (Arq p1_0 p1_1 p1_2 K) Ae Aj
def A3t(p1_0:List Bp)(p1_1:Ac)(p1_2:ByteArray):List PV:= [.lst false (.t72 p1_0),.clo 171 0 [.loc 3 0]]
def A3z(p1_0:List Bp)(p1_1:Ac)(p1_2:ByteArray):List (Nat×List PV):= [(2,(Bk p1_1)),(3,[S p1_2])]
def Agb(p1_0:List Bp)(p1_1:Ac)(p1_2:ByteArray)(k:PV→List (Nat×List PV)→Prop):Int→Prop:=fun o=>k (I o) [(2,(Bk p1_1)),(3,[S p1_2])]
def Qg{A:Type}(an:An A)(L:Nat)(p1_0:List Bp)(p1_1:Ac)(p1_2:ByteArray)(out:Int→A):A:=
 (an.bd (H0 L p1_0 p1_1 p1_2 L 0 0) fun o1=>
 (an.sl o1.1 [(an.lf out o1.2.1),
 (an.lf out (-1))]))
def Qk(L:Nat)(p1_0:List Bp)(p1_1:Ac)(p1_2:ByteArray):Option Int:=Qg (Bq _) L p1_0 p1_1 p1_2 some
def A49(L:Nat)(p1_0:List Bp)(p1_1:Ac)(p1_2:ByteArray)(k:PV→List (Nat×List PV)→Prop):Ex→St→Prop:=(Ca 0 (Dl (EV (f9 L) L 8 A7f.r.r.r) (Acy Tryz.prog (RS Tryz.f170) k)))
theorem Bqe(L:Nat)(p1_0:List Bp)(p1_1:Ac)(p1_2:ByteArray)(k:PV→List (Nat×List PV)→Prop)(o1:Nat×(Int×Int)):Arq p1_0 p1_1 p1_2 (A49 L p1_0 p1_1 p1_2 k) o1=
 (Cr o1.1 [(ob (some o1.2.1) (Agb p1_0 p1_1 p1_2 k)),
 (ob (some (-1)) (Agb p1_0 p1_1 p1_2 k))]):=by kernel_rfl
theorem Bd3(L:Nat)(p1_0:List Bp)(p1_1:Ac)(p1_2:ByteArray)(k:PV→List (Nat×List PV)→Prop):YO (f9 L) L 9 170 (A3t p1_0 p1_1 p1_2) (A3z p1_0 p1_1 p1_2) k=ob (Qk L p1_0 p1_1 p1_2) (fun o=>Agb p1_0 p1_1 p1_2 k o):=by
 refine (Zn _ _ _ jn4 _ _ _ _ _ _ _).trans ?_
 refine Eq.trans (b:=Qg Bh L p1_0 p1_1 p1_2 (Agb p1_0 p1_1 p1_2 k)) ?_ ?_
 ·refine Eq.trans (b:=(Bl (EV (f9 L) L 8 A7f.r.r.l.r.r.l.l) [0,1,4,7,8] [2,3] L (Ann p1_0 p1_1 p1_2 0 0) (A49 L p1_0 p1_1 p1_2 k))) (by kernel_rfl) ?_
  unfold Qg
  dsimp only [Bh]
  simp only [Bfb,Bqe]
 generalize Agb p1_0 p1_1 p1_2 k=Q
 unfold Qk Qg
 dsimp only [Bh,Bq]
 try simp only [y1,y2,y3,y4,y5 Q,y6,y7,y8 Q,y9,z1,z2,z3,z4]
def Ano(p2_0:List Bf)(p2_1:Ac)(p2_2:ByteArray)(C5:Int)(E9:Int):St:=({ fr:= [(0,.lst false (.t149 p2_0)),(1,.clo 173 0 [.loc 3 0]),(4,I C5),(7,I (p2_0.length:Int)),(8,I E9)],ob:= [(2,(Bk p2_1)),(3,[S p2_2])],base:=4 } :St)
def Arr(p2_0:List Bf)(p2_1:Ac)(p2_2:ByteArray)(K:Ex→St→Prop):Nat×(Int×Int)→Prop:=fun o=>Cr o.1 [K .ret (Ano p2_0 p2_1 p2_2 o.2.1 o.2.2),K (.exit 0) (Ano p2_0 p2_1 p2_2 o.2.1 o.2.2)]
def J3{A:Type}(an:An A)(L:Nat)(p2_0:List Bf)(p2_1:Ac)(p2_2:ByteArray)(rec:Int→Int→A)(out:Nat×(Int×Int)→A)(C5:Int)(E9:Int):A:=
 (an.cn (decide (E9 < (p2_0.length:Int)))
 (an.gd ((0:Int)≤E9)
 (an.gd (E9 < ((p2_0.length:Nat):Int))
 (an.cn (((p2_0.getD (Int.toNat E9) default).Name).toList == p2_2.toList)
 (an.lf out (0,(E9,E9)))
 (rec C5 (F9 (E9+1))))))
 (an.lf out (1,(C5,E9))))
def H1(L:Nat)(p2_0:List Bf)(p2_1:Ac)(p2_2:ByteArray):Nat→Int→Int→Option (Nat×(Int×Int))
 |0,_,_=>none
 |n+1,C5,E9=>J3 (Bq _) L p2_0 p2_1 p2_2 (H1 L p2_0 p2_1 p2_2 n) some C5 E9
theorem Bge(L:Nat)(p2_0:List Bf)(p2_1:Ac)(p2_2:ByteArray)(g:Int→Int→Option (Nat×(Int×Int)))(Q:Nat×(Int×Int)→Prop)(C5:Int)(E9:Int):J3 Bh L p2_0 p2_1 p2_2 (fun C5 E9=>ob (g C5 E9) Q) Q C5 E9=ob (J3 (Bq _) L p2_0 p2_1 p2_2 g some C5 E9) Q:=by
 unfold J3
 dsimp only [Bh,Bq]
 try simp only [y1,y2,y3,y4,y5 Q,y6,y7,y8 Q,y9,z1,z2,z3,z4]
theorem Bfc(L:Nat)(p2_0:List Bf)(p2_1:Ac)(p2_2:ByteArray)(n:Nat)(C5:Int)(E9:Int)(K:Ex→St→Prop):Bl (EV (f9 L) L 8 A7g.r.r.l.r.r.l.l) [0,1,4,7,8] [2,3] n (Ano p2_0 p2_1 p2_2 C5 E9) K=ob (H1 L p2_0 p2_1 p2_2 n C5 E9) (fun o=>Arr p2_0 p2_1 p2_2 K o):=by
 induction n generalizing C5 E9 with
 |zero=>rfl
 |succ n ih=>
  refine Eq.trans (b:=J3 Bh L p2_0 p2_1 p2_2 (fun C5 E9=>Bl (EV (f9 L) L 8 A7g.r.r.l.r.r.l.l) [0,1,4,7,8] [2,3] n (Ano p2_0 p2_1 p2_2 C5 E9) K) (Arr p2_0 p2_1 p2_2 K) C5 E9) (by kernel_rfl) ?_
  simp only [ih]
  exact Bge L p2_0 p2_1 p2_2 (H1 L p2_0 p2_1 p2_2 n) (Arr p2_0 p2_1 p2_2 K) C5 E9
def A3u(p2_0:List Bf)(p2_1:Ac)(p2_2:ByteArray):List PV:= [.lst false (.t149 p2_0),.clo 173 0 [.loc 3 0]]
def A30(p2_0:List Bf)(p2_1:Ac)(p2_2:ByteArray):List (Nat×List PV):= [(2,(Bk p2_1)),(3,[S p2_2])]
def Agc(p2_0:List Bf)(p2_1:Ac)(p2_2:ByteArray)(k:PV→List (Nat×List PV)→Prop):Int→Prop:=fun o=>k (I o) [(2,(Bk p2_1)),(3,[S p2_2])]
def Qh{A:Type}(an:An A)(L:Nat)(p2_0:List Bf)(p2_1:Ac)(p2_2:ByteArray)(out:Int→A):A:=
 (an.bd (H1 L p2_0 p2_1 p2_2 L 0 0) fun o2=>
 (an.sl o2.1 [(an.lf out o2.2.1),
 (an.lf out (-1))]))
def Ql(L:Nat)(p2_0:List Bf)(p2_1:Ac)(p2_2:ByteArray):Option Int:=Qh (Bq _) L p2_0 p2_1 p2_2 some
def A5a(L:Nat)(p2_0:List Bf)(p2_1:Ac)(p2_2:ByteArray)(k:PV→List (Nat×List PV)→Prop):Ex→St→Prop:=(Ca 0 (Dl (EV (f9 L) L 8 A7g.r.r.r) (Acy Tryz.prog (RS Tryz.f172) k)))
theorem Bqf(L:Nat)(p2_0:List Bf)(p2_1:Ac)(p2_2:ByteArray)(k:PV→List (Nat×List PV)→Prop)(o2:Nat×(Int×Int)):Arr p2_0 p2_1 p2_2 (A5a L p2_0 p2_1 p2_2 k) o2=
 (Cr o2.1 [(ob (some o2.2.1) (Agc p2_0 p2_1 p2_2 k)),
 (ob (some (-1)) (Agc p2_0 p2_1 p2_2 k))]):=by kernel_rfl
theorem Bd4(L:Nat)(p2_0:List Bf)(p2_1:Ac)(p2_2:ByteArray)(k:PV→List (Nat×List PV)→Prop):YO (f9 L) L 9 172 (A3u p2_0 p2_1 p2_2) (A30 p2_0 p2_1 p2_2) k=ob (Ql L p2_0 p2_1 p2_2) (fun o=>Agc p2_0 p2_1 p2_2 k o):=by
 refine (Zn _ _ _ jn4 _ _ _ _ _ _ _).trans ?_
 refine Eq.trans (b:=Qh Bh L p2_0 p2_1 p2_2 (Agc p2_0 p2_1 p2_2 k)) ?_ ?_
 ·refine Eq.trans (b:=(Bl (EV (f9 L) L 8 A7g.r.r.l.r.r.l.l) [0,1,4,7,8] [2,3] L (Ano p2_0 p2_1 p2_2 0 0) (A5a L p2_0 p2_1 p2_2 k))) (by kernel_rfl) ?_
  unfold Qh
  dsimp only [Bh]
  simp only [Bfc,Bqf]
 generalize Agc p2_0 p2_1 p2_2 k=Q
 unfold Ql Qh
 dsimp only [Bh,Bq]
 try simp only [y1,y2,y3,y4,y5 Q,y6,y7,y8 Q,y9,z1,z2,z3,z4]
def Anp(p3_0:List Bx)(p3_1:Ac)(p3_2:ByteArray)(H9:Int)(Mt:Int):St:=({ fr:= [(0,.lst false (.t156 p3_0)),(1,.clo 175 0 [.loc 3 0]),(4,I H9),(7,I (p3_0.length:Int)),(8,I Mt)],ob:= [(2,(Bk p3_1)),(3,[S p3_2])],base:=4 } :St)
def Ars(p3_0:List Bx)(p3_1:Ac)(p3_2:ByteArray)(K:Ex→St→Prop):Nat×(Int×Int)→Prop:=fun o=>Cr o.1 [K .ret (Anp p3_0 p3_1 p3_2 o.2.1 o.2.2),K (.exit 0) (Anp p3_0 p3_1 p3_2 o.2.1 o.2.2)]
def J4{A:Type}(an:An A)(L:Nat)(p3_0:List Bx)(p3_1:Ac)(p3_2:ByteArray)(rec:Int→Int→A)(out:Nat×(Int×Int)→A)(H9:Int)(Mt:Int):A:=
 (an.cn (decide (Mt < (p3_0.length:Int)))
 (an.gd ((0:Int)≤Mt)
 (an.gd (Mt < ((p3_0.length:Nat):Int))
 (an.cn (((p3_0.getD (Int.toNat Mt) default).Name).toList == p3_2.toList)
 (an.lf out (0,(Mt,Mt)))
 (rec H9 (F9 (Mt+1))))))
 (an.lf out (1,(H9,Mt))))
def H2(L:Nat)(p3_0:List Bx)(p3_1:Ac)(p3_2:ByteArray):Nat→Int→Int→Option (Nat×(Int×Int))
 |0,_,_=>none
 |n+1,H9,Mt=>J4 (Bq _) L p3_0 p3_1 p3_2 (H2 L p3_0 p3_1 p3_2 n) some H9 Mt
theorem Bgf(L:Nat)(p3_0:List Bx)(p3_1:Ac)(p3_2:ByteArray)(g:Int→Int→Option (Nat×(Int×Int)))(Q:Nat×(Int×Int)→Prop)(H9:Int)(Mt:Int):J4 Bh L p3_0 p3_1 p3_2 (fun H9 Mt=>ob (g H9 Mt) Q) Q H9 Mt=ob (J4 (Bq _) L p3_0 p3_1 p3_2 g some H9 Mt) Q:=by
 unfold J4
 dsimp only [Bh,Bq]
 try simp only [y1,y2,y3,y4,y5 Q,y6,y7,y8 Q,y9,z1,z2,z3,z4]
theorem Bfd(L:Nat)(p3_0:List Bx)(p3_1:Ac)(p3_2:ByteArray)(n:Nat)(H9:Int)(Mt:Int)(K:Ex→St→Prop):Bl (EV (f9 L) L 8 A7h.r.r.l.r.r.l.l) [0,1,4,7,8] [2,3] n (Anp p3_0 p3_1 p3_2 H9 Mt) K=ob (H2 L p3_0 p3_1 p3_2 n H9 Mt) (fun o=>Ars p3_0 p3_1 p3_2 K o):=by
 induction n generalizing H9 Mt with
 |zero=>rfl
 |succ n ih=>
  refine Eq.trans (b:=J4 Bh L p3_0 p3_1 p3_2 (fun H9 Mt=>Bl (EV (f9 L) L 8 A7h.r.r.l.r.r.l.l) [0,1,4,7,8] [2,3] n (Anp p3_0 p3_1 p3_2 H9 Mt) K) (Ars p3_0 p3_1 p3_2 K) H9 Mt) (by kernel_rfl) ?_
  simp only [ih]
  exact Bgf L p3_0 p3_1 p3_2 (H2 L p3_0 p3_1 p3_2 n) (Ars p3_0 p3_1 p3_2 K) H9 Mt
def A3v(p3_0:List Bx)(p3_1:Ac)(p3_2:ByteArray):List PV:= [.lst false (.t156 p3_0),.clo 175 0 [.loc 3 0]]
def A31(p3_0:List Bx)(p3_1:Ac)(p3_2:ByteArray):List (Nat×List PV):= [(2,(Bk p3_1)),(3,[S p3_2])]
def Agd(p3_0:List Bx)(p3_1:Ac)(p3_2:ByteArray)(k:PV→List (Nat×List PV)→Prop):Int→Prop:=fun o=>k (I o) [(2,(Bk p3_1)),(3,[S p3_2])]
def Qi{A:Type}(an:An A)(L:Nat)(p3_0:List Bx)(p3_1:Ac)(p3_2:ByteArray)(out:Int→A):A:=
 (an.bd (H2 L p3_0 p3_1 p3_2 L 0 0) fun o3=>
 (an.sl o3.1 [(an.lf out o3.2.1),
 (an.lf out (-1))]))
def Qm(L:Nat)(p3_0:List Bx)(p3_1:Ac)(p3_2:ByteArray):Option Int:=Qi (Bq _) L p3_0 p3_1 p3_2 some
def A5b(L:Nat)(p3_0:List Bx)(p3_1:Ac)(p3_2:ByteArray)(k:PV→List (Nat×List PV)→Prop):Ex→St→Prop:=(Ca 0 (Dl (EV (f9 L) L 8 A7h.r.r.r) (Acy Tryz.prog (RS Tryz.f174) k)))
theorem Bqg(L:Nat)(p3_0:List Bx)(p3_1:Ac)(p3_2:ByteArray)(k:PV→List (Nat×List PV)→Prop)(o3:Nat×(Int×Int)):Ars p3_0 p3_1 p3_2 (A5b L p3_0 p3_1 p3_2 k) o3=
 (Cr o3.1 [(ob (some o3.2.1) (Agd p3_0 p3_1 p3_2 k)),
 (ob (some (-1)) (Agd p3_0 p3_1 p3_2 k))]):=by kernel_rfl
theorem Bd5(L:Nat)(p3_0:List Bx)(p3_1:Ac)(p3_2:ByteArray)(k:PV→List (Nat×List PV)→Prop):YO (f9 L) L 9 174 (A3v p3_0 p3_1 p3_2) (A31 p3_0 p3_1 p3_2) k=ob (Qm L p3_0 p3_1 p3_2) (fun o=>Agd p3_0 p3_1 p3_2 k o):=by
 refine (Zn _ _ _ jn4 _ _ _ _ _ _ _).trans ?_
 refine Eq.trans (b:=Qi Bh L p3_0 p3_1 p3_2 (Agd p3_0 p3_1 p3_2 k)) ?_ ?_
 ·refine Eq.trans (b:=(Bl (EV (f9 L) L 8 A7h.r.r.l.r.r.l.l) [0,1,4,7,8] [2,3] L (Anp p3_0 p3_1 p3_2 0 0) (A5b L p3_0 p3_1 p3_2 k))) (by kernel_rfl) ?_
  unfold Qi
  dsimp only [Bh]
  simp only [Bfd,Bqg]
 generalize Agd p3_0 p3_1 p3_2 k=Q
 unfold Qm Qi
 dsimp only [Bh,Bq]
 try simp only [y1,y2,y3,y4,y5 Q,y6,y7,y8 Q,y9,z1,z2,z3,z4]
def Anq(p4_0:List B3)(p4_1:Ac)(p4_2:ByteArray)(Ia:Int)(Xf:Int):St:=({ fr:= [(0,.lst false (.t160 p4_0)),(1,.clo 177 0 [.loc 3 0]),(4,I Ia),(7,I (p4_0.length:Int)),(8,I Xf)],ob:= [(2,(Bk p4_1)),(3,[S p4_2])],base:=4 } :St)
def Art(p4_0:List B3)(p4_1:Ac)(p4_2:ByteArray)(K:Ex→St→Prop):Nat×(Int×Int)→Prop:=fun o=>Cr o.1 [K .ret (Anq p4_0 p4_1 p4_2 o.2.1 o.2.2),K (.exit 0) (Anq p4_0 p4_1 p4_2 o.2.1 o.2.2)]
def J5{A:Type}(an:An A)(L:Nat)(p4_0:List B3)(p4_1:Ac)(p4_2:ByteArray)(rec:Int→Int→A)(out:Nat×(Int×Int)→A)(Ia:Int)(Xf:Int):A:=
 (an.cn (decide (Xf < (p4_0.length:Int)))
 (an.gd ((0:Int)≤Xf)
 (an.gd (Xf < ((p4_0.length:Nat):Int))
 (an.cn (((p4_0.getD (Int.toNat Xf) default).Name).toList == p4_2.toList)
 (an.lf out (0,(Xf,Xf)))
 (rec Ia (F9 (Xf+1))))))
 (an.lf out (1,(Ia,Xf))))
def H3(L:Nat)(p4_0:List B3)(p4_1:Ac)(p4_2:ByteArray):Nat→Int→Int→Option (Nat×(Int×Int))
 |0,_,_=>none
 |n+1,Ia,Xf=>J5 (Bq _) L p4_0 p4_1 p4_2 (H3 L p4_0 p4_1 p4_2 n) some Ia Xf
theorem Bgg(L:Nat)(p4_0:List B3)(p4_1:Ac)(p4_2:ByteArray)(g:Int→Int→Option (Nat×(Int×Int)))(Q:Nat×(Int×Int)→Prop)(Ia:Int)(Xf:Int):J5 Bh L p4_0 p4_1 p4_2 (fun Ia Xf=>ob (g Ia Xf) Q) Q Ia Xf=ob (J5 (Bq _) L p4_0 p4_1 p4_2 g some Ia Xf) Q:=by
 unfold J5
 dsimp only [Bh,Bq]
 try simp only [y1,y2,y3,y4,y5 Q,y6,y7,y8 Q,y9,z1,z2,z3,z4]
theorem Bfe(L:Nat)(p4_0:List B3)(p4_1:Ac)(p4_2:ByteArray)(n:Nat)(Ia:Int)(Xf:Int)(K:Ex→St→Prop):Bl (EV (f9 L) L 8 A7i.r.r.l.r.r.l.l) [0,1,4,7,8] [2,3] n (Anq p4_0 p4_1 p4_2 Ia Xf) K=ob (H3 L p4_0 p4_1 p4_2 n Ia Xf) (fun o=>Art p4_0 p4_1 p4_2 K o):=by
 induction n generalizing Ia Xf with
 |zero=>rfl
 |succ n ih=>
  refine Eq.trans (b:=J5 Bh L p4_0 p4_1 p4_2 (fun Ia Xf=>Bl (EV (f9 L) L 8 A7i.r.r.l.r.r.l.l) [0,1,4,7,8] [2,3] n (Anq p4_0 p4_1 p4_2 Ia Xf) K) (Art p4_0 p4_1 p4_2 K) Ia Xf) (by kernel_rfl) ?_
  simp only [ih]
  exact Bgg L p4_0 p4_1 p4_2 (H3 L p4_0 p4_1 p4_2 n) (Art p4_0 p4_1 p4_2 K) Ia Xf
def A3w(p4_0:List B3)(p4_1:Ac)(p4_2:ByteArray):List PV:= [.lst false (.t160 p4_0),.clo 177 0 [.loc 3 0]]
def A32(p4_0:List B3)(p4_1:Ac)(p4_2:ByteArray):List (Nat×List PV):= [(2,(Bk p4_1)),(3,[S p4_2])]
def Age(p4_0:List B3)(p4_1:Ac)(p4_2:ByteArray)(k:PV→List (Nat×List PV)→Prop):Int→Prop:=fun o=>k (I o) [(2,(Bk p4_1)),(3,[S p4_2])]
def Qj{A:Type}(an:An A)(L:Nat)(p4_0:List B3)(p4_1:Ac)(p4_2:ByteArray)(out:Int→A):A:=
 (an.bd (H3 L p4_0 p4_1 p4_2 L 0 0) fun o4=>
 (an.sl o4.1 [(an.lf out o4.2.1),
 (an.lf out (-1))]))
def Qn(L:Nat)(p4_0:List B3)(p4_1:Ac)(p4_2:ByteArray):Option Int:=Qj (Bq _) L p4_0 p4_1 p4_2 some
def A5c(L:Nat)(p4_0:List B3)(p4_1:Ac)(p4_2:ByteArray)(k:PV→List (Nat×List PV)→Prop):Ex→St→Prop:=(Ca 0 (Dl (EV (f9 L) L 8 A7i.r.r.r) (Acy Tryz.prog (RS Tryz.f176) k)))
theorem Bqh(L:Nat)(p4_0:List B3)(p4_1:Ac)(p4_2:ByteArray)(k:PV→List (Nat×List PV)→Prop)(o4:Nat×(Int×Int)):Art p4_0 p4_1 p4_2 (A5c L p4_0 p4_1 p4_2 k) o4=
 (Cr o4.1 [(ob (some o4.2.1) (Age p4_0 p4_1 p4_2 k)),
 (ob (some (-1)) (Age p4_0 p4_1 p4_2 k))]):=by kernel_rfl
theorem Bd6(L:Nat)(p4_0:List B3)(p4_1:Ac)(p4_2:ByteArray)(k:PV→List (Nat×List PV)→Prop):YO (f9 L) L 9 176 (A3w p4_0 p4_1 p4_2) (A32 p4_0 p4_1 p4_2) k=ob (Qn L p4_0 p4_1 p4_2) (fun o=>Age p4_0 p4_1 p4_2 k o):=by
 refine (Zn _ _ _ jn4 _ _ _ _ _ _ _).trans ?_
 refine Eq.trans (b:=Qj Bh L p4_0 p4_1 p4_2 (Age p4_0 p4_1 p4_2 k)) ?_ ?_
 ·refine Eq.trans (b:=(Bl (EV (f9 L) L 8 A7i.r.r.l.r.r.l.l) [0,1,4,7,8] [2,3] L (Anq p4_0 p4_1 p4_2 0 0) (A5c L p4_0 p4_1 p4_2 k))) (by kernel_rfl) ?_
  unfold Qj
  dsimp only [Bh]
  simp only [Bfe,Bqh]
 generalize Age p4_0 p4_1 p4_2 k=Q
 unfold Qn Qj
 dsimp only [Bh,Bq]
 try simp only [y1,y2,y3,y4,y5 Q,y6,y7,y8 Q,y9,z1,z2,z3,z4]
def A5d(L:Nat)(a0:Ac)(a1:ByteArray)(kk:PV→Prop):PV→List (Nat×List PV)→Prop:=(u4 Tryz.prog (f9 L) (EI (f9 L) L 9) 1 (List.drop 4 c84.r.r.l.l.ops) ({ fr:= [(18,.clo 171 0 [.loc 3 0]),(17,.lst false (.t72 a0.Vars)),(16,.loc 2 1),(2,.loc 2 0),(3,.loc 3 0),(4,S (⟨#[]⟩:ByteArray)),(5,I 0)],ob:= [(2,(Bk a0)),(3,[S a1])],base:=0 } :St) (some 19) (fun st9=>(Dl (EV (f9 L) L 9 c84.r.r.l.r) (Dl (EV (f9 L) L 9 c84.r.r.r) (Dx Tryz.prog (RS Tryz.f84) kk))) .normal st9))
def A5e(L:Nat)(a0:Ac)(a1:ByteArray)(kk:PV→Prop):PV→List (Nat×List PV)→Prop:=(u4 Tryz.prog (f9 L) (EI (f9 L) L 9) 1 (List.drop 4 c84.r.r.r.r.l.l.ops) ({ fr:= [(25,.clo 173 0 [.loc 3 0]),(24,.lst false (.t149 a0.Resources)),(23,.loc 2 2),(2,.loc 2 0),(3,.loc 3 0),(4,S (⟨#[]⟩:ByteArray)),(5,I 0)],ob:= [(2,(Bk a0)),(3,[S a1])],base:=0 } :St) (some 26) (fun st9=>(Dl (EV (f9 L) L 9 c84.r.r.r.r.l.r) (Dl (EV (f9 L) L 9 c84.r.r.r.r.r) (Dx Tryz.prog (RS Tryz.f84) kk))) .normal st9))
def A5f(L:Nat)(a0:Ac)(a1:ByteArray)(kk:PV→Prop):PV→List (Nat×List PV)→Prop:=(u4 Tryz.prog (f9 L) (EI (f9 L) L 9) 1 (List.drop 4 c84.r.r.r.r.r.r.l.l.ops) ({ fr:= [(32,.clo 175 0 [.loc 3 0]),(31,.lst false (.t156 a0.Stores)),(30,.loc 2 3),(2,.loc 2 0),(3,.loc 3 0),(4,S (⟨#[]⟩:ByteArray)),(5,I 0)],ob:= [(2,(Bk a0)),(3,[S a1])],base:=0 } :St) (some 33) (fun st9=>(Dl (EV (f9 L) L 9 c84.r.r.r.r.r.r.l.r) (Dl (EV (f9 L) L 9 c84.r.r.r.r.r.r.r) (Dx Tryz.prog (RS Tryz.f84) kk))) .normal st9))
def A5g(L:Nat)(a0:Ac)(a1:ByteArray)(kk:PV→Prop):PV→List (Nat×List PV)→Prop:=(u4 Tryz.prog (f9 L) (EI (f9 L) L 9) 1 (List.drop 4 c84.r.r.r.r.r.r.r.r.l.l.ops) ({ fr:= [(39,.clo 177 0 [.loc 3 0]),(38,.lst false (.t160 a0.Belts)),(37,.loc 2 4),(2,.loc 2 0),(3,.loc 3 0),(4,S (⟨#[]⟩:ByteArray)),(5,I 0)],ob:= [(2,(Bk a0)),(3,[S a1])],base:=0 } :St) (some 40) (fun st9=>(Dl (EV (f9 L) L 9 c84.r.r.r.r.r.r.r.r.l.r) (Dl (EV (f9 L) L 9 c84.r.r.r.r.r.r.r.r.r) (Dx Tryz.prog (RS Tryz.f84) kk))) .normal st9))
theorem Bqi(L:Nat)(a0:Ac)(a1:ByteArray)(kk:PV→Prop)(o1:Int):Agb a0.Vars a0 a1 (A5d L a0 a1 kk) o1=
 (br (decide (o1≥0))
 (ob (some ((⟨#[118,97,114]⟩:ByteArray),o1)) (fun(x:(ByteArray×Int))=>kk (.tup [S x.1,I x.2])))
 (YO (f9 L) L 9 172 (A3u a0.Resources a0 a1) (A30 a0.Resources a0 a1) (A5e L a0 a1 kk))):=by kernel_rfl
theorem Bqj(L:Nat)(a0:Ac)(a1:ByteArray)(kk:PV→Prop)(o2:Int):Agc a0.Resources a0 a1 (A5e L a0 a1 kk) o2=
 (br (decide (o2≥0))
 (ob (some ((⟨#[114,101,115,111,117,114,99,101]⟩:ByteArray),o2)) (fun(x:(ByteArray×Int))=>kk (.tup [S x.1,I x.2])))
 (YO (f9 L) L 9 174 (A3v a0.Stores a0 a1) (A31 a0.Stores a0 a1) (A5f L a0 a1 kk))):=by kernel_rfl
theorem Bqk(L:Nat)(a0:Ac)(a1:ByteArray)(kk:PV→Prop)(o3:Int):Agd a0.Stores a0 a1 (A5f L a0 a1 kk) o3=
 (br (decide (o3≥0))
 (ob (some ((⟨#[115,116,111,114,101]⟩:ByteArray),o3)) (fun(x:(ByteArray×Int))=>kk (.tup [S x.1,I x.2])))
 (YO (f9 L) L 9 176 (A3w a0.Belts a0 a1) (A32 a0.Belts a0 a1) (A5g L a0 a1 kk))):=by kernel_rfl
theorem Bql(L:Nat)(a0:Ac)(a1:ByteArray)(kk:PV→Prop)(o4:Int):Age a0.Belts a0 a1 (A5g L a0 a1 kk) o4=
 (br (decide (o4≥0))
 (ob (some ((⟨#[98,101,108,116]⟩:ByteArray),o4)) (fun(x:(ByteArray×Int))=>kk (.tup [S x.1,I x.2])))
 (ob (Cc L a0.Queues a1) fun r5=>
 (br (decide (r5≥0))
 (ob (some ((⟨#[113,117,101,117,101]⟩:ByteArray),r5)) (fun(x:(ByteArray×Int))=>kk (.tup [S x.1,I x.2])))
 (ob (Cc L a0.Streams a1) fun r6=>
 (br (decide (r6≥0))
 (ob (some ((⟨#[115,116,114,101,97,109]⟩:ByteArray),r6)) (fun(x:(ByteArray×Int))=>kk (.tup [S x.1,I x.2])))
 (ob (Cc L a0.Tallies a1) fun r7=>
 (br (decide (r7≥0))
 (ob (some ((⟨#[116,97,108,108,121]⟩:ByteArray),r7)) (fun(x:(ByteArray×Int))=>kk (.tup [S x.1,I x.2])))
 (ob (Cc L a0.Levels a1) fun r8=>
 (br (decide (r8≥0))
 (ob (some ((⟨#[108,101,118,101,108]⟩:ByteArray),r8)) (fun(x:(ByteArray×Int))=>kk (.tup [S x.1,I x.2])))
 (ob (Cc L a0.Counts a1) fun r9=>
 (br (decide (r9≥0))
 (ob (some ((⟨#[99,111,117,110,116]⟩:ByteArray),r9)) (fun(x:(ByteArray×Int))=>kk (.tup [S x.1,I x.2])))
 (ob (Dr L a0 a1) fun r10=>
 (br (decide (r10≥0))
 (ob (some ((⟨#[114,111,117,116,105,110,101]⟩:ByteArray),r10)) (fun(x:(ByteArray×Int))=>kk (.tup [S x.1,I x.2])))
 (ob (some ((⟨#[]⟩:ByteArray),(-1))) (fun(x:(ByteArray×Int))=>kk (.tup [S x.1,I x.2])))))))))))))))):=by kernel_rfl
def Tm{A:Type}(an:An A)(L:Nat)(a0:Ac)(a1:ByteArray)(out:(ByteArray×Int)→A):A:=
 (an.bd (Qk L a0.Vars a0 a1) fun o1=>
 (an.cn (decide (o1≥0))
 (an.lf out ((⟨#[118,97,114]⟩:ByteArray),o1))
 (an.bd (Ql L a0.Resources a0 a1) fun o2=>
 (an.cn (decide (o2≥0))
 (an.lf out ((⟨#[114,101,115,111,117,114,99,101]⟩:ByteArray),o2))
 (an.bd (Qm L a0.Stores a0 a1) fun o3=>
 (an.cn (decide (o3≥0))
 (an.lf out ((⟨#[115,116,111,114,101]⟩:ByteArray),o3))
 (an.bd (Qn L a0.Belts a0 a1) fun o4=>
 (an.cn (decide (o4≥0))
 (an.lf out ((⟨#[98,101,108,116]⟩:ByteArray),o4))
 (an.bd (Cc L a0.Queues a1) fun r5=>
 (an.cn (decide (r5≥0))
 (an.lf out ((⟨#[113,117,101,117,101]⟩:ByteArray),r5))
 (an.bd (Cc L a0.Streams a1) fun r6=>
 (an.cn (decide (r6≥0))
 (an.lf out ((⟨#[115,116,114,101,97,109]⟩:ByteArray),r6))
 (an.bd (Cc L a0.Tallies a1) fun r7=>
 (an.cn (decide (r7≥0))
 (an.lf out ((⟨#[116,97,108,108,121]⟩:ByteArray),r7))
 (an.bd (Cc L a0.Levels a1) fun r8=>
 (an.cn (decide (r8≥0))
 (an.lf out ((⟨#[108,101,118,101,108]⟩:ByteArray),r8))
 (an.bd (Cc L a0.Counts a1) fun r9=>
 (an.cn (decide (r9≥0))
 (an.lf out ((⟨#[99,111,117,110,116]⟩:ByteArray),r9))
 (an.bd (Dr L a0 a1) fun r10=>
 (an.cn (decide (r10≥0))
 (an.lf out ((⟨#[114,111,117,116,105,110,101]⟩:ByteArray),r10))
 (an.lf out ((⟨#[]⟩:ByteArray),(-1)))))))))))))))))))))))
def M5(L:Nat)(a0:Ac)(a1:ByteArray):Option (ByteArray×Int):=Tm (Bq _) L a0 a1 some
theorem e84(L:Nat)(a0:Ac)(a1:ByteArray)(kk:PV→Prop):EW (f9 L) L 9 (RS Tryz.f84) c84 [.agg (Bk a0),S a1] kk=ob (M5 L a0 a1) (fun(x:(ByteArray×Int))=>kk (.tup [S x.1,I x.2])):=by
 refine Eq.trans (b:=Tm Bh L a0 a1 (fun(x:(ByteArray×Int))=>kk (.tup [S x.1,I x.2]))) ?_ ?_
 ·refine Eq.trans (b:=(YO (f9 L) L 9 170 (A3t a0.Vars a0 a1) (A3z a0.Vars a0 a1) (A5d L a0 a1 kk))) (by kernel_rfl) ?_
  unfold Tm
  dsimp only [Bh]
  simp only [Bd3,Bd4,Bd5,Bd6,Bqi,Bqj,Bqk,Bql]
 generalize (fun(x:(ByteArray×Int))=>kk (.tup [S x.1,I x.2]))=Q
 unfold M5 Tm
 dsimp only [Bh,Bq]
 try simp only [y1,y2,y3,y4,y5 Q,y6,y7,y8 Q,y9,z1,z2,z3,z4]
theorem h84(L:Nat)(a0:Ac)(a1:ByteArray)(r:(ByteArray×Int))(h:M5 L a0 a1=some r):Bc Tryz.prog 84 [.agg (Bk a0),S a1] (.tup [S r.1,I r.2]):=
 hE Cg (s84 L) mixed Tryz.func84 (by kernel_rfl:C4 Tryz.prog inl Tryz.f84=some c84) (er:=fun(x:(ByteArray×Int))=> .tup [S x.1,I x.2]) (by kernel_rfl) (e84 L a0 a1) h
noncomputable def c48:EC:=(C4 Tryz.prog inl Tryz.f48).getD .stop
def O48(L:Nat):Bi:=(Cp 84 (A2 (fun(x:(ByteArray×Int))=> .tup [S x.1,I x.2]) Cw cS (M5 L)) Kg)
theorem s48(L:Nat):Bs Tryz.prog (O48 L):=(Ad (a2 _ (h84 L)) (Az Tryz.prog))
def Xo{A:Type}(an:An A)(L:Nat)(a0:Ac)(a1:ByteArray)(out:ByteArray→A):A:=
 (an.bd (M5 L a0 a1) fun r1=>
 (an.lf out r1.1))
def Im(L:Nat)(a0:Ac)(a1:ByteArray):Option ByteArray:=Xo (Bq _) L a0 a1 some
theorem e48(L:Nat)(a0:Ac)(a1:ByteArray)(kk:PV→Prop):EW (O48 L) L 9 (RS Tryz.f48) c48 [.agg (Bk a0),S a1] kk=ob (Im L a0 a1) (fun(x:ByteArray)=>kk (S x)):=by
 refine Eq.trans (b:=Xo Bh L a0 a1 (fun(x:ByteArray)=>kk (S x))) (by kernel_rfl) ?_
 generalize (fun(x:ByteArray)=>kk (S x))=Q
 unfold Im Xo
 dsimp only [Bh,Bq]
 try simp only [y1,y2,y3,y4,y5 Q,y6,y7,y8 Q,y9,z1,z2,z3,z4]
theorem h48(L:Nat)(a0:Ac)(a1:ByteArray)(r:ByteArray)(h:Im L a0 a1=some r):Bc Tryz.prog 48 [.agg (Bk a0),S a1] (S r):=
 hE Cg (s48 L) mixed Tryz.func48 (by kernel_rfl:C4 Tryz.prog inl Tryz.f48=some c48) (er:=fun(x:ByteArray)=>S x) (by kernel_rfl) (e48 L a0 a1) h
noncomputable def c47:EC:=(C4 Tryz.prog inl Tryz.f47).getD .stop
def O47(L:Nat):Bi:=Kg
theorem s47(L:Nat):Bs Tryz.prog (O47 L):=(Az Tryz.prog)
def Tv{A:Type}(an:An A)(L:Nat)(a0:Int)(a1:ByteArray)(out:Bool→A):A:=
 (an.cn (a0 == 22)
 (an.lf out (a1.toList == (⟨#[114,101,115,111,117,114,99,101]⟩:ByteArray).toList))
 (an.cn (a0 == 23)
 (an.lf out (a1.toList == (⟨#[115,116,111,114,101]⟩:ByteArray).toList))
 (an.jp (bif (a1.toList == (⟨#[114,101,115,111,117,114,99,101]⟩:ByteArray).toList) then true
 else (a1.toList == (⟨#[113,117,101,117,101]⟩:ByteArray).toList)) (fun j=>(an.cn (a1.toList == (⟨#[114,101,115,111,117,114,99,101]⟩:ByteArray).toList)
 (an.ap j true)
 (an.ap j (a1.toList == (⟨#[113,117,101,117,101]⟩:ByteArray).toList)))) (fun b1=>
 (an.lf out b1)))))
def Ho(L:Nat)(a0:Int)(a1:ByteArray):Option Bool:=Tv (Bq _) L a0 a1 some
theorem e47(L:Nat)(a0:Int)(a1:ByteArray)(kk:PV→Prop):EW (O47 L) L 9 (RS Tryz.f47) c47 [I a0,S a1] kk=ob (Ho L a0 a1) (fun(x:Bool)=>kk (B x)):=by
 refine Eq.trans (b:=Tv Bh L a0 a1 (fun(x:Bool)=>kk (B x))) (by kernel_rfl) ?_
 generalize (fun(x:Bool)=>kk (B x))=Q
 unfold Ho Tv
 dsimp only [Bh,Bq]
 try simp only [y1,y2,y3,y4,y5 Q,y6,y7,y8 Q,y9,z1,z2,z3,z4]
theorem h47(L:Nat)(a0:Int)(a1:ByteArray)(r:Bool)(h:Ho L a0 a1=some r):Bc Tryz.prog 47 [I a0,S a1] (B r):=
 hE Cg (s47 L) mixed Tryz.func47 (by kernel_rfl:C4 Tryz.prog inl Tryz.f47=some c47) (er:=fun(x:Bool)=>B x) (by kernel_rfl) (e47 L a0 a1) h
noncomputable def c85:EC:=(C4 Tryz.prog inl Tryz.f85).getD .stop
def O85(L:Nat):Bi:=Kg
theorem s85(L:Nat):Bs Tryz.prog (O85 L):=(Az Tryz.prog)
def So{A:Type}(an:An A)(L:Nat)(a0:Int)(out:Bool→A):A:=
 (an.jp (bif (a0 == 1) then true
 else (a0 == 3)) (fun j=>(an.cn (a0 == 1)
 (an.ap j true)
 (an.ap j (a0 == 3)))) (fun b1=>
 (an.lf out b1)))
def Cm(L:Nat)(a0:Int):Option Bool:=So (Bq _) L a0 some
theorem e85(L:Nat)(a0:Int)(kk:PV→Prop):EW (O85 L) L 9 (RS Tryz.f85) c85 [I a0] kk=ob (Cm L a0) (fun(x:Bool)=>kk (B x)):=by
 refine Eq.trans (b:=So Bh L a0 (fun(x:Bool)=>kk (B x))) (by kernel_rfl) ?_
 generalize (fun(x:Bool)=>kk (B x))=Q
 unfold Cm So
 dsimp only [Bh,Bq]
 try simp only [y1,y2,y3,y4,y5 Q,y6,y7,y8 Q,y9,z1,z2,z3,z4]
theorem h85(L:Nat)(a0:Int)(r:Bool)(h:Cm L a0=some r):Bc Tryz.prog 85 [I a0] (B r):=
 hE Cg (s85 L) mixed Tryz.func85 (by kernel_rfl:C4 Tryz.prog inl Tryz.f85=some c85) (er:=fun(x:Bool)=>B x) (by kernel_rfl) (e85 L a0) h
noncomputable def c49:EC:=(C4 Tryz.prog inl Tryz.f49).getD .stop
def O49(L:Nat):Bi:=(Cp 85 (A1 (fun(x:Bool)=>B x) (cI .i64) (Cm L)) Kg)
theorem s49(L:Nat):Bs Tryz.prog (O49 L):=(Ad (a1 _ (h85 L)) (Az Tryz.prog))
def U2{A:Type}(an:An A)(L:Nat)(a0:Int)(a1:Int)(out:Int→A):A:=
 (an.jb (bif (a0 == 5) then (Option.bind (Cm L a1) fun r2=>
 (some r2))
 else (some false)) (fun j=>(an.cn (a0 == 5)
 (an.bd (Cm L a1) fun r3=>
 (an.lf j r3))
 (an.lf j false))) (fun b1=>
 (an.cn b1
 (an.cn b1
 (an.lf out a1)
 (an.jp (bif (a0 == 7) then (a1 == 1)
 else false) (fun j=>(an.cn (a0 == 7)
 (an.ap j (a1 == 1))
 (an.ap j false))) (fun b4=>
 (an.cn b4
 (an.lf out 3)
 (an.jp (bif (a0 == 8) then (a1 == 3)
 else false) (fun j=>(an.cn (a0 == 8)
 (an.ap j (a1 == 3))
 (an.ap j false))) (fun b5=>
 (an.cn b5
 (an.lf out 1)
 (an.lf out 0))))))))
 (an.jp (bif (a0 == 6) then (a1 == 2)
 else false) (fun j=>(an.cn (a0 == 6)
 (an.ap j (a1 == 2))
 (an.ap j false))) (fun b6=>
 (an.cn b6
 (an.lf out a1)
 (an.jp (bif (a0 == 7) then (a1 == 1)
 else false) (fun j=>(an.cn (a0 == 7)
 (an.ap j (a1 == 1))
 (an.ap j false))) (fun b7=>
 (an.cn b7
 (an.lf out 3)
 (an.jp (bif (a0 == 8) then (a1 == 3)
 else false) (fun j=>(an.cn (a0 == 8)
 (an.ap j (a1 == 3))
 (an.ap j false))) (fun b8=>
 (an.cn b8
 (an.lf out 1)
 (an.lf out 0)))))))))))))
def Ir(L:Nat)(a0:Int)(a1:Int):Option Int:=U2 (Bq _) L a0 a1 some
theorem e49(L:Nat)(a0:Int)(a1:Int)(kk:PV→Prop):EW (O49 L) L 9 (RS Tryz.f49) c49 [I a0,I a1] kk=ob (Ir L a0 a1) (fun(x:Int)=>kk (I x)):=by
 refine Eq.trans (b:=U2 Bh L a0 a1 (fun(x:Int)=>kk (I x))) (by kernel_rfl) ?_
 generalize (fun(x:Int)=>kk (I x))=Q
 unfold Ir U2
 dsimp only [Bh,Bq]
 try simp only [y1,y2,y3,y4,y5 Q,y6,y7,y8 Q,y9,z1,z2,z3,z4]
theorem h49(L:Nat)(a0:Int)(a1:Int)(r:Int)(h:Ir L a0 a1=some r):Bc Tryz.prog 49 [I a0,I a1] (I r):=
 hE Cg (s49 L) mixed Tryz.func49 (by kernel_rfl:C4 Tryz.prog inl Tryz.f49=some c49) (er:=fun(x:Int)=>I x) (by kernel_rfl) (e49 L a0 a1) h
noncomputable def j7:EC:=(C4 Tryz.prog inl Tryz.f50).getD .stop
def O50(L:Nat):Bi:=(Cp 85 (A1 (fun(x:Bool)=>B x) (cI .i64) (Cm L)) Kg)
theorem s50(L:Nat):Bs Tryz.prog (O50 L):=(Ad (a1 _ (h85 L)) (Az Tryz.prog))
def A6j(a1:Int)(a2:Int)(p802_3:Bool):St:=({ fr:= [(1,I a1),(2,I a2),(6,I 0),(47,B p802_3)],ob:= [],base:=0 } :St)
def A5p(L:Nat)(e0:EC)(kk:PV→Prop):Ex→St→Prop:=(Ca 2 (Ca 0 (Dl (EV (O50 L) L 9 e0) (Dx Tryz.prog (RS Tryz.f50) kk))))
def Hu{A:Type}(an:An A)(L:Nat)(a1:Int)(a2:Int)(p802_3:Bool)(out:Int→A):A:=
 (an.cn p802_3
 (an.lf out 1)
 (an.jp (bif (a1 == 3) then (a2 == 1)
 else false) (fun j=>(an.cn (a1 == 3)
 (an.ap j (a2 == 1))
 (an.ap j false))) (fun b11=>
 (an.cn b11
 (an.lf out 3)
 (an.lf out 0)))))
theorem Bbt(L:Nat)(a1:Int)(a2:Int)(p802_3:Bool)(kk:PV→Prop):EV (O50 L) L 9 j7.r.r.r.r.l.r.r.l.r.r.r.r.r.r.r.r.l.l.r.r (A6j a1 a2 p802_3) (A5p L j7.r.r.r.r.r kk)=Hu Bh L a1 a2 p802_3 (fun(x:Int)=>kk (I x)):=by kernel_rfl
theorem Bil(L:Nat)(a1:Int)(a2:Int)(p802_3:Bool)(Q:Int→Prop):Hu Bh L a1 a2 p802_3 Q=ob (Hu (Bq _) L a1 a2 p802_3 some) Q:=by
 unfold Hu
 dsimp only [Bh,Bq]
 try simp only [y1,y2,y3,y4,y5 Q,y6,y7,y8 Q,y9,z1,z2,z3,z4]
def A6k(a1:Int)(a2:Int)(p805_3:Bool):St:=({ fr:= [(1,I a1),(2,I a2),(6,I 0),(78,B p805_3)],ob:= [],base:=0 } :St)
def A5q(L:Nat)(e0:EC)(kk:PV→Prop):Ex→St→Prop:=(Ca 0 (Dl (EV (O50 L) L 9 e0) (Dx Tryz.prog (RS Tryz.f50) kk)))
def Hv{A:Type}(an:An A)(L:Nat)(a1:Int)(a2:Int)(p805_3:Bool)(out:Int→A):A:=
 (an.cn p805_3
 (an.jp (bif (a1 == 2) then (a2 == 2)
 else false) (fun j=>(an.cn (a1 == 2)
 (an.ap j (a2 == 2))
 (an.ap j false))) (fun b15=>
 (an.cn b15
 (an.lf out 2)
 (an.lf out 0))))
 (an.lf out 0))
theorem Bbw(L:Nat)(a1:Int)(a2:Int)(p805_3:Bool)(kk:PV→Prop):EV (O50 L) L 9 j7.r.r.r.r.l.r.r.l.r.r.r.r.r.r.r.r.r.r.r.r.r.r.r.r.r (A6k a1 a2 p805_3) (A5q L j7.r.r.r.r.r kk)=Hv Bh L a1 a2 p805_3 (fun(x:Int)=>kk (I x)):=by kernel_rfl
theorem Bio(L:Nat)(a1:Int)(a2:Int)(p805_3:Bool)(Q:Int→Prop):Hv Bh L a1 a2 p805_3 Q=ob (Hv (Bq _) L a1 a2 p805_3 some) Q:=by
 unfold Hv
 dsimp only [Bh,Bq]
 try simp only [y1,y2,y3,y4,y5 Q,y6,y7,y8 Q,y9,z1,z2,z3,z4]
def Aua(a1:Int)(a2:Int)(a0:Int)(p804_4:Bool):St:=({ fr:= [(1,I a1),(2,I a2),(6,I 0),(14,I a0),(68,B p804_4)],ob:= [],base:=0 } :St)
def Asu(L:Nat)(e0:EC)(kk:PV→Prop):Ex→St→Prop:=(Ca 0 (Dl (EV (O50 L) L 9 e0) (Dx Tryz.prog (RS Tryz.f50) kk)))
def Kk{A:Type}(an:An A)(L:Nat)(a1:Int)(a2:Int)(a0:Int)(p804_4:Bool)(nx5:Int→Int→Bool→A)(out:Int→A):A:=
 (an.cn p804_4
 (an.jb (bif (a1 == a2) then (Option.bind (Cm L a1) fun r13=>
 (some r13))
 else (some false)) (fun j=>(an.cn (a1 == a2)
 (an.bd (Cm L a1) fun r14=>
 (an.lf j r14))
 (an.lf j false))) (fun b12=>
 (an.cn b12
 (an.lf out 2)
 (an.lf out 0))))
 (an.cn (a0 == 18)
 (nx5 a1 a2 (a0 == 18))
 (nx5 a1 a2 (a0 == 19))))
def Gt{A:Type}(an:An A)(L:Nat)(a1:Int)(a2:Int)(a0:Int)(p804_4:Bool)(out:Int→A):A:=Kk an L a1 a2 a0 p804_4 (fun a1 a2 p805_3=>Hv an L a1 a2 p805_3 out) out
theorem Bhy(L:Nat)(a1:Int)(a2:Int)(a0:Int)(p804_4:Bool)(g5:Int→Int→Bool→Option Int)(Q:Int→Prop):Kk Bh L a1 a2 a0 p804_4 (fun a1 a2 p805_3=>ob (g5 a1 a2 p805_3) Q) Q=ob (Kk (Bq _) L a1 a2 a0 p804_4 g5 some) Q:=by
 unfold Kk
 dsimp only [Bh,Bq]
 try simp only [y1,y2,y3,y4,y5 Q,y6,y7,y8 Q,y9,z1,z2,z3,z4]
theorem Bcj(L:Nat)(a1:Int)(a2:Int)(a0:Int)(p804_4:Bool)(kk:PV→Prop)(z5:EC):EV (O50 L) L 9 (EC.put [false,false,false] z5 j7.r.r.r.r.l.r.r.l.r.r.r.r.r.r.r.r.r.r.r.r.r.r) (Aua a1 a2 a0 p804_4) (Asu L j7.r.r.r.r.r kk)=Kk Bh L a1 a2 a0 p804_4 (fun a1 a2 p805_3=>EV (O50 L) L 9 z5 (A6k a1 a2 p805_3) (A5q L j7.r.r.r.r.r kk)) (fun(x:Int)=>kk (I x)):=by kernel_rfl
theorem Bbv(L:Nat)(a1:Int)(a2:Int)(a0:Int)(p804_4:Bool)(kk:PV→Prop):EV (O50 L) L 9 j7.r.r.r.r.l.r.r.l.r.r.r.r.r.r.r.r.r.r.r.r.r.r (Aua a1 a2 a0 p804_4) (Asu L j7.r.r.r.r.r kk)=Gt Bh L a1 a2 a0 p804_4 (fun(x:Int)=>kk (I x)):=by
 refine Eq.trans (b:=EV (O50 L) L 9 (EC.put [false,false,false] j7.r.r.r.r.l.r.r.l.r.r.r.r.r.r.r.r.r.r.r.r.r.r.r.r.r j7.r.r.r.r.l.r.r.l.r.r.r.r.r.r.r.r.r.r.r.r.r.r) (Aua a1 a2 a0 p804_4) (Asu L j7.r.r.r.r.r kk)) (by kernel_rfl) ?_
 refine Eq.trans (Bcj L a1 a2 a0 p804_4 kk j7.r.r.r.r.l.r.r.l.r.r.r.r.r.r.r.r.r.r.r.r.r.r.r.r.r) ?_
 unfold Gt
 simp only [Bbw]
theorem Bin(L:Nat)(a1:Int)(a2:Int)(a0:Int)(p804_4:Bool)(Q:Int→Prop):Gt Bh L a1 a2 a0 p804_4 Q=ob (Gt (Bq _) L a1 a2 a0 p804_4 some) Q:=by
 unfold Gt
 simp only [Bio]
 exact Bhy L a1 a2 a0 p804_4 (fun a1 a2 p805_3=>Hv (Bq _) L a1 a2 p805_3 some) Q
def At9(a1:Int)(a2:Int)(a0:Int)(p803_4:Bool):St:=({ fr:= [(1,I a1),(2,I a2),(6,I 0),(14,I a0),(62,B p803_4)],ob:= [],base:=0 } :St)
def Ast(L:Nat)(e0:EC)(kk:PV→Prop):Ex→St→Prop:=(Ca 0 (Dl (EV (O50 L) L 9 e0) (Dx Tryz.prog (RS Tryz.f50) kk)))
def Kj{A:Type}(an:An A)(L:Nat)(a1:Int)(a2:Int)(a0:Int)(p803_4:Bool)(nx4:Int→Int→Int→Bool→A)(out:Int→A):A:=
 (an.cn p803_4
 (an.cn (a1 == a2)
 (an.lf out 2)
 (an.lf out 0))
 (an.cn (a0 == 16)
 (nx4 a1 a2 a0 (a0 == 16))
 (nx4 a1 a2 a0 (a0 == 17))))
def Gs{A:Type}(an:An A)(L:Nat)(a1:Int)(a2:Int)(a0:Int)(p803_4:Bool)(out:Int→A):A:=Kj an L a1 a2 a0 p803_4 (fun a1 a2 a0 p804_4=>Gt an L a1 a2 a0 p804_4 out) out
theorem Bhx(L:Nat)(a1:Int)(a2:Int)(a0:Int)(p803_4:Bool)(g4:Int→Int→Int→Bool→Option Int)(Q:Int→Prop):Kj Bh L a1 a2 a0 p803_4 (fun a1 a2 a0 p804_4=>ob (g4 a1 a2 a0 p804_4) Q) Q=ob (Kj (Bq _) L a1 a2 a0 p803_4 g4 some) Q:=by
 unfold Kj
 dsimp only [Bh,Bq]
 try simp only [y1,y2,y3,y4,y5 Q,y6,y7,y8 Q,y9,z1,z2,z3,z4]
theorem Bci(L:Nat)(a1:Int)(a2:Int)(a0:Int)(p803_4:Bool)(kk:PV→Prop)(z4:EC):EV (O50 L) L 9 (EC.put [false,false,false] z4 j7.r.r.r.r.l.r.r.l.r.r.r.r.r.r.r.r.r.r.r) (At9 a1 a2 a0 p803_4) (Ast L j7.r.r.r.r.r kk)=Kj Bh L a1 a2 a0 p803_4 (fun a1 a2 a0 p804_4=>EV (O50 L) L 9 z4 (Aua a1 a2 a0 p804_4) (Asu L j7.r.r.r.r.r kk)) (fun(x:Int)=>kk (I x)):=by kernel_rfl
theorem Bbu(L:Nat)(a1:Int)(a2:Int)(a0:Int)(p803_4:Bool)(kk:PV→Prop):EV (O50 L) L 9 j7.r.r.r.r.l.r.r.l.r.r.r.r.r.r.r.r.r.r.r (At9 a1 a2 a0 p803_4) (Ast L j7.r.r.r.r.r kk)=Gs Bh L a1 a2 a0 p803_4 (fun(x:Int)=>kk (I x)):=by
 refine Eq.trans (b:=EV (O50 L) L 9 (EC.put [false,false,false] j7.r.r.r.r.l.r.r.l.r.r.r.r.r.r.r.r.r.r.r.r.r.r j7.r.r.r.r.l.r.r.l.r.r.r.r.r.r.r.r.r.r.r) (At9 a1 a2 a0 p803_4) (Ast L j7.r.r.r.r.r kk)) (by kernel_rfl) ?_
 refine Eq.trans (Bci L a1 a2 a0 p803_4 kk j7.r.r.r.r.l.r.r.l.r.r.r.r.r.r.r.r.r.r.r.r.r.r) ?_
 unfold Gs
 simp only [Bbv]
theorem Bim(L:Nat)(a1:Int)(a2:Int)(a0:Int)(p803_4:Bool)(Q:Int→Prop):Gs Bh L a1 a2 a0 p803_4 Q=ob (Gs (Bq _) L a1 a2 a0 p803_4 some) Q:=by
 unfold Gs
 simp only [Bin]
 exact Bhx L a1 a2 a0 p803_4 (fun a1 a2 a0 p804_4=>Gt (Bq _) L a1 a2 a0 p804_4 some) Q
def At8(a1:Int)(a2:Int)(b1:Bool)(a0:Int)(p801_5:Bool):St:=({ fr:= [(1,I a1),(2,I a2),(6,I 0),(7,B b1),(14,I a0),(15,B p801_5)],ob:= [],base:=0 } :St)
def Ass(L:Nat)(e0:EC)(kk:PV→Prop):Ex→St→Prop:=(Ca 0 (Dl (EV (O50 L) L 9 e0) (Dx Tryz.prog (RS Tryz.f50) kk)))
def Ki{A:Type}(an:An A)(L:Nat)(a1:Int)(a2:Int)(b1:Bool)(a0:Int)(p801_5:Bool)(nx2:Int→Int→Bool→A)(nx3:Int→Int→Int→Bool→A)(out:Int→A):A:=
 (an.cn p801_5
 (an.jb (bif (a1 == a2) then (Option.bind (Cm L a1) fun r3=>
 (some r3))
 else (some false)) (fun j=>(an.cn (a1 == a2)
 (an.bd (Cm L a1) fun r4=>
 (an.lf j r4))
 (an.lf j false))) (fun b2=>
 (an.cn b2
 (an.lf out a1)
 (an.lf out 0))))
 (an.cn (a0 == 11)
 (an.cn b1
 (an.lf out 1)
 (an.bd (Cm L a1) fun r5=>
 (an.jb (bif r5 then (Option.bind (Cm L a2) fun r7=>
 (some r7))
 else (some false)) (fun j=>(an.cn r5
 (an.bd (Cm L a2) fun r8=>
 (an.lf j r8))
 (an.lf j false))) (fun b6=>
 (an.jp (bif b6 then (a1 != a2)
 else false) (fun j=>(an.cn b6
 (an.ap j (a1 != a2))
 (an.ap j false))) (fun b9=>
 (an.cn b9
 (an.lf out 3)
 (an.lf out 0))))))))
 (an.cn (a0 == 12)
 (an.cn b1
 (nx2 a1 a2 b1)
 (an.jp (bif (a1 == 3) then (a2 == 3)
 else false) (fun j=>(an.cn (a1 == 3)
 (an.ap j (a2 == 3))
 (an.ap j false))) (fun b10=>
 (nx2 a1 a2 b10))))
 (an.cn (a0 == 14)
 (nx3 a1 a2 a0 (a0 == 14))
 (nx3 a1 a2 a0 (a0 == 15))))))
def Gr{A:Type}(an:An A)(L:Nat)(a1:Int)(a2:Int)(b1:Bool)(a0:Int)(p801_5:Bool)(out:Int→A):A:=Ki an L a1 a2 b1 a0 p801_5 (fun a1 a2 p802_3=>Hu an L a1 a2 p802_3 out) (fun a1 a2 a0 p803_4=>Gs an L a1 a2 a0 p803_4 out) out
theorem Bhw(L:Nat)(a1:Int)(a2:Int)(b1:Bool)(a0:Int)(p801_5:Bool)(g2:Int→Int→Bool→Option Int)(g3:Int→Int→Int→Bool→Option Int)(Q:Int→Prop):Ki Bh L a1 a2 b1 a0 p801_5 (fun a1 a2 p802_3=>ob (g2 a1 a2 p802_3) Q) (fun a1 a2 a0 p803_4=>ob (g3 a1 a2 a0 p803_4) Q) Q=ob (Ki (Bq _) L a1 a2 b1 a0 p801_5 g2 g3 some) Q:=by
 unfold Ki
 dsimp only [Bh,Bq]
 try simp only [y1,y2,y3,y4,y5 Q,y6,y7,y8 Q,y9,z1,z2,z3,z4]
theorem Bch(L:Nat)(a1:Int)(a2:Int)(b1:Bool)(a0:Int)(p801_5:Bool)(kk:PV→Prop)(z2 z3:EC):EV (O50 L) L 9 (EC.put [false,false,false,false,false,false,false,false,false] z3 (EC.put [false,false,false,false,false,false,true,true,false,false] z2 j7.r.r.r.r.l.r.r.l.r.r)) (At8 a1 a2 b1 a0 p801_5) (Ass L j7.r.r.r.r.r kk)=Ki Bh L a1 a2 b1 a0 p801_5 (fun a1 a2 p802_3=>EV (O50 L) L 9 z2 (A6j a1 a2 p802_3) (A5p L j7.r.r.r.r.r kk)) (fun a1 a2 a0 p803_4=>EV (O50 L) L 9 z3 (At9 a1 a2 a0 p803_4) (Ast L j7.r.r.r.r.r kk)) (fun(x:Int)=>kk (I x)):=by kernel_rfl
theorem Bbs(L:Nat)(a1:Int)(a2:Int)(b1:Bool)(a0:Int)(p801_5:Bool)(kk:PV→Prop):EV (O50 L) L 9 j7.r.r.r.r.l.r.r.l.r.r (At8 a1 a2 b1 a0 p801_5) (Ass L j7.r.r.r.r.r kk)=Gr Bh L a1 a2 b1 a0 p801_5 (fun(x:Int)=>kk (I x)):=by
 refine Eq.trans (b:=EV (O50 L) L 9 (EC.put [false,false,false,false,false,false,false,false,false] j7.r.r.r.r.l.r.r.l.r.r.r.r.r.r.r.r.r.r.r (EC.put [false,false,false,false,false,false,true,true,false,false] j7.r.r.r.r.l.r.r.l.r.r.r.r.r.r.r.r.l.l.r.r j7.r.r.r.r.l.r.r.l.r.r)) (At8 a1 a2 b1 a0 p801_5) (Ass L j7.r.r.r.r.r kk)) (by kernel_rfl) ?_
 refine Eq.trans (Bch L a1 a2 b1 a0 p801_5 kk j7.r.r.r.r.l.r.r.l.r.r.r.r.r.r.r.r.l.l.r.r j7.r.r.r.r.l.r.r.l.r.r.r.r.r.r.r.r.r.r.r) ?_
 unfold Gr
 simp only [Bbt,Bbu]
theorem Bik(L:Nat)(a1:Int)(a2:Int)(b1:Bool)(a0:Int)(p801_5:Bool)(Q:Int→Prop):Gr Bh L a1 a2 b1 a0 p801_5 Q=ob (Gr (Bq _) L a1 a2 b1 a0 p801_5 some) Q:=by
 unfold Gr
 simp only [Bil,Bim]
 exact Bhw L a1 a2 b1 a0 p801_5 (fun a1 a2 p802_3=>Hu (Bq _) L a1 a2 p802_3 some) (fun a1 a2 a0 p803_4=>Gs (Bq _) L a1 a2 a0 p803_4 some) Q
def Kh{A:Type}(an:An A)(L:Nat)(a0:Int)(a1:Int)(a2:Int)(nx1:Int→Int→Bool→Int→Bool→A)(out:Int→A):A:=
 (an.jp (bif (a1 == 1) then (a2 == 1)
 else false) (fun j=>(an.cn (a1 == 1)
 (an.ap j (a2 == 1))
 (an.ap j false))) (fun b1=>
 (an.cn (a0 == 9)
 (nx1 a1 a2 b1 a0 (a0 == 9))
 (an.cn (a0 == 10)
 (nx1 a1 a2 b1 a0 (a0 == 10))
 (an.cn (a0 == 13)
 (nx1 a1 a2 b1 a0 (a0 == 13))
 (an.cn (a0 == 20)
 (nx1 a1 a2 b1 a0 (a0 == 20))
 (nx1 a1 a2 b1 a0 (a0 == 21))))))))
def W3{A:Type}(an:An A)(L:Nat)(a0:Int)(a1:Int)(a2:Int)(out:Int→A):A:=Kh an L a0 a1 a2 (fun a1 a2 b1 a0 p801_5=>Gr an L a1 a2 b1 a0 p801_5 out) out
theorem Bhv(L:Nat)(a0:Int)(a1:Int)(a2:Int)(g1:Int→Int→Bool→Int→Bool→Option Int)(Q:Int→Prop):Kh Bh L a0 a1 a2 (fun a1 a2 b1 a0 p801_5=>ob (g1 a1 a2 b1 a0 p801_5) Q) Q=ob (Kh (Bq _) L a0 a1 a2 g1 some) Q:=by
 unfold Kh
 dsimp only [Bh,Bq]
 try simp only [y1,y2,y3,y4,y5 Q,y6,y7,y8 Q,y9,z1,z2,z3,z4]
theorem Bcg(L:Nat)(a0:Int)(a1:Int)(a2:Int)(kk:PV→Prop)(z1:EC):EW (O50 L) L 9 (RS Tryz.f50) (EC.put [false,false,false,false,true,false,false,true,false,false] z1 j7) [I a0,I a1,I a2] kk=Kh Bh L a0 a1 a2 (fun a1 a2 b1 a0 p801_5=>EV (O50 L) L 9 z1 (At8 a1 a2 b1 a0 p801_5) (Ass L j7.r.r.r.r.r kk)) (fun(x:Int)=>kk (I x)):=by kernel_rfl
def Hn(L:Nat)(a0:Int)(a1:Int)(a2:Int):Option Int:=W3 (Bq _) L a0 a1 a2 some
theorem e50(L:Nat)(a0:Int)(a1:Int)(a2:Int)(kk:PV→Prop):EW (O50 L) L 9 (RS Tryz.f50) j7 [I a0,I a1,I a2] kk=ob (Hn L a0 a1 a2) (fun(x:Int)=>kk (I x)):=by
 refine Eq.trans (b:=EW (O50 L) L 9 (RS Tryz.f50) (EC.put [false,false,false,false,true,false,false,true,false,false] j7.r.r.r.r.l.r.r.l.r.r j7) [I a0,I a1,I a2] kk) (by kernel_rfl) ?_
 refine Eq.trans (Bcg L a0 a1 a2 kk j7.r.r.r.r.l.r.r.l.r.r) ?_
 simp only [Bbs]
 generalize (fun(x:Int)=>kk (I x))=Q
 simp only [Bik]
 unfold Hn W3
 exact Bhv L a0 a1 a2 (fun a1 a2 b1 a0 p801_5=>Gr (Bq _) L a1 a2 b1 a0 p801_5 some) Q
theorem h50(L:Nat)(a0:Int)(a1:Int)(a2:Int)(r:Int)(h:Hn L a0 a1 a2=some r):Bc Tryz.prog 50 [I a0,I a1,I a2] (I r):=
 hE Cg (s50 L) mixed Tryz.func50 (by kernel_rfl:C4 Tryz.prog inl Tryz.f50=some j7) (er:=fun(x:Int)=>I x) (by kernel_rfl) (e50 L a0 a1 a2) h
noncomputable def c27:EC:=(C4 Tryz.prog inl Tryz.f27).getD .stop
def O27(Ew:Ai→Aa→Option (Int×Int))(L:Nat):Bi:=(Cp 14 (A2 (fun(x:(Int×Bool))=> .tup [I x.1,B x.2]) Cl cS (Kp L)) (Cp 27 (A2 (fun(x:(Int×Int))=> .tup [I x.1,I x.2]) Cl Bm Ew) (Cp 47 (A2 (fun(x:Bool)=>B x) (cI .i64) cS (Ho L)) (Cp 48 (A2 (fun(x:ByteArray)=>S x) Cw cS (Im L)) (Cp 49 (A2 (fun(x:Int)=>I x) (cI .i64) (cI .i64) (Ir L)) (Cp 50 (A3 (fun(x:Int)=>I x) (cI .i64) (cI .i64) (cI .i64) (Hn L)) Kg))))))
theorem s27(Ew:Ai→Aa→Option (Int×Int))(Bdn:∀(y0:Ai) (y1:Aa) (r:(Int×Int)),Ew y0 y1=some r→Bc Tryz.prog 27 [.agg (B8 y0),.agg (Ay y1)] (.tup [I r.1,I r.2]))(L:Nat):Bs Tryz.prog (O27 Ew L):=(Ad (a2 _ (h14 L)) (Ad (a2 _ Bdn) (Ad (a2 _ (h47 L)) (Ad (a2 _ (h48 L)) (Ad (a2 _ (h49 L)) (Ad (a3 _ (h50 L)) (Az Tryz.prog)))))))
def Am6(a1:Aa)(a0:Ai)(A9:Int)(Ae:Int)(Ah:List Int)(Ms:Int):St:=({ fr:= [(0,.any),(1,.any),(2,.loc 2 0),(3,.loc 3 0),(4,I A9),(5,I Ae),(6,.lst true (.t41 Ah)),(11,.any),(12,.any),(13,.any),(15,.lst false (.t38 a1.Kids)),(16,I (a1.Kids.length:Int)),(17,I Ms),(35,.any),(49,.any),(62,.any),(72,.any),(85,.any),(89,.any),(93,.any)],ob:= [(2,(B8 a0)),(3,(Ay a1))],base:=0 } :St)
def Aq2(a1:Aa)(a0:Ai)(K:Ex→St→Prop):Nat×(Int×Int×List Int×Int)→Prop:=fun o=>Cr o.1 [K .ret (Am6 a1 a0 o.2.1 o.2.2.1 o.2.2.2.1 o.2.2.2.2),K (.exit 0) (Am6 a1 a0 o.2.1 o.2.2.1 o.2.2.2.1 o.2.2.2.2)]
def J8{A:Type}(an:An A)(Ew:Ai→Aa→Option (Int×Int))(L:Nat)(a1:Aa)(a0:Ai)(rec:Int→Int→List Int→Int→A)(out:Nat×(Int×Int×List Int×Int)→A)(A9:Int)(Ae:Int)(Ah:List Int)(Ms:Int):A:=
 (an.cn (decide (Ms < (a1.Kids.length:Int)))
 (an.gd ((0:Int)≤Ms)
 (an.gd (Ms < ((a1.Kids.length:Nat):Int))
 (an.bd (Ew a0 (Aa.cp (a1.Kids.getD (Int.toNat Ms) default))) fun r1=>
 (an.cn (r1.2 != 0)
 (an.lf out (0,(0,r1.2,Ah,Ms)))
 (an.gd ((Ah.length+ [r1.1].length)*8≤140737488355328)
 (an.gd (Ah.length+ [r1.1].length≤maxLen)
 (rec A9 Ae (Ah++ [r1.1]) (F9 (Ms+1)))))))))
 (an.lf out (1,(A9,Ae,Ah,Ms))))
def H7(Ew:Ai→Aa→Option (Int×Int))(L:Nat)(a1:Aa)(a0:Ai):Nat→Int→Int→List Int→Int→Option (Nat×(Int×Int×List Int×Int))
 |0,_,_,_,_=>none
 |n+1,A9,Ae,Ah,Ms=>J8 (Bq _) Ew L a1 a0 (H7 Ew L a1 a0 n) some A9 Ae Ah Ms
theorem Bfp(Ew:Ai→Aa→Option (Int×Int))(L:Nat)(a1:Aa)(a0:Ai)(g:Int→Int→List Int→Int→Option (Nat×(Int×Int×List Int×Int)))(Q:Nat×(Int×Int×List Int×Int)→Prop)(A9:Int)(Ae:Int)(Ah:List Int)(Ms:Int):J8 Bh Ew L a1 a0 (fun A9 Ae Ah Ms=>ob (g A9 Ae Ah Ms) Q) Q A9 Ae Ah Ms=ob (J8 (Bq _) Ew L a1 a0 g some A9 Ae Ah Ms) Q:=by
 unfold J8
 dsimp only [Bh,Bq]
 try simp only [y1,y2,y3,y4,y5 Q,y6,y7,y8 Q,y9,z1,z2,z3,z4]
theorem Ben(Ew:Ai→Aa→Option (Int×Int))(L:Nat)(a1:Aa)(a0:Ai)(n:Nat)(A9:Int)(Ae:Int)(Ah:List Int)(Ms:Int)(K:Ex→St→Prop):Bl (EV (O27 Ew L) L 9 c27.r.r.r.r.l.r.r.l.l) [0,1,2,3,4,5,6,11,12,13,15,16,17,35,49,62,72,85,89,93] [2,3] n (Am6 a1 a0 A9 Ae Ah Ms) K=ob (H7 Ew L a1 a0 n A9 Ae Ah Ms) (fun o=>Aq2 a1 a0 K o):=by
 induction n generalizing A9 Ae Ah Ms with
 |zero=>rfl
 |succ n ih=>
  refine Eq.trans (b:=J8 Bh Ew L a1 a0 (fun A9 Ae Ah Ms=>Bl (EV (O27 Ew L) L 9 c27.r.r.r.r.l.r.r.l.l) [0,1,2,3,4,5,6,11,12,13,15,16,17,35,49,62,72,85,89,93] [2,3] n (Am6 a1 a0 A9 Ae Ah Ms) K) (Aq2 a1 a0 K) A9 Ae Ah Ms) (by kernel_rfl) ?_
  simp only [ih]
  exact Bfp Ew L a1 a0 (H7 Ew L a1 a0 n) (Aq2 a1 a0 K) A9 Ae Ah Ms
def A4l(Ew:Ai→Aa→Option (Int×Int))(L:Nat)(kk:PV→Prop):Ex→St→Prop:=(Ca 0 (Dl (EV (O27 Ew L) L 9 c27.r.r.r.r.r) (Dx Tryz.prog (RS Tryz.f27) kk)))
theorem Bpq(Ew:Ai→Aa→Option (Int×Int))(L:Nat)(a1:Aa)(a0:Ai)(kk:PV→Prop)(o1:Nat×(Int×Int×List Int×Int)):Aq2 a1 a0 (A4l Ew L kk) o1=
 (Cr o1.1 [(ob (some (o1.2.1,o1.2.2.1)) (fun(x:(Int×Int))=>kk (.tup [I x.1,I x.2]))),
 (br (a1.Op == 3)
 (ob (Kp L a0 a1.Name) fun r2=>
 (br (!r2.2)
 (ob (some (0,5)) (fun(x:(Int×Int))=>kk (.tup [I x.1,I x.2])))
 (ob (some (r2.1,0)) (fun(x:(Int×Int))=>kk (.tup [I x.1,I x.2])))))
 (br (decide (a1.Op≥22))
 (ob (Im L a0.Site a1.Name) fun r3=>
 (ob (Ho L a1.Op r3) fun r4=>
 (br (!r4)
 (ob (some (0,5)) (fun(x:(Int×Int))=>kk (.tup [I x.1,I x.2])))
 (ob (some (1,0)) (fun(x:(Int×Int))=>kk (.tup [I x.1,I x.2]))))))
 (br ((o1.2.2.2.1.length:Int) == 1)
 (gd ((0:Int)≤0)
 (gd (0 < ((o1.2.2.2.1.length:Nat):Int))
 (ob (Ir L a1.Op (o1.2.2.2.1.getD 0 default)) fun r5=>
 (br (r5 == 0)
 (ob (some (0,10)) (fun(x:(Int×Int))=>kk (.tup [I x.1,I x.2])))
 (ob (some (r5,0)) (fun(x:(Int×Int))=>kk (.tup [I x.1,I x.2])))))))
 (br ((o1.2.2.2.1.length:Int) == 2)
 (gd ((0:Int)≤0)
 (gd (0 < ((o1.2.2.2.1.length:Nat):Int))
 (gd ((0:Int)≤1)
 (gd (1 < ((o1.2.2.2.1.length:Nat):Int))
 (ob (Hn L a1.Op (o1.2.2.2.1.getD 0 default) (o1.2.2.2.1.getD 1 default)) fun r6=>
 (br (r6 == 0)
 (ob (some (0,10)) (fun(x:(Int×Int))=>kk (.tup [I x.1,I x.2])))
 (ob (some (r6,0)) (fun(x:(Int×Int))=>kk (.tup [I x.1,I x.2])))))))))
 (br (a1.Op == 1)
 (ob (some (1,0)) (fun(x:(Int×Int))=>kk (.tup [I x.1,I x.2])))
 (br (a1.Op == 2)
 (ob (some (2,0)) (fun(x:(Int×Int))=>kk (.tup [I x.1,I x.2])))
 (br (a1.Op == 4)
 (ob (some (3,0)) (fun(x:(Int×Int))=>kk (.tup [I x.1,I x.2])))
 (ob (some (0,10)) (fun(x:(Int×Int))=>kk (.tup [I x.1,I x.2]))))))))))]):=by kernel_rfl
def Tq{A:Type}(an:An A)(Ew:Ai→Aa→Option (Int×Int))(L:Nat)(a0:Ai)(a1:Aa)(out:(Int×Int)→A):A:=
 (an.bd (H7 Ew L a1 a0 L 0 0 [] 0) fun o1=>
 (an.sl o1.1 [(an.lf out (o1.2.1,o1.2.2.1)),
 (an.cn (a1.Op == 3)
 (an.bd (Kp L a0 a1.Name) fun r2=>
 (an.cn (!r2.2)
 (an.lf out (0,5))
 (an.lf out (r2.1,0))))
 (an.cn (decide (a1.Op≥22))
 (an.bd (Im L a0.Site a1.Name) fun r3=>
 (an.bd (Ho L a1.Op r3) fun r4=>
 (an.cn (!r4)
 (an.lf out (0,5))
 (an.lf out (1,0)))))
 (an.cn ((o1.2.2.2.1.length:Int) == 1)
 (an.gd ((0:Int)≤0)
 (an.gd (0 < ((o1.2.2.2.1.length:Nat):Int))
 (an.bd (Ir L a1.Op (o1.2.2.2.1.getD 0 default)) fun r5=>
 (an.cn (r5 == 0)
 (an.lf out (0,10))
 (an.lf out (r5,0))))))
 (an.cn ((o1.2.2.2.1.length:Int) == 2)
 (an.gd ((0:Int)≤0)
 (an.gd (0 < ((o1.2.2.2.1.length:Nat):Int))
 (an.gd ((0:Int)≤1)
 (an.gd (1 < ((o1.2.2.2.1.length:Nat):Int))
 (an.bd (Hn L a1.Op (o1.2.2.2.1.getD 0 default) (o1.2.2.2.1.getD 1 default)) fun r6=>
 (an.cn (r6 == 0)
 (an.lf out (0,10))
 (an.lf out (r6,0))))))))
 (an.cn (a1.Op == 1)
 (an.lf out (1,0))
 (an.cn (a1.Op == 2)
 (an.lf out (2,0))
 (an.cn (a1.Op == 4)
 (an.lf out (3,0))
 (an.lf out (0,10)))))))))]))
def Tj(Ew:Ai→Aa→Option (Int×Int))(L:Nat)(a0:Ai)(a1:Aa):Option (Int×Int):=Tq (Bq _) Ew L a0 a1 some
theorem e27(Ew:Ai→Aa→Option (Int×Int))(L:Nat)(a0:Ai)(a1:Aa)(kk:PV→Prop):EW (O27 Ew L) L 9 (RS Tryz.f27) c27 [.agg (B8 a0),.agg (Ay a1)] kk=ob (Tj Ew L a0 a1) (fun(x:(Int×Int))=>kk (.tup [I x.1,I x.2])):=by
 refine Eq.trans (b:=Tq Bh Ew L a0 a1 (fun(x:(Int×Int))=>kk (.tup [I x.1,I x.2]))) ?_ ?_
 ·refine Eq.trans (b:=(Bl (EV (O27 Ew L) L 9 c27.r.r.r.r.l.r.r.l.l) [0,1,2,3,4,5,6,11,12,13,15,16,17,35,49,62,72,85,89,93] [2,3] L (Am6 a1 a0 0 0 [] 0) (A4l Ew L kk))) (by kernel_rfl) ?_
  unfold Tq
  dsimp only [Bh]
  simp only [Ben,Bpq]
 generalize (fun(x:(Int×Int))=>kk (.tup [I x.1,I x.2]))=Q
 unfold Tj Tq
 dsimp only [Bh,Bq]
 try simp only [y1,y2,y3,y4,y5 Q,y6,y7,y8 Q,y9,z1,z2,z3,z4]
theorem b27(Ew:Ai→Aa→Option (Int×Int))(Bdn:∀(y0:Ai) (y1:Aa) (r:(Int×Int)),Ew y0 y1=some r→Bc Tryz.prog 27 [.agg (B8 y0),.agg (Ay y1)] (.tup [I r.1,I r.2]))(L:Nat)(a0:Ai)(a1:Aa)(r:(Int×Int))(h:Tj Ew L a0 a1=some r):Bc Tryz.prog 27 [.agg (B8 a0),.agg (Ay a1)] (.tup [I r.1,I r.2]):=
 hE Cg (s27 Ew Bdn L) mixed Tryz.func27 (by kernel_rfl:C4 Tryz.prog inl Tryz.f27=some c27) (er:=fun(x:(Int×Int))=> .tup [I x.1,I x.2]) (by kernel_rfl) (e27 Ew L a0 a1) h
def Hj:Nat→Ai→Aa→Option (Int×Int)
 |0,_,_=>none
 |L+1,a0,a1=>Tj (Hj L) L a0 a1
theorem Bc7:∀L,(∀(y0:Ai) (y1:Aa) (r:(Int×Int)),Hj L y0 y1=some r→Bc Tryz.prog 27 [.agg (B8 y0),.agg (Ay y1)] (.tup [I r.1,I r.2])):=by
 intro L
 induction L with
 |zero=>exact fun _ _ r h=>(by cases h)
 |succ L ih=>
  have i27:=ih
  exact fun y0 y1 r h=>b27 (Hj L) i27 L y0 y1 r h
theorem h27(L:Nat):∀(y0:Ai) (y1:Aa) (r:(Int×Int)),Hj L y0 y1=some r→Bc Tryz.prog 27 [.agg (B8 y0),.agg (Ay y1)] (.tup [I r.1,I r.2]):=Bc7 L
noncomputable def c12:EC:=(C4 Tryz.prog inl Tryz.f12).getD .stop
def O12(L:Nat):Bi:=(Cp 26 (A1 (fun(x:Int)=>I x) Bm (Gw L)) (Cp 27 (A2 (fun(x:(Int×Int))=> .tup [I x.1,I x.2]) Cl Bm (Hj L)) Kg))
theorem s12(L:Nat):Bs Tryz.prog (O12 L):=(Ad (a1 _ (h26 L)) (Ad (a2 _ (h27 L)) (Az Tryz.prog)))
def V0{A:Type}(an:An A)(L:Nat)(a0:Ai)(a1:Aa)(out:(Int×Int)→A):A:=
 (an.bd (Gw L (Aa.cp a1)) fun r1=>
 (an.cn (r1 != 0)
 (an.lf out (0,r1))
 (an.bd (Hj L a0 (Aa.cp a1)) fun r2=>
 (an.lf out (r2.1,r2.2)))))
def Ko(L:Nat)(a0:Ai)(a1:Aa):Option (Int×Int):=V0 (Bq _) L a0 a1 some
theorem e12(L:Nat)(a0:Ai)(a1:Aa)(kk:PV→Prop):EW (O12 L) L 9 (RS Tryz.f12) c12 [.agg (B8 a0),.agg (Ay a1)] kk=ob (Ko L a0 a1) (fun(x:(Int×Int))=>kk (.tup [I x.1,I x.2])):=by
 refine Eq.trans (b:=V0 Bh L a0 a1 (fun(x:(Int×Int))=>kk (.tup [I x.1,I x.2]))) (by kernel_rfl) ?_
 generalize (fun(x:(Int×Int))=>kk (.tup [I x.1,I x.2]))=Q
 unfold Ko V0
 dsimp only [Bh,Bq]
 try simp only [y1,y2,y3,y4,y5 Q,y6,y7,y8 Q,y9,z1,z2,z3,z4]
theorem h12(L:Nat)(a0:Ai)(a1:Aa)(r:(Int×Int))(h:Ko L a0 a1=some r):Bc Tryz.prog 12 [.agg (B8 a0),.agg (Ay a1)] (.tup [I r.1,I r.2]):=
 hE Cg (s12 L) mixed Tryz.func12 (by kernel_rfl:C4 Tryz.prog inl Tryz.f12=some c12) (er:=fun(x:(Int×Int))=> .tup [I x.1,I x.2]) (by kernel_rfl) (e12 L a0 a1) h
end Go.Proofs.YtcbandfdmbkokaaGreat.Ev
