import Derived.Test.YtcbandfdmbkokaaGreatG2
namespace Go.Proofs.YtcbandfdmbkokaaGreat.Ev
open Go
set_option maxRecDepth 100000
set_option linter.unusedVariables false
set_option linter.unusedSimpArgs false
set_option linter.unnecessarySimpa false
noncomputable def c91:EC:=(C4 Tryz.prog inl Tryz.f91).getD .stop
def O91(L:Nat):Bi:=(Cp 12 (A2 (fun(x:(Int×Int))=> .tup [I x.1,I x.2]) Cl Bm (Ko L)) Kg)
theorem s91(L:Nat):Bs Tryz.prog (O91 L):=(Ad (a2 _ (h12 L)) (Az Tryz.prog))
def Ant(r1:(Int×Int))(a2:(List Int))(a1:Aa)(A9:Int)(Ba:Int):St:=({ fr:= [(0,.any),(1,.any),(2,.any),(4,.any),(6,I A9),(7,I r1.1),(8,.any),(23,.lst false (.t41 a2)),(24,I (a2.length:Int)),(25,I Ba)],ob:= [(4,(Ay a1))],base:=0 } :St)
def Arw(r1:(Int×Int))(a2:(List Int))(a1:Aa)(K:Ex→St→Prop):Nat×(Int×Int)→Prop:=fun o=>Cr o.1 [K .ret (Ant r1 a2 a1 o.2.1 o.2.2),K (.exit 0) (Ant r1 a2 a1 o.2.1 o.2.2)]
def D2{A:Type}(an:An A)(L:Nat)(r1:(Int×Int))(a2:(List Int))(a1:Aa)(rec:Int→Int→A)(out:Nat×(Int×Int)→A)(A9:Int)(Ba:Int):A:=
 (an.cn (decide (Ba < (a2.length:Int)))
 (an.gd ((0:Int)≤Ba)
 (an.gd (Ba < ((a2.length:Nat):Int))
 (an.cn (r1.1 == (a2.getD (Int.toNat Ba) default))
 (an.lf out (0,(0,Ba)))
 (rec A9 (F9 (Ba+1))))))
 (an.lf out (1,(A9,Ba))))
def Dj(L:Nat)(r1:(Int×Int))(a2:(List Int))(a1:Aa):Nat→Int→Int→Option (Nat×(Int×Int))
 |0,_,_=>none
 |n+1,A9,Ba=>D2 (Bq _) L r1 a2 a1 (Dj L r1 a2 a1 n) some A9 Ba
theorem Bgj(L:Nat)(r1:(Int×Int))(a2:(List Int))(a1:Aa)(g:Int→Int→Option (Nat×(Int×Int)))(Q:Nat×(Int×Int)→Prop)(A9:Int)(Ba:Int):D2 Bh L r1 a2 a1 (fun A9 Ba=>ob (g A9 Ba) Q) Q A9 Ba=ob (D2 (Bq _) L r1 a2 a1 g some A9 Ba) Q:=by
 unfold D2
 dsimp only [Bh,Bq]
 try simp only [y1,y2,y3,y4,y5 Q,y6,y7,y8 Q,y9,z1,z2,z3,z4]
theorem Bfh(L:Nat)(r1:(Int×Int))(a2:(List Int))(a1:Aa)(n:Nat)(A9:Int)(Ba:Int)(K:Ex→St→Prop):Bl (EV (O91 L) L 9 c91.r.r.r.r.r.r.l.r.r.l.l) [0,1,2,4,6,7,8,23,24,25] [4] n (Ant r1 a2 a1 A9 Ba) K=ob (Dj L r1 a2 a1 n A9 Ba) (fun o=>Arw r1 a2 a1 K o):=by
 induction n generalizing A9 Ba with
 |zero=>rfl
 |succ n ih=>
  refine Eq.trans (b:=D2 Bh L r1 a2 a1 (fun A9 Ba=>Bl (EV (O91 L) L 9 c91.r.r.r.r.r.r.l.r.r.l.l) [0,1,2,4,6,7,8,23,24,25] [4] n (Ant r1 a2 a1 A9 Ba) K) (Arw r1 a2 a1 K) A9 Ba) (by kernel_rfl) ?_
  simp only [ih]
  exact Bgj L r1 a2 a1 (Dj L r1 a2 a1 n) (Arw r1 a2 a1 K) A9 Ba
def A5j(L:Nat)(kk:PV→Prop):Ex→St→Prop:=(Ca 0 (Dl (EV (O91 L) L 9 c91.r.r.r.r.r.r.r) (Dx Tryz.prog (RS Tryz.f91) kk)))
theorem Bqo(L:Nat)(r1:(Int×Int))(a2:(List Int))(a1:Aa)(kk:PV→Prop)(o2:Nat×(Int×Int)):Arw r1 a2 a1 (A5j L kk) o2=
 (Cr o2.1 [(ob (some o2.2.1) (fun(x:Int)=>kk (I x))),
 (ob (some 10) (fun(x:Int)=>kk (I x)))]):=by kernel_rfl
def Iu{A:Type}(an:An A)(L:Nat)(a0:Ag)(a1:Aa)(a2:(List Int))(out:Int→A):A:=
 (an.bd (Ko L a0.u_env (Aa.cp a1)) fun r1=>
 (an.cn (r1.2 != 0)
 (an.lf out r1.2)
 (an.bd (Dj L r1 a2 a1 L 0 0) fun o2=>
 (an.sl o2.1 [(an.lf out o2.2.1),
 (an.lf out 10)]))))
def Br(L:Nat)(a0:Ag)(a1:Aa)(a2:(List Int)):Option Int:=Iu (Bq _) L a0 a1 a2 some
theorem e91(L:Nat)(a0:Ag)(a1:Aa)(a2:(List Int))(kk:PV→Prop):EW (O91 L) L 9 (RS Tryz.f91) c91 [.ref (Bw a0),.agg (Ay a1),.lst false (.t41 a2)] kk=ob (Br L a0 a1 a2) (fun(x:Int)=>kk (I x)):=by
 refine Eq.trans (b:=Iu Bh L a0 a1 a2 (fun(x:Int)=>kk (I x))) ?_ ?_
 ·refine Eq.trans (b:=(ob (Ko L a0.u_env (Aa.cp a1)) fun r1=>
 (br (r1.2 != 0)
 (ob (some r1.2) (fun(x:Int)=>kk (I x)))
 (Bl (EV (O91 L) L 9 c91.r.r.r.r.r.r.l.r.r.l.l) [0,1,2,4,6,7,8,23,24,25] [4] L (Ant r1 a2 a1 0 0) (A5j L kk))))) (by kernel_rfl) ?_
  unfold Iu
  dsimp only [Bh]
  simp only [Bfh,Bqo]
 generalize (fun(x:Int)=>kk (I x))=Q
 unfold Br Iu
 dsimp only [Bh,Bq]
 try simp only [y1,y2,y3,y4,y5 Q,y6,y7,y8 Q,y9,z1,z2,z3,z4]
theorem h91(L:Nat)(a0:Ag)(a1:Aa)(a2:(List Int))(r:Int)(h:Br L a0 a1 a2=some r):Bc Tryz.prog 91 [.ref (Bw a0),.agg (Ay a1),.lst false (.t41 a2)] (I r):=
 hE Cg (s91 L) mixed Tryz.func91 (by kernel_rfl:C4 Tryz.prog inl Tryz.f91=some c91) (er:=fun(x:Int)=>I x) (by kernel_rfl) (e91 L a0 a1 a2) h
noncomputable def c88:EC:=(C4 Tryz.prog inl Tryz.f88).getD .stop
def O88(L:Nat):Bi:=(Cp 29 (A2 (fun(x:(Int×Bool))=> .tup [I x.1,B x.2]) Acj cS (Db L)) (Cp 91 (A3 (fun(x:Int)=>I x) B6 Bm Ar7 (Br L)) Kg))
theorem s88(L:Nat):Bs Tryz.prog (O88 L):=(Ad (a2 _ (h29 L)) (Ad (a3 _ (h91 L)) (Az Tryz.prog)))
def Ans(a0:Ag)(r1:(Int×Bool))(a1:Ab)(B5:Int)(R6:Int):St:=({ fr:= [(0,.ref (Bw a0)),(1,.any),(3,.loc 3 0),(4,I B5),(5,I r1.1),(6,.any),(27,.lst false (.t72 a0.u_env.Site.Vars)),(28,I (a0.u_env.Site.Vars.length:Int)),(29,I R6)],ob:= [(3,(B2 a1))],base:=0 } :St)
def Arv(a0:Ag)(r1:(Int×Bool))(a1:Ab)(K:Ex→St→Prop):Nat×(Int×Int)→Prop:=fun o=>Cr o.1 [K .ret (Ans a0 r1 a1 o.2.1 o.2.2),K (.exit 0) (Ans a0 r1 a1 o.2.1 o.2.2)]
def En{A:Type}(an:An A)(L:Nat)(a0:Ag)(r1:(Int×Bool))(a1:Ab)(rec:Int→Int→A)(out:Nat×(Int×Int)→A)(B5:Int)(R6:Int):A:=
 (an.cn (decide (R6 < (a0.u_env.Site.Vars.length:Int)))
 (an.gd ((0:Int)≤R6)
 (an.gd (R6 < ((a0.u_env.Site.Vars.length:Nat):Int))
 (an.cn (((a0.u_env.Site.Vars.getD (Int.toNat R6) default).Name).toList == a1.Name.toList)
 (an.bd (Br L a0 (Aa.cp a1.E) [(a0.u_env.Site.Vars.getD (Int.toNat R6) default).Type_]) fun r2=>
 (an.lf out (0,(r2,R6))))
 (rec B5 (F9 (R6+1))))))
 (an.lf out (1,(B5,R6))))
def Dw(L:Nat)(a0:Ag)(r1:(Int×Bool))(a1:Ab):Nat→Int→Int→Option (Nat×(Int×Int))
 |0,_,_=>none
 |n+1,B5,R6=>En (Bq _) L a0 r1 a1 (Dw L a0 r1 a1 n) some B5 R6
theorem Bgi(L:Nat)(a0:Ag)(r1:(Int×Bool))(a1:Ab)(g:Int→Int→Option (Nat×(Int×Int)))(Q:Nat×(Int×Int)→Prop)(B5:Int)(R6:Int):En Bh L a0 r1 a1 (fun B5 R6=>ob (g B5 R6) Q) Q B5 R6=ob (En (Bq _) L a0 r1 a1 g some B5 R6) Q:=by
 unfold En
 dsimp only [Bh,Bq]
 try simp only [y1,y2,y3,y4,y5 Q,y6,y7,y8 Q,y9,z1,z2,z3,z4]
theorem Bfg(L:Nat)(a0:Ag)(r1:(Int×Bool))(a1:Ab)(n:Nat)(B5:Int)(R6:Int)(K:Ex→St→Prop):Bl (EV (O88 L) L 9 c88.r.r.r.r.l.r.r.l.l.r.r.l.l) [0,1,3,4,5,6,27,28,29] [3] n (Ans a0 r1 a1 B5 R6) K=ob (Dw L a0 r1 a1 n B5 R6) (fun o=>Arv a0 r1 a1 K o):=by
 induction n generalizing B5 R6 with
 |zero=>rfl
 |succ n ih=>
  refine Eq.trans (b:=En Bh L a0 r1 a1 (fun B5 R6=>Bl (EV (O88 L) L 9 c88.r.r.r.r.l.r.r.l.l.r.r.l.l) [0,1,3,4,5,6,27,28,29] [3] n (Ans a0 r1 a1 B5 R6) K) (Arv a0 r1 a1 K) B5 R6) (by kernel_rfl) ?_
  simp only [ih]
  exact Bgi L a0 r1 a1 (Dw L a0 r1 a1 n) (Arv a0 r1 a1 K) B5 R6
def A5i(L:Nat)(kk:PV→Prop):Ex→St→Prop:=(Ca 0 (Dl (EV (O88 L) L 9 c88.r.r.r.r.l.r.r.l.r) (Dl (EV (O88 L) L 9 c88.r.r.r.r.r) (Dx Tryz.prog (RS Tryz.f88) kk))))
theorem Bqn(L:Nat)(a0:Ag)(r1:(Int×Bool))(a1:Ab)(kk:PV→Prop)(o3:Nat×(Int×Int)):Arv a0 r1 a1 (A5i L kk) o3=
 (Cr o3.1 [(ob (some o3.2.1) (fun(x:Int)=>kk (I x))),
 (ob (some 5) (fun(x:Int)=>kk (I x)))]):=by kernel_rfl
def K3{A:Type}(an:An A)(L:Nat)(a0:Ag)(a1:Ab)(out:Int→A):A:=
 (an.bd (Db L a0.u_env.Locals a1.Name) fun r1=>
 (an.cn (!r1.2)
 (an.bd (Dw L a0 r1 a1 L 0 0) fun o2=>
 (an.sl o2.1 [(an.lf out o2.2.1),
 (an.lf out 5)]))
 (an.bd (Br L a0 (Aa.cp a1.E) [r1.1]) fun r3=>
 (an.lf out r3))))
def E4(L:Nat)(a0:Ag)(a1:Ab):Option Int:=K3 (Bq _) L a0 a1 some
theorem e88(L:Nat)(a0:Ag)(a1:Ab)(kk:PV→Prop):EW (O88 L) L 9 (RS Tryz.f88) c88 [.ref (Bw a0),.agg (B2 a1)] kk=ob (E4 L a0 a1) (fun(x:Int)=>kk (I x)):=by
 refine Eq.trans (b:=K3 Bh L a0 a1 (fun(x:Int)=>kk (I x))) ?_ ?_
 ·refine Eq.trans (b:=(ob (Db L a0.u_env.Locals a1.Name) fun r1=>
 (br (!r1.2)
 (Bl (EV (O88 L) L 9 c88.r.r.r.r.l.r.r.l.l.r.r.l.l) [0,1,3,4,5,6,27,28,29] [3] L (Ans a0 r1 a1 0 0) (A5i L kk))
 (ob (Br L a0 (Aa.cp a1.E) [r1.1]) fun r2=>
 (ob (some r2) (fun(x:Int)=>kk (I x))))))) (by kernel_rfl) ?_
  unfold K3
  dsimp only [Bh]
  simp only [Bfg,Bqn]
 generalize (fun(x:Int)=>kk (I x))=Q
 unfold E4 K3
 dsimp only [Bh,Bq]
 try simp only [y1,y2,y3,y4,y5 Q,y6,y7,y8 Q,y9,z1,z2,z3,z4]
theorem h88(L:Nat)(a0:Ag)(a1:Ab)(r:Int)(h:E4 L a0 a1=some r):Bc Tryz.prog 88 [.ref (Bw a0),.agg (B2 a1)] (I r):=
 hE Cg (s88 L) mixed Tryz.func88 (by kernel_rfl:C4 Tryz.prog inl Tryz.f88=some c88) (er:=fun(x:Int)=>I x) (by kernel_rfl) (e88 L a0 a1) h
noncomputable def c90:EC:=(C4 Tryz.prog inl Tryz.f90).getD .stop
def O90(L:Nat):Bi:=(Cp 48 (A2 (fun(x:ByteArray)=>S x) Cw cS (Im L)) Kg)
theorem s90(L:Nat):Bs Tryz.prog (O90 L):=(Ad (a2 _ (h48 L)) (Az Tryz.prog))
def Qb{A:Type}(an:An A)(L:Nat)(a0:Ag)(a1:ByteArray)(a2:ByteArray)(out:Bool→A):A:=
 (an.bd (Im L a0.u_env.Site a1) fun r1=>
 (an.lf out (r1.toList == a2.toList)))
def Cu(L:Nat)(a0:Ag)(a1:ByteArray)(a2:ByteArray):Option Bool:=Qb (Bq _) L a0 a1 a2 some
theorem e90(L:Nat)(a0:Ag)(a1:ByteArray)(a2:ByteArray)(kk:PV→Prop):EW (O90 L) L 9 (RS Tryz.f90) c90 [.ref (Bw a0),S a1,S a2] kk=ob (Cu L a0 a1 a2) (fun(x:Bool)=>kk (B x)):=by
 refine Eq.trans (b:=Qb Bh L a0 a1 a2 (fun(x:Bool)=>kk (B x))) (by kernel_rfl) ?_
 generalize (fun(x:Bool)=>kk (B x))=Q
 unfold Cu Qb
 dsimp only [Bh,Bq]
 try simp only [y1,y2,y3,y4,y5 Q,y6,y7,y8 Q,y9,z1,z2,z3,z4]
theorem h90(L:Nat)(a0:Ag)(a1:ByteArray)(a2:ByteArray)(r:Bool)(h:Cu L a0 a1 a2=some r):Bc Tryz.prog 90 [.ref (Bw a0),S a1,S a2] (B r):=
 hE Cg (s90 L) mixed Tryz.func90 (by kernel_rfl:C4 Tryz.prog inl Tryz.f90=some c90) (er:=fun(x:Bool)=>B x) (by kernel_rfl) (e90 L a0 a1 a2) h
noncomputable def A1r:EC:=(C4 Tryz.prog inl Tryz.f179).getD .stop
def A09(L:Nat):Bi:=(Cp 29 (A2 (fun(x:(Int×Bool))=> .tup [I x.1,B x.2]) Acj cS (Db L)) Kg)
theorem Bt5(L:Nat):Bs Tryz.prog (A09 L):=(Ad (a2 _ (h29 L)) (Az Tryz.prog))
def Aft(r1:(Int×Bool))(a2:(List Int))(A9:Int)(Ba:Int):St:=({ fr:= [(0,.any),(1,.any),(2,.any),(6,I A9),(7,I r1.1),(8,.any),(21,.lst false (.t41 a2)),(22,I (a2.length:Int)),(23,I Ba)],ob:= [],base:=0 } :St)
def Aj8(r1:(Int×Bool))(a2:(List Int))(K:Ex→St→Prop):Nat×(Int×Int)→Prop:=fun o=>Cr o.1 [K .ret (Aft r1 a2 o.2.1 o.2.2),K (.exit 0) (Aft r1 a2 o.2.1 o.2.2)]
def Dt{A:Type}(an:An A)(L:Nat)(r1:(Int×Bool))(a2:(List Int))(rec:Int→Int→A)(out:Nat×(Int×Int)→A)(A9:Int)(Ba:Int):A:=
 (an.cn (decide (Ba < (a2.length:Int)))
 (an.gd ((0:Int)≤Ba)
 (an.gd (Ba < ((a2.length:Nat):Int))
 (an.cn (r1.1 == (a2.getD (Int.toNat Ba) default))
 (an.lf out (0,(0,Ba)))
 (rec A9 (F9 (Ba+1))))))
 (an.lf out (1,(A9,Ba))))
def Dd(L:Nat)(r1:(Int×Bool))(a2:(List Int)):Nat→Int→Int→Option (Nat×(Int×Int))
 |0,_,_=>none
 |n+1,A9,Ba=>Dt (Bq _) L r1 a2 (Dd L r1 a2 n) some A9 Ba
theorem A9h(L:Nat)(r1:(Int×Bool))(a2:(List Int))(g:Int→Int→Option (Nat×(Int×Int)))(Q:Nat×(Int×Int)→Prop)(A9:Int)(Ba:Int):Dt Bh L r1 a2 (fun A9 Ba=>ob (g A9 Ba) Q) Q A9 Ba=ob (Dt (Bq _) L r1 a2 g some A9 Ba) Q:=by
 unfold Dt
 dsimp only [Bh,Bq]
 try simp only [y1,y2,y3,y4,y5 Q,y6,y7,y8 Q,y9,z1,z2,z3,z4]
theorem A8y(L:Nat)(r1:(Int×Bool))(a2:(List Int))(n:Nat)(A9:Int)(Ba:Int)(K:Ex→St→Prop):Bl (EV (A09 L) L 9 A1r.r.r.r.r.l.r.r.l.l) [0,1,2,6,7,8,21,22,23] [] n (Aft r1 a2 A9 Ba) K=ob (Dd L r1 a2 n A9 Ba) (fun o=>Aj8 r1 a2 K o):=by
 induction n generalizing A9 Ba with
 |zero=>rfl
 |succ n ih=>
  refine Eq.trans (b:=Dt Bh L r1 a2 (fun A9 Ba=>Bl (EV (A09 L) L 9 A1r.r.r.r.r.l.r.r.l.l) [0,1,2,6,7,8,21,22,23] [] n (Aft r1 a2 A9 Ba) K) (Aj8 r1 a2 K) A9 Ba) (by kernel_rfl) ?_
  simp only [ih]
  exact A9h L r1 a2 (Dd L r1 a2 n) (Aj8 r1 a2 K) A9 Ba
def A0b(L:Nat)(kk:PV→Prop):Ex→St→Prop:=(Ca 0 (Dl (EV (A09 L) L 9 A1r.r.r.r.r.r) (Dx Tryz.prog (RS Tryz.f179) kk)))
theorem Bg3(L:Nat)(r1:(Int×Bool))(a2:(List Int))(kk:PV→Prop)(o2:Nat×(Int×Int)):Aj8 r1 a2 (A0b L kk) o2=
 (Cr o2.1 [(ob (some o2.2.1) (fun(x:Int)=>kk (I x))),
 (ob (some 10) (fun(x:Int)=>kk (I x)))]):=by kernel_rfl
def Hw{A:Type}(an:An A)(L:Nat)(a0:Ag)(a1:ByteArray)(a2:(List Int))(out:Int→A):A:=
 (an.bd (Db L a0.u_env.Locals a1) fun r1=>
 (an.bd (Dd L r1 a2 L 0 0) fun o2=>
 (an.sl o2.1 [(an.lf out o2.2.1),
 (an.lf out 10)])))
def Em(L:Nat)(a0:Ag)(a1:ByteArray)(a2:(List Int)):Option Int:=Hw (Bq _) L a0 a1 a2 some
theorem Br5(L:Nat)(a0:Ag)(a1:ByteArray)(a2:(List Int))(kk:PV→Prop):EW (A09 L) L 9 (RS Tryz.f179) A1r [.ref (Bw a0),S a1,.lst false (.t41 a2)] kk=ob (Em L a0 a1 a2) (fun(x:Int)=>kk (I x)):=by
 refine Eq.trans (b:=Hw Bh L a0 a1 a2 (fun(x:Int)=>kk (I x))) ?_ ?_
 ·refine Eq.trans (b:=(ob (Db L a0.u_env.Locals a1) fun r1=>
 (Bl (EV (A09 L) L 9 A1r.r.r.r.r.l.r.r.l.l) [0,1,2,6,7,8,21,22,23] [] L (Aft r1 a2 0 0) (A0b L kk)))) (by kernel_rfl) ?_
  unfold Hw
  dsimp only [Bh]
  simp only [A8y,Bg3]
 generalize (fun(x:Int)=>kk (I x))=Q
 unfold Em Hw
 dsimp only [Bh,Bq]
 try simp only [y1,y2,y3,y4,y5 Q,y6,y7,y8 Q,y9,z1,z2,z3,z4]
theorem Bnc(L:Nat)(a0:Ag)(a1:ByteArray)(a2:(List Int))(r:Int)(h:Em L a0 a1 a2=some r):Bc Tryz.prog 179 [.ref (Bw a0),S a1,.lst false (.t41 a2)] (I r):=
 hE Cg (Bt5 L) mixed Tryz.func179 (by kernel_rfl:C4 Tryz.prog inl Tryz.f179=some A1r) (er:=fun(x:Int)=>I x) (by kernel_rfl) (Br5 L a0 a1 a2) h
noncomputable def c89:EC:=(C4 Tryz.prog inl Tryz.f89).getD .stop
def O89(L:Nat):Bi:=(Cp 29 (A2 (fun(x:(Int×Bool))=> .tup [I x.1,B x.2]) Acj cS (Db L)) (Cp 179 (A3 (fun(x:Int)=>I x) B6 cS Ar7 (Em L)) Kg))
theorem s89(L:Nat):Bs Tryz.prog (O89 L):=(Ad (a2 _ (h29 L)) (Ad (a3 _ (Bnc L)) (Az Tryz.prog)))
def Oe{A:Type}(an:An A)(L:Nat)(a0:Ag)(a1:ByteArray)(a2:Bool)(a3:(List Int))(out:Int→A):A:=
 (an.bd (Db L a0.u_env.Locals a1) fun r1=>
 (an.jp (bif (!r1.2) then true
 else (!a2)) (fun j=>(an.cn (!r1.2)
 (an.ap j true)
 (an.ap j (!a2)))) (fun b2=>
 (an.cn b2
 (an.lf out 5)
 (an.bd (Em L a0 a1 a3) fun r3=>
 (an.lf out r3))))))
def Dh(L:Nat)(a0:Ag)(a1:ByteArray)(a2:Bool)(a3:(List Int)):Option Int:=Oe (Bq _) L a0 a1 a2 a3 some
theorem e89(L:Nat)(a0:Ag)(a1:ByteArray)(a2:Bool)(a3:(List Int))(kk:PV→Prop):EW (O89 L) L 9 (RS Tryz.f89) c89 [.ref (Bw a0),S a1,B a2,.lst false (.t41 a3)] kk=ob (Dh L a0 a1 a2 a3) (fun(x:Int)=>kk (I x)):=by
 refine Eq.trans (b:=Oe Bh L a0 a1 a2 a3 (fun(x:Int)=>kk (I x))) (by kernel_rfl) ?_
 generalize (fun(x:Int)=>kk (I x))=Q
 unfold Dh Oe
 dsimp only [Bh,Bq]
 try simp only [y1,y2,y3,y4,y5 Q,y6,y7,y8 Q,y9,z1,z2,z3,z4]
theorem h89(L:Nat)(a0:Ag)(a1:ByteArray)(a2:Bool)(a3:(List Int))(r:Int)(h:Dh L a0 a1 a2 a3=some r):Bc Tryz.prog 89 [.ref (Bw a0),S a1,B a2,.lst false (.t41 a3)] (I r):=
 hE Cg (s89 L) mixed Tryz.func89 (by kernel_rfl:C4 Tryz.prog inl Tryz.f89=some c89) (er:=fun(x:Int)=>I x) (by kernel_rfl) (e89 L a0 a1 a2 a3) h
noncomputable def c92:EC:=(C4 Tryz.prog inl Tryz.f92).getD .stop
def O92(L:Nat):Bi:=(Cp 90 (A3 (fun(x:Bool)=>B x) B6 cS cS (Cu L)) (Cp 91 (A3 (fun(x:Int)=>I x) B6 Bm Ar7 (Br L)) Kg))
theorem s92(L:Nat):Bs Tryz.prog (O92 L):=(Ad (a3 _ (h90 L)) (Ad (a3 _ (h91 L)) (Az Tryz.prog)))
def Anu(a0:Ag)(a3:(List Aa))(a1:Ab)(B5:Int)(Cx:Int):St:=({ fr:= [(0,.ref (Bw a0)),(1,.any),(2,.any),(3,.any),(5,.any),(8,I B5),(18,.lst false (.t38 a3)),(19,I (a3.length:Int)),(20,I Cx)],ob:= [(5,(B2 a1))],base:=0 } :St)
def Arx(a0:Ag)(a3:(List Aa))(a1:Ab)(K:Ex→St→Prop):Nat×(Int×Int)→Prop:=fun o=>Cr o.1 [K .ret (Anu a0 a3 a1 o.2.1 o.2.2),K (.exit 0) (Anu a0 a3 a1 o.2.1 o.2.2)]
def D1{A:Type}(an:An A)(L:Nat)(a0:Ag)(a3:(List Aa))(a1:Ab)(rec:Int→Int→A)(out:Nat×(Int×Int)→A)(B5:Int)(Cx:Int):A:=
 (an.cn (decide (Cx < (a3.length:Int)))
 (an.gd ((0:Int)≤Cx)
 (an.gd (Cx < ((a3.length:Nat):Int))
 (an.bd (Br L a0 (Aa.cp (a3.getD (Int.toNat Cx) default)) [1]) fun r2=>
 (an.cn (r2 != 0)
 (an.lf out (0,(r2,Cx)))
 (rec B5 (F9 (Cx+1)))))))
 (an.lf out (1,(B5,Cx))))
def Di(L:Nat)(a0:Ag)(a3:(List Aa))(a1:Ab):Nat→Int→Int→Option (Nat×(Int×Int))
 |0,_,_=>none
 |n+1,B5,Cx=>D1 (Bq _) L a0 a3 a1 (Di L a0 a3 a1 n) some B5 Cx
theorem Bgk(L:Nat)(a0:Ag)(a3:(List Aa))(a1:Ab)(g:Int→Int→Option (Nat×(Int×Int)))(Q:Nat×(Int×Int)→Prop)(B5:Int)(Cx:Int):D1 Bh L a0 a3 a1 (fun B5 Cx=>ob (g B5 Cx) Q) Q B5 Cx=ob (D1 (Bq _) L a0 a3 a1 g some B5 Cx) Q:=by
 unfold D1
 dsimp only [Bh,Bq]
 try simp only [y1,y2,y3,y4,y5 Q,y6,y7,y8 Q,y9,z1,z2,z3,z4]
theorem Bfi(L:Nat)(a0:Ag)(a3:(List Aa))(a1:Ab)(n:Nat)(B5:Int)(Cx:Int)(K:Ex→St→Prop):Bl (EV (O92 L) L 9 c92.r.r.r.r.l.r.r.l.l) [0,1,2,3,5,8,18,19,20] [5] n (Anu a0 a3 a1 B5 Cx) K=ob (Di L a0 a3 a1 n B5 Cx) (fun o=>Arx a0 a3 a1 K o):=by
 induction n generalizing B5 Cx with
 |zero=>rfl
 |succ n ih=>
  refine Eq.trans (b:=D1 Bh L a0 a3 a1 (fun B5 Cx=>Bl (EV (O92 L) L 9 c92.r.r.r.r.l.r.r.l.l) [0,1,2,3,5,8,18,19,20] [5] n (Anu a0 a3 a1 B5 Cx) K) (Arx a0 a3 a1 K) B5 Cx) (by kernel_rfl) ?_
  simp only [ih]
  exact Bgk L a0 a3 a1 (Di L a0 a3 a1 n) (Arx a0 a3 a1 K) B5 Cx
def A5k(L:Nat)(kk:PV→Prop):Ex→St→Prop:=(Ca 0 (Dl (EV (O92 L) L 9 c92.r.r.r.r.r) (Dx Tryz.prog (RS Tryz.f92) kk)))
theorem Bqp(L:Nat)(a0:Ag)(a3:(List Aa))(a1:Ab)(kk:PV→Prop)(o2:Nat×(Int×Int)):Arx a0 a3 a1 (A5k L kk) o2=
 (Cr o2.1 [(ob (some o2.2.1) (fun(x:Int)=>kk (I x))),
 (ob (some 0) (fun(x:Int)=>kk (I x)))]):=by kernel_rfl
def It{A:Type}(an:An A)(L:Nat)(a0:Ag)(a1:Ab)(a2:ByteArray)(a3:(List Aa))(out:Int→A):A:=
 (an.bd (Cu L a0 a1.Name a2) fun r1=>
 (an.cn (!r1)
 (an.lf out 5)
 (an.bd (Di L a0 a3 a1 L 0 0) fun o2=>
 (an.sl o2.1 [(an.lf out o2.2.1),
 (an.lf out 0)]))))
def B9(L:Nat)(a0:Ag)(a1:Ab)(a2:ByteArray)(a3:(List Aa)):Option Int:=It (Bq _) L a0 a1 a2 a3 some
theorem e92(L:Nat)(a0:Ag)(a1:Ab)(a2:ByteArray)(a3:(List Aa))(kk:PV→Prop):EW (O92 L) L 9 (RS Tryz.f92) c92 [.ref (Bw a0),.agg (B2 a1),S a2,.lst false (.t38 a3)] kk=ob (B9 L a0 a1 a2 a3) (fun(x:Int)=>kk (I x)):=by
 refine Eq.trans (b:=It Bh L a0 a1 a2 a3 (fun(x:Int)=>kk (I x))) ?_ ?_
 ·refine Eq.trans (b:=(ob (Cu L a0 a1.Name a2) fun r1=>
 (br (!r1)
 (ob (some 5) (fun(x:Int)=>kk (I x)))
 (Bl (EV (O92 L) L 9 c92.r.r.r.r.l.r.r.l.l) [0,1,2,3,5,8,18,19,20] [5] L (Anu a0 a3 a1 0 0) (A5k L kk))))) (by kernel_rfl) ?_
  unfold It
  dsimp only [Bh]
  simp only [Bfi,Bqp]
 generalize (fun(x:Int)=>kk (I x))=Q
 unfold B9 It
 dsimp only [Bh,Bq]
 try simp only [y1,y2,y3,y4,y5 Q,y6,y7,y8 Q,y9,z1,z2,z3,z4]
theorem h92(L:Nat)(a0:Ag)(a1:Ab)(a2:ByteArray)(a3:(List Aa))(r:Int)(h:B9 L a0 a1 a2 a3=some r):Bc Tryz.prog 92 [.ref (Bw a0),.agg (B2 a1),S a2,.lst false (.t38 a3)] (I r):=
 hE Cg (s92 L) mixed Tryz.func92 (by kernel_rfl:C4 Tryz.prog inl Tryz.f92=some c92) (er:=fun(x:Int)=>I x) (by kernel_rfl) (e92 L a0 a1 a2 a3) h
noncomputable def A7l:EC:=(C4 Tryz.prog inl Tryz.f200).getD .stop
noncomputable def A7e:EC:=(C4 Tryz.prog inl Tryz.f138).getD .stop
def Aky(L:Nat):Bi:=Kg
theorem Btq(L:Nat):Bs Tryz.prog (Aky L):=(Az Tryz.prog)
def Afo(p1_0:List Ac)(p1_1:Af)(p1_2:ByteArray)(Ae:Int)(Aj:Int):St:=({ fr:= [(0,.lst false (.t32 p1_0)),(1,.clo 201 0 [.loc 3 0]),(4,I Ae),(7,I (p1_0.length:Int)),(8,I Aj)],ob:= [(2,(Bz p1_1)),(3,[S p1_2])],base:=4 } :St)
def Ajy(p1_0:List Ac)(p1_1:Af)(p1_2:ByteArray)(K:Ex→St→Prop):Nat×(Int×Int)→Prop:=fun o=>Cr o.1 [K .ret (Afo p1_0 p1_1 p1_2 o.2.1 o.2.2),K (.exit 0) (Afo p1_0 p1_1 p1_2 o.2.1 o.2.2)]
def Md{A:Type}(an:An A)(L:Nat)(p1_0:List Ac)(p1_1:Af)(p1_2:ByteArray)(rec:Int→Int→A)(out:Nat×(Int×Int)→A)(Ae:Int)(Aj:Int):A:=
 (an.cn (decide (Aj < (p1_0.length:Int)))
 (an.gd ((0:Int)≤Aj)
 (an.gd (Aj < ((p1_0.length:Nat):Int))
 (an.cn (((p1_0.getD (Int.toNat Aj) default).Name).toList == p1_2.toList)
 (an.lf out (0,(Aj,Aj)))
 (rec Ae (F9 (Aj+1))))))
 (an.lf out (1,(Ae,Aj))))
def Jb(L:Nat)(p1_0:List Ac)(p1_1:Af)(p1_2:ByteArray):Nat→Int→Int→Option (Nat×(Int×Int))
 |0,_,_=>none
 |n+1,Ae,Aj=>Md (Bq _) L p1_0 p1_1 p1_2 (Jb L p1_0 p1_1 p1_2 n) some Ae Aj
theorem A87(L:Nat)(p1_0:List Ac)(p1_1:Af)(p1_2:ByteArray)(g:Int→Int→Option (Nat×(Int×Int)))(Q:Nat×(Int×Int)→Prop)(Ae:Int)(Aj:Int):Md Bh L p1_0 p1_1 p1_2 (fun Ae Aj=>ob (g Ae Aj) Q) Q Ae Aj=ob (Md (Bq _) L p1_0 p1_1 p1_2 g some Ae Aj) Q:=by
 unfold Md
 dsimp only [Bh,Bq]
 try simp only [y1,y2,y3,y4,y5 Q,y6,y7,y8 Q,y9,z1,z2,z3,z4]
theorem A8o(L:Nat)(p1_0:List Ac)(p1_1:Af)(p1_2:ByteArray)(n:Nat)(Ae:Int)(Aj:Int)(K:Ex→St→Prop):Bl (EV (Aky L) L 8 A7l.r.r.l.r.r.l.l) [0,1,4,7,8] [2,3] n (Afo p1_0 p1_1 p1_2 Ae Aj) K=ob (Jb L p1_0 p1_1 p1_2 n Ae Aj) (fun o=>Ajy p1_0 p1_1 p1_2 K o):=by
 induction n generalizing Ae Aj with
 |zero=>rfl
 |succ n ih=>
  refine Eq.trans (b:=Md Bh L p1_0 p1_1 p1_2 (fun Ae Aj=>Bl (EV (Aky L) L 8 A7l.r.r.l.r.r.l.l) [0,1,4,7,8] [2,3] n (Afo p1_0 p1_1 p1_2 Ae Aj) K) (Ajy p1_0 p1_1 p1_2 K) Ae Aj) (by kernel_rfl) ?_
  simp only [ih]
  exact A87 L p1_0 p1_1 p1_2 (Jb L p1_0 p1_1 p1_2 n) (Ajy p1_0 p1_1 p1_2 K) Ae Aj
def Azu(p1_0:List Ac)(p1_1:Af)(p1_2:ByteArray):List PV:= [.lst false (.t32 p1_0),.clo 201 0 [.loc 3 0]]
def Azx(p1_0:List Ac)(p1_1:Af)(p1_2:ByteArray):List (Nat×List PV):= [(2,(Bz p1_1)),(3,[S p1_2])]
def Ab2(p1_0:List Ac)(p1_1:Af)(p1_2:ByteArray)(k:PV→List (Nat×List PV)→Prop):Int→Prop:=fun o=>k (I o) [(2,(Bz p1_1)),(3,[S p1_2])]
def Ry{A:Type}(an:An A)(L:Nat)(p1_0:List Ac)(p1_1:Af)(p1_2:ByteArray)(out:Int→A):A:=
 (an.bd (Jb L p1_0 p1_1 p1_2 L 0 0) fun o1=>
 (an.sl o1.1 [(an.lf out o1.2.1),
 (an.lf out (-1))]))
def Rz(L:Nat)(p1_0:List Ac)(p1_1:Af)(p1_2:ByteArray):Option Int:=Ry (Bq _) L p1_0 p1_1 p1_2 some
def Az0(L:Nat)(p1_0:List Ac)(p1_1:Af)(p1_2:ByteArray)(k:PV→List (Nat×List PV)→Prop):Ex→St→Prop:=(Ca 0 (Dl (EV (Aky L) L 8 A7l.r.r.r) (Acy Tryz.prog (RS Tryz.f200) k)))
theorem Bgs(L:Nat)(p1_0:List Ac)(p1_1:Af)(p1_2:ByteArray)(k:PV→List (Nat×List PV)→Prop)(o1:Nat×(Int×Int)):Ajy p1_0 p1_1 p1_2 (Az0 L p1_0 p1_1 p1_2 k) o1=
 (Cr o1.1 [(ob (some o1.2.1) (Ab2 p1_0 p1_1 p1_2 k)),
 (ob (some (-1)) (Ab2 p1_0 p1_1 p1_2 k))]):=by kernel_rfl
theorem A8b(L:Nat)(p1_0:List Ac)(p1_1:Af)(p1_2:ByteArray)(k:PV→List (Nat×List PV)→Prop):YO (Aky L) L 9 200 (Azu p1_0 p1_1 p1_2) (Azx p1_0 p1_1 p1_2) k=ob (Rz L p1_0 p1_1 p1_2) (fun o=>Ab2 p1_0 p1_1 p1_2 k o):=by
 refine (Zn _ _ _ jn4 _ _ _ _ _ _ _).trans ?_
 refine Eq.trans (b:=Ry Bh L p1_0 p1_1 p1_2 (Ab2 p1_0 p1_1 p1_2 k)) ?_ ?_
 ·refine Eq.trans (b:=(Bl (EV (Aky L) L 8 A7l.r.r.l.r.r.l.l) [0,1,4,7,8] [2,3] L (Afo p1_0 p1_1 p1_2 0 0) (Az0 L p1_0 p1_1 p1_2 k))) (by kernel_rfl) ?_
  unfold Ry
  dsimp only [Bh]
  simp only [A8o,Bgs]
 generalize Ab2 p1_0 p1_1 p1_2 k=Q
 unfold Rz Ry
 dsimp only [Bh,Bq]
 try simp only [y1,y2,y3,y4,y5 Q,y6,y7,y8 Q,y9,z1,z2,z3,z4]
def Az1(L:Nat)(a0:Af)(a1:ByteArray)(kk:PV→Prop):PV→List (Nat×List PV)→Prop:=(u4 Tryz.prog (Aky L) (EI (Aky L) L 9) 1 (List.drop 4 A7e.r.r.l.ops) ({ fr:= [(7,.clo 201 0 [.loc 3 0]),(6,.lst false (.t32 a0.Sites)),(5,.loc 2 2),(2,.loc 2 0),(3,.loc 3 0),(4,I 0)],ob:= [(2,(Bz a0)),(3,[S a1])],base:=0 } :St) (some 8) (fun st9=>(Dl (EV (Aky L) L 9 A7e.r.r.r) (Dx Tryz.prog (RS Tryz.f138) kk)) .normal st9))
theorem Bgt(L:Nat)(a0:Af)(a1:ByteArray)(kk:PV→Prop)(o1:Int):Ab2 a0.Sites a0 a1 (Az1 L a0 a1 kk) o1=
 (ob (some o1) (fun(x:Int)=>kk (I x))):=by kernel_rfl
def Uv{A:Type}(an:An A)(L:Nat)(a0:Af)(a1:ByteArray)(out:Int→A):A:=
 (an.bd (Rz L a0.Sites a0 a1) fun o1=>
 (an.lf out o1))
def O2(L:Nat)(a0:Af)(a1:ByteArray):Option Int:=Uv (Bq _) L a0 a1 some
theorem Brq(L:Nat)(a0:Af)(a1:ByteArray)(kk:PV→Prop):EW (Aky L) L 9 (RS Tryz.f138) A7e [.agg (Bz a0),S a1] kk=ob (O2 L a0 a1) (fun(x:Int)=>kk (I x)):=by
 refine Eq.trans (b:=Uv Bh L a0 a1 (fun(x:Int)=>kk (I x))) ?_ ?_
 ·refine Eq.trans (b:=(YO (Aky L) L 9 200 (Azu a0.Sites a0 a1) (Azx a0.Sites a0 a1) (Az1 L a0 a1 kk))) (by kernel_rfl) ?_
  unfold Uv
  dsimp only [Bh]
  simp only [A8b,Bgt]
 generalize (fun(x:Int)=>kk (I x))=Q
 unfold O2 Uv
 dsimp only [Bh,Bq]
 try simp only [y1,y2,y3,y4,y5 Q,y6,y7,y8 Q,y9,z1,z2,z3,z4]
theorem Bmz(L:Nat)(a0:Af)(a1:ByteArray)(r:Int)(h:O2 L a0 a1=some r):Bc Tryz.prog 138 [.agg (Bz a0),S a1] (I r):=
 hE Cg (Btq L) mixed Tryz.func138 (by kernel_rfl:C4 Tryz.prog inl Tryz.f138=some A7e) (er:=fun(x:Int)=>I x) (by kernel_rfl) (Brq L a0 a1) h
noncomputable def A7n:EC:=(C4 Tryz.prog inl Tryz.f219).getD .stop
noncomputable def A7j:EC:=(C4 Tryz.prog inl Tryz.f180).getD .stop
def Akz(L:Nat):Bi:=Kg
theorem Bt6(L:Nat):Bs Tryz.prog (Akz L):=(Az Tryz.prog)
def Afu(p1_0:List Cq)(p1_1:Af)(p1_2:ByteArray)(p1_3:ByteArray)(Ae:Int)(Aj:Int):St:=({ fr:= [(0,.lst false (.t172 p1_0)),(1,.clo 220 0 [.loc 4 0,.loc 5 0]),(4,I Ae),(7,I (p1_0.length:Int)),(8,I Aj)],ob:= [(3,(Bz p1_1)),(4,[S p1_2]),(5,[S p1_3])],base:=6 } :St)
def Aj9(p1_0:List Cq)(p1_1:Af)(p1_2:ByteArray)(p1_3:ByteArray)(K:Ex→St→Prop):Nat×(Int×Int)→Prop:=fun o=>Cr o.1 [K .ret (Afu p1_0 p1_1 p1_2 p1_3 o.2.1 o.2.2),K (.exit 0) (Afu p1_0 p1_1 p1_2 p1_3 o.2.1 o.2.2)]
def Mc{A:Type}(an:An A)(L:Nat)(p1_0:List Cq)(p1_1:Af)(p1_2:ByteArray)(p1_3:ByteArray)(rec:Int→Int→A)(out:Nat×(Int×Int)→A)(Ae:Int)(Aj:Int):A:=
 (an.cn (decide (Aj < (p1_0.length:Int)))
 (an.gd ((0:Int)≤Aj)
 (an.gd (Aj < ((p1_0.length:Nat):Int))
 (an.jp (bif (((p1_0.getD (Int.toNat Aj) default).From).toList == p1_2.toList) then (((p1_0.getD (Int.toNat Aj) default).To).toList == p1_3.toList)
 else false) (fun j=>(an.cn (((p1_0.getD (Int.toNat Aj) default).From).toList == p1_2.toList)
 (an.ap j (((p1_0.getD (Int.toNat Aj) default).To).toList == p1_3.toList))
 (an.ap j false))) (fun b1=>
 (an.cn b1
 (an.lf out (0,(Aj,Aj)))
 (rec Ae (F9 (Aj+1))))))))
 (an.lf out (1,(Ae,Aj))))
def Ja(L:Nat)(p1_0:List Cq)(p1_1:Af)(p1_2:ByteArray)(p1_3:ByteArray):Nat→Int→Int→Option (Nat×(Int×Int))
 |0,_,_=>none
 |n+1,Ae,Aj=>Mc (Bq _) L p1_0 p1_1 p1_2 p1_3 (Ja L p1_0 p1_1 p1_2 p1_3 n) some Ae Aj
theorem A9i(L:Nat)(p1_0:List Cq)(p1_1:Af)(p1_2:ByteArray)(p1_3:ByteArray)(g:Int→Int→Option (Nat×(Int×Int)))(Q:Nat×(Int×Int)→Prop)(Ae:Int)(Aj:Int):Mc Bh L p1_0 p1_1 p1_2 p1_3 (fun Ae Aj=>ob (g Ae Aj) Q) Q Ae Aj=ob (Mc (Bq _) L p1_0 p1_1 p1_2 p1_3 g some Ae Aj) Q:=by
 unfold Mc
 dsimp only [Bh,Bq]
 try simp only [y1,y2,y3,y4,y5 Q,y6,y7,y8 Q,y9,z1,z2,z3,z4]
 try simp only [z5,z6,y1,y2,y3,y4,y5 Q,y6,y7,y8 Q,y9,z1,z2,z3,z4]
theorem A8z(L:Nat)(p1_0:List Cq)(p1_1:Af)(p1_2:ByteArray)(p1_3:ByteArray)(n:Nat)(Ae:Int)(Aj:Int)(K:Ex→St→Prop):Bl (EV (Akz L) L 8 A7n.r.r.l.r.r.l.l) [0,1,4,7,8] [3,4,5] n (Afu p1_0 p1_1 p1_2 p1_3 Ae Aj) K=ob (Ja L p1_0 p1_1 p1_2 p1_3 n Ae Aj) (fun o=>Aj9 p1_0 p1_1 p1_2 p1_3 K o):=by
 induction n generalizing Ae Aj with
 |zero=>rfl
 |succ n ih=>
  refine Eq.trans (b:=Mc Bh L p1_0 p1_1 p1_2 p1_3 (fun Ae Aj=>Bl (EV (Akz L) L 8 A7n.r.r.l.r.r.l.l) [0,1,4,7,8] [3,4,5] n (Afu p1_0 p1_1 p1_2 p1_3 Ae Aj) K) (Aj9 p1_0 p1_1 p1_2 p1_3 K) Ae Aj) (by kernel_rfl) ?_
  simp only [ih]
  exact A9i L p1_0 p1_1 p1_2 p1_3 (Ja L p1_0 p1_1 p1_2 p1_3 n) (Aj9 p1_0 p1_1 p1_2 p1_3 K) Ae Aj
def Azv(p1_0:List Cq)(p1_1:Af)(p1_2:ByteArray)(p1_3:ByteArray):List PV:= [.lst false (.t172 p1_0),.clo 220 0 [.loc 4 0,.loc 5 0]]
def Azy(p1_0:List Cq)(p1_1:Af)(p1_2:ByteArray)(p1_3:ByteArray):List (Nat×List PV):= [(3,(Bz p1_1)),(4,[S p1_2]),(5,[S p1_3])]
def Ab3(p1_0:List Cq)(p1_1:Af)(p1_2:ByteArray)(p1_3:ByteArray)(k:PV→List (Nat×List PV)→Prop):Int→Prop:=fun o=>k (I o) [(3,(Bz p1_1)),(4,[S p1_2]),(5,[S p1_3])]
def Rx{A:Type}(an:An A)(L:Nat)(p1_0:List Cq)(p1_1:Af)(p1_2:ByteArray)(p1_3:ByteArray)(out:Int→A):A:=
 (an.bd (Ja L p1_0 p1_1 p1_2 p1_3 L 0 0) fun o1=>
 (an.sl o1.1 [(an.lf out o1.2.1),
 (an.lf out (-1))]))
def Tx(L:Nat)(p1_0:List Cq)(p1_1:Af)(p1_2:ByteArray)(p1_3:ByteArray):Option Int:=Rx (Bq _) L p1_0 p1_1 p1_2 p1_3 some
def A0c(L:Nat)(p1_0:List Cq)(p1_1:Af)(p1_2:ByteArray)(p1_3:ByteArray)(k:PV→List (Nat×List PV)→Prop):Ex→St→Prop:=(Ca 0 (Dl (EV (Akz L) L 8 A7n.r.r.r) (Acy Tryz.prog (RS Tryz.f219) k)))
theorem Bg4(L:Nat)(p1_0:List Cq)(p1_1:Af)(p1_2:ByteArray)(p1_3:ByteArray)(k:PV→List (Nat×List PV)→Prop)(o1:Nat×(Int×Int)):Aj9 p1_0 p1_1 p1_2 p1_3 (A0c L p1_0 p1_1 p1_2 p1_3 k) o1=
 (Cr o1.1 [(ob (some o1.2.1) (Ab3 p1_0 p1_1 p1_2 p1_3 k)),
 (ob (some (-1)) (Ab3 p1_0 p1_1 p1_2 p1_3 k))]):=by kernel_rfl
theorem A8c(L:Nat)(p1_0:List Cq)(p1_1:Af)(p1_2:ByteArray)(p1_3:ByteArray)(k:PV→List (Nat×List PV)→Prop):YO (Akz L) L 9 219 (Azv p1_0 p1_1 p1_2 p1_3) (Azy p1_0 p1_1 p1_2 p1_3) k=ob (Tx L p1_0 p1_1 p1_2 p1_3) (fun o=>Ab3 p1_0 p1_1 p1_2 p1_3 k o):=by
 refine (Zn _ _ _ jn4 _ _ _ _ _ _ _).trans ?_
 refine Eq.trans (b:=Rx Bh L p1_0 p1_1 p1_2 p1_3 (Ab3 p1_0 p1_1 p1_2 p1_3 k)) ?_ ?_
 ·refine Eq.trans (b:=(Bl (EV (Akz L) L 8 A7n.r.r.l.r.r.l.l) [0,1,4,7,8] [3,4,5] L (Afu p1_0 p1_1 p1_2 p1_3 0 0) (A0c L p1_0 p1_1 p1_2 p1_3 k))) (by kernel_rfl) ?_
  unfold Rx
  dsimp only [Bh]
  simp only [A8z,Bg4]
 generalize Ab3 p1_0 p1_1 p1_2 p1_3 k=Q
 unfold Tx Rx
 dsimp only [Bh,Bq]
 try simp only [y1,y2,y3,y4,y5 Q,y6,y7,y8 Q,y9,z1,z2,z3,z4]
def A0d(L:Nat)(a0:Af)(a1:ByteArray)(a2:ByteArray)(kk:PV→Prop):PV→List (Nat×List PV)→Prop:=(u4 Tryz.prog (Akz L) (EI (Akz L) L 9) 1 (List.drop 4 A7j.r.r.l.ops) ({ fr:= [(11,.clo 220 0 [.loc 4 0,.loc 5 0]),(10,.lst false (.t172 a0.Links)),(9,.loc 3 3),(3,.loc 3 0),(4,.loc 4 0),(5,.loc 5 0),(6,I 0),(7,B false)],ob:= [(3,(Bz a0)),(4,[S a1]),(5,[S a2])],base:=0 } :St) (some 12) (fun st9=>(Dl (EV (Akz L) L 9 A7j.r.r.r) (Dx Tryz.prog (RS Tryz.f180) kk)) .normal st9))
theorem Bg5(L:Nat)(a0:Af)(a1:ByteArray)(a2:ByteArray)(kk:PV→Prop)(o1:Int):Ab3 a0.Links a0 a1 a2 (A0d L a0 a1 a2 kk) o1=
 (br (decide (o1 < 0))
 (ob (some (0,false)) (fun(x:(Int×Bool))=>kk (.tup [I x.1,B x.2])))
 (gd ((0:Int)≤o1)
 (gd (o1 < ((a0.Links.length:Nat):Int))
 (ob (some ((a0.Links.getD (Int.toNat o1) default).Delay,true)) (fun(x:(Int×Bool))=>kk (.tup [I x.1,B x.2])))))):=by kernel_rfl
def Uu{A:Type}(an:An A)(L:Nat)(a0:Af)(a1:ByteArray)(a2:ByteArray)(out:(Int×Bool)→A):A:=
 (an.bd (Tx L a0.Links a0 a1 a2) fun o1=>
 (an.cn (decide (o1 < 0))
 (an.lf out (0,false))
 (an.gd ((0:Int)≤o1)
 (an.gd (o1 < ((a0.Links.length:Nat):Int))
 (an.lf out ((a0.Links.getD (Int.toNat o1) default).Delay,true))))))
def O1(L:Nat)(a0:Af)(a1:ByteArray)(a2:ByteArray):Option (Int×Bool):=Uu (Bq _) L a0 a1 a2 some
theorem Br6(L:Nat)(a0:Af)(a1:ByteArray)(a2:ByteArray)(kk:PV→Prop):EW (Akz L) L 9 (RS Tryz.f180) A7j [.agg (Bz a0),S a1,S a2] kk=ob (O1 L a0 a1 a2) (fun(x:(Int×Bool))=>kk (.tup [I x.1,B x.2])):=by
 refine Eq.trans (b:=Uu Bh L a0 a1 a2 (fun(x:(Int×Bool))=>kk (.tup [I x.1,B x.2]))) ?_ ?_
 ·refine Eq.trans (b:=(YO (Akz L) L 9 219 (Azv a0.Links a0 a1 a2) (Azy a0.Links a0 a1 a2) (A0d L a0 a1 a2 kk))) (by kernel_rfl) ?_
  unfold Uu
  dsimp only [Bh]
  simp only [A8c,Bg5]
 generalize (fun(x:(Int×Bool))=>kk (.tup [I x.1,B x.2]))=Q
 unfold O1 Uu
 dsimp only [Bh,Bq]
 try simp only [y1,y2,y3,y4,y5 Q,y6,y7,y8 Q,y9,z1,z2,z3,z4]
theorem Bnd(L:Nat)(a0:Af)(a1:ByteArray)(a2:ByteArray)(r:(Int×Bool))(h:O1 L a0 a1 a2=some r):Bc Tryz.prog 180 [.agg (Bz a0),S a1,S a2] (.tup [I r.1,B r.2]):=
 hE Cg (Bt6 L) mixed Tryz.func180 (by kernel_rfl:C4 Tryz.prog inl Tryz.f180=some A7j) (er:=fun(x:(Int×Bool))=> .tup [I x.1,B x.2]) (by kernel_rfl) (Br6 L a0 a1 a2) h
noncomputable def c95:EC:=(C4 Tryz.prog inl Tryz.f95).getD .stop
def O95(L:Nat):Bi:=(Cp 91 (A3 (fun(x:Int)=>I x) B6 Bm Ar7 (Br L)) Kg)
theorem s95(L:Nat):Bs Tryz.prog (O95 L):=(Ad (a3 _ (h91 L)) (Az Tryz.prog))
def Anw(a0:Ag)(a2:Ab)(a1:Bg)(B5:Int)(Cx:Int):St:=({ fr:= [(0,.ref (Bw a0)),(1,.any),(2,.any),(4,.loc 4 0),(5,.loc 5 0),(6,I B5),(18,.lst false (.t38 a2.Args)),(19,I (a2.Args.length:Int)),(20,I Cx)],ob:= [(4,(Hk a1)),(5,(B2 a2))],base:=0 } :St)
def Arz(a0:Ag)(a2:Ab)(a1:Bg)(K:Ex→St→Prop):Nat×(Int×Int)→Prop:=fun o=>Cr o.1 [K .ret (Anw a0 a2 a1 o.2.1 o.2.2),K (.exit 0) (Anw a0 a2 a1 o.2.1 o.2.2)]
def Eb{A:Type}(an:An A)(L:Nat)(a0:Ag)(a2:Ab)(a1:Bg)(rec:Int→Int→A)(out:Nat×(Int×Int)→A)(B5:Int)(Cx:Int):A:=
 (an.cn (decide (Cx < (a2.Args.length:Int)))
 (an.gd ((0:Int)≤Cx)
 (an.gd (Cx < ((a2.Args.length:Nat):Int))
 (an.gd ((0:Int)≤Cx)
 (an.gd (Cx < ((a1.Params.length:Nat):Int))
 (an.bd (Br L a0 (Aa.cp (a2.Args.getD (Int.toNat Cx) default)) [(a1.Params.getD (Int.toNat Cx) default).Type_]) fun r1=>
 (an.cn (r1 != 0)
 (an.lf out (0,(r1,Cx)))
 (rec B5 (F9 (Cx+1)))))))))
 (an.lf out (1,(B5,Cx))))
def Dn(L:Nat)(a0:Ag)(a2:Ab)(a1:Bg):Nat→Int→Int→Option (Nat×(Int×Int))
 |0,_,_=>none
 |n+1,B5,Cx=>Eb (Bq _) L a0 a2 a1 (Dn L a0 a2 a1 n) some B5 Cx
theorem Bgm(L:Nat)(a0:Ag)(a2:Ab)(a1:Bg)(g:Int→Int→Option (Nat×(Int×Int)))(Q:Nat×(Int×Int)→Prop)(B5:Int)(Cx:Int):Eb Bh L a0 a2 a1 (fun B5 Cx=>ob (g B5 Cx) Q) Q B5 Cx=ob (Eb (Bq _) L a0 a2 a1 g some B5 Cx) Q:=by
 unfold Eb
 dsimp only [Bh,Bq]
 try simp only [y1,y2,y3,y4,y5 Q,y6,y7,y8 Q,y9,z1,z2,z3,z4]
theorem Bfk(L:Nat)(a0:Ag)(a2:Ab)(a1:Bg)(n:Nat)(B5:Int)(Cx:Int)(K:Ex→St→Prop):Bl (EV (O95 L) L 9 c95.r.r.r.r.l.r.r.l.l) [0,1,2,4,5,6,18,19,20] [4,5] n (Anw a0 a2 a1 B5 Cx) K=ob (Dn L a0 a2 a1 n B5 Cx) (fun o=>Arz a0 a2 a1 K o):=by
 induction n generalizing B5 Cx with
 |zero=>rfl
 |succ n ih=>
  refine Eq.trans (b:=Eb Bh L a0 a2 a1 (fun B5 Cx=>Bl (EV (O95 L) L 9 c95.r.r.r.r.l.r.r.l.l) [0,1,2,4,5,6,18,19,20] [4,5] n (Anw a0 a2 a1 B5 Cx) K) (Arz a0 a2 a1 K) B5 Cx) (by kernel_rfl) ?_
  simp only [ih]
  exact Bgm L a0 a2 a1 (Dn L a0 a2 a1 n) (Arz a0 a2 a1 K) B5 Cx
def A5n(L:Nat)(kk:PV→Prop):Ex→St→Prop:=(Ca 0 (Dl (EV (O95 L) L 9 c95.r.r.r.r.r) (Dx Tryz.prog (RS Tryz.f95) kk)))
theorem Bqs(L:Nat)(a0:Ag)(a2:Ab)(a1:Bg)(kk:PV→Prop)(o1:Nat×(Int×Int)):Arz a0 a2 a1 (A5n L kk) o1=
 (Cr o1.1 [(ob (some o1.2.1) (fun(x:Int)=>kk (I x))),
 (ob (Br L a0 (Aa.cp a2.E) [3]) fun r2=>
 (ob (some r2) (fun(x:Int)=>kk (I x))))]):=by kernel_rfl
def Jx{A:Type}(an:An A)(L:Nat)(a0:Ag)(a1:Bg)(a2:Ab)(out:Int→A):A:=
 (an.cn ((a2.Args.length:Int) != (a1.Params.length:Int))
 (an.lf out 8)
 (an.bd (Dn L a0 a2 a1 L 0 0) fun o1=>
 (an.sl o1.1 [(an.lf out o1.2.1),
 (an.bd (Br L a0 (Aa.cp a2.E) [3]) fun r2=>
 (an.lf out r2))])))
def C7(L:Nat)(a0:Ag)(a1:Bg)(a2:Ab):Option Int:=Jx (Bq _) L a0 a1 a2 some
theorem e95(L:Nat)(a0:Ag)(a1:Bg)(a2:Ab)(kk:PV→Prop):EW (O95 L) L 9 (RS Tryz.f95) c95 [.ref (Bw a0),.agg (Hk a1),.agg (B2 a2)] kk=ob (C7 L a0 a1 a2) (fun(x:Int)=>kk (I x)):=by
 refine Eq.trans (b:=Jx Bh L a0 a1 a2 (fun(x:Int)=>kk (I x))) ?_ ?_
 ·refine Eq.trans (b:=(br ((a2.Args.length:Int) != (a1.Params.length:Int))
 (ob (some 8) (fun(x:Int)=>kk (I x)))
 (Bl (EV (O95 L) L 9 c95.r.r.r.r.l.r.r.l.l) [0,1,2,4,5,6,18,19,20] [4,5] L (Anw a0 a2 a1 0 0) (A5n L kk)))) (by kernel_rfl) ?_
  unfold Jx
  dsimp only [Bh]
  simp only [Bfk,Bqs]
 generalize (fun(x:Int)=>kk (I x))=Q
 unfold C7 Jx
 dsimp only [Bh,Bq]
 try simp only [y1,y2,y3,y4,y5 Q,y6,y7,y8 Q,y9,z1,z2,z3,z4]
theorem h95(L:Nat)(a0:Ag)(a1:Bg)(a2:Ab)(r:Int)(h:C7 L a0 a1 a2=some r):Bc Tryz.prog 95 [.ref (Bw a0),.agg (Hk a1),.agg (B2 a2)] (I r):=
 hE Cg (s95 L) mixed Tryz.func95 (by kernel_rfl:C4 Tryz.prog inl Tryz.f95=some c95) (er:=fun(x:Int)=>I x) (by kernel_rfl) (e95 L a0 a1 a2) h
noncomputable def c93:EC:=(C4 Tryz.prog inl Tryz.f93).getD .stop
def O93(L:Nat):Bi:=(Cp 94 (A2 (fun(x:Int)=>I x) Cw cS (Dr L)) (Cp 95 (A3 (fun(x:Int)=>I x) B6 Yd Co (C7 L)) (Cp 138 (A2 (fun(x:Int)=>I x) C2 cS (O2 L)) (Cp 180 (A3 (fun(x:(Int×Bool))=> .tup [I x.1,B x.2]) C2 cS cS (O1 L)) Kg))))
theorem s93(L:Nat):Bs Tryz.prog (O93 L):=(Ad (a2 _ (h94 L)) (Ad (a3 _ (h95 L)) (Ad (a2 _ (Bmz L)) (Ad (a3 _ (Bnd L)) (Az Tryz.prog)))))
def Og{A:Type}(an:An A)(L:Nat)(a0:Ag)(a1:Ab)(out:Int→A):A:=
 (an.bd (O2 L a0.u_m a1.Of) fun r1=>
 (an.cn (decide (r1 < 0))
 (an.lf out 5)
 (an.gd ((0:Int)≤r1)
 (an.gd (r1 < ((a0.u_m.Sites.length:Nat):Int))
 (an.bd (Dr L (a0.u_m.Sites.getD (Int.toNat r1) default) a1.Name) fun r2=>
 (an.cn (decide (r2 < 0))
 (an.lf out 5)
 (an.bd (O1 L a0.u_m a0.u_env.Site.Name a1.Of) fun r3=>
 (an.cn (!r3.2)
 (an.lf out 16)
 (an.gd ((0:Int)≤r1)
 (an.gd (r1 < ((a0.u_m.Sites.length:Nat):Int))
 (an.gd ((0:Int)≤r2)
 (an.gd (r2 < ((((a0.u_m.Sites.getD (Int.toNat r1) default).Routines).length:Nat):Int))
 (an.bd (C7 L a0 (((a0.u_m.Sites.getD (Int.toNat r1) default).Routines).getD (Int.toNat r2) default) (Ab.cp a1)) fun r4=>
 (an.lf out r4))))))))))))))
def Eh(L:Nat)(a0:Ag)(a1:Ab):Option Int:=Og (Bq _) L a0 a1 some
theorem e93(L:Nat)(a0:Ag)(a1:Ab)(kk:PV→Prop):EW (O93 L) L 9 (RS Tryz.f93) c93 [.ref (Bw a0),.agg (B2 a1)] kk=ob (Eh L a0 a1) (fun(x:Int)=>kk (I x)):=by
 refine Eq.trans (b:=Og Bh L a0 a1 (fun(x:Int)=>kk (I x))) (by kernel_rfl) ?_
 generalize (fun(x:Int)=>kk (I x))=Q
 unfold Eh Og
 dsimp only [Bh,Bq]
 try simp only [y1,y2,y3,y4,y5 Q,y6,y7,y8 Q,y9,z1,z2,z3,z4]
theorem h93(L:Nat)(a0:Ag)(a1:Ab)(r:Int)(h:Eh L a0 a1=some r):Bc Tryz.prog 93 [.ref (Bw a0),.agg (B2 a1)] (I r):=
 hE Cg (s93 L) mixed Tryz.func93 (by kernel_rfl:C4 Tryz.prog inl Tryz.f93=some c93) (er:=fun(x:Int)=>I x) (by kernel_rfl) (e93 L a0 a1) h
noncomputable def c54:EC:=(C4 Tryz.prog inl Tryz.f54).getD .stop
def O54(L:Nat):Bi:=(Cp 88 (A2 (fun(x:Int)=>I x) B6 Co (E4 L)) (Cp 89 (A4 (fun(x:Int)=>I x) B6 cS cB Ar7 (Dh L)) (Cp 90 (A3 (fun(x:Bool)=>B x) B6 cS cS (Cu L)) (Cp 91 (A3 (fun(x:Int)=>I x) B6 Bm Ar7 (Br L)) (Cp 92 (A4 (fun(x:Int)=>I x) B6 Co cS Bmr (B9 L)) (Cp 93 (A2 (fun(x:Int)=>I x) B6 Co (Eh L)) (Cp 94 (A2 (fun(x:Int)=>I x) Cw cS (Dr L)) (Cp 95 (A3 (fun(x:Int)=>I x) B6 Yd Co (C7 L)) Kg))))))))
theorem s54(L:Nat):Bs Tryz.prog (O54 L):=(Ad (a2 _ (h88 L)) (Ad (a4 _ (h89 L)) (Ad (a3 _ (h90 L)) (Ad (a3 _ (h91 L)) (Ad (a4 _ (h92 L)) (Ad (a2 _ (h93 L)) (Ad (a2 _ (h94 L)) (Ad (a3 _ (h95 L)) (Az Tryz.prog)))))))))
def A6m(a0:Ag)(a1:Ab)(p801_22:Bool):St:=({ fr:= [(0,.ref (Bw a0)),(3,.loc 3 0),(4,I 0),(7,I a1.Op),(24,B p801_22)],ob:= [(3,(B2 a1))],base:=0 } :St)
def A5s(L:Nat)(e0:EC)(kk:PV→Prop):Ex→St→Prop:=(Ca 0 (Dl (EV (O54 L) L 9 e0) (Dx Tryz.prog (RS Tryz.f54) kk)))
def Et{A:Type}(an:An A)(L:Nat)(a0:Ag)(a1:Ab)(p801_22:Bool)(out:Int→A):A:=
 (an.cn p801_22
 (an.bd (Br L a0 (Aa.cp a1.E) [2]) fun r4=>
 (an.lf out r4))
 (an.cn (a1.Op == 5)
 (an.bd (Br L a0 (Aa.cp a1.E) [3]) fun r5=>
 (an.lf out r5))
 (an.cn (a1.Op == 6)
 (an.bd (B9 L a0 (Ab.cp a1) (⟨#[114,101,115,111,117,114,99,101]⟩:ByteArray) [(Aa.cp a1.E),(Aa.cp a1.F)]) fun r6=>
 (an.lf out r6))
 (an.cn (a1.Op == 7)
 (an.bd (B9 L a0 (Ab.cp a1) (⟨#[114,101,115,111,117,114,99,101]⟩:ByteArray) [(Aa.cp a1.E)]) fun r7=>
 (an.lf out r7))
 (an.cn (a1.Op == 8)
 (an.bd (B9 L a0 (Ab.cp a1) (⟨#[115,116,111,114,101]⟩:ByteArray) [(Aa.cp a1.E)]) fun r8=>
 (an.lf out r8))
 (an.cn (a1.Op == 9)
 (an.bd (Cu L a0 a1.Name (⟨#[115,116,111,114,101]⟩:ByteArray)) fun r9=>
 (an.bd (Dh L a0 a1.Of r9 [1]) fun r10=>
 (an.lf out r10)))
 (an.cn (a1.Op == 10)
 (an.bd (B9 L a0 (Ab.cp a1) (⟨#[98,101,108,116]⟩:ByteArray) []) fun r11=>
 (an.lf out r11))
 (an.cn (a1.Op == 11)
 (an.bd (B9 L a0 (Ab.cp a1) (⟨#[113,117,101,117,101]⟩:ByteArray) []) fun r12=>
 (an.lf out r12))
 (an.cn (a1.Op == 12)
 (an.bd (B9 L a0 (Ab.cp a1) (⟨#[113,117,101,117,101]⟩:ByteArray) [(Aa.cp a1.E)]) fun r13=>
 (an.lf out r13))
 (an.cn (a1.Op == 13)
 (an.bd (Eh L a0 (Ab.cp a1)) fun r14=>
 (an.lf out r14))
 (an.cn (a1.Op == 14)
 (an.bd (Dr L a0.u_env.Site a1.Name) fun r15=>
 (an.cn (decide (r15 < 0))
 (an.lf out 5)
 (an.gd ((0:Int)≤r15)
 (an.gd (r15 < ((a0.u_env.Site.Routines.length:Nat):Int))
 (an.bd (C7 L a0 (a0.u_env.Site.Routines.getD (Int.toNat r15) default) (Ab.cp a1)) fun r16=>
 (an.lf out r16))))))
 (an.cn (a1.Op == 15)
 (an.bd (Cu L a0 a1.Name (⟨#[116,97,108,108,121]⟩:ByteArray)) fun r17=>
 (an.cn (!r17)
 (an.lf out 5)
 (an.bd (Br L a0 (Aa.cp a1.E) [1,3]) fun r18=>
 (an.lf out r18))))
 (an.cn (a1.Op == 16)
 (an.bd (B9 L a0 (Ab.cp a1) (⟨#[108,101,118,101,108]⟩:ByteArray) [(Aa.cp a1.E)]) fun r19=>
 (an.lf out r19))
 (an.cn (a1.Op == 17)
 (an.bd (B9 L a0 (Ab.cp a1) (⟨#[99,111,117,110,116]⟩:ByteArray) [(Aa.cp a1.E)]) fun r20=>
 (an.lf out r20))
 (an.lf out 0)))))))))))))))
theorem Bb1(L:Nat)(a0:Ag)(a1:Ab)(p801_22:Bool)(kk:PV→Prop):EV (O54 L) L 9 c54.r.r.l.r.r.l.r.r.r.r.r.r.r.r (A6m a0 a1 p801_22) (A5s L c54.r.r.r kk)=Et Bh L a0 a1 p801_22 (fun(x:Int)=>kk (I x)):=by kernel_rfl
theorem Biu(L:Nat)(a0:Ag)(a1:Ab)(p801_22:Bool)(Q:Int→Prop):Et Bh L a0 a1 p801_22 Q=ob (Et (Bq _) L a0 a1 p801_22 some) Q:=by
 unfold Et
 dsimp only [Bh,Bq]
 try simp only [y1,y2,y3,y4,y5 Q,y6,y7,y8 Q,y9,z1,z2,z3,z4]
def Gi{A:Type}(an:An A)(L:Nat)(a0:Ag)(a1:Ab)(nx1:Ag→Ab→Bool→A)(out:Int→A):A:=
 (an.cn (a1.Op == 1)
 (an.bd (E4 L a0 (Ab.cp a1)) fun r1=>
 (an.lf out r1))
 (an.cn (a1.Op == 2)
 (an.bd (Cu L a0 a1.Of (⟨#[115,116,114,101,97,109]⟩:ByteArray)) fun r2=>
 (an.bd (Dh L a0 a1.Name r2 [1,3]) fun r3=>
 (an.lf out r3)))
 (an.cn (a1.Op == 3)
 (nx1 a0 a1 (a1.Op == 3))
 (nx1 a0 a1 (a1.Op == 4)))))
def S0{A:Type}(an:An A)(L:Nat)(a0:Ag)(a1:Ab)(out:Int→A):A:=Gi an L a0 a1 (fun a0 a1 p801_22=>Et an L a0 a1 p801_22 out) out
theorem Bh3(L:Nat)(a0:Ag)(a1:Ab)(g1:Ag→Ab→Bool→Option Int)(Q:Int→Prop):Gi Bh L a0 a1 (fun a0 a1 p801_22=>ob (g1 a0 a1 p801_22) Q) Q=ob (Gi (Bq _) L a0 a1 g1 some) Q:=by
 unfold Gi
 dsimp only [Bh,Bq]
 try simp only [y1,y2,y3,y4,y5 Q,y6,y7,y8 Q,y9,z1,z2,z3,z4]
theorem Bco(L:Nat)(a0:Ag)(a1:Ab)(kk:PV→Prop)(z1:EC):EW (O54 L) L 9 (RS Tryz.f54) (EC.put [false,false,true,false,false,true,false,false,false,false,false,false,false,false] z1 c54) [.ref (Bw a0),.agg (B2 a1)] kk=Gi Bh L a0 a1 (fun a0 a1 p801_22=>EV (O54 L) L 9 z1 (A6m a0 a1 p801_22) (A5s L c54.r.r.r kk)) (fun(x:Int)=>kk (I x)):=by kernel_rfl
def D6(L:Nat)(a0:Ag)(a1:Ab):Option Int:=S0 (Bq _) L a0 a1 some
theorem e54(L:Nat)(a0:Ag)(a1:Ab)(kk:PV→Prop):EW (O54 L) L 9 (RS Tryz.f54) c54 [.ref (Bw a0),.agg (B2 a1)] kk=ob (D6 L a0 a1) (fun(x:Int)=>kk (I x)):=by
 refine Eq.trans (b:=EW (O54 L) L 9 (RS Tryz.f54) (EC.put [false,false,true,false,false,true,false,false,false,false,false,false,false,false] c54.r.r.l.r.r.l.r.r.r.r.r.r.r.r c54) [.ref (Bw a0),.agg (B2 a1)] kk) (by kernel_rfl) ?_
 refine Eq.trans (Bco L a0 a1 kk c54.r.r.l.r.r.l.r.r.r.r.r.r.r.r) ?_
 simp only [Bb1]
 generalize (fun(x:Int)=>kk (I x))=Q
 simp only [Biu]
 unfold D6 S0
 exact Bh3 L a0 a1 (fun a0 a1 p801_22=>Et (Bq _) L a0 a1 p801_22 some) Q
theorem h54(L:Nat)(a0:Ag)(a1:Ab)(r:Int)(h:D6 L a0 a1=some r):Bc Tryz.prog 54 [.ref (Bw a0),.agg (B2 a1)] (I r):=
 hE Cg (s54 L) mixed Tryz.func54 (by kernel_rfl:C4 Tryz.prog inl Tryz.f54=some c54) (er:=fun(x:Int)=>I x) (by kernel_rfl) (e54 L a0 a1) h
noncomputable def c33:EC:=(C4 Tryz.prog inl Tryz.f33).getD .stop
def O33(F0:Ag→(List Ab)→Option Int)(L:Nat):Bi:=(Cp 33 (A2 (fun(x:Int)=>I x) B6 S1 F0) (Cp 54 (A2 (fun(x:Int)=>I x) B6 Co (D6 L)) Kg))
theorem s33(F0:Ag→(List Ab)→Option Int)(Bdq:∀(y0:Ag) (y1:(List Ab)) (r:Int),F0 y0 y1=some r→Bc Tryz.prog 33 [.ref (Bw y0),.lst false (.t82 y1)] (I r))(L:Nat):Bs Tryz.prog (O33 F0 L):=(Ad (a2 _ Bdq) (Ad (a2 _ (h54 L)) (Az Tryz.prog)))
def Anb(a0:Ag)(a1:(List Ab))(B5:Int)(Cx:Int):St:=({ fr:= [(0,.ref (Bw a0)),(1,.any),(4,I B5),(10,.lst false (.t82 a1)),(11,I (a1.length:Int)),(12,I Cx)],ob:= [],base:=0 } :St)
def Aq8(a0:Ag)(a1:(List Ab))(K:Ex→St→Prop):Nat×(Int×Int)→Prop:=fun o=>Cr o.1 [K .ret (Anb a0 a1 o.2.1 o.2.2),K (.exit 0) (Anb a0 a1 o.2.1 o.2.2)]
def Ec{A:Type}(an:An A)(F0:Ag→(List Ab)→Option Int)(L:Nat)(a0:Ag)(a1:(List Ab))(rec:Int→Int→A)(out:Nat×(Int×Int)→A)(B5:Int)(Cx:Int):A:=
 (an.cn (decide (Cx < (a1.length:Int)))
 (an.gd ((0:Int)≤Cx)
 (an.gd (Cx < ((a1.length:Nat):Int))
 (an.bd (D6 L a0 (Ab.cp (a1.getD (Int.toNat Cx) default))) fun r1=>
 (an.cn (r1 != 0)
 (an.lf out (0,(r1,Cx)))
 (an.bd (F0 a0 ((a1.getD (Int.toNat Cx) default).Body)) fun r2=>
 (an.cn (r2 != 0)
 (an.lf out (0,(r2,Cx)))
 (an.bd (F0 a0 ((a1.getD (Int.toNat Cx) default).Else)) fun r3=>
 (an.cn (r3 != 0)
 (an.lf out (0,(r3,Cx)))
 (rec B5 (F9 (Cx+1)))))))))))
 (an.lf out (1,(B5,Cx))))
def Dp(F0:Ag→(List Ab)→Option Int)(L:Nat)(a0:Ag)(a1:(List Ab)):Nat→Int→Int→Option (Nat×(Int×Int))
 |0,_,_=>none
 |n+1,B5,Cx=>Ec (Bq _) F0 L a0 a1 (Dp F0 L a0 a1 n) some B5 Cx
theorem Bfv(F0:Ag→(List Ab)→Option Int)(L:Nat)(a0:Ag)(a1:(List Ab))(g:Int→Int→Option (Nat×(Int×Int)))(Q:Nat×(Int×Int)→Prop)(B5:Int)(Cx:Int):Ec Bh F0 L a0 a1 (fun B5 Cx=>ob (g B5 Cx) Q) Q B5 Cx=ob (Ec (Bq _) F0 L a0 a1 g some B5 Cx) Q:=by
 unfold Ec
 dsimp only [Bh,Bq]
 try simp only [y1,y2,y3,y4,y5 Q,y6,y7,y8 Q,y9,z1,z2,z3,z4]
theorem Bet(F0:Ag→(List Ab)→Option Int)(L:Nat)(a0:Ag)(a1:(List Ab))(n:Nat)(B5:Int)(Cx:Int)(K:Ex→St→Prop):Bl (EV (O33 F0 L) L 9 c33.r.r.l.r.r.l.l) [0,1,4,10,11,12] [] n (Anb a0 a1 B5 Cx) K=ob (Dp F0 L a0 a1 n B5 Cx) (fun o=>Aq8 a0 a1 K o):=by
 induction n generalizing B5 Cx with
 |zero=>rfl
 |succ n ih=>
  refine Eq.trans (b:=Ec Bh F0 L a0 a1 (fun B5 Cx=>Bl (EV (O33 F0 L) L 9 c33.r.r.l.r.r.l.l) [0,1,4,10,11,12] [] n (Anb a0 a1 B5 Cx) K) (Aq8 a0 a1 K) B5 Cx) (by kernel_rfl) ?_
  simp only [ih]
  exact Bfv F0 L a0 a1 (Dp F0 L a0 a1 n) (Aq8 a0 a1 K) B5 Cx
def A4r(F0:Ag→(List Ab)→Option Int)(L:Nat)(kk:PV→Prop):Ex→St→Prop:=(Ca 0 (Dl (EV (O33 F0 L) L 9 c33.r.r.r) (Dx Tryz.prog (RS Tryz.f33) kk)))
theorem Bpw(F0:Ag→(List Ab)→Option Int)(L:Nat)(a0:Ag)(a1:(List Ab))(kk:PV→Prop)(o1:Nat×(Int×Int)):Aq8 a0 a1 (A4r F0 L kk) o1=
 (Cr o1.1 [(ob (some o1.2.1) (fun(x:Int)=>kk (I x))),
 (ob (some 0) (fun(x:Int)=>kk (I x)))]):=by kernel_rfl
def Jy{A:Type}(an:An A)(F0:Ag→(List Ab)→Option Int)(L:Nat)(a0:Ag)(a1:(List Ab))(out:Int→A):A:=
 (an.bd (Dp F0 L a0 a1 L 0 0) fun o1=>
 (an.sl o1.1 [(an.lf out o1.2.1),
 (an.lf out 0)]))
def Ju(F0:Ag→(List Ab)→Option Int)(L:Nat)(a0:Ag)(a1:(List Ab)):Option Int:=Jy (Bq _) F0 L a0 a1 some
theorem e33(F0:Ag→(List Ab)→Option Int)(L:Nat)(a0:Ag)(a1:(List Ab))(kk:PV→Prop):EW (O33 F0 L) L 9 (RS Tryz.f33) c33 [.ref (Bw a0),.lst false (.t82 a1)] kk=ob (Ju F0 L a0 a1) (fun(x:Int)=>kk (I x)):=by
 refine Eq.trans (b:=Jy Bh F0 L a0 a1 (fun(x:Int)=>kk (I x))) ?_ ?_
 ·refine Eq.trans (b:=(Bl (EV (O33 F0 L) L 9 c33.r.r.l.r.r.l.l) [0,1,4,10,11,12] [] L (Anb a0 a1 0 0) (A4r F0 L kk))) (by kernel_rfl) ?_
  unfold Jy
  dsimp only [Bh]
  simp only [Bet,Bpw]
 generalize (fun(x:Int)=>kk (I x))=Q
 unfold Ju Jy
 dsimp only [Bh,Bq]
 try simp only [y1,y2,y3,y4,y5 Q,y6,y7,y8 Q,y9,z1,z2,z3,z4]
theorem b33(F0:Ag→(List Ab)→Option Int)(Bdq:∀(y0:Ag) (y1:(List Ab)) (r:Int),F0 y0 y1=some r→Bc Tryz.prog 33 [.ref (Bw y0),.lst false (.t82 y1)] (I r))(L:Nat)(a0:Ag)(a1:(List Ab))(r:Int)(h:Ju F0 L a0 a1=some r):Bc Tryz.prog 33 [.ref (Bw a0),.lst false (.t82 a1)] (I r):=
 hE Cg (s33 F0 Bdq L) mixed Tryz.func33 (by kernel_rfl:C4 Tryz.prog inl Tryz.f33=some c33) (er:=fun(x:Int)=>I x) (by kernel_rfl) (e33 F0 L a0 a1) h
def C8:Nat→Ag→(List Ab)→Option Int
 |0,_,_=>none
 |L+1,a0,a1=>Ju (C8 L) L a0 a1
theorem Bda:∀L,(∀(y0:Ag) (y1:(List Ab)) (r:Int),C8 L y0 y1=some r→Bc Tryz.prog 33 [.ref (Bw y0),.lst false (.t82 y1)] (I r)):=by
 intro L
 induction L with
 |zero=>exact fun _ _ r h=>(by cases h)
 |succ L ih=>
  have i33:=ih
  exact fun y0 y1 r h=>b33 (C8 L) i33 L y0 y1 r h
theorem h33(L:Nat):∀(y0:Ag) (y1:(List Ab)) (r:Int),C8 L y0 y1=some r→Bc Tryz.prog 33 [.ref (Bw y0),.lst false (.t82 y1)] (I r):=Bda L
noncomputable def c17:EC:=(C4 Tryz.prog inl Tryz.f17).getD .stop
def O17(L:Nat):Bi:=(Cp 21 (A1 (fun(x:Int)=>I x) S1 (Kn L)) (Cp 33 (A2 (fun(x:Int)=>I x) B6 S1 (C8 L)) Kg))
theorem s17(L:Nat):Bs Tryz.prog (O17 L):=(Ad (a1 _ (h21 L)) (Ad (a2 _ (h33 L)) (Az Tryz.prog)))
def U1{A:Type}(an:An A)(L:Nat)(a0:Af)(a1:Int)(a2:(List Be))(a3:(List Ab))(out:Int→A):A:=
 (an.bd (Kn L a3) fun r1=>
 (an.cn (r1 != 0)
 (an.lf out r1)
 (an.jp (bif (decide (a1 < 0)) then true
 else (decide (a1≥(a0.Sites.length:Int)))) (fun j=>(an.cn (decide (a1 < 0))
 (an.ap j true)
 (an.ap j (decide (a1≥(a0.Sites.length:Int)))))) (fun b2=>
 (an.cn b2
 (an.lf out 2)
 (an.gd ((0:Int)≤a1)
 (an.gd (a1 < ((a0.Sites.length:Nat):Int))
 (an.bd (C8 L (⟨a0,a1,(⟨a0.Params,a2,(a0.Sites.getD (Int.toNat a1) default)⟩:Ai)⟩:Ag) a3) fun r3=>
 (an.lf out r3)))))))))
def El(L:Nat)(a0:Af)(a1:Int)(a2:(List Be))(a3:(List Ab)):Option Int:=U1 (Bq _) L a0 a1 a2 a3 some
theorem e17(L:Nat)(a0:Af)(a1:Int)(a2:(List Be))(a3:(List Ab))(kk:PV→Prop):EW (O17 L) L 9 (RS Tryz.f17) c17 [.agg (Bz a0),I a1,.lst false (.t68 a2),.lst false (.t82 a3)] kk=ob (El L a0 a1 a2 a3) (fun(x:Int)=>kk (I x)):=by
 refine Eq.trans (b:=U1 Bh L a0 a1 a2 a3 (fun(x:Int)=>kk (I x))) (by kernel_rfl) ?_
 generalize (fun(x:Int)=>kk (I x))=Q
 unfold El U1
 dsimp only [Bh,Bq]
 try simp only [y1,y2,y3,y4,y5 Q,y6,y7,y8 Q,y9,z1,z2,z3,z4]
 try simp only [z5,z6,y1,y2,y3,y4,y5 Q,y6,y7,y8 Q,y9,z1,z2,z3,z4]
theorem h17(L:Nat)(a0:Af)(a1:Int)(a2:(List Be))(a3:(List Ab))(r:Int)(h:El L a0 a1 a2 a3=some r):Bc Tryz.prog 17 [.agg (Bz a0),I a1,.lst false (.t68 a2),.lst false (.t82 a3)] (I r):=
 hE Cg (s17 L) mixed Tryz.func17 (by kernel_rfl:C4 Tryz.prog inl Tryz.f17=some c17) (er:=fun(x:Int)=>I x) (by kernel_rfl) (e17 L a0 a1 a2 a3) h
noncomputable def c55:EC:=(C4 Tryz.prog inl Tryz.f55).getD .stop
def O55(F4:(List Ab)→Option Int)(L:Nat):Bi:=(Cp 55 (A1 (fun(x:Int)=>I x) S1 F4) Kg)
theorem s55(F4:(List Ab)→Option Int)(Bdv:∀(y0:(List Ab)) (r:Int),F4 y0=some r→Bc Tryz.prog 55 [.lst false (.t82 y0)] (I r))(L:Nat):Bs Tryz.prog (O55 F4 L):=(Ad (a1 _ Bdv) (Az Tryz.prog))
def Aus(a0:(List Ab))(Ah:Int)(Aj:Int):St:=({ fr:= [(0,.lst false (.t82 a0)),(2,I 0),(3,I Ah),(4,I Aj)],ob:= [],base:=0 } :St)
def Ard(a0:(List Ab))(K:Ex→St→Prop):Nat×(Int×Int)→Prop:=fun o=>Cr o.1 [K (.exit 0) (Aus a0 o.2.1 o.2.2)]
def Nz{A:Type}(an:An A)(F4:(List Ab)→Option Int)(L:Nat)(a0:(List Ab))(rec:Int→Int→A)(out:Nat×(Int×Int)→A)(Ah:Int)(Aj:Int):A:=
 (an.cn (decide (Aj < (a0.length:Int)))
 (an.gd ((0:Int)≤Aj)
 (an.gd (Aj < ((a0.length:Nat):Int))
 (an.bd (F4 ((a0.getD (Int.toNat Aj) default).Body)) fun r1=>
 (an.gd ((0:Int)≤Aj)
 (an.gd (Aj < ((a0.length:Nat):Int))
 (an.bd (F4 ((a0.getD (Int.toNat Aj) default).Else)) fun r2=>
 (rec (if (F9 (1+r2)) > (if (F9 (1+r1)) > Ah then (F9 (1+r1)) else Ah) then (F9 (1+r2)) else (if (F9 (1+r1)) > Ah then (F9 (1+r1)) else Ah)) (F9 (Aj+1)))))))))
 (an.lf out (0,(Ah,Aj))))
def Ld(F4:(List Ab)→Option Int)(L:Nat)(a0:(List Ab)):Nat→Int→Int→Option (Nat×(Int×Int))
 |0,_,_=>none
 |n+1,Ah,Aj=>Nz (Bq _) F4 L a0 (Ld F4 L a0 n) some Ah Aj
theorem Bf0(F4:(List Ab)→Option Int)(L:Nat)(a0:(List Ab))(g:Int→Int→Option (Nat×(Int×Int)))(Q:Nat×(Int×Int)→Prop)(Ah:Int)(Aj:Int):Nz Bh F4 L a0 (fun Ah Aj=>ob (g Ah Aj) Q) Q Ah Aj=ob (Nz (Bq _) F4 L a0 g some Ah Aj) Q:=by
 unfold Nz
 dsimp only [Bh,Bq]
 try simp only [y1,y2,y3,y4,y5 Q,y6,y7,y8 Q,y9,z1,z2,z3,z4]
theorem Bey(F4:(List Ab)→Option Int)(L:Nat)(a0:(List Ab))(n:Nat)(Ah:Int)(Aj:Int)(K:Ex→St→Prop):Bl (EV (O55 F4 L) L 9 c55.r.r.r.r.l.r.r.l.l) [0,2,3,4] [] n (Aus a0 Ah Aj) K=ob (Ld F4 L a0 n Ah Aj) (fun o=>Ard a0 K o):=by
 induction n generalizing Ah Aj with
 |zero=>rfl
 |succ n ih=>
  refine Eq.trans (b:=Nz Bh F4 L a0 (fun Ah Aj=>Bl (EV (O55 F4 L) L 9 c55.r.r.r.r.l.r.r.l.l) [0,2,3,4] [] n (Aus a0 Ah Aj) K) (Ard a0 K) Ah Aj) (by kernel_rfl) ?_
  simp only [ih]
  exact Bf0 F4 L a0 (Ld F4 L a0 n) (Ard a0 K) Ah Aj
def A4w(F4:(List Ab)→Option Int)(L:Nat)(kk:PV→Prop):Ex→St→Prop:=(Ca 0 (Dl (EV (O55 F4 L) L 9 c55.r.r.r.r.r) (Dx Tryz.prog (RS Tryz.f55) kk)))
theorem Bp1(F4:(List Ab)→Option Int)(L:Nat)(a0:(List Ab))(kk:PV→Prop)(o1:Nat×(Int×Int)):Ard a0 (A4w F4 L kk) o1=
 (Cr o1.1 [(ob (some o1.2.1) (fun(x:Int)=>kk (I x)))]):=by kernel_rfl
def Wi{A:Type}(an:An A)(F4:(List Ab)→Option Int)(L:Nat)(a0:(List Ab))(out:Int→A):A:=
 (an.bd (Ld F4 L a0 L 0 0) fun o1=>
 (an.sl o1.1 [(an.lf out o1.2.1)]))
def V7(F4:(List Ab)→Option Int)(L:Nat)(a0:(List Ab)):Option Int:=Wi (Bq _) F4 L a0 some
theorem e55(F4:(List Ab)→Option Int)(L:Nat)(a0:(List Ab))(kk:PV→Prop):EW (O55 F4 L) L 9 (RS Tryz.f55) c55 [.lst false (.t82 a0)] kk=ob (V7 F4 L a0) (fun(x:Int)=>kk (I x)):=by
 refine Eq.trans (b:=Wi Bh F4 L a0 (fun(x:Int)=>kk (I x))) ?_ ?_
 ·refine Eq.trans (b:=(Bl (EV (O55 F4 L) L 9 c55.r.r.r.r.l.r.r.l.l) [0,2,3,4] [] L (Aus a0 0 0) (A4w F4 L kk))) (by kernel_rfl) ?_
  unfold Wi
  dsimp only [Bh]
  simp only [Bey,Bp1]
 generalize (fun(x:Int)=>kk (I x))=Q
 unfold V7 Wi
 dsimp only [Bh,Bq]
 try simp only [y1,y2,y3,y4,y5 Q,y6,y7,y8 Q,y9,z1,z2,z3,z4]
theorem b55(F4:(List Ab)→Option Int)(Bdv:∀(y0:(List Ab)) (r:Int),F4 y0=some r→Bc Tryz.prog 55 [.lst false (.t82 y0)] (I r))(L:Nat)(a0:(List Ab))(r:Int)(h:V7 F4 L a0=some r):Bc Tryz.prog 55 [.lst false (.t82 a0)] (I r):=
 hE Cg (s55 F4 Bdv L) mixed Tryz.func55 (by kernel_rfl:C4 Tryz.prog inl Tryz.f55=some c55) (er:=fun(x:Int)=>I x) (by kernel_rfl) (e55 F4 L a0) h
def Kw:Nat→(List Ab)→Option Int
 |0,_=>none
 |L+1,a0=>V7 (Kw L) L a0
theorem Bdf:∀L,(∀(y0:(List Ab)) (r:Int),Kw L y0=some r→Bc Tryz.prog 55 [.lst false (.t82 y0)] (I r)):=by
 intro L
 induction L with
 |zero=>exact fun _ r h=>(by cases h)
 |succ L ih=>
  have i55:=ih
  exact fun y0 r h=>b55 (Kw L) i55 L y0 r h
theorem h55(L:Nat):∀(y0:(List Ab)) (r:Int),Kw L y0=some r→Bc Tryz.prog 55 [.lst false (.t82 y0)] (I r):=Bdf L
noncomputable def W4:EC:=(C4 Tryz.prog inl Tryz.f183).getD .stop
def Ach(L:Nat):Bi:=Kg
theorem Bt7(L:Nat):Bs Tryz.prog (Ach L):=(Az Tryz.prog)
def A0x:St:=({ fr:= [(2,.loc 2 0),(3,B false)],ob:= [(2,[B false,B false,B false,B false,B false,B false,B false,B false,B false])],base:=0 } :St)
def A0t(L:Nat)(kk:PV→Prop):Ex→St→Prop:=(Dx Tryz.prog (RS Tryz.f183) kk)
def S7{A:Type}(an:An A)(L:Nat)(out:(B4×Bool)→A):A:=
 (an.lf out ((⟨false,false,false,false,false,false,false,false,false⟩:B4),false))
theorem A7v(L:Nat)(kk:PV→Prop):EV (Ach L) L 9 W4.r.r.r.r (A0x) (A0t L kk)=S7 Bh L (fun(x:(B4×Bool))=>kk (.tup [.agg (E7 x.1),B x.2])):=by kernel_rfl
theorem Bal(L:Nat)(Q:(B4×Bool)→Prop):S7 Bh L Q=ob (S7 (Bq _) L some) Q:=by
 unfold S7
 dsimp only [Bh,Bq]
 try simp only [y1,y2,y3,y4,y5 Q,y6,y7,y8 Q,y9,z1,z2,z3,z4]
def Akp(a0:Int)(p803_2:Bool):St:=({ fr:= [(2,.loc 2 0),(3,B false),(4,I a0),(32,B p803_2)],ob:= [(2,[B false,B false,B false,B false,B false,B false,B false,B false,B false])],base:=0 } :St)
def Akm(L:Nat)(e0:EC)(kk:PV→Prop):Ex→St→Prop:=(Ca 0 (Dl (EV (Ach L) L 9 e0) (Dx Tryz.prog (RS Tryz.f183) kk)))
def T9{A:Type}(an:An A)(L:Nat)(a0:Int)(p803_2:Bool)(nx1:A)(out:(B4×Bool)→A):A:=
 (an.cn p803_2
 (an.lf out ((⟨true,false,false,false,false,false,false,false,false⟩:B4),true))
 (an.cn (a0 == 13)
 (an.lf out ((⟨true,true,true,false,true,false,false,false,false⟩:B4),true))
 (an.cn (a0 == 14)
 (an.lf out ((⟨true,false,true,false,true,false,false,false,false⟩:B4),true))
 (an.cn (a0 == 18)
 (an.lf out ((⟨false,false,false,false,false,false,false,false,false⟩:B4),true))
 nx1))))
def Rk{A:Type}(an:An A)(L:Nat)(a0:Int)(p803_2:Bool)(out:(B4×Bool)→A):A:=T9 an L a0 p803_2 (S7 an L out) out
theorem Bae(L:Nat)(a0:Int)(p803_2:Bool)(g1:Option (B4×Bool))(Q:(B4×Bool)→Prop):T9 Bh L a0 p803_2 (ob (g1) Q) Q=ob (T9 (Bq _) L a0 p803_2 g1 some) Q:=by
 unfold T9
 dsimp only [Bh,Bq]
 try simp only [y1,y2,y3,y4,y5 Q,y6,y7,y8 Q,y9,z1,z2,z3,z4]
theorem A70(L:Nat)(a0:Int)(p803_2:Bool)(kk:PV→Prop)(z1:EC):EV (Ach L) L 9 W4.r.r.l.r.r.l.r.r.r.r.r.r.r.r.r.r.r.r.r.r.r.r.r.r.r.r.r.r.r (Akp a0 p803_2) (Akm L (EC.put [false] z1 W4.r.r.r) kk)=T9 Bh L a0 p803_2 (EV (Ach L) L 9 z1 (A0x) (A0t L kk)) (fun(x:(B4×Bool))=>kk (.tup [.agg (E7 x.1),B x.2])):=by kernel_rfl
theorem A7x(L:Nat)(a0:Int)(p803_2:Bool)(kk:PV→Prop):EV (Ach L) L 9 W4.r.r.l.r.r.l.r.r.r.r.r.r.r.r.r.r.r.r.r.r.r.r.r.r.r.r.r.r.r (Akp a0 p803_2) (Akm L W4.r.r.r kk)=Rk Bh L a0 p803_2 (fun(x:(B4×Bool))=>kk (.tup [.agg (E7 x.1),B x.2])):=by
 refine Eq.trans (b:=EV (Ach L) L 9 W4.r.r.l.r.r.l.r.r.r.r.r.r.r.r.r.r.r.r.r.r.r.r.r.r.r.r.r.r.r (Akp a0 p803_2) (Akm L (EC.put [false] W4.r.r.r.r W4.r.r.r) kk)) (by kernel_rfl) ?_
 refine Eq.trans (A70 L a0 p803_2 kk W4.r.r.r.r) ?_
 unfold Rk
 simp only [A7v]
theorem Ban(L:Nat)(a0:Int)(p803_2:Bool)(Q:(B4×Bool)→Prop):Rk Bh L a0 p803_2 Q=ob (Rk (Bq _) L a0 p803_2 some) Q:=by
 unfold Rk
 simp only [Bal]
 exact Bae L a0 p803_2 (S7 (Bq _) L some) Q
def Ako(a0:Int)(p802_2:Bool):St:=({ fr:= [(2,.loc 2 0),(3,B false),(4,I a0),(5,B p802_2)],ob:= [(2,[B false,B false,B false,B false,B false,B false,B false,B false,B false])],base:=0 } :St)
def Akl(L:Nat)(e0:EC)(kk:PV→Prop):Ex→St→Prop:=(Ca 0 (Dl (EV (Ach L) L 9 e0) (Dx Tryz.prog (RS Tryz.f183) kk)))
def T8{A:Type}(an:An A)(L:Nat)(a0:Int)(p802_2:Bool)(nx3:Int→Bool→A)(out:(B4×Bool)→A):A:=
 (an.cn p802_2
 (an.lf out ((⟨true,false,true,false,false,false,false,false,false⟩:B4),true))
 (an.cn (a0 == 2)
 (an.lf out ((⟨true,true,false,false,false,true,false,false,false⟩:B4),true))
 (an.cn (a0 == 3)
 (an.lf out ((⟨false,false,true,false,false,false,false,true,true⟩:B4),true))
 (an.cn (a0 == 4)
 (an.lf out ((⟨false,false,true,false,false,false,false,true,false⟩:B4),true))
 (an.cn (a0 == 5)
 (an.lf out ((⟨false,false,true,false,false,false,false,false,false⟩:B4),true))
 (an.cn (a0 == 6)
 (an.lf out ((⟨true,false,true,true,false,false,true,false,false⟩:B4),true))
 (an.cn (a0 == 9)
 (an.lf out ((⟨true,true,false,false,false,false,false,false,false⟩:B4),true))
 (an.cn (a0 == 10)
 (nx3 a0 (a0 == 10))
 (nx3 a0 (a0 == 11))))))))))
def Rj{A:Type}(an:An A)(L:Nat)(a0:Int)(p802_2:Bool)(out:(B4×Bool)→A):A:=T8 an L a0 p802_2 (fun a0 p803_2=>Rk an L a0 p803_2 out) out
theorem Bad(L:Nat)(a0:Int)(p802_2:Bool)(g3:Int→Bool→Option (B4×Bool))(Q:(B4×Bool)→Prop):T8 Bh L a0 p802_2 (fun a0 p803_2=>ob (g3 a0 p803_2) Q) Q=ob (T8 (Bq _) L a0 p802_2 g3 some) Q:=by
 unfold T8
 dsimp only [Bh,Bq]
 try simp only [y1,y2,y3,y4,y5 Q,y6,y7,y8 Q,y9,z1,z2,z3,z4]
theorem A7z(L:Nat)(a0:Int)(p802_2:Bool)(kk:PV→Prop)(z3:EC):EV (Ach L) L 9 (EC.put [false,false,false,false,false,false,false,false,false,false,false,false,false,false,false,false,false,false,false,false,false] z3 W4.r.r.l.r.r.l.r.r) (Ako a0 p802_2) (Akl L W4.r.r.r kk)=T8 Bh L a0 p802_2 (fun a0 p803_2=>EV (Ach L) L 9 z3 (Akp a0 p803_2) (Akm L W4.r.r.r kk)) (fun(x:(B4×Bool))=>kk (.tup [.agg (E7 x.1),B x.2])):=by kernel_rfl
theorem A7w(L:Nat)(a0:Int)(p802_2:Bool)(kk:PV→Prop):EV (Ach L) L 9 W4.r.r.l.r.r.l.r.r (Ako a0 p802_2) (Akl L W4.r.r.r kk)=Rj Bh L a0 p802_2 (fun(x:(B4×Bool))=>kk (.tup [.agg (E7 x.1),B x.2])):=by
 refine Eq.trans (b:=EV (Ach L) L 9 (EC.put [false,false,false,false,false,false,false,false,false,false,false,false,false,false,false,false,false,false,false,false,false] W4.r.r.l.r.r.l.r.r.r.r.r.r.r.r.r.r.r.r.r.r.r.r.r.r.r.r.r.r.r W4.r.r.l.r.r.l.r.r) (Ako a0 p802_2) (Akl L W4.r.r.r kk)) (by kernel_rfl) ?_
 refine Eq.trans (A7z L a0 p802_2 kk W4.r.r.l.r.r.l.r.r.r.r.r.r.r.r.r.r.r.r.r.r.r.r.r.r.r.r.r.r.r) ?_
 unfold Rj
 simp only [A7x]
theorem Bam(L:Nat)(a0:Int)(p802_2:Bool)(Q:(B4×Bool)→Prop):Rj Bh L a0 p802_2 Q=ob (Rj (Bq _) L a0 p802_2 some) Q:=by
 unfold Rj
 simp only [Ban]
 exact Bad L a0 p802_2 (fun a0 p803_2=>Rk (Bq _) L a0 p803_2 some) Q
def T7{A:Type}(an:An A)(L:Nat)(a0:Int)(nx2:Int→Bool→A)(out:(B4×Bool)→A):A:=
 (an.cn (a0 == 1)
 (nx2 a0 (a0 == 1))
 (an.cn (a0 == 7)
 (nx2 a0 (a0 == 7))
 (an.cn (a0 == 8)
 (nx2 a0 (a0 == 8))
 (an.cn (a0 == 12)
 (nx2 a0 (a0 == 12))
 (an.cn (a0 == 15)
 (nx2 a0 (a0 == 15))
 (an.cn (a0 == 16)
 (nx2 a0 (a0 == 16))
 (nx2 a0 (a0 == 17))))))))
def Ak0{A:Type}(an:An A)(L:Nat)(a0:Int)(out:(B4×Bool)→A):A:=T7 an L a0 (fun a0 p802_2=>Rj an L a0 p802_2 out) out
theorem Bac(L:Nat)(a0:Int)(g2:Int→Bool→Option (B4×Bool))(Q:(B4×Bool)→Prop):T7 Bh L a0 (fun a0 p802_2=>ob (g2 a0 p802_2) Q) Q=ob (T7 (Bq _) L a0 g2 some) Q:=by
 unfold T7
 dsimp only [Bh,Bq]
 try simp only [y1,y2,y3,y4,y5 Q,y6,y7,y8 Q,y9,z1,z2,z3,z4]
theorem A7y(L:Nat)(a0:Int)(kk:PV→Prop)(z2:EC):EW (Ach L) L 9 (RS Tryz.f183) (EC.put [false,false,true,false,false,true,false,false] z2 W4) [I a0] kk=T7 Bh L a0 (fun a0 p802_2=>EV (Ach L) L 9 z2 (Ako a0 p802_2) (Akl L W4.r.r.r kk)) (fun(x:(B4×Bool))=>kk (.tup [.agg (E7 x.1),B x.2])):=by kernel_rfl
def Tk(L:Nat)(a0:Int):Option (B4×Bool):=Ak0 (Bq _) L a0 some
theorem Br7(L:Nat)(a0:Int)(kk:PV→Prop):EW (Ach L) L 9 (RS Tryz.f183) W4 [I a0] kk=ob (Tk L a0) (fun(x:(B4×Bool))=>kk (.tup [.agg (E7 x.1),B x.2])):=by
 refine Eq.trans (b:=EW (Ach L) L 9 (RS Tryz.f183) (EC.put [false,false,true,false,false,true,false,false] W4.r.r.l.r.r.l.r.r W4) [I a0] kk) (by kernel_rfl) ?_
 refine Eq.trans (A7y L a0 kk W4.r.r.l.r.r.l.r.r) ?_
 simp only [A7w]
 generalize (fun(x:(B4×Bool))=>kk (.tup [.agg (E7 x.1),B x.2]))=Q
 simp only [Bam]
 unfold Tk Ak0
 exact Bac L a0 (fun a0 p802_2=>Rj (Bq _) L a0 p802_2 some) Q
theorem Bc4(L:Nat)(a0:Int)(r:(B4×Bool))(h:Tk L a0=some r):Bc Tryz.prog 183 [I a0] (.tup [.agg (E7 r.1),B r.2]):=
 hE Cg (Bt7 L) mixed Tryz.func183 (by kernel_rfl:C4 Tryz.prog inl Tryz.f183=some W4) (er:=fun(x:(B4×Bool))=> .tup [.agg (E7 x.1),B x.2]) (by kernel_rfl) (Br7 L a0) h
noncomputable def Bmm:EC:=(C4 Tryz.prog inl Tryz.f221).getD .stop
def Bld(L:Nat):Bi:=Kg
theorem Bun(L:Nat):Bs Tryz.prog (Bld L):=(Az Tryz.prog)
def n5{A:Type}(an:An A)(L:Nat)(a0:Aa)(out:Bool→A):A:=
 (an.jp (bif (a0.Op == 0) then (a0.Name.toList == (⟨#[]⟩:ByteArray).toList)
 else false) (fun j=>(an.cn (a0.Op == 0)
 (an.ap j (a0.Name.toList == (⟨#[]⟩:ByteArray).toList))
 (an.ap j false))) (fun b1=>
 (an.jp (bif b1 then (a0.N == 0)
 else false) (fun j=>(an.cn b1
 (an.ap j (a0.N == 0))
 (an.ap j false))) (fun b2=>
 (an.jp (bif b2 then ((a0.Kids.length:Int) == 0)
 else false) (fun j=>(an.cn b2
 (an.ap j ((a0.Kids.length:Int) == 0))
 (an.ap j false))) (fun b3=>
 (an.lf out b3)))))))
def Nq(L:Nat)(a0:Aa):Option Bool:=n5 (Bq _) L a0 some
theorem Bsn(L:Nat)(a0:Aa)(kk:PV→Prop):EW (Bld L) L 9 (RS Tryz.f221) Bmm [.agg (Ay a0)] kk=ob (Nq L a0) (fun(x:Bool)=>kk (B x)):=by
 refine Eq.trans (b:=n5 Bh L a0 (fun(x:Bool)=>kk (B x))) (by kernel_rfl) ?_
 generalize (fun(x:Bool)=>kk (B x))=Q
 unfold Nq n5
 dsimp only [Bh,Bq]
 try simp only [y1,y2,y3,y4,y5 Q,y6,y7,y8 Q,y9,z1,z2,z3,z4]
theorem Bns(L:Nat)(a0:Aa)(r:Bool)(h:Nq L a0=some r):Bc Tryz.prog 221 [.agg (Ay a0)] (B r):=
 hE Cg (Bun L) mixed Tryz.func221 (by kernel_rfl:C4 Tryz.prog inl Tryz.f221=some Bmm) (er:=fun(x:Bool)=>B x) (by kernel_rfl) (Bsn L a0) h
noncomputable def A1w:EC:=(C4 Tryz.prog inl Tryz.f233).getD .stop
def A1e(L:Nat):Bi:=Kg
theorem Bus(L:Nat):Bs Tryz.prog (A1e L):=(Az Tryz.prog)
def Af0(a0:(List Int))(a1:(List Int))(Ah:Bool)(Aj:Int):St:=({ fr:= [(0,.lst false (.t3 a0)),(1,.lst false (.t3 a1)),(4,B Ah),(5,I Aj)],ob:= [],base:=0 } :St)
def Akf(a0:(List Int))(a1:(List Int))(K:Ex→St→Prop):Nat×(Bool×Int)→Prop:=fun o=>Cr o.1 [K .ret (Af0 a0 a1 o.2.1 o.2.2),K (.exit 0) (Af0 a0 a1 o.2.1 o.2.2)]
def Iz{A:Type}(an:An A)(L:Nat)(a0:(List Int))(a1:(List Int))(rec:Bool→Int→A)(out:Nat×(Bool×Int)→A)(Ah:Bool)(Aj:Int):A:=
 (an.cn (decide (Aj < (a0.length:Int)))
 (an.gd ((0:Int)≤Aj)
 (an.gd (Aj < ((a0.length:Nat):Int))
 (an.gd ((0:Int)≤Aj)
 (an.gd (Aj < ((a1.length:Nat):Int))
 (an.cn ((a0.getD (Int.toNat Aj) default) != (a1.getD (Int.toNat Aj) default))
 (an.lf out (0,(false,Aj)))
 (rec Ah (F9 (Aj+1))))))))
 (an.lf out (1,(Ah,Aj))))
def He(L:Nat)(a0:(List Int))(a1:(List Int)):Nat→Bool→Int→Option (Nat×(Bool×Int))
 |0,_,_=>none
 |n+1,Ah,Aj=>Iz (Bq _) L a0 a1 (He L a0 a1 n) some Ah Aj
theorem A9p(L:Nat)(a0:(List Int))(a1:(List Int))(g:Bool→Int→Option (Nat×(Bool×Int)))(Q:Nat×(Bool×Int)→Prop)(Ah:Bool)(Aj:Int):Iz Bh L a0 a1 (fun Ah Aj=>ob (g Ah Aj) Q) Q Ah Aj=ob (Iz (Bq _) L a0 a1 g some Ah Aj) Q:=by
 unfold Iz
 dsimp only [Bh,Bq]
 try simp only [y1,y2,y3,y4,y5 Q,y6,y7,y8 Q,y9,z1,z2,z3,z4]
theorem A86(L:Nat)(a0:(List Int))(a1:(List Int))(n:Nat)(Ah:Bool)(Aj:Int)(K:Ex→St→Prop):Bl (EV (A1e L) L 9 A1w.r.r.r.r.l.r.r.l.l) [0,1,4,5] [] n (Af0 a0 a1 Ah Aj) K=ob (He L a0 a1 n Ah Aj) (fun o=>Akf a0 a1 K o):=by
 induction n generalizing Ah Aj with
 |zero=>rfl
 |succ n ih=>
  refine Eq.trans (b:=Iz Bh L a0 a1 (fun Ah Aj=>Bl (EV (A1e L) L 9 A1w.r.r.r.r.l.r.r.l.l) [0,1,4,5] [] n (Af0 a0 a1 Ah Aj) K) (Akf a0 a1 K) Ah Aj) (by kernel_rfl) ?_
  simp only [ih]
  exact A9p L a0 a1 (He L a0 a1 n) (Akf a0 a1 K) Ah Aj
def A0s(L:Nat)(kk:PV→Prop):Ex→St→Prop:=(Ca 0 (Dl (EV (A1e L) L 9 A1w.r.r.r.r.r) (Dx Tryz.prog (RS Tryz.f233) kk)))
theorem Bhk(L:Nat)(a0:(List Int))(a1:(List Int))(kk:PV→Prop)(o1:Nat×(Bool×Int)):Akf a0 a1 (A0s L kk) o1=
 (Cr o1.1 [(ob (some o1.2.1) (fun(x:Bool)=>kk (B x))),
 (ob (some true) (fun(x:Bool)=>kk (B x)))]):=by kernel_rfl
def Sy{A:Type}(an:An A)(L:Nat)(a0:(List Int))(a1:(List Int))(out:Bool→A):A:=
 (an.cn ((a0.length:Int) != (a1.length:Int))
 (an.lf out false)
 (an.bd (He L a0 a1 L false 0) fun o1=>
 (an.sl o1.1 [(an.lf out o1.2.1),
 (an.lf out true)])))
def Gj(L:Nat)(a0:(List Int))(a1:(List Int)):Option Bool:=Sy (Bq _) L a0 a1 some
theorem Bss(L:Nat)(a0:(List Int))(a1:(List Int))(kk:PV→Prop):EW (A1e L) L 9 (RS Tryz.f233) A1w [.lst false (.t3 a0),.lst false (.t3 a1)] kk=ob (Gj L a0 a1) (fun(x:Bool)=>kk (B x)):=by
 refine Eq.trans (b:=Sy Bh L a0 a1 (fun(x:Bool)=>kk (B x))) ?_ ?_
 ·refine Eq.trans (b:=(br ((a0.length:Int) != (a1.length:Int))
 (ob (some false) (fun(x:Bool)=>kk (B x)))
 (Bl (EV (A1e L) L 9 A1w.r.r.r.r.l.r.r.l.l) [0,1,4,5] [] L (Af0 a0 a1 false 0) (A0s L kk)))) (by kernel_rfl) ?_
  unfold Sy
  dsimp only [Bh]
  simp only [A86,Bhk]
 generalize (fun(x:Bool)=>kk (B x))=Q
 unfold Gj Sy
 dsimp only [Bh,Bq]
 try simp only [y1,y2,y3,y4,y5 Q,y6,y7,y8 Q,y9,z1,z2,z3,z4]
theorem Bnw(L:Nat)(a0:(List Int))(a1:(List Int))(r:Bool)(h:Gj L a0 a1=some r):Bc Tryz.prog 233 [.lst false (.t3 a0),.lst false (.t3 a1)] (B r):=
 hE Cg (Bus L) mixed Tryz.func233 (by kernel_rfl:C4 Tryz.prog inl Tryz.f233=some A1w) (er:=fun(x:Bool)=>B x) (by kernel_rfl) (Bss L a0 a1) h
noncomputable def Bmn:EC:=(C4 Tryz.prog inl Tryz.f222).getD .stop
def Ble(L:Nat):Bi:=(Cp 233 (A2 (fun(x:Bool)=>B x) cl3 cl3 (Gj L)) Kg)
theorem Buo(L:Nat):Bs Tryz.prog (Ble L):=(Ad (a2 _ (Bnw L)) (Az Tryz.prog))
def m8{A:Type}(an:An A)(L:Nat)(a0:Bo)(a1:Bo)(out:Bool→A):A:=
 (an.jp (bif (a0.Op == a1.Op) then (a0.A == a1.A)
 else false) (fun j=>(an.cn (a0.Op == a1.Op)
 (an.ap j (a0.A == a1.A))
 (an.ap j false))) (fun b1=>
 (an.jp (bif b1 then (a0.B == a1.B)
 else false) (fun j=>(an.cn b1
 (an.ap j (a0.B == a1.B))
 (an.ap j false))) (fun b2=>
 (an.jp (bif b2 then (a0.N == a1.N)
 else false) (fun j=>(an.cn b2
 (an.ap j (a0.N == a1.N))
 (an.ap j false))) (fun b3=>
 (an.jb (bif b3 then (Option.bind (Gj L a0.Values a1.Values) fun r5=>
 (some r5))
 else (some false)) (fun j=>(an.cn b3
 (an.bd (Gj L a0.Values a1.Values) fun r6=>
 (an.lf j r6))
 (an.lf j false))) (fun b4=>
 (an.jb (bif b4 then (Option.bind (Gj L a0.Weights a1.Weights) fun r8=>
 (some r8))
 else (some false)) (fun j=>(an.cn b4
 (an.bd (Gj L a0.Weights a1.Weights) fun r9=>
 (an.lf j r9))
 (an.lf j false))) (fun b7=>
 (an.lf out b7)))))))))))
def Ss(L:Nat)(a0:Bo)(a1:Bo):Option Bool:=m8 (Bq _) L a0 a1 some
theorem Bso(L:Nat)(a0:Bo)(a1:Bo)(kk:PV→Prop):EW (Ble L) L 9 (RS Tryz.f222) Bmn [.agg (C9 a0),.agg (C9 a1)] kk=ob (Ss L a0 a1) (fun(x:Bool)=>kk (B x)):=by
 refine Eq.trans (b:=m8 Bh L a0 a1 (fun(x:Bool)=>kk (B x))) (by kernel_rfl) ?_
 generalize (fun(x:Bool)=>kk (B x))=Q
 unfold Ss m8
 dsimp only [Bh,Bq]
 try simp only [y1,y2,y3,y4,y5 Q,y6,y7,y8 Q,y9,z1,z2,z3,z4]
theorem Bnt(L:Nat)(a0:Bo)(a1:Bo)(r:Bool)(h:Ss L a0 a1=some r):Bc Tryz.prog 222 [.agg (C9 a0),.agg (C9 a1)] (B r):=
 hE Cg (Buo L) mixed Tryz.func222 (by kernel_rfl:C4 Tryz.prog inl Tryz.f222=some Bmn) (er:=fun(x:Bool)=>B x) (by kernel_rfl) (Bso L a0 a1) h
noncomputable def Bmc:EC:=(C4 Tryz.prog inl Tryz.f184).getD .stop
def Bk3(L:Nat):Bi:=(Cp 183 (A1 (fun(x:(B4×Bool))=> .tup [.agg (E7 x.1),B x.2]) (cI .i64) (Tk L)) (Cp 221 (A1 (fun(x:Bool)=>B x) Bm (Nq L)) (Cp 222 (A2 (fun(x:Bool)=>B x) Ei Ei (Ss L)) Kg)))
theorem Bt8(L:Nat):Bs Tryz.prog (Bk3 L):=(Ad (a1 _ (Bc4 L)) (Ad (a1 _ (Bns L)) (Ad (a2 _ (Bnt L)) (Az Tryz.prog))))
def Xl{A:Type}(an:An A)(L:Nat)(a0:Ab)(out:Bool→A):A:=
 (an.bd (Tk L a0.Op) fun r1=>
 (an.jp (bif r1.1.Name then true
 else (a0.Name.toList == (⟨#[]⟩:ByteArray).toList)) (fun j=>(an.cn r1.1.Name
 (an.ap j true)
 (an.ap j (a0.Name.toList == (⟨#[]⟩:ByteArray).toList)))) (fun b2=>
 (an.jp (bif b2 then (bif r1.1.Of then true
 else (a0.Of.toList == (⟨#[]⟩:ByteArray).toList))
 else false) (fun j=>(an.cn b2
 (an.cn r1.1.Of
 (an.ap j true)
 (an.ap j (a0.Of.toList == (⟨#[]⟩:ByteArray).toList)))
 (an.ap j false))) (fun b3=>
 (an.jb (bif r1.1.E then (some true)
 else (Option.bind (Nq L (Aa.cp a0.E)) fun r5=>
 (some r5))) (fun j=>(an.cn r1.1.E
 (an.lf j true)
 (an.bd (Nq L (Aa.cp a0.E)) fun r6=>
 (an.lf j r6)))) (fun b4=>
 (an.jb (bif b4 then (bif r1.1.F then (some true)
 else (Option.bind (Nq L (Aa.cp a0.F)) fun r8=>
 (some r8)))
 else (some false)) (fun j=>(an.cn b4
 (an.cn r1.1.F
 (an.lf j true)
 (an.bd (Nq L (Aa.cp a0.F)) fun r9=>
 (an.lf j r9)))
 (an.lf j false))) (fun b7=>
 (an.jp (bif b7 then (bif r1.1.Args then true
 else ((a0.Args.length:Int) == 0))
 else false) (fun j=>(an.cn b7
 (an.cn r1.1.Args
 (an.ap j true)
 (an.ap j ((a0.Args.length:Int) == 0)))
 (an.ap j false))) (fun b10=>
 (an.jp (bif r1.1.Body then true
 else ((a0.Body.length:Int) == 0)) (fun j=>(an.cn r1.1.Body
 (an.ap j true)
 (an.ap j ((a0.Body.length:Int) == 0)))) (fun b11=>
 (an.jp (bif b11 then (bif r1.1.Else then true
 else ((a0.Else.length:Int) == 0))
 else false) (fun j=>(an.cn b11
 (an.cn r1.1.Else
 (an.ap j true)
 (an.ap j ((a0.Else.length:Int) == 0)))
 (an.ap j false))) (fun b12=>
 (an.jp (bif r1.2 then b3
 else false) (fun j=>(an.cn r1.2
 (an.ap j b3)
 (an.ap j false))) (fun b13=>
 (an.jp (bif b13 then b10
 else false) (fun j=>(an.cn b13
 (an.ap j b10)
 (an.ap j false))) (fun b14=>
 (an.jp (bif b14 then b12
 else false) (fun j=>(an.cn b14
 (an.ap j b12)
 (an.ap j false))) (fun b15=>
 (an.cn b15
 (an.cn r1.1.Dist
 (an.nj (an.jp (bif r1.1.Flag then true
 else (!a0.Flag)) (fun j=>(an.cn r1.1.Flag
 (an.ap j true)
 (an.ap j (!a0.Flag)))) (fun b16=>
 (an.lf out b16))))
 (an.bd (Ss L a0.Dist (⟨0,0,0,0,[],[]⟩:Bo)) fun r17=>
 (an.nj (an.jp (bif r17 then (bif r1.1.Flag then true
 else (!a0.Flag))
 else false) (fun j=>(an.cn r17
 (an.cn r1.1.Flag
 (an.ap j true)
 (an.ap j (!a0.Flag)))
 (an.ap j false))) (fun b18=>
 (an.lf out b18))))))
 (an.nj (an.nj (an.lf out false)))))))))))))))))))))))))
def Oz(L:Nat)(a0:Ab):Option Bool:=Xl (Bq _) L a0 some
theorem Br8(L:Nat)(a0:Ab)(kk:PV→Prop):EW (Bk3 L) L 9 (RS Tryz.f184) Bmc [.agg (B2 a0)] kk=ob (Oz L a0) (fun(x:Bool)=>kk (B x)):=by
 refine Eq.trans (b:=Xl Bh L a0 (fun(x:Bool)=>kk (B x))) (by kernel_rfl) ?_
 generalize (fun(x:Bool)=>kk (B x))=Q
 unfold Oz Xl
 dsimp only [Bh,Bq]
 try simp only [y1,y2,y3,y4,y5 Q,y6,y7,y8 Q,y9,z1,z2,z3,z4]
theorem Bne(L:Nat)(a0:Ab)(r:Bool)(h:Oz L a0=some r):Bc Tryz.prog 184 [.agg (B2 a0)] (B r):=
 hE Cg (Bt8 L) mixed Tryz.func184 (by kernel_rfl:C4 Tryz.prog inl Tryz.f184=some Bmc) (er:=fun(x:Bool)=>B x) (by kernel_rfl) (Br8 L a0) h
noncomputable def Bl3:EC:=(C4 Tryz.prog inl Tryz.f139).getD .stop
def Bku(L:Nat):Bi:=Kg
theorem Btr(L:Nat):Bs Tryz.prog (Bku L):=(Az Tryz.prog)
def Xj{A:Type}(an:An A)(L:Nat)(a0:Int)(out:Bool→A):A:=
 (an.jp (bif (decide (a0≥97)) then (decide (a0≤122))
 else false) (fun j=>(an.cn (decide (a0≥97))
 (an.ap j (decide (a0≤122)))
 (an.ap j false))) (fun b1=>
 (an.lf out b1)))
def Ih(L:Nat)(a0:Int):Option Bool:=Xj (Bq _) L a0 some
theorem Brr(L:Nat)(a0:Int)(kk:PV→Prop):EW (Bku L) L 9 (RS Tryz.f139) Bl3 [V .u8 a0] kk=ob (Ih L a0) (fun(x:Bool)=>kk (B x)):=by
 refine Eq.trans (b:=Xj Bh L a0 (fun(x:Bool)=>kk (B x))) (by kernel_rfl) ?_
 generalize (fun(x:Bool)=>kk (B x))=Q
 unfold Ih Xj
 dsimp only [Bh,Bq]
 try simp only [y1,y2,y3,y4,y5 Q,y6,y7,y8 Q,y9,z1,z2,z3,z4]
theorem Bm0(L:Nat)(a0:Int)(r:Bool)(h:Ih L a0=some r):Bc Tryz.prog 139 [V .u8 a0] (B r):=
 hE Cg (Btr L) mixed Tryz.func139 (by kernel_rfl:C4 Tryz.prog inl Tryz.f139=some Bl3) (er:=fun(x:Bool)=>B x) (by kernel_rfl) (Brr L a0) h
noncomputable def Bmg:EC:=(C4 Tryz.prog inl Tryz.f202).getD .stop
def Bk7(L:Nat):Bi:=Kg
theorem Buf(L:Nat):Bs Tryz.prog (Bk7 L):=(Az Tryz.prog)
def X6{A:Type}(an:An A)(L:Nat)(out:(List ByteArray)→A):A:=
 (an.lf out [(⟨#[97,100,100]⟩:ByteArray),(⟨#[97,102,116,101,114]⟩:ByteArray),(⟨#[97,110,100]⟩:ByteArray),(⟨#[97,116]⟩:ByteArray),(⟨#[98,101,108,116]⟩:ByteArray),(⟨#[98,111,111,108]⟩:ByteArray),(⟨#[99,111,110,115,101,114,118,101]⟩:ByteArray),(⟨#[99,111,110,115,116]⟩:ByteArray),(⟨#[99,111,117,110,116]⟩:ByteArray),(⟨#[99,121,99,108,101]⟩:ByteArray),(⟨#[100,111,119,110]⟩:ByteArray),(⟨#[100,114,97,119]⟩:ByteArray),(⟨#[100,117,114]⟩:ByteArray),(⟨#[101,108,115,101]⟩:ByteArray),(⟨#[101,110,100]⟩:ByteArray),(⟨#[101,118,101,114,121]⟩:ByteArray),(⟨#[102,97,108,115,101]⟩:ByteArray),(⟨#[102,97,117,108,116]⟩:ByteArray),(⟨#[102,105,102,111]⟩:ByteArray),(⟨#[102,114,101,101]⟩:ByteArray),(⟨#[102,114,111,109]⟩:ByteArray),(⟨#[103,101,111,109]⟩:ByteArray),(⟨#[103,101,116]⟩:ByteArray),(⟨#[104,111,108,100]⟩:ByteArray),(⟨#[105,102]⟩:ByteArray),(⟨#[105,110,116]⟩:ByteArray),(⟨#[105,110,116,111]⟩:ByteArray),(⟨#[108,101,97,115,116]⟩:ByteArray),(⟨#[108,101,118,101,108]⟩:ByteArray),(⟨#[108,105,102,111]⟩:ByteArray),(⟨#[108,105,110,107]⟩:ByteArray),(⟨#[108,111,99,97,108]⟩:ByteArray),(⟨#[109,97,120]⟩:ByteArray),(⟨#[109,105,110]⟩:ByteArray),(⟨#[109,111,100,101,108]⟩:ByteArray),(⟨#[110,111,116]⟩:ByteArray),(⟨#[110,111,119]⟩:ByteArray),(⟨#[111,98,115,101,114,118,101]⟩:ByteArray),(⟨#[111,114]⟩:ByteArray),(⟨#[112,97,114,97,109]⟩:ByteArray),(⟨#[112,114,101,101,109,112,116]⟩:ByteArray),(⟨#[112,114,105,111]⟩:ByteArray),(⟨#[112,117,116]⟩:ByteArray),(⟨#[113,117,101,117,101]⟩:ByteArray),(⟨#[114,101,108,101,97,115,101]⟩:ByteArray),(⟨#[114,101,115,111,117,114,99,101]⟩:ByteArray),(⟨#[114,105,100,101]⟩:ByteArray),(⟨#[114,111,117,116,105,110,101]⟩:ByteArray),(⟨#[115,101,105,122,101]⟩:ByteArray),(⟨#[115,101,110,100]⟩:ByteArray),(⟨#[115,101,116]⟩:ByteArray),(⟨#[115,104,105,102,116]⟩:ByteArray),(⟨#[115,105,103,110,97,108]⟩:ByteArray),(⟨#[115,105,116,101]⟩:ByteArray),(⟨#[115,105,122,101]⟩:ByteArray),(⟨#[115,112,97,119,110]⟩:ByteArray),(⟨#[115,116,97,114,116]⟩:ByteArray),(⟨#[115,116,111,112]⟩:ByteArray),(⟨#[115,116,111,114,101]⟩:ByteArray),(⟨#[115,116,114,101,97,109]⟩:ByteArray),(⟨#[115,117,109]⟩:ByteArray),(⟨#[116,97,98,108,101]⟩:ByteArray),(⟨#[116,97,108,108,121]⟩:ByteArray),(⟨#[116,105,99,107,115]⟩:ByteArray),(⟨#[116,105,109,101]⟩:ByteArray),(⟨#[116,114,117,101]⟩:ByteArray),(⟨#[117,110,105,102,111,114,109]⟩:ByteArray),(⟨#[117,110,116,105,108]⟩:ByteArray),(⟨#[117,112]⟩:ByteArray),(⟨#[118,97,114]⟩:ByteArray),(⟨#[119,97,105,116]⟩:ByteArray),(⟨#[119,97,105,116,105,110,103]⟩:ByteArray),(⟨#[119,104,105,108,101]⟩:ByteArray)])
def No(L:Nat):Option (List ByteArray):=X6 (Bq _) L some
theorem Bsf(L:Nat)(kk:PV→Prop):EW (Bk7 L) L 9 (RS Tryz.f202) Bmg [] kk=ob (No L) (fun(x:(List ByteArray))=>kk (.lst false (.t9 x))):=by
 refine Eq.trans (b:=X6 Bh L (fun(x:(List ByteArray))=>kk (.lst false (.t9 x)))) (by kernel_rfl) ?_
 generalize (fun(x:(List ByteArray))=>kk (.lst false (.t9 x)))=Q
 unfold No X6
 dsimp only [Bh,Bq]
 try simp only [y1,y2,y3,y4,y5 Q,y6,y7,y8 Q,y9,z1,z2,z3,z4]
theorem Bnl(L:Nat)(r:(List ByteArray))(h:No L=some r):Bc Tryz.prog 202 [] (.lst false (.t9 r)):=
 hE Cg (Buf L) mixed Tryz.func202 (by kernel_rfl:C4 Tryz.prog inl Tryz.f202=some Bmg) (er:=fun(x:(List ByteArray))=> .lst false (.t9 x)) (by kernel_rfl) (Bsf L) h
noncomputable def A1n:EC:=(C4 Tryz.prog inl Tryz.f143).getD .stop
def A05(L:Nat):Bi:=Kg
theorem Btt(L:Nat):Bs Tryz.prog (A05 L):=(Az Tryz.prog)
def Afp(a0:(List ByteArray))(a1:ByteArray)(Ah:Int)(Aj:Int):St:=({ fr:= [(0,.lst false (.t9 a0)),(1,S a1),(4,I Ah),(5,I Aj)],ob:= [],base:=0 } :St)
def Ajz(a0:(List ByteArray))(a1:ByteArray)(K:Ex→St→Prop):Nat×(Int×Int)→Prop:=fun o=>Cr o.1 [K .ret (Afp a0 a1 o.2.1 o.2.2),K (.exit 0) (Afp a0 a1 o.2.1 o.2.2)]
def Pu{A:Type}(an:An A)(L:Nat)(a0:(List ByteArray))(a1:ByteArray)(rec:Int→Int→A)(out:Nat×(Int×Int)→A)(Ah:Int)(Aj:Int):A:=
 (an.cn (decide (Aj < (a0.length:Int)))
 (an.gd ((0:Int)≤Aj)
 (an.gd (Aj < ((a0.length:Nat):Int))
 (an.cn ((a0.getD (Int.toNat Aj) default).toList == a1.toList)
 (an.lf out (0,(Aj,Aj)))
 (rec Ah (F9 (Aj+1))))))
 (an.lf out (1,(Ah,Aj))))
def M7(L:Nat)(a0:(List ByteArray))(a1:ByteArray):Nat→Int→Int→Option (Nat×(Int×Int))
 |0,_,_=>none
 |n+1,Ah,Aj=>Pu (Bq _) L a0 a1 (M7 L a0 a1 n) some Ah Aj
theorem A88(L:Nat)(a0:(List ByteArray))(a1:ByteArray)(g:Int→Int→Option (Nat×(Int×Int)))(Q:Nat×(Int×Int)→Prop)(Ah:Int)(Aj:Int):Pu Bh L a0 a1 (fun Ah Aj=>ob (g Ah Aj) Q) Q Ah Aj=ob (Pu (Bq _) L a0 a1 g some Ah Aj) Q:=by
 unfold Pu
 dsimp only [Bh,Bq]
 try simp only [y1,y2,y3,y4,y5 Q,y6,y7,y8 Q,y9,z1,z2,z3,z4]
theorem A8p(L:Nat)(a0:(List ByteArray))(a1:ByteArray)(n:Nat)(Ah:Int)(Aj:Int)(K:Ex→St→Prop):Bl (EV (A05 L) L 9 A1n.r.r.l.r.r.l.l) [0,1,4,5] [] n (Afp a0 a1 Ah Aj) K=ob (M7 L a0 a1 n Ah Aj) (fun o=>Ajz a0 a1 K o):=by
 induction n generalizing Ah Aj with
 |zero=>rfl
 |succ n ih=>
  refine Eq.trans (b:=Pu Bh L a0 a1 (fun Ah Aj=>Bl (EV (A05 L) L 9 A1n.r.r.l.r.r.l.l) [0,1,4,5] [] n (Afp a0 a1 Ah Aj) K) (Ajz a0 a1 K) Ah Aj) (by kernel_rfl) ?_
  simp only [ih]
  exact A88 L a0 a1 (M7 L a0 a1 n) (Ajz a0 a1 K) Ah Aj
def Az2(L:Nat)(kk:PV→Prop):Ex→St→Prop:=(Ca 0 (Dl (EV (A05 L) L 9 A1n.r.r.r) (Dx Tryz.prog (RS Tryz.f143) kk)))
theorem Bgu(L:Nat)(a0:(List ByteArray))(a1:ByteArray)(kk:PV→Prop)(o1:Nat×(Int×Int)):Ajz a0 a1 (Az2 L kk) o1=
 (Cr o1.1 [(ob (some o1.2.1) (fun(x:Int)=>kk (I x))),
 (ob (some (-1)) (fun(x:Int)=>kk (I x)))]):=by kernel_rfl
def X5{A:Type}(an:An A)(L:Nat)(a0:(List ByteArray))(a1:ByteArray)(out:Int→A):A:=
 (an.bd (M7 L a0 a1 L 0 0) fun o1=>
 (an.sl o1.1 [(an.lf out o1.2.1),
 (an.lf out (-1))]))
def G9(L:Nat)(a0:(List ByteArray))(a1:ByteArray):Option Int:=X5 (Bq _) L a0 a1 some
theorem Brt(L:Nat)(a0:(List ByteArray))(a1:ByteArray)(kk:PV→Prop):EW (A05 L) L 9 (RS Tryz.f143) A1n [.lst false (.t9 a0),S a1] kk=ob (G9 L a0 a1) (fun(x:Int)=>kk (I x)):=by
 refine Eq.trans (b:=X5 Bh L a0 a1 (fun(x:Int)=>kk (I x))) ?_ ?_
 ·refine Eq.trans (b:=(Bl (EV (A05 L) L 9 A1n.r.r.l.r.r.l.l) [0,1,4,5] [] L (Afp a0 a1 0 0) (Az2 L kk))) (by kernel_rfl) ?_
  unfold X5
  dsimp only [Bh]
  simp only [A8p,Bgu]
 generalize (fun(x:Int)=>kk (I x))=Q
 unfold G9 X5
 dsimp only [Bh,Bq]
 try simp only [y1,y2,y3,y4,y5 Q,y6,y7,y8 Q,y9,z1,z2,z3,z4]
theorem A77(L:Nat)(a0:(List ByteArray))(a1:ByteArray)(r:Int)(h:G9 L a0 a1=some r):Bc Tryz.prog 143 [.lst false (.t9 a0),S a1] (I r):=
 hE Cg (Btt L) mixed Tryz.func143 (by kernel_rfl:C4 Tryz.prog inl Tryz.f143=some A1n) (er:=fun(x:Int)=>I x) (by kernel_rfl) (Brt L a0 a1) h
noncomputable def Bl4:EC:=(C4 Tryz.prog inl Tryz.f140).getD .stop
def Bkv(L:Nat):Bi:=(Cp 143 (A2 (fun(x:Int)=>I x) cl9 cS (G9 L)) (Cp 202 (A0 (fun(x:(List ByteArray))=> .lst false (.t9 x)) (No L)) Kg))
theorem Bts(L:Nat):Bs Tryz.prog (Bkv L):=(Ad (a2 _ (A77 L)) (Ad (a0 _ (Bnl L)) (Az Tryz.prog)))
def Vw{A:Type}(an:An A)(L:Nat)(a0:ByteArray)(out:Bool→A):A:=
 (an.bd (No L) fun r1=>
 (an.bd (G9 L r1 a0) fun r2=>
 (an.lf out (decide (r2≥0)))))
def Ic(L:Nat)(a0:ByteArray):Option Bool:=Vw (Bq _) L a0 some
theorem Brs(L:Nat)(a0:ByteArray)(kk:PV→Prop):EW (Bkv L) L 9 (RS Tryz.f140) Bl4 [S a0] kk=ob (Ic L a0) (fun(x:Bool)=>kk (B x)):=by
 refine Eq.trans (b:=Vw Bh L a0 (fun(x:Bool)=>kk (B x))) (by kernel_rfl) ?_
 generalize (fun(x:Bool)=>kk (B x))=Q
 unfold Ic Vw
 dsimp only [Bh,Bq]
 try simp only [y1,y2,y3,y4,y5 Q,y6,y7,y8 Q,y9,z1,z2,z3,z4]
theorem Bm1(L:Nat)(a0:ByteArray)(r:Bool)(h:Ic L a0=some r):Bc Tryz.prog 140 [S a0] (B r):=
 hE Cg (Bts L) mixed Tryz.func140 (by kernel_rfl:C4 Tryz.prog inl Tryz.f140=some Bl4) (er:=fun(x:Bool)=>B x) (by kernel_rfl) (Brs L a0) h
noncomputable def c66:EC:=(C4 Tryz.prog inl Tryz.f66).getD .stop
def O66(L:Nat):Bi:=(Cp 139 (A1 (fun(x:Bool)=>B x) (cI .u8) (Ih L)) (Cp 140 (A1 (fun(x:Bool)=>B x) cS (Ic L)) Kg))
theorem s66(L:Nat):Bs Tryz.prog (O66 L):=(Ad (a1 _ (Bm0 L)) (Ad (a1 _ (Bm1 L)) (Az Tryz.prog)))
def Anh(a0:ByteArray)(Ae:Int)(Ah:Int):St:=({ fr:= [(0,S a0),(2,I Ae),(3,I Ah)],ob:= [],base:=0 } :St)
def Arg(a0:ByteArray)(K:Ex→St→Prop):Nat×(Int×Int)→Prop:=fun o=>Cr o.1 [K .ret (Anh a0 o.2.1 o.2.2),K (.exit 0) (Anh a0 o.2.1 o.2.2)]
def K5{A:Type}(an:An A)(L:Nat)(a0:ByteArray)(rec:Int→Int→A)(out:Nat×(Int×Int)→A)(Ae:Int)(Ah:Int):A:=
 (an.cn (decide (Ah < (a0.size:Int)))
 (an.cn ((if 0≤Ah then a0[Int.toNat Ah]? else none).isSome)
 (an.bd (Ih L (C6 (if 0≤Ah then a0[Int.toNat Ah]? else none))) fun r8=>
 (an.jb (bif (!r8) then (bif ((if 0≤Ah then a0[Int.toNat Ah]? else none).isSome) then (some ((C6 (if 0≤Ah then a0[Int.toNat Ah]? else none)) != 95))
 else none)
 else (some false)) (fun j=>(an.cn (!r8)
 (an.cn ((if 0≤Ah then a0[Int.toNat Ah]? else none).isSome)
 (an.lf j ((C6 (if 0≤Ah then a0[Int.toNat Ah]? else none)) != 95))
 (an.bd none j))
 (an.lf j false))) (fun b9=>
 (an.jb (bif b9 then (bif ((if 0≤Ah then a0[Int.toNat Ah]? else none).isSome) then (bif (decide ((C6 (if 0≤Ah then a0[Int.toNat Ah]? else none)) < 48)) then (some true)
 else (bif ((if 0≤Ah then a0[Int.toNat Ah]? else none).isSome) then (some (decide ((C6 (if 0≤Ah then a0[Int.toNat Ah]? else none)) > 57)))
 else none))
 else none)
 else (some false)) (fun j=>(an.cn b9
 (an.cn ((if 0≤Ah then a0[Int.toNat Ah]? else none).isSome)
 (an.cn (decide ((C6 (if 0≤Ah then a0[Int.toNat Ah]? else none)) < 48))
 (an.lf j true)
 (an.cn ((if 0≤Ah then a0[Int.toNat Ah]? else none).isSome)
 (an.lf j (decide ((C6 (if 0≤Ah then a0[Int.toNat Ah]? else none)) > 57)))
 (an.bd none j)))
 (an.bd none j))
 (an.lf j false))) (fun b10=>
 (an.cn b10
 (an.lf out (0,(3,Ah)))
 (rec Ae (F9 (Ah+1)))))))))
 an.fl)
 (an.lf out (1,(Ae,Ah))))
def K9(L:Nat)(a0:ByteArray):Nat→Int→Int→Option (Nat×(Int×Int))
 |0,_,_=>none
 |n+1,Ae,Ah=>K5 (Bq _) L a0 (K9 L a0 n) some Ae Ah
theorem Bf3(L:Nat)(a0:ByteArray)(g:Int→Int→Option (Nat×(Int×Int)))(Q:Nat×(Int×Int)→Prop)(Ae:Int)(Ah:Int):K5 Bh L a0 (fun Ae Ah=>ob (g Ae Ah) Q) Q Ae Ah=ob (K5 (Bq _) L a0 g some Ae Ah) Q:=by
 unfold K5
 dsimp only [Bh,Bq]
 try simp only [y1,y2,y3,y4,y5 Q,y6,y7,y8 Q,y9,z1,z2,z3,z4]
theorem Be1(L:Nat)(a0:ByteArray)(n:Nat)(Ae:Int)(Ah:Int)(K:Ex→St→Prop):Bl (EV (O66 L) L 9 c66.r.r.r.r.l.r.r.l.l) [0,2,3] [] n (Anh a0 Ae Ah) K=ob (K9 L a0 n Ae Ah) (fun o=>Arg a0 K o):=by
 induction n generalizing Ae Ah with
 |zero=>rfl
 |succ n ih=>
  refine Eq.trans (b:=K5 Bh L a0 (fun Ae Ah=>Bl (EV (O66 L) L 9 c66.r.r.r.r.l.r.r.l.l) [0,2,3] [] n (Anh a0 Ae Ah) K) (Arg a0 K) Ae Ah) (by kernel_rfl) ?_
  simp only [ih]
  exact Bf3 L a0 (K9 L a0 n) (Arg a0 K) Ae Ah
def A4z(L:Nat)(kk:PV→Prop):Ex→St→Prop:=(Ca 0 (Dl (EV (O66 L) L 9 c66.r.r.r.r.r) (Dx Tryz.prog (RS Tryz.f66) kk)))
theorem Bp4(L:Nat)(a0:ByteArray)(kk:PV→Prop)(o6:Nat×(Int×Int)):Arg a0 (A4z L kk) o6=
 (Cr o6.1 [(ob (some o6.2.1) (fun(x:Int)=>kk (I x))),
 (ob (some 0) (fun(x:Int)=>kk (I x)))]):=by kernel_rfl
def We{A:Type}(an:An A)(L:Nat)(a0:ByteArray)(out:Int→A):A:=
 (an.jp (bif (decide ((a0.size:Int) < 1)) then true
 else (decide ((a0.size:Int) > 24))) (fun j=>(an.cn (decide ((a0.size:Int) < 1))
 (an.ap j true)
 (an.ap j (decide ((a0.size:Int) > 24))))) (fun b1=>
 (an.jb (bif b1 then (some true)
 else (bif ((if 0≤0 then a0[Int.toNat 0]? else none).isSome) then (Option.bind (Ih L (C6 (if 0≤0 then a0[Int.toNat 0]? else none))) fun r3=>
 (some (!r3)))
 else none)) (fun j=>(an.cn b1
 (an.lf j true)
 (an.cn ((if 0≤0 then a0[Int.toNat 0]? else none).isSome)
 (an.bd (Ih L (C6 (if 0≤0 then a0[Int.toNat 0]? else none))) fun r4=>
 (an.lf j (!r4)))
 (an.bd none j)))) (fun b2=>
 (an.jb (bif b2 then (some true)
 else (Option.bind (Ic L a0) fun r6=>
 (some r6))) (fun j=>(an.cn b2
 (an.lf j true)
 (an.bd (Ic L a0) fun r7=>
 (an.lf j r7)))) (fun b5=>
 (an.cn b5
 (an.lf out 3)
 (an.bd (K9 L a0 L 0 0) fun o8=>
 (an.sl o8.1 [(an.lf out o8.2.1),
 (an.lf out 0)])))))))))
def E2(L:Nat)(a0:ByteArray):Option Int:=We (Bq _) L a0 some
theorem e66(L:Nat)(a0:ByteArray)(kk:PV→Prop):EW (O66 L) L 9 (RS Tryz.f66) c66 [S a0] kk=ob (E2 L a0) (fun(x:Int)=>kk (I x)):=by
 refine Eq.trans (b:=We Bh L a0 (fun(x:Int)=>kk (I x))) ?_ ?_
 ·refine Eq.trans (b:=(jn (fun j=>(br (decide ((a0.size:Int) < 1))
 (ap j true)
 (ap j (decide ((a0.size:Int) > 24))))) (fun b1=>
 (jn (fun j=>(br b1
 (ob (some true) j)
 (br ((if 0≤0 then a0[Int.toNat 0]? else none).isSome)
 (ob (Ih L (C6 (if 0≤0 then a0[Int.toNat 0]? else none))) fun r3=>
 (ob (some (!r3)) j))
 (ob none j)))) (fun b2=>
 (jn (fun j=>(br b2
 (ob (some true) j)
 (ob (Ic L a0) fun r5=>
 (ob (some r5) j)))) (fun b4=>
 (br b4
 (ob (some 3) (fun(x:Int)=>kk (I x)))
 (Bl (EV (O66 L) L 9 c66.r.r.r.r.l.r.r.l.l) [0,2,3] [] L (Anh a0 0 0) (A4z L kk)))))))))) (by kernel_rfl) ?_
  unfold We
  dsimp only [Bh]
  simp only [Be1,Bp4]
 generalize (fun(x:Int)=>kk (I x))=Q
 unfold E2 We
 dsimp only [Bh,Bq]
 try simp only [y1,y2,y3,y4,y5 Q,y6,y7,y8 Q,y9,z1,z2,z3,z4]
theorem h66(L:Nat)(a0:ByteArray)(r:Int)(h:E2 L a0=some r):Bc Tryz.prog 66 [S a0] (I r):=
 hE Cg (s66 L) mixed Tryz.func66 (by kernel_rfl:C4 Tryz.prog inl Tryz.f66=some c66) (er:=fun(x:Int)=>I x) (by kernel_rfl) (e66 L a0) h
noncomputable def c75:EC:=(C4 Tryz.prog inl Tryz.f75).getD .stop
def O75(Gg:Aa→Option Int)(L:Nat):Bi:=(Cp 75 (A1 (fun(x:Int)=>I x) Bm Gg) Kg)
theorem s75(Gg:Aa→Option Int)(Bdx:∀(y0:Aa) (r:Int),Gg y0=some r→Bc Tryz.prog 75 [.agg (Ay y0)] (I r))(L:Nat):Bs Tryz.prog (O75 Gg L):=(Ad (a1 _ Bdx) (Az Tryz.prog))
def Aut(a0:Aa)(Ae:Int)(Ah:Int):St:=({ fr:= [(0,.any),(1,.loc 1 0),(2,I 0),(3,I Ae),(4,I Ah)],ob:= [(1,(Ay a0))],base:=0 } :St)
def Ark(a0:Aa)(K:Ex→St→Prop):Nat×(Int×Int)→Prop:=fun o=>Cr o.1 [K (.exit 0) (Aut a0 o.2.1 o.2.2)]
def Nx{A:Type}(an:An A)(Gg:Aa→Option Int)(L:Nat)(a0:Aa)(rec:Int→Int→A)(out:Nat×(Int×Int)→A)(Ae:Int)(Ah:Int):A:=
 (an.cn (decide (Ah < (a0.Kids.length:Int)))
 (an.gd ((0:Int)≤Ah)
 (an.gd (Ah < ((a0.Kids.length:Nat):Int))
 (an.bd (Gg (Aa.cp (a0.Kids.getD (Int.toNat Ah) default))) fun r1=>
 (rec (F9 (Ae+r1)) (F9 (Ah+1))))))
 (an.lf out (0,(Ae,Ah))))
def Lb(Gg:Aa→Option Int)(L:Nat)(a0:Aa):Nat→Int→Int→Option (Nat×(Int×Int))
 |0,_,_=>none
 |n+1,Ae,Ah=>Nx (Bq _) Gg L a0 (Lb Gg L a0 n) some Ae Ah
theorem Bf7(Gg:Aa→Option Int)(L:Nat)(a0:Aa)(g:Int→Int→Option (Nat×(Int×Int)))(Q:Nat×(Int×Int)→Prop)(Ae:Int)(Ah:Int):Nx Bh Gg L a0 (fun Ae Ah=>ob (g Ae Ah) Q) Q Ae Ah=ob (Nx (Bq _) Gg L a0 g some Ae Ah) Q:=by
 unfold Nx
 dsimp only [Bh,Bq]
 try simp only [y1,y2,y3,y4,y5 Q,y6,y7,y8 Q,y9,z1,z2,z3,z4]
theorem Be5(Gg:Aa→Option Int)(L:Nat)(a0:Aa)(n:Nat)(Ae:Int)(Ah:Int)(K:Ex→St→Prop):Bl (EV (O75 Gg L) L 9 c75.r.r.r.r.l.r.r.l.l) [0,1,2,3,4] [1] n (Aut a0 Ae Ah) K=ob (Lb Gg L a0 n Ae Ah) (fun o=>Ark a0 K o):=by
 induction n generalizing Ae Ah with
 |zero=>rfl
 |succ n ih=>
  refine Eq.trans (b:=Nx Bh Gg L a0 (fun Ae Ah=>Bl (EV (O75 Gg L) L 9 c75.r.r.r.r.l.r.r.l.l) [0,1,2,3,4] [1] n (Aut a0 Ae Ah) K) (Ark a0 K) Ae Ah) (by kernel_rfl) ?_
  simp only [ih]
  exact Bf7 Gg L a0 (Lb Gg L a0 n) (Ark a0 K) Ae Ah
def A43(Gg:Aa→Option Int)(L:Nat)(kk:PV→Prop):Ex→St→Prop:=(Ca 0 (Dl (EV (O75 Gg L) L 9 c75.r.r.r.r.r) (Dx Tryz.prog (RS Tryz.f75) kk)))
theorem Bp8(Gg:Aa→Option Int)(L:Nat)(a0:Aa)(kk:PV→Prop)(o1:Nat×(Int×Int)):Ark a0 (A43 Gg L kk) o1=
 (Cr o1.1 [(ob (some o1.2.1) (fun(x:Int)=>kk (I x)))]):=by kernel_rfl
def Wg{A:Type}(an:An A)(Gg:Aa→Option Int)(L:Nat)(a0:Aa)(out:Int→A):A:=
 (an.bd (Lb Gg L a0 L 1 0) fun o1=>
 (an.sl o1.1 [(an.lf out o1.2.1)]))
def V5(Gg:Aa→Option Int)(L:Nat)(a0:Aa):Option Int:=Wg (Bq _) Gg L a0 some
theorem e75(Gg:Aa→Option Int)(L:Nat)(a0:Aa)(kk:PV→Prop):EW (O75 Gg L) L 9 (RS Tryz.f75) c75 [.agg (Ay a0)] kk=ob (V5 Gg L a0) (fun(x:Int)=>kk (I x)):=by
 refine Eq.trans (b:=Wg Bh Gg L a0 (fun(x:Int)=>kk (I x))) ?_ ?_
 ·refine Eq.trans (b:=(Bl (EV (O75 Gg L) L 9 c75.r.r.r.r.l.r.r.l.l) [0,1,2,3,4] [1] L (Aut a0 1 0) (A43 Gg L kk))) (by kernel_rfl) ?_
  unfold Wg
  dsimp only [Bh]
  simp only [Be5,Bp8]
 generalize (fun(x:Int)=>kk (I x))=Q
 unfold V5 Wg
 dsimp only [Bh,Bq]
 try simp only [y1,y2,y3,y4,y5 Q,y6,y7,y8 Q,y9,z1,z2,z3,z4]
theorem b75(Gg:Aa→Option Int)(Bdx:∀(y0:Aa) (r:Int),Gg y0=some r→Bc Tryz.prog 75 [.agg (Ay y0)] (I r))(L:Nat)(a0:Aa)(r:Int)(h:V5 Gg L a0=some r):Bc Tryz.prog 75 [.agg (Ay a0)] (I r):=
 hE Cg (s75 Gg Bdx L) mixed Tryz.func75 (by kernel_rfl:C4 Tryz.prog inl Tryz.f75=some c75) (er:=fun(x:Int)=>I x) (by kernel_rfl) (e75 Gg L a0) h
def Kv:Nat→Aa→Option Int
 |0,_=>none
 |L+1,a0=>V5 (Kv L) L a0
theorem Bdh:∀L,(∀(y0:Aa) (r:Int),Kv L y0=some r→Bc Tryz.prog 75 [.agg (Ay y0)] (I r)):=by
 intro L
 induction L with
 |zero=>exact fun _ r h=>(by cases h)
 |succ L ih=>
  have i75:=ih
  exact fun y0 r h=>b75 (Kv L) i75 L y0 r h
theorem h75(L:Nat):∀(y0:Aa) (r:Int),Kv L y0=some r→Bc Tryz.prog 75 [.agg (Ay y0)] (I r):=Bdh L
end Go.Proofs.YtcbandfdmbkokaaGreat.Ev
