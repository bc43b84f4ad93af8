import Derived.Test.YtcbandfdmbkokaaGreatG3
namespace Go.Proofs.YtcbandfdmbkokaaGreat.Ev
open Go
set_option maxRecDepth 100000
set_option linter.unusedVariables false
set_option linter.unusedSimpArgs false
set_option linter.unnecessarySimpa false
noncomputable def c76:EC:=(C4 Tryz.prog inl Tryz.f76).getD .stop
def O76(Gh:Aa→Option Int)(L:Nat):Bi:=(Cp 76 (A1 (fun(x:Int)=>I x) Bm Gh) Kg)
theorem s76(Gh:Aa→Option Int)(Bdy:∀(y0:Aa) (r:Int),Gh y0=some r→Bc Tryz.prog 76 [.agg (Ay y0)] (I r))(L:Nat):Bs Tryz.prog (O76 Gh L):=(Ad (a1 _ Bdy) (Az Tryz.prog))
def Auu(a0:Aa)(Ae:Int)(Ah:Int):St:=({ fr:= [(0,.any),(1,.loc 1 0),(2,I 0),(3,I Ae),(4,I Ah)],ob:= [(1,(Ay a0))],base:=0 } :St)
def Arl(a0:Aa)(K:Ex→St→Prop):Nat×(Int×Int)→Prop:=fun o=>Cr o.1 [K (.exit 0) (Auu a0 o.2.1 o.2.2)]
def Nw{A:Type}(an:An A)(Gh:Aa→Option Int)(L:Nat)(a0:Aa)(rec:Int→Int→A)(out:Nat×(Int×Int)→A)(Ae:Int)(Ah:Int):A:=
 (an.cn (decide (Ah < (a0.Kids.length:Int)))
 (an.gd ((0:Int)≤Ah)
 (an.gd (Ah < ((a0.Kids.length:Nat):Int))
 (an.bd (Gh (Aa.cp (a0.Kids.getD (Int.toNat Ah) default))) fun r1=>
 (rec (if r1 > Ae then r1 else Ae) (F9 (Ah+1))))))
 (an.lf out (0,(Ae,Ah))))
def La(Gh:Aa→Option Int)(L:Nat)(a0:Aa):Nat→Int→Int→Option (Nat×(Int×Int))
 |0,_,_=>none
 |n+1,Ae,Ah=>Nw (Bq _) Gh L a0 (La Gh L a0 n) some Ae Ah
theorem Bf8(Gh:Aa→Option Int)(L:Nat)(a0:Aa)(g:Int→Int→Option (Nat×(Int×Int)))(Q:Nat×(Int×Int)→Prop)(Ae:Int)(Ah:Int):Nw Bh Gh L a0 (fun Ae Ah=>ob (g Ae Ah) Q) Q Ae Ah=ob (Nw (Bq _) Gh L a0 g some Ae Ah) Q:=by
 unfold Nw
 dsimp only [Bh,Bq]
 try simp only [y1,y2,y3,y4,y5 Q,y6,y7,y8 Q,y9,z1,z2,z3,z4]
theorem Be6(Gh:Aa→Option Int)(L:Nat)(a0:Aa)(n:Nat)(Ae:Int)(Ah:Int)(K:Ex→St→Prop):Bl (EV (O76 Gh L) L 9 c76.r.r.r.r.l.r.r.l.l) [0,1,2,3,4] [1] n (Auu a0 Ae Ah) K=ob (La Gh L a0 n Ae Ah) (fun o=>Arl a0 K o):=by
 induction n generalizing Ae Ah with
 |zero=>rfl
 |succ n ih=>
  refine Eq.trans (b:=Nw Bh Gh L a0 (fun Ae Ah=>Bl (EV (O76 Gh L) L 9 c76.r.r.r.r.l.r.r.l.l) [0,1,2,3,4] [1] n (Auu a0 Ae Ah) K) (Arl a0 K) Ae Ah) (by kernel_rfl) ?_
  simp only [ih]
  exact Bf8 Gh L a0 (La Gh L a0 n) (Arl a0 K) Ae Ah
def A44(Gh:Aa→Option Int)(L:Nat)(kk:PV→Prop):Ex→St→Prop:=(Ca 0 (Dl (EV (O76 Gh L) L 9 c76.r.r.r.r.r) (Dx Tryz.prog (RS Tryz.f76) kk)))
theorem Bp9(Gh:Aa→Option Int)(L:Nat)(a0:Aa)(kk:PV→Prop)(o1:Nat×(Int×Int)):Arl a0 (A44 Gh L kk) o1=
 (Cr o1.1 [(ob (some (F9 (o1.2.1+1))) (fun(x:Int)=>kk (I x)))]):=by kernel_rfl
def Wf{A:Type}(an:An A)(Gh:Aa→Option Int)(L:Nat)(a0:Aa)(out:Int→A):A:=
 (an.bd (La Gh L a0 L 0 0) fun o1=>
 (an.sl o1.1 [(an.lf out (F9 (o1.2.1+1)))]))
def V4(Gh:Aa→Option Int)(L:Nat)(a0:Aa):Option Int:=Wf (Bq _) Gh L a0 some
theorem e76(Gh:Aa→Option Int)(L:Nat)(a0:Aa)(kk:PV→Prop):EW (O76 Gh L) L 9 (RS Tryz.f76) c76 [.agg (Ay a0)] kk=ob (V4 Gh L a0) (fun(x:Int)=>kk (I x)):=by
 refine Eq.trans (b:=Wf Bh Gh L a0 (fun(x:Int)=>kk (I x))) ?_ ?_
 ·refine Eq.trans (b:=(Bl (EV (O76 Gh L) L 9 c76.r.r.r.r.l.r.r.l.l) [0,1,2,3,4] [1] L (Auu a0 0 0) (A44 Gh L kk))) (by kernel_rfl) ?_
  unfold Wf
  dsimp only [Bh]
  simp only [Be6,Bp9]
 generalize (fun(x:Int)=>kk (I x))=Q
 unfold V4 Wf
 dsimp only [Bh,Bq]
 try simp only [y1,y2,y3,y4,y5 Q,y6,y7,y8 Q,y9,z1,z2,z3,z4]
theorem b76(Gh:Aa→Option Int)(Bdy:∀(y0:Aa) (r:Int),Gh y0=some r→Bc Tryz.prog 76 [.agg (Ay y0)] (I r))(L:Nat)(a0:Aa)(r:Int)(h:V4 Gh L a0=some r):Bc Tryz.prog 76 [.agg (Ay a0)] (I r):=
 hE Cg (s76 Gh Bdy L) mixed Tryz.func76 (by kernel_rfl:C4 Tryz.prog inl Tryz.f76=some c76) (er:=fun(x:Int)=>I x) (by kernel_rfl) (e76 Gh L a0) h
def Ku:Nat→Aa→Option Int
 |0,_=>none
 |L+1,a0=>V4 (Ku L) L a0
theorem Bdi:∀L,(∀(y0:Aa) (r:Int),Ku L y0=some r→Bc Tryz.prog 76 [.agg (Ay y0)] (I r)):=by
 intro L
 induction L with
 |zero=>exact fun _ r h=>(by cases h)
 |succ L ih=>
  have i76:=ih
  exact fun y0 r h=>b76 (Ku L) i76 L y0 r h
theorem h76(L:Nat):∀(y0:Aa) (r:Int),Ku L y0=some r→Bc Tryz.prog 76 [.agg (Ay y0)] (I r):=Bdi L
noncomputable def Bl7:EC:=(C4 Tryz.prog inl Tryz.f154).getD .stop
def Bky(L:Nat):Bi:=Kg
theorem Btz(L:Nat):Bs Tryz.prog (Bky L):=(Az Tryz.prog)
def Zd{A:Type}(an:An A)(L:Nat)(a0:Int)(out:Int→A):A:=
 (an.jp (bif (decide (a0 < 1)) then true
 else (decide (a0 > 26))) (fun j=>(an.cn (decide (a0 < 1))
 (an.ap j true)
 (an.ap j (decide (a0 > 26))))) (fun b1=>
 (an.cn b1
 (an.lf out (-1))
 (an.jp (bif (decide (a0≥5)) then (decide (a0≤8))
 else false) (fun j=>(an.cn (decide (a0≥5))
 (an.ap j (decide (a0≤8)))
 (an.ap j false))) (fun b2=>
 (an.cn b2
 (an.lf out 1)
 (an.jp (bif (decide (a0≥9)) then (decide (a0≤21))
 else false) (fun j=>(an.cn (decide (a0≥9))
 (an.ap j (decide (a0≤21)))
 (an.ap j false))) (fun b3=>
 (an.cn b3
 (an.lf out 2)
 (an.lf out 0))))))))))
def Q7(L:Nat)(a0:Int):Option Int:=Zd (Bq _) L a0 some
theorem Brz(L:Nat)(a0:Int)(kk:PV→Prop):EW (Bky L) L 9 (RS Tryz.f154) Bl7 [I a0] kk=ob (Q7 L a0) (fun(x:Int)=>kk (I x)):=by
 refine Eq.trans (b:=Zd Bh L a0 (fun(x:Int)=>kk (I x))) (by kernel_rfl) ?_
 generalize (fun(x:Int)=>kk (I x))=Q
 unfold Q7 Zd
 dsimp only [Bh,Bq]
 try simp only [y1,y2,y3,y4,y5 Q,y6,y7,y8 Q,y9,z1,z2,z3,z4]
theorem Bm6(L:Nat)(a0:Int)(r:Int)(h:Q7 L a0=some r):Bc Tryz.prog 154 [I a0] (I r):=
 hE Cg (Btz L) mixed Tryz.func154 (by kernel_rfl:C4 Tryz.prog inl Tryz.f154=some Bl7) (er:=fun(x:Int)=>I x) (by kernel_rfl) (Brz L a0) h
noncomputable def Bl8:EC:=(C4 Tryz.prog inl Tryz.f155).getD .stop
def Bkz(L:Nat):Bi:=Kg
theorem Bt0(L:Nat):Bs Tryz.prog (Bkz L):=(Az Tryz.prog)
def Xk{A:Type}(an:An A)(L:Nat)(a0:Int)(out:Bool→A):A:=
 (an.jp (bif (decide (a0≥22)) then (decide (a0≤24))
 else false) (fun j=>(an.cn (decide (a0≥22))
 (an.ap j (decide (a0≤24)))
 (an.ap j false))) (fun b1=>
 (an.lf out b1)))
def Ii(L:Nat)(a0:Int):Option Bool:=Xk (Bq _) L a0 some
theorem Br0(L:Nat)(a0:Int)(kk:PV→Prop):EW (Bkz L) L 9 (RS Tryz.f155) Bl8 [I a0] kk=ob (Ii L a0) (fun(x:Bool)=>kk (B x)):=by
 refine Eq.trans (b:=Xk Bh L a0 (fun(x:Bool)=>kk (B x))) (by kernel_rfl) ?_
 generalize (fun(x:Bool)=>kk (B x))=Q
 unfold Ii Xk
 dsimp only [Bh,Bq]
 try simp only [y1,y2,y3,y4,y5 Q,y6,y7,y8 Q,y9,z1,z2,z3,z4]
theorem Bm7(L:Nat)(a0:Int)(r:Bool)(h:Ii L a0=some r):Bc Tryz.prog 155 [I a0] (B r):=
 hE Cg (Bt0 L) mixed Tryz.func155 (by kernel_rfl:C4 Tryz.prog inl Tryz.f155=some Bl8) (er:=fun(x:Bool)=>B x) (by kernel_rfl) (Br0 L a0) h
noncomputable def Bl9:EC:=(C4 Tryz.prog inl Tryz.f156).getD .stop
def Bk0(L:Nat):Bi:=Kg
theorem Bt1(L:Nat):Bs Tryz.prog (Bk0 L):=(Az Tryz.prog)
def Ad9{A:Type}(an:An A)(L:Nat)(a0:Int)(out:Bool→A):A:=
 (an.jp (bif (decide (a0≥(-1000000000000))) then (decide (a0≤1000000000000))
 else false) (fun j=>(an.cn (decide (a0≥(-1000000000000)))
 (an.ap j (decide (a0≤1000000000000)))
 (an.ap j false))) (fun b1=>
 (an.lf out b1)))
def Wb(L:Nat)(a0:Int):Option Bool:=Ad9 (Bq _) L a0 some
theorem Br1(L:Nat)(a0:Int)(kk:PV→Prop):EW (Bk0 L) L 9 (RS Tryz.f156) Bl9 [I a0] kk=ob (Wb L a0) (fun(x:Bool)=>kk (B x)):=by
 refine Eq.trans (b:=Ad9 Bh L a0 (fun(x:Bool)=>kk (B x))) (by kernel_rfl) ?_
 generalize (fun(x:Bool)=>kk (B x))=Q
 unfold Wb Ad9
 dsimp only [Bh,Bq]
 try simp only [y1,y2,y3,y4,y5 Q,y6,y7,y8 Q,y9,z1,z2,z3,z4]
theorem Bm8(L:Nat)(a0:Int)(r:Bool)(h:Wb L a0=some r):Bc Tryz.prog 156 [I a0] (B r):=
 hE Cg (Bt1 L) mixed Tryz.func156 (by kernel_rfl:C4 Tryz.prog inl Tryz.f156=some Bl9) (er:=fun(x:Bool)=>B x) (by kernel_rfl) (Br1 L a0) h
noncomputable def Bma:EC:=(C4 Tryz.prog inl Tryz.f157).getD .stop
def Bk1(L:Nat):Bi:=Kg
theorem Bt2(L:Nat):Bs Tryz.prog (Bk1 L):=(Az Tryz.prog)
def m9{A:Type}(an:An A)(L:Nat)(a0:Int)(out:Int→A):A:=
 (an.cn (a0 == 25)
 (an.lf out 15)
 (an.cn (a0 == 26)
 (an.lf out 31)
 (an.lf out 63)))
def J0(L:Nat)(a0:Int):Option Int:=m9 (Bq _) L a0 some
theorem Br2(L:Nat)(a0:Int)(kk:PV→Prop):EW (Bk1 L) L 9 (RS Tryz.f157) Bma [I a0] kk=ob (J0 L a0) (fun(x:Int)=>kk (I x)):=by
 refine Eq.trans (b:=m9 Bh L a0 (fun(x:Int)=>kk (I x))) (by kernel_rfl) ?_
 generalize (fun(x:Int)=>kk (I x))=Q
 unfold J0 m9
 dsimp only [Bh,Bq]
 try simp only [y1,y2,y3,y4,y5 Q,y6,y7,y8 Q,y9,z1,z2,z3,z4]
theorem Bm9(L:Nat)(a0:Int)(r:Int)(h:J0 L a0=some r):Bc Tryz.prog 157 [I a0] (I r):=
 hE Cg (Bt2 L) mixed Tryz.func157 (by kernel_rfl:C4 Tryz.prog inl Tryz.f157=some Bma) (er:=fun(x:Int)=>I x) (by kernel_rfl) (Br2 L a0) h
noncomputable def c77:EC:=(C4 Tryz.prog inl Tryz.f77).getD .stop
def O77(B1:Aa→Bool→Option Int)(L:Nat):Bi:=(Cp 66 (A1 (fun(x:Int)=>I x) cS (E2 L)) (Cp 77 (A2 (fun(x:Int)=>I x) Bm cB B1) (Cp 154 (A1 (fun(x:Int)=>I x) (cI .i64) (Q7 L)) (Cp 155 (A1 (fun(x:Bool)=>B x) (cI .i64) (Ii L)) (Cp 156 (A1 (fun(x:Bool)=>B x) (cI .i64) (Wb L)) (Cp 157 (A1 (fun(x:Int)=>I x) (cI .i64) (J0 L)) Kg))))))
theorem s77(B1:Aa→Bool→Option Int)(Bdz:∀(y0:Aa) (y1:Bool) (r:Int),B1 y0 y1=some r→Bc Tryz.prog 77 [.agg (Ay y0),B y1] (I r))(L:Nat):Bs Tryz.prog (O77 B1 L):=(Ad (a1 _ (h66 L)) (Ad (a2 _ Bdz) (Ad (a1 _ (Bm6 L)) (Ad (a1 _ (Bm7 L)) (Ad (a1 _ (Bm8 L)) (Ad (a1 _ (Bm9 L)) (Az Tryz.prog)))))))
def Anl(a1:Bool)(a0:Aa)(Ae:Int)(Ah:Int):St:=({ fr:= [(0,.any),(1,B a1),(2,.loc 2 0),(4,I Ae),(5,.any),(6,.any),(7,.any),(8,.any),(9,.any),(10,I Ah)],ob:= [(2,(Ay a0))],base:=0 } :St)
def Arm(a1:Bool)(a0:Aa)(K:Ex→St→Prop):Nat×(Int×Int)→Prop:=fun o=>Cr o.1 [K .ret (Anl a1 a0 o.2.1 o.2.2),K (.exit 0) (Anl a1 a0 o.2.1 o.2.2)]
def Pv{A:Type}(an:An A)(B1:Aa→Bool→Option Int)(L:Nat)(a1:Bool)(a0:Aa)(rec:Int→Int→A)(out:Nat×(Int×Int)→A)(Ae:Int)(Ah:Int):A:=
 (an.cn (decide (Ah < (a0.Kids.length:Int)))
 (an.gd ((0:Int)≤Ah)
 (an.gd (Ah < ((a0.Kids.length:Nat):Int))
 (an.bd (B1 (Aa.cp (a0.Kids.getD (Int.toNat Ah) default)) a1) fun r25=>
 (an.cn (r25 != 0)
 (an.lf out (0,(r25,Ah)))
 (rec Ae (F9 (Ah+1)))))))
 (an.lf out (1,(Ae,Ah))))
def Kr(B1:Aa→Bool→Option Int)(L:Nat)(a1:Bool)(a0:Aa):Nat→Int→Int→Option (Nat×(Int×Int))
 |0,_,_=>none
 |n+1,Ae,Ah=>Pv (Bq _) B1 L a1 a0 (Kr B1 L a1 a0 n) some Ae Ah
theorem Bf9(B1:Aa→Bool→Option Int)(L:Nat)(a1:Bool)(a0:Aa)(g:Int→Int→Option (Nat×(Int×Int)))(Q:Nat×(Int×Int)→Prop)(Ae:Int)(Ah:Int):Pv Bh B1 L a1 a0 (fun Ae Ah=>ob (g Ae Ah) Q) Q Ae Ah=ob (Pv (Bq _) B1 L a1 a0 g some Ae Ah) Q:=by
 unfold Pv
 dsimp only [Bh,Bq]
 try simp only [y1,y2,y3,y4,y5 Q,y6,y7,y8 Q,y9,z1,z2,z3,z4]
theorem Be7(B1:Aa→Bool→Option Int)(L:Nat)(a1:Bool)(a0:Aa)(n:Nat)(Ae:Int)(Ah:Int)(K:Ex→St→Prop):Bl (EV (O77 B1 L) L 9 c77.r.r.r.r.r.r.r.r.r.r.r.r.r.r.r.r.r.r.l.r.r.l.l) [0,1,2,4,5,6,7,8,9,10] [2] n (Anl a1 a0 Ae Ah) K=ob (Kr B1 L a1 a0 n Ae Ah) (fun o=>Arm a1 a0 K o):=by
 induction n generalizing Ae Ah with
 |zero=>rfl
 |succ n ih=>
  refine Eq.trans (b:=Pv Bh B1 L a1 a0 (fun Ae Ah=>Bl (EV (O77 B1 L) L 9 c77.r.r.r.r.r.r.r.r.r.r.r.r.r.r.r.r.r.r.l.r.r.l.l) [0,1,2,4,5,6,7,8,9,10] [2] n (Anl a1 a0 Ae Ah) K) (Arm a1 a0 K) Ae Ah) (by kernel_rfl) ?_
  simp only [ih]
  exact Bf9 B1 L a1 a0 (Kr B1 L a1 a0 n) (Arm a1 a0 K) Ae Ah
def A45(B1:Aa→Bool→Option Int)(L:Nat)(kk:PV→Prop):Ex→St→Prop:=(Ca 0 (Dl (EV (O77 B1 L) L 9 c77.r.r.r.r.r.r.r.r.r.r.r.r.r.r.r.r.r.r.r) (Dx Tryz.prog (RS Tryz.f77) kk)))
theorem Bqa(B1:Aa→Bool→Option Int)(L:Nat)(a1:Bool)(a0:Aa)(kk:PV→Prop)(o29:Nat×(Int×Int)):Arm a1 a0 (A45 B1 L kk) o29=
 (Cr o29.1 [(ob (some o29.2.1) (fun(x:Int)=>kk (I x))),
 (ob (some 0) (fun(x:Int)=>kk (I x)))]):=by kernel_rfl
def A6p(a1:Bool)(b3:Bool)(a0:Aa):St:=({ fr:= [(1,B a1),(2,.loc 2 0),(4,I 0),(7,B b3)],ob:= [(2,(Ay a0))],base:=0 } :St)
def A5v(B1:Aa→Bool→Option Int)(L:Nat)(kk:PV→Prop):Ex→St→Prop:=(Dx Tryz.prog (RS Tryz.f77) kk)
def Nj{A:Type}(an:An A)(B1:Aa→Bool→Option Int)(L:Nat)(a1:Bool)(b3:Bool)(a0:Aa)(out:Int→A):A:=
 (an.jb (bif b3 then (Option.bind (E2 L a0.Name) fun r22=>
 (some (r22 != 0)))
 else (some false)) (fun j=>(an.cn b3
 (an.bd (E2 L a0.Name) fun r23=>
 (an.lf j (r23 != 0)))
 (an.lf j false))) (fun b21=>
 (an.cn b21
 (an.bd (E2 L a0.Name) fun r24=>
 (an.lf out r24))
 (an.bd (Kr B1 L a1 a0 L 0 0) fun o25=>
 (an.sl o25.1 [(an.lf out o25.2.1),
 (an.lf out 0)])))))
theorem Bcc(B1:Aa→Bool→Option Int)(L:Nat)(a1:Bool)(b3:Bool)(a0:Aa)(kk:PV→Prop):EV (O77 B1 L) L 9 c77.r.r.r.r.r.r.r.r.r.r.r.r.r.r.r.r (A6p a1 b3 a0) (A5v B1 L kk)=Nj Bh B1 L a1 b3 a0 (fun(x:Int)=>kk (I x)):=by
 refine Eq.trans (b:=(jn (fun j=>(br b3
 (ob (E2 L a0.Name) fun r27=>
 (ob (some (r27 != 0)) j))
 (ob (some false) j))) (fun b26=>
 (br b26
 (ob (E2 L a0.Name) fun r28=>
 (ob (some r28) (fun(x:Int)=>kk (I x))))
 (Bl (EV (O77 B1 L) L 9 c77.r.r.r.r.r.r.r.r.r.r.r.r.r.r.r.r.r.r.l.r.r.l.l) [0,1,2,4,5,6,7,8,9,10] [2] L (Anl a1 a0 0 0) (A45 B1 L kk)))))) (by kernel_rfl) ?_
 unfold Nj
 dsimp only [Bh]
 simp only [Be7,Bqa]
theorem Bi5(B1:Aa→Bool→Option Int)(L:Nat)(a1:Bool)(b3:Bool)(a0:Aa)(Q:Int→Prop):Nj Bh B1 L a1 b3 a0 Q=ob (Nj (Bq _) B1 L a1 b3 a0 some) Q:=by
 unfold Nj
 dsimp only [Bh,Bq]
 try simp only [y1,y2,y3,y4,y5 Q,y6,y7,y8 Q,y9,z1,z2,z3,z4]
def Aul(a1:Bool)(b3:Bool)(b6:Bool)(a0:Aa):St:=({ fr:= [(1,B a1),(2,.loc 2 0),(4,I 0),(7,B b3),(8,B b6)],ob:= [(2,(Ay a0))],base:=0 } :St)
def As5(B1:Aa→Bool→Option Int)(L:Nat)(kk:PV→Prop):Ex→St→Prop:=(Dx Tryz.prog (RS Tryz.f77) kk)
def Sd{A:Type}(an:An A)(B1:Aa→Bool→Option Int)(L:Nat)(a1:Bool)(b3:Bool)(b6:Bool)(a0:Aa)(nx4:Bool→Bool→Aa→A)(out:Int→A):A:=
 (an.cn (a0.Op == 1)
 (an.bd (Wb L a0.N) fun r14=>
 (an.cn (!r14)
 (an.lf out 2)
 (an.cn (a0.Op == 2)
 (an.cn (a0.N != 0)
 (an.cn (a0.N != 1)
 (an.lf out 2)
 (an.cn b6
 (an.cn (decide (a0.N < 0))
 (an.lf out 2)
 (an.bd (J0 L a0.Op) fun r15=>
 (an.cn (decide (a0.N > r15))
 (an.lf out 2)
 (nx4 a1 b3 a0))))
 (nx4 a1 b3 a0)))
 (an.cn b6
 (an.cn (decide (a0.N < 0))
 (an.lf out 2)
 (an.bd (J0 L a0.Op) fun r16=>
 (an.cn (decide (a0.N > r16))
 (an.lf out 2)
 (nx4 a1 b3 a0))))
 (nx4 a1 b3 a0)))
 (an.cn b6
 (an.cn (decide (a0.N < 0))
 (an.lf out 2)
 (an.bd (J0 L a0.Op) fun r17=>
 (an.cn (decide (a0.N > r17))
 (an.lf out 2)
 (nx4 a1 b3 a0))))
 (nx4 a1 b3 a0)))))
 (an.cn (a0.Op == 2)
 (an.cn (a0.N != 0)
 (an.cn (a0.N != 1)
 (an.lf out 2)
 (an.cn b6
 (an.cn (decide (a0.N < 0))
 (an.lf out 2)
 (an.bd (J0 L a0.Op) fun r18=>
 (an.cn (decide (a0.N > r18))
 (an.lf out 2)
 (nx4 a1 b3 a0))))
 (nx4 a1 b3 a0)))
 (an.cn b6
 (an.cn (decide (a0.N < 0))
 (an.lf out 2)
 (an.bd (J0 L a0.Op) fun r19=>
 (an.cn (decide (a0.N > r19))
 (an.lf out 2)
 (nx4 a1 b3 a0))))
 (nx4 a1 b3 a0)))
 (an.cn b6
 (an.cn (decide (a0.N < 0))
 (an.lf out 2)
 (an.bd (J0 L a0.Op) fun r20=>
 (an.cn (decide (a0.N > r20))
 (an.lf out 2)
 (nx4 a1 b3 a0))))
 (nx4 a1 b3 a0))))
def Ni{A:Type}(an:An A)(B1:Aa→Bool→Option Int)(L:Nat)(a1:Bool)(b3:Bool)(b6:Bool)(a0:Aa)(out:Int→A):A:=Sd an B1 L a1 b3 b6 a0 (fun a1 b3 a0=>Nj an B1 L a1 b3 a0 out) out
theorem Bie(B1:Aa→Bool→Option Int)(L:Nat)(a1:Bool)(b3:Bool)(b6:Bool)(a0:Aa)(g4:Bool→Bool→Aa→Option Int)(Q:Int→Prop):Sd Bh B1 L a1 b3 b6 a0 (fun a1 b3 a0=>ob (g4 a1 b3 a0) Q) Q=ob (Sd (Bq _) B1 L a1 b3 b6 a0 g4 some) Q:=by
 unfold Sd
 dsimp only [Bh,Bq]
 try simp only [y1,y2,y3,y4,y5 Q,y6,y7,y8 Q,y9,z1,z2,z3,z4]
theorem Bcz(B1:Aa→Bool→Option Int)(L:Nat)(a1:Bool)(b3:Bool)(b6:Bool)(a0:Aa)(kk:PV→Prop)(z4:EC):EV (O77 B1 L) L 9 (EC.put [false,false] z4 c77.r.r.r.r.r.r.r.r.r.r.r.r.r.r) (Aul a1 b3 b6 a0) (As5 B1 L kk)=Sd Bh B1 L a1 b3 b6 a0 (fun a1 b3 a0=>EV (O77 B1 L) L 9 z4 (A6p a1 b3 a0) (A5v B1 L kk)) (fun(x:Int)=>kk (I x)):=by kernel_rfl
theorem Bcb(B1:Aa→Bool→Option Int)(L:Nat)(a1:Bool)(b3:Bool)(b6:Bool)(a0:Aa)(kk:PV→Prop):EV (O77 B1 L) L 9 c77.r.r.r.r.r.r.r.r.r.r.r.r.r.r (Aul a1 b3 b6 a0) (As5 B1 L kk)=Ni Bh B1 L a1 b3 b6 a0 (fun(x:Int)=>kk (I x)):=by
 refine Eq.trans (b:=EV (O77 B1 L) L 9 (EC.put [false,false] c77.r.r.r.r.r.r.r.r.r.r.r.r.r.r.r.r c77.r.r.r.r.r.r.r.r.r.r.r.r.r.r) (Aul a1 b3 b6 a0) (As5 B1 L kk)) (by kernel_rfl) ?_
 refine Eq.trans (Bcz B1 L a1 b3 b6 a0 kk c77.r.r.r.r.r.r.r.r.r.r.r.r.r.r.r.r) ?_
 unfold Ni
 simp only [Bcc]
theorem Bi4(B1:Aa→Bool→Option Int)(L:Nat)(a1:Bool)(b3:Bool)(b6:Bool)(a0:Aa)(Q:Int→Prop):Ni Bh B1 L a1 b3 b6 a0 Q=ob (Ni (Bq _) B1 L a1 b3 b6 a0 some) Q:=by
 unfold Ni
 simp only [Bi5]
 exact Bie B1 L a1 b3 b6 a0 (fun a1 b3 a0=>Nj (Bq _) B1 L a1 b3 a0 some) Q
def Auk(a1:Bool)(r1:Int)(b2:Bool)(b3:Bool)(b6:Bool)(b10:Bool)(a0:Aa):St:=({ fr:= [(1,B a1),(2,.loc 2 0),(4,I 0),(5,I r1),(6,B b2),(7,B b3),(8,B b6),(9,B b10)],ob:= [(2,(Ay a0))],base:=0 } :St)
def As4(B1:Aa→Bool→Option Int)(L:Nat)(kk:PV→Prop):Ex→St→Prop:=(Dx Tryz.prog (RS Tryz.f77) kk)
def Sc{A:Type}(an:An A)(B1:Aa→Bool→Option Int)(L:Nat)(a1:Bool)(r1:Int)(b2:Bool)(b3:Bool)(b6:Bool)(b10:Bool)(a0:Aa)(nx3:Bool→Bool→Bool→Aa→A)(out:Int→A):A:=
 (an.jp (bif (!b2) then true
 else (bif (!b3) then (!(a0.Name.toList == (⟨#[]⟩:ByteArray).toList))
 else false)) (fun j=>(an.cn (!b2)
 (an.ap j true)
 (an.cn (!b3)
 (an.ap j (!(a0.Name.toList == (⟨#[]⟩:ByteArray).toList)))
 (an.ap j false)))) (fun b11=>
 (an.jp (bif b11 then true
 else (bif (!b10) then (a0.N != 0)
 else false)) (fun j=>(an.cn b11
 (an.ap j true)
 (an.cn (!b10)
 (an.ap j (a0.N != 0))
 (an.ap j false)))) (fun b12=>
 (an.jp (bif b12 then true
 else ((a0.Kids.length:Int) != r1)) (fun j=>(an.cn b12
 (an.ap j true)
 (an.ap j ((a0.Kids.length:Int) != r1)))) (fun b13=>
 (an.cn b13
 (an.lf out 1)
 (nx3 a1 b3 b6 a0))))))))
def Nh{A:Type}(an:An A)(B1:Aa→Bool→Option Int)(L:Nat)(a1:Bool)(r1:Int)(b2:Bool)(b3:Bool)(b6:Bool)(b10:Bool)(a0:Aa)(out:Int→A):A:=Sc an B1 L a1 r1 b2 b3 b6 b10 a0 (fun a1 b3 b6 a0=>Ni an B1 L a1 b3 b6 a0 out) out
theorem Bid(B1:Aa→Bool→Option Int)(L:Nat)(a1:Bool)(r1:Int)(b2:Bool)(b3:Bool)(b6:Bool)(b10:Bool)(a0:Aa)(g3:Bool→Bool→Bool→Aa→Option Int)(Q:Int→Prop):Sc Bh B1 L a1 r1 b2 b3 b6 b10 a0 (fun a1 b3 b6 a0=>ob (g3 a1 b3 b6 a0) Q) Q=ob (Sc (Bq _) B1 L a1 r1 b2 b3 b6 b10 a0 g3 some) Q:=by
 unfold Sc
 dsimp only [Bh,Bq]
 try simp only [y1,y2,y3,y4,y5 Q,y6,y7,y8 Q,y9,z1,z2,z3,z4]
theorem Bcy(B1:Aa→Bool→Option Int)(L:Nat)(a1:Bool)(r1:Int)(b2:Bool)(b3:Bool)(b6:Bool)(b10:Bool)(a0:Aa)(kk:PV→Prop)(z3:EC):EV (O77 B1 L) L 9 (EC.put [false,false] z3 c77.r.r.r.r.r.r.r.r.r.r.r.r) (Auk a1 r1 b2 b3 b6 b10 a0) (As4 B1 L kk)=Sc Bh B1 L a1 r1 b2 b3 b6 b10 a0 (fun a1 b3 b6 a0=>EV (O77 B1 L) L 9 z3 (Aul a1 b3 b6 a0) (As5 B1 L kk)) (fun(x:Int)=>kk (I x)):=by kernel_rfl
theorem Bca(B1:Aa→Bool→Option Int)(L:Nat)(a1:Bool)(r1:Int)(b2:Bool)(b3:Bool)(b6:Bool)(b10:Bool)(a0:Aa)(kk:PV→Prop):EV (O77 B1 L) L 9 c77.r.r.r.r.r.r.r.r.r.r.r.r (Auk a1 r1 b2 b3 b6 b10 a0) (As4 B1 L kk)=Nh Bh B1 L a1 r1 b2 b3 b6 b10 a0 (fun(x:Int)=>kk (I x)):=by
 refine Eq.trans (b:=EV (O77 B1 L) L 9 (EC.put [false,false] c77.r.r.r.r.r.r.r.r.r.r.r.r.r.r c77.r.r.r.r.r.r.r.r.r.r.r.r) (Auk a1 r1 b2 b3 b6 b10 a0) (As4 B1 L kk)) (by kernel_rfl) ?_
 refine Eq.trans (Bcy B1 L a1 r1 b2 b3 b6 b10 a0 kk c77.r.r.r.r.r.r.r.r.r.r.r.r.r.r) ?_
 unfold Nh
 simp only [Bcb]
theorem Bi3(B1:Aa→Bool→Option Int)(L:Nat)(a1:Bool)(r1:Int)(b2:Bool)(b3:Bool)(b6:Bool)(b10:Bool)(a0:Aa)(Q:Int→Prop):Nh Bh B1 L a1 r1 b2 b3 b6 b10 a0 Q=ob (Nh (Bq _) B1 L a1 r1 b2 b3 b6 b10 a0 some) Q:=by
 unfold Nh
 simp only [Bi4]
 exact Bid B1 L a1 r1 b2 b3 b6 b10 a0 (fun a1 b3 b6 a0=>Ni (Bq _) B1 L a1 b3 b6 a0 some) Q
def Auj(a1:Bool)(r1:Int)(b2:Bool)(b3:Bool)(a0:Aa):St:=({ fr:= [(1,B a1),(2,.loc 2 0),(4,I 0),(5,I r1),(6,B b2),(7,B b3)],ob:= [(2,(Ay a0))],base:=0 } :St)
def As3(B1:Aa→Bool→Option Int)(L:Nat)(kk:PV→Prop):Ex→St→Prop:=(Dx Tryz.prog (RS Tryz.f77) kk)
def Sb{A:Type}(an:An A)(B1:Aa→Bool→Option Int)(L:Nat)(a1:Bool)(r1:Int)(b2:Bool)(b3:Bool)(a0:Aa)(nx2:Bool→Int→Bool→Bool→Bool→Bool→Aa→A)(out:Int→A):A:=
 (an.jb (bif a1 then (Option.bind (Ii L a0.Op) fun r7=>
 (bif r7 then (some true)
 else (bif (a0.Op == 25) then (some true)
 else (some (a0.Op == 26)))))
 else (some false)) (fun j=>(an.cn a1
 (an.bd (Ii L a0.Op) fun r8=>
 (an.cn r8
 (an.lf j true)
 (an.cn (a0.Op == 25)
 (an.lf j true)
 (an.lf j (a0.Op == 26)))))
 (an.lf j false))) (fun b6=>
 (an.jp (bif (a0.Op == 1) then true
 else (a0.Op == 2)) (fun j=>(an.cn (a0.Op == 1)
 (an.ap j true)
 (an.ap j (a0.Op == 2)))) (fun b9=>
 (an.jp (bif b9 then true
 else b6) (fun j=>(an.cn b9
 (an.ap j true)
 (an.ap j b6))) (fun b10=>
 (nx2 a1 r1 b2 b3 b6 b10 a0)))))))
def Ng{A:Type}(an:An A)(B1:Aa→Bool→Option Int)(L:Nat)(a1:Bool)(r1:Int)(b2:Bool)(b3:Bool)(a0:Aa)(out:Int→A):A:=Sb an B1 L a1 r1 b2 b3 a0 (fun a1 r1 b2 b3 b6 b10 a0=>Nh an B1 L a1 r1 b2 b3 b6 b10 a0 out) out
theorem Bic(B1:Aa→Bool→Option Int)(L:Nat)(a1:Bool)(r1:Int)(b2:Bool)(b3:Bool)(a0:Aa)(g2:Bool→Int→Bool→Bool→Bool→Bool→Aa→Option Int)(Q:Int→Prop):Sb Bh B1 L a1 r1 b2 b3 a0 (fun a1 r1 b2 b3 b6 b10 a0=>ob (g2 a1 r1 b2 b3 b6 b10 a0) Q) Q=ob (Sb (Bq _) B1 L a1 r1 b2 b3 a0 g2 some) Q:=by
 unfold Sb
 dsimp only [Bh,Bq]
 try simp only [y1,y2,y3,y4,y5 Q,y6,y7,y8 Q,y9,z1,z2,z3,z4]
theorem Bcx(B1:Aa→Bool→Option Int)(L:Nat)(a1:Bool)(r1:Int)(b2:Bool)(b3:Bool)(a0:Aa)(kk:PV→Prop)(z2:EC):EV (O77 B1 L) L 9 (EC.put [false,false,false,false] z2 c77.r.r.r.r.r.r.r.r) (Auj a1 r1 b2 b3 a0) (As3 B1 L kk)=Sb Bh B1 L a1 r1 b2 b3 a0 (fun a1 r1 b2 b3 b6 b10 a0=>EV (O77 B1 L) L 9 z2 (Auk a1 r1 b2 b3 b6 b10 a0) (As4 B1 L kk)) (fun(x:Int)=>kk (I x)):=by kernel_rfl
theorem Bb9(B1:Aa→Bool→Option Int)(L:Nat)(a1:Bool)(r1:Int)(b2:Bool)(b3:Bool)(a0:Aa)(kk:PV→Prop):EV (O77 B1 L) L 9 c77.r.r.r.r.r.r.r.r (Auj a1 r1 b2 b3 a0) (As3 B1 L kk)=Ng Bh B1 L a1 r1 b2 b3 a0 (fun(x:Int)=>kk (I x)):=by
 refine Eq.trans (b:=EV (O77 B1 L) L 9 (EC.put [false,false,false,false] c77.r.r.r.r.r.r.r.r.r.r.r.r c77.r.r.r.r.r.r.r.r) (Auj a1 r1 b2 b3 a0) (As3 B1 L kk)) (by kernel_rfl) ?_
 refine Eq.trans (Bcx B1 L a1 r1 b2 b3 a0 kk c77.r.r.r.r.r.r.r.r.r.r.r.r) ?_
 unfold Ng
 simp only [Bca]
theorem Bi2(B1:Aa→Bool→Option Int)(L:Nat)(a1:Bool)(r1:Int)(b2:Bool)(b3:Bool)(a0:Aa)(Q:Int→Prop):Ng Bh B1 L a1 r1 b2 b3 a0 Q=ob (Ng (Bq _) B1 L a1 r1 b2 b3 a0 some) Q:=by
 unfold Ng
 simp only [Bi3]
 exact Bic B1 L a1 r1 b2 b3 a0 (fun a1 r1 b2 b3 b6 b10 a0=>Nh (Bq _) B1 L a1 r1 b2 b3 b6 b10 a0 some) Q
def Sa{A:Type}(an:An A)(B1:Aa→Bool→Option Int)(L:Nat)(a0:Aa)(a1:Bool)(nx1:Bool→Int→Bool→Bool→Aa→A)(out:Int→A):A:=
 (an.bd (Q7 L a0.Op) fun r1=>
 (an.jp (bif (decide (r1≥0)) then (bif a1 then (bif (a0.Op != 3) then true
 else (bif (!a1) then (decide (a0.Op≤24))
 else false))
 else (bif (!a1) then (decide (a0.Op≤24))
 else false))
 else false) (fun j=>(an.cn (decide (r1≥0))
 (an.cn a1
 (an.cn (a0.Op != 3)
 (an.ap j true)
 (an.cn (!a1)
 (an.ap j (decide (a0.Op≤24)))
 (an.ap j false)))
 (an.cn (!a1)
 (an.ap j (decide (a0.Op≤24)))
 (an.ap j false)))
 (an.ap j false))) (fun b2=>
 (an.jb (bif (!a1) then (bif (a0.Op == 3) then (some true)
 else (Option.bind (Ii L a0.Op) fun r4=>
 (some r4)))
 else (some false)) (fun j=>(an.cn (!a1)
 (an.cn (a0.Op == 3)
 (an.lf j true)
 (an.bd (Ii L a0.Op) fun r5=>
 (an.lf j r5)))
 (an.lf j false))) (fun b3=>
 (nx1 a1 r1 b2 b3 a0))))))
def Ac8{A:Type}(an:An A)(B1:Aa→Bool→Option Int)(L:Nat)(a0:Aa)(a1:Bool)(out:Int→A):A:=Sa an B1 L a0 a1 (fun a1 r1 b2 b3 a0=>Ng an B1 L a1 r1 b2 b3 a0 out) out
theorem Bib(B1:Aa→Bool→Option Int)(L:Nat)(a0:Aa)(a1:Bool)(g1:Bool→Int→Bool→Bool→Aa→Option Int)(Q:Int→Prop):Sa Bh B1 L a0 a1 (fun a1 r1 b2 b3 a0=>ob (g1 a1 r1 b2 b3 a0) Q) Q=ob (Sa (Bq _) B1 L a0 a1 g1 some) Q:=by
 unfold Sa
 dsimp only [Bh,Bq]
 try simp only [y1,y2,y3,y4,y5 Q,y6,y7,y8 Q,y9,z1,z2,z3,z4]
theorem Bcw(B1:Aa→Bool→Option Int)(L:Nat)(a0:Aa)(a1:Bool)(kk:PV→Prop)(z1:EC):EW (O77 B1 L) L 9 (RS Tryz.f77) (EC.put [false,false,false,false,false,false,false,false] z1 c77) [.agg (Ay a0),B a1] kk=Sa Bh B1 L a0 a1 (fun a1 r1 b2 b3 a0=>EV (O77 B1 L) L 9 z1 (Auj a1 r1 b2 b3 a0) (As3 B1 L kk)) (fun(x:Int)=>kk (I x)):=by kernel_rfl
def X3(B1:Aa→Bool→Option Int)(L:Nat)(a0:Aa)(a1:Bool):Option Int:=Ac8 (Bq _) B1 L a0 a1 some
theorem e77(B1:Aa→Bool→Option Int)(L:Nat)(a0:Aa)(a1:Bool)(kk:PV→Prop):EW (O77 B1 L) L 9 (RS Tryz.f77) c77 [.agg (Ay a0),B a1] kk=ob (X3 B1 L a0 a1) (fun(x:Int)=>kk (I x)):=by
 refine Eq.trans (b:=EW (O77 B1 L) L 9 (RS Tryz.f77) (EC.put [false,false,false,false,false,false,false,false] c77.r.r.r.r.r.r.r.r c77) [.agg (Ay a0),B a1] kk) (by kernel_rfl) ?_
 refine Eq.trans (Bcw B1 L a0 a1 kk c77.r.r.r.r.r.r.r.r) ?_
 simp only [Bb9]
 generalize (fun(x:Int)=>kk (I x))=Q
 simp only [Bi2]
 unfold X3 Ac8
 exact Bib B1 L a0 a1 (fun a1 r1 b2 b3 a0=>Ng (Bq _) B1 L a1 r1 b2 b3 a0 some) Q
theorem b77(B1:Aa→Bool→Option Int)(Bdz:∀(y0:Aa) (y1:Bool) (r:Int),B1 y0 y1=some r→Bc Tryz.prog 77 [.agg (Ay y0),B y1] (I r))(L:Nat)(a0:Aa)(a1:Bool)(r:Int)(h:X3 B1 L a0 a1=some r):Bc Tryz.prog 77 [.agg (Ay a0),B a1] (I r):=
 hE Cg (s77 B1 Bdz L) mixed Tryz.func77 (by kernel_rfl:C4 Tryz.prog inl Tryz.f77=some c77) (er:=fun(x:Int)=>I x) (by kernel_rfl) (e77 B1 L a0 a1) h
def L6:Nat→Aa→Bool→Option Int
 |0,_,_=>none
 |L+1,a0,a1=>X3 (L6 L) L a0 a1
theorem Bdj:∀L,(∀(y0:Aa) (y1:Bool) (r:Int),L6 L y0 y1=some r→Bc Tryz.prog 77 [.agg (Ay y0),B y1] (I r)):=by
 intro L
 induction L with
 |zero=>exact fun _ _ r h=>(by cases h)
 |succ L ih=>
  have i77:=ih
  exact fun y0 y1 r h=>b77 (L6 L) i77 L y0 y1 r h
theorem h77(L:Nat):∀(y0:Aa) (y1:Bool) (r:Int),L6 L y0 y1=some r→Bc Tryz.prog 77 [.agg (Ay y0),B y1] (I r):=Bdj L
noncomputable def c42:EC:=(C4 Tryz.prog inl Tryz.f42).getD .stop
def O42(L:Nat):Bi:=(Cp 75 (A1 (fun(x:Int)=>I x) Bm (Kv L)) (Cp 76 (A1 (fun(x:Int)=>I x) Bm (Ku L)) (Cp 77 (A2 (fun(x:Int)=>I x) Bm cB (L6 L)) Kg)))
theorem s42(L:Nat):Bs Tryz.prog (O42 L):=(Ad (a1 _ (h75 L)) (Ad (a1 _ (h76 L)) (Ad (a2 _ (h77 L)) (Az Tryz.prog))))
def Zf{A:Type}(an:An A)(L:Nat)(a0:Aa)(a1:Bool)(out:Int→A):A:=
 (an.bd (Kv L (Aa.cp a0)) fun r1=>
 (an.cn (decide (r1 > 60))
 (an.lf out 6)
 (an.bd (Ku L (Aa.cp a0)) fun r2=>
 (an.cn (decide (r2 > 12))
 (an.lf out 11)
 (an.bd (L6 L (Aa.cp a0) a1) fun r3=>
 (an.lf out r3))))))
def Q8(L:Nat)(a0:Aa)(a1:Bool):Option Int:=Zf (Bq _) L a0 a1 some
theorem e42(L:Nat)(a0:Aa)(a1:Bool)(kk:PV→Prop):EW (O42 L) L 9 (RS Tryz.f42) c42 [.agg (Ay a0),B a1] kk=ob (Q8 L a0 a1) (fun(x:Int)=>kk (I x)):=by
 refine Eq.trans (b:=Zf Bh L a0 a1 (fun(x:Int)=>kk (I x))) (by kernel_rfl) ?_
 generalize (fun(x:Int)=>kk (I x))=Q
 unfold Q8 Zf
 dsimp only [Bh,Bq]
 try simp only [y1,y2,y3,y4,y5 Q,y6,y7,y8 Q,y9,z1,z2,z3,z4]
theorem h42(L:Nat)(a0:Aa)(a1:Bool)(r:Int)(h:Q8 L a0 a1=some r):Bc Tryz.prog 42 [.agg (Ay a0),B a1] (I r):=
 hE Cg (s42 L) mixed Tryz.func42 (by kernel_rfl:C4 Tryz.prog inl Tryz.f42=some c42) (er:=fun(x:Int)=>I x) (by kernel_rfl) (e42 L a0 a1) h
noncomputable def c23:EC:=(C4 Tryz.prog inl Tryz.f23).getD .stop
def O23(L:Nat):Bi:=(Cp 42 (A2 (fun(x:Int)=>I x) Bm cB (Q8 L)) Kg)
theorem s23(L:Nat):Bs Tryz.prog (O23 L):=(Ad (a2 _ (h42 L)) (Az Tryz.prog))
def Ze{A:Type}(an:An A)(L:Nat)(a0:Aa)(out:Int→A):A:=
 (an.bd (Q8 L (Aa.cp a0) false) fun r1=>
 (an.lf out r1))
def E3(L:Nat)(a0:Aa):Option Int:=Ze (Bq _) L a0 some
theorem e23(L:Nat)(a0:Aa)(kk:PV→Prop):EW (O23 L) L 9 (RS Tryz.f23) c23 [.agg (Ay a0)] kk=ob (E3 L a0) (fun(x:Int)=>kk (I x)):=by
 refine Eq.trans (b:=Ze Bh L a0 (fun(x:Int)=>kk (I x))) (by kernel_rfl) ?_
 generalize (fun(x:Int)=>kk (I x))=Q
 unfold E3 Ze
 dsimp only [Bh,Bq]
 try simp only [y1,y2,y3,y4,y5 Q,y6,y7,y8 Q,y9,z1,z2,z3,z4]
theorem h23(L:Nat)(a0:Aa)(r:Int)(h:E3 L a0=some r):Bc Tryz.prog 23 [.agg (Ay a0)] (I r):=
 hE Cg (s23 L) mixed Tryz.func23 (by kernel_rfl:C4 Tryz.prog inl Tryz.f23=some c23) (er:=fun(x:Int)=>I x) (by kernel_rfl) (e23 L a0) h
noncomputable def j6:EC:=(C4 Tryz.prog inl Tryz.f185).getD .stop
def i5(L:Nat):Bi:=(Cp 23 (A1 (fun(x:Int)=>I x) Bm (E3 L)) Kg)
theorem Bt9(L:Nat):Bs Tryz.prog (i5 L):=(Ad (a1 _ (h23 L)) (Az Tryz.prog))
def Vf(a0:Ab)(a1:B4)(Ae:Int)(Ah:Int):St:=({ fr:= [(0,.any),(1,.any),(2,.loc 2 0),(3,.any),(4,I 0),(5,I Ae),(6,I Ah)],ob:= [(2,(B2 a0)),(3,(E7 a1))],base:=0 } :St)
def Uk(a0:Ab)(a1:B4)(K:Ex→St→Prop):Nat×(Int×Int)→Prop:=fun o=>Cr o.1 [K (.exit 0) (Vf a0 a1 o.2.1 o.2.2)]
def K6{A:Type}(an:An A)(L:Nat)(a0:Ab)(a1:B4)(rec:Int→Int→A)(out:Nat×(Int×Int)→A)(Ae:Int)(Ah:Int):A:=
 (an.jp (bif (Ae == 0) then (decide (Ah < (a0.Args.length:Int)))
 else false) (fun j=>(an.cn (Ae == 0)
 (an.ap j (decide (Ah < (a0.Args.length:Int))))
 (an.ap j false))) (fun b5=>
 (an.cn b5
 (an.gd ((0:Int)≤Ah)
 (an.gd (Ah < ((a0.Args.length:Nat):Int))
 (an.bd (E3 L (Aa.cp (a0.Args.getD (Int.toNat Ah) default))) fun r6=>
 (rec r6 (F9 (Ah+1))))))
 (an.lf out (0,(Ae,Ah))))))
def Dc(L:Nat)(a0:Ab)(a1:B4):Nat→Int→Int→Option (Nat×(Int×Int))
 |0,_,_=>none
 |n+1,Ae,Ah=>K6 (Bq _) L a0 a1 (Dc L a0 a1 n) some Ae Ah
theorem A9j(L:Nat)(a0:Ab)(a1:B4)(g:Int→Int→Option (Nat×(Int×Int)))(Q:Nat×(Int×Int)→Prop)(Ae:Int)(Ah:Int):K6 Bh L a0 a1 (fun Ae Ah=>ob (g Ae Ah) Q) Q Ae Ah=ob (K6 (Bq _) L a0 a1 g some Ae Ah) Q:=by
 unfold K6
 dsimp only [Bh,Bq]
 try simp only [y1,y2,y3,y4,y5 Q,y6,y7,y8 Q,y9,z1,z2,z3,z4]
 try simp only [z5,z6,y1,y2,y3,y4,y5 Q,y6,y7,y8 Q,y9,z1,z2,z3,z4]
theorem A80(L:Nat)(a0:Ab)(a1:B4)(n:Nat)(Ae:Int)(Ah:Int)(K:Ex→St→Prop):Bl (EV (i5 L) L 9 j6.r.r.r.r.r.r.r.r.r.r.l.r.r.l.l) [0,1,2,3,4,5,6] [2,3] n (Vf a0 a1 Ae Ah) K=ob (Dc L a0 a1 n Ae Ah) (fun o=>Uk a0 a1 K o):=by
 induction n generalizing Ae Ah with
 |zero=>rfl
 |succ n ih=>
  refine Eq.trans (b:=K6 Bh L a0 a1 (fun Ae Ah=>Bl (EV (i5 L) L 9 j6.r.r.r.r.r.r.r.r.r.r.l.r.r.l.l) [0,1,2,3,4,5,6] [2,3] n (Vf a0 a1 Ae Ah) K) (Uk a0 a1 K) Ae Ah) (by kernel_rfl) ?_
  simp only [ih]
  exact A9j L a0 a1 (Dc L a0 a1 n) (Uk a0 a1 K) Ae Ah
def A0e(L:Nat)(kk:PV→Prop):Ex→St→Prop:=(Ca 0 (Dl (EV (i5 L) L 9 j6.r.r.r.r.r.r.r.r.r.r.r) (Dx Tryz.prog (RS Tryz.f185) kk)))
def A0f(L:Nat)(kk:PV→Prop):Ex→St→Prop:=(Ca 0 (Dl (EV (i5 L) L 9 j6.r.r.r.r.r.r.r.r.r.r.r) (Dx Tryz.prog (RS Tryz.f185) kk)))
def A0g(L:Nat)(kk:PV→Prop):Ex→St→Prop:=(Ca 0 (Dl (EV (i5 L) L 9 j6.r.r.r.r.r.r.r.r.r.r.r) (Dx Tryz.prog (RS Tryz.f185) kk)))
def A0h(L:Nat)(kk:PV→Prop):Ex→St→Prop:=(Ca 0 (Dl (EV (i5 L) L 9 j6.r.r.r.r.r.r.r.r.r.r.r) (Dx Tryz.prog (RS Tryz.f185) kk)))
def A0i(L:Nat)(kk:PV→Prop):Ex→St→Prop:=(Ca 0 (Dl (EV (i5 L) L 9 j6.r.r.r.r.r.r.r.r.r.r.r) (Dx Tryz.prog (RS Tryz.f185) kk)))
def A0j(L:Nat)(kk:PV→Prop):Ex→St→Prop:=(Ca 0 (Dl (EV (i5 L) L 9 j6.r.r.r.r.r.r.r.r.r.r.r) (Dx Tryz.prog (RS Tryz.f185) kk)))
def A0k(L:Nat)(kk:PV→Prop):Ex→St→Prop:=(Ca 0 (Dl (EV (i5 L) L 9 j6.r.r.r.r.r.r.r.r.r.r.r) (Dx Tryz.prog (RS Tryz.f185) kk)))
def A0l(L:Nat)(kk:PV→Prop):Ex→St→Prop:=(Ca 0 (Dl (EV (i5 L) L 9 j6.r.r.r.r.r.r.r.r.r.r.r) (Dx Tryz.prog (RS Tryz.f185) kk)))
theorem Bg6(L:Nat)(a0:Ab)(a1:B4)(kk:PV→Prop)(o8:Nat×(Int×Int)):Uk a0 a1 (A0e L kk) o8=
 (Cr o8.1 [(ob (some o8.2.1) (fun(x:Int)=>kk (I x)))]):=by kernel_rfl
theorem Bg7(L:Nat)(a0:Ab)(a1:B4)(kk:PV→Prop)(o9:Nat×(Int×Int)):Uk a0 a1 (A0f L kk) o9=
 (Cr o9.1 [(ob (some o9.2.1) (fun(x:Int)=>kk (I x)))]):=by kernel_rfl
theorem Bg8(L:Nat)(a0:Ab)(a1:B4)(kk:PV→Prop)(o10:Nat×(Int×Int)):Uk a0 a1 (A0g L kk) o10=
 (Cr o10.1 [(ob (some o10.2.1) (fun(x:Int)=>kk (I x)))]):=by kernel_rfl
theorem Bg9(L:Nat)(a0:Ab)(a1:B4)(kk:PV→Prop)(o11:Nat×(Int×Int)):Uk a0 a1 (A0h L kk) o11=
 (Cr o11.1 [(ob (some o11.2.1) (fun(x:Int)=>kk (I x)))]):=by kernel_rfl
theorem Bha(L:Nat)(a0:Ab)(a1:B4)(kk:PV→Prop)(o12:Nat×(Int×Int)):Uk a0 a1 (A0i L kk) o12=
 (Cr o12.1 [(ob (some o12.2.1) (fun(x:Int)=>kk (I x)))]):=by kernel_rfl
theorem Bhb(L:Nat)(a0:Ab)(a1:B4)(kk:PV→Prop)(o13:Nat×(Int×Int)):Uk a0 a1 (A0j L kk) o13=
 (Cr o13.1 [(ob (some o13.2.1) (fun(x:Int)=>kk (I x)))]):=by kernel_rfl
theorem Bhc(L:Nat)(a0:Ab)(a1:B4)(kk:PV→Prop)(o14:Nat×(Int×Int)):Uk a0 a1 (A0k L kk) o14=
 (Cr o14.1 [(ob (some o14.2.1) (fun(x:Int)=>kk (I x)))]):=by kernel_rfl
theorem Bhd(L:Nat)(a0:Ab)(a1:B4)(kk:PV→Prop)(o15:Nat×(Int×Int)):Uk a0 a1 (A0l L kk) o15=
 (Cr o15.1 [(ob (some o15.2.1) (fun(x:Int)=>kk (I x)))]):=by kernel_rfl
def Wj{A:Type}(an:An A)(L:Nat)(a0:Ab)(a1:B4)(out:Int→A):A:=
 (an.cn a1.E
 (an.bd (E3 L (Aa.cp a0.E)) fun r1=>
 (an.jp (bif (r1 == 0) then a1.F
 else false) (fun j=>(an.cn (r1 == 0)
 (an.ap j a1.F)
 (an.ap j false))) (fun b2=>
 (an.cn b2
 (an.bd (E3 L (Aa.cp a0.F)) fun r3=>
 (an.jp (bif (r3 == 0) then (decide ((a0.Args.length:Int) > 6))
 else false) (fun j=>(an.cn (r3 == 0)
 (an.ap j (decide ((a0.Args.length:Int) > 6)))
 (an.ap j false))) (fun b4=>
 (an.cn b4
 (an.bd (Dc L a0 a1 L 6 0) fun o5=>
 (an.sl o5.1 [(an.lf out o5.2.1)]))
 (an.bd (Dc L a0 a1 L r3 0) fun o6=>
 (an.sl o6.1 [(an.lf out o6.2.1)]))))))
 (an.jp (bif (r1 == 0) then (decide ((a0.Args.length:Int) > 6))
 else false) (fun j=>(an.cn (r1 == 0)
 (an.ap j (decide ((a0.Args.length:Int) > 6)))
 (an.ap j false))) (fun b7=>
 (an.cn b7
 (an.bd (Dc L a0 a1 L 6 0) fun o8=>
 (an.sl o8.1 [(an.lf out o8.2.1)]))
 (an.bd (Dc L a0 a1 L r1 0) fun o9=>
 (an.sl o9.1 [(an.lf out o9.2.1)])))))))))
 (an.nj (an.cn a1.F
 (an.bd (E3 L (Aa.cp a0.F)) fun r10=>
 (an.jp (bif (r10 == 0) then (decide ((a0.Args.length:Int) > 6))
 else false) (fun j=>(an.cn (r10 == 0)
 (an.ap j (decide ((a0.Args.length:Int) > 6)))
 (an.ap j false))) (fun b11=>
 (an.cn b11
 (an.bd (Dc L a0 a1 L 6 0) fun o12=>
 (an.sl o12.1 [(an.lf out o12.2.1)]))
 (an.bd (Dc L a0 a1 L r10 0) fun o13=>
 (an.sl o13.1 [(an.lf out o13.2.1)]))))))
 (an.nj (an.cn (decide ((a0.Args.length:Int) > 6))
 (an.bd (Dc L a0 a1 L 6 0) fun o14=>
 (an.sl o14.1 [(an.lf out o14.2.1)]))
 (an.bd (Dc L a0 a1 L 0 0) fun o15=>
 (an.sl o15.1 [(an.lf out o15.2.1)])))))))
def Ra(L:Nat)(a0:Ab)(a1:B4):Option Int:=Wj (Bq _) L a0 a1 some
theorem Br9(L:Nat)(a0:Ab)(a1:B4)(kk:PV→Prop):EW (i5 L) L 9 (RS Tryz.f185) j6 [.agg (B2 a0),.agg (E7 a1)] kk=ob (Ra L a0 a1) (fun(x:Int)=>kk (I x)):=by
 refine Eq.trans (b:=Wj Bh L a0 a1 (fun(x:Int)=>kk (I x))) ?_ ?_
 ·refine Eq.trans (b:=(br a1.E
 (ob (E3 L (Aa.cp a0.E)) fun r1=>
 (jn (fun j=>(br (r1 == 0)
 (ap j a1.F)
 (ap j false))) (fun b2=>
 (br b2
 (ob (E3 L (Aa.cp a0.F)) fun r3=>
 (jn (fun j=>(br (r3 == 0)
 (ap j (decide ((a0.Args.length:Int) > 6)))
 (ap j false))) (fun b4=>
 (br b4
 (Bl (EV (i5 L) L 9 j6.r.r.r.r.r.r.r.r.r.r.l.r.r.l.l) [0,1,2,3,4,5,6] [2,3] L (Vf a0 a1 6 0) (A0e L kk))
 (Bl (EV (i5 L) L 9 j6.r.r.r.r.r.r.r.r.r.r.l.r.r.l.l) [0,1,2,3,4,5,6] [2,3] L (Vf a0 a1 r3 0) (A0f L kk))))))
 (jn (fun j=>(br (r1 == 0)
 (ap j (decide ((a0.Args.length:Int) > 6)))
 (ap j false))) (fun b5=>
 (br b5
 (Bl (EV (i5 L) L 9 j6.r.r.r.r.r.r.r.r.r.r.l.r.r.l.l) [0,1,2,3,4,5,6] [2,3] L (Vf a0 a1 6 0) (A0g L kk))
 (Bl (EV (i5 L) L 9 j6.r.r.r.r.r.r.r.r.r.r.l.r.r.l.l) [0,1,2,3,4,5,6] [2,3] L (Vf a0 a1 r1 0) (A0h L kk)))))))))
 (nj (br a1.F
 (ob (E3 L (Aa.cp a0.F)) fun r6=>
 (jn (fun j=>(br (r6 == 0)
 (ap j (decide ((a0.Args.length:Int) > 6)))
 (ap j false))) (fun b7=>
 (br b7
 (Bl (EV (i5 L) L 9 j6.r.r.r.r.r.r.r.r.r.r.l.r.r.l.l) [0,1,2,3,4,5,6] [2,3] L (Vf a0 a1 6 0) (A0i L kk))
 (Bl (EV (i5 L) L 9 j6.r.r.r.r.r.r.r.r.r.r.l.r.r.l.l) [0,1,2,3,4,5,6] [2,3] L (Vf a0 a1 r6 0) (A0j L kk))))))
 (nj (br (decide ((a0.Args.length:Int) > 6))
 (Bl (EV (i5 L) L 9 j6.r.r.r.r.r.r.r.r.r.r.l.r.r.l.l) [0,1,2,3,4,5,6] [2,3] L (Vf a0 a1 6 0) (A0k L kk))
 (Bl (EV (i5 L) L 9 j6.r.r.r.r.r.r.r.r.r.r.l.r.r.l.l) [0,1,2,3,4,5,6] [2,3] L (Vf a0 a1 0 0) (A0l L kk)))))))) (by kernel_rfl) ?_
  unfold Wj
  dsimp only [Bh]
  simp only [A80,Bg6,Bg7,Bg8,Bg9,Bha,Bhb,Bhc,Bhd]
 generalize (fun(x:Int)=>kk (I x))=Q
 unfold Ra Wj
 dsimp only [Bh,Bq]
 try simp only [y1,y2,y3,y4,y5 Q,y6,y7,y8 Q,y9,z1,z2,z3,z4]
theorem Bnf(L:Nat)(a0:Ab)(a1:B4)(r:Int)(h:Ra L a0 a1=some r):Bc Tryz.prog 185 [.agg (B2 a0),.agg (E7 a1)] (I r):=
 hE Cg (Bt9 L) mixed Tryz.func185 (by kernel_rfl:C4 Tryz.prog inl Tryz.f185=some j6) (er:=fun(x:Int)=>I x) (by kernel_rfl) (Br9 L a0 a1) h
noncomputable def Bmo:EC:=(C4 Tryz.prog inl Tryz.f223).getD .stop
def Blf(L:Nat):Bi:=Kg
theorem Bup(L:Nat):Bs Tryz.prog (Blf L):=(Az Tryz.prog)
def Xi{A:Type}(an:An A)(L:Nat)(a0:Bo)(out:Bool→A):A:=
 (an.jp (bif ((a0.Values.length:Int) == 0) then ((a0.Weights.length:Int) == 0)
 else false) (fun j=>(an.cn ((a0.Values.length:Int) == 0)
 (an.ap j ((a0.Weights.length:Int) == 0))
 (an.ap j false))) (fun b1=>
 (an.cn (a0.Op == 1)
 (an.jp (bif (a0.B == 0) then (a0.N == 0)
 else false) (fun j=>(an.cn (a0.B == 0)
 (an.ap j (a0.N == 0))
 (an.ap j false))) (fun b2=>
 (an.jp (bif b2 then b1
 else false) (fun j=>(an.cn b2
 (an.ap j b1)
 (an.ap j false))) (fun b3=>
 (an.lf out b3)))))
 (an.cn (a0.Op == 2)
 (an.cn (a0.Op == 2)
 (an.jp (bif (a0.N == 0) then b1
 else false) (fun j=>(an.cn (a0.N == 0)
 (an.ap j b1)
 (an.ap j false))) (fun b4=>
 (an.lf out b4)))
 (an.cn (a0.Op == 3)
 (an.jp (bif (a0.A == 0) then (a0.B == 0)
 else false) (fun j=>(an.cn (a0.A == 0)
 (an.ap j (a0.B == 0))
 (an.ap j false))) (fun b5=>
 (an.jp (bif b5 then (a0.N == 0)
 else false) (fun j=>(an.cn b5
 (an.ap j (a0.N == 0))
 (an.ap j false))) (fun b6=>
 (an.lf out b6)))))
 (an.cn (a0.Op == 4)
 (an.lf out b1)
 (an.lf out false))))
 (an.cn (a0.Op == 5)
 (an.jp (bif (a0.N == 0) then b1
 else false) (fun j=>(an.cn (a0.N == 0)
 (an.ap j b1)
 (an.ap j false))) (fun b7=>
 (an.lf out b7)))
 (an.cn (a0.Op == 3)
 (an.jp (bif (a0.A == 0) then (a0.B == 0)
 else false) (fun j=>(an.cn (a0.A == 0)
 (an.ap j (a0.B == 0))
 (an.ap j false))) (fun b8=>
 (an.jp (bif b8 then (a0.N == 0)
 else false) (fun j=>(an.cn b8
 (an.ap j (a0.N == 0))
 (an.ap j false))) (fun b9=>
 (an.lf out b9)))))
 (an.cn (a0.Op == 4)
 (an.lf out b1)
 (an.lf out false))))))))
def Oy(L:Nat)(a0:Bo):Option Bool:=Xi (Bq _) L a0 some
theorem Bsp(L:Nat)(a0:Bo)(kk:PV→Prop):EW (Blf L) L 9 (RS Tryz.f223) Bmo [.agg (C9 a0)] kk=ob (Oy L a0) (fun(x:Bool)=>kk (B x)):=by
 refine Eq.trans (b:=Xi Bh L a0 (fun(x:Bool)=>kk (B x))) (by kernel_rfl) ?_
 generalize (fun(x:Bool)=>kk (B x))=Q
 unfold Oy Xi
 dsimp only [Bh,Bq]
 try simp only [y1,y2,y3,y4,y5 Q,y6,y7,y8 Q,y9,z1,z2,z3,z4]
theorem Bnu(L:Nat)(a0:Bo)(r:Bool)(h:Oy L a0=some r):Bc Tryz.prog 223 [.agg (C9 a0)] (B r):=
 hE Cg (Bup L) mixed Tryz.func223 (by kernel_rfl:C4 Tryz.prog inl Tryz.f223=some Bmo) (er:=fun(x:Bool)=>B x) (by kernel_rfl) (Bsp L a0) h
noncomputable def Bmp:EC:=(C4 Tryz.prog inl Tryz.f224).getD .stop
def Blg(L:Nat):Bi:=Kg
theorem Buq(L:Nat):Bs Tryz.prog (Blg L):=(Az Tryz.prog)
def Vv{A:Type}(an:An A)(L:Nat)(a0:Int)(a1:Int)(a2:Int)(out:Bool→A):A:=
 (an.jp (bif (decide (a0≥a1)) then (decide (a0≤a2))
 else false) (fun j=>(an.cn (decide (a0≥a1))
 (an.ap j (decide (a0≤a2)))
 (an.ap j false))) (fun b1=>
 (an.lf out b1)))
def Cz(L:Nat)(a0:Int)(a1:Int)(a2:Int):Option Bool:=Vv (Bq _) L a0 a1 a2 some
theorem Bsq(L:Nat)(a0:Int)(a1:Int)(a2:Int)(kk:PV→Prop):EW (Blg L) L 9 (RS Tryz.f224) Bmp [I a0,I a1,I a2] kk=ob (Cz L a0 a1 a2) (fun(x:Bool)=>kk (B x)):=by
 refine Eq.trans (b:=Vv Bh L a0 a1 a2 (fun(x:Bool)=>kk (B x))) (by kernel_rfl) ?_
 generalize (fun(x:Bool)=>kk (B x))=Q
 unfold Cz Vv
 dsimp only [Bh,Bq]
 try simp only [y1,y2,y3,y4,y5 Q,y6,y7,y8 Q,y9,z1,z2,z3,z4]
theorem Bc6(L:Nat)(a0:Int)(a1:Int)(a2:Int)(r:Bool)(h:Cz L a0 a1 a2=some r):Bc Tryz.prog 224 [I a0,I a1,I a2] (B r):=
 hE Cg (Buq L) mixed Tryz.func224 (by kernel_rfl:C4 Tryz.prog inl Tryz.f224=some Bmp) (er:=fun(x:Bool)=>B x) (by kernel_rfl) (Bsq L a0 a1 a2) h
noncomputable def A1v:EC:=(C4 Tryz.prog inl Tryz.f225).getD .stop
def A1d(L:Nat):Bi:=(Cp 224 (A3 (fun(x:Bool)=>B x) (cI .i64) (cI .i64) (cI .i64) (Cz L)) Kg)
theorem Bur(L:Nat):Bs Tryz.prog (A1d L):=(Ad (a3 _ (Bc6 L)) (Az Tryz.prog))
def Afz(a0:Bo)(A9:Int)(Ae:Int):St:=({ fr:= [(0,.any),(1,.loc 1 0),(2,I A9),(3,I Ae)],ob:= [(1,(C9 a0))],base:=0 } :St)
def Ake(a0:Bo)(K:Ex→St→Prop):Nat×(Int×Int)→Prop:=fun o=>Cr o.1 [K .ret (Afz a0 o.2.1 o.2.2),K (.exit 0) (Afz a0 o.2.1 o.2.2)]
def Nv{A:Type}(an:An A)(L:Nat)(a0:Bo)(rec:Int→Int→A)(out:Nat×(Int×Int)→A)(A9:Int)(Ae:Int):A:=
 (an.cn (decide (Ae < (a0.Values.length:Int)))
 (an.gd ((0:Int)≤Ae)
 (an.gd (Ae < ((a0.Values.length:Nat):Int))
 (an.bd (Cz L (a0.Values.getD (Int.toNat Ae) default) 0 1000000000) fun r1=>
 (an.jb (bif (!r1) then (some true)
 else (if (0:Int)≤Ae then
 (if Ae < ((a0.Weights.length:Nat):Int) then
 (Option.bind (Cz L (a0.Weights.getD (Int.toNat Ae) default) 1 1000) fun r3=>
 (some (!r3))) else none) else none)) (fun j=>(an.cn (!r1)
 (an.lf j true)
 (an.gd ((0:Int)≤Ae)
 (an.gd (Ae < ((a0.Weights.length:Nat):Int))
 (an.bd (Cz L (a0.Weights.getD (Int.toNat Ae) default) 1 1000) fun r4=>
 (an.lf j (!r4))))))) (fun b2=>
 (an.cn b2
 (an.lf out (0,(2,Ae)))
 (rec A9 (F9 (Ae+1)))))))))
 (an.lf out (1,(A9,Ae))))
def K8(L:Nat)(a0:Bo):Nat→Int→Int→Option (Nat×(Int×Int))
 |0,_,_=>none
 |n+1,A9,Ae=>Nv (Bq _) L a0 (K8 L a0 n) some A9 Ae
theorem A9o(L:Nat)(a0:Bo)(g:Int→Int→Option (Nat×(Int×Int)))(Q:Nat×(Int×Int)→Prop)(A9:Int)(Ae:Int):Nv Bh L a0 (fun A9 Ae=>ob (g A9 Ae) Q) Q A9 Ae=ob (Nv (Bq _) L a0 g some A9 Ae) Q:=by
 unfold Nv
 dsimp only [Bh,Bq]
 try simp only [y1,y2,y3,y4,y5 Q,y6,y7,y8 Q,y9,z1,z2,z3,z4]
 try simp only [z5,z6,y1,y2,y3,y4,y5 Q,y6,y7,y8 Q,y9,z1,z2,z3,z4]
theorem A85(L:Nat)(a0:Bo)(n:Nat)(A9:Int)(Ae:Int)(K:Ex→St→Prop):Bl (EV (A1d L) L 9 A1v.r.r.r.r.r.r.r.r.l.r.r.l.l) [0,1,2,3] [1] n (Afz a0 A9 Ae) K=ob (K8 L a0 n A9 Ae) (fun o=>Ake a0 K o):=by
 induction n generalizing A9 Ae with
 |zero=>rfl
 |succ n ih=>
  refine Eq.trans (b:=Nv Bh L a0 (fun A9 Ae=>Bl (EV (A1d L) L 9 A1v.r.r.r.r.r.r.r.r.l.r.r.l.l) [0,1,2,3] [1] n (Afz a0 A9 Ae) K) (Ake a0 K) A9 Ae) (by kernel_rfl) ?_
  simp only [ih]
  exact A9o L a0 (K8 L a0 n) (Ake a0 K) A9 Ae
def A0r(L:Nat)(kk:PV→Prop):Ex→St→Prop:=(Ca 0 (Dl (EV (A1d L) L 9 A1v.r.r.r.r.r.r.r.r.r) (Dx Tryz.prog (RS Tryz.f225) kk)))
theorem Bhj(L:Nat)(a0:Bo)(kk:PV→Prop)(o1:Nat×(Int×Int)):Ake a0 (A0r L kk) o1=
 (Cr o1.1 [(ob (some o1.2.1) (fun(x:Int)=>kk (I x))),
 (ob (some 0) (fun(x:Int)=>kk (I x)))]):=by kernel_rfl
def Wd{A:Type}(an:An A)(L:Nat)(a0:Bo)(out:Int→A):A:=
 (an.cn ((a0.Values.length:Int) != (a0.Weights.length:Int))
 (an.lf out 8)
 (an.cn ((a0.Values.length:Int) == 0)
 (an.lf out 7)
 (an.cn (decide ((a0.Values.length:Int) > 20))
 (an.lf out 6)
 (an.bd (K8 L a0 L 0 0) fun o1=>
 (an.sl o1.1 [(an.lf out o1.2.1),
 (an.lf out 0)])))))
def Q6(L:Nat)(a0:Bo):Option Int:=Wd (Bq _) L a0 some
theorem Bsr(L:Nat)(a0:Bo)(kk:PV→Prop):EW (A1d L) L 9 (RS Tryz.f225) A1v [.agg (C9 a0)] kk=ob (Q6 L a0) (fun(x:Int)=>kk (I x)):=by
 refine Eq.trans (b:=Wd Bh L a0 (fun(x:Int)=>kk (I x))) ?_ ?_
 ·refine Eq.trans (b:=(br ((a0.Values.length:Int) != (a0.Weights.length:Int))
 (ob (some 8) (fun(x:Int)=>kk (I x)))
 (br ((a0.Values.length:Int) == 0)
 (ob (some 7) (fun(x:Int)=>kk (I x)))
 (br (decide ((a0.Values.length:Int) > 20))
 (ob (some 6) (fun(x:Int)=>kk (I x)))
 (Bl (EV (A1d L) L 9 A1v.r.r.r.r.r.r.r.r.l.r.r.l.l) [0,1,2,3] [1] L (Afz a0 0 0) (A0r L kk)))))) (by kernel_rfl) ?_
  unfold Wd
  dsimp only [Bh]
  simp only [A85,Bhj]
 generalize (fun(x:Int)=>kk (I x))=Q
 unfold Q6 Wd
 dsimp only [Bh,Bq]
 try simp only [y1,y2,y3,y4,y5 Q,y6,y7,y8 Q,y9,z1,z2,z3,z4]
theorem Bnv(L:Nat)(a0:Bo)(r:Int)(h:Q6 L a0=some r):Bc Tryz.prog 225 [.agg (C9 a0)] (I r):=
 hE Cg (Bur L) mixed Tryz.func225 (by kernel_rfl:C4 Tryz.prog inl Tryz.f225=some A1v) (er:=fun(x:Int)=>I x) (by kernel_rfl) (Bsr L a0) h
noncomputable def Bmd:EC:=(C4 Tryz.prog inl Tryz.f186).getD .stop
def Bk4(L:Nat):Bi:=(Cp 223 (A1 (fun(x:Bool)=>B x) Ei (Oy L)) (Cp 224 (A3 (fun(x:Bool)=>B x) (cI .i64) (cI .i64) (cI .i64) (Cz L)) (Cp 225 (A1 (fun(x:Int)=>I x) Ei (Q6 L)) Kg)))
theorem Bua(L:Nat):Bs Tryz.prog (Bk4 L):=(Ad (a1 _ (Bnu L)) (Ad (a3 _ (Bc6 L)) (Ad (a1 _ (Bnv L)) (Az Tryz.prog))))
def Zc{A:Type}(an:An A)(L:Nat)(a0:Bo)(out:Int→A):A:=
 (an.bd (Oy L a0) fun r1=>
 (an.cn (!r1)
 (an.lf out 1)
 (an.cn (a0.Op == 1)
 (an.bd (Cz L a0.A 0 1000000000) fun r2=>
 (an.cn (!r2)
 (an.lf out 2)
 (an.lf out 0)))
 (an.cn (a0.Op == 2)
 (an.bd (Cz L a0.A 0 a0.B) fun r3=>
 (an.jp (bif r3 then (decide (a0.B≤1000000000))
 else false) (fun j=>(an.cn r3
 (an.ap j (decide (a0.B≤1000000000)))
 (an.ap j false))) (fun b4=>
 (an.cn (!b4)
 (an.lf out 2)
 (an.lf out 0)))))
 (an.cn (a0.Op == 3)
 (an.bd (Q6 L a0) fun r5=>
 (an.lf out r5))
 (an.cn (a0.Op == 4)
 (an.bd (Cz L a0.N 1 20) fun r6=>
 (an.jb (bif r6 then (Option.bind (Cz L a0.A 0 a0.B) fun r8=>
 (some r8))
 else (some false)) (fun j=>(an.cn r6
 (an.bd (Cz L a0.A 0 a0.B) fun r9=>
 (an.lf j r9))
 (an.lf j false))) (fun b7=>
 (an.jp (bif b7 then (decide (a0.B≤1000000))
 else false) (fun j=>(an.cn b7
 (an.ap j (decide (a0.B≤1000000)))
 (an.ap j false))) (fun b10=>
 (an.cn (!b10)
 (an.lf out 2)
 (an.lf out 0)))))))
 (an.cn (a0.Op == 5)
 (an.bd (Cz L a0.A 1 1000) fun r11=>
 (an.jb (bif r11 then (Option.bind (Cz L a0.B 1 1000) fun r13=>
 (some r13))
 else (some false)) (fun j=>(an.cn r11
 (an.bd (Cz L a0.B 1 1000) fun r14=>
 (an.lf j r14))
 (an.lf j false))) (fun b12=>
 (an.cn (!b12)
 (an.lf out 2)
 (an.lf out 0)))))
 (an.lf out 0))))))))
def Q0(L:Nat)(a0:Bo):Option Int:=Zc (Bq _) L a0 some
theorem Bsa(L:Nat)(a0:Bo)(kk:PV→Prop):EW (Bk4 L) L 9 (RS Tryz.f186) Bmd [.agg (C9 a0)] kk=ob (Q0 L a0) (fun(x:Int)=>kk (I x)):=by
 refine Eq.trans (b:=Zc Bh L a0 (fun(x:Int)=>kk (I x))) (by kernel_rfl) ?_
 generalize (fun(x:Int)=>kk (I x))=Q
 unfold Q0 Zc
 dsimp only [Bh,Bq]
 try simp only [y1,y2,y3,y4,y5 Q,y6,y7,y8 Q,y9,z1,z2,z3,z4]
theorem Bng(L:Nat)(a0:Bo)(r:Int)(h:Q0 L a0=some r):Bc Tryz.prog 186 [.agg (C9 a0)] (I r):=
 hE Cg (Bua L) mixed Tryz.func186 (by kernel_rfl:C4 Tryz.prog inl Tryz.f186=some Bmd) (er:=fun(x:Int)=>I x) (by kernel_rfl) (Bsa L a0) h
noncomputable def c96:EC:=(C4 Tryz.prog inl Tryz.f96).getD .stop
def O96(L:Nat):Bi:=(Cp 66 (A1 (fun(x:Int)=>I x) cS (E2 L)) (Cp 183 (A1 (fun(x:(B4×Bool))=> .tup [.agg (E7 x.1),B x.2]) (cI .i64) (Tk L)) (Cp 184 (A1 (fun(x:Bool)=>B x) Co (Oz L)) (Cp 185 (A2 (fun(x:Int)=>I x) Co Ahw (Ra L)) (Cp 186 (A1 (fun(x:Int)=>I x) Ei (Q0 L)) Kg)))))
theorem s96(L:Nat):Bs Tryz.prog (O96 L):=(Ad (a1 _ (h66 L)) (Ad (a1 _ (Bc4 L)) (Ad (a1 _ (Bne L)) (Ad (a2 _ (Bnf L)) (Ad (a1 _ (Bng L)) (Az Tryz.prog))))))
def Ab6{A:Type}(an:An A)(L:Nat)(a0:Ab)(out:Int→A):A:=
 (an.bd (Tk L a0.Op) fun r1=>
 (an.bd (Oz L (Ab.cp a0)) fun r2=>
 (an.cn (!r2)
 (an.lf out 1)
 (an.jb (bif r1.1.Name then (Option.bind (E2 L a0.Name) fun r4=>
 (some (r4 != 0)))
 else (some false)) (fun j=>(an.cn r1.1.Name
 (an.bd (E2 L a0.Name) fun r5=>
 (an.lf j (r5 != 0)))
 (an.lf j false))) (fun b3=>
 (an.jb (bif b3 then (some true)
 else (bif r1.1.Of then (Option.bind (E2 L a0.Of) fun r7=>
 (some (r7 != 0)))
 else (some false))) (fun j=>(an.cn b3
 (an.lf j true)
 (an.cn r1.1.Of
 (an.bd (E2 L a0.Of) fun r8=>
 (an.lf j (r8 != 0)))
 (an.lf j false)))) (fun b6=>
 (an.cn b6
 (an.lf out 3)
 (an.bd (Ra L (Ab.cp a0) r1.1) fun r9=>
 (an.jp (bif (r9 == 0) then r1.1.Dist
 else false) (fun j=>(an.cn (r9 == 0)
 (an.ap j r1.1.Dist)
 (an.ap j false))) (fun b10=>
 (an.cn b10
 (an.bd (Q0 L a0.Dist) fun r11=>
 (an.lf out r11))
 (an.lf out r9)))))))))))))
def S8(L:Nat)(a0:Ab):Option Int:=Ab6 (Bq _) L a0 some
theorem e96(L:Nat)(a0:Ab)(kk:PV→Prop):EW (O96 L) L 9 (RS Tryz.f96) c96 [.agg (B2 a0)] kk=ob (S8 L a0) (fun(x:Int)=>kk (I x)):=by
 refine Eq.trans (b:=Ab6 Bh L a0 (fun(x:Int)=>kk (I x))) (by kernel_rfl) ?_
 generalize (fun(x:Int)=>kk (I x))=Q
 unfold S8 Ab6
 dsimp only [Bh,Bq]
 try simp only [y1,y2,y3,y4,y5 Q,y6,y7,y8 Q,y9,z1,z2,z3,z4]
theorem h96(L:Nat)(a0:Ab)(r:Int)(h:S8 L a0=some r):Bc Tryz.prog 96 [.agg (B2 a0)] (I r):=
 hE Cg (s96 L) mixed Tryz.func96 (by kernel_rfl:C4 Tryz.prog inl Tryz.f96=some c96) (er:=fun(x:Int)=>I x) (by kernel_rfl) (e96 L a0) h
noncomputable def c56:EC:=(C4 Tryz.prog inl Tryz.f56).getD .stop
def O56(Er:(List Ab)→Option Int)(L:Nat):Bi:=(Cp 56 (A1 (fun(x:Int)=>I x) S1 Er) (Cp 96 (A1 (fun(x:Int)=>I x) Co (S8 L)) Kg))
theorem s56(Er:(List Ab)→Option Int)(Bdw:∀(y0:(List Ab)) (r:Int),Er y0=some r→Bc Tryz.prog 56 [.lst false (.t82 y0)] (I r))(L:Nat):Bs Tryz.prog (O56 Er L):=(Ad (a1 _ Bdw) (Ad (a1 _ (h96 L)) (Az Tryz.prog)))
def Anf(a0:(List Ab))(Ae:Int)(Ah:Int):St:=({ fr:= [(0,.lst false (.t82 a0)),(2,I Ae),(3,I Ah)],ob:= [],base:=0 } :St)
def Are(a0:(List Ab))(K:Ex→St→Prop):Nat×(Int×Int)→Prop:=fun o=>Cr o.1 [K .ret (Anf a0 o.2.1 o.2.2),K (.exit 0) (Anf a0 o.2.1 o.2.2)]
def Pw{A:Type}(an:An A)(Er:(List Ab)→Option Int)(L:Nat)(a0:(List Ab))(rec:Int→Int→A)(out:Nat×(Int×Int)→A)(Ae:Int)(Ah:Int):A:=
 (an.cn (decide (Ah < (a0.length:Int)))
 (an.gd ((0:Int)≤Ah)
 (an.gd (Ah < ((a0.length:Nat):Int))
 (an.bd (S8 L (Ab.cp (a0.getD (Int.toNat Ah) default))) fun r1=>
 (an.cn (r1 == 0)
 (an.gd ((0:Int)≤Ah)
 (an.gd (Ah < ((a0.length:Nat):Int))
 (an.bd (Er ((a0.getD (Int.toNat Ah) default).Body)) fun r2=>
 (an.cn (r2 == 0)
 (an.gd ((0:Int)≤Ah)
 (an.gd (Ah < ((a0.length:Nat):Int))
 (an.bd (Er ((a0.getD (Int.toNat Ah) default).Else)) fun r3=>
 (an.cn (r3 != 0)
 (an.lf out (0,(r3,Ah)))
 (rec Ae (F9 (Ah+1)))))))
 (an.cn (r2 != 0)
 (an.lf out (0,(r2,Ah)))
 (rec Ae (F9 (Ah+1))))))))
 (an.cn (r1 == 0)
 (an.gd ((0:Int)≤Ah)
 (an.gd (Ah < ((a0.length:Nat):Int))
 (an.bd (Er ((a0.getD (Int.toNat Ah) default).Else)) fun r4=>
 (an.cn (r4 != 0)
 (an.lf out (0,(r4,Ah)))
 (rec Ae (F9 (Ah+1)))))))
 (an.cn (r1 != 0)
 (an.lf out (0,(r1,Ah)))
 (rec Ae (F9 (Ah+1)))))))))
 (an.lf out (1,(Ae,Ah))))
def M8(Er:(List Ab)→Option Int)(L:Nat)(a0:(List Ab)):Nat→Int→Int→Option (Nat×(Int×Int))
 |0,_,_=>none
 |n+1,Ae,Ah=>Pw (Bq _) Er L a0 (M8 Er L a0 n) some Ae Ah
theorem Bf1(Er:(List Ab)→Option Int)(L:Nat)(a0:(List Ab))(g:Int→Int→Option (Nat×(Int×Int)))(Q:Nat×(Int×Int)→Prop)(Ae:Int)(Ah:Int):Pw Bh Er L a0 (fun Ae Ah=>ob (g Ae Ah) Q) Q Ae Ah=ob (Pw (Bq _) Er L a0 g some Ae Ah) Q:=by
 unfold Pw
 dsimp only [Bh,Bq]
 try simp only [y1,y2,y3,y4,y5 Q,y6,y7,y8 Q,y9,z1,z2,z3,z4]
theorem Bez(Er:(List Ab)→Option Int)(L:Nat)(a0:(List Ab))(n:Nat)(Ae:Int)(Ah:Int)(K:Ex→St→Prop):Bl (EV (O56 Er L) L 9 c56.r.r.l.r.r.l.l) [0,2,3] [] n (Anf a0 Ae Ah) K=ob (M8 Er L a0 n Ae Ah) (fun o=>Are a0 K o):=by
 induction n generalizing Ae Ah with
 |zero=>rfl
 |succ n ih=>
  refine Eq.trans (b:=Pw Bh Er L a0 (fun Ae Ah=>Bl (EV (O56 Er L) L 9 c56.r.r.l.r.r.l.l) [0,2,3] [] n (Anf a0 Ae Ah) K) (Are a0 K) Ae Ah) (by kernel_rfl) ?_
  simp only [ih]
  exact Bf1 Er L a0 (M8 Er L a0 n) (Are a0 K) Ae Ah
def A4x(Er:(List Ab)→Option Int)(L:Nat)(kk:PV→Prop):Ex→St→Prop:=(Ca 0 (Dl (EV (O56 Er L) L 9 c56.r.r.r) (Dx Tryz.prog (RS Tryz.f56) kk)))
theorem Bp2(Er:(List Ab)→Option Int)(L:Nat)(a0:(List Ab))(kk:PV→Prop)(o1:Nat×(Int×Int)):Are a0 (A4x Er L kk) o1=
 (Cr o1.1 [(ob (some o1.2.1) (fun(x:Int)=>kk (I x))),
 (ob (some 0) (fun(x:Int)=>kk (I x)))]):=by kernel_rfl
def X7{A:Type}(an:An A)(Er:(List Ab)→Option Int)(L:Nat)(a0:(List Ab))(out:Int→A):A:=
 (an.bd (M8 Er L a0 L 0 0) fun o1=>
 (an.sl o1.1 [(an.lf out o1.2.1),
 (an.lf out 0)]))
def X4(Er:(List Ab)→Option Int)(L:Nat)(a0:(List Ab)):Option Int:=X7 (Bq _) Er L a0 some
theorem e56(Er:(List Ab)→Option Int)(L:Nat)(a0:(List Ab))(kk:PV→Prop):EW (O56 Er L) L 9 (RS Tryz.f56) c56 [.lst false (.t82 a0)] kk=ob (X4 Er L a0) (fun(x:Int)=>kk (I x)):=by
 refine Eq.trans (b:=X7 Bh Er L a0 (fun(x:Int)=>kk (I x))) ?_ ?_
 ·refine Eq.trans (b:=(Bl (EV (O56 Er L) L 9 c56.r.r.l.r.r.l.l) [0,2,3] [] L (Anf a0 0 0) (A4x Er L kk))) (by kernel_rfl) ?_
  unfold X7
  dsimp only [Bh]
  simp only [Bez,Bp2]
 generalize (fun(x:Int)=>kk (I x))=Q
 unfold X4 X7
 dsimp only [Bh,Bq]
 try simp only [y1,y2,y3,y4,y5 Q,y6,y7,y8 Q,y9,z1,z2,z3,z4]
theorem b56(Er:(List Ab)→Option Int)(Bdw:∀(y0:(List Ab)) (r:Int),Er y0=some r→Bc Tryz.prog 56 [.lst false (.t82 y0)] (I r))(L:Nat)(a0:(List Ab))(r:Int)(h:X4 Er L a0=some r):Bc Tryz.prog 56 [.lst false (.t82 a0)] (I r):=
 hE Cg (s56 Er Bdw L) mixed Tryz.func56 (by kernel_rfl:C4 Tryz.prog inl Tryz.f56=some c56) (er:=fun(x:Int)=>I x) (by kernel_rfl) (e56 Er L a0) h
def Np:Nat→(List Ab)→Option Int
 |0,_=>none
 |L+1,a0=>X4 (Np L) L a0
theorem Bdg:∀L,(∀(y0:(List Ab)) (r:Int),Np L y0=some r→Bc Tryz.prog 56 [.lst false (.t82 y0)] (I r)):=by
 intro L
 induction L with
 |zero=>exact fun _ r h=>(by cases h)
 |succ L ih=>
  have i56:=ih
  exact fun y0 r h=>b56 (Np L) i56 L y0 r h
theorem h56(L:Nat):∀(y0:(List Ab)) (r:Int),Np L y0=some r→Bc Tryz.prog 56 [.lst false (.t82 y0)] (I r):=Bdg L
noncomputable def c34:EC:=(C4 Tryz.prog inl Tryz.f34).getD .stop
def O34(L:Nat):Bi:=(Cp 32 (A1 (fun(x:Int)=>I x) S1 (Fo L)) (Cp 55 (A1 (fun(x:Int)=>I x) S1 (Kw L)) (Cp 56 (A1 (fun(x:Int)=>I x) S1 (Np L)) Kg)))
theorem s34(L:Nat):Bs Tryz.prog (O34 L):=(Ad (a1 _ (h32 L)) (Ad (a1 _ (h55 L)) (Ad (a1 _ (h56 L)) (Az Tryz.prog))))
def Zg{A:Type}(an:An A)(L:Nat)(a0:(List Ab))(out:Int→A):A:=
 (an.bd (Fo L a0) fun r1=>
 (an.cn (decide (r1 > 200))
 (an.lf out 6)
 (an.bd (Kw L a0) fun r2=>
 (an.cn (decide (r2 > 12))
 (an.lf out 11)
 (an.bd (Np L a0) fun r3=>
 (an.lf out r3))))))
def Q9(L:Nat)(a0:(List Ab)):Option Int:=Zg (Bq _) L a0 some
theorem e34(L:Nat)(a0:(List Ab))(kk:PV→Prop):EW (O34 L) L 9 (RS Tryz.f34) c34 [.lst false (.t82 a0)] kk=ob (Q9 L a0) (fun(x:Int)=>kk (I x)):=by
 refine Eq.trans (b:=Zg Bh L a0 (fun(x:Int)=>kk (I x))) (by kernel_rfl) ?_
 generalize (fun(x:Int)=>kk (I x))=Q
 unfold Q9 Zg
 dsimp only [Bh,Bq]
 try simp only [y1,y2,y3,y4,y5 Q,y6,y7,y8 Q,y9,z1,z2,z3,z4]
theorem h34(L:Nat)(a0:(List Ab))(r:Int)(h:Q9 L a0=some r):Bc Tryz.prog 34 [.lst false (.t82 a0)] (I r):=
 hE Cg (s34 L) mixed Tryz.func34 (by kernel_rfl:C4 Tryz.prog inl Tryz.f34=some c34) (er:=fun(x:Int)=>I x) (by kernel_rfl) (e34 L a0) h
noncomputable def c97:EC:=(C4 Tryz.prog inl Tryz.f97).getD .stop
def O97(L:Nat):Bi:=Kg
theorem s97(L:Nat):Bs Tryz.prog (O97 L):=(Az Tryz.prog)
def A6q(a0:Int)(p803_2:Bool):St:=({ fr:= [(2,S (⟨#[]⟩:ByteArray)),(3,I a0),(12,B p803_2)],ob:= [],base:=0 } :St)
def A5w(L:Nat)(e0:EC)(kk:PV→Prop):Ex→St→Prop:=(Ca 0 (Dl (EV (O97 L) L 9 e0) (Dx Tryz.prog (RS Tryz.f97) kk)))
def Ob{A:Type}(an:An A)(L:Nat)(a0:Int)(p803_2:Bool)(out:ByteArray→A):A:=
 (an.cn p803_2
 (an.lf out (⟨#[113,117,101,117,101]⟩:ByteArray))
 (an.cn (a0 == 15)
 (an.lf out (⟨#[116,97,108,108,121]⟩:ByteArray))
 (an.cn (a0 == 16)
 (an.lf out (⟨#[108,101,118,101,108]⟩:ByteArray))
 (an.cn (a0 == 17)
 (an.lf out (⟨#[99,111,117,110,116]⟩:ByteArray))
 (an.lf out (⟨#[]⟩:ByteArray))))))
theorem Bcf(L:Nat)(a0:Int)(p803_2:Bool)(kk:PV→Prop):EV (O97 L) L 9 c97.r.r.l.r.r.l.r.r.r.r.r.r.r.r.r.r.r (A6q a0 p803_2) (A5w L c97.r.r.r kk)=Ob Bh L a0 p803_2 (fun(x:ByteArray)=>kk (S x)):=by kernel_rfl
theorem Bi8(L:Nat)(a0:Int)(p803_2:Bool)(Q:ByteArray→Prop):Ob Bh L a0 p803_2 Q=ob (Ob (Bq _) L a0 p803_2 some) Q:=by
 unfold Ob
 dsimp only [Bh,Bq]
 try simp only [y1,y2,y3,y4,y5 Q,y6,y7,y8 Q,y9,z1,z2,z3,z4]
def Aun(a0:Int)(p802_2:Bool):St:=({ fr:= [(2,S (⟨#[]⟩:ByteArray)),(3,I a0),(7,B p802_2)],ob:= [],base:=0 } :St)
def As7(L:Nat)(e0:EC)(kk:PV→Prop):Ex→St→Prop:=(Ca 0 (Dl (EV (O97 L) L 9 e0) (Dx Tryz.prog (RS Tryz.f97) kk)))
def Qw{A:Type}(an:An A)(L:Nat)(a0:Int)(p802_2:Bool)(nx3:Int→Bool→A)(out:ByteArray→A):A:=
 (an.cn p802_2
 (an.lf out (⟨#[115,116,111,114,101]⟩:ByteArray))
 (an.cn (a0 == 10)
 (an.lf out (⟨#[98,101,108,116]⟩:ByteArray))
 (an.cn (a0 == 11)
 (nx3 a0 (a0 == 11))
 (nx3 a0 (a0 == 12)))))
def Ly{A:Type}(an:An A)(L:Nat)(a0:Int)(p802_2:Bool)(out:ByteArray→A):A:=Qw an L a0 p802_2 (fun a0 p803_2=>Ob an L a0 p803_2 out) out
theorem Bih(L:Nat)(a0:Int)(p802_2:Bool)(g3:Int→Bool→Option ByteArray)(Q:ByteArray→Prop):Qw Bh L a0 p802_2 (fun a0 p803_2=>ob (g3 a0 p803_2) Q) Q=ob (Qw (Bq _) L a0 p802_2 g3 some) Q:=by
 unfold Qw
 dsimp only [Bh,Bq]
 try simp only [y1,y2,y3,y4,y5 Q,y6,y7,y8 Q,y9,z1,z2,z3,z4]
theorem Bc2(L:Nat)(a0:Int)(p802_2:Bool)(kk:PV→Prop)(z3:EC):EV (O97 L) L 9 (EC.put [false,false,false,false,false,false] z3 c97.r.r.l.r.r.l.r.r.r.r.r) (Aun a0 p802_2) (As7 L c97.r.r.r kk)=Qw Bh L a0 p802_2 (fun a0 p803_2=>EV (O97 L) L 9 z3 (A6q a0 p803_2) (A5w L c97.r.r.r kk)) (fun(x:ByteArray)=>kk (S x)):=by kernel_rfl
theorem Bce(L:Nat)(a0:Int)(p802_2:Bool)(kk:PV→Prop):EV (O97 L) L 9 c97.r.r.l.r.r.l.r.r.r.r.r (Aun a0 p802_2) (As7 L c97.r.r.r kk)=Ly Bh L a0 p802_2 (fun(x:ByteArray)=>kk (S x)):=by
 refine Eq.trans (b:=EV (O97 L) L 9 (EC.put [false,false,false,false,false,false] c97.r.r.l.r.r.l.r.r.r.r.r.r.r.r.r.r.r c97.r.r.l.r.r.l.r.r.r.r.r) (Aun a0 p802_2) (As7 L c97.r.r.r kk)) (by kernel_rfl) ?_
 refine Eq.trans (Bc2 L a0 p802_2 kk c97.r.r.l.r.r.l.r.r.r.r.r.r.r.r.r.r.r) ?_
 unfold Ly
 simp only [Bcf]
theorem Bi7(L:Nat)(a0:Int)(p802_2:Bool)(Q:ByteArray→Prop):Ly Bh L a0 p802_2 Q=ob (Ly (Bq _) L a0 p802_2 some) Q:=by
 unfold Ly
 simp only [Bi8]
 exact Bih L a0 p802_2 (fun a0 p803_2=>Ob (Bq _) L a0 p803_2 some) Q
def Aum(a0:Int)(p801_2:Bool):St:=({ fr:= [(2,S (⟨#[]⟩:ByteArray)),(3,I a0),(4,B p801_2)],ob:= [],base:=0 } :St)
def As6(L:Nat)(e0:EC)(kk:PV→Prop):Ex→St→Prop:=(Ca 0 (Dl (EV (O97 L) L 9 e0) (Dx Tryz.prog (RS Tryz.f97) kk)))
def Qv{A:Type}(an:An A)(L:Nat)(a0:Int)(p801_2:Bool)(nx2:Int→Bool→A)(out:ByteArray→A):A:=
 (an.cn p801_2
 (an.lf out (⟨#[114,101,115,111,117,114,99,101]⟩:ByteArray))
 (an.cn (a0 == 8)
 (nx2 a0 (a0 == 8))
 (nx2 a0 (a0 == 9))))
def Lx{A:Type}(an:An A)(L:Nat)(a0:Int)(p801_2:Bool)(out:ByteArray→A):A:=Qv an L a0 p801_2 (fun a0 p802_2=>Ly an L a0 p802_2 out) out
theorem Big(L:Nat)(a0:Int)(p801_2:Bool)(g2:Int→Bool→Option ByteArray)(Q:ByteArray→Prop):Qv Bh L a0 p801_2 (fun a0 p802_2=>ob (g2 a0 p802_2) Q) Q=ob (Qv (Bq _) L a0 p801_2 g2 some) Q:=by
 unfold Qv
 dsimp only [Bh,Bq]
 try simp only [y1,y2,y3,y4,y5 Q,y6,y7,y8 Q,y9,z1,z2,z3,z4]
theorem Bc1(L:Nat)(a0:Int)(p801_2:Bool)(kk:PV→Prop)(z2:EC):EV (O97 L) L 9 (EC.put [false,false,false] z2 c97.r.r.l.r.r.l.r.r) (Aum a0 p801_2) (As6 L c97.r.r.r kk)=Qv Bh L a0 p801_2 (fun a0 p802_2=>EV (O97 L) L 9 z2 (Aun a0 p802_2) (As7 L c97.r.r.r kk)) (fun(x:ByteArray)=>kk (S x)):=by kernel_rfl
theorem Bcd(L:Nat)(a0:Int)(p801_2:Bool)(kk:PV→Prop):EV (O97 L) L 9 c97.r.r.l.r.r.l.r.r (Aum a0 p801_2) (As6 L c97.r.r.r kk)=Lx Bh L a0 p801_2 (fun(x:ByteArray)=>kk (S x)):=by
 refine Eq.trans (b:=EV (O97 L) L 9 (EC.put [false,false,false] c97.r.r.l.r.r.l.r.r.r.r.r c97.r.r.l.r.r.l.r.r) (Aum a0 p801_2) (As6 L c97.r.r.r kk)) (by kernel_rfl) ?_
 refine Eq.trans (Bc1 L a0 p801_2 kk c97.r.r.l.r.r.l.r.r.r.r.r) ?_
 unfold Lx
 simp only [Bce]
theorem Bi6(L:Nat)(a0:Int)(p801_2:Bool)(Q:ByteArray→Prop):Lx Bh L a0 p801_2 Q=ob (Lx (Bq _) L a0 p801_2 some) Q:=by
 unfold Lx
 simp only [Bi7]
 exact Big L a0 p801_2 (fun a0 p802_2=>Ly (Bq _) L a0 p802_2 some) Q
def Qu{A:Type}(an:An A)(L:Nat)(a0:Int)(nx1:Int→Bool→A)(out:ByteArray→A):A:=
 (an.cn (a0 == 6)
 (nx1 a0 (a0 == 6))
 (nx1 a0 (a0 == 7)))
def Aaq{A:Type}(an:An A)(L:Nat)(a0:Int)(out:ByteArray→A):A:=Qu an L a0 (fun a0 p801_2=>Lx an L a0 p801_2 out) out
theorem Bif(L:Nat)(a0:Int)(g1:Int→Bool→Option ByteArray)(Q:ByteArray→Prop):Qu Bh L a0 (fun a0 p801_2=>ob (g1 a0 p801_2) Q) Q=ob (Qu (Bq _) L a0 g1 some) Q:=by
 unfold Qu
 dsimp only [Bh,Bq]
 try simp only [y1,y2,y3,y4,y5 Q,y6,y7,y8 Q,y9,z1,z2,z3,z4]
theorem Bc0(L:Nat)(a0:Int)(kk:PV→Prop)(z1:EC):EW (O97 L) L 9 (RS Tryz.f97) (EC.put [false,false,true,false,false,true,false,false] z1 c97) [I a0] kk=Qu Bh L a0 (fun a0 p801_2=>EV (O97 L) L 9 z1 (Aum a0 p801_2) (As6 L c97.r.r.r kk)) (fun(x:ByteArray)=>kk (S x)):=by kernel_rfl
def Re(L:Nat)(a0:Int):Option ByteArray:=Aaq (Bq _) L a0 some
theorem e97(L:Nat)(a0:Int)(kk:PV→Prop):EW (O97 L) L 9 (RS Tryz.f97) c97 [I a0] kk=ob (Re L a0) (fun(x:ByteArray)=>kk (S x)):=by
 refine Eq.trans (b:=EW (O97 L) L 9 (RS Tryz.f97) (EC.put [false,false,true,false,false,true,false,false] c97.r.r.l.r.r.l.r.r c97) [I a0] kk) (by kernel_rfl) ?_
 refine Eq.trans (Bc0 L a0 kk c97.r.r.l.r.r.l.r.r) ?_
 simp only [Bcd]
 generalize (fun(x:ByteArray)=>kk (S x))=Q
 simp only [Bi6]
 unfold Re Aaq
 exact Bif L a0 (fun a0 p801_2=>Lx (Bq _) L a0 p801_2 some) Q
theorem h97(L:Nat)(a0:Int)(r:ByteArray)(h:Re L a0=some r):Bc Tryz.prog 97 [I a0] (S r):=
 hE Cg (s97 L) mixed Tryz.func97 (by kernel_rfl:C4 Tryz.prog inl Tryz.f97=some c97) (er:=fun(x:ByteArray)=>S x) (by kernel_rfl) (e97 L a0) h
noncomputable def Y1:EC:=(C4 Tryz.prog inl Tryz.f144).getD .stop
def Y0(L:Nat):Bi:=Kg
theorem Btu(L:Nat):Bs Tryz.prog (Y0 L):=(Az Tryz.prog)
def Akq(a0:Ac)(Ae:Int)(Jo:List ByteArray):St:=({ fr:= [(0,.any),(1,.loc 1 0),(2,.lst true (.t27 [])),(3,.vw true 9 27 1 10),(4,I Ae),(5,.any),(6,.any),(7,.any),(8,.any)],ob:= [(1,(Bk a0)),(9,[.lst true (.t9 Jo),.lst true (.t9 []),.lst true (.t9 []),.lst true (.t9 []),.lst true (.t9 []),.lst true (.t9 []),.lst true (.t9 []),.lst true (.t9 []),.lst true (.t9 []),.lst true (.t9 [])])],base:=0 } :St)
def Aj0(a0:Ac)(K:Ex→St→Prop):Nat×(Int×List ByteArray)→Prop:=fun o=>Cr o.1 [K (.exit 0) (Akq a0 o.2.1 o.2.2)]
def N0{A:Type}(an:An A)(L:Nat)(a0:Ac)(rec:Int→List ByteArray→A)(out:Nat×(Int×List ByteArray)→A)(Ae:Int)(Jo:List ByteArray):A:=
 (an.cn (decide (Ae < (a0.Vars.length:Int)))
 (an.gd ((0:Int)≤0)
 (an.gd (0 < ((10:Nat):Int))
 (an.gd ((0:Int)≤Ae)
 (an.gd (Ae < ((a0.Vars.length:Nat):Int))
 (an.gd ((Jo.length+ [(a0.Vars.getD (Int.toNat Ae) default).Name].length)*16≤140737488355328)
 (an.gd (Jo.length+ [(a0.Vars.getD (Int.toNat Ae) default).Name].length≤maxLen)
 (an.gd ((0:Int)≤0)
 (an.gd (0 < ((10:Nat):Int))
 (rec (F9 (Ae+1)) (Jo++ [(a0.Vars.getD (Int.toNat Ae) default).Name]))))))))))
 (an.lf out (0,(Ae,Jo))))
def Lf(L:Nat)(a0:Ac):Nat→Int→List ByteArray→Option (Nat×(Int×List ByteArray))
 |0,_,_=>none
 |n+1,Ae,Jo=>N0 (Bq _) L a0 (Lf L a0 n) some Ae Jo
theorem A89(L:Nat)(a0:Ac)(g:Int→List ByteArray→Option (Nat×(Int×List ByteArray)))(Q:Nat×(Int×List ByteArray)→Prop)(Ae:Int)(Jo:List ByteArray):N0 Bh L a0 (fun Ae Jo=>ob (g Ae Jo) Q) Q Ae Jo=ob (N0 (Bq _) L a0 g some Ae Jo) Q:=by
 unfold N0
 dsimp only [Bh,Bq]
 try simp only [y1,y2,y3,y4,y5 Q,y6,y7,y8 Q,y9,z1,z2,z3,z4]
theorem A8q(L:Nat)(a0:Ac)(n:Nat)(Ae:Int)(Jo:List ByteArray)(K:Ex→St→Prop):Bl (EV (Y0 L) L 9 Y1.r.r.r.r.l.r.r.l.l) [0,1,2,3,4,5,6,7,8] [1,9] n (Akq a0 Ae Jo) K=ob (Lf L a0 n Ae Jo) (fun o=>Aj0 a0 K o):=by
 induction n generalizing Ae Jo with
 |zero=>rfl
 |succ n ih=>
  refine Eq.trans (b:=N0 Bh L a0 (fun Ae Jo=>Bl (EV (Y0 L) L 9 Y1.r.r.r.r.l.r.r.l.l) [0,1,2,3,4,5,6,7,8] [1,9] n (Akq a0 Ae Jo) K) (Aj0 a0 K) Ae Jo) (by kernel_rfl) ?_
  simp only [ih]
  exact A89 L a0 (Lf L a0 n) (Aj0 a0 K) Ae Jo
def Akr(a0:Ac)(o1:Nat×(Int×List ByteArray))(C5:Int)(Jp:List ByteArray):St:=({ fr:= [(0,.any),(1,.loc 1 0),(2,.lst true (.t27 [])),(3,.vw true 9 27 1 10),(4,.any),(5,I C5),(6,.any),(7,.any),(8,.any)],ob:= [(1,(Bk a0)),(9,[.lst true (.t9 o1.2.2),.lst true (.t9 Jp),.lst true (.t9 []),.lst true (.t9 []),.lst true (.t9 []),.lst true (.t9 []),.lst true (.t9 []),.lst true (.t9 []),.lst true (.t9 []),.lst true (.t9 [])])],base:=0 } :St)
def Aj1(a0:Ac)(o1:Nat×(Int×List ByteArray))(K:Ex→St→Prop):Nat×(Int×List ByteArray)→Prop:=fun o=>Cr o.1 [K (.exit 2) (Akr a0 o1 o.2.1 o.2.2)]
def N1{A:Type}(an:An A)(L:Nat)(a0:Ac)(o1:Nat×(Int×List ByteArray))(rec:Int→List ByteArray→A)(out:Nat×(Int×List ByteArray)→A)(C5:Int)(Jp:List ByteArray):A:=
 (an.cn (decide (C5 < (a0.Resources.length:Int)))
 (an.gd ((0:Int)≤1)
 (an.gd (1 < ((10:Nat):Int))
 (an.gd ((0:Int)≤C5)
 (an.gd (C5 < ((a0.Resources.length:Nat):Int))
 (an.gd ((Jp.length+ [(a0.Resources.getD (Int.toNat C5) default).Name].length)*16≤140737488355328)
 (an.gd (Jp.length+ [(a0.Resources.getD (Int.toNat C5) default).Name].length≤maxLen)
 (an.gd ((0:Int)≤1)
 (an.gd (1 < ((10:Nat):Int))
 (rec (F9 (C5+1)) (Jp++ [(a0.Resources.getD (Int.toNat C5) default).Name]))))))))))
 (an.lf out (0,(C5,Jp))))
def Lg(L:Nat)(a0:Ac)(o1:Nat×(Int×List ByteArray)):Nat→Int→List ByteArray→Option (Nat×(Int×List ByteArray))
 |0,_,_=>none
 |n+1,C5,Jp=>N1 (Bq _) L a0 o1 (Lg L a0 o1 n) some C5 Jp
theorem A9a(L:Nat)(a0:Ac)(o1:Nat×(Int×List ByteArray))(g:Int→List ByteArray→Option (Nat×(Int×List ByteArray)))(Q:Nat×(Int×List ByteArray)→Prop)(C5:Int)(Jp:List ByteArray):N1 Bh L a0 o1 (fun C5 Jp=>ob (g C5 Jp) Q) Q C5 Jp=ob (N1 (Bq _) L a0 o1 g some C5 Jp) Q:=by
 unfold N1
 dsimp only [Bh,Bq]
 try simp only [y1,y2,y3,y4,y5 Q,y6,y7,y8 Q,y9,z1,z2,z3,z4]
theorem A8r(L:Nat)(a0:Ac)(o1:Nat×(Int×List ByteArray))(n:Nat)(C5:Int)(Jp:List ByteArray)(K:Ex→St→Prop):Bl (EV (Y0 L) L 9 Y1.r.r.r.r.r.r.l.r.r.l.l) [0,1,2,3,4,5,6,7,8] [1,9] n (Akr a0 o1 C5 Jp) K=ob (Lg L a0 o1 n C5 Jp) (fun o=>Aj1 a0 o1 K o):=by
 induction n generalizing C5 Jp with
 |zero=>rfl
 |succ n ih=>
  refine Eq.trans (b:=N1 Bh L a0 o1 (fun C5 Jp=>Bl (EV (Y0 L) L 9 Y1.r.r.r.r.r.r.l.r.r.l.l) [0,1,2,3,4,5,6,7,8] [1,9] n (Akr a0 o1 C5 Jp) K) (Aj1 a0 o1 K) C5 Jp) (by kernel_rfl) ?_
  simp only [ih]
  exact A9a L a0 o1 (Lg L a0 o1 n) (Aj1 a0 o1 K) C5 Jp
def Aks(a0:Ac)(o1:Nat×(Int×List ByteArray))(o2:Nat×(Int×List ByteArray))(H9:Int)(Jq:List ByteArray):St:=({ fr:= [(0,.any),(1,.loc 1 0),(2,.lst true (.t27 [])),(3,.vw true 9 27 1 10),(4,.any),(5,.any),(6,I H9),(7,.any),(8,.any)],ob:= [(1,(Bk a0)),(9,[.lst true (.t9 o1.2.2),.lst true (.t9 o2.2.2),.lst true (.t9 Jq),.lst true (.t9 []),.lst true (.t9 []),.lst true (.t9 []),.lst true (.t9 []),.lst true (.t9 []),.lst true (.t9 []),.lst true (.t9 [])])],base:=0 } :St)
def Aj2(a0:Ac)(o1:Nat×(Int×List ByteArray))(o2:Nat×(Int×List ByteArray))(K:Ex→St→Prop):Nat×(Int×List ByteArray)→Prop:=fun o=>Cr o.1 [K (.exit 4) (Aks a0 o1 o2 o.2.1 o.2.2)]
def N2{A:Type}(an:An A)(L:Nat)(a0:Ac)(o1:Nat×(Int×List ByteArray))(o2:Nat×(Int×List ByteArray))(rec:Int→List ByteArray→A)(out:Nat×(Int×List ByteArray)→A)(H9:Int)(Jq:List ByteArray):A:=
 (an.cn (decide (H9 < (a0.Stores.length:Int)))
 (an.gd ((0:Int)≤2)
 (an.gd (2 < ((10:Nat):Int))
 (an.gd ((0:Int)≤H9)
 (an.gd (H9 < ((a0.Stores.length:Nat):Int))
 (an.gd ((Jq.length+ [(a0.Stores.getD (Int.toNat H9) default).Name].length)*16≤140737488355328)
 (an.gd (Jq.length+ [(a0.Stores.getD (Int.toNat H9) default).Name].length≤maxLen)
 (an.gd ((0:Int)≤2)
 (an.gd (2 < ((10:Nat):Int))
 (rec (F9 (H9+1)) (Jq++ [(a0.Stores.getD (Int.toNat H9) default).Name]))))))))))
 (an.lf out (0,(H9,Jq))))
def Lh(L:Nat)(a0:Ac)(o1:Nat×(Int×List ByteArray))(o2:Nat×(Int×List ByteArray)):Nat→Int→List ByteArray→Option (Nat×(Int×List ByteArray))
 |0,_,_=>none
 |n+1,H9,Jq=>N2 (Bq _) L a0 o1 o2 (Lh L a0 o1 o2 n) some H9 Jq
theorem A9b(L:Nat)(a0:Ac)(o1:Nat×(Int×List ByteArray))(o2:Nat×(Int×List ByteArray))(g:Int→List ByteArray→Option (Nat×(Int×List ByteArray)))(Q:Nat×(Int×List ByteArray)→Prop)(H9:Int)(Jq:List ByteArray):N2 Bh L a0 o1 o2 (fun H9 Jq=>ob (g H9 Jq) Q) Q H9 Jq=ob (N2 (Bq _) L a0 o1 o2 g some H9 Jq) Q:=by
 unfold N2
 dsimp only [Bh,Bq]
 try simp only [y1,y2,y3,y4,y5 Q,y6,y7,y8 Q,y9,z1,z2,z3,z4]
theorem A8s(L:Nat)(a0:Ac)(o1:Nat×(Int×List ByteArray))(o2:Nat×(Int×List ByteArray))(n:Nat)(H9:Int)(Jq:List ByteArray)(K:Ex→St→Prop):Bl (EV (Y0 L) L 9 Y1.r.r.r.r.r.r.r.r.l.r.r.l.l) [0,1,2,3,4,5,6,7,8] [1,9] n (Aks a0 o1 o2 H9 Jq) K=ob (Lh L a0 o1 o2 n H9 Jq) (fun o=>Aj2 a0 o1 o2 K o):=by
 induction n generalizing H9 Jq with
 |zero=>rfl
 |succ n ih=>
  refine Eq.trans (b:=N2 Bh L a0 o1 o2 (fun H9 Jq=>Bl (EV (Y0 L) L 9 Y1.r.r.r.r.r.r.r.r.l.r.r.l.l) [0,1,2,3,4,5,6,7,8] [1,9] n (Aks a0 o1 o2 H9 Jq) K) (Aj2 a0 o1 o2 K) H9 Jq) (by kernel_rfl) ?_
  simp only [ih]
  exact A9b L a0 o1 o2 (Lh L a0 o1 o2 n) (Aj2 a0 o1 o2 K) H9 Jq
def Akt(a0:Ac)(o1:Nat×(Int×List ByteArray))(o2:Nat×(Int×List ByteArray))(o3:Nat×(Int×List ByteArray))(Ia:Int)(Jr:List ByteArray):St:=({ fr:= [(0,.any),(1,.loc 1 0),(2,.lst true (.t27 [])),(3,.vw true 9 27 1 10),(4,.any),(5,.any),(6,.any),(7,I Ia),(8,.any)],ob:= [(1,(Bk a0)),(9,[.lst true (.t9 o1.2.2),.lst true (.t9 o2.2.2),.lst true (.t9 o3.2.2),.lst true (.t9 Jr),.lst true (.t9 []),.lst true (.t9 []),.lst true (.t9 []),.lst true (.t9 []),.lst true (.t9 []),.lst true (.t9 [])])],base:=0 } :St)
def Aj3(a0:Ac)(o1:Nat×(Int×List ByteArray))(o2:Nat×(Int×List ByteArray))(o3:Nat×(Int×List ByteArray))(K:Ex→St→Prop):Nat×(Int×List ByteArray)→Prop:=fun o=>Cr o.1 [K (.exit 6) (Akt a0 o1 o2 o3 o.2.1 o.2.2)]
def N3{A:Type}(an:An A)(L:Nat)(a0:Ac)(o1:Nat×(Int×List ByteArray))(o2:Nat×(Int×List ByteArray))(o3:Nat×(Int×List ByteArray))(rec:Int→List ByteArray→A)(out:Nat×(Int×List ByteArray)→A)(Ia:Int)(Jr:List ByteArray):A:=
 (an.cn (decide (Ia < (a0.Belts.length:Int)))
 (an.gd ((0:Int)≤3)
 (an.gd (3 < ((10:Nat):Int))
 (an.gd ((0:Int)≤Ia)
 (an.gd (Ia < ((a0.Belts.length:Nat):Int))
 (an.gd ((Jr.length+ [(a0.Belts.getD (Int.toNat Ia) default).Name].length)*16≤140737488355328)
 (an.gd (Jr.length+ [(a0.Belts.getD (Int.toNat Ia) default).Name].length≤maxLen)
 (an.gd ((0:Int)≤3)
 (an.gd (3 < ((10:Nat):Int))
 (rec (F9 (Ia+1)) (Jr++ [(a0.Belts.getD (Int.toNat Ia) default).Name]))))))))))
 (an.lf out (0,(Ia,Jr))))
def Li(L:Nat)(a0:Ac)(o1:Nat×(Int×List ByteArray))(o2:Nat×(Int×List ByteArray))(o3:Nat×(Int×List ByteArray)):Nat→Int→List ByteArray→Option (Nat×(Int×List ByteArray))
 |0,_,_=>none
 |n+1,Ia,Jr=>N3 (Bq _) L a0 o1 o2 o3 (Li L a0 o1 o2 o3 n) some Ia Jr
theorem A9c(L:Nat)(a0:Ac)(o1:Nat×(Int×List ByteArray))(o2:Nat×(Int×List ByteArray))(o3:Nat×(Int×List ByteArray))(g:Int→List ByteArray→Option (Nat×(Int×List ByteArray)))(Q:Nat×(Int×List ByteArray)→Prop)(Ia:Int)(Jr:List ByteArray):N3 Bh L a0 o1 o2 o3 (fun Ia Jr=>ob (g Ia Jr) Q) Q Ia Jr=ob (N3 (Bq _) L a0 o1 o2 o3 g some Ia Jr) Q:=by
 unfold N3
 dsimp only [Bh,Bq]
 try simp only [y1,y2,y3,y4,y5 Q,y6,y7,y8 Q,y9,z1,z2,z3,z4]
theorem A8t(L:Nat)(a0:Ac)(o1:Nat×(Int×List ByteArray))(o2:Nat×(Int×List ByteArray))(o3:Nat×(Int×List ByteArray))(n:Nat)(Ia:Int)(Jr:List ByteArray)(K:Ex→St→Prop):Bl (EV (Y0 L) L 9 Y1.r.r.r.r.r.r.r.r.r.r.l.r.r.l.l) [0,1,2,3,4,5,6,7,8] [1,9] n (Akt a0 o1 o2 o3 Ia Jr) K=ob (Li L a0 o1 o2 o3 n Ia Jr) (fun o=>Aj3 a0 o1 o2 o3 K o):=by
 induction n generalizing Ia Jr with
 |zero=>rfl
 |succ n ih=>
  refine Eq.trans (b:=N3 Bh L a0 o1 o2 o3 (fun Ia Jr=>Bl (EV (Y0 L) L 9 Y1.r.r.r.r.r.r.r.r.r.r.l.r.r.l.l) [0,1,2,3,4,5,6,7,8] [1,9] n (Akt a0 o1 o2 o3 Ia Jr) K) (Aj3 a0 o1 o2 o3 K) Ia Jr) (by kernel_rfl) ?_
  simp only [ih]
  exact A9c L a0 o1 o2 o3 (Li L a0 o1 o2 o3 n) (Aj3 a0 o1 o2 o3 K) Ia Jr
def Aku(a0:Ac)(o1:Nat×(Int×List ByteArray))(o2:Nat×(Int×List ByteArray))(o3:Nat×(Int×List ByteArray))(o4:Nat×(Int×List ByteArray))(Xg:Int)(Js:List ByteArray):St:=({ fr:= [(0,.any),(1,.loc 1 0),(2,.lst true (.t27 [])),(3,.vw true 9 27 1 10),(4,.any),(5,.any),(6,.any),(7,.any),(8,I Xg)],ob:= [(1,(Bk a0)),(9,[.lst true (.t9 o1.2.2),.lst true (.t9 o2.2.2),.lst true (.t9 o3.2.2),.lst true (.t9 o4.2.2),.lst false (.t9 a0.Queues),.lst false (.t9 a0.Streams),.lst false (.t9 a0.Tallies),.lst false (.t9 a0.Levels),.lst false (.t9 a0.Counts),.lst true (.t9 Js)])],base:=0 } :St)
def Aj4(a0:Ac)(o1:Nat×(Int×List ByteArray))(o2:Nat×(Int×List ByteArray))(o3:Nat×(Int×List ByteArray))(o4:Nat×(Int×List ByteArray))(K:Ex→St→Prop):Nat×(Int×List ByteArray)→Prop:=fun o=>Cr o.1 [K (.exit 8) (Aku a0 o1 o2 o3 o4 o.2.1 o.2.2)]
def N4{A:Type}(an:An A)(L:Nat)(a0:Ac)(o1:Nat×(Int×List ByteArray))(o2:Nat×(Int×List ByteArray))(o3:Nat×(Int×List ByteArray))(o4:Nat×(Int×List ByteArray))(rec:Int→List ByteArray→A)(out:Nat×(Int×List ByteArray)→A)(Xg:Int)(Js:List ByteArray):A:=
 (an.cn (decide (Xg < (a0.Routines.length:Int)))
 (an.gd ((0:Int)≤9)
 (an.gd (9 < ((10:Nat):Int))
 (an.gd ((0:Int)≤Xg)
 (an.gd (Xg < ((a0.Routines.length:Nat):Int))
 (an.gd ((Js.length+ [(a0.Routines.getD (Int.toNat Xg) default).Name].length)*16≤140737488355328)
 (an.gd (Js.length+ [(a0.Routines.getD (Int.toNat Xg) default).Name].length≤maxLen)
 (an.gd ((0:Int)≤9)
 (an.gd (9 < ((10:Nat):Int))
 (rec (F9 (Xg+1)) (Js++ [(a0.Routines.getD (Int.toNat Xg) default).Name]))))))))))
 (an.lf out (0,(Xg,Js))))
def Lj(L:Nat)(a0:Ac)(o1:Nat×(Int×List ByteArray))(o2:Nat×(Int×List ByteArray))(o3:Nat×(Int×List ByteArray))(o4:Nat×(Int×List ByteArray)):Nat→Int→List ByteArray→Option (Nat×(Int×List ByteArray))
 |0,_,_=>none
 |n+1,Xg,Js=>N4 (Bq _) L a0 o1 o2 o3 o4 (Lj L a0 o1 o2 o3 o4 n) some Xg Js
theorem A9d(L:Nat)(a0:Ac)(o1:Nat×(Int×List ByteArray))(o2:Nat×(Int×List ByteArray))(o3:Nat×(Int×List ByteArray))(o4:Nat×(Int×List ByteArray))(g:Int→List ByteArray→Option (Nat×(Int×List ByteArray)))(Q:Nat×(Int×List ByteArray)→Prop)(Xg:Int)(Js:List ByteArray):N4 Bh L a0 o1 o2 o3 o4 (fun Xg Js=>ob (g Xg Js) Q) Q Xg Js=ob (N4 (Bq _) L a0 o1 o2 o3 o4 g some Xg Js) Q:=by
 unfold N4
 dsimp only [Bh,Bq]
 try simp only [y1,y2,y3,y4,y5 Q,y6,y7,y8 Q,y9,z1,z2,z3,z4]
theorem A8u(L:Nat)(a0:Ac)(o1:Nat×(Int×List ByteArray))(o2:Nat×(Int×List ByteArray))(o3:Nat×(Int×List ByteArray))(o4:Nat×(Int×List ByteArray))(n:Nat)(Xg:Int)(Js:List ByteArray)(K:Ex→St→Prop):Bl (EV (Y0 L) L 9 Y1.r.r.r.r.r.r.r.r.r.r.r.r.r.r.r.r.r.r.r.r.r.r.l.r.r.l.l) [0,1,2,3,4,5,6,7,8] [1,9] n (Aku a0 o1 o2 o3 o4 Xg Js) K=ob (Lj L a0 o1 o2 o3 o4 n Xg Js) (fun o=>Aj4 a0 o1 o2 o3 o4 K o):=by
 induction n generalizing Xg Js with
 |zero=>rfl
 |succ n ih=>
  refine Eq.trans (b:=N4 Bh L a0 o1 o2 o3 o4 (fun Xg Js=>Bl (EV (Y0 L) L 9 Y1.r.r.r.r.r.r.r.r.r.r.r.r.r.r.r.r.r.r.r.r.r.r.l.r.r.l.l) [0,1,2,3,4,5,6,7,8] [1,9] n (Aku a0 o1 o2 o3 o4 Xg Js) K) (Aj4 a0 o1 o2 o3 o4 K) Xg Js) (by kernel_rfl) ?_
  simp only [ih]
  exact A9d L a0 o1 o2 o3 o4 (Lj L a0 o1 o2 o3 o4 n) (Aj4 a0 o1 o2 o3 o4 K) Xg Js
def Az3(L:Nat)(kk:PV→Prop):Ex→St→Prop:=(Ca 0 (Dl (EV (Y0 L) L 9 Y1.r.r.r.r.r) (Dx Tryz.prog (RS Tryz.f144) kk)))
def Az4(L:Nat)(kk:PV→Prop):Ex→St→Prop:=(Ca 2 (Dl (EV (Y0 L) L 9 Y1.r.r.r.r.r.r.r) (Dx Tryz.prog (RS Tryz.f144) kk)))
def Az5(L:Nat)(kk:PV→Prop):Ex→St→Prop:=(Ca 4 (Dl (EV (Y0 L) L 9 Y1.r.r.r.r.r.r.r.r.r) (Dx Tryz.prog (RS Tryz.f144) kk)))
def Az6(L:Nat)(kk:PV→Prop):Ex→St→Prop:=(Ca 6 (Dl (EV (Y0 L) L 9 Y1.r.r.r.r.r.r.r.r.r.r.r) (Dx Tryz.prog (RS Tryz.f144) kk)))
def Az7(L:Nat)(kk:PV→Prop):Ex→St→Prop:=(Ca 8 (Dl (EV (Y0 L) L 9 Y1.r.r.r.r.r.r.r.r.r.r.r.r.r.r.r.r.r.r.r.r.r.r.r) (Dx Tryz.prog (RS Tryz.f144) kk)))
theorem Bgv(L:Nat)(a0:Ac)(kk:PV→Prop)(o1:Nat×(Int×List ByteArray)):Aj0 a0 (Az3 L kk) o1=
 (Cr o1.1 [(Bl (EV (Y0 L) L 9 Y1.r.r.r.r.r.r.l.r.r.l.l) [0,1,2,3,4,5,6,7,8] [1,9] L (Akr a0 o1 0 []) (Az4 L kk))]):=by kernel_rfl
theorem Bgw(L:Nat)(a0:Ac)(o1:Nat×(Int×List ByteArray))(kk:PV→Prop)(o2:Nat×(Int×List ByteArray)):Aj1 a0 o1 (Az4 L kk) o2=
 (Cr o2.1 [(Bl (EV (Y0 L) L 9 Y1.r.r.r.r.r.r.r.r.l.r.r.l.l) [0,1,2,3,4,5,6,7,8] [1,9] L (Aks a0 o1 o2 0 []) (Az5 L kk))]):=by kernel_rfl
theorem Bgx(L:Nat)(a0:Ac)(o1:Nat×(Int×List ByteArray))(o2:Nat×(Int×List ByteArray))(kk:PV→Prop)(o3:Nat×(Int×List ByteArray)):Aj2 a0 o1 o2 (Az5 L kk) o3=
 (Cr o3.1 [(Bl (EV (Y0 L) L 9 Y1.r.r.r.r.r.r.r.r.r.r.l.r.r.l.l) [0,1,2,3,4,5,6,7,8] [1,9] L (Akt a0 o1 o2 o3 0 []) (Az6 L kk))]):=by kernel_rfl
theorem Bgy(L:Nat)(a0:Ac)(o1:Nat×(Int×List ByteArray))(o2:Nat×(Int×List ByteArray))(o3:Nat×(Int×List ByteArray))(kk:PV→Prop)(o4:Nat×(Int×List ByteArray)):Aj3 a0 o1 o2 o3 (Az6 L kk) o4=
 (Cr o4.1 [(gd ((0:Int)≤4)
 (gd (4 < ((10:Nat):Int))
 (gd ((0:Int)≤5)
 (gd (5 < ((10:Nat):Int))
 (gd ((0:Int)≤6)
 (gd (6 < ((10:Nat):Int))
 (gd ((0:Int)≤7)
 (gd (7 < ((10:Nat):Int))
 (gd ((0:Int)≤8)
 (gd (8 < ((10:Nat):Int))
 (Bl (EV (Y0 L) L 9 Y1.r.r.r.r.r.r.r.r.r.r.r.r.r.r.r.r.r.r.r.r.r.r.l.r.r.l.l) [0,1,2,3,4,5,6,7,8] [1,9] L (Aku a0 o1 o2 o3 o4 0 []) (Az7 L kk))))))))))))]):=by kernel_rfl
theorem Bgz(L:Nat)(a0:Ac)(o1:Nat×(Int×List ByteArray))(o2:Nat×(Int×List ByteArray))(o3:Nat×(Int×List ByteArray))(o4:Nat×(Int×List ByteArray))(kk:PV→Prop)(o5:Nat×(Int×List ByteArray)):Aj4 a0 o1 o2 o3 o4 (Az7 L kk) o5=
 (Cr o5.1 [(ob (some [o1.2.2,o2.2.2,o3.2.2,o4.2.2,a0.Queues,a0.Streams,a0.Tallies,a0.Levels,a0.Counts,o5.2.2]) (fun(x:(List (List ByteArray)))=>kk (.lst false (.t27 x))))]):=by kernel_rfl
def Wk{A:Type}(an:An A)(L:Nat)(a0:Ac)(out:(List (List ByteArray))→A):A:=
 (an.bd (Lf L a0 L 0 []) fun o1=>
 (an.sl o1.1 [(an.bd (Lg L a0 o1 L 0 []) fun o2=>
 (an.sl o2.1 [(an.bd (Lh L a0 o1 o2 L 0 []) fun o3=>
 (an.sl o3.1 [(an.bd (Li L a0 o1 o2 o3 L 0 []) fun o4=>
 (an.sl o4.1 [(an.gd ((0:Int)≤4)
 (an.gd (4 < ((10:Nat):Int))
 (an.gd ((0:Int)≤5)
 (an.gd (5 < ((10:Nat):Int))
 (an.gd ((0:Int)≤6)
 (an.gd (6 < ((10:Nat):Int))
 (an.gd ((0:Int)≤7)
 (an.gd (7 < ((10:Nat):Int))
 (an.gd ((0:Int)≤8)
 (an.gd (8 < ((10:Nat):Int))
 (an.bd (Lj L a0 o1 o2 o3 o4 L 0 []) fun o5=>
 (an.sl o5.1 [(an.lf out [o1.2.2,o2.2.2,o3.2.2,o4.2.2,a0.Queues,a0.Streams,a0.Tallies,a0.Levels,a0.Counts,o5.2.2])]))))))))))))]))]))]))]))
def Kx(L:Nat)(a0:Ac):Option (List (List ByteArray)):=Wk (Bq _) L a0 some
theorem Bru(L:Nat)(a0:Ac)(kk:PV→Prop):EW (Y0 L) L 9 (RS Tryz.f144) Y1 [.agg (Bk a0)] kk=ob (Kx L a0) (fun(x:(List (List ByteArray)))=>kk (.lst false (.t27 x))):=by
 refine Eq.trans (b:=Wk Bh L a0 (fun(x:(List (List ByteArray)))=>kk (.lst false (.t27 x)))) ?_ ?_
 ·refine Eq.trans (b:=(Bl (EV (Y0 L) L 9 Y1.r.r.r.r.l.r.r.l.l) [0,1,2,3,4,5,6,7,8] [1,9] L (Akq a0 0 []) (Az3 L kk))) (by kernel_rfl) ?_
  unfold Wk
  dsimp only [Bh]
  simp only [A8q,A8r,A8s,A8t,A8u,Bgv,Bgw,Bgx,Bgy,Bgz]
 generalize (fun(x:(List (List ByteArray)))=>kk (.lst false (.t27 x)))=Q
 unfold Kx Wk
 dsimp only [Bh,Bq]
 try simp only [y1,y2,y3,y4,y5 Q,y6,y7,y8 Q,y9,z1,z2,z3,z4]
theorem Bc3(L:Nat)(a0:Ac)(r:(List (List ByteArray)))(h:Kx L a0=some r):Bc Tryz.prog 144 [.agg (Bk a0)] (.lst false (.t27 r)):=
 hE Cg (Btu L) mixed Tryz.func144 (by kernel_rfl:C4 Tryz.prog inl Tryz.f144=some Y1) (er:=fun(x:(List (List ByteArray)))=> .lst false (.t27 x)) (by kernel_rfl) (Bru L a0) h
noncomputable def c86:EC:=(C4 Tryz.prog inl Tryz.f86).getD .stop
def O86(L:Nat):Bi:=(Cp 143 (A2 (fun(x:Int)=>I x) cl9 cS (G9 L)) (Cp 144 (A1 (fun(x:(List (List ByteArray)))=> .lst false (.t27 x)) Cw (Kx L)) Kg))
theorem s86(L:Nat):Bs Tryz.prog (O86 L):=(Ad (a2 _ (A77 L)) (Ad (a1 _ (Bc3 L)) (Az Tryz.prog)))
def Anr(a1:ByteArray)(r1:(List (List ByteArray)))(a0:Ac)(Ae:ByteArray)(Ba:Int):St:=({ fr:= [(0,.any),(1,S a1),(2,.any),(4,S Ae),(5,.lst false (.t27 r1)),(6,.lst true (.t9 [(⟨#[118,97,114]⟩:ByteArray),(⟨#[114,101,115,111,117,114,99,101]⟩:ByteArray),(⟨#[115,116,111,114,101]⟩:ByteArray),(⟨#[98,101,108,116]⟩:ByteArray),(⟨#[113,117,101,117,101]⟩:ByteArray),(⟨#[115,116,114,101,97,109]⟩:ByteArray),(⟨#[116,97,108,108,121]⟩:ByteArray),(⟨#[108,101,118,101,108]⟩:ByteArray),(⟨#[99,111,117,110,116]⟩:ByteArray),(⟨#[114,111,117,116,105,110,101]⟩:ByteArray)])),(7,I Ba)],ob:= [(2,(Bk a0))],base:=0 } :St)
def Aru(a1:ByteArray)(r1:(List (List ByteArray)))(a0:Ac)(K:Ex→St→Prop):Nat×(ByteArray×Int)→Prop:=fun o=>Cr o.1 [K .ret (Anr a1 r1 a0 o.2.1 o.2.2),K (.exit 0) (Anr a1 r1 a0 o.2.1 o.2.2)]
def Px{A:Type}(an:An A)(L:Nat)(a1:ByteArray)(r1:(List (List ByteArray)))(a0:Ac)(rec:ByteArray→Int→A)(out:Nat×(ByteArray×Int)→A)(Ae:ByteArray)(Ba:Int):A:=
 (an.cn (decide (Ba < (r1.length:Int)))
 (an.gd ((0:Int)≤Ba)
 (an.gd (Ba < ((r1.length:Nat):Int))
 (an.bd (G9 L (r1.getD (Int.toNat Ba) default) a1) fun r2=>
 (an.cn (decide (r2≥0))
 (an.gd ((0:Int)≤Ba)
 (an.gd (Ba < (([(⟨#[118,97,114]⟩:ByteArray),(⟨#[114,101,115,111,117,114,99,101]⟩:ByteArray),(⟨#[115,116,111,114,101]⟩:ByteArray),(⟨#[98,101,108,116]⟩:ByteArray),(⟨#[113,117,101,117,101]⟩:ByteArray),(⟨#[115,116,114,101,97,109]⟩:ByteArray),(⟨#[116,97,108,108,121]⟩:ByteArray),(⟨#[108,101,118,101,108]⟩:ByteArray),(⟨#[99,111,117,110,116]⟩:ByteArray),(⟨#[114,111,117,116,105,110,101]⟩:ByteArray)].length:Nat):Int))
 (an.lf out (0,(([(⟨#[118,97,114]⟩:ByteArray),(⟨#[114,101,115,111,117,114,99,101]⟩:ByteArray),(⟨#[115,116,111,114,101]⟩:ByteArray),(⟨#[98,101,108,116]⟩:ByteArray),(⟨#[113,117,101,117,101]⟩:ByteArray),(⟨#[115,116,114,101,97,109]⟩:ByteArray),(⟨#[116,97,108,108,121]⟩:ByteArray),(⟨#[108,101,118,101,108]⟩:ByteArray),(⟨#[99,111,117,110,116]⟩:ByteArray),(⟨#[114,111,117,116,105,110,101]⟩:ByteArray)].getD (Int.toNat Ba) default),Ba)))))
 (rec Ae (F9 (Ba+1)))))))
 (an.lf out (1,(Ae,Ba))))
def M9(L:Nat)(a1:ByteArray)(r1:(List (List ByteArray)))(a0:Ac):Nat→ByteArray→Int→Option (Nat×(ByteArray×Int))
 |0,_,_=>none
 |n+1,Ae,Ba=>Px (Bq _) L a1 r1 a0 (M9 L a1 r1 a0 n) some Ae Ba
theorem Bgh(L:Nat)(a1:ByteArray)(r1:(List (List ByteArray)))(a0:Ac)(g:ByteArray→Int→Option (Nat×(ByteArray×Int)))(Q:Nat×(ByteArray×Int)→Prop)(Ae:ByteArray)(Ba:Int):Px Bh L a1 r1 a0 (fun Ae Ba=>ob (g Ae Ba) Q) Q Ae Ba=ob (Px (Bq _) L a1 r1 a0 g some Ae Ba) Q:=by
 unfold Px
 dsimp only [Bh,Bq]
 try simp only [y1,y2,y3,y4,y5 Q,y6,y7,y8 Q,y9,z1,z2,z3,z4]
theorem Bff(L:Nat)(a1:ByteArray)(r1:(List (List ByteArray)))(a0:Ac)(n:Nat)(Ae:ByteArray)(Ba:Int)(K:Ex→St→Prop):Bl (EV (O86 L) L 9 c86.r.r.r.r.r.r.l.r.r.l.l) [0,1,2,4,5,6,7] [2] n (Anr a1 r1 a0 Ae Ba) K=ob (M9 L a1 r1 a0 n Ae Ba) (fun o=>Aru a1 r1 a0 K o):=by
 induction n generalizing Ae Ba with
 |zero=>rfl
 |succ n ih=>
  refine Eq.trans (b:=Px Bh L a1 r1 a0 (fun Ae Ba=>Bl (EV (O86 L) L 9 c86.r.r.r.r.r.r.l.r.r.l.l) [0,1,2,4,5,6,7] [2] n (Anr a1 r1 a0 Ae Ba) K) (Aru a1 r1 a0 K) Ae Ba) (by kernel_rfl) ?_
  simp only [ih]
  exact Bgh L a1 r1 a0 (M9 L a1 r1 a0 n) (Aru a1 r1 a0 K) Ae Ba
def A5h(L:Nat)(kk:PV→Prop):Ex→St→Prop:=(Ca 0 (Dl (EV (O86 L) L 9 c86.r.r.r.r.r.r.r) (Dx Tryz.prog (RS Tryz.f86) kk)))
theorem Bqm(L:Nat)(a1:ByteArray)(r1:(List (List ByteArray)))(a0:Ac)(kk:PV→Prop)(o2:Nat×(ByteArray×Int)):Aru a1 r1 a0 (A5h L kk) o2=
 (Cr o2.1 [(ob (some o2.2.1) (fun(x:ByteArray)=>kk (S x))),
 (ob (some (⟨#[]⟩:ByteArray)) (fun(x:ByteArray)=>kk (S x)))]):=by kernel_rfl
def X8{A:Type}(an:An A)(L:Nat)(a0:Ac)(a1:ByteArray)(out:ByteArray→A):A:=
 (an.bd (Kx L a0) fun r1=>
 (an.bd (M9 L a1 r1 a0 L (⟨#[]⟩:ByteArray) 0) fun o2=>
 (an.sl o2.1 [(an.lf out o2.2.1),
 (an.lf out (⟨#[]⟩:ByteArray))])))
def Ij(L:Nat)(a0:Ac)(a1:ByteArray):Option ByteArray:=X8 (Bq _) L a0 a1 some
theorem e86(L:Nat)(a0:Ac)(a1:ByteArray)(kk:PV→Prop):EW (O86 L) L 9 (RS Tryz.f86) c86 [.agg (Bk a0),S a1] kk=ob (Ij L a0 a1) (fun(x:ByteArray)=>kk (S x)):=by
 refine Eq.trans (b:=X8 Bh L a0 a1 (fun(x:ByteArray)=>kk (S x))) ?_ ?_
 ·refine Eq.trans (b:=(ob (Kx L a0) fun r1=>
 (Bl (EV (O86 L) L 9 c86.r.r.r.r.r.r.l.r.r.l.l) [0,1,2,4,5,6,7] [2] L (Anr a1 r1 a0 (⟨#[]⟩:ByteArray) 0) (A5h L kk)))) (by kernel_rfl) ?_
  unfold X8
  dsimp only [Bh]
  simp only [Bff,Bqm]
 generalize (fun(x:ByteArray)=>kk (S x))=Q
 unfold Ij X8
 dsimp only [Bh,Bq]
 try simp only [y1,y2,y3,y4,y5 Q,y6,y7,y8 Q,y9,z1,z2,z3,z4]
theorem h86(L:Nat)(a0:Ac)(a1:ByteArray)(r:ByteArray)(h:Ij L a0 a1=some r):Bc Tryz.prog 86 [.agg (Bk a0),S a1] (S r):=
 hE Cg (s86 L) mixed Tryz.func86 (by kernel_rfl:C4 Tryz.prog inl Tryz.f86=some c86) (er:=fun(x:ByteArray)=>S x) (by kernel_rfl) (e86 L a0 a1) h
noncomputable def c30:EC:=(C4 Tryz.prog inl Tryz.f30).getD .stop
def O30(L:Nat):Bi:=Kg
theorem s30(L:Nat):Bs Tryz.prog (O30 L):=(Az Tryz.prog)
def Am9(a0:(List Be))(a1:ByteArray)(Ah:Int)(Aj:Bool)(Ba:Int):St:=({ fr:= [(0,.lst false (.t68 a0)),(1,S a1),(4,I Ah),(5,B Aj),(6,I Ba)],ob:= [],base:=0 } :St)
def Aq5(a0:(List Be))(a1:ByteArray)(K:Ex→St→Prop):Nat×(Int×Bool×Int)→Prop:=fun o=>Cr o.1 [K .ret (Am9 a0 a1 o.2.1 o.2.2.1 o.2.2.2),K (.exit 0) (Am9 a0 a1 o.2.1 o.2.2.1 o.2.2.2)]
def K7{A:Type}(an:An A)(L:Nat)(a0:(List Be))(a1:ByteArray)(rec:Int→Bool→Int→A)(out:Nat×(Int×Bool×Int)→A)(Ah:Int)(Aj:Bool)(Ba:Int):A:=
 (an.cn (decide (Ba≥0))
 (an.gd ((0:Int)≤Ba)
 (an.gd (Ba < ((a0.length:Nat):Int))
 (an.cn (((a0.getD (Int.toNat Ba) default).Name).toList == a1.toList)
 (an.gd ((0:Int)≤Ba)
 (an.gd (Ba < ((a0.length:Nat):Int))
 (an.lf out (0,(((a0.getD (Int.toNat Ba) default).Type_),true,Ba)))))
 (rec Ah Aj (F9 (Ba - 1))))))
 (an.lf out (1,(Ah,Aj,Ba))))
def Lk(L:Nat)(a0:(List Be))(a1:ByteArray):Nat→Int→Bool→Int→Option (Nat×(Int×Bool×Int))
 |0,_,_,_=>none
 |n+1,Ah,Aj,Ba=>K7 (Bq _) L a0 a1 (Lk L a0 a1 n) some Ah Aj Ba
theorem Bfs(L:Nat)(a0:(List Be))(a1:ByteArray)(g:Int→Bool→Int→Option (Nat×(Int×Bool×Int)))(Q:Nat×(Int×Bool×Int)→Prop)(Ah:Int)(Aj:Bool)(Ba:Int):K7 Bh L a0 a1 (fun Ah Aj Ba=>ob (g Ah Aj Ba) Q) Q Ah Aj Ba=ob (K7 (Bq _) L a0 a1 g some Ah Aj Ba) Q:=by
 unfold K7
 dsimp only [Bh,Bq]
 try simp only [y1,y2,y3,y4,y5 Q,y6,y7,y8 Q,y9,z1,z2,z3,z4]
theorem Beq(L:Nat)(a0:(List Be))(a1:ByteArray)(n:Nat)(Ah:Int)(Aj:Bool)(Ba:Int)(K:Ex→St→Prop):Bl (EV (O30 L) L 9 c30.r.r.l.r.r.l.l) [0,1,4,5,6] [] n (Am9 a0 a1 Ah Aj Ba) K=ob (Lk L a0 a1 n Ah Aj Ba) (fun o=>Aq5 a0 a1 K o):=by
 induction n generalizing Ah Aj Ba with
 |zero=>rfl
 |succ n ih=>
  refine Eq.trans (b:=K7 Bh L a0 a1 (fun Ah Aj Ba=>Bl (EV (O30 L) L 9 c30.r.r.l.r.r.l.l) [0,1,4,5,6] [] n (Am9 a0 a1 Ah Aj Ba) K) (Aq5 a0 a1 K) Ah Aj Ba) (by kernel_rfl) ?_
  simp only [ih]
  exact Bfs L a0 a1 (Lk L a0 a1 n) (Aq5 a0 a1 K) Ah Aj Ba
def A4o(L:Nat)(kk:PV→Prop):Ex→St→Prop:=(Ca 0 (Dl (EV (O30 L) L 9 c30.r.r.r) (Dx Tryz.prog (RS Tryz.f30) kk)))
theorem Bpt(L:Nat)(a0:(List Be))(a1:ByteArray)(kk:PV→Prop)(o1:Nat×(Int×Bool×Int)):Aq5 a0 a1 (A4o L kk) o1=
 (Cr o1.1 [(ob (some (o1.2.1,o1.2.2.1)) (fun(x:(Int×Bool))=>kk (.tup [I x.1,B x.2]))),
 (ob (some (0,false)) (fun(x:(Int×Bool))=>kk (.tup [I x.1,B x.2])))]):=by kernel_rfl
def Wl{A:Type}(an:An A)(L:Nat)(a0:(List Be))(a1:ByteArray)(out:(Int×Bool)→A):A:=
 (an.bd (Lk L a0 a1 L 0 false (F9 ((a0.length:Int) - 1))) fun o1=>
 (an.sl o1.1 [(an.lf out (o1.2.1,o1.2.2.1)),
 (an.lf out (0,false))]))
def I5(L:Nat)(a0:(List Be))(a1:ByteArray):Option (Int×Bool):=Wl (Bq _) L a0 a1 some
theorem e30(L:Nat)(a0:(List Be))(a1:ByteArray)(kk:PV→Prop):EW (O30 L) L 9 (RS Tryz.f30) c30 [.lst false (.t68 a0),S a1] kk=ob (I5 L a0 a1) (fun(x:(Int×Bool))=>kk (.tup [I x.1,B x.2])):=by
 refine Eq.trans (b:=Wl Bh L a0 a1 (fun(x:(Int×Bool))=>kk (.tup [I x.1,B x.2]))) ?_ ?_
 ·refine Eq.trans (b:=(Bl (EV (O30 L) L 9 c30.r.r.l.r.r.l.l) [0,1,4,5,6] [] L (Am9 a0 a1 0 false (F9 ((a0.length:Int) - 1))) (A4o L kk))) (by kernel_rfl) ?_
  unfold Wl
  dsimp only [Bh]
  simp only [Beq,Bpt]
 generalize (fun(x:(Int×Bool))=>kk (.tup [I x.1,B x.2]))=Q
 unfold I5 Wl
 dsimp only [Bh,Bq]
 try simp only [y1,y2,y3,y4,y5 Q,y6,y7,y8 Q,y9,z1,z2,z3,z4]
theorem h30(L:Nat)(a0:(List Be))(a1:ByteArray)(r:(Int×Bool))(h:I5 L a0 a1=some r):Bc Tryz.prog 30 [.lst false (.t68 a0),S a1] (.tup [I r.1,B r.2]):=
 hE Cg (s30 L) mixed Tryz.func30 (by kernel_rfl:C4 Tryz.prog inl Tryz.f30=some c30) (er:=fun(x:(Int×Bool))=> .tup [I x.1,B x.2]) (by kernel_rfl) (e30 L a0 a1) h
noncomputable def c31:EC:=(C4 Tryz.prog inl Tryz.f31).getD .stop
def O31(L:Nat):Bi:=Kg
theorem s31(L:Nat):Bs Tryz.prog (O31 L):=(Az Tryz.prog)
def Ana(a0:(List Bp))(a1:ByteArray)(Ah:Int)(Aj:Bool)(Ba:Int):St:=({ fr:= [(0,.lst false (.t72 a0)),(1,S a1),(4,I Ah),(5,B Aj),(6,I Ba)],ob:= [],base:=0 } :St)
def Aq6(a0:(List Bp))(a1:ByteArray)(K:Ex→St→Prop):Nat×(Int×Bool×Int)→Prop:=fun o=>Cr o.1 [K .ret (Ana a0 a1 o.2.1 o.2.2.1 o.2.2.2),K (.exit 0) (Ana a0 a1 o.2.1 o.2.2.1 o.2.2.2)]
def L9{A:Type}(an:An A)(L:Nat)(a0:(List Bp))(a1:ByteArray)(rec:Int→Bool→Int→A)(out:Nat×(Int×Bool×Int)→A)(Ah:Int)(Aj:Bool)(Ba:Int):A:=
 (an.cn (decide (Ba < (a0.length:Int)))
 (an.gd ((0:Int)≤Ba)
 (an.gd (Ba < ((a0.length:Nat):Int))
 (an.cn (((a0.getD (Int.toNat Ba) default).Name).toList == a1.toList)
 (an.gd ((0:Int)≤Ba)
 (an.gd (Ba < ((a0.length:Nat):Int))
 (an.lf out (0,(((a0.getD (Int.toNat Ba) default).Type_),true,Ba)))))
 (rec Ah Aj (F9 (Ba+1))))))
 (an.lf out (1,(Ah,Aj,Ba))))
def I7(L:Nat)(a0:(List Bp))(a1:ByteArray):Nat→Int→Bool→Int→Option (Nat×(Int×Bool×Int))
 |0,_,_,_=>none
 |n+1,Ah,Aj,Ba=>L9 (Bq _) L a0 a1 (I7 L a0 a1 n) some Ah Aj Ba
theorem Bft(L:Nat)(a0:(List Bp))(a1:ByteArray)(g:Int→Bool→Int→Option (Nat×(Int×Bool×Int)))(Q:Nat×(Int×Bool×Int)→Prop)(Ah:Int)(Aj:Bool)(Ba:Int):L9 Bh L a0 a1 (fun Ah Aj Ba=>ob (g Ah Aj Ba) Q) Q Ah Aj Ba=ob (L9 (Bq _) L a0 a1 g some Ah Aj Ba) Q:=by
 unfold L9
 dsimp only [Bh,Bq]
 try simp only [y1,y2,y3,y4,y5 Q,y6,y7,y8 Q,y9,z1,z2,z3,z4]
theorem Ber(L:Nat)(a0:(List Bp))(a1:ByteArray)(n:Nat)(Ah:Int)(Aj:Bool)(Ba:Int)(K:Ex→St→Prop):Bl (EV (O31 L) L 9 c31.r.r.l.r.r.l.l) [0,1,4,5,6] [] n (Ana a0 a1 Ah Aj Ba) K=ob (I7 L a0 a1 n Ah Aj Ba) (fun o=>Aq6 a0 a1 K o):=by
 induction n generalizing Ah Aj Ba with
 |zero=>rfl
 |succ n ih=>
  refine Eq.trans (b:=L9 Bh L a0 a1 (fun Ah Aj Ba=>Bl (EV (O31 L) L 9 c31.r.r.l.r.r.l.l) [0,1,4,5,6] [] n (Ana a0 a1 Ah Aj Ba) K) (Aq6 a0 a1 K) Ah Aj Ba) (by kernel_rfl) ?_
  simp only [ih]
  exact Bft L a0 a1 (I7 L a0 a1 n) (Aq6 a0 a1 K) Ah Aj Ba
def A4p(L:Nat)(kk:PV→Prop):Ex→St→Prop:=(Ca 0 (Dl (EV (O31 L) L 9 c31.r.r.r) (Dx Tryz.prog (RS Tryz.f31) kk)))
theorem Bpu(L:Nat)(a0:(List Bp))(a1:ByteArray)(kk:PV→Prop)(o1:Nat×(Int×Bool×Int)):Aq6 a0 a1 (A4p L kk) o1=
 (Cr o1.1 [(ob (some (o1.2.1,o1.2.2.1)) (fun(x:(Int×Bool))=>kk (.tup [I x.1,B x.2]))),
 (ob (some (0,false)) (fun(x:(Int×Bool))=>kk (.tup [I x.1,B x.2])))]):=by kernel_rfl
def Ur{A:Type}(an:An A)(L:Nat)(a0:(List Bp))(a1:ByteArray)(out:(Int×Bool)→A):A:=
 (an.bd (I7 L a0 a1 L 0 false 0) fun o1=>
 (an.sl o1.1 [(an.lf out (o1.2.1,o1.2.2.1)),
 (an.lf out (0,false))]))
def Hm(L:Nat)(a0:(List Bp))(a1:ByteArray):Option (Int×Bool):=Ur (Bq _) L a0 a1 some
theorem e31(L:Nat)(a0:(List Bp))(a1:ByteArray)(kk:PV→Prop):EW (O31 L) L 9 (RS Tryz.f31) c31 [.lst false (.t72 a0),S a1] kk=ob (Hm L a0 a1) (fun(x:(Int×Bool))=>kk (.tup [I x.1,B x.2])):=by
 refine Eq.trans (b:=Ur Bh L a0 a1 (fun(x:(Int×Bool))=>kk (.tup [I x.1,B x.2]))) ?_ ?_
 ·refine Eq.trans (b:=(Bl (EV (O31 L) L 9 c31.r.r.l.r.r.l.l) [0,1,4,5,6] [] L (Ana a0 a1 0 false 0) (A4p L kk))) (by kernel_rfl) ?_
  unfold Ur
  dsimp only [Bh]
  simp only [Ber,Bpu]
 generalize (fun(x:(Int×Bool))=>kk (.tup [I x.1,B x.2]))=Q
 unfold Hm Ur
 dsimp only [Bh,Bq]
 try simp only [y1,y2,y3,y4,y5 Q,y6,y7,y8 Q,y9,z1,z2,z3,z4]
theorem h31(L:Nat)(a0:(List Bp))(a1:ByteArray)(r:(Int×Bool))(h:Hm L a0 a1=some r):Bc Tryz.prog 31 [.lst false (.t72 a0),S a1] (.tup [I r.1,B r.2]):=
 hE Cg (s31 L) mixed Tryz.func31 (by kernel_rfl:C4 Tryz.prog inl Tryz.f31=some c31) (er:=fun(x:(Int×Bool))=> .tup [I x.1,B x.2]) (by kernel_rfl) (e31 L a0 a1) h
noncomputable def c15:EC:=(C4 Tryz.prog inl Tryz.f15).getD .stop
def O15(L:Nat):Bi:=(Cp 30 (A2 (fun(x:(Int×Bool))=> .tup [I x.1,B x.2]) Acj cS (I5 L)) (Cp 31 (A2 (fun(x:(Int×Bool))=> .tup [I x.1,B x.2]) Bbn cS (Hm L)) Kg))
theorem s15(L:Nat):Bs Tryz.prog (O15 L):=(Ad (a2 _ (h30 L)) (Ad (a2 _ (h31 L)) (Az Tryz.prog)))
def n7{A:Type}(an:An A)(L:Nat)(a0:Ai)(a1:ByteArray)(out:(Int×Bool)→A):A:=
 (an.bd (I5 L a0.Locals a1) fun r1=>
 (an.cn (!r1.2)
 (an.bd (Hm L a0.Site.Vars a1) fun r2=>
 (an.cn (!r2.2)
 (an.bd (Hm L a0.Params a1) fun r3=>
 (an.lf out (r3.1,r3.2)))
 (an.lf out (r2.1,r2.2))))
 (an.cn (!r1.2)
 (an.bd (Hm L a0.Params a1) fun r4=>
 (an.lf out (r4.1,r4.2)))
 (an.lf out (r1.1,r1.2)))))
def Sx(L:Nat)(a0:Ai)(a1:ByteArray):Option (Int×Bool):=n7 (Bq _) L a0 a1 some
theorem e15(L:Nat)(a0:Ai)(a1:ByteArray)(kk:PV→Prop):EW (O15 L) L 9 (RS Tryz.f15) c15 [.agg (B8 a0),S a1] kk=ob (Sx L a0 a1) (fun(x:(Int×Bool))=>kk (.tup [I x.1,B x.2])):=by
 refine Eq.trans (b:=n7 Bh L a0 a1 (fun(x:(Int×Bool))=>kk (.tup [I x.1,B x.2]))) (by kernel_rfl) ?_
 generalize (fun(x:(Int×Bool))=>kk (.tup [I x.1,B x.2]))=Q
 unfold Sx n7
 dsimp only [Bh,Bq]
 try simp only [y1,y2,y3,y4,y5 Q,y6,y7,y8 Q,y9,z1,z2,z3,z4]
theorem h15(L:Nat)(a0:Ai)(a1:ByteArray)(r:(Int×Bool))(h:Sx L a0 a1=some r):Bc Tryz.prog 15 [.agg (B8 a0),S a1] (.tup [I r.1,B r.2]):=
 hE Cg (s15 L) mixed Tryz.func15 (by kernel_rfl:C4 Tryz.prog inl Tryz.f15=some c15) (er:=fun(x:(Int×Bool))=> .tup [I x.1,B x.2]) (by kernel_rfl) (e15 L a0 a1) h
noncomputable def c51:EC:=(C4 Tryz.prog inl Tryz.f51).getD .stop
def O51(L:Nat):Bi:=(Cp 15 (A2 (fun(x:(Int×Bool))=> .tup [I x.1,B x.2]) Cl cS (Sx L)) (Cp 86 (A2 (fun(x:ByteArray)=>S x) Cw cS (Ij L)) Kg))
theorem s51(L:Nat):Bs Tryz.prog (O51 L):=(Ad (a2 _ (h15 L)) (Ad (a2 _ (h86 L)) (Az Tryz.prog)))
def n9{A:Type}(an:An A)(L:Nat)(a0:Ai)(a1:Aa)(out:(Int×Int)→A):A:=
 (an.bd (Ij L a0.Site a1.Name) fun r1=>
 (an.cn (a1.Op == 1)
 (an.lf out (1,0))
 (an.cn (a1.Op == 2)
 (an.lf out (2,0))
 (an.cn (a1.Op == 4)
 (an.lf out (3,0))
 (an.cn (a1.Op == 3)
 (an.bd (Sx L a0 a1.Name) fun r2=>
 (an.cn (!r2.2)
 (an.lf out (0,5))
 (an.lf out (r2.1,0))))
 (an.cn (a1.Op == 22)
 (an.cn (!(r1.toList == (⟨#[114,101,115,111,117,114,99,101]⟩:ByteArray).toList))
 (an.lf out (0,5))
 (an.lf out (1,0)))
 (an.cn (a1.Op == 23)
 (an.cn (!(r1.toList == (⟨#[115,116,111,114,101]⟩:ByteArray).toList))
 (an.lf out (0,5))
 (an.lf out (1,0)))
 (an.jp (bif (!(r1.toList == (⟨#[114,101,115,111,117,114,99,101]⟩:ByteArray).toList)) then (!(r1.toList == (⟨#[113,117,101,117,101]⟩:ByteArray).toList))
 else false) (fun j=>(an.cn (!(r1.toList == (⟨#[114,101,115,111,117,114,99,101]⟩:ByteArray).toList))
 (an.ap j (!(r1.toList == (⟨#[113,117,101,117,101]⟩:ByteArray).toList)))
 (an.ap j false))) (fun b3=>
 (an.cn b3
 (an.lf out (0,5))
 (an.lf out (1,0))))))))))))
def Ps(L:Nat)(a0:Ai)(a1:Aa):Option (Int×Int):=n9 (Bq _) L a0 a1 some
theorem e51(L:Nat)(a0:Ai)(a1:Aa)(kk:PV→Prop):EW (O51 L) L 9 (RS Tryz.f51) c51 [.agg (B8 a0),.agg (Ay a1)] kk=ob (Ps L a0 a1) (fun(x:(Int×Int))=>kk (.tup [I x.1,I x.2])):=by
 refine Eq.trans (b:=n9 Bh L a0 a1 (fun(x:(Int×Int))=>kk (.tup [I x.1,I x.2]))) (by kernel_rfl) ?_
 generalize (fun(x:(Int×Int))=>kk (.tup [I x.1,I x.2]))=Q
 unfold Ps n9
 dsimp only [Bh,Bq]
 try simp only [y1,y2,y3,y4,y5 Q,y6,y7,y8 Q,y9,z1,z2,z3,z4]
theorem h51(L:Nat)(a0:Ai)(a1:Aa)(r:(Int×Int))(h:Ps L a0 a1=some r):Bc Tryz.prog 51 [.agg (B8 a0),.agg (Ay a1)] (.tup [I r.1,I r.2]):=
 hE Cg (s51 L) mixed Tryz.func51 (by kernel_rfl:C4 Tryz.prog inl Tryz.f51=some c51) (er:=fun(x:(Int×Int))=> .tup [I x.1,I x.2]) (by kernel_rfl) (e51 L a0 a1) h
noncomputable def c87:EC:=(C4 Tryz.prog inl Tryz.f87).getD .stop
def O87(L:Nat):Bi:=Kg
theorem s87(L:Nat):Bs Tryz.prog (O87 L):=(Az Tryz.prog)
def Uq{A:Type}(an:An A)(L:Nat)(a0:Int)(out:Bool→A):A:=
 (an.jp (bif (a0 == 1) then true
 else (a0 == 3)) (fun j=>(an.cn (a0 == 1)
 (an.ap j true)
 (an.ap j (a0 == 3)))) (fun b1=>
 (an.lf out b1)))
def C1(L:Nat)(a0:Int):Option Bool:=Uq (Bq _) L a0 some
theorem e87(L:Nat)(a0:Int)(kk:PV→Prop):EW (O87 L) L 9 (RS Tryz.f87) c87 [I a0] kk=ob (C1 L a0) (fun(x:Bool)=>kk (B x)):=by
 refine Eq.trans (b:=Uq Bh L a0 (fun(x:Bool)=>kk (B x))) (by kernel_rfl) ?_
 generalize (fun(x:Bool)=>kk (B x))=Q
 unfold C1 Uq
 dsimp only [Bh,Bq]
 try simp only [y1,y2,y3,y4,y5 Q,y6,y7,y8 Q,y9,z1,z2,z3,z4]
theorem h87(L:Nat)(a0:Int)(r:Bool)(h:C1 L a0=some r):Bc Tryz.prog 87 [I a0] (B r):=
 hE Cg (s87 L) mixed Tryz.func87 (by kernel_rfl:C4 Tryz.prog inl Tryz.f87=some c87) (er:=fun(x:Bool)=>B x) (by kernel_rfl) (e87 L a0) h
end Go.Proofs.YtcbandfdmbkokaaGreat.Ev
