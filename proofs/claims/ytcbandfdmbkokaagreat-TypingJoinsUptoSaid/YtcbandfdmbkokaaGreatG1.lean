import Derived.Test.YtcbandfdmbkokaaGreatG0
namespace Go.Proofs.YtcbandfdmbkokaaGreat.Ev
open Go
set_option maxRecDepth 100000
set_option linter.unusedVariables false
set_option linter.unusedSimpArgs false
set_option linter.unnecessarySimpa false
noncomputable def c10:EC:=(C4 Tryz.prog inl Tryz.f10).getD .stop
def O10(L:Nat):Bi:=Kg
theorem s10(L:Nat):Bs Tryz.prog (O10 L):=(Az Tryz.prog)
def Zb{A:Type}(an:An A)(L:Nat)(a0:Ai)(out:Bool→A):A:=
 (an.jp (bif (decide ((a0.Params.length:Int)≤40)) then (decide ((a0.Locals.length:Int)≤20))
 else false) (fun j=>(an.cn (decide ((a0.Params.length:Int)≤40))
 (an.ap j (decide ((a0.Locals.length:Int)≤20)))
 (an.ap j false))) (fun b1=>
 (an.jp (bif b1 then (decide ((F9 ((F9 ((F9 ((F9 ((F9 ((F9 ((F9 ((F9 ((F9 ((a0.Site.Vars.length:Int)+(a0.Site.Resources.length:Int)))+(a0.Site.Stores.length:Int)))+(a0.Site.Belts.length:Int)))+(a0.Site.Queues.length:Int)))+(a0.Site.Streams.length:Int)))+(a0.Site.Tallies.length:Int)))+(a0.Site.Levels.length:Int)))+(a0.Site.Counts.length:Int)))+(a0.Site.Routines.length:Int)))≤80))
 else false) (fun j=>(an.cn b1
 (an.ap j (decide ((F9 ((F9 ((F9 ((F9 ((F9 ((F9 ((F9 ((F9 ((F9 ((a0.Site.Vars.length:Int)+(a0.Site.Resources.length:Int)))+(a0.Site.Stores.length:Int)))+(a0.Site.Belts.length:Int)))+(a0.Site.Queues.length:Int)))+(a0.Site.Streams.length:Int)))+(a0.Site.Tallies.length:Int)))+(a0.Site.Levels.length:Int)))+(a0.Site.Counts.length:Int)))+(a0.Site.Routines.length:Int)))≤80)))
 (an.ap j false))) (fun b2=>
 (an.lf out b2)))))
def M3(L:Nat)(a0:Ai):Option Bool:=Zb (Bq _) L a0 some
theorem e10(L:Nat)(a0:Ai)(kk:PV→Prop):EW (O10 L) L 9 (RS Tryz.f10) c10 [.agg (B8 a0)] kk=ob (M3 L a0) (fun(x:Bool)=>kk (B x)):=by
 refine Eq.trans (b:=Zb Bh L a0 (fun(x:Bool)=>kk (B x))) (by kernel_rfl) ?_
 generalize (fun(x:Bool)=>kk (B x))=Q
 unfold M3 Zb
 dsimp only [Bh,Bq]
 try simp only [y1,y2,y3,y4,y5 Q,y6,y7,y8 Q,y9,z1,z2,z3,z4]
theorem h10(L:Nat)(a0:Ai)(r:Bool)(h:M3 L a0=some r):Bc Tryz.prog 10 [.agg (B8 a0)] (B r):=
 hE Cg (s10 L) mixed Tryz.func10 (by kernel_rfl:C4 Tryz.prog inl Tryz.f10=some c10) (er:=fun(x:Bool)=>B x) (by kernel_rfl) (e10 L a0) h
noncomputable def c32:EC:=(C4 Tryz.prog inl Tryz.f32).getD .stop
def O32(Fv:(List Ab)→Option Int)(L:Nat):Bi:=(Cp 32 (A1 (fun(x:Int)=>I x) S1 Fv) Kg)
theorem s32(Fv:(List Ab)→Option Int)(Bdp:∀(y0:(List Ab)) (r:Int),Fv y0=some r→Bc Tryz.prog 32 [.lst false (.t82 y0)] (I r))(L:Nat):Bs Tryz.prog (O32 Fv L):=(Ad (a1 _ Bdp) (Az Tryz.prog))
def Aup(a0:(List Ab))(Ah:Int)(Aj:Int):St:=({ fr:= [(0,.lst false (.t82 a0)),(2,I 0),(3,I Ah),(4,I Aj)],ob:= [],base:=0 } :St)
def Aq7(a0:(List Ab))(K:Ex→St→Prop):Nat×(Int×Int)→Prop:=fun o=>Cr o.1 [K (.exit 0) (Aup a0 o.2.1 o.2.2)]
def Ny{A:Type}(an:An A)(Fv:(List Ab)→Option Int)(L:Nat)(a0:(List Ab))(rec:Int→Int→A)(out:Nat×(Int×Int)→A)(Ah:Int)(Aj:Int):A:=
 (an.cn (decide (Aj < (a0.length:Int)))
 (an.gd ((0:Int)≤Aj)
 (an.gd (Aj < ((a0.length:Nat):Int))
 (an.bd (Fv ((a0.getD (Int.toNat Aj) default).Body)) fun r1=>
 (an.gd ((0:Int)≤Aj)
 (an.gd (Aj < ((a0.length:Nat):Int))
 (an.bd (Fv ((a0.getD (Int.toNat Aj) default).Else)) fun r2=>
 (rec (F9 ((F9 ((F9 (Ah+1))+r1))+r2)) (F9 (Aj+1)))))))))
 (an.lf out (0,(Ah,Aj))))
def Lc(Fv:(List Ab)→Option Int)(L:Nat)(a0:(List Ab)):Nat→Int→Int→Option (Nat×(Int×Int))
 |0,_,_=>none
 |n+1,Ah,Aj=>Ny (Bq _) Fv L a0 (Lc Fv L a0 n) some Ah Aj
theorem Bfu(Fv:(List Ab)→Option Int)(L:Nat)(a0:(List Ab))(g:Int→Int→Option (Nat×(Int×Int)))(Q:Nat×(Int×Int)→Prop)(Ah:Int)(Aj:Int):Ny Bh Fv L a0 (fun Ah Aj=>ob (g Ah Aj) Q) Q Ah Aj=ob (Ny (Bq _) Fv L a0 g some Ah Aj) Q:=by
 unfold Ny
 dsimp only [Bh,Bq]
 try simp only [y1,y2,y3,y4,y5 Q,y6,y7,y8 Q,y9,z1,z2,z3,z4]
theorem Bes(Fv:(List Ab)→Option Int)(L:Nat)(a0:(List Ab))(n:Nat)(Ah:Int)(Aj:Int)(K:Ex→St→Prop):Bl (EV (O32 Fv L) L 9 c32.r.r.r.r.l.r.r.l.l) [0,2,3,4] [] n (Aup a0 Ah Aj) K=ob (Lc Fv L a0 n Ah Aj) (fun o=>Aq7 a0 K o):=by
 induction n generalizing Ah Aj with
 |zero=>rfl
 |succ n ih=>
  refine Eq.trans (b:=Ny Bh Fv L a0 (fun Ah Aj=>Bl (EV (O32 Fv L) L 9 c32.r.r.r.r.l.r.r.l.l) [0,2,3,4] [] n (Aup a0 Ah Aj) K) (Aq7 a0 K) Ah Aj) (by kernel_rfl) ?_
  simp only [ih]
  exact Bfu Fv L a0 (Lc Fv L a0 n) (Aq7 a0 K) Ah Aj
def A4q(Fv:(List Ab)→Option Int)(L:Nat)(kk:PV→Prop):Ex→St→Prop:=(Ca 0 (Dl (EV (O32 Fv L) L 9 c32.r.r.r.r.r) (Dx Tryz.prog (RS Tryz.f32) kk)))
theorem Bpv(Fv:(List Ab)→Option Int)(L:Nat)(a0:(List Ab))(kk:PV→Prop)(o1:Nat×(Int×Int)):Aq7 a0 (A4q Fv L kk) o1=
 (Cr o1.1 [(ob (some o1.2.1) (fun(x:Int)=>kk (I x)))]):=by kernel_rfl
def Wh{A:Type}(an:An A)(Fv:(List Ab)→Option Int)(L:Nat)(a0:(List Ab))(out:Int→A):A:=
 (an.bd (Lc Fv L a0 L 0 0) fun o1=>
 (an.sl o1.1 [(an.lf out o1.2.1)]))
def V6(Fv:(List Ab)→Option Int)(L:Nat)(a0:(List Ab)):Option Int:=Wh (Bq _) Fv L a0 some
theorem e32(Fv:(List Ab)→Option Int)(L:Nat)(a0:(List Ab))(kk:PV→Prop):EW (O32 Fv L) L 9 (RS Tryz.f32) c32 [.lst false (.t82 a0)] kk=ob (V6 Fv L a0) (fun(x:Int)=>kk (I x)):=by
 refine Eq.trans (b:=Wh Bh Fv L a0 (fun(x:Int)=>kk (I x))) ?_ ?_
 ·refine Eq.trans (b:=(Bl (EV (O32 Fv L) L 9 c32.r.r.r.r.l.r.r.l.l) [0,2,3,4] [] L (Aup a0 0 0) (A4q Fv L kk))) (by kernel_rfl) ?_
  unfold Wh
  dsimp only [Bh]
  simp only [Bes,Bpv]
 generalize (fun(x:Int)=>kk (I x))=Q
 unfold V6 Wh
 dsimp only [Bh,Bq]
 try simp only [y1,y2,y3,y4,y5 Q,y6,y7,y8 Q,y9,z1,z2,z3,z4]
theorem b32(Fv:(List Ab)→Option Int)(Bdp:∀(y0:(List Ab)) (r:Int),Fv y0=some r→Bc Tryz.prog 32 [.lst false (.t82 y0)] (I r))(L:Nat)(a0:(List Ab))(r:Int)(h:V6 Fv L a0=some r):Bc Tryz.prog 32 [.lst false (.t82 a0)] (I r):=
 hE Cg (s32 Fv Bdp L) mixed Tryz.func32 (by kernel_rfl:C4 Tryz.prog inl Tryz.f32=some c32) (er:=fun(x:Int)=>I x) (by kernel_rfl) (e32 Fv L a0) h
def Fo:Nat→(List Ab)→Option Int
 |0,_=>none
 |L+1,a0=>V6 (Fo L) L a0
theorem Bc9:∀L,(∀(y0:(List Ab)) (r:Int),Fo L y0=some r→Bc Tryz.prog 32 [.lst false (.t82 y0)] (I r)):=by
 intro L
 induction L with
 |zero=>exact fun _ r h=>(by cases h)
 |succ L ih=>
  have i32:=ih
  exact fun y0 r h=>b32 (Fo L) i32 L y0 r h
theorem h32(L:Nat):∀(y0:(List Ab)) (r:Int),Fo L y0=some r→Bc Tryz.prog 32 [.lst false (.t82 y0)] (I r):=Bc9 L
noncomputable def c16:EC:=(C4 Tryz.prog inl Tryz.f16).getD .stop
def O16(L:Nat):Bi:=(Cp 10 (A1 (fun(x:Bool)=>B x) Cl (M3 L)) (Cp 32 (A1 (fun(x:Int)=>I x) S1 (Fo L)) Kg))
theorem s16(L:Nat):Bs Tryz.prog (O16 L):=(Ad (a1 _ (h10 L)) (Ad (a1 _ (h32 L)) (Az Tryz.prog)))
def Auo(A9:Bool)(Ah:Int)(a0:Af)(C5:Int)(E9:Int):St:=({ fr:= [(0,.any),(1,.loc 1 0),(2,B A9),(3,I C5),(4,I Ah),(5,I E9)],ob:= [(1,(Bz a0))],base:=0 } :St)
def Aq1(A9:Bool)(Ah:Int)(a0:Af)(K:Ex→St→Prop):Nat×(Int×Int)→Prop:=fun o=>Cr o.1 [K (.exit 2) (Auo A9 Ah a0 o.2.1 o.2.2)]
def Te{A:Type}(an:An A)(L:Nat)(A9:Bool)(Ah:Int)(a0:Af)(rec:Int→Int→A)(out:Nat×(Int×Int)→A)(C5:Int)(E9:Int):A:=
 (an.gd ((0:Int)≤Ah)
 (an.gd (Ah < ((a0.Sites.length:Nat):Int))
 (an.cn (decide (E9 < (((a0.Sites.getD (Int.toNat Ah) default).Routines).length:Int)))
 (an.gd ((0:Int)≤Ah)
 (an.gd (Ah < ((a0.Sites.length:Nat):Int))
 (an.gd ((0:Int)≤E9)
 (an.gd (E9 < ((((a0.Sites.getD (Int.toNat Ah) default).Routines).length:Nat):Int))
 (an.bd (Fo L ((((a0.Sites.getD (Int.toNat Ah) default).Routines).getD (Int.toNat E9) default).Body)) fun r2=>
 (rec (F9 (C5+r2)) (F9 (E9+1))))))))
 (an.lf out (0,(C5,E9))))))
def Rp(L:Nat)(A9:Bool)(Ah:Int)(a0:Af):Nat→Int→Int→Option (Nat×(Int×Int))
 |0,_,_=>none
 |n+1,C5,E9=>Te (Bq _) L A9 Ah a0 (Rp L A9 Ah a0 n) some C5 E9
theorem Bfo(L:Nat)(A9:Bool)(Ah:Int)(a0:Af)(g:Int→Int→Option (Nat×(Int×Int)))(Q:Nat×(Int×Int)→Prop)(C5:Int)(E9:Int):Te Bh L A9 Ah a0 (fun C5 E9=>ob (g C5 E9) Q) Q C5 E9=ob (Te (Bq _) L A9 Ah a0 g some C5 E9) Q:=by
 unfold Te
 dsimp only [Bh,Bq]
 try simp only [y1,y2,y3,y4,y5 Q,y6,y7,y8 Q,y9,z1,z2,z3,z4]
theorem Bem(L:Nat)(A9:Bool)(Ah:Int)(a0:Af)(n:Nat)(C5:Int)(E9:Int)(K:Ex→St→Prop):Bl (EV (O16 L) L 9 c16.r.r.r.r.l.r.r.l.l.r.r.l.l.r.r.r.r.l.l) [0,1,2,3,4,5] [1] n (Auo A9 Ah a0 C5 E9) K=ob (Rp L A9 Ah a0 n C5 E9) (fun o=>Aq1 A9 Ah a0 K o):=by
 induction n generalizing C5 E9 with
 |zero=>rfl
 |succ n ih=>
  refine Eq.trans (b:=Te Bh L A9 Ah a0 (fun C5 E9=>Bl (EV (O16 L) L 9 c16.r.r.r.r.l.r.r.l.l.r.r.l.l.r.r.r.r.l.l) [0,1,2,3,4,5] [1] n (Auo A9 Ah a0 C5 E9) K) (Aq1 A9 Ah a0 K) C5 E9) (by kernel_rfl) ?_
  simp only [ih]
  exact Bfo L A9 Ah a0 (Rp L A9 Ah a0 n) (Aq1 A9 Ah a0 K) C5 E9
def Ahm(a0:Af)(A9:Bool)(Ae:Int)(Ah:Int):St:=({ fr:= [(0,.any),(1,.loc 1 0),(2,B A9),(3,I Ae),(4,I Ah)],ob:= [(1,(Bz a0))],base:=0 } :St)
def Agg(a0:Af)(K:Ex→St→Prop):Nat×(Bool×Int×Int)→Prop:=fun o=>Cr o.1 [K .ret (Ahm a0 o.2.1 o.2.2.1 o.2.2.2),K (.exit 0) (Ahm a0 o.2.1 o.2.2.1 o.2.2.2)]
def Ph{A:Type}(an:An A)(L:Nat)(a0:Af)(rec:Bool→Int→Int→A)(out:Nat×(Bool×Int×Int)→A)(A9:Bool)(Ae:Int)(Ah:Int):A:=
 (an.cn (decide (Ah < (a0.Sites.length:Int)))
 (an.gd ((0:Int)≤Ah)
 (an.gd (Ah < ((a0.Sites.length:Nat):Int))
 (an.bd (M3 L (⟨a0.Params,[],(a0.Sites.getD (Int.toNat Ah) default)⟩:Ai)) fun r1=>
 (an.cn (!r1)
 (an.lf out (0,(false,Ae,Ah)))
 (an.bd (Rp L A9 Ah a0 L Ae 0) fun o2=>
 (an.sl o2.1 [(rec A9 o2.2.1 (F9 (Ah+1)))]))))))
 (an.lf out (1,(A9,Ae,Ah))))
def Pq(L:Nat)(a0:Af):Nat→Bool→Int→Int→Option (Nat×(Bool×Int×Int))
 |0,_,_,_=>none
 |n+1,A9,Ae,Ah=>Ph (Bq _) L a0 (Pq L a0 n) some A9 Ae Ah
theorem Bfn(L:Nat)(a0:Af)(g:Bool→Int→Int→Option (Nat×(Bool×Int×Int)))(Q:Nat×(Bool×Int×Int)→Prop)(A9:Bool)(Ae:Int)(Ah:Int):Ph Bh L a0 (fun A9 Ae Ah=>ob (g A9 Ae Ah) Q) Q A9 Ae Ah=ob (Ph (Bq _) L a0 g some A9 Ae Ah) Q:=by
 unfold Ph
 dsimp only [Bh,Bq]
 try simp only [y1,y2,y3,y4,y5 Q,y6,y7,y8 Q,y9,z1,z2,z3,z4]
def A4j(L:Nat)(a0:Af)(n:Nat)(K:Ex→St→Prop):Ex→St→Prop:=(Ca 2 (Ca 1 (Dl (EV (O16 L) L 9 c16.r.r.r.r.l.r.r.l.l.r.r.r) (A4g (Bl (EV (O16 L) L 9 c16.r.r.r.r.l.r.r.l.l) [0,1,2,3,4] [1] n) [0,1,2,3,4] [1] K))))
theorem Bpo(L:Nat)(A9:Bool)(Ah:Int)(a0:Af)(n:Nat)(K:Ex→St→Prop)(o2:Nat×(Int×Int)):Aq1 A9 Ah a0 (A4j L a0 n K) o2=
 (Cr o2.1 [(Bl (EV (O16 L) L 9 c16.r.r.r.r.l.r.r.l.l) [0,1,2,3,4] [1] n (Ahm a0 A9 o2.2.1 (F9 (Ah+1))) K)]):=by kernel_rfl
theorem Bel(L:Nat)(a0:Af)(n:Nat)(A9:Bool)(Ae:Int)(Ah:Int)(K:Ex→St→Prop):Bl (EV (O16 L) L 9 c16.r.r.r.r.l.r.r.l.l) [0,1,2,3,4] [1] n (Ahm a0 A9 Ae Ah) K=ob (Pq L a0 n A9 Ae Ah) (fun o=>Agg a0 K o):=by
 induction n generalizing A9 Ae Ah with
 |zero=>rfl
 |succ n ih=>
  refine Eq.trans (b:=Ph Bh L a0 (fun A9 Ae Ah=>Bl (EV (O16 L) L 9 c16.r.r.r.r.l.r.r.l.l) [0,1,2,3,4] [1] n (Ahm a0 A9 Ae Ah) K) (Agg a0 K) A9 Ae Ah) ?_ ?_
  ·refine Eq.trans (b:=(br (decide (Ah < (a0.Sites.length:Int)))
 (gd ((0:Int)≤Ah)
 (gd (Ah < ((a0.Sites.length:Nat):Int))
 (ob (M3 L (⟨a0.Params,[],(a0.Sites.getD (Int.toNat Ah) default)⟩:Ai)) fun r1=>
 (br (!r1)
 (ob (some (0,(false,Ae,Ah))) (Agg a0 K))
 (Bl (EV (O16 L) L 9 c16.r.r.r.r.l.r.r.l.l.r.r.l.l.r.r.r.r.l.l) [0,1,2,3,4,5] [1] L (Auo A9 Ah a0 Ae 0) (A4j L a0 n K))))))
 (ob (some (1,(A9,Ae,Ah))) (Agg a0 K)))) (by kernel_rfl) ?_
   unfold Ph
   dsimp only [Bh]
   simp only [Bem,Bpo]
  simp only [ih]
  exact Bfn L a0 (Pq L a0 n) (Agg a0 K) A9 Ae Ah
def A4k(L:Nat)(kk:PV→Prop):Ex→St→Prop:=(Ca 0 (Dl (EV (O16 L) L 9 c16.r.r.r.r.r) (Dx Tryz.prog (RS Tryz.f16) kk)))
theorem Bpp(L:Nat)(a0:Af)(kk:PV→Prop)(o1:Nat×(Bool×Int×Int)):Agg a0 (A4k L kk) o1=
 (Cr o1.1 [(ob (some o1.2.1) (fun(x:Bool)=>kk (B x))),
 (jn (fun j=>(br (decide ((a0.Sites.length:Int)≤5))
 (ap j (decide ((a0.Links.length:Int)≤40)))
 (ap j false))) (fun b2=>
 (jn (fun j=>(br b2
 (ap j (decide (o1.2.2.1≤120)))
 (ap j false))) (fun b3=>
 (ob (some b3) (fun(x:Bool)=>kk (B x)))))))]):=by kernel_rfl
def i6{A:Type}(an:An A)(L:Nat)(a0:Af)(out:Bool→A):A:=
 (an.bd (Pq L a0 L false 0 0) fun o1=>
 (an.sl o1.1 [(an.lf out o1.2.1),
 (an.jp (bif (decide ((a0.Sites.length:Int)≤5)) then (decide ((a0.Links.length:Int)≤40))
 else false) (fun j=>(an.cn (decide ((a0.Sites.length:Int)≤5))
 (an.ap j (decide ((a0.Links.length:Int)≤40)))
 (an.ap j false))) (fun b2=>
 (an.jp (bif b2 then (decide (o1.2.2.1≤120))
 else false) (fun j=>(an.cn b2
 (an.ap j (decide (o1.2.2.1≤120)))
 (an.ap j false))) (fun b3=>
 (an.lf out b3)))))]))
def R7(L:Nat)(a0:Af):Option Bool:=i6 (Bq _) L a0 some
theorem e16(L:Nat)(a0:Af)(kk:PV→Prop):EW (O16 L) L 9 (RS Tryz.f16) c16 [.agg (Bz a0)] kk=ob (R7 L a0) (fun(x:Bool)=>kk (B x)):=by
 refine Eq.trans (b:=i6 Bh L a0 (fun(x:Bool)=>kk (B x))) ?_ ?_
 ·refine Eq.trans (b:=(Bl (EV (O16 L) L 9 c16.r.r.r.r.l.r.r.l.l) [0,1,2,3,4] [1] L (Ahm a0 false 0 0) (A4k L kk))) (by kernel_rfl) ?_
  unfold i6
  dsimp only [Bh]
  simp only [Bel,Bpp]
 generalize (fun(x:Bool)=>kk (B x))=Q
 unfold R7 i6
 dsimp only [Bh,Bq]
 try simp only [y1,y2,y3,y4,y5 Q,y6,y7,y8 Q,y9,z1,z2,z3,z4]
theorem h16(L:Nat)(a0:Af)(r:Bool)(h:R7 L a0=some r):Bc Tryz.prog 16 [.agg (Bz a0)] (B r):=
 hE Cg (s16 L) mixed Tryz.func16 (by kernel_rfl:C4 Tryz.prog inl Tryz.f16=some c16) (er:=fun(x:Bool)=>B x) (by kernel_rfl) (e16 L a0) h
noncomputable def c39:EC:=(C4 Tryz.prog inl Tryz.f39).getD .stop
def O39(F1:(List Ab)→Option Int)(L:Nat):Bi:=(Cp 39 (A1 (fun(x:Int)=>I x) S1 F1) Kg)
theorem s39(F1:(List Ab)→Option Int)(Bds:∀(y0:(List Ab)) (r:Int),F1 y0=some r→Bc Tryz.prog 39 [.lst false (.t82 y0)] (I r))(L:Nat):Bs Tryz.prog (O39 F1 L):=(Ad (a1 _ Bds) (Az Tryz.prog))
def Auq(a0:(List Ab))(Ae:Int)(Ba:Int):St:=({ fr:= [(0,.any),(2,I 0),(3,I Ae),(8,.lst false (.t82 a0)),(9,I (a0.length:Int)),(10,I Ba)],ob:= [],base:=0 } :St)
def Ara(a0:(List Ab))(K:Ex→St→Prop):Nat×(Int×Int)→Prop:=fun o=>Cr o.1 [K (.exit 0) (Auq a0 o.2.1 o.2.2)]
def Me{A:Type}(an:An A)(F1:(List Ab)→Option Int)(L:Nat)(a0:(List Ab))(rec:Int→Int→A)(out:Nat×(Int×Int)→A)(Ae:Int)(Ba:Int):A:=
 (an.cn (decide (Ba < (a0.length:Int)))
 (an.gd ((0:Int)≤Ba)
 (an.gd (Ba < ((a0.length:Nat):Int))
 (an.bd (F1 ((a0.getD (Int.toNat Ba) default).Body)) fun r1=>
 (an.bd (F1 ((a0.getD (Int.toNat Ba) default).Else)) fun r2=>
 (rec (F9 (Ae+(F9 (r1+r2)))) (F9 (Ba+1)))))))
 (an.lf out (0,(Ae,Ba))))
def Jc(F1:(List Ab)→Option Int)(L:Nat)(a0:(List Ab)):Nat→Int→Int→Option (Nat×(Int×Int))
 |0,_,_=>none
 |n+1,Ae,Ba=>Me (Bq _) F1 L a0 (Jc F1 L a0 n) some Ae Ba
theorem Bfx(F1:(List Ab)→Option Int)(L:Nat)(a0:(List Ab))(g:Int→Int→Option (Nat×(Int×Int)))(Q:Nat×(Int×Int)→Prop)(Ae:Int)(Ba:Int):Me Bh F1 L a0 (fun Ae Ba=>ob (g Ae Ba) Q) Q Ae Ba=ob (Me (Bq _) F1 L a0 g some Ae Ba) Q:=by
 unfold Me
 dsimp only [Bh,Bq]
 try simp only [y1,y2,y3,y4,y5 Q,y6,y7,y8 Q,y9,z1,z2,z3,z4]
theorem Bev(F1:(List Ab)→Option Int)(L:Nat)(a0:(List Ab))(n:Nat)(Ae:Int)(Ba:Int)(K:Ex→St→Prop):Bl (EV (O39 F1 L) L 9 c39.r.r.r.r.l.r.r.l.l) [0,2,3,8,9,10] [] n (Auq a0 Ae Ba) K=ob (Jc F1 L a0 n Ae Ba) (fun o=>Ara a0 K o):=by
 induction n generalizing Ae Ba with
 |zero=>rfl
 |succ n ih=>
  refine Eq.trans (b:=Me Bh F1 L a0 (fun Ae Ba=>Bl (EV (O39 F1 L) L 9 c39.r.r.r.r.l.r.r.l.l) [0,2,3,8,9,10] [] n (Auq a0 Ae Ba) K) (Ara a0 K) Ae Ba) (by kernel_rfl) ?_
  simp only [ih]
  exact Bfx F1 L a0 (Jc F1 L a0 n) (Ara a0 K) Ae Ba
def A4t(F1:(List Ab)→Option Int)(L:Nat)(kk:PV→Prop):Ex→St→Prop:=(Ca 0 (Dl (EV (O39 F1 L) L 9 c39.r.r.r.r.r) (Dx Tryz.prog (RS Tryz.f39) kk)))
theorem Bpy(F1:(List Ab)→Option Int)(L:Nat)(a0:(List Ab))(kk:PV→Prop)(o1:Nat×(Int×Int)):Ara a0 (A4t F1 L kk) o1=
 (Cr o1.1 [(ob (some o1.2.1) (fun(x:Int)=>kk (I x)))]):=by kernel_rfl
def Ux{A:Type}(an:An A)(F1:(List Ab)→Option Int)(L:Nat)(a0:(List Ab))(out:Int→A):A:=
 (an.bd (Jc F1 L a0 L (a0.length:Int) 0) fun o1=>
 (an.sl o1.1 [(an.lf out o1.2.1)]))
def Ue(F1:(List Ab)→Option Int)(L:Nat)(a0:(List Ab)):Option Int:=Ux (Bq _) F1 L a0 some
theorem e39(F1:(List Ab)→Option Int)(L:Nat)(a0:(List Ab))(kk:PV→Prop):EW (O39 F1 L) L 9 (RS Tryz.f39) c39 [.lst false (.t82 a0)] kk=ob (Ue F1 L a0) (fun(x:Int)=>kk (I x)):=by
 refine Eq.trans (b:=Ux Bh F1 L a0 (fun(x:Int)=>kk (I x))) ?_ ?_
 ·refine Eq.trans (b:=(Bl (EV (O39 F1 L) L 9 c39.r.r.r.r.l.r.r.l.l) [0,2,3,8,9,10] [] L (Auq a0 (a0.length:Int) 0) (A4t F1 L kk))) (by kernel_rfl) ?_
  unfold Ux
  dsimp only [Bh]
  simp only [Bev,Bpy]
 generalize (fun(x:Int)=>kk (I x))=Q
 unfold Ue Ux
 dsimp only [Bh,Bq]
 try simp only [y1,y2,y3,y4,y5 Q,y6,y7,y8 Q,y9,z1,z2,z3,z4]
theorem b39(F1:(List Ab)→Option Int)(Bds:∀(y0:(List Ab)) (r:Int),F1 y0=some r→Bc Tryz.prog 39 [.lst false (.t82 y0)] (I r))(L:Nat)(a0:(List Ab))(r:Int)(h:Ue F1 L a0=some r):Bc Tryz.prog 39 [.lst false (.t82 a0)] (I r):=
 hE Cg (s39 F1 Bds L) mixed Tryz.func39 (by kernel_rfl:C4 Tryz.prog inl Tryz.f39=some c39) (er:=fun(x:Int)=>I x) (by kernel_rfl) (e39 F1 L a0) h
def Io:Nat→(List Ab)→Option Int
 |0,_=>none
 |L+1,a0=>Ue (Io L) L a0
theorem Bdc:∀L,(∀(y0:(List Ab)) (r:Int),Io L y0=some r→Bc Tryz.prog 39 [.lst false (.t82 y0)] (I r)):=by
 intro L
 induction L with
 |zero=>exact fun _ r h=>(by cases h)
 |succ L ih=>
  have i39:=ih
  exact fun y0 r h=>b39 (Io L) i39 L y0 r h
theorem h39(L:Nat):∀(y0:(List Ab)) (r:Int),Io L y0=some r→Bc Tryz.prog 39 [.lst false (.t82 y0)] (I r):=Bdc L
noncomputable def c40:EC:=(C4 Tryz.prog inl Tryz.f40).getD .stop
def O40(F2:(List Ab)→Option Int)(L:Nat):Bi:=(Cp 40 (A1 (fun(x:Int)=>I x) S1 F2) Kg)
theorem s40(F2:(List Ab)→Option Int)(Bdt:∀(y0:(List Ab)) (r:Int),F2 y0=some r→Bc Tryz.prog 40 [.lst false (.t82 y0)] (I r))(L:Nat):Bs Tryz.prog (O40 F2 L):=(Ad (a1 _ Bdt) (Az Tryz.prog))
def Aur(a0:(List Ab))(Ae:Int)(Ba:Int):St:=({ fr:= [(0,.any),(2,I 0),(3,I Ae),(6,.lst false (.t82 a0)),(7,I (a0.length:Int)),(8,I Ba)],ob:= [],base:=0 } :St)
def Arb(a0:(List Ab))(K:Ex→St→Prop):Nat×(Int×Int)→Prop:=fun o=>Cr o.1 [K (.exit 0) (Aur a0 o.2.1 o.2.2)]
def Mf{A:Type}(an:An A)(F2:(List Ab)→Option Int)(L:Nat)(a0:(List Ab))(rec:Int→Int→A)(out:Nat×(Int×Int)→A)(Ae:Int)(Ba:Int):A:=
 (an.cn (decide (Ba < (a0.length:Int)))
 (an.gd ((0:Int)≤Ba)
 (an.gd (Ba < ((a0.length:Nat):Int))
 (an.bd (F2 ((a0.getD (Int.toNat Ba) default).Body)) fun r1=>
 (an.bd (F2 ((a0.getD (Int.toNat Ba) default).Else)) fun r2=>
 (rec (if (F9 (1+r2)) > (if (F9 (1+r1)) > Ae then (F9 (1+r1)) else Ae) then (F9 (1+r2)) else (if (F9 (1+r1)) > Ae then (F9 (1+r1)) else Ae)) (F9 (Ba+1)))))))
 (an.lf out (0,(Ae,Ba))))
def Jd(F2:(List Ab)→Option Int)(L:Nat)(a0:(List Ab)):Nat→Int→Int→Option (Nat×(Int×Int))
 |0,_,_=>none
 |n+1,Ae,Ba=>Mf (Bq _) F2 L a0 (Jd F2 L a0 n) some Ae Ba
theorem Bfy(F2:(List Ab)→Option Int)(L:Nat)(a0:(List Ab))(g:Int→Int→Option (Nat×(Int×Int)))(Q:Nat×(Int×Int)→Prop)(Ae:Int)(Ba:Int):Mf Bh F2 L a0 (fun Ae Ba=>ob (g Ae Ba) Q) Q Ae Ba=ob (Mf (Bq _) F2 L a0 g some Ae Ba) Q:=by
 unfold Mf
 dsimp only [Bh,Bq]
 try simp only [y1,y2,y3,y4,y5 Q,y6,y7,y8 Q,y9,z1,z2,z3,z4]
theorem Bew(F2:(List Ab)→Option Int)(L:Nat)(a0:(List Ab))(n:Nat)(Ae:Int)(Ba:Int)(K:Ex→St→Prop):Bl (EV (O40 F2 L) L 9 c40.r.r.r.r.l.r.r.l.l) [0,2,3,6,7,8] [] n (Aur a0 Ae Ba) K=ob (Jd F2 L a0 n Ae Ba) (fun o=>Arb a0 K o):=by
 induction n generalizing Ae Ba with
 |zero=>rfl
 |succ n ih=>
  refine Eq.trans (b:=Mf Bh F2 L a0 (fun Ae Ba=>Bl (EV (O40 F2 L) L 9 c40.r.r.r.r.l.r.r.l.l) [0,2,3,6,7,8] [] n (Aur a0 Ae Ba) K) (Arb a0 K) Ae Ba) (by kernel_rfl) ?_
  simp only [ih]
  exact Bfy F2 L a0 (Jd F2 L a0 n) (Arb a0 K) Ae Ba
def A4u(F2:(List Ab)→Option Int)(L:Nat)(kk:PV→Prop):Ex→St→Prop:=(Ca 0 (Dl (EV (O40 F2 L) L 9 c40.r.r.r.r.r) (Dx Tryz.prog (RS Tryz.f40) kk)))
theorem Bpz(F2:(List Ab)→Option Int)(L:Nat)(a0:(List Ab))(kk:PV→Prop)(o1:Nat×(Int×Int)):Arb a0 (A4u F2 L kk) o1=
 (Cr o1.1 [(ob (some o1.2.1) (fun(x:Int)=>kk (I x)))]):=by kernel_rfl
def Uy{A:Type}(an:An A)(F2:(List Ab)→Option Int)(L:Nat)(a0:(List Ab))(out:Int→A):A:=
 (an.bd (Jd F2 L a0 L 0 0) fun o1=>
 (an.sl o1.1 [(an.lf out o1.2.1)]))
def Uf(F2:(List Ab)→Option Int)(L:Nat)(a0:(List Ab)):Option Int:=Uy (Bq _) F2 L a0 some
theorem e40(F2:(List Ab)→Option Int)(L:Nat)(a0:(List Ab))(kk:PV→Prop):EW (O40 F2 L) L 9 (RS Tryz.f40) c40 [.lst false (.t82 a0)] kk=ob (Uf F2 L a0) (fun(x:Int)=>kk (I x)):=by
 refine Eq.trans (b:=Uy Bh F2 L a0 (fun(x:Int)=>kk (I x))) ?_ ?_
 ·refine Eq.trans (b:=(Bl (EV (O40 F2 L) L 9 c40.r.r.r.r.l.r.r.l.l) [0,2,3,6,7,8] [] L (Aur a0 0 0) (A4u F2 L kk))) (by kernel_rfl) ?_
  unfold Uy
  dsimp only [Bh]
  simp only [Bew,Bpz]
 generalize (fun(x:Int)=>kk (I x))=Q
 unfold Uf Uy
 dsimp only [Bh,Bq]
 try simp only [y1,y2,y3,y4,y5 Q,y6,y7,y8 Q,y9,z1,z2,z3,z4]
theorem b40(F2:(List Ab)→Option Int)(Bdt:∀(y0:(List Ab)) (r:Int),F2 y0=some r→Bc Tryz.prog 40 [.lst false (.t82 y0)] (I r))(L:Nat)(a0:(List Ab))(r:Int)(h:Uf F2 L a0=some r):Bc Tryz.prog 40 [.lst false (.t82 a0)] (I r):=
 hE Cg (s40 F2 Bdt L) mixed Tryz.func40 (by kernel_rfl:C4 Tryz.prog inl Tryz.f40=some c40) (er:=fun(x:Int)=>I x) (by kernel_rfl) (e40 F2 L a0) h
def Ip:Nat→(List Ab)→Option Int
 |0,_=>none
 |L+1,a0=>Uf (Ip L) L a0
theorem Bdd:∀L,(∀(y0:(List Ab)) (r:Int),Ip L y0=some r→Bc Tryz.prog 40 [.lst false (.t82 y0)] (I r)):=by
 intro L
 induction L with
 |zero=>exact fun _ r h=>(by cases h)
 |succ L ih=>
  have i40:=ih
  exact fun y0 r h=>b40 (Ip L) i40 L y0 r h
theorem h40(L:Nat):∀(y0:(List Ab)) (r:Int),Ip L y0=some r→Bc Tryz.prog 40 [.lst false (.t82 y0)] (I r):=Bdd L
noncomputable def c72:EC:=(C4 Tryz.prog inl Tryz.f72).getD .stop
def O72(L:Nat):Bi:=Kg
theorem s72(L:Nat):Bs Tryz.prog (O72 L):=(Az Tryz.prog)
def A6o:St:=({ fr:= [(2,.loc 2 0),(3,B false)],ob:= [(2,[B false,B false,B false,B false,B false,B false,B false,B false,B false])],base:=0 } :St)
def A5u(L:Nat)(kk:PV→Prop):Ex→St→Prop:=(Dx Tryz.prog (RS Tryz.f72) kk)
def Oc{A:Type}(an:An A)(L:Nat)(out:(Bn×Bool)→A):A:=
 (an.lf out ((⟨false,false,false,false,false,false,false,false,false⟩:Bn),false))
theorem Bb6(L:Nat)(kk:PV→Prop):EV (O72 L) L 9 c72.r.r.r.r (A6o) (A5u L kk)=Oc Bh L (fun(x:(Bn×Bool))=>kk (.tup [.agg (D0 x.1),B x.2])):=by kernel_rfl
theorem Biz(L:Nat)(Q:(Bn×Bool)→Prop):Oc Bh L Q=ob (Oc (Bq _) L some) Q:=by
 unfold Oc
 dsimp only [Bh,Bq]
 try simp only [y1,y2,y3,y4,y5 Q,y6,y7,y8 Q,y9,z1,z2,z3,z4]
def Aui(a0:Int)(p803_2:Bool):St:=({ fr:= [(2,.loc 2 0),(3,B false),(4,I a0),(32,B p803_2)],ob:= [(2,[B false,B false,B false,B false,B false,B false,B false,B false,B false])],base:=0 } :St)
def As2(L:Nat)(e0:EC)(kk:PV→Prop):Ex→St→Prop:=(Ca 0 (Dl (EV (O72 L) L 9 e0) (Dx Tryz.prog (RS Tryz.f72) kk)))
def Qz{A:Type}(an:An A)(L:Nat)(a0:Int)(p803_2:Bool)(nx1:A)(out:(Bn×Bool)→A):A:=
 (an.cn p803_2
 (an.lf out ((⟨true,false,false,false,false,false,false,false,false⟩:Bn),true))
 (an.cn (a0 == 13)
 (an.lf out ((⟨true,true,true,false,true,false,false,false,false⟩:Bn),true))
 (an.cn (a0 == 14)
 (an.lf out ((⟨true,false,true,false,true,false,false,false,false⟩:Bn),true))
 (an.cn (a0 == 18)
 (an.lf out ((⟨false,false,false,false,false,false,false,false,false⟩:Bn),true))
 nx1))))
def L1{A:Type}(an:An A)(L:Nat)(a0:Int)(p803_2:Bool)(out:(Bn×Bool)→A):A:=Qz an L a0 p803_2 (Oc an L out) out
theorem Bia(L:Nat)(a0:Int)(p803_2:Bool)(g1:Option (Bn×Bool))(Q:(Bn×Bool)→Prop):Qz Bh L a0 p803_2 (ob (g1) Q) Q=ob (Qz (Bq _) L a0 p803_2 g1 some) Q:=by
 unfold Qz
 dsimp only [Bh,Bq]
 try simp only [y1,y2,y3,y4,y5 Q,y6,y7,y8 Q,y9,z1,z2,z3,z4]
theorem Bcv(L:Nat)(a0:Int)(p803_2:Bool)(kk:PV→Prop)(z1:EC):EV (O72 L) L 9 c72.r.r.l.r.r.l.r.r.r.r.r.r.r.r.r.r.r.r.r.r.r.r.r.r.r.r.r.r.r (Aui a0 p803_2) (As2 L (EC.put [false] z1 c72.r.r.r) kk)=Qz Bh L a0 p803_2 (EV (O72 L) L 9 z1 (A6o) (A5u L kk)) (fun(x:(Bn×Bool))=>kk (.tup [.agg (D0 x.1),B x.2])):=by kernel_rfl
theorem Bb8(L:Nat)(a0:Int)(p803_2:Bool)(kk:PV→Prop):EV (O72 L) L 9 c72.r.r.l.r.r.l.r.r.r.r.r.r.r.r.r.r.r.r.r.r.r.r.r.r.r.r.r.r.r (Aui a0 p803_2) (As2 L c72.r.r.r kk)=L1 Bh L a0 p803_2 (fun(x:(Bn×Bool))=>kk (.tup [.agg (D0 x.1),B x.2])):=by
 refine Eq.trans (b:=EV (O72 L) L 9 c72.r.r.l.r.r.l.r.r.r.r.r.r.r.r.r.r.r.r.r.r.r.r.r.r.r.r.r.r.r (Aui a0 p803_2) (As2 L (EC.put [false] c72.r.r.r.r c72.r.r.r) kk)) (by kernel_rfl) ?_
 refine Eq.trans (Bcv L a0 p803_2 kk c72.r.r.r.r) ?_
 unfold L1
 simp only [Bb6]
theorem Bi1(L:Nat)(a0:Int)(p803_2:Bool)(Q:(Bn×Bool)→Prop):L1 Bh L a0 p803_2 Q=ob (L1 (Bq _) L a0 p803_2 some) Q:=by
 unfold L1
 simp only [Biz]
 exact Bia L a0 p803_2 (Oc (Bq _) L some) Q
def Auh(a0:Int)(p802_2:Bool):St:=({ fr:= [(2,.loc 2 0),(3,B false),(4,I a0),(5,B p802_2)],ob:= [(2,[B false,B false,B false,B false,B false,B false,B false,B false,B false])],base:=0 } :St)
def As1(L:Nat)(e0:EC)(kk:PV→Prop):Ex→St→Prop:=(Ca 0 (Dl (EV (O72 L) L 9 e0) (Dx Tryz.prog (RS Tryz.f72) kk)))
def Qy{A:Type}(an:An A)(L:Nat)(a0:Int)(p802_2:Bool)(nx3:Int→Bool→A)(out:(Bn×Bool)→A):A:=
 (an.cn p802_2
 (an.lf out ((⟨true,false,true,false,false,false,false,false,false⟩:Bn),true))
 (an.cn (a0 == 2)
 (an.lf out ((⟨true,true,false,false,false,true,false,false,false⟩:Bn),true))
 (an.cn (a0 == 3)
 (an.lf out ((⟨false,false,true,false,false,false,false,true,true⟩:Bn),true))
 (an.cn (a0 == 4)
 (an.lf out ((⟨false,false,true,false,false,false,false,true,false⟩:Bn),true))
 (an.cn (a0 == 5)
 (an.lf out ((⟨false,false,true,false,false,false,false,false,false⟩:Bn),true))
 (an.cn (a0 == 6)
 (an.lf out ((⟨true,false,true,true,false,false,true,false,false⟩:Bn),true))
 (an.cn (a0 == 9)
 (an.lf out ((⟨true,true,false,false,false,false,false,false,false⟩:Bn),true))
 (an.cn (a0 == 10)
 (nx3 a0 (a0 == 10))
 (nx3 a0 (a0 == 11))))))))))
def Lz{A:Type}(an:An A)(L:Nat)(a0:Int)(p802_2:Bool)(out:(Bn×Bool)→A):A:=Qy an L a0 p802_2 (fun a0 p803_2=>L1 an L a0 p803_2 out) out
theorem Bh9(L:Nat)(a0:Int)(p802_2:Bool)(g3:Int→Bool→Option (Bn×Bool))(Q:(Bn×Bool)→Prop):Qy Bh L a0 p802_2 (fun a0 p803_2=>ob (g3 a0 p803_2) Q) Q=ob (Qy (Bq _) L a0 p802_2 g3 some) Q:=by
 unfold Qy
 dsimp only [Bh,Bq]
 try simp only [y1,y2,y3,y4,y5 Q,y6,y7,y8 Q,y9,z1,z2,z3,z4]
theorem Bcu(L:Nat)(a0:Int)(p802_2:Bool)(kk:PV→Prop)(z3:EC):EV (O72 L) L 9 (EC.put [false,false,false,false,false,false,false,false,false,false,false,false,false,false,false,false,false,false,false,false,false] z3 c72.r.r.l.r.r.l.r.r) (Auh a0 p802_2) (As1 L c72.r.r.r kk)=Qy Bh L a0 p802_2 (fun a0 p803_2=>EV (O72 L) L 9 z3 (Aui a0 p803_2) (As2 L c72.r.r.r kk)) (fun(x:(Bn×Bool))=>kk (.tup [.agg (D0 x.1),B x.2])):=by kernel_rfl
theorem Bb7(L:Nat)(a0:Int)(p802_2:Bool)(kk:PV→Prop):EV (O72 L) L 9 c72.r.r.l.r.r.l.r.r (Auh a0 p802_2) (As1 L c72.r.r.r kk)=Lz Bh L a0 p802_2 (fun(x:(Bn×Bool))=>kk (.tup [.agg (D0 x.1),B x.2])):=by
 refine Eq.trans (b:=EV (O72 L) L 9 (EC.put [false,false,false,false,false,false,false,false,false,false,false,false,false,false,false,false,false,false,false,false,false] c72.r.r.l.r.r.l.r.r.r.r.r.r.r.r.r.r.r.r.r.r.r.r.r.r.r.r.r.r.r c72.r.r.l.r.r.l.r.r) (Auh a0 p802_2) (As1 L c72.r.r.r kk)) (by kernel_rfl) ?_
 refine Eq.trans (Bcu L a0 p802_2 kk c72.r.r.l.r.r.l.r.r.r.r.r.r.r.r.r.r.r.r.r.r.r.r.r.r.r.r.r.r.r) ?_
 unfold Lz
 simp only [Bb8]
theorem Bi0(L:Nat)(a0:Int)(p802_2:Bool)(Q:(Bn×Bool)→Prop):Lz Bh L a0 p802_2 Q=ob (Lz (Bq _) L a0 p802_2 some) Q:=by
 unfold Lz
 simp only [Bi1]
 exact Bh9 L a0 p802_2 (fun a0 p803_2=>L1 (Bq _) L a0 p803_2 some) Q
def Qx{A:Type}(an:An A)(L:Nat)(a0:Int)(nx2:Int→Bool→A)(out:(Bn×Bool)→A):A:=
 (an.cn (a0 == 1)
 (nx2 a0 (a0 == 1))
 (an.cn (a0 == 7)
 (nx2 a0 (a0 == 7))
 (an.cn (a0 == 8)
 (nx2 a0 (a0 == 8))
 (an.cn (a0 == 12)
 (nx2 a0 (a0 == 12))
 (an.cn (a0 == 15)
 (nx2 a0 (a0 == 15))
 (an.cn (a0 == 16)
 (nx2 a0 (a0 == 16))
 (nx2 a0 (a0 == 17))))))))
def Aar{A:Type}(an:An A)(L:Nat)(a0:Int)(out:(Bn×Bool)→A):A:=Qx an L a0 (fun a0 p802_2=>Lz an L a0 p802_2 out) out
theorem Bh8(L:Nat)(a0:Int)(g2:Int→Bool→Option (Bn×Bool))(Q:(Bn×Bool)→Prop):Qx Bh L a0 (fun a0 p802_2=>ob (g2 a0 p802_2) Q) Q=ob (Qx (Bq _) L a0 g2 some) Q:=by
 unfold Qx
 dsimp only [Bh,Bq]
 try simp only [y1,y2,y3,y4,y5 Q,y6,y7,y8 Q,y9,z1,z2,z3,z4]
theorem Bct(L:Nat)(a0:Int)(kk:PV→Prop)(z2:EC):EW (O72 L) L 9 (RS Tryz.f72) (EC.put [false,false,true,false,false,true,false,false] z2 c72) [I a0] kk=Qx Bh L a0 (fun a0 p802_2=>EV (O72 L) L 9 z2 (Auh a0 p802_2) (As1 L c72.r.r.r kk)) (fun(x:(Bn×Bool))=>kk (.tup [.agg (D0 x.1),B x.2])):=by kernel_rfl
def O3(L:Nat)(a0:Int):Option (Bn×Bool):=Aar (Bq _) L a0 some
theorem e72(L:Nat)(a0:Int)(kk:PV→Prop):EW (O72 L) L 9 (RS Tryz.f72) c72 [I a0] kk=ob (O3 L a0) (fun(x:(Bn×Bool))=>kk (.tup [.agg (D0 x.1),B x.2])):=by
 refine Eq.trans (b:=EW (O72 L) L 9 (RS Tryz.f72) (EC.put [false,false,true,false,false,true,false,false] c72.r.r.l.r.r.l.r.r c72) [I a0] kk) (by kernel_rfl) ?_
 refine Eq.trans (Bct L a0 kk c72.r.r.l.r.r.l.r.r) ?_
 simp only [Bb7]
 generalize (fun(x:(Bn×Bool))=>kk (.tup [.agg (D0 x.1),B x.2]))=Q
 simp only [Bi0]
 unfold O3 Aar
 exact Bh8 L a0 (fun a0 p802_2=>Lz (Bq _) L a0 p802_2 some) Q
theorem h72(L:Nat)(a0:Int)(r:(Bn×Bool))(h:O3 L a0=some r):Bc Tryz.prog 72 [I a0] (.tup [.agg (D0 r.1),B r.2]):=
 hE Cg (s72 L) mixed Tryz.func72 (by kernel_rfl:C4 Tryz.prog inl Tryz.f72=some c72) (er:=fun(x:(Bn×Bool))=> .tup [.agg (D0 x.1),B x.2]) (by kernel_rfl) (e72 L a0) h
noncomputable def A1p:EC:=(C4 Tryz.prog inl Tryz.f151).getD .stop
def A07(Dq:Aa→Aa→Option Bool)(L:Nat):Bi:=(Cp 151 (A2 (fun(x:Bool)=>B x) Bm Bm Dq) Kg)
theorem Btw(Dq:Aa→Aa→Option Bool)(A3s:∀(y0:Aa) (y1:Aa) (r:Bool),Dq y0 y1=some r→Bc Tryz.prog 151 [.agg (Ay y0),.agg (Ay y1)] (B r))(L:Nat):Bs Tryz.prog (A07 Dq L):=(Ad (a2 _ A3s) (Az Tryz.prog))
def Afr(a0:Aa)(a1:Aa)(A9:Bool)(Aj:Int):St:=({ fr:= [(0,.any),(1,.any),(2,.any),(3,.loc 3 0),(4,B A9),(36,.lst false (.t38 a0.Kids)),(37,I (a0.Kids.length:Int)),(38,I Aj)],ob:= [(2,(Ay a0)),(3,(Ay a1))],base:=0 } :St)
def Aj6(a0:Aa)(a1:Aa)(K:Ex→St→Prop):Nat×(Bool×Int)→Prop:=fun o=>Cr o.1 [K .ret (Afr a0 a1 o.2.1 o.2.2),K (.exit 0) (Afr a0 a1 o.2.1 o.2.2)]
def N7{A:Type}(an:An A)(Dq:Aa→Aa→Option Bool)(L:Nat)(a0:Aa)(a1:Aa)(rec:Bool→Int→A)(out:Nat×(Bool×Int)→A)(A9:Bool)(Aj:Int):A:=
 (an.cn (decide (Aj < (a0.Kids.length:Int)))
 (an.gd ((0:Int)≤Aj)
 (an.gd (Aj < ((a0.Kids.length:Nat):Int))
 (an.gd ((0:Int)≤Aj)
 (an.gd (Aj < ((a1.Kids.length:Nat):Int))
 (an.bd (Dq (Aa.cp (a0.Kids.getD (Int.toNat Aj) default)) (Aa.cp (a1.Kids.getD (Int.toNat Aj) default))) fun r4=>
 (an.cn (!r4)
 (an.lf out (0,(false,Aj)))
 (rec A9 (F9 (Aj+1)))))))))
 (an.lf out (1,(A9,Aj))))
def Ln(Dq:Aa→Aa→Option Bool)(L:Nat)(a0:Aa)(a1:Aa):Nat→Bool→Int→Option (Nat×(Bool×Int))
 |0,_,_=>none
 |n+1,A9,Aj=>N7 (Bq _) Dq L a0 a1 (Ln Dq L a0 a1 n) some A9 Aj
theorem A9f(Dq:Aa→Aa→Option Bool)(L:Nat)(a0:Aa)(a1:Aa)(g:Bool→Int→Option (Nat×(Bool×Int)))(Q:Nat×(Bool×Int)→Prop)(A9:Bool)(Aj:Int):N7 Bh Dq L a0 a1 (fun A9 Aj=>ob (g A9 Aj) Q) Q A9 Aj=ob (N7 (Bq _) Dq L a0 a1 g some A9 Aj) Q:=by
 unfold N7
 dsimp only [Bh,Bq]
 try simp only [y1,y2,y3,y4,y5 Q,y6,y7,y8 Q,y9,z1,z2,z3,z4]
theorem A8w(Dq:Aa→Aa→Option Bool)(L:Nat)(a0:Aa)(a1:Aa)(n:Nat)(A9:Bool)(Aj:Int)(K:Ex→St→Prop):Bl (EV (A07 Dq L) L 9 A1p.r.r.r.r.l.r.r.l.l) [0,1,2,3,4,36,37,38] [2,3] n (Afr a0 a1 A9 Aj) K=ob (Ln Dq L a0 a1 n A9 Aj) (fun o=>Aj6 a0 a1 K o):=by
 induction n generalizing A9 Aj with
 |zero=>rfl
 |succ n ih=>
  refine Eq.trans (b:=N7 Bh Dq L a0 a1 (fun A9 Aj=>Bl (EV (A07 Dq L) L 9 A1p.r.r.r.r.l.r.r.l.l) [0,1,2,3,4,36,37,38] [2,3] n (Afr a0 a1 A9 Aj) K) (Aj6 a0 a1 K) A9 Aj) (by kernel_rfl) ?_
  simp only [ih]
  exact A9f Dq L a0 a1 (Ln Dq L a0 a1 n) (Aj6 a0 a1 K) A9 Aj
def Az9(Dq:Aa→Aa→Option Bool)(L:Nat)(kk:PV→Prop):Ex→St→Prop:=(Ca 0 (Dl (EV (A07 Dq L) L 9 A1p.r.r.r.r.r) (Dx Tryz.prog (RS Tryz.f151) kk)))
theorem Bg1(Dq:Aa→Aa→Option Bool)(L:Nat)(a0:Aa)(a1:Aa)(kk:PV→Prop)(o4:Nat×(Bool×Int)):Aj6 a0 a1 (Az9 Dq L kk) o4=
 (Cr o4.1 [(ob (some o4.2.1) (fun(x:Bool)=>kk (B x))),
 (ob (some true) (fun(x:Bool)=>kk (B x)))]):=by kernel_rfl
def Wo{A:Type}(an:An A)(Dq:Aa→Aa→Option Bool)(L:Nat)(a0:Aa)(a1:Aa)(out:Bool→A):A:=
 (an.jp (bif (a0.Op != a1.Op) then true
 else (!(a0.Name.toList == a1.Name.toList))) (fun j=>(an.cn (a0.Op != a1.Op)
 (an.ap j true)
 (an.ap j (!(a0.Name.toList == a1.Name.toList))))) (fun b1=>
 (an.jp (bif b1 then true
 else (a0.N != a1.N)) (fun j=>(an.cn b1
 (an.ap j true)
 (an.ap j (a0.N != a1.N)))) (fun b2=>
 (an.jp (bif b2 then true
 else ((a0.Kids.length:Int) != (a1.Kids.length:Int))) (fun j=>(an.cn b2
 (an.ap j true)
 (an.ap j ((a0.Kids.length:Int) != (a1.Kids.length:Int))))) (fun b3=>
 (an.cn b3
 (an.lf out false)
 (an.bd (Ln Dq L a0 a1 L false 0) fun o4=>
 (an.sl o4.1 [(an.lf out o4.2.1),
 (an.lf out true)])))))))))
def Wa(Dq:Aa→Aa→Option Bool)(L:Nat)(a0:Aa)(a1:Aa):Option Bool:=Wo (Bq _) Dq L a0 a1 some
theorem Brw(Dq:Aa→Aa→Option Bool)(L:Nat)(a0:Aa)(a1:Aa)(kk:PV→Prop):EW (A07 Dq L) L 9 (RS Tryz.f151) A1p [.agg (Ay a0),.agg (Ay a1)] kk=ob (Wa Dq L a0 a1) (fun(x:Bool)=>kk (B x)):=by
 refine Eq.trans (b:=Wo Bh Dq L a0 a1 (fun(x:Bool)=>kk (B x))) ?_ ?_
 ·refine Eq.trans (b:=(jn (fun j=>(br (a0.Op != a1.Op)
 (ap j true)
 (ap j (!(a0.Name.toList == a1.Name.toList))))) (fun b1=>
 (jn (fun j=>(br b1
 (ap j true)
 (ap j (a0.N != a1.N)))) (fun b2=>
 (jn (fun j=>(br b2
 (ap j true)
 (ap j ((a0.Kids.length:Int) != (a1.Kids.length:Int))))) (fun b3=>
 (br b3
 (ob (some false) (fun(x:Bool)=>kk (B x)))
 (Bl (EV (A07 Dq L) L 9 A1p.r.r.r.r.l.r.r.l.l) [0,1,2,3,4,36,37,38] [2,3] L (Afr a0 a1 false 0) (Az9 Dq L kk)))))))))) (by kernel_rfl) ?_
  unfold Wo
  dsimp only [Bh]
  simp only [A8w,Bg1]
 generalize (fun(x:Bool)=>kk (B x))=Q
 unfold Wa Wo
 dsimp only [Bh,Bq]
 try simp only [y1,y2,y3,y4,y5 Q,y6,y7,y8 Q,y9,z1,z2,z3,z4]
theorem Brk(Dq:Aa→Aa→Option Bool)(A3s:∀(y0:Aa) (y1:Aa) (r:Bool),Dq y0 y1=some r→Bc Tryz.prog 151 [.agg (Ay y0),.agg (Ay y1)] (B r))(L:Nat)(a0:Aa)(a1:Aa)(r:Bool)(h:Wa Dq L a0 a1=some r):Bc Tryz.prog 151 [.agg (Ay a0),.agg (Ay a1)] (B r):=
 hE Cg (Btw Dq A3s L) mixed Tryz.func151 (by kernel_rfl:C4 Tryz.prog inl Tryz.f151=some A1p) (er:=fun(x:Bool)=>B x) (by kernel_rfl) (Brw Dq L a0 a1) h
def K1:Nat→Aa→Aa→Option Bool
 |0,_,_=>none
 |L+1,a0,a1=>Wa (K1 L) L a0 a1
theorem A79:∀L,(∀(y0:Aa) (y1:Aa) (r:Bool),K1 L y0 y1=some r→Bc Tryz.prog 151 [.agg (Ay y0),.agg (Ay y1)] (B r)):=by
 intro L
 induction L with
 |zero=>exact fun _ _ r h=>(by cases h)
 |succ L ih=>
  have i151:=ih
  exact fun y0 y1 r h=>Brk (K1 L) i151 L y0 y1 r h
theorem Bm3(L:Nat):∀(y0:Aa) (y1:Aa) (r:Bool),K1 L y0 y1=some r→Bc Tryz.prog 151 [.agg (Ay y0),.agg (Ay y1)] (B r):=A79 L
noncomputable def A1u:EC:=(C4 Tryz.prog inl Tryz.f206).getD .stop
def A1c(L:Nat):Bi:=Kg
theorem Bug(L:Nat):Bs Tryz.prog (A1c L):=(Az Tryz.prog)
def Afx(a0:(List Int))(a1:(List Int))(Ah:Bool)(Ba:Int):St:=({ fr:= [(0,.lst false (.t3 a0)),(1,.lst false (.t3 a1)),(4,B Ah),(12,I (a0.length:Int)),(13,I Ba)],ob:= [],base:=0 } :St)
def Akc(a0:(List Int))(a1:(List Int))(K:Ex→St→Prop):Nat×(Bool×Int)→Prop:=fun o=>Cr o.1 [K .ret (Afx a0 a1 o.2.1 o.2.2),K (.exit 0) (Afx a0 a1 o.2.1 o.2.2)]
def F7{A:Type}(an:An A)(L:Nat)(a0:(List Int))(a1:(List Int))(rec:Bool→Int→A)(out:Nat×(Bool×Int)→A)(Ah:Bool)(Ba:Int):A:=
 (an.cn (decide (Ba < (a0.length:Int)))
 (an.gd ((0:Int)≤Ba)
 (an.gd (Ba < ((a0.length:Nat):Int))
 (an.gd ((0:Int)≤Ba)
 (an.gd (Ba < ((a1.length:Nat):Int))
 (an.cn ((a0.getD (Int.toNat Ba) default) != (a1.getD (Int.toNat Ba) default))
 (an.lf out (0,(false,Ba)))
 (rec Ah (F9 (Ba+1))))))))
 (an.lf out (1,(Ah,Ba))))
def Ej(L:Nat)(a0:(List Int))(a1:(List Int)):Nat→Bool→Int→Option (Nat×(Bool×Int))
 |0,_,_=>none
 |n+1,Ah,Ba=>F7 (Bq _) L a0 a1 (Ej L a0 a1 n) some Ah Ba
theorem A9m(L:Nat)(a0:(List Int))(a1:(List Int))(g:Bool→Int→Option (Nat×(Bool×Int)))(Q:Nat×(Bool×Int)→Prop)(Ah:Bool)(Ba:Int):F7 Bh L a0 a1 (fun Ah Ba=>ob (g Ah Ba) Q) Q Ah Ba=ob (F7 (Bq _) L a0 a1 g some Ah Ba) Q:=by
 unfold F7
 dsimp only [Bh,Bq]
 try simp only [y1,y2,y3,y4,y5 Q,y6,y7,y8 Q,y9,z1,z2,z3,z4]
theorem A83(L:Nat)(a0:(List Int))(a1:(List Int))(n:Nat)(Ah:Bool)(Ba:Int)(K:Ex→St→Prop):Bl (EV (A1c L) L 9 A1u.r.r.r.r.l.r.r.l.l) [0,1,4,12,13] [] n (Afx a0 a1 Ah Ba) K=ob (Ej L a0 a1 n Ah Ba) (fun o=>Akc a0 a1 K o):=by
 induction n generalizing Ah Ba with
 |zero=>rfl
 |succ n ih=>
  refine Eq.trans (b:=F7 Bh L a0 a1 (fun Ah Ba=>Bl (EV (A1c L) L 9 A1u.r.r.r.r.l.r.r.l.l) [0,1,4,12,13] [] n (Afx a0 a1 Ah Ba) K) (Akc a0 a1 K) Ah Ba) (by kernel_rfl) ?_
  simp only [ih]
  exact A9m L a0 a1 (Ej L a0 a1 n) (Akc a0 a1 K) Ah Ba
def A0o(L:Nat)(kk:PV→Prop):Ex→St→Prop:=(Ca 0 (Dl (EV (A1c L) L 9 A1u.r.r.r.r.r) (Dx Tryz.prog (RS Tryz.f206) kk)))
theorem Bhg(L:Nat)(a0:(List Int))(a1:(List Int))(kk:PV→Prop)(o1:Nat×(Bool×Int)):Akc a0 a1 (A0o L kk) o1=
 (Cr o1.1 [(ob (some o1.2.1) (fun(x:Bool)=>kk (B x))),
 (ob (some true) (fun(x:Bool)=>kk (B x)))]):=by kernel_rfl
def Nr{A:Type}(an:An A)(L:Nat)(a0:(List Int))(a1:(List Int))(out:Bool→A):A:=
 (an.cn ((a0.length:Int) != (a1.length:Int))
 (an.lf out false)
 (an.bd (Ej L a0 a1 L false 0) fun o1=>
 (an.sl o1.1 [(an.lf out o1.2.1),
 (an.lf out true)])))
def Ds(L:Nat)(a0:(List Int))(a1:(List Int)):Option Bool:=Nr (Bq _) L a0 a1 some
theorem Bsg(L:Nat)(a0:(List Int))(a1:(List Int))(kk:PV→Prop):EW (A1c L) L 9 (RS Tryz.f206) A1u [.lst false (.t3 a0),.lst false (.t3 a1)] kk=ob (Ds L a0 a1) (fun(x:Bool)=>kk (B x)):=by
 refine Eq.trans (b:=Nr Bh L a0 a1 (fun(x:Bool)=>kk (B x))) ?_ ?_
 ·refine Eq.trans (b:=(br ((a0.length:Int) != (a1.length:Int))
 (ob (some false) (fun(x:Bool)=>kk (B x)))
 (Bl (EV (A1c L) L 9 A1u.r.r.r.r.l.r.r.l.l) [0,1,4,12,13] [] L (Afx a0 a1 false 0) (A0o L kk)))) (by kernel_rfl) ?_
  unfold Nr
  dsimp only [Bh]
  simp only [A83,Bhg]
 generalize (fun(x:Bool)=>kk (B x))=Q
 unfold Ds Nr
 dsimp only [Bh,Bq]
 try simp only [y1,y2,y3,y4,y5 Q,y6,y7,y8 Q,y9,z1,z2,z3,z4]
theorem Bnm(L:Nat)(a0:(List Int))(a1:(List Int))(r:Bool)(h:Ds L a0 a1=some r):Bc Tryz.prog 206 [.lst false (.t3 a0),.lst false (.t3 a1)] (B r):=
 hE Cg (Bug L) mixed Tryz.func206 (by kernel_rfl:C4 Tryz.prog inl Tryz.f206=some A1u) (er:=fun(x:Bool)=>B x) (by kernel_rfl) (Bsg L a0 a1) h
noncomputable def Bl5:EC:=(C4 Tryz.prog inl Tryz.f152).getD .stop
def Bkw(L:Nat):Bi:=(Cp 206 (A2 (fun(x:Bool)=>B x) cl3 cl3 (Ds L)) Kg)
theorem Btx(L:Nat):Bs Tryz.prog (Bkw L):=(Ad (a2 _ (Bnm L)) (Az Tryz.prog))
def Zk{A:Type}(an:An A)(L:Nat)(a0:Bo)(a1:Bo)(out:Bool→A):A:=
 (an.jp (bif (a0.Op == a1.Op) then (a0.A == a1.A)
 else false) (fun j=>(an.cn (a0.Op == a1.Op)
 (an.ap j (a0.A == a1.A))
 (an.ap j false))) (fun b1=>
 (an.jp (bif b1 then (a0.B == a1.B)
 else false) (fun j=>(an.cn b1
 (an.ap j (a0.B == a1.B))
 (an.ap j false))) (fun b2=>
 (an.jp (bif b2 then (a0.N == a1.N)
 else false) (fun j=>(an.cn b2
 (an.ap j (a0.N == a1.N))
 (an.ap j false))) (fun b3=>
 (an.jb (bif b3 then (Option.bind (Ds L a0.Values a1.Values) fun r5=>
 (some r5))
 else (some false)) (fun j=>(an.cn b3
 (an.bd (Ds L a0.Values a1.Values) fun r6=>
 (an.lf j r6))
 (an.lf j false))) (fun b4=>
 (an.jb (bif b4 then (Option.bind (Ds L a0.Weights a1.Weights) fun r8=>
 (some r8))
 else (some false)) (fun j=>(an.cn b4
 (an.bd (Ds L a0.Weights a1.Weights) fun r9=>
 (an.lf j r9))
 (an.lf j false))) (fun b7=>
 (an.lf out b7)))))))))))
def K0(L:Nat)(a0:Bo)(a1:Bo):Option Bool:=Zk (Bq _) L a0 a1 some
theorem Brx(L:Nat)(a0:Bo)(a1:Bo)(kk:PV→Prop):EW (Bkw L) L 9 (RS Tryz.f152) Bl5 [.agg (C9 a0),.agg (C9 a1)] kk=ob (K0 L a0 a1) (fun(x:Bool)=>kk (B x)):=by
 refine Eq.trans (b:=Zk Bh L a0 a1 (fun(x:Bool)=>kk (B x))) (by kernel_rfl) ?_
 generalize (fun(x:Bool)=>kk (B x))=Q
 unfold K0 Zk
 dsimp only [Bh,Bq]
 try simp only [y1,y2,y3,y4,y5 Q,y6,y7,y8 Q,y9,z1,z2,z3,z4]
theorem Bm4(L:Nat)(a0:Bo)(a1:Bo)(r:Bool)(h:K0 L a0 a1=some r):Bc Tryz.prog 152 [.agg (C9 a0),.agg (C9 a1)] (B r):=
 hE Cg (Btx L) mixed Tryz.func152 (by kernel_rfl:C4 Tryz.prog inl Tryz.f152=some Bl5) (er:=fun(x:Bool)=>B x) (by kernel_rfl) (Brx L a0 a1) h
noncomputable def c73:EC:=(C4 Tryz.prog inl Tryz.f73).getD .stop
def O73(L:Nat):Bi:=(Cp 151 (A2 (fun(x:Bool)=>B x) Bm Bm (K1 L)) (Cp 152 (A2 (fun(x:Bool)=>B x) Ei Ei (K0 L)) Kg))
theorem s73(L:Nat):Bs Tryz.prog (O73 L):=(Ad (a2 _ (Bm3 L)) (Ad (a2 _ (Bm4 L)) (Az Tryz.prog)))
def Zm{A:Type}(an:An A)(L:Nat)(a0:Ab)(a1:Bn)(out:Bool→A):A:=
 (an.jp (bif a1.u_name then true
 else (a0.Name.toList == (⟨#[]⟩:ByteArray).toList)) (fun j=>(an.cn a1.u_name
 (an.ap j true)
 (an.ap j (a0.Name.toList == (⟨#[]⟩:ByteArray).toList)))) (fun b1=>
 (an.jp (bif b1 then (bif a1.u_of then true
 else (a0.Of.toList == (⟨#[]⟩:ByteArray).toList))
 else false) (fun j=>(an.cn b1
 (an.cn a1.u_of
 (an.ap j true)
 (an.ap j (a0.Of.toList == (⟨#[]⟩:ByteArray).toList)))
 (an.ap j false))) (fun b2=>
 (an.cn b2
 (an.cn a1.u_e
 (an.nj (an.cn a1.u_f
 (an.nj (an.jp (bif a1.u_args then true
 else ((a0.Args.length:Int) == 0)) (fun j=>(an.cn a1.u_args
 (an.ap j true)
 (an.ap j ((a0.Args.length:Int) == 0)))) (fun b3=>
 (an.cn b3
 (an.cn a1.u_dist
 (an.nj (an.jp (bif a1.u_flag then true
 else (!a0.Flag)) (fun j=>(an.cn a1.u_flag
 (an.ap j true)
 (an.ap j (!a0.Flag)))) (fun b4=>
 (an.jp (bif b4 then (bif a1.u_body then true
 else ((a0.Body.length:Int) == 0))
 else false) (fun j=>(an.cn b4
 (an.cn a1.u_body
 (an.ap j true)
 (an.ap j ((a0.Body.length:Int) == 0)))
 (an.ap j false))) (fun b5=>
 (an.jp (bif b5 then (bif a1.u_other then true
 else ((a0.Else.length:Int) == 0))
 else false) (fun j=>(an.cn b5
 (an.cn a1.u_other
 (an.ap j true)
 (an.ap j ((a0.Else.length:Int) == 0)))
 (an.ap j false))) (fun b6=>
 (an.lf out b6))))))))
 (an.bd (K0 L a0.Dist (⟨0,0,0,0,[],[]⟩:Bo)) fun r7=>
 (an.nj (an.jp (bif r7 then (bif a1.u_flag then true
 else (!a0.Flag))
 else false) (fun j=>(an.cn r7
 (an.cn a1.u_flag
 (an.ap j true)
 (an.ap j (!a0.Flag)))
 (an.ap j false))) (fun b8=>
 (an.jp (bif b8 then (bif a1.u_body then true
 else ((a0.Body.length:Int) == 0))
 else false) (fun j=>(an.cn b8
 (an.cn a1.u_body
 (an.ap j true)
 (an.ap j ((a0.Body.length:Int) == 0)))
 (an.ap j false))) (fun b9=>
 (an.jp (bif b9 then (bif a1.u_other then true
 else ((a0.Else.length:Int) == 0))
 else false) (fun j=>(an.cn b9
 (an.cn a1.u_other
 (an.ap j true)
 (an.ap j ((a0.Else.length:Int) == 0)))
 (an.ap j false))) (fun b10=>
 (an.lf out b10))))))))))
 (an.nj (an.nj (an.nj (an.nj (an.lf out false)))))))))
 (an.bd (K1 L (Aa.cp a0.F) (Aa.mk 0 (⟨#[]⟩:ByteArray) 0 [])) fun r11=>
 (an.nj (an.jp (bif r11 then (bif a1.u_args then true
 else ((a0.Args.length:Int) == 0))
 else false) (fun j=>(an.cn r11
 (an.cn a1.u_args
 (an.ap j true)
 (an.ap j ((a0.Args.length:Int) == 0)))
 (an.ap j false))) (fun b12=>
 (an.cn b12
 (an.cn a1.u_dist
 (an.nj (an.jp (bif a1.u_flag then true
 else (!a0.Flag)) (fun j=>(an.cn a1.u_flag
 (an.ap j true)
 (an.ap j (!a0.Flag)))) (fun b13=>
 (an.jp (bif b13 then (bif a1.u_body then true
 else ((a0.Body.length:Int) == 0))
 else false) (fun j=>(an.cn b13
 (an.cn a1.u_body
 (an.ap j true)
 (an.ap j ((a0.Body.length:Int) == 0)))
 (an.ap j false))) (fun b14=>
 (an.jp (bif b14 then (bif a1.u_other then true
 else ((a0.Else.length:Int) == 0))
 else false) (fun j=>(an.cn b14
 (an.cn a1.u_other
 (an.ap j true)
 (an.ap j ((a0.Else.length:Int) == 0)))
 (an.ap j false))) (fun b15=>
 (an.lf out b15))))))))
 (an.bd (K0 L a0.Dist (⟨0,0,0,0,[],[]⟩:Bo)) fun r16=>
 (an.nj (an.jp (bif r16 then (bif a1.u_flag then true
 else (!a0.Flag))
 else false) (fun j=>(an.cn r16
 (an.cn a1.u_flag
 (an.ap j true)
 (an.ap j (!a0.Flag)))
 (an.ap j false))) (fun b17=>
 (an.jp (bif b17 then (bif a1.u_body then true
 else ((a0.Body.length:Int) == 0))
 else false) (fun j=>(an.cn b17
 (an.cn a1.u_body
 (an.ap j true)
 (an.ap j ((a0.Body.length:Int) == 0)))
 (an.ap j false))) (fun b18=>
 (an.jp (bif b18 then (bif a1.u_other then true
 else ((a0.Else.length:Int) == 0))
 else false) (fun j=>(an.cn b18
 (an.cn a1.u_other
 (an.ap j true)
 (an.ap j ((a0.Else.length:Int) == 0)))
 (an.ap j false))) (fun b19=>
 (an.lf out b19))))))))))
 (an.nj (an.nj (an.nj (an.nj (an.lf out false))))))))))))
 (an.bd (K1 L (Aa.cp a0.E) (Aa.mk 0 (⟨#[]⟩:ByteArray) 0 [])) fun r20=>
 (an.nj (an.cn r20
 (an.cn a1.u_f
 (an.nj (an.jp (bif a1.u_args then true
 else ((a0.Args.length:Int) == 0)) (fun j=>(an.cn a1.u_args
 (an.ap j true)
 (an.ap j ((a0.Args.length:Int) == 0)))) (fun b21=>
 (an.cn b21
 (an.cn a1.u_dist
 (an.nj (an.jp (bif a1.u_flag then true
 else (!a0.Flag)) (fun j=>(an.cn a1.u_flag
 (an.ap j true)
 (an.ap j (!a0.Flag)))) (fun b22=>
 (an.jp (bif b22 then (bif a1.u_body then true
 else ((a0.Body.length:Int) == 0))
 else false) (fun j=>(an.cn b22
 (an.cn a1.u_body
 (an.ap j true)
 (an.ap j ((a0.Body.length:Int) == 0)))
 (an.ap j false))) (fun b23=>
 (an.jp (bif b23 then (bif a1.u_other then true
 else ((a0.Else.length:Int) == 0))
 else false) (fun j=>(an.cn b23
 (an.cn a1.u_other
 (an.ap j true)
 (an.ap j ((a0.Else.length:Int) == 0)))
 (an.ap j false))) (fun b24=>
 (an.lf out b24))))))))
 (an.bd (K0 L a0.Dist (⟨0,0,0,0,[],[]⟩:Bo)) fun r25=>
 (an.nj (an.jp (bif r25 then (bif a1.u_flag then true
 else (!a0.Flag))
 else false) (fun j=>(an.cn r25
 (an.cn a1.u_flag
 (an.ap j true)
 (an.ap j (!a0.Flag)))
 (an.ap j false))) (fun b26=>
 (an.jp (bif b26 then (bif a1.u_body then true
 else ((a0.Body.length:Int) == 0))
 else false) (fun j=>(an.cn b26
 (an.cn a1.u_body
 (an.ap j true)
 (an.ap j ((a0.Body.length:Int) == 0)))
 (an.ap j false))) (fun b27=>
 (an.jp (bif b27 then (bif a1.u_other then true
 else ((a0.Else.length:Int) == 0))
 else false) (fun j=>(an.cn b27
 (an.cn a1.u_other
 (an.ap j true)
 (an.ap j ((a0.Else.length:Int) == 0)))
 (an.ap j false))) (fun b28=>
 (an.lf out b28))))))))))
 (an.nj (an.nj (an.nj (an.nj (an.lf out false)))))))))
 (an.bd (K1 L (Aa.cp a0.F) (Aa.mk 0 (⟨#[]⟩:ByteArray) 0 [])) fun r29=>
 (an.nj (an.jp (bif r29 then (bif a1.u_args then true
 else ((a0.Args.length:Int) == 0))
 else false) (fun j=>(an.cn r29
 (an.cn a1.u_args
 (an.ap j true)
 (an.ap j ((a0.Args.length:Int) == 0)))
 (an.ap j false))) (fun b30=>
 (an.cn b30
 (an.cn a1.u_dist
 (an.nj (an.jp (bif a1.u_flag then true
 else (!a0.Flag)) (fun j=>(an.cn a1.u_flag
 (an.ap j true)
 (an.ap j (!a0.Flag)))) (fun b31=>
 (an.jp (bif b31 then (bif a1.u_body then true
 else ((a0.Body.length:Int) == 0))
 else false) (fun j=>(an.cn b31
 (an.cn a1.u_body
 (an.ap j true)
 (an.ap j ((a0.Body.length:Int) == 0)))
 (an.ap j false))) (fun b32=>
 (an.jp (bif b32 then (bif a1.u_other then true
 else ((a0.Else.length:Int) == 0))
 else false) (fun j=>(an.cn b32
 (an.cn a1.u_other
 (an.ap j true)
 (an.ap j ((a0.Else.length:Int) == 0)))
 (an.ap j false))) (fun b33=>
 (an.lf out b33))))))))
 (an.bd (K0 L a0.Dist (⟨0,0,0,0,[],[]⟩:Bo)) fun r34=>
 (an.nj (an.jp (bif r34 then (bif a1.u_flag then true
 else (!a0.Flag))
 else false) (fun j=>(an.cn r34
 (an.cn a1.u_flag
 (an.ap j true)
 (an.ap j (!a0.Flag)))
 (an.ap j false))) (fun b35=>
 (an.jp (bif b35 then (bif a1.u_body then true
 else ((a0.Body.length:Int) == 0))
 else false) (fun j=>(an.cn b35
 (an.cn a1.u_body
 (an.ap j true)
 (an.ap j ((a0.Body.length:Int) == 0)))
 (an.ap j false))) (fun b36=>
 (an.jp (bif b36 then (bif a1.u_other then true
 else ((a0.Else.length:Int) == 0))
 else false) (fun j=>(an.cn b36
 (an.cn a1.u_other
 (an.ap j true)
 (an.ap j ((a0.Else.length:Int) == 0)))
 (an.ap j false))) (fun b37=>
 (an.lf out b37))))))))))
 (an.nj (an.nj (an.nj (an.nj (an.lf out false)))))))))))
 (an.nj (an.nj (an.nj (an.nj (an.nj (an.nj (an.lf out false)))))))))))
 (an.nj (an.nj (an.nj (an.nj (an.nj (an.nj (an.nj (an.lf out false)))))))))))))
def M6(L:Nat)(a0:Ab)(a1:Bn):Option Bool:=Zm (Bq _) L a0 a1 some
theorem e73(L:Nat)(a0:Ab)(a1:Bn)(kk:PV→Prop):EW (O73 L) L 9 (RS Tryz.f73) c73 [.agg (B2 a0),.agg (D0 a1)] kk=ob (M6 L a0 a1) (fun(x:Bool)=>kk (B x)):=by
 refine Eq.trans (b:=Zm Bh L a0 a1 (fun(x:Bool)=>kk (B x))) (by kernel_rfl) ?_
 generalize (fun(x:Bool)=>kk (B x))=Q
 unfold M6 Zm
 dsimp only [Bh,Bq]
 try simp only [y1,y2,y3,y4,y5 Q,y6,y7,y8 Q,y9,z1,z2,z3,z4]
theorem h73(L:Nat)(a0:Ab)(a1:Bn)(r:Bool)(h:M6 L a0 a1=some r):Bc Tryz.prog 73 [.agg (B2 a0),.agg (D0 a1)] (B r):=
 hE Cg (s73 L) mixed Tryz.func73 (by kernel_rfl:C4 Tryz.prog inl Tryz.f73=some c73) (er:=fun(x:Bool)=>B x) (by kernel_rfl) (e73 L a0 a1) h
noncomputable def Bl1:EC:=(C4 Tryz.prog inl Tryz.f101).getD .stop
def Bks(L:Nat):Bi:=Kg
theorem Bto(L:Nat):Bs Tryz.prog (Bks L):=(Az Tryz.prog)
def Uw{A:Type}(an:An A)(L:Nat)(a0:Int)(out:Bool→A):A:=
 (an.jp (bif (decide (a0≥97)) then (decide (a0≤122))
 else false) (fun j=>(an.cn (decide (a0≥97))
 (an.ap j (decide (a0≤122)))
 (an.ap j false))) (fun b1=>
 (an.lf out b1)))
def Gk(L:Nat)(a0:Int):Option Bool:=Uw (Bq _) L a0 some
theorem Bro(L:Nat)(a0:Int)(kk:PV→Prop):EW (Bks L) L 9 (RS Tryz.f101) Bl1 [V .u8 a0] kk=ob (Gk L a0) (fun(x:Bool)=>kk (B x)):=by
 refine Eq.trans (b:=Uw Bh L a0 (fun(x:Bool)=>kk (B x))) (by kernel_rfl) ?_
 generalize (fun(x:Bool)=>kk (B x))=Q
 unfold Gk Uw
 dsimp only [Bh,Bq]
 try simp only [y1,y2,y3,y4,y5 Q,y6,y7,y8 Q,y9,z1,z2,z3,z4]
theorem Bmx(L:Nat)(a0:Int)(r:Bool)(h:Gk L a0=some r):Bc Tryz.prog 101 [V .u8 a0] (B r):=
 hE Cg (Bto L) mixed Tryz.func101 (by kernel_rfl:C4 Tryz.prog inl Tryz.f101=some Bl1) (er:=fun(x:Bool)=>B x) (by kernel_rfl) (Bro L a0) h
noncomputable def Bl2:EC:=(C4 Tryz.prog inl Tryz.f102).getD .stop
def Bkt(L:Nat):Bi:=Kg
theorem Btp(L:Nat):Bs Tryz.prog (Bkt L):=(Az Tryz.prog)
def Tu{A:Type}(an:An A)(L:Nat)(a0:ByteArray)(out:Bool→A):A:=
 (an.cn (a0.toList == (⟨#[97,100,100]⟩:ByteArray).toList)
 (an.cn (a0.toList == (⟨#[97,100,100]⟩:ByteArray).toList)
 (an.lf out true)
 (an.lf out false))
 (an.cn (a0.toList == (⟨#[97,102,116,101,114]⟩:ByteArray).toList)
 (an.cn (a0.toList == (⟨#[97,102,116,101,114]⟩:ByteArray).toList)
 (an.lf out true)
 (an.lf out false))
 (an.cn (a0.toList == (⟨#[97,110,100]⟩:ByteArray).toList)
 (an.cn (a0.toList == (⟨#[97,110,100]⟩:ByteArray).toList)
 (an.lf out true)
 (an.lf out false))
 (an.cn (a0.toList == (⟨#[97,116]⟩:ByteArray).toList)
 (an.cn (a0.toList == (⟨#[97,116]⟩:ByteArray).toList)
 (an.lf out true)
 (an.lf out false))
 (an.cn (a0.toList == (⟨#[98,101,108,116]⟩:ByteArray).toList)
 (an.cn (a0.toList == (⟨#[98,101,108,116]⟩:ByteArray).toList)
 (an.lf out true)
 (an.lf out false))
 (an.cn (a0.toList == (⟨#[98,111,111,108]⟩:ByteArray).toList)
 (an.cn (a0.toList == (⟨#[98,111,111,108]⟩:ByteArray).toList)
 (an.lf out true)
 (an.lf out false))
 (an.cn (a0.toList == (⟨#[99,111,110,115,101,114,118,101]⟩:ByteArray).toList)
 (an.cn (a0.toList == (⟨#[99,111,110,115,101,114,118,101]⟩:ByteArray).toList)
 (an.lf out true)
 (an.lf out false))
 (an.cn (a0.toList == (⟨#[99,111,110,115,116]⟩:ByteArray).toList)
 (an.cn (a0.toList == (⟨#[99,111,110,115,116]⟩:ByteArray).toList)
 (an.lf out true)
 (an.lf out false))
 (an.cn (a0.toList == (⟨#[99,111,117,110,116]⟩:ByteArray).toList)
 (an.cn (a0.toList == (⟨#[99,111,117,110,116]⟩:ByteArray).toList)
 (an.lf out true)
 (an.lf out false))
 (an.cn (a0.toList == (⟨#[99,121,99,108,101]⟩:ByteArray).toList)
 (an.cn (a0.toList == (⟨#[99,121,99,108,101]⟩:ByteArray).toList)
 (an.lf out true)
 (an.lf out false))
 (an.cn (a0.toList == (⟨#[100,111,119,110]⟩:ByteArray).toList)
 (an.cn (a0.toList == (⟨#[100,111,119,110]⟩:ByteArray).toList)
 (an.lf out true)
 (an.lf out false))
 (an.cn (a0.toList == (⟨#[100,114,97,119]⟩:ByteArray).toList)
 (an.cn (a0.toList == (⟨#[100,114,97,119]⟩:ByteArray).toList)
 (an.lf out true)
 (an.lf out false))
 (an.cn (a0.toList == (⟨#[100,117,114]⟩:ByteArray).toList)
 (an.cn (a0.toList == (⟨#[100,117,114]⟩:ByteArray).toList)
 (an.lf out true)
 (an.lf out false))
 (an.cn (a0.toList == (⟨#[101,108,115,101]⟩:ByteArray).toList)
 (an.cn (a0.toList == (⟨#[101,108,115,101]⟩:ByteArray).toList)
 (an.lf out true)
 (an.lf out false))
 (an.cn (a0.toList == (⟨#[101,110,100]⟩:ByteArray).toList)
 (an.cn (a0.toList == (⟨#[101,110,100]⟩:ByteArray).toList)
 (an.lf out true)
 (an.lf out false))
 (an.cn (a0.toList == (⟨#[101,118,101,114,121]⟩:ByteArray).toList)
 (an.cn (a0.toList == (⟨#[101,118,101,114,121]⟩:ByteArray).toList)
 (an.lf out true)
 (an.lf out false))
 (an.cn (a0.toList == (⟨#[102,97,108,115,101]⟩:ByteArray).toList)
 (an.cn (a0.toList == (⟨#[102,97,108,115,101]⟩:ByteArray).toList)
 (an.lf out true)
 (an.lf out false))
 (an.cn (a0.toList == (⟨#[102,97,117,108,116]⟩:ByteArray).toList)
 (an.cn (a0.toList == (⟨#[102,97,117,108,116]⟩:ByteArray).toList)
 (an.lf out true)
 (an.lf out false))
 (an.cn (a0.toList == (⟨#[102,105,102,111]⟩:ByteArray).toList)
 (an.cn (a0.toList == (⟨#[102,105,102,111]⟩:ByteArray).toList)
 (an.lf out true)
 (an.lf out false))
 (an.cn (a0.toList == (⟨#[102,114,101,101]⟩:ByteArray).toList)
 (an.cn (a0.toList == (⟨#[102,114,101,101]⟩:ByteArray).toList)
 (an.lf out true)
 (an.lf out false))
 (an.cn (a0.toList == (⟨#[102,114,111,109]⟩:ByteArray).toList)
 (an.cn (a0.toList == (⟨#[102,114,111,109]⟩:ByteArray).toList)
 (an.lf out true)
 (an.lf out false))
 (an.cn (a0.toList == (⟨#[103,101,111,109]⟩:ByteArray).toList)
 (an.cn (a0.toList == (⟨#[103,101,111,109]⟩:ByteArray).toList)
 (an.lf out true)
 (an.lf out false))
 (an.cn (a0.toList == (⟨#[103,101,116]⟩:ByteArray).toList)
 (an.cn (a0.toList == (⟨#[103,101,116]⟩:ByteArray).toList)
 (an.lf out true)
 (an.lf out false))
 (an.cn (a0.toList == (⟨#[104,111,108,100]⟩:ByteArray).toList)
 (an.cn (a0.toList == (⟨#[104,111,108,100]⟩:ByteArray).toList)
 (an.lf out true)
 (an.lf out false))
 (an.cn (a0.toList == (⟨#[105,102]⟩:ByteArray).toList)
 (an.cn (a0.toList == (⟨#[105,102]⟩:ByteArray).toList)
 (an.lf out true)
 (an.lf out false))
 (an.cn (a0.toList == (⟨#[105,110,116]⟩:ByteArray).toList)
 (an.cn (a0.toList == (⟨#[105,110,116]⟩:ByteArray).toList)
 (an.lf out true)
 (an.lf out false))
 (an.cn (a0.toList == (⟨#[105,110,116,111]⟩:ByteArray).toList)
 (an.cn (a0.toList == (⟨#[105,110,116,111]⟩:ByteArray).toList)
 (an.lf out true)
 (an.lf out false))
 (an.cn (a0.toList == (⟨#[108,101,97,115,116]⟩:ByteArray).toList)
 (an.cn (a0.toList == (⟨#[108,101,97,115,116]⟩:ByteArray).toList)
 (an.lf out true)
 (an.lf out false))
 (an.cn (a0.toList == (⟨#[108,101,118,101,108]⟩:ByteArray).toList)
 (an.cn (a0.toList == (⟨#[108,101,118,101,108]⟩:ByteArray).toList)
 (an.lf out true)
 (an.lf out false))
 (an.cn (a0.toList == (⟨#[108,105,102,111]⟩:ByteArray).toList)
 (an.cn (a0.toList == (⟨#[108,105,102,111]⟩:ByteArray).toList)
 (an.lf out true)
 (an.lf out false))
 (an.cn (a0.toList == (⟨#[108,105,110,107]⟩:ByteArray).toList)
 (an.cn (a0.toList == (⟨#[108,105,110,107]⟩:ByteArray).toList)
 (an.lf out true)
 (an.lf out false))
 (an.cn (a0.toList == (⟨#[108,111,99,97,108]⟩:ByteArray).toList)
 (an.cn (a0.toList == (⟨#[108,111,99,97,108]⟩:ByteArray).toList)
 (an.lf out true)
 (an.lf out false))
 (an.cn (a0.toList == (⟨#[109,97,120]⟩:ByteArray).toList)
 (an.cn (a0.toList == (⟨#[109,97,120]⟩:ByteArray).toList)
 (an.lf out true)
 (an.lf out false))
 (an.cn (a0.toList == (⟨#[109,105,110]⟩:ByteArray).toList)
 (an.cn (a0.toList == (⟨#[109,105,110]⟩:ByteArray).toList)
 (an.lf out true)
 (an.lf out false))
 (an.cn (a0.toList == (⟨#[109,111,100,101,108]⟩:ByteArray).toList)
 (an.cn (a0.toList == (⟨#[109,111,100,101,108]⟩:ByteArray).toList)
 (an.lf out true)
 (an.lf out false))
 (an.cn (a0.toList == (⟨#[110,111,116]⟩:ByteArray).toList)
 (an.cn (a0.toList == (⟨#[110,111,116]⟩:ByteArray).toList)
 (an.lf out true)
 (an.lf out false))
 (an.cn (a0.toList == (⟨#[110,111,119]⟩:ByteArray).toList)
 (an.cn (a0.toList == (⟨#[110,111,119]⟩:ByteArray).toList)
 (an.lf out true)
 (an.lf out false))
 (an.cn (a0.toList == (⟨#[111,98,115,101,114,118,101]⟩:ByteArray).toList)
 (an.cn (a0.toList == (⟨#[111,98,115,101,114,118,101]⟩:ByteArray).toList)
 (an.lf out true)
 (an.lf out false))
 (an.cn (a0.toList == (⟨#[111,114]⟩:ByteArray).toList)
 (an.cn (a0.toList == (⟨#[111,114]⟩:ByteArray).toList)
 (an.lf out true)
 (an.lf out false))
 (an.cn (a0.toList == (⟨#[112,97,114,97,109]⟩:ByteArray).toList)
 (an.cn (a0.toList == (⟨#[112,97,114,97,109]⟩:ByteArray).toList)
 (an.lf out true)
 (an.lf out false))
 (an.cn (a0.toList == (⟨#[112,114,101,101,109,112,116]⟩:ByteArray).toList)
 (an.cn (a0.toList == (⟨#[112,114,101,101,109,112,116]⟩:ByteArray).toList)
 (an.lf out true)
 (an.lf out false))
 (an.cn (a0.toList == (⟨#[112,114,105,111]⟩:ByteArray).toList)
 (an.cn (a0.toList == (⟨#[112,114,105,111]⟩:ByteArray).toList)
 (an.lf out true)
 (an.lf out false))
 (an.cn (a0.toList == (⟨#[112,117,116]⟩:ByteArray).toList)
 (an.cn (a0.toList == (⟨#[112,117,116]⟩:ByteArray).toList)
 (an.lf out true)
 (an.lf out false))
 (an.cn (a0.toList == (⟨#[113,117,101,117,101]⟩:ByteArray).toList)
 (an.cn (a0.toList == (⟨#[113,117,101,117,101]⟩:ByteArray).toList)
 (an.lf out true)
 (an.lf out false))
 (an.cn (a0.toList == (⟨#[114,101,108,101,97,115,101]⟩:ByteArray).toList)
 (an.cn (a0.toList == (⟨#[114,101,108,101,97,115,101]⟩:ByteArray).toList)
 (an.lf out true)
 (an.lf out false))
 (an.cn (a0.toList == (⟨#[114,101,115,111,117,114,99,101]⟩:ByteArray).toList)
 (an.cn (a0.toList == (⟨#[114,101,115,111,117,114,99,101]⟩:ByteArray).toList)
 (an.lf out true)
 (an.lf out false))
 (an.cn (a0.toList == (⟨#[114,105,100,101]⟩:ByteArray).toList)
 (an.cn (a0.toList == (⟨#[114,105,100,101]⟩:ByteArray).toList)
 (an.lf out true)
 (an.lf out false))
 (an.cn (a0.toList == (⟨#[114,111,117,116,105,110,101]⟩:ByteArray).toList)
 (an.cn (a0.toList == (⟨#[114,111,117,116,105,110,101]⟩:ByteArray).toList)
 (an.lf out true)
 (an.lf out false))
 (an.cn (a0.toList == (⟨#[115,101,105,122,101]⟩:ByteArray).toList)
 (an.cn (a0.toList == (⟨#[115,101,105,122,101]⟩:ByteArray).toList)
 (an.lf out true)
 (an.lf out false))
 (an.cn (a0.toList == (⟨#[115,101,110,100]⟩:ByteArray).toList)
 (an.cn (a0.toList == (⟨#[115,101,110,100]⟩:ByteArray).toList)
 (an.lf out true)
 (an.lf out false))
 (an.cn (a0.toList == (⟨#[115,101,116]⟩:ByteArray).toList)
 (an.cn (a0.toList == (⟨#[115,101,116]⟩:ByteArray).toList)
 (an.lf out true)
 (an.lf out false))
 (an.cn (a0.toList == (⟨#[115,104,105,102,116]⟩:ByteArray).toList)
 (an.cn (a0.toList == (⟨#[115,104,105,102,116]⟩:ByteArray).toList)
 (an.lf out true)
 (an.lf out false))
 (an.cn (a0.toList == (⟨#[115,105,103,110,97,108]⟩:ByteArray).toList)
 (an.cn (a0.toList == (⟨#[115,105,103,110,97,108]⟩:ByteArray).toList)
 (an.lf out true)
 (an.lf out false))
 (an.cn (a0.toList == (⟨#[115,105,116,101]⟩:ByteArray).toList)
 (an.cn (a0.toList == (⟨#[115,105,116,101]⟩:ByteArray).toList)
 (an.lf out true)
 (an.lf out false))
 (an.cn (a0.toList == (⟨#[115,105,122,101]⟩:ByteArray).toList)
 (an.cn (a0.toList == (⟨#[115,105,122,101]⟩:ByteArray).toList)
 (an.lf out true)
 (an.lf out false))
 (an.cn (a0.toList == (⟨#[115,112,97,119,110]⟩:ByteArray).toList)
 (an.cn (a0.toList == (⟨#[115,112,97,119,110]⟩:ByteArray).toList)
 (an.lf out true)
 (an.lf out false))
 (an.cn (a0.toList == (⟨#[115,116,97,114,116]⟩:ByteArray).toList)
 (an.cn (a0.toList == (⟨#[115,116,97,114,116]⟩:ByteArray).toList)
 (an.lf out true)
 (an.lf out false))
 (an.cn (a0.toList == (⟨#[115,116,111,112]⟩:ByteArray).toList)
 (an.cn (a0.toList == (⟨#[115,116,111,112]⟩:ByteArray).toList)
 (an.lf out true)
 (an.lf out false))
 (an.cn (a0.toList == (⟨#[115,116,111,114,101]⟩:ByteArray).toList)
 (an.cn (a0.toList == (⟨#[115,116,111,114,101]⟩:ByteArray).toList)
 (an.lf out true)
 (an.lf out false))
 (an.cn (a0.toList == (⟨#[115,116,114,101,97,109]⟩:ByteArray).toList)
 (an.cn (a0.toList == (⟨#[115,116,114,101,97,109]⟩:ByteArray).toList)
 (an.lf out true)
 (an.lf out false))
 (an.cn (a0.toList == (⟨#[115,117,109]⟩:ByteArray).toList)
 (an.cn (a0.toList == (⟨#[115,117,109]⟩:ByteArray).toList)
 (an.lf out true)
 (an.lf out false))
 (an.cn (a0.toList == (⟨#[116,97,98,108,101]⟩:ByteArray).toList)
 (an.cn (a0.toList == (⟨#[116,97,98,108,101]⟩:ByteArray).toList)
 (an.lf out true)
 (an.lf out false))
 (an.cn (a0.toList == (⟨#[116,97,108,108,121]⟩:ByteArray).toList)
 (an.cn (a0.toList == (⟨#[116,97,108,108,121]⟩:ByteArray).toList)
 (an.lf out true)
 (an.lf out false))
 (an.cn (a0.toList == (⟨#[116,105,99,107,115]⟩:ByteArray).toList)
 (an.cn (a0.toList == (⟨#[116,105,99,107,115]⟩:ByteArray).toList)
 (an.lf out true)
 (an.lf out false))
 (an.cn (a0.toList == (⟨#[116,105,109,101]⟩:ByteArray).toList)
 (an.cn (a0.toList == (⟨#[116,105,109,101]⟩:ByteArray).toList)
 (an.lf out true)
 (an.lf out false))
 (an.cn (a0.toList == (⟨#[116,114,117,101]⟩:ByteArray).toList)
 (an.cn (a0.toList == (⟨#[116,114,117,101]⟩:ByteArray).toList)
 (an.lf out true)
 (an.lf out false))
 (an.cn (a0.toList == (⟨#[117,110,105,102,111,114,109]⟩:ByteArray).toList)
 (an.cn (a0.toList == (⟨#[117,110,105,102,111,114,109]⟩:ByteArray).toList)
 (an.lf out true)
 (an.lf out false))
 (an.cn (a0.toList == (⟨#[117,110,116,105,108]⟩:ByteArray).toList)
 (an.cn (a0.toList == (⟨#[117,110,116,105,108]⟩:ByteArray).toList)
 (an.lf out true)
 (an.lf out false))
 (an.cn (a0.toList == (⟨#[117,112]⟩:ByteArray).toList)
 (an.cn (a0.toList == (⟨#[117,112]⟩:ByteArray).toList)
 (an.lf out true)
 (an.lf out false))
 (an.cn (a0.toList == (⟨#[118,97,114]⟩:ByteArray).toList)
 (an.cn (a0.toList == (⟨#[118,97,114]⟩:ByteArray).toList)
 (an.lf out true)
 (an.lf out false))
 (an.cn (a0.toList == (⟨#[119,97,105,116]⟩:ByteArray).toList)
 (an.cn (a0.toList == (⟨#[119,97,105,116]⟩:ByteArray).toList)
 (an.lf out true)
 (an.lf out false))
 (an.cn (a0.toList == (⟨#[119,97,105,116,105,110,103]⟩:ByteArray).toList)
 (an.cn (a0.toList == (⟨#[119,97,105,116,105,110,103]⟩:ByteArray).toList)
 (an.lf out true)
 (an.lf out false))
 (an.cn (a0.toList == (⟨#[119,104,105,108,101]⟩:ByteArray).toList)
 (an.lf out true)
 (an.lf out false))))))))))))))))))))))))))))))))))))))))))))))))))))))))))))))))))))))))))
def Gu(L:Nat)(a0:ByteArray):Option Bool:=Tu (Bq _) L a0 some
theorem Brp(L:Nat)(a0:ByteArray)(kk:PV→Prop):EW (Bkt L) L 9 (RS Tryz.f102) Bl2 [S a0] kk=ob (Gu L a0) (fun(x:Bool)=>kk (B x)):=by
 refine Eq.trans (b:=Tu Bh L a0 (fun(x:Bool)=>kk (B x))) (by kernel_rfl) ?_
 generalize (fun(x:Bool)=>kk (B x))=Q
 unfold Gu Tu
 dsimp only [Bh,Bq]
 try simp only [y1,y2,y3,y4,y5 Q,y6,y7,y8 Q,y9,z1,z2,z3,z4]
theorem Bmy(L:Nat)(a0:ByteArray)(r:Bool)(h:Gu L a0=some r):Bc Tryz.prog 102 [S a0] (B r):=
 hE Cg (Btp L) mixed Tryz.func102 (by kernel_rfl:C4 Tryz.prog inl Tryz.f102=some Bl2) (er:=fun(x:Bool)=>B x) (by kernel_rfl) (Brp L a0) h
noncomputable def c58:EC:=(C4 Tryz.prog inl Tryz.f58).getD .stop
def O58(L:Nat):Bi:=(Cp 101 (A1 (fun(x:Bool)=>B x) (cI .u8) (Gk L)) (Cp 102 (A1 (fun(x:Bool)=>B x) cS (Gu L)) Kg))
theorem s58(L:Nat):Bs Tryz.prog (O58 L):=(Ad (a1 _ (Bmx L)) (Ad (a1 _ (Bmy L)) (Az Tryz.prog)))
def Ang(a0:ByteArray)(Ae:Int)(Aj:Int):St:=({ fr:= [(0,S a0),(2,I Ae),(23,I (a0.size:Int)),(24,I Aj)],ob:= [],base:=0 } :St)
def Arf(a0:ByteArray)(K:Ex→St→Prop):Nat×(Int×Int)→Prop:=fun o=>Cr o.1 [K .ret (Ang a0 o.2.1 o.2.2),K (.exit 0) (Ang a0 o.2.1 o.2.2)]
def Hy{A:Type}(an:An A)(L:Nat)(a0:ByteArray)(rec:Int→Int→A)(out:Nat×(Int×Int)→A)(Ae:Int)(Aj:Int):A:=
 (an.cn (decide (Aj < (a0.size:Int)))
 (an.cn ((if 0≤Aj then a0[Int.toNat Aj]? else none).isSome)
 (an.bd (Gk L (C6 (if 0≤Aj then a0[Int.toNat Aj]? else none))) fun r8=>
 (an.jp (bif (!r8) then (bif (decide ((C6 (if 0≤Aj then a0[Int.toNat Aj]? else none)) < 48)) then true
 else (decide ((C6 (if 0≤Aj then a0[Int.toNat Aj]? else none)) > 57)))
 else false) (fun j=>(an.cn (!r8)
 (an.cn (decide ((C6 (if 0≤Aj then a0[Int.toNat Aj]? else none)) < 48))
 (an.ap j true)
 (an.ap j (decide ((C6 (if 0≤Aj then a0[Int.toNat Aj]? else none)) > 57))))
 (an.ap j false))) (fun b9=>
 (an.jp (bif b9 then ((C6 (if 0≤Aj then a0[Int.toNat Aj]? else none)) != 95)
 else false) (fun j=>(an.cn b9
 (an.ap j ((C6 (if 0≤Aj then a0[Int.toNat Aj]? else none)) != 95))
 (an.ap j false))) (fun b10=>
 (an.cn b10
 (an.lf out (0,(3,Aj)))
 (rec Ae (F9 (Aj+1)))))))))
 an.fl)
 (an.lf out (1,(Ae,Aj))))
def H4(L:Nat)(a0:ByteArray):Nat→Int→Int→Option (Nat×(Int×Int))
 |0,_,_=>none
 |n+1,Ae,Aj=>Hy (Bq _) L a0 (H4 L a0 n) some Ae Aj
theorem Bf2(L:Nat)(a0:ByteArray)(g:Int→Int→Option (Nat×(Int×Int)))(Q:Nat×(Int×Int)→Prop)(Ae:Int)(Aj:Int):Hy Bh L a0 (fun Ae Aj=>ob (g Ae Aj) Q) Q Ae Aj=ob (Hy (Bq _) L a0 g some Ae Aj) Q:=by
 unfold Hy
 dsimp only [Bh,Bq]
 try simp only [y1,y2,y3,y4,y5 Q,y6,y7,y8 Q,y9,z1,z2,z3,z4]
theorem Be0(L:Nat)(a0:ByteArray)(n:Nat)(Ae:Int)(Aj:Int)(K:Ex→St→Prop):Bl (EV (O58 L) L 9 c58.r.r.r.r.l.r.r.l.l) [0,2,23,24] [] n (Ang a0 Ae Aj) K=ob (H4 L a0 n Ae Aj) (fun o=>Arf a0 K o):=by
 induction n generalizing Ae Aj with
 |zero=>rfl
 |succ n ih=>
  refine Eq.trans (b:=Hy Bh L a0 (fun Ae Aj=>Bl (EV (O58 L) L 9 c58.r.r.r.r.l.r.r.l.l) [0,2,23,24] [] n (Ang a0 Ae Aj) K) (Arf a0 K) Ae Aj) (by kernel_rfl) ?_
  simp only [ih]
  exact Bf2 L a0 (H4 L a0 n) (Arf a0 K) Ae Aj
def A4y(L:Nat)(kk:PV→Prop):Ex→St→Prop:=(Ca 0 (Dl (EV (O58 L) L 9 c58.r.r.r.r.r) (Dx Tryz.prog (RS Tryz.f58) kk)))
theorem Bp3(L:Nat)(a0:ByteArray)(kk:PV→Prop)(o6:Nat×(Int×Int)):Arf a0 (A4y L kk) o6=
 (Cr o6.1 [(ob (some o6.2.1) (fun(x:Int)=>kk (I x))),
 (ob (some 0) (fun(x:Int)=>kk (I x)))]):=by kernel_rfl
def Tn{A:Type}(an:An A)(L:Nat)(a0:ByteArray)(out:Int→A):A:=
 (an.jp (bif (a0.toList == (⟨#[]⟩:ByteArray).toList) then true
 else (decide ((a0.size:Int) > 24))) (fun j=>(an.cn (a0.toList == (⟨#[]⟩:ByteArray).toList)
 (an.ap j true)
 (an.ap j (decide ((a0.size:Int) > 24))))) (fun b1=>
 (an.jb (bif b1 then (some true)
 else (bif ((if 0≤0 then a0[Int.toNat 0]? else none).isSome) then (Option.bind (Gk L (C6 (if 0≤0 then a0[Int.toNat 0]? else none))) fun r3=>
 (some (!r3)))
 else none)) (fun j=>(an.cn b1
 (an.lf j true)
 (an.cn ((if 0≤0 then a0[Int.toNat 0]? else none).isSome)
 (an.bd (Gk L (C6 (if 0≤0 then a0[Int.toNat 0]? else none))) fun r4=>
 (an.lf j (!r4)))
 (an.bd none j)))) (fun b2=>
 (an.jb (bif b2 then (some true)
 else (Option.bind (Gu L a0) fun r6=>
 (some r6))) (fun j=>(an.cn b2
 (an.lf j true)
 (an.bd (Gu L a0) fun r7=>
 (an.lf j r7)))) (fun b5=>
 (an.cn b5
 (an.lf out 3)
 (an.bd (H4 L a0 L 0 0) fun o8=>
 (an.sl o8.1 [(an.lf out o8.2.1),
 (an.lf out 0)])))))))))
def Hi(L:Nat)(a0:ByteArray):Option Int:=Tn (Bq _) L a0 some
theorem e58(L:Nat)(a0:ByteArray)(kk:PV→Prop):EW (O58 L) L 9 (RS Tryz.f58) c58 [S a0] kk=ob (Hi L a0) (fun(x:Int)=>kk (I x)):=by
 refine Eq.trans (b:=Tn Bh L a0 (fun(x:Int)=>kk (I x))) ?_ ?_
 ·refine Eq.trans (b:=(jn (fun j=>(br (a0.toList == (⟨#[]⟩:ByteArray).toList)
 (ap j true)
 (ap j (decide ((a0.size:Int) > 24))))) (fun b1=>
 (jn (fun j=>(br b1
 (ob (some true) j)
 (br ((if 0≤0 then a0[Int.toNat 0]? else none).isSome)
 (ob (Gk L (C6 (if 0≤0 then a0[Int.toNat 0]? else none))) fun r3=>
 (ob (some (!r3)) j))
 (ob none j)))) (fun b2=>
 (jn (fun j=>(br b2
 (ob (some true) j)
 (ob (Gu L a0) fun r5=>
 (ob (some r5) j)))) (fun b4=>
 (br b4
 (ob (some 3) (fun(x:Int)=>kk (I x)))
 (Bl (EV (O58 L) L 9 c58.r.r.r.r.l.r.r.l.l) [0,2,23,24] [] L (Ang a0 0 0) (A4y L kk)))))))))) (by kernel_rfl) ?_
  unfold Tn
  dsimp only [Bh]
  simp only [Be0,Bp3]
 generalize (fun(x:Int)=>kk (I x))=Q
 unfold Hi Tn
 dsimp only [Bh,Bq]
 try simp only [y1,y2,y3,y4,y5 Q,y6,y7,y8 Q,y9,z1,z2,z3,z4]
theorem h58(L:Nat)(a0:ByteArray)(r:Int)(h:Hi L a0=some r):Bc Tryz.prog 58 [S a0] (I r):=
 hE Cg (s58 L) mixed Tryz.func58 (by kernel_rfl:C4 Tryz.prog inl Tryz.f58=some c58) (er:=fun(x:Int)=>I x) (by kernel_rfl) (e58 L a0) h
noncomputable def c81:EC:=(C4 Tryz.prog inl Tryz.f81).getD .stop
def O81(Ey:Aa→Option Int)(L:Nat):Bi:=(Cp 81 (A1 (fun(x:Int)=>I x) Bm Ey) Kg)
theorem s81(Ey:Aa→Option Int)(Bd0:∀(y0:Aa) (r:Int),Ey y0=some r→Bc Tryz.prog 81 [.agg (Ay y0)] (I r))(L:Nat):Bs Tryz.prog (O81 Ey L):=(Ad (a1 _ Bd0) (Az Tryz.prog))
def Auv(a0:Aa)(Ae:Int)(Ba:Int):St:=({ fr:= [(0,.any),(1,.any),(2,I 0),(3,I Ae),(7,.lst false (.t38 a0.Kids)),(8,I (a0.Kids.length:Int)),(9,I Ba)],ob:= [(1,(Ay a0))],base:=0 } :St)
def Arn(a0:Aa)(K:Ex→St→Prop):Nat×(Int×Int)→Prop:=fun o=>Cr o.1 [K (.exit 0) (Auv a0 o.2.1 o.2.2)]
def Mb{A:Type}(an:An A)(Ey:Aa→Option Int)(L:Nat)(a0:Aa)(rec:Int→Int→A)(out:Nat×(Int×Int)→A)(Ae:Int)(Ba:Int):A:=
 (an.cn (decide (Ba < (a0.Kids.length:Int)))
 (an.gd ((0:Int)≤Ba)
 (an.gd (Ba < ((a0.Kids.length:Nat):Int))
 (an.bd (Ey (Aa.cp (a0.Kids.getD (Int.toNat Ba) default))) fun r1=>
 (rec (F9 (Ae+r1)) (F9 (Ba+1))))))
 (an.lf out (0,(Ae,Ba))))
def I9(Ey:Aa→Option Int)(L:Nat)(a0:Aa):Nat→Int→Int→Option (Nat×(Int×Int))
 |0,_,_=>none
 |n+1,Ae,Ba=>Mb (Bq _) Ey L a0 (I9 Ey L a0 n) some Ae Ba
theorem Bga(Ey:Aa→Option Int)(L:Nat)(a0:Aa)(g:Int→Int→Option (Nat×(Int×Int)))(Q:Nat×(Int×Int)→Prop)(Ae:Int)(Ba:Int):Mb Bh Ey L a0 (fun Ae Ba=>ob (g Ae Ba) Q) Q Ae Ba=ob (Mb (Bq _) Ey L a0 g some Ae Ba) Q:=by
 unfold Mb
 dsimp only [Bh,Bq]
 try simp only [y1,y2,y3,y4,y5 Q,y6,y7,y8 Q,y9,z1,z2,z3,z4]
theorem Be8(Ey:Aa→Option Int)(L:Nat)(a0:Aa)(n:Nat)(Ae:Int)(Ba:Int)(K:Ex→St→Prop):Bl (EV (O81 Ey L) L 9 c81.r.r.r.r.l.r.r.l.l) [0,1,2,3,7,8,9] [1] n (Auv a0 Ae Ba) K=ob (I9 Ey L a0 n Ae Ba) (fun o=>Arn a0 K o):=by
 induction n generalizing Ae Ba with
 |zero=>rfl
 |succ n ih=>
  refine Eq.trans (b:=Mb Bh Ey L a0 (fun Ae Ba=>Bl (EV (O81 Ey L) L 9 c81.r.r.r.r.l.r.r.l.l) [0,1,2,3,7,8,9] [1] n (Auv a0 Ae Ba) K) (Arn a0 K) Ae Ba) (by kernel_rfl) ?_
  simp only [ih]
  exact Bga Ey L a0 (I9 Ey L a0 n) (Arn a0 K) Ae Ba
def A46(Ey:Aa→Option Int)(L:Nat)(kk:PV→Prop):Ex→St→Prop:=(Ca 0 (Dl (EV (O81 Ey L) L 9 c81.r.r.r.r.r) (Dx Tryz.prog (RS Tryz.f81) kk)))
theorem Bqb(Ey:Aa→Option Int)(L:Nat)(a0:Aa)(kk:PV→Prop)(o1:Nat×(Int×Int)):Arn a0 (A46 Ey L kk) o1=
 (Cr o1.1 [(ob (some o1.2.1) (fun(x:Int)=>kk (I x)))]):=by kernel_rfl
def Ut{A:Type}(an:An A)(Ey:Aa→Option Int)(L:Nat)(a0:Aa)(out:Int→A):A:=
 (an.bd (I9 Ey L a0 L 1 0) fun o1=>
 (an.sl o1.1 [(an.lf out o1.2.1)]))
def Ud(Ey:Aa→Option Int)(L:Nat)(a0:Aa):Option Int:=Ut (Bq _) Ey L a0 some
theorem e81(Ey:Aa→Option Int)(L:Nat)(a0:Aa)(kk:PV→Prop):EW (O81 Ey L) L 9 (RS Tryz.f81) c81 [.agg (Ay a0)] kk=ob (Ud Ey L a0) (fun(x:Int)=>kk (I x)):=by
 refine Eq.trans (b:=Ut Bh Ey L a0 (fun(x:Int)=>kk (I x))) ?_ ?_
 ·refine Eq.trans (b:=(Bl (EV (O81 Ey L) L 9 c81.r.r.r.r.l.r.r.l.l) [0,1,2,3,7,8,9] [1] L (Auv a0 1 0) (A46 Ey L kk))) (by kernel_rfl) ?_
  unfold Ut
  dsimp only [Bh]
  simp only [Be8,Bqb]
 generalize (fun(x:Int)=>kk (I x))=Q
 unfold Ud Ut
 dsimp only [Bh,Bq]
 try simp only [y1,y2,y3,y4,y5 Q,y6,y7,y8 Q,y9,z1,z2,z3,z4]
theorem b81(Ey:Aa→Option Int)(Bd0:∀(y0:Aa) (r:Int),Ey y0=some r→Bc Tryz.prog 81 [.agg (Ay y0)] (I r))(L:Nat)(a0:Aa)(r:Int)(h:Ud Ey L a0=some r):Bc Tryz.prog 81 [.agg (Ay a0)] (I r):=
 hE Cg (s81 Ey Bd0 L) mixed Tryz.func81 (by kernel_rfl:C4 Tryz.prog inl Tryz.f81=some c81) (er:=fun(x:Int)=>I x) (by kernel_rfl) (e81 Ey L a0) h
def Il:Nat→Aa→Option Int
 |0,_=>none
 |L+1,a0=>Ud (Il L) L a0
theorem Bdk:∀L,(∀(y0:Aa) (r:Int),Il L y0=some r→Bc Tryz.prog 81 [.agg (Ay y0)] (I r)):=by
 intro L
 induction L with
 |zero=>exact fun _ r h=>(by cases h)
 |succ L ih=>
  have i81:=ih
  exact fun y0 r h=>b81 (Il L) i81 L y0 r h
theorem h81(L:Nat):∀(y0:Aa) (r:Int),Il L y0=some r→Bc Tryz.prog 81 [.agg (Ay y0)] (I r):=Bdk L
noncomputable def c82:EC:=(C4 Tryz.prog inl Tryz.f82).getD .stop
def O82(Ez:Aa→Option Int)(L:Nat):Bi:=(Cp 82 (A1 (fun(x:Int)=>I x) Bm Ez) Kg)
theorem s82(Ez:Aa→Option Int)(Bd1:∀(y0:Aa) (r:Int),Ez y0=some r→Bc Tryz.prog 82 [.agg (Ay y0)] (I r))(L:Nat):Bs Tryz.prog (O82 Ez L):=(Ad (a1 _ Bd1) (Az Tryz.prog))
def Auw(a0:Aa)(Ae:Int)(Ba:Int):St:=({ fr:= [(0,.any),(1,.any),(2,I 0),(3,I Ae),(7,.lst false (.t38 a0.Kids)),(8,I (a0.Kids.length:Int)),(9,I Ba)],ob:= [(1,(Ay a0))],base:=0 } :St)
def Aro(a0:Aa)(K:Ex→St→Prop):Nat×(Int×Int)→Prop:=fun o=>Cr o.1 [K (.exit 0) (Auw a0 o.2.1 o.2.2)]
def Ma{A:Type}(an:An A)(Ez:Aa→Option Int)(L:Nat)(a0:Aa)(rec:Int→Int→A)(out:Nat×(Int×Int)→A)(Ae:Int)(Ba:Int):A:=
 (an.cn (decide (Ba < (a0.Kids.length:Int)))
 (an.gd ((0:Int)≤Ba)
 (an.gd (Ba < ((a0.Kids.length:Nat):Int))
 (an.bd (Ez (Aa.cp (a0.Kids.getD (Int.toNat Ba) default))) fun r1=>
 (rec (if r1 > Ae then r1 else Ae) (F9 (Ba+1))))))
 (an.lf out (0,(Ae,Ba))))
def I8(Ez:Aa→Option Int)(L:Nat)(a0:Aa):Nat→Int→Int→Option (Nat×(Int×Int))
 |0,_,_=>none
 |n+1,Ae,Ba=>Ma (Bq _) Ez L a0 (I8 Ez L a0 n) some Ae Ba
theorem Bgb(Ez:Aa→Option Int)(L:Nat)(a0:Aa)(g:Int→Int→Option (Nat×(Int×Int)))(Q:Nat×(Int×Int)→Prop)(Ae:Int)(Ba:Int):Ma Bh Ez L a0 (fun Ae Ba=>ob (g Ae Ba) Q) Q Ae Ba=ob (Ma (Bq _) Ez L a0 g some Ae Ba) Q:=by
 unfold Ma
 dsimp only [Bh,Bq]
 try simp only [y1,y2,y3,y4,y5 Q,y6,y7,y8 Q,y9,z1,z2,z3,z4]
theorem Be9(Ez:Aa→Option Int)(L:Nat)(a0:Aa)(n:Nat)(Ae:Int)(Ba:Int)(K:Ex→St→Prop):Bl (EV (O82 Ez L) L 9 c82.r.r.r.r.l.r.r.l.l) [0,1,2,3,7,8,9] [1] n (Auw a0 Ae Ba) K=ob (I8 Ez L a0 n Ae Ba) (fun o=>Aro a0 K o):=by
 induction n generalizing Ae Ba with
 |zero=>rfl
 |succ n ih=>
  refine Eq.trans (b:=Ma Bh Ez L a0 (fun Ae Ba=>Bl (EV (O82 Ez L) L 9 c82.r.r.r.r.l.r.r.l.l) [0,1,2,3,7,8,9] [1] n (Auw a0 Ae Ba) K) (Aro a0 K) Ae Ba) (by kernel_rfl) ?_
  simp only [ih]
  exact Bgb Ez L a0 (I8 Ez L a0 n) (Aro a0 K) Ae Ba
def A47(Ez:Aa→Option Int)(L:Nat)(kk:PV→Prop):Ex→St→Prop:=(Ca 0 (Dl (EV (O82 Ez L) L 9 c82.r.r.r.r.r) (Dx Tryz.prog (RS Tryz.f82) kk)))
theorem Bqc(Ez:Aa→Option Int)(L:Nat)(a0:Aa)(kk:PV→Prop)(o1:Nat×(Int×Int)):Aro a0 (A47 Ez L kk) o1=
 (Cr o1.1 [(ob (some (F9 (o1.2.1+1))) (fun(x:Int)=>kk (I x)))]):=by kernel_rfl
def Us{A:Type}(an:An A)(Ez:Aa→Option Int)(L:Nat)(a0:Aa)(out:Int→A):A:=
 (an.bd (I8 Ez L a0 L 0 0) fun o1=>
 (an.sl o1.1 [(an.lf out (F9 (o1.2.1+1)))]))
def Uc(Ez:Aa→Option Int)(L:Nat)(a0:Aa):Option Int:=Us (Bq _) Ez L a0 some
theorem e82(Ez:Aa→Option Int)(L:Nat)(a0:Aa)(kk:PV→Prop):EW (O82 Ez L) L 9 (RS Tryz.f82) c82 [.agg (Ay a0)] kk=ob (Uc Ez L a0) (fun(x:Int)=>kk (I x)):=by
 refine Eq.trans (b:=Us Bh Ez L a0 (fun(x:Int)=>kk (I x))) ?_ ?_
 ·refine Eq.trans (b:=(Bl (EV (O82 Ez L) L 9 c82.r.r.r.r.l.r.r.l.l) [0,1,2,3,7,8,9] [1] L (Auw a0 0 0) (A47 Ez L kk))) (by kernel_rfl) ?_
  unfold Us
  dsimp only [Bh]
  simp only [Be9,Bqc]
 generalize (fun(x:Int)=>kk (I x))=Q
 unfold Uc Us
 dsimp only [Bh,Bq]
 try simp only [y1,y2,y3,y4,y5 Q,y6,y7,y8 Q,y9,z1,z2,z3,z4]
theorem b82(Ez:Aa→Option Int)(Bd1:∀(y0:Aa) (r:Int),Ez y0=some r→Bc Tryz.prog 82 [.agg (Ay y0)] (I r))(L:Nat)(a0:Aa)(r:Int)(h:Uc Ez L a0=some r):Bc Tryz.prog 82 [.agg (Ay a0)] (I r):=
 hE Cg (s82 Ez Bd1 L) mixed Tryz.func82 (by kernel_rfl:C4 Tryz.prog inl Tryz.f82=some c82) (er:=fun(x:Int)=>I x) (by kernel_rfl) (e82 Ez L a0) h
def Ik:Nat→Aa→Option Int
 |0,_=>none
 |L+1,a0=>Uc (Ik L) L a0
theorem Bdl:∀L,(∀(y0:Aa) (r:Int),Ik L y0=some r→Bc Tryz.prog 82 [.agg (Ay y0)] (I r)):=by
 intro L
 induction L with
 |zero=>exact fun _ r h=>(by cases h)
 |succ L ih=>
  have i82:=ih
  exact fun y0 r h=>b82 (Ik L) i82 L y0 r h
theorem h82(L:Nat):∀(y0:Aa) (r:Int),Ik L y0=some r→Bc Tryz.prog 82 [.agg (Ay y0)] (I r):=Bdl L
noncomputable def Bmj:EC:=(C4 Tryz.prog inl Tryz.f216).getD .stop
def Bla(L:Nat):Bi:=Kg
theorem Buk(L:Nat):Bs Tryz.prog (Bla L):=(Az Tryz.prog)
def Zl{A:Type}(an:An A)(L:Nat)(a0:Int)(out:Int→A):A:=
 (an.jp (bif (a0 == 1) then true
 else (a0 == 2)) (fun j=>(an.cn (a0 == 1)
 (an.ap j true)
 (an.ap j (a0 == 2)))) (fun b1=>
 (an.jp (bif b1 then true
 else (a0 == 3)) (fun j=>(an.cn b1
 (an.ap j true)
 (an.ap j (a0 == 3)))) (fun b2=>
 (an.jp (bif b2 then true
 else (a0 == 4)) (fun j=>(an.cn b2
 (an.ap j true)
 (an.ap j (a0 == 4)))) (fun b3=>
 (an.cn b3
 (an.lf out 0)
 (an.jp (bif (decide (a0≥5)) then (decide (a0≤8))
 else false) (fun j=>(an.cn (decide (a0≥5))
 (an.ap j (decide (a0≤8)))
 (an.ap j false))) (fun b4=>
 (an.cn b4
 (an.lf out 1)
 (an.jp (bif (decide (a0≥9)) then (decide (a0≤21))
 else false) (fun j=>(an.cn (decide (a0≥9))
 (an.ap j (decide (a0≤21)))
 (an.ap j false))) (fun b5=>
 (an.cn b5
 (an.lf out 2)
 (an.jp (bif (decide (a0≥22)) then (decide (a0≤26))
 else false) (fun j=>(an.cn (decide (a0≥22))
 (an.ap j (decide (a0≤26)))
 (an.ap j false))) (fun b6=>
 (an.cn b6
 (an.lf out 0)
 (an.lf out (-1))))))))))))))))))
def K2(L:Nat)(a0:Int):Option Int:=Zl (Bq _) L a0 some
theorem Bsk(L:Nat)(a0:Int)(kk:PV→Prop):EW (Bla L) L 9 (RS Tryz.f216) Bmj [I a0] kk=ob (K2 L a0) (fun(x:Int)=>kk (I x)):=by
 refine Eq.trans (b:=Zl Bh L a0 (fun(x:Int)=>kk (I x))) (by kernel_rfl) ?_
 generalize (fun(x:Int)=>kk (I x))=Q
 unfold K2 Zl
 dsimp only [Bh,Bq]
 try simp only [y1,y2,y3,y4,y5 Q,y6,y7,y8 Q,y9,z1,z2,z3,z4]
theorem Bc5(L:Nat)(a0:Int)(r:Int)(h:K2 L a0=some r):Bc Tryz.prog 216 [I a0] (I r):=
 hE Cg (Buk L) mixed Tryz.func216 (by kernel_rfl:C4 Tryz.prog inl Tryz.f216=some Bmj) (er:=fun(x:Int)=>I x) (by kernel_rfl) (Bsk L a0) h
noncomputable def Bmi:EC:=(C4 Tryz.prog inl Tryz.f215).getD .stop
def Bk9(L:Nat):Bi:=(Cp 216 (A1 (fun(x:Int)=>I x) (cI .i64) (K2 L)) Kg)
theorem Buj(L:Nat):Bs Tryz.prog (Bk9 L):=(Ad (a1 _ (Bc5 L)) (Az Tryz.prog))
def Sm{A:Type}(an:An A)(L:Nat)(a0:Bu)(a1:Int)(out:Bool→A):A:=
 (an.cn (a1 == 3)
 (an.lf out (!a0.u_code))
 (an.cn (a1 == 25)
 (an.cn (a1 == 25)
 (an.lf out a0.u_code)
 (an.bd (K2 L a1) fun r1=>
 (an.lf out (decide (r1≥0)))))
 (an.cn (a1 == 26)
 (an.lf out a0.u_code)
 (an.bd (K2 L a1) fun r2=>
 (an.lf out (decide (r2≥0)))))))
def Hb(L:Nat)(a0:Bu)(a1:Int):Option Bool:=Sm (Bq _) L a0 a1 some
theorem Bsj(L:Nat)(a0:Bu)(a1:Int)(kk:PV→Prop):EW (Bk9 L) L 9 (RS Tryz.f215) Bmi [.agg [B a0.u_code],I a1] kk=ob (Hb L a0 a1) (fun(x:Bool)=>kk (B x)):=by
 refine Eq.trans (b:=Sm Bh L a0 a1 (fun(x:Bool)=>kk (B x))) (by kernel_rfl) ?_
 generalize (fun(x:Bool)=>kk (B x))=Q
 unfold Hb Sm
 dsimp only [Bh,Bq]
 try simp only [y1,y2,y3,y4,y5 Q,y6,y7,y8 Q,y9,z1,z2,z3,z4]
theorem Bnp(L:Nat)(a0:Bu)(a1:Int)(r:Bool)(h:Hb L a0 a1=some r):Bc Tryz.prog 215 [.agg [B a0.u_code],I a1] (B r):=
 hE Cg (Buj L) mixed Tryz.func215 (by kernel_rfl:C4 Tryz.prog inl Tryz.f215=some Bmi) (er:=fun(x:Bool)=>B x) (by kernel_rfl) (Bsj L a0 a1) h
noncomputable def c78:EC:=(C4 Tryz.prog inl Tryz.f78).getD .stop
def O78(L:Nat):Bi:=Kg
theorem s78(L:Nat):Bs Tryz.prog (O78 L):=(Az Tryz.prog)
def Vz{A:Type}(an:An A)(L:Nat)(a0:Int)(out:Bool→A):A:=
 (an.jp (bif (decide (a0≥22)) then (decide (a0≤24))
 else false) (fun j=>(an.cn (decide (a0≥22))
 (an.ap j (decide (a0≤24)))
 (an.ap j false))) (fun b1=>
 (an.lf out b1)))
def Hh(L:Nat)(a0:Int):Option Bool:=Vz (Bq _) L a0 some
theorem e78(L:Nat)(a0:Int)(kk:PV→Prop):EW (O78 L) L 9 (RS Tryz.f78) c78 [I a0] kk=ob (Hh L a0) (fun(x:Bool)=>kk (B x)):=by
 refine Eq.trans (b:=Vz Bh L a0 (fun(x:Bool)=>kk (B x))) (by kernel_rfl) ?_
 generalize (fun(x:Bool)=>kk (B x))=Q
 unfold Hh Vz
 dsimp only [Bh,Bq]
 try simp only [y1,y2,y3,y4,y5 Q,y6,y7,y8 Q,y9,z1,z2,z3,z4]
theorem h78(L:Nat)(a0:Int)(r:Bool)(h:Hh L a0=some r):Bc Tryz.prog 78 [I a0] (B r):=
 hE Cg (s78 L) mixed Tryz.func78 (by kernel_rfl:C4 Tryz.prog inl Tryz.f78=some c78) (er:=fun(x:Bool)=>B x) (by kernel_rfl) (e78 L a0) h
noncomputable def Bmk:EC:=(C4 Tryz.prog inl Tryz.f217).getD .stop
def Blb(L:Nat):Bi:=(Cp 78 (A1 (fun(x:Bool)=>B x) (cI .i64) (Hh L)) Kg)
theorem Bul(L:Nat):Bs Tryz.prog (Blb L):=(Ad (a1 _ (h78 L)) (Az Tryz.prog))
def Sn{A:Type}(an:An A)(L:Nat)(a0:Bu)(a1:Int)(out:Bool→A):A:=
 (an.jb (bif (a1 == 3) then (some true)
 else (Option.bind (Hh L a1) fun r2=>
 (bif r2 then (some (!a0.u_code))
 else (some false)))) (fun j=>(an.cn (a1 == 3)
 (an.lf j true)
 (an.bd (Hh L a1) fun r3=>
 (an.cn r3
 (an.lf j (!a0.u_code))
 (an.lf j false))))) (fun b1=>
 (an.lf out b1)))
def Eu(L:Nat)(a0:Bu)(a1:Int):Option Bool:=Sn (Bq _) L a0 a1 some
theorem Bsl(L:Nat)(a0:Bu)(a1:Int)(kk:PV→Prop):EW (Blb L) L 9 (RS Tryz.f217) Bmk [.agg [B a0.u_code],I a1] kk=ob (Eu L a0 a1) (fun(x:Bool)=>kk (B x)):=by
 refine Eq.trans (b:=Sn Bh L a0 a1 (fun(x:Bool)=>kk (B x))) (by kernel_rfl) ?_
 generalize (fun(x:Bool)=>kk (B x))=Q
 unfold Eu Sn
 dsimp only [Bh,Bq]
 try simp only [y1,y2,y3,y4,y5 Q,y6,y7,y8 Q,y9,z1,z2,z3,z4]
theorem Bnq(L:Nat)(a0:Bu)(a1:Int)(r:Bool)(h:Eu L a0 a1=some r):Bc Tryz.prog 217 [.agg [B a0.u_code],I a1] (B r):=
 hE Cg (Bul L) mixed Tryz.func217 (by kernel_rfl:C4 Tryz.prog inl Tryz.f217=some Bmk) (er:=fun(x:Bool)=>B x) (by kernel_rfl) (Bsl L a0 a1) h
noncomputable def Bmf:EC:=(C4 Tryz.prog inl Tryz.f199).getD .stop
def Bk6(L:Nat):Bi:=Kg
theorem Bue(L:Nat):Bs Tryz.prog (Bk6 L):=(Az Tryz.prog)
def Aea{A:Type}(an:An A)(L:Nat)(a0:Int)(out:Bool→A):A:=
 (an.jp (bif (decide (a0≥(-1000000000000))) then (decide (a0≤1000000000000))
 else false) (fun j=>(an.cn (decide (a0≥(-1000000000000)))
 (an.ap j (decide (a0≤1000000000000)))
 (an.ap j false))) (fun b1=>
 (an.lf out b1)))
def Ui(L:Nat)(a0:Int):Option Bool:=Aea (Bq _) L a0 some
theorem Bse(L:Nat)(a0:Int)(kk:PV→Prop):EW (Bk6 L) L 9 (RS Tryz.f199) Bmf [I a0] kk=ob (Ui L a0) (fun(x:Bool)=>kk (B x)):=by
 refine Eq.trans (b:=Aea Bh L a0 (fun(x:Bool)=>kk (B x))) (by kernel_rfl) ?_
 generalize (fun(x:Bool)=>kk (B x))=Q
 unfold Ui Aea
 dsimp only [Bh,Bq]
 try simp only [y1,y2,y3,y4,y5 Q,y6,y7,y8 Q,y9,z1,z2,z3,z4]
theorem Bnk(L:Nat)(a0:Int)(r:Bool)(h:Ui L a0=some r):Bc Tryz.prog 199 [I a0] (B r):=
 hE Cg (Bue L) mixed Tryz.func199 (by kernel_rfl:C4 Tryz.prog inl Tryz.f199=some Bmf) (er:=fun(x:Bool)=>B x) (by kernel_rfl) (Bse L a0) h
noncomputable def Bml:EC:=(C4 Tryz.prog inl Tryz.f218).getD .stop
def Blc(L:Nat):Bi:=(Cp 78 (A1 (fun(x:Bool)=>B x) (cI .i64) (Hh L)) Kg)
theorem Bum(L:Nat):Bs Tryz.prog (Blc L):=(Ad (a1 _ (h78 L)) (Az Tryz.prog))
def Qa{A:Type}(an:An A)(L:Nat)(a0:Bu)(a1:Int)(out:(Int×Int×Bool)→A):A:=
 (an.cn (a1 == 2)
 (an.lf out (0,1,true))
 (an.cn (a1 == 25)
 (an.lf out (0,15,true))
 (an.cn (a1 == 26)
 (an.lf out (0,31,true))
 (an.bd (Hh L a1) fun r1=>
 (an.jp (bif r1 then a0.u_code
 else false) (fun j=>(an.cn r1
 (an.ap j a0.u_code)
 (an.ap j false))) (fun b2=>
 (an.cn b2
 (an.lf out (0,63,true))
 (an.lf out (0,0,false)))))))))
def Ek(L:Nat)(a0:Bu)(a1:Int):Option (Int×Int×Bool):=Qa (Bq _) L a0 a1 some
theorem Bsm(L:Nat)(a0:Bu)(a1:Int)(kk:PV→Prop):EW (Blc L) L 9 (RS Tryz.f218) Bml [.agg [B a0.u_code],I a1] kk=ob (Ek L a0 a1) (fun(x:(Int×Int×Bool))=>kk (.tup [I x.1,I x.2.1,B x.2.2])):=by
 refine Eq.trans (b:=Qa Bh L a0 a1 (fun(x:(Int×Int×Bool))=>kk (.tup [I x.1,I x.2.1,B x.2.2]))) (by kernel_rfl) ?_
 generalize (fun(x:(Int×Int×Bool))=>kk (.tup [I x.1,I x.2.1,B x.2.2]))=Q
 unfold Ek Qa
 dsimp only [Bh,Bq]
 try simp only [y1,y2,y3,y4,y5 Q,y6,y7,y8 Q,y9,z1,z2,z3,z4]
theorem Bnr(L:Nat)(a0:Bu)(a1:Int)(r:(Int×Int×Bool))(h:Ek L a0 a1=some r):Bc Tryz.prog 218 [.agg [B a0.u_code],I a1] (.tup [I r.1,I r.2.1,B r.2.2]):=
 hE Cg (Bum L) mixed Tryz.func218 (by kernel_rfl:C4 Tryz.prog inl Tryz.f218=some Bml) (er:=fun(x:(Int×Int×Bool))=> .tup [I x.1,I x.2.1,B x.2.2]) (by kernel_rfl) (Bsm L a0 a1) h
noncomputable def Bmb:EC:=(C4 Tryz.prog inl Tryz.f169).getD .stop
def Bk2(L:Nat):Bi:=(Cp 58 (A1 (fun(x:Int)=>I x) cS (Hi L)) (Cp 199 (A1 (fun(x:Bool)=>B x) (cI .i64) (Ui L)) (Cp 215 (A2 (fun(x:Bool)=>B x) Gy (cI .i64) (Hb L)) (Cp 216 (A1 (fun(x:Int)=>I x) (cI .i64) (K2 L)) (Cp 217 (A2 (fun(x:Bool)=>B x) Gy (cI .i64) (Eu L)) (Cp 218 (A2 (fun(x:(Int×Int×Bool))=> .tup [I x.1,I x.2.1,B x.2.2]) Gy (cI .i64) (Ek L)) Kg))))))
theorem Bt3(L:Nat):Bs Tryz.prog (Bk2 L):=(Ad (a1 _ (h58 L)) (Ad (a1 _ (Bnk L)) (Ad (a2 _ (Bnp L)) (Ad (a1 _ (Bc5 L)) (Ad (a2 _ (Bnq L)) (Ad (a2 _ (Bnr L)) (Az Tryz.prog)))))))
def Ta{A:Type}(an:An A)(L:Nat)(a0:Bu)(a1:Aa)(out:Int→A):A:=
 (an.bd (Hb L a0 a1.Op) fun r1=>
 (an.cn (!r1)
 (an.lf out 1)
 (an.bd (K2 L a1.Op) fun r2=>
 (an.cn ((a1.Kids.length:Int) != r2)
 (an.lf out 1)
 (an.cn (!(a1.Name.toList == (⟨#[]⟩:ByteArray).toList))
 (an.bd (Eu L a0 a1.Op) fun r3=>
 (an.cn (!r3)
 (an.lf out 1)
 (an.cn (a1.Op == 1)
 (an.bd (Ui L a1.N) fun r4=>
 (an.cn (!r4)
 (an.lf out 2)
 (an.lf out 0)))
 (an.bd (Ek L a0 a1.Op) fun r5=>
 (an.jp (bif (!r5.2.2) then (a1.N != 0)
 else false) (fun j=>(an.cn (!r5.2.2)
 (an.ap j (a1.N != 0))
 (an.ap j false))) (fun b6=>
 (an.cn b6
 (an.lf out 1)
 (an.jp (bif r5.2.2 then (bif (decide (a1.N < r5.1)) then true
 else (decide (a1.N > r5.2.1)))
 else false) (fun j=>(an.cn r5.2.2
 (an.cn (decide (a1.N < r5.1))
 (an.ap j true)
 (an.ap j (decide (a1.N > r5.2.1))))
 (an.ap j false))) (fun b7=>
 (an.cn b7
 (an.lf out 2)
 (an.bd (Eu L a0 a1.Op) fun r8=>
 (an.cn r8
 (an.bd (Hi L a1.Name) fun r9=>
 (an.lf out r9))
 (an.lf out 0)))))))))))))
 (an.cn (a1.Op == 1)
 (an.bd (Ui L a1.N) fun r10=>
 (an.cn (!r10)
 (an.lf out 2)
 (an.lf out 0)))
 (an.bd (Ek L a0 a1.Op) fun r11=>
 (an.jp (bif (!r11.2.2) then (a1.N != 0)
 else false) (fun j=>(an.cn (!r11.2.2)
 (an.ap j (a1.N != 0))
 (an.ap j false))) (fun b12=>
 (an.cn b12
 (an.lf out 1)
 (an.jp (bif r11.2.2 then (bif (decide (a1.N < r11.1)) then true
 else (decide (a1.N > r11.2.1)))
 else false) (fun j=>(an.cn r11.2.2
 (an.cn (decide (a1.N < r11.1))
 (an.ap j true)
 (an.ap j (decide (a1.N > r11.2.1))))
 (an.ap j false))) (fun b13=>
 (an.cn b13
 (an.lf out 2)
 (an.bd (Eu L a0 a1.Op) fun r14=>
 (an.cn r14
 (an.bd (Hi L a1.Name) fun r15=>
 (an.lf out r15))
 (an.lf out 0))))))))))))))))
def Gx(L:Nat)(a0:Bu)(a1:Aa):Option Int:=Ta (Bq _) L a0 a1 some
theorem Br3(L:Nat)(a0:Bu)(a1:Aa)(kk:PV→Prop):EW (Bk2 L) L 9 (RS Tryz.f169) Bmb [.agg [B a0.u_code],.agg (Ay a1)] kk=ob (Gx L a0 a1) (fun(x:Int)=>kk (I x)):=by
 refine Eq.trans (b:=Ta Bh L a0 a1 (fun(x:Int)=>kk (I x))) (by kernel_rfl) ?_
 generalize (fun(x:Int)=>kk (I x))=Q
 unfold Gx Ta
 dsimp only [Bh,Bq]
 try simp only [y1,y2,y3,y4,y5 Q,y6,y7,y8 Q,y9,z1,z2,z3,z4]
theorem Bna(L:Nat)(a0:Bu)(a1:Aa)(r:Int)(h:Gx L a0 a1=some r):Bc Tryz.prog 169 [.agg [B a0.u_code],.agg (Ay a1)] (I r):=
 hE Cg (Bt3 L) mixed Tryz.func169 (by kernel_rfl:C4 Tryz.prog inl Tryz.f169=some Bmb) (er:=fun(x:Int)=>I x) (by kernel_rfl) (Br3 L a0 a1) h
noncomputable def c83:EC:=(C4 Tryz.prog inl Tryz.f83).getD .stop
def O83(E0:Bu→Aa→Option Int)(L:Nat):Bi:=(Cp 83 (A2 (fun(x:Int)=>I x) Gy Bm E0) (Cp 169 (A2 (fun(x:Int)=>I x) Gy Bm (Gx L)) Kg))
theorem s83(E0:Bu→Aa→Option Int)(Bd2:∀(y0:Bu) (y1:Aa) (r:Int),E0 y0 y1=some r→Bc Tryz.prog 83 [.agg [B y0.u_code],.agg (Ay y1)] (I r))(L:Nat):Bs Tryz.prog (O83 E0 L):=(Ad (a2 _ Bd2) (Ad (a2 _ (Bna L)) (Az Tryz.prog)))
def Anm(a1:Aa)(a0:Bu)(A9:Int)(Aj:Int):St:=({ fr:= [(0,.any),(1,.any),(2,.loc 2 0),(3,.any),(4,I A9),(5,.any),(16,.lst false (.t38 a1.Kids)),(17,I (a1.Kids.length:Int)),(18,I Aj)],ob:= [(2,[B a0.u_code]),(3,(Ay a1))],base:=0 } :St)
def Arp(a1:Aa)(a0:Bu)(K:Ex→St→Prop):Nat×(Int×Int)→Prop:=fun o=>Cr o.1 [K .ret (Anm a1 a0 o.2.1 o.2.2),K (.exit 0) (Anm a1 a0 o.2.1 o.2.2)]
def Gn{A:Type}(an:An A)(E0:Bu→Aa→Option Int)(L:Nat)(a1:Aa)(a0:Bu)(rec:Int→Int→A)(out:Nat×(Int×Int)→A)(A9:Int)(Aj:Int):A:=
 (an.cn (decide (Aj < (a1.Kids.length:Int)))
 (an.gd ((0:Int)≤Aj)
 (an.gd (Aj < ((a1.Kids.length:Nat):Int))
 (an.bd (E0 a0 (Aa.cp (a1.Kids.getD (Int.toNat Aj) default))) fun r2=>
 (an.cn (r2 != 0)
 (an.lf out (0,(r2,Aj)))
 (rec A9 (F9 (Aj+1)))))))
 (an.lf out (1,(A9,Aj))))
def E5(E0:Bu→Aa→Option Int)(L:Nat)(a1:Aa)(a0:Bu):Nat→Int→Int→Option (Nat×(Int×Int))
 |0,_,_=>none
 |n+1,A9,Aj=>Gn (Bq _) E0 L a1 a0 (E5 E0 L a1 a0 n) some A9 Aj
theorem Bgc(E0:Bu→Aa→Option Int)(L:Nat)(a1:Aa)(a0:Bu)(g:Int→Int→Option (Nat×(Int×Int)))(Q:Nat×(Int×Int)→Prop)(A9:Int)(Aj:Int):Gn Bh E0 L a1 a0 (fun A9 Aj=>ob (g A9 Aj) Q) Q A9 Aj=ob (Gn (Bq _) E0 L a1 a0 g some A9 Aj) Q:=by
 unfold Gn
 dsimp only [Bh,Bq]
 try simp only [y1,y2,y3,y4,y5 Q,y6,y7,y8 Q,y9,z1,z2,z3,z4]
theorem Bfa(E0:Bu→Aa→Option Int)(L:Nat)(a1:Aa)(a0:Bu)(n:Nat)(A9:Int)(Aj:Int)(K:Ex→St→Prop):Bl (EV (O83 E0 L) L 9 c83.r.r.r.r.l.r.r.l.l) [0,1,2,3,4,5,16,17,18] [2,3] n (Anm a1 a0 A9 Aj) K=ob (E5 E0 L a1 a0 n A9 Aj) (fun o=>Arp a1 a0 K o):=by
 induction n generalizing A9 Aj with
 |zero=>rfl
 |succ n ih=>
  refine Eq.trans (b:=Gn Bh E0 L a1 a0 (fun A9 Aj=>Bl (EV (O83 E0 L) L 9 c83.r.r.r.r.l.r.r.l.l) [0,1,2,3,4,5,16,17,18] [2,3] n (Anm a1 a0 A9 Aj) K) (Arp a1 a0 K) A9 Aj) (by kernel_rfl) ?_
  simp only [ih]
  exact Bgc E0 L a1 a0 (E5 E0 L a1 a0 n) (Arp a1 a0 K) A9 Aj
def A48(E0:Bu→Aa→Option Int)(L:Nat)(kk:PV→Prop):Ex→St→Prop:=(Ca 0 (Dl (EV (O83 E0 L) L 9 c83.r.r.r.r.r) (Dx Tryz.prog (RS Tryz.f83) kk)))
theorem Bqd(E0:Bu→Aa→Option Int)(L:Nat)(a1:Aa)(a0:Bu)(kk:PV→Prop)(o2:Nat×(Int×Int)):Arp a1 a0 (A48 E0 L kk) o2=
 (Cr o2.1 [(ob (some o2.2.1) (fun(x:Int)=>kk (I x))),
 (ob (some 0) (fun(x:Int)=>kk (I x)))]):=by kernel_rfl
def O5{A:Type}(an:An A)(E0:Bu→Aa→Option Int)(L:Nat)(a0:Bu)(a1:Aa)(out:Int→A):A:=
 (an.bd (Gx L a0 (Aa.cp a1)) fun r1=>
 (an.cn (r1 != 0)
 (an.lf out r1)
 (an.bd (E5 E0 L a1 a0 L 0 0) fun o2=>
 (an.sl o2.1 [(an.lf out o2.2.1),
 (an.lf out 0)]))))
def Ov(E0:Bu→Aa→Option Int)(L:Nat)(a0:Bu)(a1:Aa):Option Int:=O5 (Bq _) E0 L a0 a1 some
theorem e83(E0:Bu→Aa→Option Int)(L:Nat)(a0:Bu)(a1:Aa)(kk:PV→Prop):EW (O83 E0 L) L 9 (RS Tryz.f83) c83 [.agg [B a0.u_code],.agg (Ay a1)] kk=ob (Ov E0 L a0 a1) (fun(x:Int)=>kk (I x)):=by
 refine Eq.trans (b:=O5 Bh E0 L a0 a1 (fun(x:Int)=>kk (I x))) ?_ ?_
 ·refine Eq.trans (b:=(ob (Gx L a0 (Aa.cp a1)) fun r1=>
 (br (r1 != 0)
 (ob (some r1) (fun(x:Int)=>kk (I x)))
 (Bl (EV (O83 E0 L) L 9 c83.r.r.r.r.l.r.r.l.l) [0,1,2,3,4,5,16,17,18] [2,3] L (Anm a1 a0 0 0) (A48 E0 L kk))))) (by kernel_rfl) ?_
  unfold O5
  dsimp only [Bh]
  simp only [Bfa,Bqd]
 generalize (fun(x:Int)=>kk (I x))=Q
 unfold Ov O5
 dsimp only [Bh,Bq]
 try simp only [y1,y2,y3,y4,y5 Q,y6,y7,y8 Q,y9,z1,z2,z3,z4]
theorem b83(E0:Bu→Aa→Option Int)(Bd2:∀(y0:Bu) (y1:Aa) (r:Int),E0 y0 y1=some r→Bc Tryz.prog 83 [.agg [B y0.u_code],.agg (Ay y1)] (I r))(L:Nat)(a0:Bu)(a1:Aa)(r:Int)(h:Ov E0 L a0 a1=some r):Bc Tryz.prog 83 [.agg [B a0.u_code],.agg (Ay a1)] (I r):=
 hE Cg (s83 E0 Bd2 L) mixed Tryz.func83 (by kernel_rfl:C4 Tryz.prog inl Tryz.f83=some c83) (er:=fun(x:Int)=>I x) (by kernel_rfl) (e83 E0 L a0 a1) h
def D5:Nat→Bu→Aa→Option Int
 |0,_,_=>none
 |L+1,a0,a1=>Ov (D5 L) L a0 a1
theorem Bdm:∀L,(∀(y0:Bu) (y1:Aa) (r:Int),D5 L y0 y1=some r→Bc Tryz.prog 83 [.agg [B y0.u_code],.agg (Ay y1)] (I r)):=by
 intro L
 induction L with
 |zero=>exact fun _ _ r h=>(by cases h)
 |succ L ih=>
  have i83:=ih
  exact fun y0 y1 r h=>b83 (D5 L) i83 L y0 y1 r h
theorem h83(L:Nat):∀(y0:Bu) (y1:Aa) (r:Int),D5 L y0 y1=some r→Bc Tryz.prog 83 [.agg [B y0.u_code],.agg (Ay y1)] (I r):=Bdm L
noncomputable def c46:EC:=(C4 Tryz.prog inl Tryz.f46).getD .stop
def O46(L:Nat):Bi:=(Cp 81 (A1 (fun(x:Int)=>I x) Bm (Il L)) (Cp 82 (A1 (fun(x:Int)=>I x) Bm (Ik L)) (Cp 83 (A2 (fun(x:Int)=>I x) Gy Bm (D5 L)) Kg)))
theorem s46(L:Nat):Bs Tryz.prog (O46 L):=(Ad (a1 _ (h81 L)) (Ad (a1 _ (h82 L)) (Ad (a2 _ (h83 L)) (Az Tryz.prog))))
def Sl{A:Type}(an:An A)(L:Nat)(a0:Bu)(a1:Aa)(out:Int→A):A:=
 (an.bd (Il L (Aa.cp a1)) fun r1=>
 (an.cn (decide (r1 > 60))
 (an.lf out 6)
 (an.bd (Ik L (Aa.cp a1)) fun r2=>
 (an.cn (decide (r2 > 12))
 (an.lf out 11)
 (an.bd (D5 L a0 (Aa.cp a1)) fun r3=>
 (an.lf out r3))))))
def Ha(L:Nat)(a0:Bu)(a1:Aa):Option Int:=Sl (Bq _) L a0 a1 some
theorem e46(L:Nat)(a0:Bu)(a1:Aa)(kk:PV→Prop):EW (O46 L) L 9 (RS Tryz.f46) c46 [.agg [B a0.u_code],.agg (Ay a1)] kk=ob (Ha L a0 a1) (fun(x:Int)=>kk (I x)):=by
 refine Eq.trans (b:=Sl Bh L a0 a1 (fun(x:Int)=>kk (I x))) (by kernel_rfl) ?_
 generalize (fun(x:Int)=>kk (I x))=Q
 unfold Ha Sl
 dsimp only [Bh,Bq]
 try simp only [y1,y2,y3,y4,y5 Q,y6,y7,y8 Q,y9,z1,z2,z3,z4]
theorem h46(L:Nat)(a0:Bu)(a1:Aa)(r:Int)(h:Ha L a0 a1=some r):Bc Tryz.prog 46 [.agg [B a0.u_code],.agg (Ay a1)] (I r):=
 hE Cg (s46 L) mixed Tryz.func46 (by kernel_rfl:C4 Tryz.prog inl Tryz.f46=some c46) (er:=fun(x:Int)=>I x) (by kernel_rfl) (e46 L a0 a1) h
noncomputable def c26:EC:=(C4 Tryz.prog inl Tryz.f26).getD .stop
def O26(L:Nat):Bi:=(Cp 46 (A2 (fun(x:Int)=>I x) Gy Bm (Ha L)) Kg)
theorem s26(L:Nat):Bs Tryz.prog (O26 L):=(Ad (a2 _ (h46 L)) (Az Tryz.prog))
def Xn{A:Type}(an:An A)(L:Nat)(a0:Aa)(out:Int→A):A:=
 (an.bd (Ha L (⟨false⟩:Bu) (Aa.cp a0)) fun r1=>
 (an.lf out r1))
def Gw(L:Nat)(a0:Aa):Option Int:=Xn (Bq _) L a0 some
theorem e26(L:Nat)(a0:Aa)(kk:PV→Prop):EW (O26 L) L 9 (RS Tryz.f26) c26 [.agg (Ay a0)] kk=ob (Gw L a0) (fun(x:Int)=>kk (I x)):=by
 refine Eq.trans (b:=Xn Bh L a0 (fun(x:Int)=>kk (I x))) (by kernel_rfl) ?_
 generalize (fun(x:Int)=>kk (I x))=Q
 unfold Gw Xn
 dsimp only [Bh,Bq]
 try simp only [y1,y2,y3,y4,y5 Q,y6,y7,y8 Q,y9,z1,z2,z3,z4]
theorem h26(L:Nat)(a0:Aa)(r:Int)(h:Gw L a0=some r):Bc Tryz.prog 26 [.agg (Ay a0)] (I r):=
 hE Cg (s26 L) mixed Tryz.func26 (by kernel_rfl:C4 Tryz.prog inl Tryz.f26=some c26) (er:=fun(x:Int)=>I x) (by kernel_rfl) (e26 L a0) h
noncomputable def Bmh:EC:=(C4 Tryz.prog inl Tryz.f207).getD .stop
def Bk8(L:Nat):Bi:=Kg
theorem Buh(L:Nat):Bs Tryz.prog (Bk8 L):=(Az Tryz.prog)
def Vy{A:Type}(an:An A)(L:Nat)(a0:Bo)(out:Bool→A):A:=
 (an.cn (a0.Op == 1)
 (an.jp (bif ((F9 ((a0.Values.length:Int)+(a0.Weights.length:Int))) == 0) then (a0.B == 0)
 else false) (fun j=>(an.cn ((F9 ((a0.Values.length:Int)+(a0.Weights.length:Int))) == 0)
 (an.ap j (a0.B == 0))
 (an.ap j false))) (fun b1=>
 (an.jp (bif b1 then (a0.N == 0)
 else false) (fun j=>(an.cn b1
 (an.ap j (a0.N == 0))
 (an.ap j false))) (fun b2=>
 (an.lf out b2)))))
 (an.cn (a0.Op == 2)
 (an.cn (a0.Op == 2)
 (an.jp (bif ((F9 ((a0.Values.length:Int)+(a0.Weights.length:Int))) == 0) then (a0.N == 0)
 else false) (fun j=>(an.cn ((F9 ((a0.Values.length:Int)+(a0.Weights.length:Int))) == 0)
 (an.ap j (a0.N == 0))
 (an.ap j false))) (fun b3=>
 (an.lf out b3)))
 (an.cn (a0.Op == 4)
 (an.lf out ((F9 ((a0.Values.length:Int)+(a0.Weights.length:Int))) == 0))
 (an.cn (a0.Op == 3)
 (an.jp (bif (a0.A == 0) then (a0.B == 0)
 else false) (fun j=>(an.cn (a0.A == 0)
 (an.ap j (a0.B == 0))
 (an.ap j false))) (fun b4=>
 (an.jp (bif b4 then (a0.N == 0)
 else false) (fun j=>(an.cn b4
 (an.ap j (a0.N == 0))
 (an.ap j false))) (fun b5=>
 (an.lf out b5)))))
 (an.lf out false))))
 (an.cn (a0.Op == 5)
 (an.jp (bif ((F9 ((a0.Values.length:Int)+(a0.Weights.length:Int))) == 0) then (a0.N == 0)
 else false) (fun j=>(an.cn ((F9 ((a0.Values.length:Int)+(a0.Weights.length:Int))) == 0)
 (an.ap j (a0.N == 0))
 (an.ap j false))) (fun b6=>
 (an.lf out b6)))
 (an.cn (a0.Op == 4)
 (an.lf out ((F9 ((a0.Values.length:Int)+(a0.Weights.length:Int))) == 0))
 (an.cn (a0.Op == 3)
 (an.jp (bif (a0.A == 0) then (a0.B == 0)
 else false) (fun j=>(an.cn (a0.A == 0)
 (an.ap j (a0.B == 0))
 (an.ap j false))) (fun b7=>
 (an.jp (bif b7 then (a0.N == 0)
 else false) (fun j=>(an.cn b7
 (an.ap j (a0.N == 0))
 (an.ap j false))) (fun b8=>
 (an.lf out b8)))))
 (an.lf out false))))))
def M4(L:Nat)(a0:Bo):Option Bool:=Vy (Bq _) L a0 some
theorem Bsh(L:Nat)(a0:Bo)(kk:PV→Prop):EW (Bk8 L) L 9 (RS Tryz.f207) Bmh [.agg (C9 a0)] kk=ob (M4 L a0) (fun(x:Bool)=>kk (B x)):=by
 refine Eq.trans (b:=Vy Bh L a0 (fun(x:Bool)=>kk (B x))) (by kernel_rfl) ?_
 generalize (fun(x:Bool)=>kk (B x))=Q
 unfold M4 Vy
 dsimp only [Bh,Bq]
 try simp only [y1,y2,y3,y4,y5 Q,y6,y7,y8 Q,y9,z1,z2,z3,z4]
theorem Bnn(L:Nat)(a0:Bo)(r:Bool)(h:M4 L a0=some r):Bc Tryz.prog 207 [.agg (C9 a0)] (B r):=
 hE Cg (Buh L) mixed Tryz.func207 (by kernel_rfl:C4 Tryz.prog inl Tryz.f207=some Bmh) (er:=fun(x:Bool)=>B x) (by kernel_rfl) (Bsh L a0) h
end Go.Proofs.YtcbandfdmbkokaaGreat.Ev
