import Derived.Test.YtogleahbpobaiaaGreatFW
namespace Go.Proofs.YtogleahbpobaiaaGreat.Ev
open Go An
set_option maxRecDepth 100000
set_option maxHeartbeats 4000000
set_option linter.unusedVariables false
set_option linter.unusedSimpArgs false
set_option linter.unnecessarySimpa false
theorem mixed: Tryz.prog.follows .mixedOrders=true:=by kernel_rfl
def inl:Nat→Bool:=fun f=>inL f [40,41,42,43,71,72,73,74,75,76,77,78,79,83,84,85,86,87,88,89,90,91,92,93,94,95,96,98,99,100,102,104,105,133,134,135,136,137,138,139,140,152,153,154,155,158,159,170,174,175,183,184,185,194,195,197,198,204]
def jn4:Nat→Bool:=fun f=>inL f [41,42,43,71,72,74,75,78,79,84,85,87,88,95,96,99,104,105,133,135,137,139,152,153,154,158,174,194,204]
def Bdh:Go.Shelf.Ren:=⟨fun|4=>183|n=>n,fun|22=>23|25=>55|3=>3|4=>4|9=>9|20=>20|0=>0|n=>n,fun|n=>n⟩
theorem Bgt:Go.Proofs.Lays8.n4 Tryz.prog Bdh:= {
 mixed:=by kernel_rfl
 f4:=⟨Tryz.f183.name,by decide,Tryz.func183.trans (congrArg some (by kernel_rfl))⟩
 t0:= Tryz.underlying0
 a0:= Tryz.isAgg0
 z0:= Tryz.sizeOf0
 v0:= Tryz.zeroValue0
 t3:= Tryz.underlying3
 a3:= Tryz.isAgg3
 z3:= Tryz.sizeOf3
 v3:= Tryz.zeroValue3
 t4:= Tryz.underlying4
 a4:= Tryz.isAgg4
 z4:= Tryz.sizeOf4
 v4:= Tryz.zeroValue4
 t9:= Tryz.underlying9
 a9:= Tryz.isAgg9
 z9:= Tryz.sizeOf9
 v9:= Tryz.zeroValue9
 t20:= Tryz.underlying20
 a20:= Tryz.isAgg20
 z20:= Tryz.sizeOf20
 v20:= Tryz.zeroValue20
 t22:= Tryz.underlying23
 a22:= Tryz.isAgg23
 z22:= Tryz.sizeOf23
 v22:= Tryz.zeroValue23 }
theorem Bw6:A2b Tryz.prog 183 55 24:=Bqf Bgt rfl rfl (by kernel_rfl) (sz:=2) (by kernel_rfl) (by decide) (fun x h=>by injection (h:some (LX.t55 [])=some x) with h;subst h;rfl)
def grw(f:Nat):Option (Nat×Nat):=match Nat.beq f 183 with
 |true=>some (55,24)
 |false=>none
theorem B06:Awp Tryz.prog grw:=by
 intro f e b h
 unfold grw at h
 cases h183:Nat.beq f 183 with
 |true=>
  rw [h183] at h
  have:=Nat.eq_of_beq_eq_true h183
  subst this
  injection h with h
  injection h with h1 h2
  subst h1;subst h2
  exact Bw6
 |false=>
  rw [h183] at h
  cases h
def EI(O:Bk)(M d:Nat):Inl:=evI Tryz.prog inl grw jn4 O M d
def EV(O:Bk)(M d:Nat):EC→St→(Ex→St→Prop)→Prop:=evC Tryz.prog O (evI Tryz.prog inl grw jn4 O M d) M
def EW(O:Bk)(M d:Nat):List ResultVar→EC→List PV→(PV→Prop)→Prop:=Bw2 Tryz.prog O (evI Tryz.prog inl grw jn4 O M d) M
def YO(O:Bk)(M d f:Nat)(a:List PV)(b:List (Nat×List PV))(k:PV→List (Nat×List PV)→Prop):Prop:=Yo Tryz.prog inl grw O M d f a b k
abbrev Ct:=PV→Prop
abbrev Be:=Ex→St→Prop
abbrev Bx:=PV→List (Nat×List PV)→Prop
def EC.u(c:EC):EC:=c.r.r
def EC.w(c:EC):EC:=c.u.u
def EC.x(c:EC):EC:=c.w.w
def rl(l:List Nat)(b:Bool:=false):List Bool:=match l with
 | []=> []
 |n::l=>List.replicate n b++rl l (!b)
def RS(f:Func):List ResultVar:=f.results.toList
abbrev Gk:=En Tryz.prog
def oL(l:List Gk):Bk:=orL l
theorem oS(l:List Gk):Ep Tryz.prog (oL l):=Bn7 l
noncomputable def CC(f:Func):EC:=(cFn Tryz.prog inl f).getD .stop
theorem hF{f:Nat}{fn:Func}(hf: Tryz.prog.funcs[f]? =some fn){C:Bk}(hC:Ep Tryz.prog C)(L:Nat){args:List PV}{ρ :Type}{r: ρ}{F:Option ρ}{er: ρ→PV}(he:∀kk,EW C L 9 (RS fn) (CC fn) args kk=ob F (fun x=>kk (er x)))(h:F=some r)
  (hn:((cFn Tryz.prog inl fn).isSome && Nat.ble args.length fn.ntmps)=true:=by kernel_rfl):Ho Tryz.prog f args er r:=by
 have h1:=(Bool.and_eq_true _ _).mp hn
 have hc:cFn Tryz.prog inl fn=some (CC fn):=by
  unfold CC
  cases e:cFn Tryz.prog inl fn with
  |none=>rw [e] at h1;cases h1.1
  |some c=>rfl
 exact hE B06 hC mixed hf hc h1.2 he h
def EC.put:List Bool→EC→EC→EC
 | [],z,_=>z
 |true::p,z,.seq a b=> .seq (EC.put p z a) b
 |false::p,z,.seq a b=> .seq a (EC.put p z b)
 |true::p,z,.cond o a b=> .cond o (EC.put p z a) b
 |false::p,z,.cond o a b=> .cond o a (EC.put p z b)
 |true::p,z,.block i b=> .block i (EC.put p z b)
 |true::p,z,.loop k b=> .loop k (EC.put p z b)
 |_,_,c=>c
abbrev Cw:=Int×Int
abbrev Cs:=Int×List ByteArray×List Bool
abbrev Ls:=Int×List ByteArray
abbrev Tu4:=Int×Int×List ByteArray×List Bool
abbrev v6:=Int×Bool
abbrev Tu6:=Int×Bool×Int
abbrev Tu7:=Int×List ByteArray×Int
abbrev Tu8:=Int×List Bq×List Bool
abbrev Tu9:=Int×Int×List ByteArray×Int
abbrev Bf9:=Int×Int×List Bq×List Bool
abbrev Cx:=Nat×Cw
abbrev Sz:=Nat×Tu4
def cl3:Cd (List Int):=⟨fun x=> .lst false (.t3 x),dl3,fun h=>LeI.of_le (Qw h)⟩
def cl9:Cd (List ByteArray):=⟨fun x=> .lst false (.t9 x),dl9,fun h=>LeI.of_le (O6 h)⟩
def Cjo:Cd (List (List Ao)):=⟨fun x=> .lst false (.t23 x),B3q,fun h=>LeI.of_le (Bv9 h)⟩
def Cjp:Cd (List Ab):=⟨fun x=> .lst false (.t38 x),Az6,fun h=>LeI.of_le (Aes h)⟩
def B3l:Cd (List Int):=⟨fun x=> .lst false (.t41 x),B3r,fun h=>LeI.of_le (Bwb h)⟩
def Bpx:Cd (List Ao):=⟨fun x=> .lst false (.t55 x),A5u,fun h=>LeI.of_le (Aju h)⟩
def Cjq:Cd (List Al):=⟨fun x=> .lst false (.t57 x),A3b,fun h=>LeI.of_le (Ahf h)⟩
def Acb:Cd (List Ac):=⟨fun x=> .lst false (.t69 x),A9z,fun h=>LeI.of_le (Ans h)⟩
def Ae(x:Aa):List PV:= [S x.Name,.lst false (.t57 x.Vars),.lst false (.t116 x.Resources),.lst false (.t123 x.Stores),.lst false (.t127 x.Belts),.lst false (.t9 x.Queues),.lst false (.t9 x.Streams),.lst false (.t9 x.Tallies),.lst false (.t9 x.Levels),.lst false (.t9 x.Counts),.lst false (.t60 x.Routines),.lst false (.t133 x.Starts),.lst false (.t151 x.Laws)]
def Aih(r:List PV):Option Aa:=match r with
 | [c0,c1,c2,c3,c4,c5,c6,c7,c8,c9,c10,c11,c12]=>match O3 c0,A3b c1,A7i c2,A7j c3,A7k c4,dl9 c5,dl9 c6,dl9 c7,dl9 c8,dl9 c9,Bns c10,A7l c11,A7m c12 with
  |some a0,some a1,some a2,some a3,some a4,some a5,some a6,some a7,some a8,some a9,some a10,some a11,some a12=>some (Aa.mk a0 a1 a2 a3 a4 a5 a6 a7 a8 a9 a10 a11 a12)
  |_,_,_,_,_,_,_,_,_,_,_,_,_=>none
 |_=>none
theorem Au4(r:List PV)(x:Aa)(h:Aih r=some x):B8 r (Ae x):=by
 unfold Aih at h
 split at h
 ·split at h
  ·rename_i h0 h1 h2 h3 h4 h5 h6 h7 h8 h9 h10 h11 h12
   injection h with h;subst h;exact (.cons (C4 h0) (.cons (Ahf h1) (.cons (Au5 h2) (.cons (Au6 h3) (.cons (Au7 h4) (.cons (O6 h5) (.cons (O6 h6) (.cons (O6 h7) (.cons (O6 h8) (.cons (O6 h9) (.cons (A1l h10) (.cons (Au8 h11) (.cons (Au9 h12) B8.nil)))))))))))))
  ·cases h
 ·cases h
def Af9:PV→Option Aa
 | .agg r=>Aih r
 |_=>none
theorem Ath{p:PV}{x:Aa}(h:Af9 p=some x):LeI p (.agg (Ae x)):=by
 unfold Af9 at h
 split at h
 ·exact .agg (Au4 _ _ h)
 ·cases h
def C0:Cd Aa:=⟨fun x=> .agg (Ae x),Af9,Ath⟩
def J4(x:Aq):List PV:= [.lst false (.t57 x.Params),.lst false (.t55 x.Locals),S x.Site.Name,.lst false (.t57 x.Site.Vars),.lst false (.t116 x.Site.Resources),.lst false (.t123 x.Site.Stores),.lst false (.t127 x.Site.Belts),.lst false (.t9 x.Site.Queues),.lst false (.t9 x.Site.Streams),.lst false (.t9 x.Site.Tallies),.lst false (.t9 x.Site.Levels),.lst false (.t9 x.Site.Counts),.lst false (.t60 x.Site.Routines),.lst false (.t133 x.Site.Starts),.lst false (.t151 x.Site.Laws)]
def Awu(r:List PV):Option Aq:=match r with
 | [c0,c1,c2,c3,c4,c5,c6,c7,c8,c9,c10,c11,c12,c13,c14]=>match A3b c0,A5u c1,O3 c2,A3b c3,A7i c4,A7j c5,A7k c6,dl9 c7,dl9 c8,dl9 c9,dl9 c10,dl9 c11,Bns c12,A7l c13,A7m c14 with
  |some a0,some a1,some a2,some a3,some a4,some a5,some a6,some a7,some a8,some a9,some a10,some a11,some a12,some a13,some a14=>some (Aq.mk a0 a1 (Aa.mk a2 a3 a4 a5 a6 a7 a8 a9 a10 a11 a12 a13 a14))
  |_,_,_,_,_,_,_,_,_,_,_,_,_,_,_=>none
 |_=>none
theorem A9m(r:List PV)(x:Aq)(h:Awu r=some x):B8 r (J4 x):=by
 unfold Awu at h
 split at h
 ·split at h
  ·rename_i h0 h1 h2 h3 h4 h5 h6 h7 h8 h9 h10 h11 h12 h13 h14
   injection h with h;subst h;exact (.cons (Ahf h0) (.cons (Aju h1) (.cons (C4 h2) (.cons (Ahf h3) (.cons (Au5 h4) (.cons (Au6 h5) (.cons (Au7 h6) (.cons (O6 h7) (.cons (O6 h8) (.cons (O6 h9) (.cons (O6 h10) (.cons (O6 h11) (.cons (A1l h12) (.cons (Au8 h13) (.cons (Au9 h14) B8.nil)))))))))))))))
  ·cases h
 ·cases h
def Atf:PV→Option Aq
 | .agg r=>Awu r
 |_=>none
theorem A5m{p:PV}{x:Aq}(h:Atf p=some x):LeI p (.agg (J4 x)):=by
 unfold Atf at h
 split at h
 ·exact .agg (A9m _ _ h)
 ·cases h
def Ew:Cd Aq:=⟨fun x=> .agg (J4 x),Atf,A5m⟩
def C5(x:Ab):List PV:= [I x.Op,S x.Name,I x.N,.lst false (.t38 x.Kids)]
def Atk(r:List PV):Option Ab:=match r with
 | [c0,c1,c2,c3]=>match Et .i64 c0,O3 c1,Et .i64 c2,Az6 c3 with
  |some a0,some a1,some a2,some a3=>some (Ab.mk a0 a1 a2 a3)
  |_,_,_,_=>none
 |_=>none
theorem A5q(r:List PV)(x:Ab)(h:Atk r=some x):B8 r (C5 x):=by
 unfold Atk at h
 split at h
 ·split at h
  ·rename_i h0 h1 h2 h3
   injection h with h;subst h;exact (.cons (Bm h0) (.cons (C4 h1) (.cons (Bm h2) (.cons (Aes h3) B8.nil))))
  ·cases h
 ·cases h
def Aqc:PV→Option Ab
 | .agg r=>Atk r
 |_=>none
theorem A21{p:PV}{x:Ab}(h:Aqc p=some x):LeI p (.agg (C5 x)):=by
 unfold Aqc at h
 split at h
 ·exact .agg (A5q _ _ h)
 ·cases h
def Bs:Cd Ab:=⟨fun x=> .agg (C5 x),Aqc,A21⟩
def Az(x:Ad):List PV:= [S x.Name,.lst false (.t57 x.Params),.lst false (.t32 x.Sites),.lst false (.t139 x.Links)]
def Aqh(r:List PV):Option Ad:=match r with
 | [c0,c1,c2,c3]=>match O3 c0,A3b c1,Bwa c2,Bi0 c3 with
  |some a0,some a1,some a2,some a3=>some (Ad.mk a0 a1 a2 a3)
  |_,_,_,_=>none
 |_=>none
theorem A26(r:List PV)(x:Ad)(h:Aqh r=some x):B8 r (Az x):=by
 unfold Aqh at h
 split at h
 ·split at h
  ·rename_i h0 h1 h2 h3
   injection h with h;subst h;exact (.cons (C4 h0) (.cons (Ahf h1) (.cons (Bi3 h2) (.cons (Bcy h3) B8.nil))))
  ·cases h
 ·cases h
def Anm:PV→Option Ad
 | .agg r=>Aqh r
 |_=>none
theorem Az2{p:PV}{x:Ad}(h:Anm p=some x):LeI p (.agg (Az x)):=by
 unfold Anm at h
 split at h
 ·exact .agg (A26 _ _ h)
 ·cases h
def D1:Cd Ad:=⟨fun x=> .agg (Az x),Anm,Az2⟩
def Nm(x:Ao):List PV:= [S x.Name,I x.Type_]
def Bz(x:Al):List PV:= [S x.Name,I x.Type_,I x.N]
def Aqj(r:List PV):Option Al:=match r with
 | [c0,c1,c2]=>match O3 c0,Et .i64 c1,Et .i64 c2 with
  |some a0,some a1,some a2=>some (Al.mk a0 a1 a2)
  |_,_,_=>none
 |_=>none
theorem A28(r:List PV)(x:Al)(h:Aqj r=some x):B8 r (Bz x):=by
 unfold Aqj at h
 split at h
 ·split at h
  ·rename_i h0 h1 h2
   injection h with h;subst h;exact (.cons (C4 h0) (.cons (Bm h1) (.cons (Bm h2) B8.nil)))
  ·cases h
 ·cases h
def Anp:PV→Option Al
 | .agg r=>Aqj r
 |_=>none
theorem Az4{p:PV}{x:Al}(h:Anp p=some x):LeI p (.agg (Bz x)):=by
 unfold Anp at h
 split at h
 ·exact .agg (A28 _ _ h)
 ·cases h
def A9j:Cd Al:=⟨fun x=> .agg (Bz x),Anp,Az4⟩
def B3(x:Ai):List PV:= [S x.Name,.lst false (.t55 x.Params),.lst false (.t55 x.Locals),.lst false (.t69 x.Body)]
def Akm(r:List PV):Option Ai:=match r with
 | [c0,c1,c2,c3]=>match O3 c0,A5u c1,A5u c2,A9z c3 with
  |some a0,some a1,some a2,some a3=>some (Ai.mk a0 a1 a2 a3)
  |_,_,_,_=>none
 |_=>none
theorem Aww(r:List PV)(x:Ai)(h:Akm r=some x):B8 r (B3 x):=by
 unfold Akm at h
 split at h
 ·split at h
  ·rename_i h0 h1 h2 h3
   injection h with h;subst h;exact (.cons (C4 h0) (.cons (Aju h1) (.cons (Aju h2) (.cons (Ans h3) B8.nil))))
  ·cases h
 ·cases h
def Aig:PV→Option Ai
 | .agg r=>Akm r
 |_=>none
theorem Au3{p:PV}{x:Ai}(h:Aig p=some x):LeI p (.agg (B3 x)):=by
 unfold Aig at h
 split at h
 ·exact .agg (Aww _ _ h)
 ·cases h
def w3:Cd Ai:=⟨fun x=> .agg (B3 x),Aig,Au3⟩
def Tc(x:Bf):List PV:= [I x.Op,I x.A,I x.B,I x.N,.lst false (.t3 x.Values),.lst false (.t3 x.Weights)]
def Atj(r:List PV):Option Bf:=match r with
 | [c0,c1,c2,c3,c4,c5]=>match Et .i64 c0,Et .i64 c1,Et .i64 c2,Et .i64 c3,dl3 c4,dl3 c5 with
  |some a0,some a1,some a2,some a3,some a4,some a5=>some (Bf.mk a0 a1 a2 a3 a4 a5)
  |_,_,_,_,_,_=>none
 |_=>none
theorem A5p(r:List PV)(x:Bf)(h:Atj r=some x):B8 r (Tc x):=by
 unfold Atj at h
 split at h
 ·split at h
  ·rename_i h0 h1 h2 h3 h4 h5
   injection h with h;subst h;exact (.cons (Bm h0) (.cons (Bm h1) (.cons (Bm h2) (.cons (Bm h3) (.cons (Qw h4) (.cons (Qw h5) B8.nil))))))
  ·cases h
 ·cases h
def Aqb:PV→Option Bf
 | .agg r=>Atj r
 |_=>none
theorem A20{p:PV}{x:Bf}(h:Aqb p=some x):LeI p (.agg (Tc x)):=by
 unfold Aqb at h
 split at h
 ·exact .agg (A5p _ _ h)
 ·cases h
def Qa:Cd Bf:=⟨fun x=> .agg (Tc x),Aqb,A20⟩
def C7(x:Ac):List PV:= [I x.Op,S x.Name,S x.Of,I x.E.Op,S x.E.Name,I x.E.N,.lst false (.t38 x.E.Kids),I x.F.Op,S x.F.Name,I x.F.N,.lst false (.t38 x.F.Kids),.lst false (.t38 x.Args),I x.Dist.Op,I x.Dist.A,I x.Dist.B,I x.Dist.N,.lst false (.t3 x.Dist.Values),.lst false (.t3 x.Dist.Weights),B x.Flag,.lst false (.t69 x.Body),.lst false (.t69 x.Else)]
def Atl(r:List PV):Option Ac:=match r with
 | [c0,c1,c2,c3,c4,c5,c6,c7,c8,c9,c10,c11,c12,c13,c14,c15,c16,c17,c18,c19,c20]=>match Et .i64 c0,O3 c1,O3 c2,Et .i64 c3,O3 c4,Et .i64 c5,Az6 c6,Et .i64 c7,O3 c8,Et .i64 c9,Az6 c10,Az6 c11,Et .i64 c12,Et .i64 c13,Et .i64 c14,Et .i64 c15,dl3 c16,dl3 c17,R3 c18,A9z c19,A9z c20 with
  |some a0,some a1,some a2,some a3,some a4,some a5,some a6,some a7,some a8,some a9,some a10,some a11,some a12,some a13,some a14,some a15,some a16,some a17,some a18,some a19,some a20=>some (Ac.mk a0 a1 a2 (Ab.mk a3 a4 a5 a6) (Ab.mk a7 a8 a9 a10) a11 (Bf.mk a12 a13 a14 a15 a16 a17) a18 a19 a20)
  |_,_,_,_,_,_,_,_,_,_,_,_,_,_,_,_,_,_,_,_,_=>none
 |_=>none
theorem A5r(r:List PV)(x:Ac)(h:Atl r=some x):B8 r (C7 x):=by
 unfold Atl at h
 split at h
 ·split at h
  ·rename_i h0 h1 h2 h3 h4 h5 h6 h7 h8 h9 h10 h11 h12 h13 h14 h15 h16 h17 h18 h19 h20
   injection h with h;subst h;exact (.cons (Bm h0) (.cons (C4 h1) (.cons (C4 h2) (.cons (Bm h3) (.cons (C4 h4) (.cons (Bm h5) (.cons (Aes h6) (.cons (Bm h7) (.cons (C4 h8) (.cons (Bm h9) (.cons (Aes h10) (.cons (Aes h11) (.cons (Bm h12) (.cons (Bm h13) (.cons (Bm h14) (.cons (Bm h15) (.cons (Qw h16) (.cons (Qw h17) (.cons (F0 h18) (.cons (Ans h19) (.cons (Ans h20) B8.nil)))))))))))))))))))))
  ·cases h
 ·cases h
def Aqd:PV→Option Ac
 | .agg r=>Atl r
 |_=>none
theorem A22{p:PV}{x:Ac}(h:Aqd p=some x):LeI p (.agg (C7 x)):=by
 unfold Aqd at h
 split at h
 ·exact .agg (A5r _ _ h)
 ·cases h
def Hj:Cd Ac:=⟨fun x=> .agg (C7 x),Aqd,A22⟩
def F5(x:Aj):List PV:= [S x.u_m.Name,.lst false (.t57 x.u_m.Params),.lst false (.t32 x.u_m.Sites),.lst false (.t139 x.u_m.Links),I x.u_site,.lst false (.t57 x.u_env.Params),.lst false (.t55 x.u_env.Locals),S x.u_env.Site.Name,.lst false (.t57 x.u_env.Site.Vars),.lst false (.t116 x.u_env.Site.Resources),.lst false (.t123 x.u_env.Site.Stores),.lst false (.t127 x.u_env.Site.Belts),.lst false (.t9 x.u_env.Site.Queues),.lst false (.t9 x.u_env.Site.Streams),.lst false (.t9 x.u_env.Site.Tallies),.lst false (.t9 x.u_env.Site.Levels),.lst false (.t9 x.u_env.Site.Counts),.lst false (.t60 x.u_env.Site.Routines),.lst false (.t133 x.u_env.Site.Starts),.lst false (.t151 x.u_env.Site.Laws)]
def Acr(r:List PV):Option Aj:=match r with
 | [c0,c1,c2,c3,c4,c5,c6,c7,c8,c9,c10,c11,c12,c13,c14,c15,c16,c17,c18,c19]=>match O3 c0,A3b c1,Bwa c2,Bi0 c3,Et .i64 c4,A3b c5,A5u c6,O3 c7,A3b c8,A7i c9,A7j c10,A7k c11,dl9 c12,dl9 c13,dl9 c14,dl9 c15,dl9 c16,Bns c17,A7l c18,A7m c19 with
  |some a0,some a1,some a2,some a3,some a4,some a5,some a6,some a7,some a8,some a9,some a10,some a11,some a12,some a13,some a14,some a15,some a16,some a17,some a18,some a19=>some (Aj.mk (Ad.mk a0 a1 a2 a3) a4 (Aq.mk a5 a6 (Aa.mk a7 a8 a9 a10 a11 a12 a13 a14 a15 a16 a17 a18 a19)))
  |_,_,_,_,_,_,_,_,_,_,_,_,_,_,_,_,_,_,_,_=>none
 |_=>none
theorem Ar1(r:List PV)(x:Aj)(h:Acr r=some x):B8 r (F5 x):=by
 unfold Acr at h
 split at h
 ·split at h
  ·rename_i h0 h1 h2 h3 h4 h5 h6 h7 h8 h9 h10 h11 h12 h13 h14 h15 h16 h17 h18 h19
   injection h with h;subst h;exact (.cons (C4 h0) (.cons (Ahf h1) (.cons (Bi3 h2) (.cons (Bcy h3) (.cons (Bm h4) (.cons (Ahf h5) (.cons (Aju h6) (.cons (C4 h7) (.cons (Ahf h8) (.cons (Au5 h9) (.cons (Au6 h10) (.cons (Au7 h11) (.cons (O6 h12) (.cons (O6 h13) (.cons (O6 h14) (.cons (O6 h15) (.cons (O6 h16) (.cons (A1l h17) (.cons (Au8 h18) (.cons (Au9 h19) B8.nil))))))))))))))))))))
  ·cases h
 ·cases h
def w7:PV→Option Aj
 | .ref r=>Acr r
 |_=>none
theorem Aqm{p:PV}{x:Aj}(h:w7 p=some x):LeI p (.ref (F5 x)):=by
 unfold w7 at h
 split at h
 ·exact .ref (Ar1 _ _ h)
 ·cases h
def Dv:Cd Aj:=⟨fun x=> .ref (F5 x),w7,Aqm⟩
def Aqp(x:Bt):List PV:= [B x.u_code]
def Aqk(r:List PV):Option Bt:=match r with
 | [c0]=>match R3 c0 with
  |some a0=>some (Bt.mk a0)
  |_=>none
 |_=>none
theorem A29(r:List PV)(x:Bt)(h:Aqk r=some x):B8 r (Aqp x):=by
 unfold Aqk at h
 split at h
 ·split at h
  ·rename_i h0
   injection h with h;subst h;exact (.cons (F0 h0) B8.nil)
  ·cases h
 ·cases h
def Anq:PV→Option Bt
 | .agg r=>Aqk r
 |_=>none
theorem Az5{p:PV}{x:Bt}(h:Anq p=some x):LeI p (.agg (Aqp x)):=by
 unfold Anq at h
 split at h
 ·exact .agg (A29 _ _ h)
 ·cases h
def Qb:Cd Bt:=⟨fun x=> .agg (Aqp x),Anq,Az5⟩
def S2(x:F4):List PV:= [S x.Stream,I x.Up.Op,I x.Up.A,I x.Up.B,I x.Up.N,.lst false (.t3 x.Up.Values),.lst false (.t3 x.Up.Weights),I x.Down.Op,I x.Down.A,I x.Down.B,I x.Down.N,.lst false (.t3 x.Down.Values),.lst false (.t3 x.Down.Weights)]
def Aqg(r:List PV):Option F4:=match r with
 | [c0,c1,c2,c3,c4,c5,c6,c7,c8,c9,c10,c11,c12]=>match O3 c0,Et .i64 c1,Et .i64 c2,Et .i64 c3,Et .i64 c4,dl3 c5,dl3 c6,Et .i64 c7,Et .i64 c8,Et .i64 c9,Et .i64 c10,dl3 c11,dl3 c12 with
  |some a0,some a1,some a2,some a3,some a4,some a5,some a6,some a7,some a8,some a9,some a10,some a11,some a12=>some (F4.mk a0 (Bf.mk a1 a2 a3 a4 a5 a6) (Bf.mk a7 a8 a9 a10 a11 a12))
  |_,_,_,_,_,_,_,_,_,_,_,_,_=>none
 |_=>none
theorem A25(r:List PV)(x:F4)(h:Aqg r=some x):B8 r (S2 x):=by
 unfold Aqg at h
 split at h
 ·split at h
  ·rename_i h0 h1 h2 h3 h4 h5 h6 h7 h8 h9 h10 h11 h12
   injection h with h;subst h;exact (.cons (C4 h0) (.cons (Bm h1) (.cons (Bm h2) (.cons (Bm h3) (.cons (Bm h4) (.cons (Qw h5) (.cons (Qw h6) (.cons (Bm h7) (.cons (Bm h8) (.cons (Bm h9) (.cons (Bm h10) (.cons (Qw h11) (.cons (Qw h12) B8.nil)))))))))))))
  ·cases h
 ·cases h
def Anl:PV→Option F4
 | .agg r=>Aqg r
 |_=>none
theorem Az1{p:PV}{x:F4}(h:Anl p=some x):LeI p (.agg (S2 x)):=by
 unfold Anl at h
 split at h
 ·exact .agg (A25 _ _ h)
 ·cases h
def A9i:Cd F4:=⟨fun x=> .agg (S2 x),Anl,Az1⟩
def Bo(x:Af):List PV:= [S x.Name,I x.Units,.lst false (.t178 x.Shift),I x.Cycle,S x.Fault.Stream,I x.Fault.Up.Op,I x.Fault.Up.A,I x.Fault.Up.B,I x.Fault.Up.N,.lst false (.t3 x.Fault.Up.Values),.lst false (.t3 x.Fault.Up.Weights),I x.Fault.Down.Op,I x.Fault.Down.A,I x.Fault.Down.B,I x.Fault.Down.N,.lst false (.t3 x.Fault.Down.Values),.lst false (.t3 x.Fault.Down.Weights)]
def f5(r:List PV):Option Af:=match r with
 | [c0,c1,c2,c3,c4,c5,c6,c7,c8,c9,c10,c11,c12,c13,c14,c15,c16]=>match O3 c0,Et .i64 c1,Bi1 c2,Et .i64 c3,O3 c4,Et .i64 c5,Et .i64 c6,Et .i64 c7,Et .i64 c8,dl3 c9,dl3 c10,Et .i64 c11,Et .i64 c12,Et .i64 c13,Et .i64 c14,dl3 c15,dl3 c16 with
  |some a0,some a1,some a2,some a3,some a4,some a5,some a6,some a7,some a8,some a9,some a10,some a11,some a12,some a13,some a14,some a15,some a16=>some (Af.mk a0 a1 a2 a3 (F4.mk a4 (Bf.mk a5 a6 a7 a8 a9 a10) (Bf.mk a11 a12 a13 a14 a15 a16)))
  |_,_,_,_,_,_,_,_,_,_,_,_,_,_,_,_,_=>none
 |_=>none
theorem Aoz(r:List PV)(x:Af)(h:f5 r=some x):B8 r (Bo x):=by
 unfold f5 at h
 split at h
 ·split at h
  ·rename_i h0 h1 h2 h3 h4 h5 h6 h7 h8 h9 h10 h11 h12 h13 h14 h15 h16
   injection h with h;subst h;exact (.cons (C4 h0) (.cons (Bm h1) (.cons (Bcz h2) (.cons (Bm h3) (.cons (C4 h4) (.cons (Bm h5) (.cons (Bm h6) (.cons (Bm h7) (.cons (Bm h8) (.cons (Qw h9) (.cons (Qw h10) (.cons (Bm h11) (.cons (Bm h12) (.cons (Bm h13) (.cons (Bm h14) (.cons (Qw h15) (.cons (Qw h16) B8.nil)))))))))))))))))
  ·cases h
 ·cases h
def Yn:PV→Option Af
 | .agg r=>f5 r
 |_=>none
theorem Ann{p:PV}{x:Af}(h:Yn p=some x):LeI p (.agg (Bo x)):=by
 unfold Yn at h
 split at h
 ·exact .agg (Aoz _ _ h)
 ·cases h
def Ym:Cd Af:=⟨fun x=> .agg (Bo x),Yn,Ann⟩
def Cr(x:Ap):List PV:= [S x.Name,I x.Room,I x.Policy]
def Cy(x:Ar):List PV:= [S x.Name,I x.Length,I x.Step]
def Nn(x:Bh):List PV:= [S x.Routine,.lst false (.t3 x.Args),I x.At,I x.Every,I x.Until]
def Aqi(r:List PV):Option Bh:=match r with
 | [c0,c1,c2,c3,c4]=>match O3 c0,dl3 c1,Et .i64 c2,Et .i64 c3,Et .i64 c4 with
  |some a0,some a1,some a2,some a3,some a4=>some (Bh.mk a0 a1 a2 a3 a4)
  |_,_,_,_,_=>none
 |_=>none
theorem A27(r:List PV)(x:Bh)(h:Aqi r=some x):B8 r (Nn x):=by
 unfold Aqi at h
 split at h
 ·split at h
  ·rename_i h0 h1 h2 h3 h4
   injection h with h;subst h;exact (.cons (C4 h0) (.cons (Qw h1) (.cons (Bm h2) (.cons (Bm h3) (.cons (Bm h4) B8.nil)))))
  ·cases h
 ·cases h
def Ano:PV→Option Bh
 | .agg r=>Aqi r
 |_=>none
theorem Az3{p:PV}{x:Bh}(h:Ano p=some x):LeI p (.agg (Nn x)):=by
 unfold Ano at h
 split at h
 ·exact .agg (A27 _ _ h)
 ·cases h
def Au1:Cd Bh:=⟨fun x=> .agg (Nn x),Ano,Az3⟩
def I5(x:Bg):List PV:= [S x.From,S x.To,I x.Delay]
def C6(x:Ax):List PV:= [S x.Name,.lst false (.t186 x.Terms),I x.Total]
def Awv(r:List PV):Option Ax:=match r with
 | [c0,c1,c2]=>match O3 c0,Bi2 c1,Et .i64 c2 with
  |some a0,some a1,some a2=>some (Ax.mk a0 a1 a2)
  |_,_,_=>none
 |_=>none
theorem A9n(r:List PV)(x:Ax)(h:Awv r=some x):B8 r (C6 x):=by
 unfold Awv at h
 split at h
 ·split at h
  ·rename_i h0 h1 h2
   injection h with h;subst h;exact (.cons (C4 h0) (.cons (Bc0 h1) (.cons (Bm h2) B8.nil)))
  ·cases h
 ·cases h
def Atg:PV→Option Ax
 | .agg r=>Awv r
 |_=>none
theorem A5n{p:PV}{x:Ax}(h:Atg p=some x):LeI p (.agg (C6 x)):=by
 unfold Atg at h
 split at h
 ·exact .agg (A9n _ _ h)
 ·cases h
def Bge:Cd Ax:=⟨fun x=> .agg (C6 x),Atg,A5n⟩
def Vj(x:Bn):List PV:= [B x.u_name,B x.u_of,B x.u_e,B x.u_f,B x.u_args,B x.u_dist,B x.u_flag,B x.u_body,B x.u_other]
def Atn(r:List PV):Option Bn:=match r with
 | [c0,c1,c2,c3,c4,c5,c6,c7,c8]=>match R3 c0,R3 c1,R3 c2,R3 c3,R3 c4,R3 c5,R3 c6,R3 c7,R3 c8 with
  |some a0,some a1,some a2,some a3,some a4,some a5,some a6,some a7,some a8=>some (Bn.mk a0 a1 a2 a3 a4 a5 a6 a7 a8)
  |_,_,_,_,_,_,_,_,_=>none
 |_=>none
theorem A5t(r:List PV)(x:Bn)(h:Atn r=some x):B8 r (Vj x):=by
 unfold Atn at h
 split at h
 ·split at h
  ·rename_i h0 h1 h2 h3 h4 h5 h6 h7 h8
   injection h with h;subst h;exact (.cons (F0 h0) (.cons (F0 h1) (.cons (F0 h2) (.cons (F0 h3) (.cons (F0 h4) (.cons (F0 h5) (.cons (F0 h6) (.cons (F0 h7) (.cons (F0 h8) B8.nil)))))))))
  ·cases h
 ·cases h
def Aqf:PV→Option Bn
 | .agg r=>Atn r
 |_=>none
theorem A24{p:PV}{x:Bn}(h:Aqf p=some x):LeI p (.agg (Vj x)):=by
 unfold Aqf at h
 split at h
 ·exact .agg (A5t _ _ h)
 ·cases h
def Ay9:Cd Bn:=⟨fun x=> .agg (Vj x),Aqf,A24⟩
def w8(x:Cu):List PV:= [I x.At,I x.Units]
def D3(x:Au):List PV:= [I x.Coef,S x.What,S x.Name]
def Atm(r:List PV):Option Au:=match r with
 | [c0,c1,c2]=>match Et .i64 c0,O3 c1,O3 c2 with
  |some a0,some a1,some a2=>some (Au.mk a0 a1 a2)
  |_,_,_=>none
 |_=>none
theorem A5s(r:List PV)(x:Au)(h:Atm r=some x):B8 r (D3 x):=by
 unfold Atm at h
 split at h
 ·split at h
  ·rename_i h0 h1 h2
   injection h with h;subst h;exact (.cons (Bm h0) (.cons (C4 h1) (.cons (C4 h2) B8.nil)))
  ·cases h
 ·cases h
def Aqe:PV→Option Au
 | .agg r=>Atm r
 |_=>none
theorem A23{p:PV}{x:Au}(h:Aqe p=some x):LeI p (.agg (D3 x)):=by
 unfold Aqe at h
 split at h
 ·exact .agg (A5s _ _ h)
 ·cases h
def Ay8:Cd Au:=⟨fun x=> .agg (D3 x),Aqe,A23⟩
def Acu(x:B9):List PV:= [B x.Name,B x.Of,B x.E,B x.F,B x.Args,B x.Dist,B x.Flag,B x.Body,B x.Else]
def Ati(r:List PV):Option B9:=match r with
 | [c0,c1,c2,c3,c4,c5,c6,c7,c8]=>match R3 c0,R3 c1,R3 c2,R3 c3,R3 c4,R3 c5,R3 c6,R3 c7,R3 c8 with
  |some a0,some a1,some a2,some a3,some a4,some a5,some a6,some a7,some a8=>some (B9.mk a0 a1 a2 a3 a4 a5 a6 a7 a8)
  |_,_,_,_,_,_,_,_,_=>none
 |_=>none
theorem A5o(r:List PV)(x:B9)(h:Ati r=some x):B8 r (Acu x):=by
 unfold Ati at h
 split at h
 ·split at h
  ·rename_i h0 h1 h2 h3 h4 h5 h6 h7 h8
   injection h with h;subst h;exact (.cons (F0 h0) (.cons (F0 h1) (.cons (F0 h2) (.cons (F0 h3) (.cons (F0 h4) (.cons (F0 h5) (.cons (F0 h6) (.cons (F0 h7) (.cons (F0 h8) B8.nil)))))))))
  ·cases h
 ·cases h
def Aqa:PV→Option B9
 | .agg r=>Ati r
 |_=>none
theorem A2z{p:PV}{x:B9}(h:Aqa p=some x):LeI p (.agg (Acu x)):=by
 unfold Aqa at h
 split at h
 ·exact .agg (A5o _ _ h)
 ·cases h
def Bck:Cd B9:=⟨fun x=> .agg (Acu x),Aqa,A2z⟩
end Go.Proofs.YtogleahbpobaiaaGreat.Ev
