import Derived.Test.YtfencmicmnhglaaGreatFW
namespace Go.Proofs.YtfencmicmnhglaaGreat.Ev
open Go An
set_option maxRecDepth 100000
set_option maxHeartbeats 4000000
set_option linter.unusedVariables false
set_option linter.unusedSimpArgs false
set_option linter.unnecessarySimpa false
theorem mixed: Tryz.prog.follows .mixedOrders=true:=by kernel_rfl
def inl:Nat→Bool:=fun f=>inL f [25,26,27,28,36,37,38,39,45,57,58,61,62,63,64,82,83,84,85,86,87,88,89,90,94,95,96,97,98,99,100,101,102,103,104,105,106,107,109,110,111,113,115,116,142,143,144,145,147,148,175,176,177,178,179,180,199,200,201,205,206,214,218,219,220,221,222,223,36,1102476312640,1103003124228]
def jn4:Nat→Bool:=fun f=>inL f [25,45,58,62,63,64,82,83,85,86,89,90,95,96,98,99,106,107,110,115,116,142,143,144,147,176,201,205,214,219,222]
def A11:Go.Shelf.Ren:=⟨fun|4=>175|n=>n,fun|22=>57|25=>190|3=>3|4=>4|9=>9|20=>20|0=>0|n=>n,fun|n=>n⟩
theorem A4x:Go.Proofs.Lays8.n4 Tryz.prog A11:= {
 mixed:=by kernel_rfl
 f4:=⟨Tryz.f175.name,by decide,Tryz.func175.trans (congrArg some (by kernel_rfl))⟩
 t0:= Tryz.underlying0
 a0:= Tryz.isAgg0
 z0:= Tryz.sizeOf0
 v0:= Tryz.zeroValue0
 t3:= Tryz.underlying3
 a3:= Tryz.isAgg3
 z3:= Tryz.sizeOf3
 v3:= Tryz.zeroValue3
 t4:= Tryz.underlying4
 a4:= Tryz.isAgg4
 z4:= Tryz.sizeOf4
 v4:= Tryz.zeroValue4
 t9:= Tryz.underlying9
 a9:= Tryz.isAgg9
 z9:= Tryz.sizeOf9
 v9:= Tryz.zeroValue9
 t20:= Tryz.underlying20
 a20:= Tryz.isAgg20
 z20:= Tryz.sizeOf20
 v20:= Tryz.zeroValue20
 t22:= Tryz.underlying57
 a22:= Tryz.isAgg57
 z22:= Tryz.sizeOf57
 v22:= Tryz.zeroValue57 }
theorem Bj5:As0 Tryz.prog 175 190 24:=Bet A4x rfl rfl (by kernel_rfl) (sz:=2) (by kernel_rfl) (by decide) (fun x h=>by injection (h:some (LX.t190 [])=some x) with h;subst h;rfl)
def grw(f:Nat):Option (Nat×Nat):=match Nat.beq f 175 with
 |true=>some (190,24)
 |false=>none
theorem Boj:Aoi Tryz.prog grw:=by
 intro f e b h
 unfold grw at h
 cases h175:Nat.beq f 175 with
 |true=>
  rw [h175] at h
  have:=Nat.eq_of_beq_eq_true h175
  subst this
  injection h with h
  injection h with h1 h2
  subst h1;subst h2
  exact Bj5
 |false=>
  rw [h175] at h
  cases h
def EI(O:Bq)(M d:Nat):Inl:=evI Tryz.prog inl grw jn4 O M d
def EV(O:Bq)(M d:Nat):EC→St→(Ex→St→Prop)→Prop:=evC Tryz.prog O (evI Tryz.prog inl grw jn4 O M d) M
def EW(O:Bq)(M d:Nat):List ResultVar→EC→List PV→(PV→Prop)→Prop:=Bj1 Tryz.prog O (evI Tryz.prog inl grw jn4 O M d) M
def YO(O:Bq)(M d f:Nat)(a:List PV)(b:List (Nat×List PV))(k:PV→List (Nat×List PV)→Prop):Prop:=Yo Tryz.prog inl grw O M d f a b k
abbrev Il:=PV→Prop
abbrev Br:=Ex→St→Prop
abbrev Bn:=PV→List (Nat×List PV)→Prop
def EC.u(c:EC):EC:=c.r.r
def EC.w(c:EC):EC:=c.u.u
def EC.x(c:EC):EC:=c.w.w
def rl(l:List Nat)(b:Bool:=false):List Bool:=match l with
 | []=> []
 |n::l=>List.replicate n b++rl l (!b)
def lv(x:LX):PV:= .lst false x
def RS(f:Func):List ResultVar:=f.results.toList
abbrev N2:=En Tryz.prog
def oL(l:List N2):Bq:=orL l
theorem oS(l:List N2):Gd Tryz.prog (oL l):=Bck l
noncomputable def CC(f:Func):EC:=(cFn Tryz.prog inl f).getD .stop
theorem hF{f:Nat}{fn:Func}(hf: Tryz.prog.funcs[f]? =some fn){C:Bq}(hC:Gd Tryz.prog C)(L:Nat){args:List PV}{ρ :Type}{r: ρ}{F:Option ρ}{er: ρ→PV}(he:∀kk,EW C L 9 (RS fn) (CC fn) args kk=ob F (fun x=>kk (er x)))(h:F=some r)
  (hn:((cFn Tryz.prog inl fn).isSome && Nat.ble args.length fn.ntmps)=true:=by kernel_rfl):Ho Tryz.prog f args er r:=by
 have h1:=(Bool.and_eq_true _ _).mp hn
 have hc:cFn Tryz.prog inl fn=some (CC fn):=by
  unfold CC
  cases e:cFn Tryz.prog inl fn with
  |none=>rw [e] at h1;cases h1.1
  |some c=>rfl
 exact hE Boj hC mixed hf hc h1.2 he h
def EC.put:List Bool→EC→EC→EC
 | [],z,_=>z
 |true::p,z,.seq a b=> .seq (EC.put p z a) b
 |false::p,z,.seq a b=> .seq a (EC.put p z b)
 |true::p,z,.cond o a b=> .cond o (EC.put p z a) b
 |false::p,z,.cond o a b=> .cond o a (EC.put p z b)
 |true::p,z,.block i b=> .block i (EC.put p z b)
 |true::p,z,.loop k b=> .loop k (EC.put p z b)
 |_,_,c=>c
abbrev D2:=Int×Int
abbrev Cp:=Int×List ByteArray×List Bool
abbrev Tu3:=Int×Int×List ByteArray×List Bool
abbrev Tu4:=Int×Bool
abbrev Tu5:=Int×List Bk×List Bool
abbrev Tu6:=Int×Int×ByteArray×List Ah
abbrev Tu7:=Int×Int×List Bk×List Bool
abbrev Ki:=Nat×D2
abbrev Tu9:=Nat×Tu3
def cl3:Cd (List Int):=⟨fun x=> .lst false (.t3 x),dl3,fun h=>LeI.of_le (M9 h)⟩
def cl9:Cd (List ByteArray):=⟨fun x=> .lst false (.t9 x),dl9,fun h=>LeI.of_le (Ny h)⟩
def A4g:Cd (List Af):=⟨fun x=> .lst false (.t46 x),Brb,fun h=>LeI.of_le (Bje h)⟩
def B3p:Cd (List (List Ap)):=⟨fun x=> .lst false (.t57 x),Brc,fun h=>LeI.of_le (Bjg h)⟩
def Bq4:Cd (List Ag):=⟨fun x=> .lst false (.t70 x),Brd,fun h=>LeI.of_le (Bjh h)⟩
def Bq5:Cd (List Int):=⟨fun x=> .lst false (.t75 x),Bre,fun h=>LeI.of_le (Bji h)⟩
def B3q:Cd (List Ab):=⟨fun x=> .lst false (.t94 x),Arf,fun h=>LeI.of_le (v5 h)⟩
def Aib:Cd (List Ac):=⟨fun x=> .lst false (.t99 x),Azl,fun h=>LeI.of_le (Agb h)⟩
def Bof:Cd (List Ap):=⟨fun x=> .lst false (.t190 x),Akk,fun h=>LeI.of_le (y5 h)⟩
def Ar(x:Ad):List PV:= [S x.Name,.lst false (.t77 x.Params),.lst false (.t55 x.Sites),.lst false (.t167 x.Links)]
def Aii(r:List PV):Option Ad:=match r with
 | [c0,c1,c2,c3]=>match Nu c0,Avz c1,Bjf c2,A7i c3 with
  |some a0,some a1,some a2,some a3=>some (Ad.mk a0 a1 a2 a3)
  |_,_,_,_=>none
 |_=>none
theorem Atk(r:List PV)(x:Ad)(h:Aii r=some x):B2 r (Ar x):=by
 unfold Aii at h
 split at h
 ·split at h
  ·rename_i h0 h1 h2 h3
   injection h with h;subst h;exact (.cons (C0 h0) (.cons (Ac5 h1) (.cons (A7k h2) (.cons (A1h h3) B2.nil))))
  ·cases h
 ·cases h
def Af6:PV→Option Ad
 | .agg r=>Aii r
 |_=>none
theorem Arb{p:PV}{x:Ad}(h:Af6 p=some x):LeI p (.agg (Ar x)):=by
 unfold Af6 at h
 split at h
 ·exact .agg (Atk _ _ h)
 ·cases h
def Ml:Cd Ad:=⟨fun x=> .agg (Ar x),Af6,Arb⟩
def Dy(x:Af):List PV:= [S x.Name,.lst false (.t3 x.Levels)]
def Ae(x:Aa):List PV:= [S x.Name,.lst false (.t77 x.Vars),.lst false (.t145 x.Resources),.lst false (.t151 x.Stores),.lst false (.t155 x.Belts),.lst false (.t9 x.Queues),.lst false (.t9 x.Streams),.lst false (.t9 x.Tallies),.lst false (.t9 x.Levels),.lst false (.t9 x.Counts),.lst false (.t60 x.Routines),.lst false (.t161 x.Starts),.lst false (.t180 x.Laws)]
def Acb(r:List PV):Option Aa:=match r with
 | [c0,c1,c2,c3,c4,c5,c6,c7,c8,c9,c10,c11,c12]=>match Nu c0,Avz c1,Aw2 c2,Aw3 c3,Aw4 c4,dl9 c5,dl9 c6,dl9 c7,dl9 c8,dl9 c9,Bb8 c10,Aw5 c11,Aw6 c12 with
  |some a0,some a1,some a2,some a3,some a4,some a5,some a6,some a7,some a8,some a9,some a10,some a11,some a12=>some (Aa.mk a0 a1 a2 a3 a4 a5 a6 a7 a8 a9 a10 a11 a12)
  |_,_,_,_,_,_,_,_,_,_,_,_,_=>none
 |_=>none
theorem Amx(r:List PV)(x:Aa)(h:Acb r=some x):B2 r (Ae x):=by
 unfold Acb at h
 split at h
 ·split at h
  ·rename_i h0 h1 h2 h3 h4 h5 h6 h7 h8 h9 h10 h11 h12
   injection h with h;subst h;exact (.cons (C0 h0) (.cons (Ac5 h1) (.cons (Amy h2) (.cons (Amz h3) (.cons (Am0 h4) (.cons (Ny h5) (.cons (Ny h6) (.cons (Ny h7) (.cons (Ny h8) (.cons (Ny h9) (.cons (Ash h10) (.cons (Am1 h11) (.cons (Am2 h12) B2.nil)))))))))))))
  ·cases h
 ·cases h
def Aap:PV→Option Aa
 | .agg r=>Acb r
 |_=>none
theorem Ak6{p:PV}{x:Aa}(h:Aap p=some x):LeI p (.agg (Ae x)):=by
 unfold Aap at h
 split at h
 ·exact .agg (Amx _ _ h)
 ·cases h
def I7:Cd Aa:=⟨fun x=> .agg (Ae x),Aap,Ak6⟩
def Bw(x:Ak):List PV:= [S x.Name,.lst false (.t190 x.Params),.lst false (.t190 x.Locals),.lst false (.t99 x.Body)]
def Adt(r:List PV):Option Ak:=match r with
 | [c0,c1,c2,c3]=>match Nu c0,Akk c1,Akk c2,Azl c3 with
  |some a0,some a1,some a2,some a3=>some (Ak.mk a0 a1 a2 a3)
  |_,_,_,_=>none
 |_=>none
theorem Aoo(r:List PV)(x:Ak)(h:Adt r=some x):B2 r (Bw x):=by
 unfold Adt at h
 split at h
 ·split at h
  ·rename_i h0 h1 h2 h3
   injection h with h;subst h;exact (.cons (C0 h0) (.cons (y5 h1) (.cons (y5 h2) (.cons (Agb h3) B2.nil))))
  ·cases h
 ·cases h
def Aca:PV→Option Ak
 | .agg r=>Adt r
 |_=>none
theorem Amw{p:PV}{x:Ak}(h:Aca p=some x):LeI p (.agg (Bw x)):=by
 unfold Aca at h
 split at h
 ·exact .agg (Aoo _ _ h)
 ·cases h
def Ah9:Cd Ak:=⟨fun x=> .agg (Bw x),Aca,Amw⟩
def B3(x:Ag):List PV:= [S x.Name,I x.N]
def Bz(x:Ah):List PV:= [S x.Name,I x.Type_,I x.N]
def F3(x:Ab):List PV:= [I x.Op,S x.Name,I x.N,.lst false (.t94 x.Kids)]
def Ak8(r:List PV):Option Ab:=match r with
 | [c0,c1,c2,c3]=>match Es .i64 c0,Nu c1,Es .i64 c2,Arf c3 with
  |some a0,some a1,some a2,some a3=>some (Ab.mk a0 a1 a2 a3)
  |_,_,_,_=>none
 |_=>none
theorem Avv(r:List PV)(x:Ab)(h:Ak8 r=some x):B2 r (F3 x):=by
 unfold Ak8 at h
 split at h
 ·split at h
  ·rename_i h0 h1 h2 h3
   injection h with h;subst h;exact (.cons (Bj h0) (.cons (C0 h1) (.cons (Bj h2) (.cons (v5 h3) B2.nil))))
  ·cases h
 ·cases h
def Aid:PV→Option Ab
 | .agg r=>Ak8 r
 |_=>none
theorem Atf{p:PV}{x:Ab}(h:Aid p=some x):LeI p (.agg (F3 x)):=by
 unfold Aid at h
 split at h
 ·exact .agg (Avv _ _ h)
 ·cases h
def Ct:Cd Ab:=⟨fun x=> .agg (F3 x),Aid,Atf⟩
def T0(x:Bv):List PV:= [I x.Op,I x.A,I x.B,I x.N,.lst false (.t3 x.Values),.lst false (.t3 x.Weights)]
def Ak7(r:List PV):Option Bv:=match r with
 | [c0,c1,c2,c3,c4,c5]=>match Es .i64 c0,Es .i64 c1,Es .i64 c2,Es .i64 c3,dl3 c4,dl3 c5 with
  |some a0,some a1,some a2,some a3,some a4,some a5=>some (Bv.mk a0 a1 a2 a3 a4 a5)
  |_,_,_,_,_,_=>none
 |_=>none
theorem Avu(r:List PV)(x:Bv)(h:Ak7 r=some x):B2 r (T0 x):=by
 unfold Ak7 at h
 split at h
 ·split at h
  ·rename_i h0 h1 h2 h3 h4 h5
   injection h with h;subst h;exact (.cons (Bj h0) (.cons (Bj h1) (.cons (Bj h2) (.cons (Bj h3) (.cons (M9 h4) (.cons (M9 h5) B2.nil))))))
  ·cases h
 ·cases h
def Aic:PV→Option Bv
 | .agg r=>Ak7 r
 |_=>none
theorem Ate{p:PV}{x:Bv}(h:Aic p=some x):LeI p (.agg (T0 x)):=by
 unfold Aic at h
 split at h
 ·exact .agg (Avu _ _ h)
 ·cases h
def Ac4:Cd Bv:=⟨fun x=> .agg (T0 x),Aic,Ate⟩
def Eo(x:Ac):List PV:= [I x.Op,S x.Name,S x.Of,I x.E.Op,S x.E.Name,I x.E.N,.lst false (.t94 x.E.Kids),I x.F.Op,S x.F.Name,I x.F.N,.lst false (.t94 x.F.Kids),.lst false (.t94 x.Args),I x.Dist.Op,I x.Dist.A,I x.Dist.B,I x.Dist.N,.lst false (.t3 x.Dist.Values),.lst false (.t3 x.Dist.Weights),B x.Flag,.lst false (.t99 x.Body),.lst false (.t99 x.Else)]
def Ak9(r:List PV):Option Ac:=match r with
 | [c0,c1,c2,c3,c4,c5,c6,c7,c8,c9,c10,c11,c12,c13,c14,c15,c16,c17,c18,c19,c20]=>match Es .i64 c0,Nu c1,Nu c2,Es .i64 c3,Nu c4,Es .i64 c5,Arf c6,Es .i64 c7,Nu c8,Es .i64 c9,Arf c10,Arf c11,Es .i64 c12,Es .i64 c13,Es .i64 c14,Es .i64 c15,dl3 c16,dl3 c17,Zt c18,Azl c19,Azl c20 with
  |some a0,some a1,some a2,some a3,some a4,some a5,some a6,some a7,some a8,some a9,some a10,some a11,some a12,some a13,some a14,some a15,some a16,some a17,some a18,some a19,some a20=>some (Ac.mk a0 a1 a2 (Ab.mk a3 a4 a5 a6) (Ab.mk a7 a8 a9 a10) a11 (Bv.mk a12 a13 a14 a15 a16 a17) a18 a19 a20)
  |_,_,_,_,_,_,_,_,_,_,_,_,_,_,_,_,_,_,_,_,_=>none
 |_=>none
theorem Avw(r:List PV)(x:Ac)(h:Ak9 r=some x):B2 r (Eo x):=by
 unfold Ak9 at h
 split at h
 ·split at h
  ·rename_i h0 h1 h2 h3 h4 h5 h6 h7 h8 h9 h10 h11 h12 h13 h14 h15 h16 h17 h18 h19 h20
   injection h with h;subst h;exact (.cons (Bj h0) (.cons (C0 h1) (.cons (C0 h2) (.cons (Bj h3) (.cons (C0 h4) (.cons (Bj h5) (.cons (v5 h6) (.cons (Bj h7) (.cons (C0 h8) (.cons (Bj h9) (.cons (v5 h10) (.cons (v5 h11) (.cons (Bj h12) (.cons (Bj h13) (.cons (Bj h14) (.cons (Bj h15) (.cons (M9 h16) (.cons (M9 h17) (.cons (Lz h18) (.cons (Agb h19) (.cons (Agb h20) B2.nil)))))))))))))))))))))
  ·cases h
 ·cases h
def Aie:PV→Option Ac
 | .agg r=>Ak9 r
 |_=>none
theorem Atg{p:PV}{x:Ac}(h:Aie p=some x):LeI p (.agg (Eo x)):=by
 unfold Aie at h
 split at h
 ·exact .agg (Avw _ _ h)
 ·cases h
def Ty:Cd Ac:=⟨fun x=> .agg (Eo x),Aie,Atg⟩
def Abu(x:Bf):List PV:= [.lst false (.t77 x.Params),.lst false (.t190 x.Locals),S x.Site.Name,.lst false (.t77 x.Site.Vars),.lst false (.t145 x.Site.Resources),.lst false (.t151 x.Site.Stores),.lst false (.t155 x.Site.Belts),.lst false (.t9 x.Site.Queues),.lst false (.t9 x.Site.Streams),.lst false (.t9 x.Site.Tallies),.lst false (.t9 x.Site.Levels),.lst false (.t9 x.Site.Counts),.lst false (.t60 x.Site.Routines),.lst false (.t161 x.Site.Starts),.lst false (.t180 x.Site.Laws)]
def Aon(r:List PV):Option Bf:=match r with
 | [c0,c1,c2,c3,c4,c5,c6,c7,c8,c9,c10,c11,c12,c13,c14]=>match Avz c0,Akk c1,Nu c2,Avz c3,Aw2 c4,Aw3 c5,Aw4 c6,dl9 c7,dl9 c8,dl9 c9,dl9 c10,dl9 c11,Bb8 c12,Aw5 c13,Aw6 c14 with
  |some a0,some a1,some a2,some a3,some a4,some a5,some a6,some a7,some a8,some a9,some a10,some a11,some a12,some a13,some a14=>some (Bf.mk a0 a1 (Aa.mk a2 a3 a4 a5 a6 a7 a8 a9 a10 a11 a12 a13 a14))
  |_,_,_,_,_,_,_,_,_,_,_,_,_,_,_=>none
 |_=>none
theorem Ay7(r:List PV)(x:Bf)(h:Aon r=some x):B2 r (Abu x):=by
 unfold Aon at h
 split at h
 ·split at h
  ·rename_i h0 h1 h2 h3 h4 h5 h6 h7 h8 h9 h10 h11 h12 h13 h14
   injection h with h;subst h;exact (.cons (Ac5 h0) (.cons (y5 h1) (.cons (C0 h2) (.cons (Ac5 h3) (.cons (Amy h4) (.cons (Amz h5) (.cons (Am0 h6) (.cons (Ny h7) (.cons (Ny h8) (.cons (Ny h9) (.cons (Ny h10) (.cons (Ny h11) (.cons (Ash h12) (.cons (Am1 h13) (.cons (Am2 h14) B2.nil)))))))))))))))
  ·cases h
 ·cases h
def Ak5:PV→Option Bf
 | .agg r=>Aon r
 |_=>none
theorem Avt{p:PV}{x:Bf}(h:Ak5 p=some x):LeI p (.agg (Abu x)):=by
 unfold Ak5 at h
 split at h
 ·exact .agg (Ay7 _ _ h)
 ·cases h
def Ab9:Cd Bf:=⟨fun x=> .agg (Abu x),Ak5,Avt⟩
def F1(x:Aj):List PV:= [S x.u_m.Name,.lst false (.t77 x.u_m.Params),.lst false (.t55 x.u_m.Sites),.lst false (.t167 x.u_m.Links),I x.u_site,.lst false (.t77 x.u_env.Params),.lst false (.t190 x.u_env.Locals),S x.u_env.Site.Name,.lst false (.t77 x.u_env.Site.Vars),.lst false (.t145 x.u_env.Site.Resources),.lst false (.t151 x.u_env.Site.Stores),.lst false (.t155 x.u_env.Site.Belts),.lst false (.t9 x.u_env.Site.Queues),.lst false (.t9 x.u_env.Site.Streams),.lst false (.t9 x.u_env.Site.Tallies),.lst false (.t9 x.u_env.Site.Levels),.lst false (.t9 x.u_env.Site.Counts),.lst false (.t60 x.u_env.Site.Routines),.lst false (.t161 x.u_env.Site.Starts),.lst false (.t180 x.u_env.Site.Laws)]
def Z1(r:List PV):Option Aj:=match r with
 | [c0,c1,c2,c3,c4,c5,c6,c7,c8,c9,c10,c11,c12,c13,c14,c15,c16,c17,c18,c19]=>match Nu c0,Avz c1,Bjf c2,A7i c3,Es .i64 c4,Avz c5,Akk c6,Nu c7,Avz c8,Aw2 c9,Aw3 c10,Aw4 c11,dl9 c12,dl9 c13,dl9 c14,dl9 c15,dl9 c16,Bb8 c17,Aw5 c18,Aw6 c19 with
  |some a0,some a1,some a2,some a3,some a4,some a5,some a6,some a7,some a8,some a9,some a10,some a11,some a12,some a13,some a14,some a15,some a16,some a17,some a18,some a19=>some (Aj.mk (Ad.mk a0 a1 a2 a3) a4 (Bf.mk a5 a6 (Aa.mk a7 a8 a9 a10 a11 a12 a13 a14 a15 a16 a17 a18 a19)))
  |_,_,_,_,_,_,_,_,_,_,_,_,_,_,_,_,_,_,_,_=>none
 |_=>none
theorem Ajx(r:List PV)(x:Aj)(h:Z1 r=some x):B2 r (F1 x):=by
 unfold Z1 at h
 split at h
 ·split at h
  ·rename_i h0 h1 h2 h3 h4 h5 h6 h7 h8 h9 h10 h11 h12 h13 h14 h15 h16 h17 h18 h19
   injection h with h;subst h;exact (.cons (C0 h0) (.cons (Ac5 h1) (.cons (A7k h2) (.cons (A1h h3) (.cons (Bj h4) (.cons (Ac5 h5) (.cons (y5 h6) (.cons (C0 h7) (.cons (Ac5 h8) (.cons (Amy h9) (.cons (Amz h10) (.cons (Am0 h11) (.cons (Ny h12) (.cons (Ny h13) (.cons (Ny h14) (.cons (Ny h15) (.cons (Ny h16) (.cons (Ash h17) (.cons (Am1 h18) (.cons (Am2 h19) B2.nil))))))))))))))))))))
  ·cases h
 ·cases h
def Yq:PV→Option Aj
 | .ref r=>Z1 r
 |_=>none
theorem Aim{p:PV}{x:Aj}(h:Yq p=some x):LeI p (.ref (F1 x)):=by
 unfold Yq at h
 split at h
 ·exact .ref (Ajx _ _ h)
 ·cases h
def Dt:Cd Aj:=⟨fun x=> .ref (F1 x),Yq,Aim⟩
def Rj(x:Gf):List PV:= [S x.Stream,I x.Up.Op,I x.Up.A,I x.Up.B,I x.Up.N,.lst false (.t3 x.Up.Values),.lst false (.t3 x.Up.Weights),I x.Down.Op,I x.Down.A,I x.Down.B,I x.Down.N,.lst false (.t3 x.Down.Values),.lst false (.t3 x.Down.Weights)]
def Aih(r:List PV):Option Gf:=match r with
 | [c0,c1,c2,c3,c4,c5,c6,c7,c8,c9,c10,c11,c12]=>match Nu c0,Es .i64 c1,Es .i64 c2,Es .i64 c3,Es .i64 c4,dl3 c5,dl3 c6,Es .i64 c7,Es .i64 c8,Es .i64 c9,Es .i64 c10,dl3 c11,dl3 c12 with
  |some a0,some a1,some a2,some a3,some a4,some a5,some a6,some a7,some a8,some a9,some a10,some a11,some a12=>some (Gf.mk a0 (Bv.mk a1 a2 a3 a4 a5 a6) (Bv.mk a7 a8 a9 a10 a11 a12))
  |_,_,_,_,_,_,_,_,_,_,_,_,_=>none
 |_=>none
theorem Atj(r:List PV)(x:Gf)(h:Aih r=some x):B2 r (Rj x):=by
 unfold Aih at h
 split at h
 ·split at h
  ·rename_i h0 h1 h2 h3 h4 h5 h6 h7 h8 h9 h10 h11 h12
   injection h with h;subst h;exact (.cons (C0 h0) (.cons (Bj h1) (.cons (Bj h2) (.cons (Bj h3) (.cons (Bj h4) (.cons (M9 h5) (.cons (M9 h6) (.cons (Bj h7) (.cons (Bj h8) (.cons (Bj h9) (.cons (Bj h10) (.cons (M9 h11) (.cons (M9 h12) B2.nil)))))))))))))
  ·cases h
 ·cases h
def Af5:PV→Option Gf
 | .agg r=>Aih r
 |_=>none
theorem Ara{p:PV}{x:Gf}(h:Af5 p=some x):LeI p (.agg (Rj x)):=by
 unfold Af5 at h
 split at h
 ·exact .agg (Atj _ _ h)
 ·cases h
def Ay3:Cd Gf:=⟨fun x=> .agg (Rj x),Af5,Ara⟩
def Bl(x:Ai):List PV:= [S x.Name,I x.Units,.lst false (.t184 x.Shift),I x.Cycle,S x.Fault.Stream,I x.Fault.Up.Op,I x.Fault.Up.A,I x.Fault.Up.B,I x.Fault.Up.N,.lst false (.t3 x.Fault.Up.Values),.lst false (.t3 x.Fault.Up.Weights),I x.Fault.Down.Op,I x.Fault.Down.A,I x.Fault.Down.B,I x.Fault.Down.N,.lst false (.t3 x.Fault.Down.Values),.lst false (.t3 x.Fault.Down.Weights)]
def Xf(r:List PV):Option Ai:=match r with
 | [c0,c1,c2,c3,c4,c5,c6,c7,c8,c9,c10,c11,c12,c13,c14,c15,c16]=>match Nu c0,Es .i64 c1,A7j c2,Es .i64 c3,Nu c4,Es .i64 c5,Es .i64 c6,Es .i64 c7,Es .i64 c8,dl3 c9,dl3 c10,Es .i64 c11,Es .i64 c12,Es .i64 c13,Es .i64 c14,dl3 c15,dl3 c16 with
  |some a0,some a1,some a2,some a3,some a4,some a5,some a6,some a7,some a8,some a9,some a10,some a11,some a12,some a13,some a14,some a15,some a16=>some (Ai.mk a0 a1 a2 a3 (Gf.mk a4 (Bv.mk a5 a6 a7 a8 a9 a10) (Bv.mk a11 a12 a13 a14 a15 a16)))
  |_,_,_,_,_,_,_,_,_,_,_,_,_,_,_,_,_=>none
 |_=>none
theorem Ahj(r:List PV)(x:Ai)(h:Xf r=some x):B2 r (Bl x):=by
 unfold Xf at h
 split at h
 ·split at h
  ·rename_i h0 h1 h2 h3 h4 h5 h6 h7 h8 h9 h10 h11 h12 h13 h14 h15 h16
   injection h with h;subst h;exact (.cons (C0 h0) (.cons (Bj h1) (.cons (A1i h2) (.cons (Bj h3) (.cons (C0 h4) (.cons (Bj h5) (.cons (Bj h6) (.cons (Bj h7) (.cons (Bj h8) (.cons (M9 h9) (.cons (M9 h10) (.cons (Bj h11) (.cons (Bj h12) (.cons (Bj h13) (.cons (Bj h14) (.cons (M9 h15) (.cons (M9 h16) B2.nil)))))))))))))))))
  ·cases h
 ·cases h
def V5:PV→Option Ai
 | .agg r=>Xf r
 |_=>none
theorem Af7{p:PV}{x:Ai}(h:V5 p=some x):LeI p (.agg (Bl x)):=by
 unfold V5 at h
 split at h
 ·exact .agg (Ahj _ _ h)
 ·cases h
def Ajw:Cd Ai:=⟨fun x=> .agg (Bl x),V5,Af7⟩
def Co(x:Am):List PV:= [S x.Name,I x.Room,I x.Policy]
def Cu(x:Aq):List PV:= [S x.Name,I x.Length,I x.Step]
def Ou(x:Bo):List PV:= [S x.Routine,.lst false (.t3 x.Args),I x.At,I x.Every,I x.Until]
def Aij(r:List PV):Option Bo:=match r with
 | [c0,c1,c2,c3,c4]=>match Nu c0,dl3 c1,Es .i64 c2,Es .i64 c3,Es .i64 c4 with
  |some a0,some a1,some a2,some a3,some a4=>some (Bo.mk a0 a1 a2 a3 a4)
  |_,_,_,_,_=>none
 |_=>none
theorem Atl(r:List PV)(x:Bo)(h:Aij r=some x):B2 r (Ou x):=by
 unfold Aij at h
 split at h
 ·split at h
  ·rename_i h0 h1 h2 h3 h4
   injection h with h;subst h;exact (.cons (C0 h0) (.cons (M9 h1) (.cons (Bj h2) (.cons (Bj h3) (.cons (Bj h4) B2.nil)))))
  ·cases h
 ·cases h
def Af8:PV→Option Bo
 | .agg r=>Aij r
 |_=>none
theorem Arc{p:PV}{x:Bo}(h:Af8 p=some x):LeI p (.agg (Ou x)):=by
 unfold Af8 at h
 split at h
 ·exact .agg (Atl _ _ h)
 ·cases h
def Ay4:Cd Bo:=⟨fun x=> .agg (Ou x),Af8,Arc⟩
def Jv(x:Be):List PV:= [S x.From,S x.To,I x.Delay]
def Dr(x:A9):List PV:= [S x.Name,.lst false (.t195 x.Terms),I x.Total]
def Yr(x:Cy):List PV:= [I x.At,I x.Units]
def Mo(x:Ap):List PV:= [S x.Name,I x.Type_]
def Gk(x:Aw):List PV:= [I x.Coef,S x.What,S x.Name]
def Ala(r:List PV):Option Aw:=match r with
 | [c0,c1,c2]=>match Es .i64 c0,Nu c1,Nu c2 with
  |some a0,some a1,some a2=>some (Aw.mk a0 a1 a2)
  |_,_,_=>none
 |_=>none
theorem Avx(r:List PV)(x:Aw)(h:Ala r=some x):B2 r (Gk x):=by
 unfold Ala at h
 split at h
 ·split at h
  ·rename_i h0 h1 h2
   injection h with h;subst h;exact (.cons (Bj h0) (.cons (C0 h1) (.cons (C0 h2) B2.nil)))
  ·cases h
 ·cases h
def Aif:PV→Option Aw
 | .agg r=>Ala r
 |_=>none
theorem Ath{p:PV}{x:Aw}(h:Aif p=some x):LeI p (.agg (Gk x)):=by
 unfold Aif at h
 split at h
 ·exact .agg (Avx _ _ h)
 ·cases h
def A03:Cd Aw:=⟨fun x=> .agg (Gk x),Aif,Ath⟩
def T1(x:Bm):List PV:= [B x.u_name,B x.u_of,B x.u_e,B x.u_f,B x.u_args,B x.u_dist,B x.u_flag,B x.u_body,B x.u_other]
def Alb(r:List PV):Option Bm:=match r with
 | [c0,c1,c2,c3,c4,c5,c6,c7,c8]=>match Zt c0,Zt c1,Zt c2,Zt c3,Zt c4,Zt c5,Zt c6,Zt c7,Zt c8 with
  |some a0,some a1,some a2,some a3,some a4,some a5,some a6,some a7,some a8=>some (Bm.mk a0 a1 a2 a3 a4 a5 a6 a7 a8)
  |_,_,_,_,_,_,_,_,_=>none
 |_=>none
theorem Avy(r:List PV)(x:Bm)(h:Alb r=some x):B2 r (T1 x):=by
 unfold Alb at h
 split at h
 ·split at h
  ·rename_i h0 h1 h2 h3 h4 h5 h6 h7 h8
   injection h with h;subst h;exact (.cons (Lz h0) (.cons (Lz h1) (.cons (Lz h2) (.cons (Lz h3) (.cons (Lz h4) (.cons (Lz h5) (.cons (Lz h6) (.cons (Lz h7) (.cons (Lz h8) B2.nil)))))))))
  ·cases h
 ·cases h
def Aig:PV→Option Bm
 | .agg r=>Alb r
 |_=>none
theorem Ati{p:PV}{x:Bm}(h:Aig p=some x):LeI p (.agg (T1 x)):=by
 unfold Aig at h
 split at h
 ·exact .agg (Avy _ _ h)
 ·cases h
def Aqn:Cd Bm:=⟨fun x=> .agg (T1 x),Aig,Ati⟩
def Aip(x:Bp):List PV:= [B x.u_code]
def Aik(r:List PV):Option Bp:=match r with
 | [c0]=>match Zt c0 with
  |some a0=>some (Bp.mk a0)
  |_=>none
 |_=>none
theorem Atm(r:List PV)(x:Bp)(h:Aik r=some x):B2 r (Aip x):=by
 unfold Aik at h
 split at h
 ·split at h
  ·rename_i h0
   injection h with h;subst h;exact (.cons (Lz h0) B2.nil)
  ·cases h
 ·cases h
def Af9:PV→Option Bp
 | .agg r=>Aik r
 |_=>none
theorem Ard{p:PV}{x:Bp}(h:Af9 p=some x):LeI p (.agg (Aip x)):=by
 unfold Af9 at h
 split at h
 ·exact .agg (Atm _ _ h)
 ·cases h
def Oq:Cd Bp:=⟨fun x=> .agg (Aip x),Af9,Ard⟩
end Go.Proofs.YtfencmicmnhglaaGreat.Ev
