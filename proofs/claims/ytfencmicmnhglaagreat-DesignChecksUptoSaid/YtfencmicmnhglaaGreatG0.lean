import Derived.Test.YtfencmicmnhglaaGreatFW
namespace Go.Proofs.YtfencmicmnhglaaGreat.Ev
open Go An
set_option maxRecDepth 100000
set_option maxHeartbeats 4000000
set_option linter.unusedVariables false
set_option linter.unusedSimpArgs false
set_option linter.unnecessarySimpa false
theorem mixed: Tryz.prog.follows .mixedOrders=true:=by kernel_rfl
def inl:Nat→Bool:=fun f=>inL f [25,26,27,28,36,37,38,39,45,57,58,61,62,63,64,82,83,84,85,86,87,88,89,90,94,95,96,97,98,99,100,101,102,103,104,105,106,107,109,110,111,113,115,116,142,143,144,145,147,148,175,176,177,178,179,180,199,200,201,205,206,214,218,219,220,221,222,223]
def jn4:Nat→Bool:=fun f=>inL f [25,45,62,63,64,82,83,85,86,89,90,95,96,98,99,106,107,110,115,116,142,143,144,147,176,201,205,214,219,222]
def Bgm:Go.Shelf.Ren:=⟨fun|4=>175|n=>n,fun|22=>57|25=>190|3=>3|4=>4|9=>9|20=>20|0=>0|n=>n,fun|n=>n⟩
theorem Bj4:Go.Proofs.Lays8.n4 Tryz.prog Bgm:= {
 mixed:=by kernel_rfl
 f4:=⟨Tryz.f175.name,by decide,Tryz.func175.trans (congrArg some (by kernel_rfl))⟩
 t0:= Tryz.underlying0
 a0:= Tryz.isAgg0
 z0:= Tryz.sizeOf0
 v0:= Tryz.zeroValue0
 t3:= Tryz.underlying3
 a3:= Tryz.isAgg3
 z3:= Tryz.sizeOf3
 v3:= Tryz.zeroValue3
 t4:= Tryz.underlying4
 a4:= Tryz.isAgg4
 z4:= Tryz.sizeOf4
 v4:= Tryz.zeroValue4
 t9:= Tryz.underlying9
 a9:= Tryz.isAgg9
 z9:= Tryz.sizeOf9
 v9:= Tryz.zeroValue9
 t20:= Tryz.underlying20
 a20:= Tryz.isAgg20
 z20:= Tryz.sizeOf20
 v20:= Tryz.zeroValue20
 t22:= Tryz.underlying57
 a22:= Tryz.isAgg57
 z22:= Tryz.sizeOf57
 v22:= Tryz.zeroValue57 }
theorem B2g:A44 Tryz.prog 175 190 24:=Bvu Bj4 rfl rfl (by kernel_rfl) (sz:=2) (by kernel_rfl) (by decide) (fun x h=>by injection (h:some (LX.t190 [])=some x) with h;subst h;rfl)
def grw(f:Nat):Option (Nat×Nat):=match Nat.beq f 175 with
 |true=>some (190,24)
 |false=>none
theorem B7i:Ayo Tryz.prog grw:=by
 intro f e b h
 unfold grw at h
 cases h175:Nat.beq f 175 with
 |true=>
  rw [h175] at h
  have:=Nat.eq_of_beq_eq_true h175
  subst this
  injection h with h
  injection h with h1 h2
  subst h1;subst h2
  exact B2g
 |false=>
  rw [h175] at h
  cases h
def EI(O:Bi)(M d:Nat):Inl:=evI Tryz.prog inl grw jn4 O M d
def EV(O:Bi)(M d:Nat):EC→St→(Ex→St→Prop)→Prop:=evC Tryz.prog O (evI Tryz.prog inl grw jn4 O M d) M
def EW(O:Bi)(M d:Nat):List ResultVar→EC→List PV→(PV→Prop)→Prop:=B2c Tryz.prog O (evI Tryz.prog inl grw jn4 O M d) M
def YO(O:Bi)(M d f:Nat)(a:List PV)(b:List (Nat×List PV))(k:PV→List (Nat×List PV)→Prop):Prop:=Yo Tryz.prog inl grw O M d f a b k
abbrev Dm:=PV→Prop
abbrev Be:=Ex→St→Prop
abbrev Bx:=PV→List (Nat×List PV)→Prop
def EC.u(c:EC):EC:=c.r.r
def EC.w(c:EC):EC:=c.u.u
def EC.x(c:EC):EC:=c.w.w
def rl(l:List Nat)(b:Bool:=false):List Bool:=match l with
 | []=> []
 |n::l=>List.replicate n b++rl l (!b)
def lv(x:LX):PV:= .lst false x
def RS(f:Func):List ResultVar:=f.results.toList
abbrev Gh:=En Tryz.prog
def oL(l:List Gh):Bi:=orL l
theorem oS(l:List Gh):Er Tryz.prog (oL l):=Btq l
noncomputable def CC(f:Func):EC:=(cFn Tryz.prog inl f).getD .stop
theorem hF{f:Nat}{fn:Func}(hf: Tryz.prog.funcs[f]? =some fn){C:Bi}(hC:Er Tryz.prog C)(L:Nat){args:List PV}{ρ :Type}{r: ρ}{F:Option ρ}{er: ρ→PV}(he:∀kk,EW C L 9 (RS fn) (CC fn) args kk=ob F (fun x=>kk (er x)))(h:F=some r)
  (hn:((cFn Tryz.prog inl fn).isSome && Nat.ble args.length fn.ntmps)=true:=by kernel_rfl):Ho Tryz.prog f args er r:=by
 have h1:=(Bool.and_eq_true _ _).mp hn
 have hc:cFn Tryz.prog inl fn=some (CC fn):=by
  unfold CC
  cases e:cFn Tryz.prog inl fn with
  |none=>rw [e] at h1;cases h1.1
  |some c=>rfl
 exact hE B7i hC mixed hf hc h1.2 he h
def EC.put:List Bool→EC→EC→EC
 | [],z,_=>z
 |true::p,z,.seq a b=> .seq (EC.put p z a) b
 |false::p,z,.seq a b=> .seq a (EC.put p z b)
 |true::p,z,.cond o a b=> .cond o (EC.put p z a) b
 |false::p,z,.cond o a b=> .cond o a (EC.put p z b)
 |true::p,z,.block i b=> .block i (EC.put p z b)
 |true::p,z,.loop k b=> .loop k (EC.put p z b)
 |_,_,c=>c
abbrev Cp:=Int×Int
abbrev Cw:=Int×List ByteArray×List Bool
abbrev Me:=Int×List ByteArray
abbrev V4:=Int×Bool
abbrev Tu5:=Int×Int×List ByteArray×List Bool
abbrev Tu6:=Int×Bool×Int
abbrev Tu7:=Int×List ByteArray×Int
abbrev Tu8:=Int×List Bt×List Bool
abbrev Tu9:=Int×Int×List ByteArray×Int
abbrev Bjg:=Int×Int×List Bt×List Bool
abbrev B8:=Nat×Cp
abbrev Ue:=Nat×Tu5
def cl3:Cd (List Int):=⟨fun x=> .lst false (.t3 x),dl3,fun h=>LeI.of_le (Ov h)⟩
def cl9:Cd (List ByteArray):=⟨fun x=> .lst false (.t9 x),dl9,fun h=>LeI.of_le (Qm h)⟩
def Bs6:Cd (List Ah):=⟨fun x=> .lst false (.t46 x),Ca6,fun h=>LeI.of_le (B0r h)⟩
def Cp5:Cd (List (List Ap)):=⟨fun x=> .lst false (.t57 x),Ca7,fun h=>LeI.of_le (B0t h)⟩
def Ca1:Cd (List Int):=⟨fun x=> .lst false (.t75 x),Ca8,fun h=>LeI.of_le (B0u h)⟩
def Cp6:Cd (List Al):=⟨fun x=> .lst false (.t77 x),A56,fun h=>LeI.of_le (Aiu h)⟩
def Cp7:Cd (List Ab):=⟨fun x=> .lst false (.t94 x),A2g,fun h=>LeI.of_le (Af0 h)⟩
def Aae:Cd (List Ac):=⟨fun x=> .lst false (.t99 x),Bdc,fun h=>LeI.of_le (Apn h)⟩
def Bfn:Cd (List Ap):=⟨fun x=> .lst false (.t190 x),Aug,fun h=>LeI.of_le (Ag4 h)⟩
def Aw(x:Ad):List PV:= [S x.Name,.lst false (.t77 x.Params),.lst false (.t55 x.Sites),.lst false (.t167 x.Links)]
def Ar7(r:List PV):Option Ad:=match r with
 | [c0,c1,c2,c3]=>match Oe c0,A56 c1,B0s c2,Bms c3 with
  |some a0,some a1,some a2,some a3=>some (Ad.mk a0 a1 a2 a3)
  |_,_,_,_=>none
 |_=>none
theorem A52(r:List PV)(x:Ad)(h:Ar7 r=some x):B7 r (Aw x):=by
 unfold Ar7 at h
 split at h
 ·split at h
  ·rename_i h0 h1 h2 h3
   injection h with h;subst h;exact (.cons (C1 h0) (.cons (Aiu h1) (.cons (Bmv h2) (.cons (Bf1 h3) B7.nil))))
  ·cases h
 ·cases h
def Aph:PV→Option Ad
 | .agg r=>Ar7 r
 |_=>none
theorem A2b{p:PV}{x:Ad}(h:Aph p=some x):LeI p (.agg (Aw x)):=by
 unfold Aph at h
 split at h
 ·exact .agg (A52 _ _ h)
 ·cases h
def C6:Cd Ad:=⟨fun x=> .agg (Aw x),Aph,A2b⟩
def Ed(x:Ah):List PV:= [S x.Name,.lst false (.t3 x.Levels)]
def Ae(x:Aa):List PV:= [S x.Name,.lst false (.t77 x.Vars),.lst false (.t145 x.Resources),.lst false (.t151 x.Stores),.lst false (.t155 x.Belts),.lst false (.t9 x.Queues),.lst false (.t9 x.Streams),.lst false (.t9 x.Tallies),.lst false (.t9 x.Levels),.lst false (.t9 x.Counts),.lst false (.t60 x.Routines),.lst false (.t161 x.Starts),.lst false (.t180 x.Laws)]
def Aj0(r:List PV):Option Aa:=match r with
 | [c0,c1,c2,c3,c4,c5,c6,c7,c8,c9,c10,c11,c12]=>match Oe c0,A56 c1,Baq c2,Bar c3,Bas c4,dl9 c5,dl9 c6,dl9 c7,dl9 c8,dl9 c9,Btb c10,Bat c11,Bau c12 with
  |some a0,some a1,some a2,some a3,some a4,some a5,some a6,some a7,some a8,some a9,some a10,some a11,some a12=>some (Aa.mk a0 a1 a2 a3 a4 a5 a6 a7 a8 a9 a10 a11 a12)
  |_,_,_,_,_,_,_,_,_,_,_,_,_=>none
 |_=>none
theorem Aw3(r:List PV)(x:Aa)(h:Aj0 r=some x):B7 r (Ae x):=by
 unfold Aj0 at h
 split at h
 ·split at h
  ·rename_i h0 h1 h2 h3 h4 h5 h6 h7 h8 h9 h10 h11 h12
   injection h with h;subst h;exact (.cons (C1 h0) (.cons (Aiu h1) (.cons (Aw4 h2) (.cons (Aw5 h3) (.cons (Aw6 h4) (.cons (Qm h5) (.cons (Qm h6) (.cons (Qm h7) (.cons (Qm h8) (.cons (Qm h9) (.cons (A3x h10) (.cons (Aw7 h11) (.cons (Aw8 h12) B7.nil)))))))))))))
  ·cases h
 ·cases h
def Ahr:PV→Option Aa
 | .agg r=>Aj0 r
 |_=>none
theorem Ave{p:PV}{x:Aa}(h:Ahr p=some x):LeI p (.agg (Ae x)):=by
 unfold Ahr at h
 split at h
 ·exact .agg (Aw3 _ _ h)
 ·cases h
def C3:Cd Aa:=⟨fun x=> .agg (Ae x),Ahr,Ave⟩
def B5(x:Ak):List PV:= [S x.Name,.lst false (.t190 x.Params),.lst false (.t190 x.Locals),.lst false (.t99 x.Body)]
def Al7(r:List PV):Option Ak:=match r with
 | [c0,c1,c2,c3]=>match Oe c0,Aug c1,Aug c2,Bdc c3 with
  |some a0,some a1,some a2,some a3=>some (Ak.mk a0 a1 a2 a3)
  |_,_,_,_=>none
 |_=>none
theorem Ayz(r:List PV)(x:Ak)(h:Al7 r=some x):B7 r (B5 x):=by
 unfold Al7 at h
 split at h
 ·split at h
  ·rename_i h0 h1 h2 h3
   injection h with h;subst h;exact (.cons (C1 h0) (.cons (Ag4 h1) (.cons (Ag4 h2) (.cons (Apn h3) B7.nil))))
  ·cases h
 ·cases h
def Ajz:PV→Option Ak
 | .agg r=>Al7 r
 |_=>none
theorem Aw2{p:PV}{x:Ak}(h:Ajz p=some x):LeI p (.agg (B5 x)):=by
 unfold Ajz at h
 split at h
 ·exact .agg (Ayz _ _ h)
 ·cases h
def Abk:Cd Ak:=⟨fun x=> .agg (B5 x),Ajz,Aw2⟩
def B3(x:Al):List PV:= [S x.Name,I x.Type_,I x.N]
def Ar9(r:List PV):Option Al:=match r with
 | [c0,c1,c2]=>match Oe c0,E9 .i64 c1,E9 .i64 c2 with
  |some a0,some a1,some a2=>some (Al.mk a0 a1 a2)
  |_,_,_=>none
 |_=>none
theorem A54(r:List PV)(x:Al)(h:Ar9 r=some x):B7 r (B3 x):=by
 unfold Ar9 at h
 split at h
 ·split at h
  ·rename_i h0 h1 h2
   injection h with h;subst h;exact (.cons (C1 h0) (.cons (Bp h1) (.cons (Bp h2) B7.nil)))
  ·cases h
 ·cases h
def Apk:PV→Option Al
 | .agg r=>Ar9 r
 |_=>none
theorem A2d{p:PV}{x:Al}(h:Apk p=some x):LeI p (.agg (B3 x)):=by
 unfold Apk at h
 split at h
 ·exact .agg (A54 _ _ h)
 ·cases h
def Bcv:Cd Al:=⟨fun x=> .agg (B3 x),Apk,A2d⟩
def Dd(x:Ab):List PV:= [I x.Op,S x.Name,I x.N,.lst false (.t94 x.Kids)]
def Avh(r:List PV):Option Ab:=match r with
 | [c0,c1,c2,c3]=>match E9 .i64 c0,Oe c1,E9 .i64 c2,A2g c3 with
  |some a0,some a1,some a2,some a3=>some (Ab.mk a0 a1 a2 a3)
  |_,_,_,_=>none
 |_=>none
theorem A8v(r:List PV)(x:Ab)(h:Avh r=some x):B7 r (Dd x):=by
 unfold Avh at h
 split at h
 ·split at h
  ·rename_i h0 h1 h2 h3
   injection h with h;subst h;exact (.cons (Bp h0) (.cons (C1 h1) (.cons (Bp h2) (.cons (Af0 h3) B7.nil))))
  ·cases h
 ·cases h
def Ar2:PV→Option Ab
 | .agg r=>Avh r
 |_=>none
theorem A5x{p:PV}{x:Ab}(h:Ar2 p=some x):LeI p (.agg (Dd x)):=by
 unfold Ar2 at h
 split at h
 ·exact .agg (A8v _ _ h)
 ·cases h
def Bu:Cd Ab:=⟨fun x=> .agg (Dd x),Ar2,A5x⟩
def Ur(x:Bj):List PV:= [I x.Op,I x.A,I x.B,I x.N,.lst false (.t3 x.Values),.lst false (.t3 x.Weights)]
def Avg(r:List PV):Option Bj:=match r with
 | [c0,c1,c2,c3,c4,c5]=>match E9 .i64 c0,E9 .i64 c1,E9 .i64 c2,E9 .i64 c3,dl3 c4,dl3 c5 with
  |some a0,some a1,some a2,some a3,some a4,some a5=>some (Bj.mk a0 a1 a2 a3 a4 a5)
  |_,_,_,_,_,_=>none
 |_=>none
theorem A8u(r:List PV)(x:Bj)(h:Avg r=some x):B7 r (Ur x):=by
 unfold Avg at h
 split at h
 ·split at h
  ·rename_i h0 h1 h2 h3 h4 h5
   injection h with h;subst h;exact (.cons (Bp h0) (.cons (Bp h1) (.cons (Bp h2) (.cons (Bp h3) (.cons (Ov h4) (.cons (Ov h5) B7.nil))))))
  ·cases h
 ·cases h
def Ar1:PV→Option Bj
 | .agg r=>Avg r
 |_=>none
theorem A5w{p:PV}{x:Bj}(h:Ar1 p=some x):LeI p (.agg (Ur x)):=by
 unfold Ar1 at h
 split at h
 ·exact .agg (A8u _ _ h)
 ·cases h
def Rn:Cd Bj:=⟨fun x=> .agg (Ur x),Ar1,A5w⟩
def C5(x:Ac):List PV:= [I x.Op,S x.Name,S x.Of,I x.E.Op,S x.E.Name,I x.E.N,.lst false (.t94 x.E.Kids),I x.F.Op,S x.F.Name,I x.F.N,.lst false (.t94 x.F.Kids),.lst false (.t94 x.Args),I x.Dist.Op,I x.Dist.A,I x.Dist.B,I x.Dist.N,.lst false (.t3 x.Dist.Values),.lst false (.t3 x.Dist.Weights),B x.Flag,.lst false (.t99 x.Body),.lst false (.t99 x.Else)]
def Avi(r:List PV):Option Ac:=match r with
 | [c0,c1,c2,c3,c4,c5,c6,c7,c8,c9,c10,c11,c12,c13,c14,c15,c16,c17,c18,c19,c20]=>match E9 .i64 c0,Oe c1,Oe c2,E9 .i64 c3,Oe c4,E9 .i64 c5,A2g c6,E9 .i64 c7,Oe c8,E9 .i64 c9,A2g c10,A2g c11,E9 .i64 c12,E9 .i64 c13,E9 .i64 c14,E9 .i64 c15,dl3 c16,dl3 c17,Th c18,Bdc c19,Bdc c20 with
  |some a0,some a1,some a2,some a3,some a4,some a5,some a6,some a7,some a8,some a9,some a10,some a11,some a12,some a13,some a14,some a15,some a16,some a17,some a18,some a19,some a20=>some (Ac.mk a0 a1 a2 (Ab.mk a3 a4 a5 a6) (Ab.mk a7 a8 a9 a10) a11 (Bj.mk a12 a13 a14 a15 a16 a17) a18 a19 a20)
  |_,_,_,_,_,_,_,_,_,_,_,_,_,_,_,_,_,_,_,_,_=>none
 |_=>none
theorem A8w(r:List PV)(x:Ac)(h:Avi r=some x):B7 r (C5 x):=by
 unfold Avi at h
 split at h
 ·split at h
  ·rename_i h0 h1 h2 h3 h4 h5 h6 h7 h8 h9 h10 h11 h12 h13 h14 h15 h16 h17 h18 h19 h20
   injection h with h;subst h;exact (.cons (Bp h0) (.cons (C1 h1) (.cons (C1 h2) (.cons (Bp h3) (.cons (C1 h4) (.cons (Bp h5) (.cons (Af0 h6) (.cons (Bp h7) (.cons (C1 h8) (.cons (Bp h9) (.cons (Af0 h10) (.cons (Af0 h11) (.cons (Bp h12) (.cons (Bp h13) (.cons (Bp h14) (.cons (Bp h15) (.cons (Ov h16) (.cons (Ov h17) (.cons (Gn h18) (.cons (Apn h19) (.cons (Apn h20) B7.nil)))))))))))))))))))))
  ·cases h
 ·cases h
def Ar3:PV→Option Ac
 | .agg r=>Avi r
 |_=>none
theorem A5y{p:PV}{x:Ac}(h:Ar3 p=some x):LeI p (.agg (C5 x)):=by
 unfold Ar3 at h
 split at h
 ·exact .agg (A8w _ _ h)
 ·cases h
def H3:Cd Ac:=⟨fun x=> .agg (C5 x),Ar3,A5y⟩
def Kq(x:Ar):List PV:= [.lst false (.t77 x.Params),.lst false (.t190 x.Locals),S x.Site.Name,.lst false (.t77 x.Site.Vars),.lst false (.t145 x.Site.Resources),.lst false (.t151 x.Site.Stores),.lst false (.t155 x.Site.Belts),.lst false (.t9 x.Site.Queues),.lst false (.t9 x.Site.Streams),.lst false (.t9 x.Site.Tallies),.lst false (.t9 x.Site.Levels),.lst false (.t9 x.Site.Counts),.lst false (.t60 x.Site.Routines),.lst false (.t161 x.Site.Starts),.lst false (.t180 x.Site.Laws)]
def Ayx(r:List PV):Option Ar:=match r with
 | [c0,c1,c2,c3,c4,c5,c6,c7,c8,c9,c10,c11,c12,c13,c14]=>match A56 c0,Aug c1,Oe c2,A56 c3,Baq c4,Bar c5,Bas c6,dl9 c7,dl9 c8,dl9 c9,dl9 c10,dl9 c11,Btb c12,Bat c13,Bau c14 with
  |some a0,some a1,some a2,some a3,some a4,some a5,some a6,some a7,some a8,some a9,some a10,some a11,some a12,some a13,some a14=>some (Ar.mk a0 a1 (Aa.mk a2 a3 a4 a5 a6 a7 a8 a9 a10 a11 a12 a13 a14))
  |_,_,_,_,_,_,_,_,_,_,_,_,_,_,_=>none
 |_=>none
theorem Bcy(r:List PV)(x:Ar)(h:Ayx r=some x):B7 r (Kq x):=by
 unfold Ayx at h
 split at h
 ·split at h
  ·rename_i h0 h1 h2 h3 h4 h5 h6 h7 h8 h9 h10 h11 h12 h13 h14
   injection h with h;subst h;exact (.cons (Aiu h0) (.cons (Ag4 h1) (.cons (C1 h2) (.cons (Aiu h3) (.cons (Aw4 h4) (.cons (Aw5 h5) (.cons (Aw6 h6) (.cons (Qm h7) (.cons (Qm h8) (.cons (Qm h9) (.cons (Qm h10) (.cons (Qm h11) (.cons (A3x h12) (.cons (Aw7 h13) (.cons (Aw8 h14) B7.nil)))))))))))))))
  ·cases h
 ·cases h
def Avc:PV→Option Ar
 | .agg r=>Ayx r
 |_=>none
theorem A8r{p:PV}{x:Ar}(h:Avc p=some x):LeI p (.agg (Kq x)):=by
 unfold Avc at h
 split at h
 ·exact .agg (Bcy _ _ h)
 ·cases h
def Gj:Cd Ar:=⟨fun x=> .agg (Kq x),Avc,A8r⟩
def Gw(x:Am):List PV:= [S x.u_m.Name,.lst false (.t77 x.u_m.Params),.lst false (.t55 x.u_m.Sites),.lst false (.t167 x.u_m.Links),I x.u_site,.lst false (.t77 x.u_env.Params),.lst false (.t190 x.u_env.Locals),S x.u_env.Site.Name,.lst false (.t77 x.u_env.Site.Vars),.lst false (.t145 x.u_env.Site.Resources),.lst false (.t151 x.u_env.Site.Stores),.lst false (.t155 x.u_env.Site.Belts),.lst false (.t9 x.u_env.Site.Queues),.lst false (.t9 x.u_env.Site.Streams),.lst false (.t9 x.u_env.Site.Tallies),.lst false (.t9 x.u_env.Site.Levels),.lst false (.t9 x.u_env.Site.Counts),.lst false (.t60 x.u_env.Site.Routines),.lst false (.t161 x.u_env.Site.Starts),.lst false (.t180 x.u_env.Site.Laws)]
def Aec(r:List PV):Option Am:=match r with
 | [c0,c1,c2,c3,c4,c5,c6,c7,c8,c9,c10,c11,c12,c13,c14,c15,c16,c17,c18,c19]=>match Oe c0,A56 c1,B0s c2,Bms c3,E9 .i64 c4,A56 c5,Aug c6,Oe c7,A56 c8,Baq c9,Bar c10,Bas c11,dl9 c12,dl9 c13,dl9 c14,dl9 c15,dl9 c16,Btb c17,Bat c18,Bau c19 with
  |some a0,some a1,some a2,some a3,some a4,some a5,some a6,some a7,some a8,some a9,some a10,some a11,some a12,some a13,some a14,some a15,some a16,some a17,some a18,some a19=>some (Am.mk (Ad.mk a0 a1 a2 a3) a4 (Ar.mk a5 a6 (Aa.mk a7 a8 a9 a10 a11 a12 a13 a14 a15 a16 a17 a18 a19)))
  |_,_,_,_,_,_,_,_,_,_,_,_,_,_,_,_,_,_,_,_=>none
 |_=>none
theorem Att(r:List PV)(x:Am)(h:Aec r=some x):B7 r (Gw x):=by
 unfold Aec at h
 split at h
 ·split at h
  ·rename_i h0 h1 h2 h3 h4 h5 h6 h7 h8 h9 h10 h11 h12 h13 h14 h15 h16 h17 h18 h19
   injection h with h;subst h;exact (.cons (C1 h0) (.cons (Aiu h1) (.cons (Bmv h2) (.cons (Bf1 h3) (.cons (Bp h4) (.cons (Aiu h5) (.cons (Ag4 h6) (.cons (C1 h7) (.cons (Aiu h8) (.cons (Aw4 h9) (.cons (Aw5 h10) (.cons (Aw6 h11) (.cons (Qm h12) (.cons (Qm h13) (.cons (Qm h14) (.cons (Qm h15) (.cons (Qm h16) (.cons (A3x h17) (.cons (Aw7 h18) (.cons (Aw8 h19) B7.nil))))))))))))))))))))
  ·cases h
 ·cases h
def Abn:PV→Option Am
 | .ref r=>Aec r
 |_=>none
theorem Asc{p:PV}{x:Am}(h:Abn p=some x):LeI p (.ref (Gw x)):=by
 unfold Abn at h
 split at h
 ·exact .ref (Att _ _ h)
 ·cases h
def D6:Cd Am:=⟨fun x=> .ref (Gw x),Abn,Asc⟩
def Uh(x:Gu):List PV:= [S x.Stream,I x.Up.Op,I x.Up.A,I x.Up.B,I x.Up.N,.lst false (.t3 x.Up.Values),.lst false (.t3 x.Up.Weights),I x.Down.Op,I x.Down.A,I x.Down.B,I x.Down.N,.lst false (.t3 x.Down.Values),.lst false (.t3 x.Down.Weights)]
def Ar6(r:List PV):Option Gu:=match r with
 | [c0,c1,c2,c3,c4,c5,c6,c7,c8,c9,c10,c11,c12]=>match Oe c0,E9 .i64 c1,E9 .i64 c2,E9 .i64 c3,E9 .i64 c4,dl3 c5,dl3 c6,E9 .i64 c7,E9 .i64 c8,E9 .i64 c9,E9 .i64 c10,dl3 c11,dl3 c12 with
  |some a0,some a1,some a2,some a3,some a4,some a5,some a6,some a7,some a8,some a9,some a10,some a11,some a12=>some (Gu.mk a0 (Bj.mk a1 a2 a3 a4 a5 a6) (Bj.mk a7 a8 a9 a10 a11 a12))
  |_,_,_,_,_,_,_,_,_,_,_,_,_=>none
 |_=>none
theorem A51(r:List PV)(x:Gu)(h:Ar6 r=some x):B7 r (Uh x):=by
 unfold Ar6 at h
 split at h
 ·split at h
  ·rename_i h0 h1 h2 h3 h4 h5 h6 h7 h8 h9 h10 h11 h12
   injection h with h;subst h;exact (.cons (C1 h0) (.cons (Bp h1) (.cons (Bp h2) (.cons (Bp h3) (.cons (Bp h4) (.cons (Ov h5) (.cons (Ov h6) (.cons (Bp h7) (.cons (Bp h8) (.cons (Bp h9) (.cons (Bp h10) (.cons (Ov h11) (.cons (Ov h12) B7.nil)))))))))))))
  ·cases h
 ·cases h
def Apg:PV→Option Gu
 | .agg r=>Ar6 r
 |_=>none
theorem A2a{p:PV}{x:Gu}(h:Apg p=some x):LeI p (.agg (Uh x)):=by
 unfold Apg at h
 split at h
 ·exact .agg (A51 _ _ h)
 ·cases h
def Bcu:Cd Gu:=⟨fun x=> .agg (Uh x),Apg,A2a⟩
def Bq(x:Af):List PV:= [S x.Name,I x.Units,.lst false (.t184 x.Shift),I x.Cycle,S x.Fault.Stream,I x.Fault.Up.Op,I x.Fault.Up.A,I x.Fault.Up.B,I x.Fault.Up.N,.lst false (.t3 x.Fault.Up.Values),.lst false (.t3 x.Fault.Up.Weights),I x.Fault.Down.Op,I x.Fault.Down.A,I x.Fault.Down.B,I x.Fault.Down.N,.lst false (.t3 x.Fault.Down.Values),.lst false (.t3 x.Fault.Down.Weights)]
def Aaf(r:List PV):Option Af:=match r with
 | [c0,c1,c2,c3,c4,c5,c6,c7,c8,c9,c10,c11,c12,c13,c14,c15,c16]=>match Oe c0,E9 .i64 c1,Bmt c2,E9 .i64 c3,Oe c4,E9 .i64 c5,E9 .i64 c6,E9 .i64 c7,E9 .i64 c8,dl3 c9,dl3 c10,E9 .i64 c11,E9 .i64 c12,E9 .i64 c13,E9 .i64 c14,dl3 c15,dl3 c16 with
  |some a0,some a1,some a2,some a3,some a4,some a5,some a6,some a7,some a8,some a9,some a10,some a11,some a12,some a13,some a14,some a15,some a16=>some (Af.mk a0 a1 a2 a3 (Gu.mk a4 (Bj.mk a5 a6 a7 a8 a9 a10) (Bj.mk a11 a12 a13 a14 a15 a16)))
  |_,_,_,_,_,_,_,_,_,_,_,_,_,_,_,_,_=>none
 |_=>none
theorem Aqr(r:List PV)(x:Af)(h:Aaf r=some x):B7 r (Bq x):=by
 unfold Aaf at h
 split at h
 ·split at h
  ·rename_i h0 h1 h2 h3 h4 h5 h6 h7 h8 h9 h10 h11 h12 h13 h14 h15 h16
   injection h with h;subst h;exact (.cons (C1 h0) (.cons (Bp h1) (.cons (Bf2 h2) (.cons (Bp h3) (.cons (C1 h4) (.cons (Bp h5) (.cons (Bp h6) (.cons (Bp h7) (.cons (Bp h8) (.cons (Ov h9) (.cons (Ov h10) (.cons (Bp h11) (.cons (Bp h12) (.cons (Bp h13) (.cons (Bp h14) (.cons (Ov h15) (.cons (Ov h16) B7.nil)))))))))))))))))
  ·cases h
 ·cases h
def i8:PV→Option Af
 | .agg r=>Aaf r
 |_=>none
theorem Api{p:PV}{x:Af}(h:i8 p=some x):LeI p (.agg (Bq x)):=by
 unfold i8 at h
 split at h
 ·exact .agg (Aqr _ _ h)
 ·cases h
def f7:Cd Af:=⟨fun x=> .agg (Bq x),i8,Api⟩
def Cv(x:Aq):List PV:= [S x.Name,I x.Room,I x.Policy]
def Cz(x:Au):List PV:= [S x.Name,I x.Length,I x.Step]
def N4(x:Bm):List PV:= [S x.Routine,.lst false (.t3 x.Args),I x.At,I x.Every,I x.Until]
def Ar8(r:List PV):Option Bm:=match r with
 | [c0,c1,c2,c3,c4]=>match Oe c0,dl3 c1,E9 .i64 c2,E9 .i64 c3,E9 .i64 c4 with
  |some a0,some a1,some a2,some a3,some a4=>some (Bm.mk a0 a1 a2 a3 a4)
  |_,_,_,_,_=>none
 |_=>none
theorem A53(r:List PV)(x:Bm)(h:Ar8 r=some x):B7 r (N4 x):=by
 unfold Ar8 at h
 split at h
 ·split at h
  ·rename_i h0 h1 h2 h3 h4
   injection h with h;subst h;exact (.cons (C1 h0) (.cons (Ov h1) (.cons (Bp h2) (.cons (Bp h3) (.cons (Bp h4) B7.nil)))))
  ·cases h
 ·cases h
def Apj:PV→Option Bm
 | .agg r=>Ar8 r
 |_=>none
theorem A2c{p:PV}{x:Bm}(h:Apj p=some x):LeI p (.agg (N4 x)):=by
 unfold Apj at h
 split at h
 ·exact .agg (A53 _ _ h)
 ·cases h
def Aw0:Cd Bm:=⟨fun x=> .agg (N4 x),Apj,A2c⟩
def Jj(x:Bl):List PV:= [S x.From,S x.To,I x.Delay]
def De(x:Ba):List PV:= [S x.Name,.lst false (.t195 x.Terms),I x.Total]
def Ayy(r:List PV):Option Ba:=match r with
 | [c0,c1,c2]=>match Oe c0,Bmu c1,E9 .i64 c2 with
  |some a0,some a1,some a2=>some (Ba.mk a0 a1 a2)
  |_,_,_=>none
 |_=>none
theorem Bcz(r:List PV)(x:Ba)(h:Ayy r=some x):B7 r (De x):=by
 unfold Ayy at h
 split at h
 ·split at h
  ·rename_i h0 h1 h2
   injection h with h;subst h;exact (.cons (C1 h0) (.cons (Bf3 h1) (.cons (Bp h2) B7.nil)))
  ·cases h
 ·cases h
def Avd:PV→Option Ba
 | .agg r=>Ayy r
 |_=>none
theorem A8s{p:PV}{x:Ba}(h:Avd p=some x):LeI p (.agg (De x)):=by
 unfold Avd at h
 split at h
 ·exact .agg (Bcz _ _ h)
 ·cases h
def Bjn:Cd Ba:=⟨fun x=> .agg (De x),Avd,A8s⟩
def Abo(x:Cx):List PV:= [I x.At,I x.Units]
def N3(x:Ap):List PV:= [S x.Name,I x.Type_]
def Ef(x:Av):List PV:= [I x.Coef,S x.What,S x.Name]
def Avj(r:List PV):Option Av:=match r with
 | [c0,c1,c2]=>match E9 .i64 c0,Oe c1,Oe c2 with
  |some a0,some a1,some a2=>some (Av.mk a0 a1 a2)
  |_,_,_=>none
 |_=>none
theorem A8x(r:List PV)(x:Av)(h:Avj r=some x):B7 r (Ef x):=by
 unfold Avj at h
 split at h
 ·split at h
  ·rename_i h0 h1 h2
   injection h with h;subst h;exact (.cons (Bp h0) (.cons (C1 h1) (.cons (C1 h2) B7.nil)))
  ·cases h
 ·cases h
def Ar4:PV→Option Av
 | .agg r=>Avj r
 |_=>none
theorem A5z{p:PV}{x:Av}(h:Ar4 p=some x):LeI p (.agg (Ef x)):=by
 unfold Ar4 at h
 split at h
 ·exact .agg (A8x _ _ h)
 ·cases h
def A1j:Cd Av:=⟨fun x=> .agg (Ef x),Ar4,A5z⟩
def W6(x:Bs):List PV:= [B x.u_name,B x.u_of,B x.u_e,B x.u_f,B x.u_args,B x.u_dist,B x.u_flag,B x.u_body,B x.u_other]
def Avk(r:List PV):Option Bs:=match r with
 | [c0,c1,c2,c3,c4,c5,c6,c7,c8]=>match Th c0,Th c1,Th c2,Th c3,Th c4,Th c5,Th c6,Th c7,Th c8 with
  |some a0,some a1,some a2,some a3,some a4,some a5,some a6,some a7,some a8=>some (Bs.mk a0 a1 a2 a3 a4 a5 a6 a7 a8)
  |_,_,_,_,_,_,_,_,_=>none
 |_=>none
theorem A8y(r:List PV)(x:Bs)(h:Avk r=some x):B7 r (W6 x):=by
 unfold Avk at h
 split at h
 ·split at h
  ·rename_i h0 h1 h2 h3 h4 h5 h6 h7 h8
   injection h with h;subst h;exact (.cons (Gn h0) (.cons (Gn h1) (.cons (Gn h2) (.cons (Gn h3) (.cons (Gn h4) (.cons (Gn h5) (.cons (Gn h6) (.cons (Gn h7) (.cons (Gn h8) B7.nil)))))))))
  ·cases h
 ·cases h
def Ar5:PV→Option Bs
 | .agg r=>Avk r
 |_=>none
theorem A50{p:PV}{x:Bs}(h:Ar5 p=some x):LeI p (.agg (W6 x)):=by
 unfold Ar5 at h
 split at h
 ·exact .agg (A8y _ _ h)
 ·cases h
def A1k:Cd Bs:=⟨fun x=> .agg (W6 x),Ar5,A50⟩
def Aed(x:Cn):List PV:= [B x.Name,B x.Of,B x.E,B x.F,B x.Args,B x.Dist,B x.Flag,B x.Body,B x.Else]
def Avf(r:List PV):Option Cn:=match r with
 | [c0,c1,c2,c3,c4,c5,c6,c7,c8]=>match Th c0,Th c1,Th c2,Th c3,Th c4,Th c5,Th c6,Th c7,Th c8 with
  |some a0,some a1,some a2,some a3,some a4,some a5,some a6,some a7,some a8=>some (Cn.mk a0 a1 a2 a3 a4 a5 a6 a7 a8)
  |_,_,_,_,_,_,_,_,_=>none
 |_=>none
theorem A8t(r:List PV)(x:Cn)(h:Avf r=some x):B7 r (Aed x):=by
 unfold Avf at h
 split at h
 ·split at h
  ·rename_i h0 h1 h2 h3 h4 h5 h6 h7 h8
   injection h with h;subst h;exact (.cons (Gn h0) (.cons (Gn h1) (.cons (Gn h2) (.cons (Gn h3) (.cons (Gn h4) (.cons (Gn h5) (.cons (Gn h6) (.cons (Gn h7) (.cons (Gn h8) B7.nil)))))))))
  ·cases h
 ·cases h
def Ar0:PV→Option Cn
 | .agg r=>Avf r
 |_=>none
theorem A5v{p:PV}{x:Cn}(h:Ar0 p=some x):LeI p (.agg (Aed x)):=by
 unfold Ar0 at h
 split at h
 ·exact .agg (A8t _ _ h)
 ·cases h
def Bfk:Cd Cn:=⟨fun x=> .agg (Aed x),Ar0,A5v⟩
def Asf(x:Bv):List PV:= [B x.u_code]
def Asa(r:List PV):Option Bv:=match r with
 | [c0]=>match Th c0 with
  |some a0=>some (Bv.mk a0)
  |_=>none
 |_=>none
theorem A55(r:List PV)(x:Bv)(h:Asa r=some x):B7 r (Asf x):=by
 unfold Asa at h
 split at h
 ·split at h
  ·rename_i h0
   injection h with h;subst h;exact (.cons (Gn h0) B7.nil)
  ·cases h
 ·cases h
def Apl:PV→Option Bv
 | .agg r=>Asa r
 |_=>none
theorem A2e{p:PV}{x:Bv}(h:Apl p=some x):LeI p (.agg (Asf x)):=by
 unfold Apl at h
 split at h
 ·exact .agg (A55 _ _ h)
 ·cases h
def Ro:Cd Bv:=⟨fun x=> .agg (Asf x),Apl,A2e⟩
end Go.Proofs.YtfencmicmnhglaaGreat.Ev
