import Derived.Test.YtcbandfdmbkokaaGreatFx
import Derived.Test.YtcbandfdmbkokaaGreatFu
namespace Go.Proofs.YtcbandfdmbkokaaGreat.Ev
open Go
set_option maxRecDepth 100000
set_option linter.unusedVariables false
set_option linter.unusedSimpArgs false
set_option linter.unnecessarySimpa false
section
variable {α β σ :Type}
theorem y1(t x y:Bool)(j:Bool→Prop):br t (ap j x) (ap j y)=ap j (bif t then x else y):=Bly t x y j
theorem y2(e:Bool)(J:Bool→Prop):jn (fun j=>ap j e) J=J e:=rfl
theorem y3(k: α→Prop){t:Option σ}{r: σ→Option α} :jn (fun j=>ob t j) (fun o=>ob (r o) k)=ob (t.bind r) k:=Bn1 k
theorem y4(p:Prop):nj p=p:=rfl
theorem y5(k: α→Prop):False=ob none k:=rfl
theorem y6(k: α→Prop){t:Bool}{a b:Option α} :br t (ob a k) (ob b k)=ob (bif t then a else b) k:=Blz k
theorem y7(k: α→Prop){x:Option β}{g: β→Option α} :ob x (fun r=>ob (g r) k)=ob (x.bind g) k:=Bo1 k
theorem y8(k: α→Prop){p:Prop} [Decidable p]{a:Option α} :gd p (ob a k)=ob (if p then a else none) k:=Bau k
theorem y9(k: α→Prop){r:Option Nat}{a:Nat→Option α}{b:Option α} :fk r (fun i=>ob (a i) k) (ob b k)=ob (fko r a b) k:=Bmv k
theorem z1(k: α→Prop){n:Nat}{a:Option α} :Cr n [ob a k]=ob (Acv n [a]) k:=A98 k
theorem z2(k: α→Prop){n:Nat}{a b:Option α} :Cr n [ob a k,ob b k]=ob (Acv n [a,b]) k:=A99 k
theorem z3(k: α→Prop){n:Nat}{a b c:Option α} :Cr n [ob a k,ob b k,ob c k]=ob (Acv n [a,b,c]) k:=Baa k
theorem z4(k: α→Prop){n:Nat}{a b c d:Option α} :Cr n [ob a k,ob b k,ob c k,ob d k]=ob (Acv n [a,b,c,d]) k:=Bab k
theorem z5(k:Bool→Prop){p:Prop} [Decidable p]{a:Option Bool} :gd p (ob a k)=ob (if p then a else none) k:=Bau k
theorem z6{p:Prop} [Decidable p]{x:Option α}{f: α→Option β} :Option.bind (if p then x else none) f=if p then Option.bind x f else none:=by by_cases h:p<;>simp [h]
end
theorem mixed: Tryz.prog.follows .mixedOrders=true:=by kernel_rfl
def inl:Nat→Bool:=fun f=>inL f [59,60,61,62,103,104,105,106,107,108,109,110,111,115,116,117,118,119,120,121,122,123,124,125,126,127,128,130,131,132,134,136,137,150,170,171,172,173,174,175,176,177,181,182,194,195,196,197,200,201,219,220,226,227,228,230,231,234]
def jn4:Nat→Bool:=fun f=>inL f [170,172,174,176,181,200,219,234]
def Awf:Go.Shelf.Ren:=⟨fun|4=>226|n=>n,fun|22=>23|25=>68|3=>3|4=>4|9=>9|20=>20|0=>0|n=>n,fun|n=>n⟩
theorem Ayc:Go.Proofs.Lays8.n4 Tryz.prog Awf:= {
 mixed:=by kernel_rfl
 f4:=⟨Tryz.f226.name,by decide,Tryz.func226.trans (congrArg some (by kernel_rfl))⟩
 t0:= Tryz.underlying0
 a0:= Tryz.isAgg0
 z0:= Tryz.sizeOf0
 v0:= Tryz.zeroValue0
 t3:= Tryz.underlying3
 a3:= Tryz.isAgg3
 z3:= Tryz.sizeOf3
 v3:= Tryz.zeroValue3
 t4:= Tryz.underlying4
 a4:= Tryz.isAgg4
 z4:= Tryz.sizeOf4
 v4:= Tryz.zeroValue4
 t9:= Tryz.underlying9
 a9:= Tryz.isAgg9
 z9:= Tryz.sizeOf9
 v9:= Tryz.zeroValue9
 t20:= Tryz.underlying20
 a20:= Tryz.isAgg20
 z20:= Tryz.sizeOf20
 v20:= Tryz.zeroValue20
 t22:= Tryz.underlying23
 a22:= Tryz.isAgg23
 z22:= Tryz.sizeOf23
 v22:= Tryz.zeroValue23 }
theorem A75:Akw Tryz.prog 226 68 24:=A3p Ayc rfl rfl (by kernel_rfl) (sz:=2) (by kernel_rfl) (by decide) (fun x h=>by injection (h:some (LX.t68 [])=some x) with h;subst h;rfl)
def grw(f:Nat):Option (Nat×Nat):=match Nat.beq f 226 with
 |true=>some (68,24)
 |false=>none
theorem Cg:Agh Tryz.prog grw:=by
 intro f e b h
 unfold grw at h
 cases h226:Nat.beq f 226 with
 |true=>
  rw [h226] at h
  have:=Nat.eq_of_beq_eq_true h226
  subst this
  injection h with h
  injection h with h1 h2
  subst h1;subst h2
  exact A75
 |false=>
  rw [h226] at h
  cases h
def EI(O:Bi)(M d:Nat):Inl:=evI Tryz.prog inl grw jn4 O M d
def EV(O:Bi)(M d:Nat):EC→St→(Ex→St→Prop)→Prop:=evC Tryz.prog O (evI Tryz.prog inl grw jn4 O M d) M
def EW(O:Bi)(M d:Nat):List ResultVar→EC→List PV→(PV→Prop)→Prop:=A71 Tryz.prog O (evI Tryz.prog inl grw jn4 O M d) M
def YO(O:Bi)(M d f:Nat)(a:List PV)(b:List (Nat×List PV))(k:PV→List (Nat×List PV)→Prop):Prop:=Yo Tryz.prog inl grw O M d f a b k
def RS(f:Func):List ResultVar:=f.results.toList
def EC.put:List Bool→EC→EC→EC
 | [],z,_=>z
 |true::p,z,.seq a b=> .seq (EC.put p z a) b
 |false::p,z,.seq a b=> .seq a (EC.put p z b)
 |true::p,z,.cond o a b=> .cond o (EC.put p z a) b
 |false::p,z,.cond o a b=> .cond o a (EC.put p z b)
 |true::p,z,.block i b=> .block i (EC.put p z b)
 |true::p,z,.loop k b=> .loop k (EC.put p z b)
 |_,_,c=>c
def cl3:Cd (List Int):=⟨fun x=> .lst false (.t3 x),dl3,fun h=>w8.of_le (W6 h)⟩
def cl9:Cd (List ByteArray):=⟨fun x=> .lst false (.t9 x),dl9,fun h=>w8.of_le (Ol h)⟩
def Bmr:Cd (List Aa):=⟨fun x=> .lst false (.t38 x),Ain,fun h=>w8.of_le (V2 h)⟩
def Ar7:Cd (List Int):=⟨fun x=> .lst false (.t41 x),Bbr,fun h=>w8.of_le (A7u h)⟩
def Acj:Cd (List Be):=⟨fun x=> .lst false (.t68 x),Aoi,fun h=>w8.of_le (Zt h)⟩
def Bbn:Cd (List Bp):=⟨fun x=> .lst false (.t72 x),Ale,fun h=>w8.of_le (Xs h)⟩
def S1:Cd (List Ab):=⟨fun x=> .lst false (.t82 x),Asl,fun h=>w8.of_le (t5 h)⟩
def Bk(x:Ac):List PV:= [S x.Name,.lst false (.t72 x.Vars),.lst false (.t149 x.Resources),.lst false (.t156 x.Stores),.lst false (.t160 x.Belts),.lst false (.t9 x.Queues),.lst false (.t9 x.Streams),.lst false (.t9 x.Tallies),.lst false (.t9 x.Levels),.lst false (.t9 x.Counts),.lst false (.t74 x.Routines),.lst false (.t166 x.Starts),.lst false (.t184 x.Laws)]
def Yh(r:List PV):Option Ac:=match r with
 | [c0,c1,c2,c3,c4,c5,c6,c7,c8,c9,c10,c11,c12]=>match Rv c0,Ale c1,Apv c2,Apw c3,Apx c4,dl9 c5,dl9 c6,dl9 c7,dl9 c8,dl9 c9,A12 c10,Apy c11,Apz c12 with
  |some a0,some a1,some a2,some a3,some a4,some a5,some a6,some a7,some a8,some a9,some a10,some a11,some a12=>some (Ac.mk a0 a1 a2 a3 a4 a5 a6 a7 a8 a9 a10 a11 a12)
  |_,_,_,_,_,_,_,_,_,_,_,_,_=>none
 |_=>none
theorem Aei(r:List PV)(x:Ac)(h:Yh r=some x):Cs r (Bk x):=by
 unfold Yh at h
 split at h
 ·split at h
  ·rename_i h0 h1 h2 h3 h4 h5 h6 h7 h8 h9 h10 h11 h12
   injection h with h;subst h;exact (.cons (Dy h0) (.cons (Xs h1) (.cons (Aej h2) (.cons (Aek h3) (.cons (Ael h4) (.cons (Ol h5) (.cons (Ol h6) (.cons (Ol h7) (.cons (Ol h8) (.cons (Ol h9) (.cons (Aki h10) (.cons (Aem h11) (.cons (Aen h12) Cs.nil)))))))))))))
  ·cases h
 ·cases h
def W5:PV→Option Ac
 | .agg r=>Yh r
 |_=>none
theorem Ade{p:PV}{x:Ac}(h:W5 p=some x):w8 p (.agg (Bk x)):=by
 unfold W5 at h
 split at h
 ·exact .agg (Aei _ _ h)
 ·cases h
def Cw:Cd Ac:=⟨fun x=> .agg (Bk x),W5,Ade⟩
def B8(x:Ai):List PV:= [.lst false (.t72 x.Params),.lst false (.t68 x.Locals),S x.Site.Name,.lst false (.t72 x.Site.Vars),.lst false (.t149 x.Site.Resources),.lst false (.t156 x.Site.Stores),.lst false (.t160 x.Site.Belts),.lst false (.t9 x.Site.Queues),.lst false (.t9 x.Site.Streams),.lst false (.t9 x.Site.Tallies),.lst false (.t9 x.Site.Levels),.lst false (.t9 x.Site.Counts),.lst false (.t74 x.Site.Routines),.lst false (.t166 x.Site.Starts),.lst false (.t184 x.Site.Laws)]
def Agl(r:List PV):Option Ai:=match r with
 | [c0,c1,c2,c3,c4,c5,c6,c7,c8,c9,c10,c11,c12,c13,c14]=>match Ale c0,Aoi c1,Rv c2,Ale c3,Apv c4,Apw c5,Apx c6,dl9 c7,dl9 c8,dl9 c9,dl9 c10,dl9 c11,A12 c12,Apy c13,Apz c14 with
  |some a0,some a1,some a2,some a3,some a4,some a5,some a6,some a7,some a8,some a9,some a10,some a11,some a12,some a13,some a14=>some (Ai.mk a0 a1 (Ac.mk a2 a3 a4 a5 a6 a7 a8 a9 a10 a11 a12 a13 a14))
  |_,_,_,_,_,_,_,_,_,_,_,_,_,_,_=>none
 |_=>none
theorem Ar9(r:List PV)(x:Ai)(h:Agl r=some x):Cs r (B8 x):=by
 unfold Agl at h
 split at h
 ·split at h
  ·rename_i h0 h1 h2 h3 h4 h5 h6 h7 h8 h9 h10 h11 h12 h13 h14
   injection h with h;subst h;exact (.cons (Xs h0) (.cons (Zt h1) (.cons (Dy h2) (.cons (Xs h3) (.cons (Aej h4) (.cons (Aek h5) (.cons (Ael h6) (.cons (Ol h7) (.cons (Ol h8) (.cons (Ol h9) (.cons (Ol h10) (.cons (Ol h11) (.cons (Aki h12) (.cons (Aem h13) (.cons (Aen h14) Cs.nil)))))))))))))))
  ·cases h
 ·cases h
def Adc:PV→Option Ai
 | .agg r=>Agl r
 |_=>none
theorem Aoc{p:PV}{x:Ai}(h:Adc p=some x):w8 p (.agg (B8 x)):=by
 unfold Adc at h
 split at h
 ·exact .agg (Ar9 _ _ h)
 ·cases h
def Cl:Cd Ai:=⟨fun x=> .agg (B8 x),Adc,Aoc⟩
def Ay(x:Aa):List PV:= [I x.Op,S x.Name,I x.N,.lst false (.t38 x.Kids)]
def Adh(r:List PV):Option Aa:=match r with
 | [c0,c1,c2,c3]=>match Ix .i64 c0,Rv c1,Ix .i64 c2,Ain c3 with
  |some a0,some a1,some a2,some a3=>some (Aa.mk a0 a1 a2 a3)
  |_,_,_,_=>none
 |_=>none
theorem Aof(r:List PV)(x:Aa)(h:Adh r=some x):Cs r (Ay x):=by
 unfold Adh at h
 split at h
 ·split at h
  ·rename_i h0 h1 h2 h3
   injection h with h;subst h;exact (.cons (Ck h0) (.cons (Dy h1) (.cons (Ck h2) (.cons (V2 h3) Cs.nil))))
  ·cases h
 ·cases h
def Aay:PV→Option Aa
 | .agg r=>Adh r
 |_=>none
theorem Ak9{p:PV}{x:Aa}(h:Aay p=some x):w8 p (.agg (Ay x)):=by
 unfold Aay at h
 split at h
 ·exact .agg (Aof _ _ h)
 ·cases h
def Bm:Cd Aa:=⟨fun x=> .agg (Ay x),Aay,Ak9⟩
def Bz(x:Af):List PV:= [S x.Name,.lst false (.t72 x.Params),.lst false (.t32 x.Sites),.lst false (.t172 x.Links)]
def Aa1(r:List PV):Option Af:=match r with
 | [c0,c1,c2,c3]=>match Rv c0,Ale c1,A7t c2,Azp c3 with
  |some a0,some a1,some a2,some a3=>some (Af.mk a0 a1 a2 a3)
  |_,_,_,_=>none
 |_=>none
theorem Alc(r:List PV)(x:Af)(h:Aa1 r=some x):Cs r (Bz x):=by
 unfold Aa1 at h
 split at h
 ·split at h
  ·rename_i h0 h1 h2 h3
   injection h with h;subst h;exact (.cons (Dy h0) (.cons (Xs h1) (.cons (Azr h2) (.cons (Av0 h3) Cs.nil))))
  ·cases h
 ·cases h
def s8:PV→Option Af
 | .agg r=>Aa1 r
 |_=>none
theorem Ail{p:PV}{x:Af}(h:s8 p=some x):w8 p (.agg (Bz x)):=by
 unfold s8 at h
 split at h
 ·exact .agg (Alc _ _ h)
 ·cases h
def C2:Cd Af:=⟨fun x=> .agg (Bz x),s8,Ail⟩
def Rn(x:Mq):List PV:= [S x.M.Name,.lst false (.t72 x.M.Params),.lst false (.t32 x.M.Sites),.lst false (.t172 x.M.Links),I x.Site,.lst false (.t68 x.Locals),.lst false (.t82 x.A),.lst false (.t82 x.B)]
def Wq(x:Be):List PV:= [S x.Name,I x.Type_]
def Ws(x:Bp):List PV:= [S x.Name,I x.Type_,I x.N]
def Hk(x:Bg):List PV:= [S x.Name,.lst false (.t68 x.Params),.lst false (.t68 x.Locals),.lst false (.t82 x.Body)]
def Z1(r:List PV):Option Bg:=match r with
 | [c0,c1,c2,c3]=>match Rv c0,Aoi c1,Aoi c2,Asl c3 with
  |some a0,some a1,some a2,some a3=>some (Bg.mk a0 a1 a2 a3)
  |_,_,_,_=>none
 |_=>none
theorem Agm(r:List PV)(x:Bg)(h:Z1 r=some x):Cs r (Hk x):=by
 unfold Z1 at h
 split at h
 ·split at h
  ·rename_i h0 h1 h2 h3
   injection h with h;subst h;exact (.cons (Dy h0) (.cons (Zt h1) (.cons (Zt h2) (.cons (t5 h3) Cs.nil))))
  ·cases h
 ·cases h
def Yg:PV→Option Bg
 | .agg r=>Z1 r
 |_=>none
theorem Aeh{p:PV}{x:Bg}(h:Yg p=some x):w8 p (.agg (Hk x)):=by
 unfold Yg at h
 split at h
 ·exact .agg (Agm _ _ h)
 ·cases h
def Yd:Cd Bg:=⟨fun x=> .agg (Hk x),Yg,Aeh⟩
def C9(x:Bo):List PV:= [I x.Op,I x.A,I x.B,I x.N,.lst false (.t3 x.Values),.lst false (.t3 x.Weights)]
def Adg(r:List PV):Option Bo:=match r with
 | [c0,c1,c2,c3,c4,c5]=>match Ix .i64 c0,Ix .i64 c1,Ix .i64 c2,Ix .i64 c3,dl3 c4,dl3 c5 with
  |some a0,some a1,some a2,some a3,some a4,some a5=>some (Bo.mk a0 a1 a2 a3 a4 a5)
  |_,_,_,_,_,_=>none
 |_=>none
theorem Aoe(r:List PV)(x:Bo)(h:Adg r=some x):Cs r (C9 x):=by
 unfold Adg at h
 split at h
 ·split at h
  ·rename_i h0 h1 h2 h3 h4 h5
   injection h with h;subst h;exact (.cons (Ck h0) (.cons (Ck h1) (.cons (Ck h2) (.cons (Ck h3) (.cons (W6 h4) (.cons (W6 h5) Cs.nil))))))
  ·cases h
 ·cases h
def Aax:PV→Option Bo
 | .agg r=>Adg r
 |_=>none
theorem Ak8{p:PV}{x:Bo}(h:Aax p=some x):w8 p (.agg (C9 x)):=by
 unfold Aax at h
 split at h
 ·exact .agg (Aoe _ _ h)
 ·cases h
def Ei:Cd Bo:=⟨fun x=> .agg (C9 x),Aax,Ak8⟩
def B2(x:Ab):List PV:= [I x.Op,S x.Name,S x.Of,I x.E.Op,S x.E.Name,I x.E.N,.lst false (.t38 x.E.Kids),I x.F.Op,S x.F.Name,I x.F.N,.lst false (.t38 x.F.Kids),.lst false (.t38 x.Args),I x.Dist.Op,I x.Dist.A,I x.Dist.B,I x.Dist.N,.lst false (.t3 x.Dist.Values),.lst false (.t3 x.Dist.Weights),B x.Flag,.lst false (.t82 x.Body),.lst false (.t82 x.Else)]
def Adi(r:List PV):Option Ab:=match r with
 | [c0,c1,c2,c3,c4,c5,c6,c7,c8,c9,c10,c11,c12,c13,c14,c15,c16,c17,c18,c19,c20]=>match Ix .i64 c0,Rv c1,Rv c2,Ix .i64 c3,Rv c4,Ix .i64 c5,Ain c6,Ix .i64 c7,Rv c8,Ix .i64 c9,Ain c10,Ain c11,Ix .i64 c12,Ix .i64 c13,Ix .i64 c14,Ix .i64 c15,dl3 c16,dl3 c17,Qe c18,Asl c19,Asl c20 with
  |some a0,some a1,some a2,some a3,some a4,some a5,some a6,some a7,some a8,some a9,some a10,some a11,some a12,some a13,some a14,some a15,some a16,some a17,some a18,some a19,some a20=>some (Ab.mk a0 a1 a2 (Aa.mk a3 a4 a5 a6) (Aa.mk a7 a8 a9 a10) a11 (Bo.mk a12 a13 a14 a15 a16 a17) a18 a19 a20)
  |_,_,_,_,_,_,_,_,_,_,_,_,_,_,_,_,_,_,_,_,_=>none
 |_=>none
theorem Aog(r:List PV)(x:Ab)(h:Adi r=some x):Cs r (B2 x):=by
 unfold Adi at h
 split at h
 ·split at h
  ·rename_i h0 h1 h2 h3 h4 h5 h6 h7 h8 h9 h10 h11 h12 h13 h14 h15 h16 h17 h18 h19 h20
   injection h with h;subst h;exact (.cons (Ck h0) (.cons (Dy h1) (.cons (Dy h2) (.cons (Ck h3) (.cons (Dy h4) (.cons (Ck h5) (.cons (V2 h6) (.cons (Ck h7) (.cons (Dy h8) (.cons (Ck h9) (.cons (V2 h10) (.cons (V2 h11) (.cons (Ck h12) (.cons (Ck h13) (.cons (Ck h14) (.cons (Ck h15) (.cons (W6 h16) (.cons (W6 h17) (.cons (E8 h18) (.cons (t5 h19) (.cons (t5 h20) Cs.nil)))))))))))))))))))))
  ·cases h
 ·cases h
def Aaz:PV→Option Ab
 | .agg r=>Adi r
 |_=>none
theorem Ala{p:PV}{x:Ab}(h:Aaz p=some x):w8 p (.agg (B2 x)):=by
 unfold Aaz at h
 split at h
 ·exact .agg (Aog _ _ h)
 ·cases h
def Co:Cd Ab:=⟨fun x=> .agg (B2 x),Aaz,Ala⟩
def Bw(x:Ag):List PV:= [S x.u_m.Name,.lst false (.t72 x.u_m.Params),.lst false (.t32 x.u_m.Sites),.lst false (.t172 x.u_m.Links),I x.u_site,.lst false (.t72 x.u_env.Params),.lst false (.t68 x.u_env.Locals),S x.u_env.Site.Name,.lst false (.t72 x.u_env.Site.Vars),.lst false (.t149 x.u_env.Site.Resources),.lst false (.t156 x.u_env.Site.Stores),.lst false (.t160 x.u_env.Site.Belts),.lst false (.t9 x.u_env.Site.Queues),.lst false (.t9 x.u_env.Site.Streams),.lst false (.t9 x.u_env.Site.Tallies),.lst false (.t9 x.u_env.Site.Levels),.lst false (.t9 x.u_env.Site.Counts),.lst false (.t74 x.u_env.Site.Routines),.lst false (.t166 x.u_env.Site.Starts),.lst false (.t184 x.u_env.Site.Laws)]
def Vq(r:List PV):Option Ag:=match r with
 | [c0,c1,c2,c3,c4,c5,c6,c7,c8,c9,c10,c11,c12,c13,c14,c15,c16,c17,c18,c19]=>match Rv c0,Ale c1,A7t c2,Azp c3,Ix .i64 c4,Ale c5,Aoi c6,Rv c7,Ale c8,Apv c9,Apw c10,Apx c11,dl9 c12,dl9 c13,dl9 c14,dl9 c15,dl9 c16,A12 c17,Apy c18,Apz c19 with
  |some a0,some a1,some a2,some a3,some a4,some a5,some a6,some a7,some a8,some a9,some a10,some a11,some a12,some a13,some a14,some a15,some a16,some a17,some a18,some a19=>some (Ag.mk (Af.mk a0 a1 a2 a3) a4 (Ai.mk a5 a6 (Ac.mk a7 a8 a9 a10 a11 a12 a13 a14 a15 a16 a17 a18 a19)))
  |_,_,_,_,_,_,_,_,_,_,_,_,_,_,_,_,_,_,_,_=>none
 |_=>none
theorem Ack(r:List PV)(x:Ag)(h:Vq r=some x):Cs r (Bw x):=by
 unfold Vq at h
 split at h
 ·split at h
  ·rename_i h0 h1 h2 h3 h4 h5 h6 h7 h8 h9 h10 h11 h12 h13 h14 h15 h16 h17 h18 h19
   injection h with h;subst h;exact (.cons (Dy h0) (.cons (Xs h1) (.cons (Azr h2) (.cons (Av0 h3) (.cons (Ck h4) (.cons (Xs h5) (.cons (Zt h6) (.cons (Dy h7) (.cons (Xs h8) (.cons (Aej h9) (.cons (Aek h10) (.cons (Ael h11) (.cons (Ol h12) (.cons (Ol h13) (.cons (Ol h14) (.cons (Ol h15) (.cons (Ol h16) (.cons (Aki h17) (.cons (Aem h18) (.cons (Aen h19) Cs.nil))))))))))))))))))))
  ·cases h
 ·cases h
def U6:PV→Option Ag
 | .ref r=>Vq r
 |_=>none
theorem Aa4{p:PV}{x:Ag}(h:U6 p=some x):w8 p (.ref (Bw x)):=by
 unfold U6 at h
 split at h
 ·exact .ref (Ack _ _ h)
 ·cases h
def B6:Cd Ag:=⟨fun x=> .ref (Bw x),U6,Aa4⟩
def Aa7(x:Bu):List PV:= [B x.u_code]
def Aa2(r:List PV):Option Bu:=match r with
 | [c0]=>match Qe c0 with
  |some a0=>some (Bu.mk a0)
  |_=>none
 |_=>none
theorem Ald(r:List PV)(x:Bu)(h:Aa2 r=some x):Cs r (Aa7 x):=by
 unfold Aa2 at h
 split at h
 ·split at h
  ·rename_i h0
   injection h with h;subst h;exact (.cons (E8 h0) Cs.nil)
  ·cases h
 ·cases h
def s9:PV→Option Bu
 | .agg r=>Aa2 r
 |_=>none
theorem Aim{p:PV}{x:Bu}(h:s9 p=some x):w8 p (.agg (Aa7 x)):=by
 unfold s9 at h
 split at h
 ·exact .agg (Ald _ _ h)
 ·cases h
def Gy:Cd Bu:=⟨fun x=> .agg (Aa7 x),s9,Aim⟩
def D0(x:Bn):List PV:= [B x.u_name,B x.u_of,B x.u_e,B x.u_f,B x.u_args,B x.u_dist,B x.u_flag,B x.u_body,B x.u_other]
def Adj(r:List PV):Option Bn:=match r with
 | [c0,c1,c2,c3,c4,c5,c6,c7,c8]=>match Qe c0,Qe c1,Qe c2,Qe c3,Qe c4,Qe c5,Qe c6,Qe c7,Qe c8 with
  |some a0,some a1,some a2,some a3,some a4,some a5,some a6,some a7,some a8=>some (Bn.mk a0 a1 a2 a3 a4 a5 a6 a7 a8)
  |_,_,_,_,_,_,_,_,_=>none
 |_=>none
theorem Aoh(r:List PV)(x:Bn)(h:Adj r=some x):Cs r (D0 x):=by
 unfold Adj at h
 split at h
 ·split at h
  ·rename_i h0 h1 h2 h3 h4 h5 h6 h7 h8
   injection h with h;subst h;exact (.cons (E8 h0) (.cons (E8 h1) (.cons (E8 h2) (.cons (E8 h3) (.cons (E8 h4) (.cons (E8 h5) (.cons (E8 h6) (.cons (E8 h7) (.cons (E8 h8) Cs.nil)))))))))
  ·cases h
 ·cases h
def Aa0:PV→Option Bn
 | .agg r=>Adj r
 |_=>none
theorem Alb{p:PV}{x:Bn}(h:Aa0 p=some x):w8 p (.agg (D0 x)):=by
 unfold Aa0 at h
 split at h
 ·exact .agg (Aoh _ _ h)
 ·cases h
def Zr:Cd Bn:=⟨fun x=> .agg (D0 x),Aa0,Alb⟩
def Wp(x:T1):List PV:= [S x.Stream,I x.Up.Op,I x.Up.A,I x.Up.B,I x.Up.N,.lst false (.t3 x.Up.Values),.lst false (.t3 x.Up.Weights),I x.Down.Op,I x.Down.A,I x.Down.B,I x.Down.N,.lst false (.t3 x.Down.Values),.lst false (.t3 x.Down.Weights)]
def Ns(x:Bf):List PV:= [S x.Name,I x.Units,.lst false (.t228 x.Shift),I x.Cycle,S x.Fault.Stream,I x.Fault.Up.Op,I x.Fault.Up.A,I x.Fault.Up.B,I x.Fault.Up.N,.lst false (.t3 x.Fault.Up.Values),.lst false (.t3 x.Fault.Up.Weights),I x.Fault.Down.Op,I x.Fault.Down.A,I x.Fault.Down.B,I x.Fault.Down.N,.lst false (.t3 x.Fault.Down.Values),.lst false (.t3 x.Fault.Down.Weights)]
def Rw(x:Bx):List PV:= [S x.Name,I x.Room,I x.Policy]
def S3(x:B3):List PV:= [S x.Name,I x.Length,I x.Step]
def Wr(x:Hg):List PV:= [S x.Routine,.lst false (.t3 x.Args),I x.At,I x.Every,I x.Until]
def Yi(x:Cq):List PV:= [S x.From,S x.To,I x.Delay]
def k5(x:Oh):List PV:= [S x.Name,.lst false (.t234 x.Terms),I x.Total]
def E7(x:B4):List PV:= [B x.Name,B x.Of,B x.E,B x.F,B x.Args,B x.Dist,B x.Flag,B x.Body,B x.Else]
def Adf(r:List PV):Option B4:=match r with
 | [c0,c1,c2,c3,c4,c5,c6,c7,c8]=>match Qe c0,Qe c1,Qe c2,Qe c3,Qe c4,Qe c5,Qe c6,Qe c7,Qe c8 with
  |some a0,some a1,some a2,some a3,some a4,some a5,some a6,some a7,some a8=>some (B4.mk a0 a1 a2 a3 a4 a5 a6 a7 a8)
  |_,_,_,_,_,_,_,_,_=>none
 |_=>none
theorem Aod(r:List PV)(x:B4)(h:Adf r=some x):Cs r (E7 x):=by
 unfold Adf at h
 split at h
 ·split at h
  ·rename_i h0 h1 h2 h3 h4 h5 h6 h7 h8
   injection h with h;subst h;exact (.cons (E8 h0) (.cons (E8 h1) (.cons (E8 h2) (.cons (E8 h3) (.cons (E8 h4) (.cons (E8 h5) (.cons (E8 h6) (.cons (E8 h7) (.cons (E8 h8) Cs.nil)))))))))
  ·cases h
 ·cases h
def Aaw:PV→Option B4
 | .agg r=>Adf r
 |_=>none
theorem Ak7{p:PV}{x:B4}(h:Aaw p=some x):w8 p (.agg (E7 x)):=by
 unfold Aaw at h
 split at h
 ·exact .agg (Aod _ _ h)
 ·cases h
def Ahw:Cd B4:=⟨fun x=> .agg (E7 x),Aaw,Ak7⟩
def U7(x:F6):List PV:= [I x.At,I x.Units]
def Yj(x:Jz):List PV:= [I x.Coef,S x.What,S x.Name]
end Go.Proofs.YtcbandfdmbkokaaGreat.Ev
