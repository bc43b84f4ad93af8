import Derived.Test.YtofcpkmnhmnfcaaGreatRFW
namespace Go.Proofs.YtofcpkmnhmnfcaaGreatR.Ev
open Go An
set_option maxRecDepth 100000
set_option maxHeartbeats 4000000
set_option linter.unusedVariables false
set_option linter.unusedSimpArgs false
set_option linter.unnecessarySimpa false
theorem mixed: Tryz.prog.follows .mixedOrders=true:=by kernel_rfl
def inl:Nat→Bool:=fun f=>inL f [24,25,26,27,28,45,59,60,61,62,66,67,68,69,91,92,97,98,99,100,101,102,103,104,105,109,110,111,112,113,114,115,116,117,118,119,120,121,122,124,125,126,128,130,131,162,163,164,165,166,167,168,177,178,179,180,182,183,214,215,219,220,221,241,242,243,244,252,24,1102476312640,1103003124228,1103003124344,1103003124348]
def jn4:Nat→Bool:=fun f=>inL f [26,45,67,68,69,97,98,100,101,104,105,110,111,113,114,121,122,125,130,131,163,165,167,177,178,179,182,214,243,252]
def Bj5:Go.Shelf.Ren:=⟨fun|4=>91|n=>n,fun|22=>55|25=>127|3=>3|4=>4|9=>9|20=>20|0=>0|n=>n,fun|n=>n⟩
theorem Bsx:Go.Proofs.Lays8.n4 Tryz.prog Bj5:= {
 mixed:=by kernel_rfl
 f4:=⟨Tryz.f91.name,by decide,Tryz.func91.trans (congrArg some (by kernel_rfl))⟩
 t0:= Tryz.underlying0
 a0:= Tryz.isAgg0
 z0:= Tryz.sizeOf0
 v0:= Tryz.zeroValue0
 t3:= Tryz.underlying3
 a3:= Tryz.isAgg3
 z3:= Tryz.sizeOf3
 v3:= Tryz.zeroValue3
 t4:= Tryz.underlying4
 a4:= Tryz.isAgg4
 z4:= Tryz.sizeOf4
 v4:= Tryz.zeroValue4
 t9:= Tryz.underlying9
 a9:= Tryz.isAgg9
 z9:= Tryz.sizeOf9
 v9:= Tryz.zeroValue9
 t20:= Tryz.underlying20
 a20:= Tryz.isAgg20
 z20:= Tryz.sizeOf20
 v20:= Tryz.zeroValue20
 t22:= Tryz.underlying55
 a22:= Tryz.isAgg55
 z22:= Tryz.sizeOf55
 v22:= Tryz.zeroValue55 }
theorem Cbg:A6k Tryz.prog 91 127 24:=Bve Bsx rfl rfl (by kernel_rfl) (sz:=2) (by kernel_rfl) (by decide) (fun x h=>by injection (h:some (LX.t127 [])=some x) with h;subst h;rfl)
theorem Clb:Bco Tryz.prog 24 39:=by
 refine ⟨by kernel_rfl,fun a c w=> ?_⟩
 have mixed:=mixed
 have t22:= Tryz.underlying22
 have q22:∀(w:World) (a:Option Addr) (n c n' c':Nat),(binOp .eql 22 (.slice a n c) (.slice none n' c')).run Tryz.prog w= .ok (.bool a.isNone) w:=fun w a n c n' c'=>Lib.run_eql_slice_nil w _ _ a n c n' c' t22
 have u22:∀w,Sem.run Tryz.prog (underlying 22) w= .ok (TypeDesc.slice 39) w:=run_underlying t22
 cases a with
 |none=>
  go_enter Tryz.func24,Tryz.ntmps24
  go_wp2
  go_ret
  exact .inl ⟨rfl,rfl⟩
 |some a=>
  go_enter Tryz.func24,Tryz.ntmps24
  go_wp2_with (at_builtin;refine Ayb rfl _ _ 22 rfl 39 t22 (by kernel_rfl) w.heap.size rfl a c rfl ?_)
  go_wp2
  go_ret
  exact .inr ⟨rfl,rfl⟩
def grw(f:Nat):Option (Nat×Nat):=match Nat.beq f 91 with
 |true=>some (127,24)
 |false=>match Nat.beq f 24 with
 |true=>some (39,0)
 |false=>none
theorem Bmk:A0i Tryz.prog grw:=by
 intro f e b h
 unfold grw at h
 cases h91:Nat.beq f 91 with
 |true=>
  rw [h91] at h
  have:=Nat.eq_of_beq_eq_true h91
  subst this
  injection h with h
  injection h with h1 h2
  subst h1;subst h2
  exact ⟨fun h=>absurd h (by decide),fun _=>Cbg⟩
 |false=>
  rw [h91] at h
  cases h24:Nat.beq f 24 with
  |true=>
   rw [h24] at h
   have:=Nat.eq_of_beq_eq_true h24
   subst this
   injection h with h
   injection h with h1 h2
   subst h1;subst h2
   exact ⟨fun _=>Clb,fun h=>absurd rfl h⟩
  |false=>
   rw [h24] at h
   cases h
def EI(O:Bd)(M d:Nat):Inl:=evI Tryz.prog inl grw jn4 O M d
def EV(O:Bd)(M d:Nat):EC→St→(Ex→St→Prop)→Prop:=evC Tryz.prog O (evI Tryz.prog inl grw jn4 O M d) M
def EW(O:Bd)(M d:Nat):List ResultVar→EC→List PV→(PV→Prop)→Prop:=B2v Tryz.prog O (evI Tryz.prog inl grw jn4 O M d) M
def YO(O:Bd)(M d f:Nat)(a:List PV)(b:List (Nat×List PV))(k:PV→List (Nat×List PV)→Prop):Prop:=Yo Tryz.prog inl grw O M d f a b k
abbrev Cz:=PV→Prop
abbrev Ba:=Ex→St→Prop
abbrev Bq:=PV→List (Nat×List PV)→Prop
def EC.u(c:EC):EC:=c.r.r
def EC.w(c:EC):EC:=c.u.u
def EC.x(c:EC):EC:=c.w.w
def rl(l:List Nat)(b:Bool:=false):List Bool:=match l with
 | []=> []
 |n::l=>List.replicate n b++rl l (!b)
def lv(x:LX):PV:= .lst false x
def RS(f:Func):List ResultVar:=f.results.toList
abbrev F7:=En Tryz.prog
def oL(l:List F7):Bd:=orL l
theorem oS(l:List F7):Dv Tryz.prog (oL l):=Bs7 l
noncomputable def CC(f:Func):EC:=(cFn Tryz.prog inl f).getD .stop
theorem hF{f:Nat}{fn:Func}(hf: Tryz.prog.funcs[f]? =some fn){C:Bd}(hC:Dv Tryz.prog C)(L:Nat){args:List PV}{ρ :Type}{r: ρ}{F:Option ρ}{er: ρ→PV}(he:∀kk,EW C L 9 (RS fn) (CC fn) args kk=ob F (fun x=>kk (er x)))(h:F=some r)
  (hn:((cFn Tryz.prog inl fn).isSome && Nat.ble args.length fn.ntmps)=true:=by kernel_rfl):Ho Tryz.prog f args er r:=by
 have h1:=(Bool.and_eq_true _ _).mp hn
 have hc:cFn Tryz.prog inl fn=some (CC fn):=by
  unfold CC
  cases e:cFn Tryz.prog inl fn with
  |none=>rw [e] at h1;cases h1.1
  |some c=>rfl
 exact hE Bmk hC mixed hf hc h1.2 he h
def EC.put:List Bool→EC→EC→EC
 | [],z,_=>z
 |true::p,z,.seq a b=> .seq (EC.put p z a) b
 |false::p,z,.seq a b=> .seq a (EC.put p z b)
 |true::p,z,.cond o a b=> .cond o (EC.put p z a) b
 |false::p,z,.cond o a b=> .cond o a (EC.put p z b)
 |true::p,z,.block i b=> .block i (EC.put p z b)
 |true::p,z,.loop k b=> .loop k (EC.put p z b)
 |_,_,c=>c
abbrev Cs:=Int×Int
abbrev Cw:=Int×List ByteArray×List Bool
abbrev Yq:=Bool×Int
abbrev M4:=Int×List ByteArray
abbrev Tu5:=Int×Int×List ByteArray×List Bool
abbrev Tu6:=Int×Bool
abbrev Tu7:=Int×Bool×Int
abbrev Tu8:=Ac×Int
abbrev Tu9:=Int×List ByteArray×Int
abbrev Avg:=Int×Int×ByteArray×List Ag
abbrev A3t:=Int×List Bs×List Bool
abbrev A3u:=Int×Int×List ByteArray×Int
abbrev Bjk:=Int×Int×List Bs×List Bool
abbrev Cm:=Nat×Cs
abbrev M3:=Nat×Yq
abbrev Vo:=Nat×Tu5
def cl3:Cd (List Int):=(oW LX.t3).cd
def cl9:Cd (List ByteArray):=(oW LX.t9).cd
def Ca8:Cd (List Int):=(oW LX.t37).cd
def Ca9:Cd (List Ag):=(oW LX.t39).cd
def B1b:Cd (List Ae):=(oW LX.t41).cd
def Cqi:Cd (List (List Ap)):=(oW LX.t55).cd
def A7d:Cd (List Ab):=(oW LX.t63).cd
def Xe:Cd (List Ad):=(oW LX.t96).cd
def A7c:Cd (List Ap):=(oW LX.t127).cd
def Cu:Cd Ac:=Be1.ca
def Bde:Cd Ag:=Aeo.ca
def Cn:Cd Aa:=Wm.ca
def Adm:Cd Am:=Ze.ca
def Bj:Cd Ab:=Ajk.ca
def Sr:Cd Bn:=Bh9.ca
def H7:Cd Ad:=Ajl.ca
def Bdd:Cd Ki:=Be0.ca
def N5:Cd Ah:=N8.ca
def Ayx:Cd Br:=Aen.ca
def Aw6:Cd A9:=Amv.ca
def Gg:Cd Aq:=Bko.ca
def Du:Cd Ao:=Az4.cp
def Ss:Cd Bl:=Be2.ca
def A26:Cd Ay:=Ajm.ca
def A27:Cd Bp:=Bia.ca
def Bfu:Cd Cr:=Bh8.ca
end Go.Proofs.YtofcpkmnhmnfcaaGreatR.Ev
