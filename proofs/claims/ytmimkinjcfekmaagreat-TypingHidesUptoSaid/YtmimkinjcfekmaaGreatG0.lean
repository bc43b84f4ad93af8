import Derived.Test.YtmimkinjcfekmaaGreatFx
import Derived.Test.YtmimkinjcfekmaaGreatFu
namespace Go.Proofs.YtmimkinjcfekmaaGreat.Ev
open Go An
set_option maxRecDepth 100000
set_option maxHeartbeats 4000000
set_option linter.unusedVariables false
set_option linter.unusedSimpArgs false
set_option linter.unnecessarySimpa false
theorem mixed: Tryz.prog.follows .mixedOrders=true:=by kernel_rfl
def inl:Nat→Bool:=fun f=>inL f [34,35,36,37,69,70,71,72,73,74,75,76,77,81,82,83,84,85,86,87,88,89,90,91,92,93,94,96,97,98,100,102,103,112,113,114,115,116,117,118,119,121,127,128,133,134,135,136,139,140,149,150,151,152,153,154,155,156]
def jn4:Nat→Bool:=fun f=>inL f [112,114,116,118,127]
def Yr:Go.Shelf.Ren:=⟨fun|4=>151|n=>n,fun|22=>23|25=>41|3=>3|4=>4|9=>9|20=>20|0=>0|n=>n,fun|n=>n⟩
theorem d8:Go.Proofs.Lays8.n4 Tryz.prog Yr:= {
 mixed:=by kernel_rfl
 f4:=⟨Tryz.f151.name,by decide,Tryz.func151.trans (congrArg some (by kernel_rfl))⟩
 t0:= Tryz.underlying0
 a0:= Tryz.isAgg0
 z0:= Tryz.sizeOf0
 v0:= Tryz.zeroValue0
 t3:= Tryz.underlying3
 a3:= Tryz.isAgg3
 z3:= Tryz.sizeOf3
 v3:= Tryz.zeroValue3
 t4:= Tryz.underlying4
 a4:= Tryz.isAgg4
 z4:= Tryz.sizeOf4
 v4:= Tryz.zeroValue4
 t9:= Tryz.underlying9
 a9:= Tryz.isAgg9
 z9:= Tryz.sizeOf9
 v9:= Tryz.zeroValue9
 t20:= Tryz.underlying20
 a20:= Tryz.isAgg20
 z20:= Tryz.sizeOf20
 v20:= Tryz.zeroValue20
 t22:= Tryz.underlying23
 a22:= Tryz.isAgg23
 z22:= Tryz.sizeOf23
 v22:= Tryz.zeroValue23 }
theorem Aeg:Tk Tryz.prog 151 41 24:=Abw d8 rfl rfl (by kernel_rfl) (sz:=2) (by kernel_rfl) (by decide) (fun x h=>by injection (h:some (LX.t41 [])=some x) with h;subst h;rfl)
def grw(f:Nat):Option (Nat×Nat):=match Nat.beq f 151 with
 |true=>some (41,24)
 |false=>none
theorem Yt:Rc Tryz.prog grw:=by
 intro f e b h
 unfold grw at h
 cases h151:Nat.beq f 151 with
 |true=>
  rw [h151] at h
  have:=Nat.eq_of_beq_eq_true h151
  subst this
  injection h with h
  injection h with h1 h2
  subst h1;subst h2
  exact ⟨fun h=>absurd h (by decide),fun _=>Aeg⟩
 |false=>
  rw [h151] at h
  cases h
def EI(O:Av)(M d:Nat):Tc:=evI Tryz.prog inl grw jn4 O M d
def EV(O:Av)(M d:Nat):EC→St→(Ex→St→Prop)→Prop:=On Tryz.prog O (evI Tryz.prog inl grw jn4 O M d) M
def EW(O:Av)(M d:Nat):List ResultVar→EC→List PV→(PV→Prop)→Prop:=Aed Tryz.prog O (evI Tryz.prog inl grw jn4 O M d) M
def YO(O:Av)(M d f:Nat)(a:List PV)(b:List (Nat×List PV))(k:PV→List (Nat×List PV)→Prop):Prop:=Yo Tryz.prog inl grw O M d f a b k
abbrev Mw:=PV→Prop
abbrev D2:=Ex→St→Prop
abbrev Mh:=PV→List (Nat×List PV)→Prop
def EC.u(c:EC):EC:=c.r.r
def EC.w(c:EC):EC:=c.u.u
def EC.x(c:EC):EC:=c.w.w
def rl(l:List Nat)(b:Bool:=false):List Bool:=match l with
 | []=> []
 |n::l=>List.replicate n b++rl l (!b)
def lv(x:LX):PV:= .lst false x
def RS(f:Func):List ResultVar:=f.results.toList
abbrev Oe:=En Tryz.prog
def oL(l:List Oe):Av:=orL l
theorem oS(l:List Oe):Bu Tryz.prog (oL l):=Aat l
noncomputable def CC(f:Func):EC:=(cFn Tryz.prog inl f).getD .stop
theorem hF{f:Nat}{fn:Func}(hf: Tryz.prog.funcs[f]? =some fn){C:Av}(hC:Bu Tryz.prog C)(L:Nat){args:List PV}{ρ :Type}{r: ρ}{F:Option ρ}{er: ρ→PV}(he:∀kk,EW C L 9 (RS fn) (CC fn) args kk=ob F (fun x=>kk (er x)))(h:F=some r)
  (hn:((cFn Tryz.prog inl fn).isSome && Nat.ble args.length fn.ntmps)=true:=by kernel_rfl):Ho Tryz.prog f args er r:=by
 have h1:=(Bool.and_eq_true _ _).mp hn
 have hc:cFn Tryz.prog inl fn=some (CC fn):=by
  unfold CC
  cases e:cFn Tryz.prog inl fn with
  |none=>rw [e] at h1;cases h1.1
  |some c=>rfl
 exact hE Yt hC mixed hf hc h1.2 he h
def EC.put:List Bool→EC→EC→EC
 | [],z,_=>z
 |true::p,z,.seq a b=> .seq (EC.put p z a) b
 |false::p,z,.seq a b=> .seq a (EC.put p z b)
 |true::p,z,.cond o a b=> .cond o (EC.put p z a) b
 |false::p,z,.cond o a b=> .cond o a (EC.put p z b)
 |true::p,z,.block i b=> .block i (EC.put p z b)
 |true::p,z,.loop k b=> .loop k (EC.put p z b)
 |_,_,c=>c
abbrev Ep:=Int×Int
def cl9:Cd (List ByteArray):=(oW LX.t9).cd
def Akd:Cd (List Ai):=(oW LX.t41).cd
def Jp:Cd Ab:=Eg.ca
def Iy:Cd Ae:=j5.ca
def Bd:Cd Aa:=Jh.ca
def Di:Cd Ah:=Xi.ca
end Go.Proofs.YtmimkinjcfekmaaGreat.Ev
