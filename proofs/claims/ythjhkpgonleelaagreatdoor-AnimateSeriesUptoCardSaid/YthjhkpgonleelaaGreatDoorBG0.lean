import Derived.Test.YthjhkpgonleelaaGreatDoorBFW
namespace Go.Proofs.YthjhkpgonleelaaGreatDoor.Ev
open Go An
set_option maxRecDepth 100000
set_option maxHeartbeats 4000000
set_option linter.unusedVariables false
set_option linter.unusedSimpArgs false
set_option linter.unnecessarySimpa false
theorem mixed: Tryz.prog.follows .mixedOrders=true:=by kernel_rfl
def inl:Nat→Bool:=fun f=>inL f [40,41,42,43,56,57,58,59,62,63,65,66,86,87,88,89,90,91,92,93,94,98,99,100,101,102,103,104,105,106,107,108,109,110,111,113,114,115,117,119,120,153,154,155,156,159,160,163,164,166,167,184,188,189,190,191,196,197,198,213,215,219,1102869988105,1102869988110,1114410582365,4398046511170]
def y9:Nat→Bool:=fun f=>inL f [43,57,58,59,62,86,87,89,90,93,94,99,100,102,103,110,111,114,119,120,153,154,155,159,163,188,196,213,215]
def Ato:Go.Shelf.Ren:=⟨fun|4=>184|n=>n,fun|22=>90|25=>200|3=>3|4=>4|9=>9|20=>20|0=>0|n=>n,fun|n=>n⟩
theorem Awr:Go.Proofs.Lays8.n4 Tryz.prog Ato:= {
 mixed:=by kernel_rfl
 f4:=⟨Tryz.f184.name,by decide,Tryz.func184.trans (congrArg some (by kernel_rfl))⟩
 t0:= Tryz.underlying0
 a0:= Tryz.isAgg0
 z0:= Tryz.sizeOf0
 v0:= Tryz.zeroValue0
 t3:= Tryz.underlying3
 a3:= Tryz.isAgg3
 z3:= Tryz.sizeOf3
 v3:= Tryz.zeroValue3
 t4:= Tryz.underlying4
 a4:= Tryz.isAgg4
 z4:= Tryz.sizeOf4
 v4:= Tryz.zeroValue4
 t9:= Tryz.underlying9
 a9:= Tryz.isAgg9
 z9:= Tryz.sizeOf9
 v9:= Tryz.zeroValue9
 t20:= Tryz.underlying20
 a20:= Tryz.isAgg20
 z20:= Tryz.sizeOf20
 v20:= Tryz.zeroValue20
 t22:= Tryz.underlying90
 a22:= Tryz.isAgg90
 z22:= Tryz.sizeOf90
 v22:= Tryz.zeroValue90 }
theorem A9y:Ali Tryz.prog 184 200 24:=A5v Awr rfl rfl (by kernel_rfl) (sz:=2) (by kernel_rfl) (by decide) (fun x h=>by injection (h:some (LX.t200 [])=some x) with h;subst h;rfl)
def grw(f:Nat):Option (Nat×Nat):=match Nat.beq f 184 with
 |true=>some (200,24)
 |false=>none
theorem Bdm:Ah7 Tryz.prog grw:=by
 intro f e b h
 unfold grw at h
 cases h184:Nat.beq f 184 with
 |true=>
  rw [h184] at h
  have:=Nat.eq_of_beq_eq_true h184
  subst this
  injection h with h
  injection h with h1 h2
  subst h1;subst h2
  exact ⟨fun h=>absurd h (by decide),fun _ _=>A9y⟩
 |false=>
  rw [h184] at h
  cases h
def EI(O:Bt)(M d:Nat):Inl:=evI Tryz.prog inl grw y9 O M d
def EV(O:Bt)(M d:Nat):EC→St→(Ex→St→Prop)→Prop:=f9 Tryz.prog O (evI Tryz.prog inl grw y9 O M d) M
def EW(O:Bt)(M d:Nat):List ResultVar→EC→List PV→(PV→Prop)→Prop:=Atd Tryz.prog O (evI Tryz.prog inl grw y9 O M d) M
def YO(O:Bt)(M d f:Nat)(a:List PV)(b:List (Nat×List PV))(k:PV→List (Nat×List PV)→Prop):Prop:=Yo Tryz.prog inl grw O M d f a b k
abbrev Ep:=PV→Prop
abbrev Ci:=Ex→St→Prop
abbrev Bn:=PV→List (Nat×List PV)→Prop
def EC.u(c:EC):EC:=c.r.r
def EC.w(c:EC):EC:=c.u.u
def EC.x(c:EC):EC:=c.w.w
def rl(l:List Nat)(b:Bool:=false):List Bool:=match l with
 | []=> []
 |n::l=>List.replicate n b++rl l (!b)
def lv(x:LX):PV:= .lst false x
def RS(f:Func):List ResultVar:=f.results.toList
abbrev Qi:=En Tryz.prog
def oL(l:List Qi):Bt:=orL l
theorem oS(l:List Qi):Ed Tryz.prog (oL l):=A3l l
noncomputable def CC(f:Func):EC:=(cFn Tryz.prog inl f).getD .stop
theorem hF{f:Nat}{fn:Func}(hf: Tryz.prog.funcs[f]? =some fn){C:Bt}(hC:Ed Tryz.prog C)(L:Nat){args:List PV}{ρ :Type}{r: ρ}{F:Option ρ}{er: ρ→PV}(he:∀kk,EW C L 9 (RS fn) (CC fn) args kk=ob F (fun x=>kk (er x)))(h:F=some r)
  (hn:((cFn Tryz.prog inl fn).isSome && Nat.ble args.length fn.ntmps)=true:=by kernel_rfl):Ho Tryz.prog f args er r:=by
 have h1:=(Bool.and_eq_true _ _).mp hn
 have hc:cFn Tryz.prog inl fn=some (CC fn):=by
  unfold CC
  cases e:cFn Tryz.prog inl fn with
  |none=>rw [e] at h1;cases h1.1
  |some c=>rfl
 exact hE Bdm hC mixed hf hc h1.2 he h
def EC.put:List Bool→EC→EC→EC
 | [],z,_=>z
 |true::p,z,.seq a b=> .seq (EC.put p z a) b
 |false::p,z,.seq a b=> .seq a (EC.put p z b)
 |true::p,z,.cond o a b=> .cond o (EC.put p z a) b
 |false::p,z,.cond o a b=> .cond o a (EC.put p z b)
 |true::p,z,.block i b=> .block i (EC.put p z b)
 |true::p,z,.loop k b=> .loop k (EC.put p z b)
 |_,_,c=>c
abbrev L1:=Int×Int
abbrev Co:=Int×List ByteArray×List Bool
abbrev Y6:=Int×Int×List ByteArray×List Bool
abbrev Tu5:=Bool×Int
abbrev Tu8:=Int×List Aw×List Bool×List Int×List Int×List Int
abbrev Akn:=Int×List Br×List Bool
abbrev Anu:=Int×List Aw×List Bool
abbrev Avw:=Int×Int×List Br×List Bool
abbrev Hl:=Nat×L1
abbrev L5:=Nat×Y6
def cl3:Cd (List Int):=(oW LX.t3).cd
def cl9:Cd (List ByteArray):=(oW LX.t9).cd
def Bkl:Cd (List Bc):=(oW LX.t32).cd
def Bfa:Cd (List Bo):=(oW LX.t46).cd
def Bob:Cd (List (List Ba)):=(oW LX.t90).cd
def Aer:Cd (List Ag):=(oW LX.t264).cd
def H5:Cd Ad:=Am6.ca
def Agy:Cd Bc:=Ur.ca
def K2:Cd Aa:=N4.ca
def Akq:Cd Bk:=N3.ca
def Abt:Cd Aq:=Ary.ca
def As0:Cd Bu:=Xw.ca
def k7:Cd Cp:=Auw.ca
def Aqt:Cd Ml:=Arx.ca
def Aee:Cd Ap:=Jd.ca
def Alw:Cd Ao:=P8.ca
def Cw:Cd Ab:=Xx.ca
def Abs:Cd Bm:=Us.ca
def Ot:Cd Ar:=Aof.ca
def Aqu:Cd Cl:=Ut.ca
def As1:Cd Be:=Xz.ca
def Li:Cd Bj:=Arz.ca
def Aj3:Cd Ag:=Xy.ca
def Aj4:Cd Bp:=Aux.ca
end Go.Proofs.YthjhkpgonleelaaGreatDoor.Ev
