import Derived.Test.YthjhkpgonleelaaGreatDoorLFW
set_option maxRecDepth 100000
set_option maxHeartbeats 4000000
set_option linter.unusedVariables false
set_option linter.unusedSimpArgs false
set_option linter.unnecessarySimpa false
namespace Go.Proofs.YthjhkpgonleelaaGreatDoor.Ev
open Go An
def zq1:List (List PV):= [[.bI 91 0 [.loc 3 0,.loc 1 0]],[.bI 92 0 [.loc 1 0,.loc 3 0]],[.bI 98 0 [.loc 1 0,.loc 3 0]],[.bI 101 0 [.loc 1 0,.loc 3 0]],[.bI 104 0 [.loc 4 0,.loc 1 0]],[.bI 105 0 [.loc 4 0,.loc 1 0]],[.bI 106 0 [.loc 4 0,.loc 1 0]],[.bI 107 0 [.loc 4 0,.loc 1 0]],[.bI 108 0 [.loc 4 0,.loc 1 0]],[.bI 109 0 [.loc 1 0,.loc 3 0]],[.bI 113 0 [.loc 1 0]],[.bI 117 0 [.loc 1 0]]]
def zq2:List PV:= [I 0,I 0,.bA true (.t3 []),.bA true (.t3 []),.bA true (.t3 []),.bA true (.t3 [])]
def Qa:Nat×List PV:=(4,[.bI 88 0 [.loc 3 0]])
def Qb:Nat×List PV:=(3,[.mp 5])
def zq5:PV:=.bI 191 0 [.loc 3 0]
def zq6:PV:=.bA true (.t9 [])
def zq7:Nat×PV:=(1,.loc 1 0)
def zq8:List PV:= [.aO false false (.t9 []) (.t4 [])]
def zq9:List PV:= [.loc 4 0,.loc 1 0]
def Af4:List PV:= [.loc 1 0,.loc 3 0]
def Blb:List (Nat×List PV):= [(2,[B false,B false,B false,B false,B false,B false,B false,B false,B false])]
def Ana:PV:=.bI 167 0 [.loc 2 0]
def Sw:Nat×PV:=(2,.loc 2 0)
def Th:Nat×PV:=(3,.loc 3 0)
def Auq:List PV:= [.loc 3 0,.loc 1 0]
def Af5:Nat×PV:=(43,B true)
def Ae7:List PV:= [.loc 3 0]
def Ais:Nat×PV:=(4,B false)
def Ald:Nat×List PV:=(3,[.mp 4])
def Bbr:PV:=.bI 59 1 [.mp 5]
def Aw0:Nat×PV:=(1,.loc 3 0)
def Bo6:PV:=.bI 198 0 [.loc 3 0,.loc 4 0]
def Bhi:PV:=.bA true (.dN [])
def Bbs:Nat×PV:=(21,.loc 2 3)
def Bo7:Nat×PV:=(2,.bA true (.t61 []))
def A1w:List PV:= [.loc 1 0]
def A7d:Nat×List PV:=(5,[.mp 24])
def Bo8:Nat×PV:=(3,.vw true 9 61 1 10)
def Bo9:PV:=.bI 58 0 [.loc 5 0]
def Bbt:Nat×PV:=(8,.loc 8 0)
def Bbu:PV:=.loc 2017 0
def A5z:Nat×PV:=(9,B true)
def Bpa:PV:=.bI 87 1 [.mp 13]
def Bbv:Nat×PV:=(5,B false)
def Be9:Nat×PV:=(4,.loc 4 0)
def Bpb:PV:=.bI 87 1 [.mp 5]
def B4e:PV:=.bI 164 0 [.loc 4 0,.loc 5 0]
def Blc:Nat×PV:=(3,.loc 2046 0)
def A7e:Nat×PV:=(11,.any)
def Bhj:Nat×PV:=(5,.loc 5 0)
def Bld:Nat×PV:=(44,.loc 3 3)
def Ble:Nat×PV:=(0,.loc 19 0)
def Bbw:Nat×PV:=(12,.any)
def Bpc:Nat×PV:=(3,.loc 1042 0)
def Bpd:Nat×PV:=(5,.loc 1044 0)
def Bpe:Nat×PV:=(6,.loc 1045 0)
def Bpf:Nat×PV:=(8,.loc 1014 0)
theorem mixed: Tryz.prog.follows .mixedOrders=true:=by kernel_rfl
def inl:Nat->Bool:=λf=>inL f [40,41,42,43,56,57,58,59,62,63,65,66,86,87,88,89,90,91,92,93,94,98,99,100,101,102,103,104,105,106,107,108,109,110,111,113,114,115,117,119,120,153,154,155,156,159,160,163,164,166,167,184,188,189,190,191,196,197,198,213,215,219,1102869988105,1102869988110,1114410582365,4398046511170]
def jn4:Nat->Bool:=λf=>inL f [41,43,57,58,59,62,65,86,87,89,90,93,94,99,100,102,103,110,111,114,119,120,153,154,155,159,163,188,196,213,215]
def Bc4:Go.Shelf.Ren:=⟨λ|4=>184|n=>n,λ|22=>90|25=>200|3=>3|4=>4|9=>9|20=>20|0=>0|n=>n,λ|n=>n⟩
theorem Bf8:Go.Proofs.Lays8.n4 Tryz.prog Bc4:= {
 mixed:=by kernel_rfl
 f4:=⟨Tryz.f184.name,by decide,Tryz.func184.trans (congrArg some (by kernel_rfl))⟩
 t0:= Tryz.underlying0
 a0:= Tryz.isAgg0
 z0:= Tryz.sizeOf0
 v0:= Tryz.zeroValue0
 t3:= Tryz.underlying3
 a3:= Tryz.isAgg3
 z3:= Tryz.sizeOf3
 v3:= Tryz.zeroValue3
 t4:= Tryz.underlying4
 a4:= Tryz.isAgg4
 z4:= Tryz.sizeOf4
 v4:= Tryz.zeroValue4
 t9:= Tryz.underlying9
 a9:= Tryz.isAgg9
 z9:= Tryz.sizeOf9
 v9:= Tryz.zeroValue9
 t20:= Tryz.underlying20
 a20:= Tryz.isAgg20
 z20:= Tryz.sizeOf20
 v20:= Tryz.zeroValue20
 t22:= Tryz.underlying90
 a22:= Tryz.isAgg90
 z22:= Tryz.sizeOf90
 v22:= Tryz.zeroValue90 }
theorem Bsb:A2n Tryz.prog 184 200 24:=Bmr Bf8 rfl rfl (by kernel_rfl) (sz:=2) (by kernel_rfl) (by decide) (λx h=>by injection (h:some (LX.dQ [])=some x)with h;subst h;rfl)
def grw(f:Nat):Option (Nat×Nat):=match Nat.beq f 184 with
 |true=>some (200,24)
 |false=>none
theorem Bw8:Aw5 Tryz.prog grw:=by
 intro f e b h;unfold grw at h;cases h184:Nat.beq f 184 with
 |true=>
  rw[h184]at h;have:=Nat.eq_of_beq_eq_true h184;subst this;injection h with h
  injection h with h1 h2
  subst h1;subst h2
  exact⟨λh=>absurd h (by decide),λ_ _=>Bsb⟩
 |false=>
  rw[h184]at h;cases h
def EI(O:Bc)(M d:Nat):Inl:=evI Tryz.prog inl grw jn4 O M d
def EV(O:Bc)(M d:Nat):EC->St->(Ex->St->Prop)->Prop:=evC Tryz.prog O (evI Tryz.prog inl grw jn4 O M d) M
def EW(O:Bc)(M d:Nat):List ResultVar->EC->List PV->(PV->Prop)->Prop:=Bcr Tryz.prog O (evI Tryz.prog inl grw jn4 O M d) M
def YO(O:Bc)(M d f:Nat)(a:List PV)(b:List (Nat×List PV))(k:PV->List (Nat×List PV)->Prop):Prop:=Yo Tryz.prog inl grw O M d f a b k
abbrev K5:=PV->Prop
abbrev Ef:=Ex->St->Prop
abbrev Dj:=PV->List (Nat×List PV)->Prop
def EC.u(c:EC):EC:=c.r.r
def EC.w(c:EC):EC:=c.u.u
def EC.x(c:EC):EC:=c.w.w
def rl(l:List Nat)(b:Bool:=false):List Bool:=match l with
 | []=> []
 |n::l=>List.replicate n b++rl l (!b)
def lv(x:LX):PV:=.bA false x
def RS(f:Func):List ResultVar:=f.results.toList
abbrev F3:=En Tryz.prog
def oL(l:List F3):Bc:=orL l
theorem oS(l:List F3):Dl Tryz.prog (oL l):=Bkm l
noncomputable def CC(f:Func):EC:=(cFn Tryz.prog inl f).getD .stop
theorem hF{f:Nat}{fn:Func}(hf: Tryz.prog.funcs[f]? =some fn){C:Bc}(hC:Dl Tryz.prog C)(L:Nat){args:List PV}{ρ :Type}{r: ρ}{F:Option ρ}{er: ρ->PV}(he:∀kk,EW C L 9 (RS fn) (CC fn) args kk=ob F (λx=>kk (er x)))(h:F=some r)
  (hn:((cFn Tryz.prog inl fn).isSome && Nat.ble args.length fn.ntmps)=true:=by kernel_rfl):Ho Tryz.prog f args er r:=by
 have h1:=(Bool.and_eq_true _ _).mp hn;have hc:cFn Tryz.prog inl fn=some (CC fn):=by
  unfold CC;cases e:cFn Tryz.prog inl fn with
  |none=>rw[e]at h1;cases h1.1
  |some c=>rfl
 exact hE Bw8 hC mixed hf hc h1.2 he h
def KE(f:Func)(k:K5):Ef:=Bnc Tryz.prog (RS f) k
def KJ(f:Func)(k:Dj):Ef:=Bnd Tryz.prog (RS f) k
def KA(O:Bc)(M d:Nat)(c:EC)(l:List Bool)(k:Ef):Ef:=kAt Tryz.prog O (EI O M d) M c l k
def Md(O:Bc)(M d n m:Nat)(c:EC)(st:St)(s:Option Nat)(k:St->Prop):Dj:=B0g Tryz.prog O (EI O M d) n (List.drop m c.ops) st s k
def KCQ(O:Bc)(M d n m:Nat)(c:EC)(st:St)(s:Option Nat)(k:St->Prop):Dj:=B0f Tryz.prog O (EI O M d) n (List.drop m c.ops) st s k
def EC.put:List Bool->EC->EC->EC
 | [],z,_=>z
 |true::p,z,.seq a b=>.seq (EC.put p z a) b
 |false::p,z,.seq a b=>.seq a (EC.put p z b)
 |true::p,z,.cond o a b=>.cond o (EC.put p z a) b
 |false::p,z,.cond o a b=>.cond o a (EC.put p z b)
 |true::p,z,.block i b=>.block i (EC.put p z b)
 |true::p,z,.loop k b=>.loop k (EC.put p z b)
 |_,_,c=>c
abbrev Jc:=Int×Int
abbrev Df:=Int×List Yb×List Bool
abbrev Nl:=Int×List Yb
abbrev Tu4:=Int×Int×List Yb×List Bool
abbrev Tu5:=Bool×Int
abbrev Tu6:=Int×Int×Int
abbrev Tu7:=Int×List Yb×Int
abbrev Tu8:=Int×List Am×List Bool×List Int×List Int×List Int
abbrev Tu9:=List Am×Int×List Int×List Int×List Int
abbrev A29:=List Am×List Bool×List Int×List Int×List Int
abbrev A52:=Int×List Bo×List Bool
abbrev A53:=Int×Int×List Yb×Int
abbrev A54:=List Am×List Int×List Int×List Int
abbrev C3:=Nat×Jc
abbrev Po:=Nat×Tu4
def cl3:Cd (List Int):=(oW LX.t3).cd
def cl9:Cd (List Yb):=(oW LX.t9).cd
def B6u:Cd (List Ao):=(oW LX.t32).cd
def Bj2:Cd (List Au):=(oW LX.t46).cd
def Ca7:Cd (List (List A9)):=(oW LX.gH).cd
def Bj3:Cd (List Ab):=(oW LX.dU).cd
def Y7:Cd (List Ad):=(oW LX.dW).cd
def B7:Cd Ac:=A5g.ca
def Ry:Cd Ao:=m8.ca
def C7:Cd Aa:=Sq.ca
def Ao4:Cd Az:=Sp.ca
def Ve:Cd Ai:=Ba3.ca
def Oa:Cd Ap:=Aew.ca
def Ob:Cd Bk:=Bec.ca
def A9g:Cd Np:=Ba2.ca
def Ww:Cd Aj:=K9.ca
def Aq1:Cd Al:=U3.ca
def Bi:Cd Ab:=Aex.ca
def Oc:Cd Aq:=m9.ca
def A9h:Cd Aw:=p9.ca
def S2:Cd Av:=A7a.ca
def Avi:Cd Bv:=o0.ca
def Bfm:Cd Bh:=Ah8.ca
def Az3:Cd Bd:=Aez.ca
def Od:Cd Bl:=Ba4.ca
def Aem:Cd Ad:=Aey.ca
def Az4:Cd Bs:=Bed.ca
def Bcd:Cd Cz:=Beb.ca
end Go.Proofs.YthjhkpgonleelaaGreatDoor.Ev
