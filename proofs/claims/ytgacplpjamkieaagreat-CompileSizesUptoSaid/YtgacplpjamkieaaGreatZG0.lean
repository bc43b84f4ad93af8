import Derived.Test.YtgacplpjamkieaaGreatZFW
set_option maxRecDepth 100000
set_option maxHeartbeats 4000000
set_option linter.unusedVariables false
set_option linter.unusedSimpArgs false
set_option linter.unnecessarySimpa false
namespace Go.Proofs.YtgacplpjamkieaaGreat.Ev
open Go An
def zq1:List (List PV):= [[.bK 130 0 [.loc 3 0,.loc 1 0]],[.bK 131 0 [.loc 1 0,.loc 3 0]],[.bK 137 0 [.loc 1 0,.loc 3 0]],[.bK 140 0 [.loc 1 0,.loc 3 0]],[.bK 143 0 [.loc 4 0,.loc 1 0]],[.bK 144 0 [.loc 4 0,.loc 1 0]],[.bK 145 0 [.loc 4 0,.loc 1 0]],[.bK 146 0 [.loc 4 0,.loc 1 0]],[.bK 147 0 [.loc 4 0,.loc 1 0]],[.bK 148 0 [.loc 1 0,.loc 3 0]],[.bK 152 0 [.loc 1 0]],[.bK 156 0 [.loc 1 0]]]
def Qb:Nat×List PV:=(4,[.bK 127 0 [.loc 3 0]])
def Qc:Nat×List PV:=(3,[.mp 5])
def zq4:PV:=.bK 236 0 [.loc 3 0]
def zq5:List PV:= [.aP false false (.t9 []) (.t4 [])]
def zq6:List PV:= [.loc 4 0,.loc 1 0]
def zq7:List PV:= [.loc 1 0,.loc 3 0]
def zq8:List PV:= [.loc 3 0]
def zq9:Nat×PV:=(3,.loc 3 0)
def Ans:List PV:= [.loc 3 0,.loc 1 0]
def Ab9:Nat×PV:=(2,.loc 2 0)
def Afs:Nat×List PV:=(3,[.mp 4])
def Ajq:Nat×PV:=(1,.loc 1 0)
def Axx:PV:=.aV true (.t59 [])
def Bp6:Nat×List PV:=(2,[B false,B false,B false,B false,B false,B false,B false,B false,B false])
def A1p:PV:=.bK 79 1 [.mp 5]
def Apz:Nat×PV:=(1,.loc 3 0)
def Bdk:PV:=.bK 241 0 [.loc 3 0,.loc 4 0]
def A1q:Nat×PV:=(21,.loc 2 3)
def At0:List PV:= [.loc 1 0]
def Axy:Nat×List PV:=(5,[.mp 24])
def Bdl:PV:=.bK 78 0 [.loc 5 0]
def Axz:Nat×PV:=(4,B false)
def A1r:PV:=.loc 2017 0
def Awz:Nat×PV:=(9,B true)
def Bdm:PV:=.bK 126 1 [.mp 13]
def Bdn:PV:=.bK 126 1 [.mp 5]
def A1s:Nat×PV:=(5,B false)
def Bp7:PV:=.bK 216 0 [.loc 4 0,.loc 5 0]
def Bdo:Nat×PV:=(8,.loc 1014 0)
theorem mixed: Tryz.prog.follows .mixedOrders=true:=by kernel_rfl
def inl:Nat->Bool:=λf=>inL f [12,31,36,51,55,58,61,73,74,76,77,78,79,85,86,89,117,119,120,121,125,126,127,128,129,130,131,132,133,137,138,139,140,141,142,143,144,145,146,147,148,149,150,152,153,154,156,158,159,170,171,173,174,177,178,179,180,181,182,183,199,206,207,208,209,212,215,216,235,236,240,241,246,1103007711601,1103007711605,1104615440720,1104623796288,1108774945284,1113070731461,17593881010243,35184372088863,35184372088868,35184372088887,35184372088890,35184372088893,35184372088918,35184372088921,70369181188142,70369902555173,70370438946874,70370438983702,70370439065624,70370439143491,70370439172149,70370439372938,140739183124538,140739183161366,140739183243288,140739183321155,140739183349813,140739183550602,281475413807193]
def jn4:Nat->Bool:=λf=>inL f [73,77,78,79,125,126,128,129,132,133,138,139,141,142,149,150,153,158,159,170,173,178,180,182,206,207,208,215,246]
def A40:Go.Shelf.Ren:=⟨λ|4=>51|n=>n,λ|22=>44|25=>81|3=>3|4=>4|9=>9|20=>20|0=>0|n=>n,λ|n=>n⟩
theorem A8r:Go.Proofs.Lays8.n4 Tryz.prog A40:= {
 mixed:=by kernel_rfl
 f4:=⟨Tryz.f51.name,by decide,Tryz.func51.trans (congrArg some (by kernel_rfl))⟩
 t0:= Tryz.underlying0
 a0:= Tryz.isAgg0
 z0:= Tryz.sizeOf0
 v0:= Tryz.zeroValue0
 t3:= Tryz.underlying3
 a3:= Tryz.isAgg3
 z3:= Tryz.sizeOf3
 v3:= Tryz.zeroValue3
 t4:= Tryz.underlying4
 a4:= Tryz.isAgg4
 z4:= Tryz.sizeOf4
 v4:= Tryz.zeroValue4
 t9:= Tryz.underlying9
 a9:= Tryz.isAgg9
 z9:= Tryz.sizeOf9
 v9:= Tryz.zeroValue9
 t20:= Tryz.underlying20
 a20:= Tryz.isAgg20
 z20:= Tryz.sizeOf20
 v20:= Tryz.zeroValue20
 t22:= Tryz.underlying44
 a22:= Tryz.isAgg44
 z22:= Tryz.sizeOf44
 v22:= Tryz.zeroValue44 }
theorem Blm:Auf Tryz.prog 51 81 24:=Bbe A8r rfl rfl (by kernel_rfl) (sz:=2) (by kernel_rfl) (by decide) (λx h=>by injection (h:some (LX.dW [])=some x)with h;subst h;rfl)
theorem Bsq:Ala Tryz.prog 48 47:=by
 refine⟨by kernel_rfl,λa c w=>?_⟩;have mixed:=mixed;have t22:= Tryz.underlying32;have q22:∀(w:World) (a:Option Addr) (n c n' c':Nat),(binOp .eql 32 (.slice a n c) (.slice none n' c')).run Tryz.prog w=.ok (.bool a.isNone) w:=λw a n c n' c'=>Lib.run_eql_slice_nil w _ _ a n c n' c' t22;have u22:∀w,Sem.run Tryz.prog (underlying 32) w=.ok (TypeDesc.slice 47) w:=run_underlying t22;cases a with
 |none=>
  go_enter Tryz.func48,Tryz.ntmps48
  go_wp2
  go_ret
  exact .inl ⟨rfl,rfl⟩
 |some a=>
  go_enter Tryz.func48,Tryz.ntmps48
  go_wp2_with (at_builtin;refine Sg rfl _ _ 32 rfl 47 t22 (by kernel_rfl) w.heap.size rfl a c rfl ?_)
  go_wp2
  go_ret
  exact .inr ⟨rfl,rfl⟩
theorem Bsr:Ala Tryz.prog 70 36:=by
 refine⟨by kernel_rfl,λa c w=>?_⟩;have mixed:=mixed;have t22:= Tryz.underlying23;have q22:∀(w:World) (a:Option Addr) (n c n' c':Nat),(binOp .eql 23 (.slice a n c) (.slice none n' c')).run Tryz.prog w=.ok (.bool a.isNone) w:=λw a n c n' c'=>Lib.run_eql_slice_nil w _ _ a n c n' c' t22;have u22:∀w,Sem.run Tryz.prog (underlying 23) w=.ok (TypeDesc.slice 36) w:=run_underlying t22;cases a with
 |none=>
  go_enter Tryz.func70,Tryz.ntmps70
  go_wp2
  go_ret
  exact .inl ⟨rfl,rfl⟩
 |some a=>
  go_enter Tryz.func70,Tryz.ntmps70
  go_wp2_with (at_builtin;refine Sg rfl _ _ 23 rfl 36 t22 (by kernel_rfl) w.heap.size rfl a c rfl ?_)
  go_wp2
  go_ret
  exact .inr ⟨rfl,rfl⟩
theorem Bss:Ala Tryz.prog 85 59:=by
 refine⟨by kernel_rfl,λa c w=>?_⟩;have mixed:=mixed;have t22:= Tryz.underlying38;have q22:∀(w:World) (a:Option Addr) (n c n' c':Nat),(binOp .eql 38 (.slice a n c) (.slice none n' c')).run Tryz.prog w=.ok (.bool a.isNone) w:=λw a n c n' c'=>Lib.run_eql_slice_nil w _ _ a n c n' c' t22;have u22:∀w,Sem.run Tryz.prog (underlying 38) w=.ok (TypeDesc.slice 59) w:=run_underlying t22;cases a with
 |none=>
  go_enter Tryz.func85,Tryz.ntmps85
  go_wp2
  go_ret
  exact .inl ⟨rfl,rfl⟩
 |some a=>
  go_enter Tryz.func85,Tryz.ntmps85
  go_wp2_with (at_builtin;refine Sg rfl _ _ 38 rfl 59 t22 (by kernel_rfl) w.heap.size rfl a c rfl ?_)
  go_wp2
  go_ret
  exact .inr ⟨rfl,rfl⟩
theorem Bkz:Ala Tryz.prog 118 83:=by
 refine⟨by kernel_rfl,λa c w=>?_⟩;have mixed:=mixed;have t22:= Tryz.underlying22;have q22:∀(w:World) (a:Option Addr) (n c n' c':Nat),(binOp .eql 22 (.slice a n c) (.slice none n' c')).run Tryz.prog w=.ok (.bool a.isNone) w:=λw a n c n' c'=>Lib.run_eql_slice_nil w _ _ a n c n' c' t22;have u22:∀w,Sem.run Tryz.prog (underlying 22) w=.ok (TypeDesc.slice 83) w:=run_underlying t22;cases a with
 |none=>
  go_enter Tryz.func118,Tryz.ntmps118
  go_wp2
  go_ret
  exact .inl ⟨rfl,rfl⟩
 |some a=>
  go_enter Tryz.func118,Tryz.ntmps118
  go_wp2_with (at_builtin;refine Sg rfl _ _ 22 rfl 83 t22 (by kernel_rfl) w.heap.size rfl a c rfl ?_)
  go_wp2
  go_ret
  exact .inr ⟨rfl,rfl⟩
def grw(f:Nat):Option (Nat×Nat):=match Nat.beq f 51 with
 |true=>some (81,24)
 |false=>match Nat.beq f 48 with
 |true=>some (47,0)
 |false=>match Nat.beq f 70 with
 |true=>some (36,0)
 |false=>match Nat.beq f 85 with
 |true=>some (59,0)
 |false=>match Nat.beq f 118 with
 |true=>some (83,0)
 |false=>match Nat.beq f 31 with
 |true=>some (0,2000000)
 |false=>match Nat.beq f 36 with
 |true=>some (0,2000000)
 |false=>match Nat.beq f 55 with
 |true=>some (0,2000000)
 |false=>match Nat.beq f 58 with
 |true=>some (0,2000000)
 |false=>match Nat.beq f 61 with
 |true=>some (0,2000000)
 |false=>match Nat.beq f 86 with
 |true=>some (0,2000000)
 |false=>match Nat.beq f 89 with
 |true=>some (0,2000000)
 |false=>none
theorem Bbf:Amm Tryz.prog grw:=by
 intro f e b h;unfold grw at h;cases h51:Nat.beq f 51 with
 |true=>
  rw[h51]at h;have:=Nat.eq_of_beq_eq_true h51;subst this;injection h with h
  injection h with h1 h2
  subst h1;subst h2
  exact⟨λh=>absurd h (by decide),λ_ _ _=>Blm⟩
 |false=>
  rw[h51]at h;cases h48:Nat.beq f 48 with
  |true=>
   rw[h48]at h;have:=Nat.eq_of_beq_eq_true h48;subst this;injection h with h
   injection h with h1 h2
   subst h1;subst h2
   exact⟨λ_=>Bsq,λh _=>absurd rfl h⟩
  |false=>
   rw[h48]at h;cases h70:Nat.beq f 70 with
   |true=>
    rw[h70]at h;have:=Nat.eq_of_beq_eq_true h70;subst this;injection h with h
    injection h with h1 h2
    subst h1;subst h2
    exact⟨λ_=>Bsr,λh _=>absurd rfl h⟩
   |false=>
    rw[h70]at h;cases h85:Nat.beq f 85 with
    |true=>
     rw[h85]at h;have:=Nat.eq_of_beq_eq_true h85;subst this;injection h with h
     injection h with h1 h2
     subst h1;subst h2
     exact⟨λ_=>Bss,λh _=>absurd rfl h⟩
    |false=>
     rw[h85]at h;cases h118:Nat.beq f 118 with
     |true=>
      rw[h118]at h;have:=Nat.eq_of_beq_eq_true h118;subst this;injection h with h
      injection h with h1 h2
      subst h1;subst h2
      exact⟨λ_=>Bkz,λh _=>absurd rfl h⟩
     |false=>
      rw[h118]at h;cases h31:Nat.beq f 31 with
      |true=>
       rw[h31]at h;injection h with h
       injection h with h1 h2
       subst h1;subst h2
       exact⟨λh=>absurd h (by decide),λ_ h _=>absurd rfl h⟩
      |false=>
       rw[h31]at h;cases h36:Nat.beq f 36 with
       |true=>
        rw[h36]at h;injection h with h
        injection h with h1 h2
        subst h1;subst h2
        exact⟨λh=>absurd h (by decide),λ_ h _=>absurd rfl h⟩
       |false=>
        rw[h36]at h;cases h55:Nat.beq f 55 with
        |true=>
         rw[h55]at h;injection h with h
         injection h with h1 h2
         subst h1;subst h2
         exact⟨λh=>absurd h (by decide),λ_ h _=>absurd rfl h⟩
        |false=>
         rw[h55]at h;cases h58:Nat.beq f 58 with
         |true=>
          rw[h58]at h;injection h with h
          injection h with h1 h2
          subst h1;subst h2
          exact⟨λh=>absurd h (by decide),λ_ h _=>absurd rfl h⟩
         |false=>
          rw[h58]at h;cases h61:Nat.beq f 61 with
          |true=>
           rw[h61]at h;injection h with h
           injection h with h1 h2
           subst h1;subst h2
           exact⟨λh=>absurd h (by decide),λ_ h _=>absurd rfl h⟩
          |false=>
           rw[h61]at h;cases h86:Nat.beq f 86 with
           |true=>
            rw[h86]at h;injection h with h
            injection h with h1 h2
            subst h1;subst h2
            exact⟨λh=>absurd h (by decide),λ_ h _=>absurd rfl h⟩
           |false=>
            rw[h86]at h;cases h89:Nat.beq f 89 with
            |true=>
             rw[h89]at h;injection h with h
             injection h with h1 h2
             subst h1;subst h2
             exact⟨λh=>absurd h (by decide),λ_ h _=>absurd rfl h⟩
            |false=>
             rw[h89]at h;cases h
def EI(O:Bj)(M d:Nat):Inl:=evI Tryz.prog inl grw jn4 O M d
def EV(O:Bj)(M d:Nat):EC->St->(Ex->St->Prop)->Prop:=evC Tryz.prog O (evI Tryz.prog inl grw jn4 O M d) M
def EW(O:Bj)(M d:Nat):List ResultVar->EC->List PV->(PV->Prop)->Prop:=A2g Tryz.prog O (evI Tryz.prog inl grw jn4 O M d) M
def YO(O:Bj)(M d f:Nat)(a:List PV)(b:List (Nat×List PV))(k:PV->List (Nat×List PV)->Prop):Prop:=Yo Tryz.prog inl grw O M d f a b k
def ES(O:Bj)(M d:Nat):Bool->List ResultVar->EC->List PV->List PV->(PV->Prop)->Prop:=A6u Tryz.prog O (evI Tryz.prog inl grw jn4 O M d) M
abbrev Tb:=PV->Prop
abbrev Hp:=Ex->St->Prop
abbrev Ei:=PV->List (Nat×List PV)->Prop
def EC.u(c:EC):EC:=c.r.r
def EC.w(c:EC):EC:=c.u.u
def EC.x(c:EC):EC:=c.w.w
def rl(l:List Nat)(b:Bool:=false):List Bool:=match l with
 | []=> []
 |n::l=>List.replicate n b++rl l (!b)
def lv(x:LX):PV:=.aV false x
def RS(f:Func):List ResultVar:=f.results.toList
abbrev N1:=En Tryz.prog
def oL(l:List N1):Bj:=orL l
theorem oS(l:List N1):Df Tryz.prog (oL l):=A82 l
noncomputable def CC(f:Func):EC:=(cFn Tryz.prog inl f).getD .stop
theorem hF{f:Nat}{fn:Func}(hf: Tryz.prog.funcs[f]? =some fn){C:Bj}(hC:Df Tryz.prog C)(L:Nat){args:List PV}{ρ :Type}{r: ρ}{F:Option ρ}{er: ρ->PV}(he:∀kk,EW C L 9 (RS fn) (CC fn) args kk=ob F (λx=>kk (er x)))(h:F=some r)
  (hn:((cFn Tryz.prog inl fn).isSome && Nat.ble args.length fn.ntmps)=true:=by kernel_rfl):Ho Tryz.prog f args er r:=by
 have h1:=(Bool.and_eq_true _ _).mp hn;have hc:cFn Tryz.prog inl fn=some (CC fn):=by
  unfold CC;cases e:cFn Tryz.prog inl fn with
  |none=>rw[e]at h1;cases h1.1
  |some c=>rfl
 exact hE Bbf hC mixed hf hc h1.2 he h
theorem hFS{f:Nat}{fn:Func}(hf: Tryz.prog.funcs[f]? =some fn){C:Bj}(hC:Df Tryz.prog C)(L:Nat){cells args:List PV}{ρ :Type}{r: ρ}{F:Option ρ}{er: ρ->PV}{o0:Bool}(he:∀kk,ES C L 9 o0 (RS fn) (CC fn) cells args kk=ob F (λx=>kk (er x)))(h:F=some r)
  (hn:((cFn Tryz.prog inl fn).isSome && (Nat.ble (args.length+1) fn.ntmps && H8 Tryz.prog f))=true:=by kernel_rfl):Ho Tryz.prog f (.bI cells::args) er r:=by
 have h1:=(Bool.and_eq_true _ _).mp hn;have h2:=(Bool.and_eq_true _ _).mp h1.2;have hc:cFn Tryz.prog inl fn=some (CC fn):=by
  unfold CC;cases e:cFn Tryz.prog inl fn with
  |none=>rw[e]at h1;cases h1.1
  |some c=>rfl
 exact hES Bbf hC mixed hf hc h2.1 h2.2 he h
def KE(f:Func)(k:Tb):Hp:=Bbm Tryz.prog (RS f) k
def KJ(f:Func)(k:Ei):Hp:=Ayf Tryz.prog (RS f) k
def KA(O:Bj)(M d:Nat)(c:EC)(l:List Bool)(k:Hp):Hp:=kAt Tryz.prog O (EI O M d) M c l k
def Rn(O:Bj)(M d n m:Nat)(c:EC)(st:St)(s:Option Nat)(k:St->Prop):Ei:=Bmq Tryz.prog O (EI O M d) n (List.drop m c.ops) st s k
def EC.put:List Bool->EC->EC->EC
 | [],z,_=>z
 |true::p,z,.seq a b=>.seq (EC.put p z a) b
 |false::p,z,.seq a b=>.seq a (EC.put p z b)
 |true::p,z,.cond o a b=>.cond o (EC.put p z a) b
 |false::p,z,.cond o a b=>.cond o a (EC.put p z b)
 |true::p,z,.block i b=>.block i (EC.put p z b)
 |true::p,z,.loop k b=>.loop k (EC.put p z b)
 |_,_,c=>c
abbrev Dq:=Int×List Yb×List Bool
abbrev Lw:=Int×Int
abbrev Tu3:=Int×Int×List Yb×List Bool
abbrev Tu4:=Bool×Int
abbrev Tu5:=Aa×Ab
abbrev Tu6:=Int×List Bv×List Bool
abbrev Tu7:=List Aa×Int×Yb×List Ai×List Ac×List Bf×List Ai×List Ap×Yb×List Ai×List Ah×List Ao×List Ar×List Yb×List Yb×List Yb×List Yb×List Yb×List Al×List Bt×List Bg×Int
abbrev Tu8:=List Ae×Int×Yb×List Ai×List Ac×List Bf×List Ai×List Ap×Yb×List Ai×List Ah×List Ao×List Ar×List Yb×List Yb×List Yb×List Yb×List Yb×List Al×List Bt×List Bg×Int
abbrev Rs:=Nat×Lw
abbrev Rq:=Nat×Tu3
def cl3:Cd (List Int):=(oW LX.t3).cd
def cl9:Cd (List Yb):=(oW LX.t9).cd
def Bwk:Cd (List (List Ap)):=(oW LX.t44).cd
def Aur:Cd (List Aa):=(oW LX.t53).cd
def Bas:Cd (List Ae):=(oW LX.t59).cd
def Bky:Cd (List Int):=(oW LX.t79).cd
def Bsp:Cd (List Ap):=(oW LX.dW).cd
def Aax:Cd (List Ad):=(oW LX.eZ).cd
def Pq:Cd Ag:=A00.ca
def Ie:Cd Ac:=So.ca
def Adn:Cd Al:=Ue.ca
def B4:Cd Aa:=Aa4.ca
def X2:Cd Aj:=A3k.ca
def Adm:Cd Az:=A5n.ca
def Gg:Cd Ad:=Aa5.ca
def Z6:Cd Ab:=Agv.cp
def B8:Cd Ab:=Agv.ct
def Dv:Cd Am:=Aph.cp
def Pr:Cd Bu:=A01.ca
def Azn:Cd Qr:=A0z.ca
def Alp:Cd Ah:=M9.ca
def Azo:Cd Bt:=Y6.ca
def Asf:Cd B9:=A3l.ca
def A18:Cd Ck:=Aa6.ca
end Go.Proofs.YtgacplpjamkieaaGreat.Ev
