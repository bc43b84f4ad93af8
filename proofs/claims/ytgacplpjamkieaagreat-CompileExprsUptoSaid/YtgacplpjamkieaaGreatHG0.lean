import Derived.Test.YtgacplpjamkieaaGreatHNA
import Derived.Test.YtgacplpjamkieaaGreatHFW
set_option maxRecDepth 100000
set_option maxHeartbeats 4000000
set_option linter.unusedVariables false
set_option linter.unusedSimpArgs false
set_option linter.unnecessarySimpa false
namespace Go.Proofs.YtgacplpjamkieaaGreat.Ev
open Go An
def zq1:List (List PV):= [[.bA 130 0 [.loc 3 0,.loc 1 0]],[.bA 131 0 [.loc 1 0,.loc 3 0]],[.bA 137 0 [.loc 1 0,.loc 3 0]],[.bA 140 0 [.loc 1 0,.loc 3 0]],[.bA 143 0 [.loc 4 0,.loc 1 0]],[.bA 144 0 [.loc 4 0,.loc 1 0]],[.bA 145 0 [.loc 4 0,.loc 1 0]],[.bA 146 0 [.loc 4 0,.loc 1 0]],[.bA 147 0 [.loc 4 0,.loc 1 0]],[.bA 148 0 [.loc 1 0,.loc 3 0]],[.bA 152 0 [.loc 1 0]],[.bA 156 0 [.loc 1 0]]]
def Kj:Nat×List PV:=(4,[.bA 127 0 [.loc 3 0]])
def Kk:Nat×List PV:=(3,[.mp 5])
def zq4:PV:=.bA 236 0 [.loc 3 0]
def zq5:PV:=.aO true (.t9 [])
def zq6:List PV:= [.aL false false (.t9 []) (.t4 [])]
def zq7:List PV:= [.loc 4 0,.loc 1 0]
def zq8:List PV:= [.loc 1 0,.loc 3 0]
def zq9:Nat×PV:=(2,.loc 2 0)
def Kz:List PV:= [.loc 3 0]
def Qe:Nat×PV:=(3,.loc 3 0)
def Ai8:List PV:= [.loc 3 0,.loc 1 0]
def Yq:Nat×PV:=(1,.loc 1 0)
def l7:Nat×List PV:=(3,[.mp 4])
def Ble:Nat×List PV:=(2,[B false,B false,B false,B false,B false,B false,B false,B false,B false])
def Axg:PV:=.bA 79 1 [.mp 5]
def Alc:Nat×PV:=(1,.loc 3 0)
def A8j:PV:=.bA 241 0 [.loc 3 0,.loc 4 0]
def A2a:PV:=.aO true (.t59 [])
def A8k:Nat×PV:=(2,.aO true (.t31 []))
def Axh:Nat×PV:=(21,.loc 2 3)
def Apy:List PV:= [.loc 1 0]
def A8l:Nat×PV:=(3,.vw true 9 31 1 10)
def Atq:Nat×List PV:=(5,[.mp 24])
def A8m:PV:=.bA 78 0 [.loc 5 0]
def Atr:Nat×PV:=(4,B false)
def Axi:PV:=.loc 2017 0
def Asv:Nat×PV:=(9,B true)
def A8n:PV:=.bA 126 1 [.mp 13]
def A8o:PV:=.bA 126 1 [.mp 5]
def Axj:Nat×PV:=(5,B false)
def Blf:PV:=.bA 216 0 [.loc 4 0,.loc 5 0]
def A8p:Nat×PV:=(8,.loc 1014 0)
theorem mixed: Tryz.prog.follows .mixedOrders=true:=by kernel_rfl
def inl:Nat->Bool:=λf=>inL f [12,31,36,51,55,58,61,73,74,76,77,78,79,85,86,89,117,119,120,121,125,126,127,128,129,130,131,132,133,137,138,139,140,141,142,143,144,145,146,147,148,149,150,152,153,154,156,158,159,170,171,173,174,177,178,179,180,181,182,183,199,206,207,208,209,212,215,216,235,236,240,241,246,1103007711601,1103007711605,1104615440720,1104623796288,1108774945284,1113070731461,17593881010243,35184372088863,35184372088868,35184372088887,35184372088890,35184372088893,35184372088918,35184372088921,70369181188142,70369902555173,70370438946874,70370438983702,70370439065624,70370439143491,70370439172149,70370439372938,140739183124538,140739183161366,140739183243288,140739183321155,140739183349813,140739183550602,281475413807193]
def Yr:Nat->Bool:=λf=>inL f [73,77,78,79,125,126,128,129,132,133,138,139,141,142,149,150,153,158,159,170,173,178,180,182,206,207,208,215,246]
def A0u:Go.Shelf.Ren:=⟨λ|4=>51|n=>n,λ|22=>44|25=>81|3=>3|4=>4|9=>9|20=>20|0=>0|n=>n,λ|n=>n⟩
theorem A4h:Go.Proofs.Lays8.n4 Tryz.prog A0u:= {
 mixed:=by kernel_rfl
 f4:=⟨Tryz.f51.name,by decide,Tryz.func51.trans (congrArg some (by kernel_rfl))⟩
 t0:= Tryz.underlying0
 a0:= Tryz.isAgg0
 z0:= Tryz.sizeOf0
 v0:= Tryz.zeroValue0
 t3:= Tryz.underlying3
 a3:= Tryz.isAgg3
 z3:= Tryz.sizeOf3
 v3:= Tryz.zeroValue3
 t4:= Tryz.underlying4
 a4:= Tryz.isAgg4
 z4:= Tryz.sizeOf4
 v4:= Tryz.zeroValue4
 t9:= Tryz.underlying9
 a9:= Tryz.isAgg9
 z9:= Tryz.sizeOf9
 v9:= Tryz.zeroValue9
 t20:= Tryz.underlying20
 a20:= Tryz.isAgg20
 z20:= Tryz.sizeOf20
 v20:= Tryz.zeroValue20
 t22:= Tryz.underlying44
 a22:= Tryz.isAgg44
 z22:= Tryz.sizeOf44
 v22:= Tryz.zeroValue44 }
theorem Bhf:Aqm Tryz.prog 51 81 24:=A6p A4h rfl rfl (by kernel_rfl) (sz:=2) (by kernel_rfl) (by decide) (λx h=>by injection (h:some (LX.dG [])=some x)with h;subst h;rfl)
theorem Bn2:Ag2 Tryz.prog 48 47:=by
 refine⟨by kernel_rfl,λa c w=>?_⟩;have mixed:=mixed;have t22:= Tryz.underlying32;have q22:∀(w:World) (a:Option Addr) (n c n' c':Nat),(binOp .eql 32 (.slice a n c) (.slice none n' c')).run Tryz.prog w=.ok (.bool a.isNone) w:=λw a n c n' c'=>Lib.run_eql_slice_nil w _ _ a n c n' c' t22;have u22:∀w,Sem.run Tryz.prog (underlying 32) w=.ok (TypeDesc.slice 47) w:=run_underlying t22;cases a with
 |none=>
  go_enter Tryz.func48,Tryz.ntmps48
  go_wp2
  go_ret
  exact .inl ⟨rfl,rfl⟩
 |some a=>
  go_enter Tryz.func48,Tryz.ntmps48
  go_wp2_with (at_builtin;refine Lm rfl _ _ 32 rfl 47 t22 (by kernel_rfl) w.heap.size rfl a c rfl ?_)
  go_wp2
  go_ret
  exact .inr ⟨rfl,rfl⟩
theorem Bn3:Ag2 Tryz.prog 70 36:=by
 refine⟨by kernel_rfl,λa c w=>?_⟩;have mixed:=mixed;have t22:= Tryz.underlying23;have q22:∀(w:World) (a:Option Addr) (n c n' c':Nat),(binOp .eql 23 (.slice a n c) (.slice none n' c')).run Tryz.prog w=.ok (.bool a.isNone) w:=λw a n c n' c'=>Lib.run_eql_slice_nil w _ _ a n c n' c' t22;have u22:∀w,Sem.run Tryz.prog (underlying 23) w=.ok (TypeDesc.slice 36) w:=run_underlying t22;cases a with
 |none=>
  go_enter Tryz.func70,Tryz.ntmps70
  go_wp2
  go_ret
  exact .inl ⟨rfl,rfl⟩
 |some a=>
  go_enter Tryz.func70,Tryz.ntmps70
  go_wp2_with (at_builtin;refine Lm rfl _ _ 23 rfl 36 t22 (by kernel_rfl) w.heap.size rfl a c rfl ?_)
  go_wp2
  go_ret
  exact .inr ⟨rfl,rfl⟩
theorem Bn4:Ag2 Tryz.prog 85 59:=by
 refine⟨by kernel_rfl,λa c w=>?_⟩;have mixed:=mixed;have t22:= Tryz.underlying38;have q22:∀(w:World) (a:Option Addr) (n c n' c':Nat),(binOp .eql 38 (.slice a n c) (.slice none n' c')).run Tryz.prog w=.ok (.bool a.isNone) w:=λw a n c n' c'=>Lib.run_eql_slice_nil w _ _ a n c n' c' t22;have u22:∀w,Sem.run Tryz.prog (underlying 38) w=.ok (TypeDesc.slice 59) w:=run_underlying t22;cases a with
 |none=>
  go_enter Tryz.func85,Tryz.ntmps85
  go_wp2
  go_ret
  exact .inl ⟨rfl,rfl⟩
 |some a=>
  go_enter Tryz.func85,Tryz.ntmps85
  go_wp2_with (at_builtin;refine Lm rfl _ _ 38 rfl 59 t22 (by kernel_rfl) w.heap.size rfl a c rfl ?_)
  go_wp2
  go_ret
  exact .inr ⟨rfl,rfl⟩
theorem Bgv:Ag2 Tryz.prog 118 83:=by
 refine⟨by kernel_rfl,λa c w=>?_⟩;have mixed:=mixed;have t22:= Tryz.underlying22;have q22:∀(w:World) (a:Option Addr) (n c n' c':Nat),(binOp .eql 22 (.slice a n c) (.slice none n' c')).run Tryz.prog w=.ok (.bool a.isNone) w:=λw a n c n' c'=>Lib.run_eql_slice_nil w _ _ a n c n' c' t22;have u22:∀w,Sem.run Tryz.prog (underlying 22) w=.ok (TypeDesc.slice 83) w:=run_underlying t22;cases a with
 |none=>
  go_enter Tryz.func118,Tryz.ntmps118
  go_wp2
  go_ret
  exact .inl ⟨rfl,rfl⟩
 |some a=>
  go_enter Tryz.func118,Tryz.ntmps118
  go_wp2_with (at_builtin;refine Lm rfl _ _ 22 rfl 83 t22 (by kernel_rfl) w.heap.size rfl a c rfl ?_)
  go_wp2
  go_ret
  exact .inr ⟨rfl,rfl⟩
def grw(f:Nat):Option (Nat×Nat):=match Nat.beq f 51 with
 |true=>some (81,24)
 |false=>match Nat.beq f 48 with
 |true=>some (47,0)
 |false=>match Nat.beq f 70 with
 |true=>some (36,0)
 |false=>match Nat.beq f 85 with
 |true=>some (59,0)
 |false=>match Nat.beq f 118 with
 |true=>some (83,0)
 |false=>match Nat.beq f 31 with
 |true=>some (0,2000000)
 |false=>match Nat.beq f 36 with
 |true=>some (0,2000000)
 |false=>match Nat.beq f 55 with
 |true=>some (0,2000000)
 |false=>match Nat.beq f 58 with
 |true=>some (0,2000000)
 |false=>match Nat.beq f 61 with
 |true=>some (0,2000000)
 |false=>match Nat.beq f 86 with
 |true=>some (0,2000000)
 |false=>match Nat.beq f 89 with
 |true=>some (0,2000000)
 |false=>none
theorem A6q:Afi Tryz.prog grw:=by
 intro f e b h;unfold grw at h;cases h51:Nat.beq f 51 with
 |true=>
  rw[h51]at h;have:=Nat.eq_of_beq_eq_true h51;subst this;injection h with h
  injection h with h1 h2
  subst h1;subst h2
  exact⟨λh=>absurd h (by decide),λ_ _ _=>Bhf⟩
 |false=>
  rw[h51]at h;cases h48:Nat.beq f 48 with
  |true=>
   rw[h48]at h;have:=Nat.eq_of_beq_eq_true h48;subst this;injection h with h
   injection h with h1 h2
   subst h1;subst h2
   exact⟨λ_=>Bn2,λh _=>absurd rfl h⟩
  |false=>
   rw[h48]at h;cases h70:Nat.beq f 70 with
   |true=>
    rw[h70]at h;have:=Nat.eq_of_beq_eq_true h70;subst this;injection h with h
    injection h with h1 h2
    subst h1;subst h2
    exact⟨λ_=>Bn3,λh _=>absurd rfl h⟩
   |false=>
    rw[h70]at h;cases h85:Nat.beq f 85 with
    |true=>
     rw[h85]at h;have:=Nat.eq_of_beq_eq_true h85;subst this;injection h with h
     injection h with h1 h2
     subst h1;subst h2
     exact⟨λ_=>Bn4,λh _=>absurd rfl h⟩
    |false=>
     rw[h85]at h;cases h118:Nat.beq f 118 with
     |true=>
      rw[h118]at h;have:=Nat.eq_of_beq_eq_true h118;subst this;injection h with h
      injection h with h1 h2
      subst h1;subst h2
      exact⟨λ_=>Bgv,λh _=>absurd rfl h⟩
     |false=>
      rw[h118]at h;cases h31:Nat.beq f 31 with
      |true=>
       rw[h31]at h;injection h with h
       injection h with h1 h2
       subst h1;subst h2
       exact⟨λh=>absurd h (by decide),λ_ h _=>absurd rfl h⟩
      |false=>
       rw[h31]at h;cases h36:Nat.beq f 36 with
       |true=>
        rw[h36]at h;injection h with h
        injection h with h1 h2
        subst h1;subst h2
        exact⟨λh=>absurd h (by decide),λ_ h _=>absurd rfl h⟩
       |false=>
        rw[h36]at h;cases h55:Nat.beq f 55 with
        |true=>
         rw[h55]at h;injection h with h
         injection h with h1 h2
         subst h1;subst h2
         exact⟨λh=>absurd h (by decide),λ_ h _=>absurd rfl h⟩
        |false=>
         rw[h55]at h;cases h58:Nat.beq f 58 with
         |true=>
          rw[h58]at h;injection h with h
          injection h with h1 h2
          subst h1;subst h2
          exact⟨λh=>absurd h (by decide),λ_ h _=>absurd rfl h⟩
         |false=>
          rw[h58]at h;cases h61:Nat.beq f 61 with
          |true=>
           rw[h61]at h;injection h with h
           injection h with h1 h2
           subst h1;subst h2
           exact⟨λh=>absurd h (by decide),λ_ h _=>absurd rfl h⟩
          |false=>
           rw[h61]at h;cases h86:Nat.beq f 86 with
           |true=>
            rw[h86]at h;injection h with h
            injection h with h1 h2
            subst h1;subst h2
            exact⟨λh=>absurd h (by decide),λ_ h _=>absurd rfl h⟩
           |false=>
            rw[h86]at h;cases h89:Nat.beq f 89 with
            |true=>
             rw[h89]at h;injection h with h
             injection h with h1 h2
             subst h1;subst h2
             exact⟨λh=>absurd h (by decide),λ_ h _=>absurd rfl h⟩
            |false=>
             rw[h89]at h;cases h
def EI(O:Ba)(M d:Nat):Inl:=evI Tryz.prog inl grw Yr O M d
def EV(O:Ba)(M d:Nat):EC->St->(Ex->St->Prop)->Prop:=Ws Tryz.prog O (evI Tryz.prog inl grw Yr O M d) M
def EW(O:Ba)(M d:Nat):List ResultVar->EC->List PV->(PV->Prop)->Prop:=Ax7 Tryz.prog O (evI Tryz.prog inl grw Yr O M d) M
def YO(O:Ba)(M d f:Nat)(a:List PV)(b:List (Nat×List PV))(k:PV->List (Nat×List PV)->Prop):Prop:=Yo Tryz.prog inl grw O M d f a b k
def ES(O:Ba)(M d:Nat):Bool->List ResultVar->EC->List PV->List PV->(PV->Prop)->Prop:=A2l Tryz.prog O (evI Tryz.prog inl grw Yr O M d) M
abbrev Hf:=PV->Prop
abbrev De:=Ex->St->Prop
abbrev C3:=PV->List (Nat×List PV)->Prop
def EC.u(c:EC):EC:=c.r.r
def EC.w(c:EC):EC:=c.u.u
def EC.x(c:EC):EC:=c.w.w
def rl(l:List Nat)(b:Bool:=false):List Bool:=match l with
 | []=> []
 |n::l=>List.replicate n b++rl l (!b)
def lv(x:LX):PV:=.aO false x
def RS(f:Func):List ResultVar:=f.results.toList
abbrev Fs:=En Tryz.prog
def oL(l:List Fs):Ba:=orL l
theorem oS(l:List Fs):B8 Tryz.prog (oL l):=A4t l
noncomputable def CC(f:Func):EC:=(cFn Tryz.prog inl f).getD .stop
theorem hF{f:Nat}{fn:Func}(hf: Tryz.prog.funcs[f]? =some fn){C:Ba}(hC:B8 Tryz.prog C)(L:Nat){args:List PV}{ρ :Type}{r: ρ}{F:Option ρ}{er: ρ->PV}(he:∀kk,EW C L 9 (RS fn) (CC fn) args kk=ob F (λx=>kk (er x)))(h:F=some r)
  (hn:((cFn Tryz.prog inl fn).isSome && Nat.ble args.length fn.ntmps)=true:=by kernel_rfl):Ho Tryz.prog f args er r:=by
 have h1:=(Bool.and_eq_true _ _).mp hn;have hc:cFn Tryz.prog inl fn=some (CC fn):=by
  unfold CC;cases e:cFn Tryz.prog inl fn with
  |none=>rw[e]at h1;cases h1.1
  |some c=>rfl
 exact hE A6q hC mixed hf hc h1.2 he h
theorem hFS{f:Nat}{fn:Func}(hf: Tryz.prog.funcs[f]? =some fn){C:Ba}(hC:B8 Tryz.prog C)(L:Nat){cells args:List PV}{ρ :Type}{r: ρ}{F:Option ρ}{er: ρ->PV}{o0:Bool}(he:∀kk,ES C L 9 o0 (RS fn) (CC fn) cells args kk=ob F (λx=>kk (er x)))(h:F=some r)
  (hn:((cFn Tryz.prog inl fn).isSome && (Nat.ble (args.length+1) fn.ntmps && Ep Tryz.prog f))=true:=by kernel_rfl):Ho Tryz.prog f (.aY cells::args) er r:=by
 have h1:=(Bool.and_eq_true _ _).mp hn;have h2:=(Bool.and_eq_true _ _).mp h1.2;have hc:cFn Tryz.prog inl fn=some (CC fn):=by
  unfold CC;cases e:cFn Tryz.prog inl fn with
  |none=>rw[e]at h1;cases h1.1
  |some c=>rfl
 exact hES A6q hC mixed hf hc h2.1 h2.2 he h
def KE(f:Func)(k:Hf):De:=A60 Tryz.prog (RS f) k
def KJ(f:Func)(k:C3):De:=At7 Tryz.prog (RS f) k
def KA(O:Ba)(M d:Nat)(c:EC)(l:List Bool)(k:De):De:=kAt Tryz.prog O (EI O M d) M c l k
def K1(O:Ba)(M d n m:Nat)(c:EC)(st:St)(s:Option Nat)(k:St->Prop):C3:=Bii Tryz.prog O (EI O M d) n (List.drop m c.ops) st s k
def EC.put:List Bool->EC->EC->EC
 | [],z,_=>z
 |true::p,z,.seq a b=>.seq (EC.put p z a) b
 |false::p,z,.seq a b=>.seq a (EC.put p z b)
 |true::p,z,.cond o a b=>.cond o (EC.put p z a) b
 |false::p,z,.cond o a b=>.cond o a (EC.put p z b)
 |true::p,z,.block i b=>.block i (EC.put p z b)
 |true::p,z,.loop k b=>.loop k (EC.put p z b)
 |_,_,c=>c
abbrev Ef:=Int×Int
abbrev Ck:=Int×List Yb×List Bool
abbrev Jq:=Int×List Yb
abbrev Tu4:=Int×Int×List Yb×List Bool
abbrev Tu5:=Int×Bool
abbrev Tu6:=Aa×Int
abbrev Tu7:=Aa×Ac
abbrev Tu8:=Int×Bool×Int
abbrev Tu9:=Int×List Br×List Bool
abbrev A3u:=Int×Int×Int×Yb×Int×List Aa
abbrev A9t:=List Aa×Int×Yb×List Ag×List Ab×List Bs×List Ag×List Aw×Yb×List Ag×List Ai×List Ak×List Av×List Yb×List Yb×List Yb×List Yb×List Yb×List Am×List Bq×List Bh×Int
abbrev A9u:=List Ad×Int×Yb×List Ag×List Ab×List Bs×List Ag×List Aw×Yb×List Ag×List Ai×List Ak×List Av×List Yb×List Yb×List Yb×List Yb×List Yb×List Am×List Bq×List Bh×Int
abbrev C0:=Nat×Ef
abbrev K3:=Nat×Tu4
def cl3:Cd (List Int):=(oW LX.t3).cd
def cl9:Cd (List Yb):=(oW LX.t9).cd
def Brw:Cd (List (List Aw)):=(oW LX.t44).cd
def Aq4:Cd (List Aa):=(oW LX.t53).cd
def Brx:Cd (List Ad):=(oW LX.t59).cd
def Bgu:Cd (List Int):=(oW LX.t79).cd
def A97:Cd (List Aw):=(oW LX.dG).cd
def Bry:Cd (List Ag):=(oW LX.t83).cd
def Ac6:Cd (List Ae):=(oW LX.eU).cd
def Lb:Cd Al:=Awu.ca
def Cr:Cd Ab:=Lu.ca
def Af2:Cd Am:=Na.ca
def Ay:Cd Aa:=U3.ca
def Zb:Cd Ah:=Azg.ca
def Dy:Cd Ao:=A1h.ca
def Dv:Cd Ae:=U4.ca
def Th:Cd Ac:=Aar.cp
def Bp:Cd Ac:=Aar.ct
def Cs:Cd Ap:=Aky.cp
def J1:Cd Bg:=Awv.ca
def Avl:Cd Qi:=Awt.ca
def Ahd:Cd Ai:=Ir.ca
def Avm:Cd Bq:=Sc.ca
def Anw:Cd Bu:=Azh.ca
def Axz:Cd Cb:=U5.ca
end Go.Proofs.YtgacplpjamkieaaGreat.Ev
