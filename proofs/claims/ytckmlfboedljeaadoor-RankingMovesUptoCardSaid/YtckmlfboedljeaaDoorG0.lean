import Derived.Test.YtckmlfboedljeaaDoorFW
namespace Go.Proofs.YtckmlfboedljeaaDoor.Ev
open Go An
set_option maxRecDepth 100000
set_option maxHeartbeats 4000000
set_option linter.unusedVariables false
set_option linter.unusedSimpArgs false
set_option linter.unnecessarySimpa false
theorem Abh: Tryd.prog.follows .mixedOrders=true:=by kernel_rfl
def inl:Nat→Bool:=fun f=>inL f [26,27,29,30,33,35,38,39,93,94,1102465827296,1102465827297,1102465827302,1102466745200,1102469137828,1102476312640,2199023255576,4398046511134]
def jn4:Nat→Bool:=fun f=>inL f [26]
theorem Axo:j4 Tryd.prog 29 39:=by
 refine ⟨by kernel_rfl,fun a c w=> ?_⟩
 have Abh:=Abh
 have t22:= Tryd.underlying22
 have q22:∀(w:World) (a:Option Addr) (n c n' c':Nat),(binOp .eql 22 (.slice a n c) (.slice none n' c')).run Tryd.prog w= .ok (.bool a.isNone) w:=fun w a n c n' c'=>Lib.run_eql_slice_nil w _ _ a n c n' c' t22
 have u22:∀w,Sem.run Tryd.prog (underlying 22) w= .ok (TypeDesc.slice 39) w:=run_underlying t22
 cases a with
 |none=>
  go_enter Tryd.func29,Tryd.ntmps29
  go_wp2
  go_ret
  exact .inl ⟨rfl,rfl⟩
 |some a=>
  go_enter Tryd.func29,Tryd.ntmps29
  go_wp2_with (at_builtin;refine Rc rfl _ _ 22 rfl 39 t22 (by kernel_rfl) w.heap.size rfl a c rfl ?_)
  go_wp2
  go_ret
  exact .inr ⟨rfl,rfl⟩
theorem Axp:j4 Tryd.prog 30 24:=by
 refine ⟨by kernel_rfl,fun a c w=> ?_⟩
 have Abh:=Abh
 have t22:= Tryd.underlying37
 have q22:∀(w:World) (a:Option Addr) (n c n' c':Nat),(binOp .eql 37 (.slice a n c) (.slice none n' c')).run Tryd.prog w= .ok (.bool a.isNone) w:=fun w a n c n' c'=>Lib.run_eql_slice_nil w _ _ a n c n' c' t22
 have u22:∀w,Sem.run Tryd.prog (underlying 37) w= .ok (TypeDesc.slice 24) w:=run_underlying t22
 cases a with
 |none=>
  go_enter Tryd.func30,Tryd.ntmps30
  go_wp2
  go_ret
  exact .inl ⟨rfl,rfl⟩
 |some a=>
  go_enter Tryd.func30,Tryd.ntmps30
  go_wp2_with (at_builtin;refine Rc rfl _ _ 37 rfl 24 t22 (by kernel_rfl) w.heap.size rfl a c rfl ?_)
  go_wp2
  go_ret
  exact .inr ⟨rfl,rfl⟩
def grw(f:Nat):Option (Nat×Nat):=match Nat.beq f 29 with
 |true=>some (39,0)
 |false=>match Nat.beq f 30 with
 |true=>some (24,0)
 |false=>none
theorem At4:Yj Tryd.prog grw:=by
 intro f e b h
 unfold grw at h
 cases h29:Nat.beq f 29 with
 |true=>
  rw [h29] at h
  have:=Nat.eq_of_beq_eq_true h29
  subst this
  injection h with h
  injection h with h1 h2
  subst h1;subst h2
  exact ⟨fun _=>Axo,fun h _=>absurd rfl h⟩
 |false=>
  rw [h29] at h
  cases h30:Nat.beq f 30 with
  |true=>
   rw [h30] at h
   have:=Nat.eq_of_beq_eq_true h30
   subst this
   injection h with h
   injection h with h1 h2
   subst h1;subst h2
   exact ⟨fun _=>Axp,fun h _=>absurd rfl h⟩
  |false=>
   rw [h30] at h
   cases h
def EI(O:Aq)(M d:Nat):W1:=evI Tryd.prog inl grw jn4 O M d
def EV(O:Aq)(M d:Nat):EC→St→(Ex→St→Prop)→Prop:=Rf Tryd.prog O (evI Tryd.prog inl grw jn4 O M d) M
def EW(O:Aq)(M d:Nat):List ResultVar→EC→List PV→(PV→Prop)→Prop:=Aes Tryd.prog O (evI Tryd.prog inl grw jn4 O M d) M
def YO(O:Aq)(M d f:Nat)(a:List PV)(b:List (Nat×List PV))(k:PV→List (Nat×List PV)→Prop):Prop:=Yo Tryd.prog inl grw O M d f a b k
abbrev R5:=PV→Prop
abbrev Bu:=Ex→St→Prop
abbrev Tv:=PV→List (Nat×List PV)→Prop
def EC.u(c:EC):EC:=c.r.r
def EC.w(c:EC):EC:=c.u.u
def EC.x(c:EC):EC:=c.w.w
def rl(l:List Nat)(b:Bool:=false):List Bool:=match l with
 | []=> []
 |n::l=>List.replicate n b++rl l (!b)
def lv(x:LX):PV:= .lst false x
def RS(f:Func):List ResultVar:=f.results.toList
abbrev Hy:=En Tryd.prog
def oL(l:List Hy):Aq:=orL l
theorem oS(l:List Hy):C2 Tryd.prog (oL l):=Ald l
noncomputable def CC(f:Func):EC:=(cFn Tryd.prog inl f).getD .stop
theorem hF{f:Nat}{fn:Func}(hf: Tryd.prog.funcs[f]? =some fn){C:Aq}(hC:C2 Tryd.prog C)(L:Nat){args:List PV}{ρ :Type}{r: ρ}{F:Option ρ}{er: ρ→PV}(he:∀kk,EW C L 9 (RS fn) (CC fn) args kk=ob F (fun x=>kk (er x)))(h:F=some r)
  (hn:((cFn Tryd.prog inl fn).isSome && Nat.ble args.length fn.ntmps)=true:=by kernel_rfl):Ho Tryd.prog f args er r:=by
 have h1:=(Bool.and_eq_true _ _).mp hn
 have hc:cFn Tryd.prog inl fn=some (CC fn):=by
  unfold CC
  cases e:cFn Tryd.prog inl fn with
  |none=>rw [e] at h1;cases h1.1
  |some c=>rfl
 exact hE At4 hC Abh hf hc h1.2 he h
def EC.put:List Bool→EC→EC→EC
 | [],z,_=>z
 |true::p,z,.seq a b=> .seq (EC.put p z a) b
 |false::p,z,.seq a b=> .seq a (EC.put p z b)
 |true::p,z,.cond o a b=> .cond o (EC.put p z a) b
 |false::p,z,.cond o a b=> .cond o a (EC.put p z b)
 |true::p,z,.block i b=> .block i (EC.put p z b)
 |true::p,z,.loop k b=> .loop k (EC.put p z b)
 |_,_,c=>c
abbrev Ed:=Aa×Bool
abbrev Gq:=Int×Int
abbrev Nz:=List Ab×Int×Int×List Int×List Ac
abbrev Re:=Int×Bool×Int
abbrev So:=Int×Bool
abbrev Ud:=Bool×Int
abbrev Tu7:=Int×List Int×List Aa
abbrev Tu8:=List Ab×Int×Int×Int×List Ac
abbrev Tu9:=List Aa×Bool×List Aa×Int
abbrev Aaj:=Bool×List Aa×Int×Int×Int
def S3:Cd (List Aa):=(oW LX.t24).cd
def Acn:Cd (List Ab):=(oW LX.t39).cd
def Av:Cd Aa:=O1.ca
def Zv:Cd Ab:=O2.ca
def Oc:Cd Ac:=Kx.ca
def Cz:Cd Ad:=Afs.ca
def Rt:Cd Bv:=Aap.ca
def C0:Cd Ak:=Adn.ca
end Go.Proofs.YtckmlfboedljeaaDoor.Ev
