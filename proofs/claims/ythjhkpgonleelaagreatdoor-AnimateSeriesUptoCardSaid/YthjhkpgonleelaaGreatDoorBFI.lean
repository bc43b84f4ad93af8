/-  Sums and differences of two words. -/
import Derived.Test.YthjhkpgonleelaaGreatDoorBFh
namespace Go.Proofs.YthjhkpgonleelaaGreatDoor.Ev
open Go Go.RowKit
set_option linter.unusedVariables false
set_option linter.unusedSimpArgs false
set_option linter.unnecessarySimpa false
section
variable {ι :Type} {cx: ι→PV×Value} {P:Program} {w0:E9} {w w':World} {N M M':Px} {β β':N0} {nt:Nat} {st st':St} {a:Act} {o:Oper} {δ :Cm} {ban:List Nat}
def Aza:Bool→String
 |true=> "math/bits.Sub64"
 |false=> "math/bits.Add64"
theorem Atf{f:Nat}{fn:Func}{sb:Bool}(hf:P.funcs[f]? =some fn)(hb:fn.body.isNone=true)(ho:fn.origin= "")(hn:fn.name=Aza sb)(args:Array Value):
  (callFunc f args).run P w=((match sb with
   |false=>(do let (x,y,c)←Extern.MathBitsCarry.three "Add64" args;pure (Extern.MathBitsCarry.pair ((x+y+c) % Extern.MathBitsCarry.m64) ((x+y+c)/Extern.MathBitsCarry.m64)))
   |true=>(do let (x,y,b)←Extern.MathBitsCarry.three "Sub64" args;pure (Extern.MathBitsCarry.pair ((x+Extern.MathBitsCarry.m64 - y - b) % Extern.MathBitsCarry.m64) (if x < y+b then 1 else 0))):Sem Value).run P w).andThen fun v w'=> .ok (.value v) w':=by
 have h1:Extern.findNext fn=none:=by
  cases fn
  cases sb<;>(dsimp only [Aza] at ho hn;subst ho;subst hn;kernel_rfl)
 have h2:Extern.find fn=some (match sb with
   |false=>(fun args=>do let (x,y,c)←Extern.MathBitsCarry.three "Add64" args;pure (Extern.MathBitsCarry.pair ((x+y+c) % Extern.MathBitsCarry.m64) ((x+y+c)/Extern.MathBitsCarry.m64)))
   |true=>(fun args=>do let (x,y,b)←Extern.MathBitsCarry.three "Sub64" args;pure (Extern.MathBitsCarry.pair ((x+Extern.MathBitsCarry.m64 - y - b) % Extern.MathBitsCarry.m64) (if x < y+b then 1 else 0)))):=by
  cases fn
  cases sb<;>(dsimp only [Aza] at ho hn;subst ho;subst hn;kernel_rfl)
 have h3:(fn.name == "runtime.NumGoroutine")=false:=by rw [hn];cases sb<;>rfl
 unfold callFunc
 simp only [Sem.run_bind,run_program,Result.andThen_ok,hf,h3,hb,Bool.false_eq_true,if_false,if_true]
 have h4:(mark (.extern f)).run P w= .ok () w:=rfl
 simp only [h4,Result.andThen_ok,h1,h2,Sem.run_bind,Sem.run_pure]
 cases sb<;>rfl
theorem Apt(nm:String){k1 k2 k3:IntKind}{a b c:Int}(hc:c≤1):(Extern.MathBitsCarry.three nm #[.int k1 a,.int k2 b,.int k3 c]).run P w= .ok (a.toNat,b.toNat,c.toNat) w:=by
 have e:(Extern.MathBitsCarry.three nm #[.int k1 a,.int k2 b,.int k3 c])=(if c.toNat > 1 then (do let _←(unsupported (.noEntry ("extern/math/bits." ++nm++ ": a carry that is neither 0 nor 1")):Sem PUnit);pure (a.toNat,b.toNat,c.toNat)) else pure (a.toNat,b.toNat,c.toNat):Sem (Nat×Nat×Nat)):=by
  show (if c.toNat > 1 then _ else _)=_
  split
  ·rfl
  ·rfl
 rw [e,if_neg (by omega)]
 rfl
theorem A8h{sb:Bool}{f:Nat}{x y c:Operand}{ats:Array Nat}(h:SR cx w0 N nt st a w M β)(hd:∀x,o.dst=some x→x < nt)(he:A5k P f=some sb)(ho:o.op= .call { callee:= .value (.func f),args:= #[x,y,c],argTypes:=ats })
  (hs:Bb P (Gn P) (Gf P) ban (.ext sb x y c) o.dst st (fun δ'=> δ'= δ)):Ja cx P w0 N nt st a w o δ :=by
 simp only [Bb,Az] at hs
 have hxr:=h.opd x
 have hyr:=h.opd y
 have hcr:=h.opd c
 split at hs
 ·rename_i k1 u k2 v k3 n hx hy hc
  rw [hx] at hxr;rw [hy] at hyr;rw [hc] at hcr
  obtain ⟨hn,hs⟩:=hs
  have hfn:∃fn,P.funcs[f]? =some fn∧fn.body.isNone=true∧fn.origin= "" ∧fn.name=Aza sb:=by
   unfold A5k at he
   split at he
   ·rename_i fn hf
    refine ⟨fn,hf,?_⟩
    split at he
    ·rename_i g1 g2
     injection he with he
     subst he
     simp only [Bool.and_eq_true,decide_eq_true_eq] at g1
     exact ⟨g1.1,g1.2,of_decide_eq_true g2⟩
    ·rename_i g1 g2 g3
     injection he with he
     subst he
     simp only [Bool.and_eq_true,decide_eq_true_eq] at g1
     exact ⟨g1.1,g1.2,of_decide_eq_true g3⟩
    ·cases he
   ·cases he
  obtain ⟨fn,q1,q2,q3,q4⟩:=hfn
  have hr:∀(v1 v2:Int),B1 w M β w0.old (.tup [.val (.int .u64 v1),.val (.int .u64 v2)]) (.tuple #[.int .u64 v1,.int .u64 v2]):=fun v1 v2=>by
   refine .tup _ [.int .u64 v1,.int .u64 v2] rfl (fun i p v hp hv=> ?_)
   match i,hp,hv with
   |0,hp,hv=>injection hp with hp;injection hv with hv;subst hp;subst hv;exact .val _ rfl
   |1,hp,hv=>injection hp with hp;injection hv with hv;subst hp;subst hv;exact .val _ rfl
   |n+2,hp,hv=>simp at hp
  have hrun0:∀r,((callFunc f #[.int k1 u,.int k2 v,.int k3 n]).run P w= .ok (.value r) w)→(execOp a.eval o).run P w= .ok (.value r) w:=fun r hr=>by
   have e:a.eval (.func f)= .func (.func f) #[] #[]:=rfl
   simp only [execOp,ho,resolve,invoke,Deferred.ofValue,e,Sem.run_bind,Sem.run_pure,Result.andThen_ok,List.map_toArray,List.map_cons,List.map_nil,hxr.val_eq,hyr.val_eq,hcr.val_eq]
   exact hr
  cases sb with
  |false=>
   refine (D4 h hd (Bfh false u v n) _ w (Below.refl _ _) (hrun0 _ ?_) (hr _ _) (Ju rfl)).of_eq hs
   rw [Atf q1 q2 q3 q4]
   simp only [Sem.run_bind,Apt "Add64" hn,Result.andThen_ok,Sem.run_pure]
   rfl
  |true=>
   refine (D4 h hd (Bfh true u v n) _ w (Below.refl _ _) (hrun0 _ ?_) (hr _ _) (Ju rfl)).of_eq hs
   rw [Atf q1 q2 q3 q4]
   simp only [Sem.run_bind,Apt "Sub64" hn,Result.andThen_ok,Sem.run_pure]
   unfold Extern.MathBitsCarry.pair Bmc
   by_cases hlt:u.toNat < v.toNat+n.toNat
   ·rw [if_pos hlt,show Nat.blt u.toNat (v.toNat+n.toNat)=true from Nat.ble_eq_true_of_le hlt];rfl
   ·rw [if_neg hlt,show Nat.blt u.toNat (v.toNat+n.toNat)=false by cases hb:Nat.blt u.toNat (v.toNat+n.toNat) with|false=>rfl|true=>exact absurd (Nat.le_of_ble_eq_true hb) hlt];rfl
 ·exact hs.elim
end
end Go.Proofs.YthjhkpgonleelaaGreatDoor.Ev
namespace Go.Proofs.YthjhkpgonleelaaGreatDoor.Ev
open Go Go.RowKit
set_option linter.unusedVariables false
set_option linter.unusedSimpArgs false
set_option linter.unnecessarySimpa false
section
variable {ι :Type} {cx: ι→PV×Value} {P:Program} {w0:E9} {w:World} {N M:Px} {β :N0} {nt:Nat} {st:St} {a:Act} {o:Oper} {δ :Cm} {ban:List Nat}
theorem Wu(h:SR cx w0 N nt st a w M β)(hd:∀x,o.dst=some x→x < nt)(hsel:∀cs b,o.op≠ .select cs b)(hs:Apj P st o o.dst (fun δ'=> δ'= δ)):Ja cx P w0 N nt st a w o δ :=by
 unfold Apj at hs
 cases ha:t8 st o.op.operands.toList with
 |false=>rw [ha] at hs;exact hs.elim
 |true=>
  rw [ha] at hs
  have he:=h.valOf _ ha
  have hx:execOp a.eval o=execOp st.valOf o:=execOp_congr o hsel (fun x hx=>he x (by simpa using hx))
  obtain ⟨n,hn,hk⟩:=Aus _ _ hs w
  cases n with
  |value v=>
   simp only at hk
   cases hv:Ajj v with
   |false=>rw [hv] at hk;exact hk.elim
   |true=>
    rw [hv] at hk
    have hk':dput o.dst (.val v)= δ :=hk
    rw [←hk']
    exact D4 h hd _ v w (Below.refl _ _) (by rw [hx];exact hn) (.val v (by rw [←Arr];exact hv)) (Ju rfl)
  |_=>exact hk.elim
theorem Aot{t e:Nat}{ad:Addr}{n c:Nat}(w:World)(hty:P.underlying t=some (.slice e)):(Op.equal t (.slice (some ad) n c) (.slice none 0 0)).run P w= .ok false w:=by
 unfold Op.equal Op.maxDepth
 unfold Op.equalIn
 simp only [Sem.run_bind,run_underlying hty,Result.andThen_ok]
 rfl
theorem A3h{x y:Operand}{tag:Nat}{v:Value}(h:SR cx w0 N nt st a w M β)(hd:∀x,o.dst=some x→x < nt)
  (hy:a.eval y=v) (hs:Ajd st x v tag o.dst (fun δ'=> δ'= δ))
  (hrun:∀ad n c,a.eval x= .slice (some ad) n c→a.eval y= .slice none 0 0→tag=6∨tag=7→∀w,(execOp a.eval o).run P w= .ok (.value (.bool (tag == 7))) w):Ja cx P w0 N nt st a w o δ :=by
 have hxr:=h.opd x
 unfold Ajd at hs
 split at hs
 ·rename_i v' s hsv
  have key:0 < s.n→∃ad c,a.eval x= .slice (some ad) s.n c:=by
   intro hn
   generalize st.opd x=p at hsv hxr
   generalize a.eval x=u at hxr
   cases hxr with
   |row q s' hs' ad c vs hc hsz ha hm hr=>
    rw [hsv] at hs'
    injection hs' with hs'
    subst hs'
    obtain ⟨ad',rfl⟩:=ha 0 hn
    exact ⟨ad',c,rfl⟩
   |_=>exact absurd hsv (by simp [PV.sv])
  split at hs
  ·simp only [Az] at hs
   obtain ⟨hn,hs⟩:=hs
   obtain ⟨ad,c,hx⟩:=key hn
   exact (D4 h hd (.val (.bool false)) (.bool false) w (Below.refl _ _) (hrun ad _ c hx hy (.inl rfl) w) (.val _ rfl) (Ju rfl)).of_eq hs
  ·simp only [Az] at hs
   obtain ⟨hn,hs⟩:=hs
   obtain ⟨ad,c,hx⟩:=key hn
   exact (D4 h hd (.val (.bool true)) (.bool true) w (Below.refl _ _) (hrun ad _ c hx hy (.inr rfl) w) (.val _ rfl) (Ju rfl)).of_eq hs
  ·exact hs.elim
 ·exact hs.elim
theorem P1{x y:Operand}{tag:Nat}(h:SR cx w0 N nt st a w M β)(hd:∀x,o.dst=some x→x < nt)
  (hs:Bb P (Gn P) (Gf P) ban (.bin2 tag x y) o.dst st (fun δ'=> δ'= δ))
  (hrun:∀(u v r:Value),a.eval x=u→a.eval y=v→bin2 tag u v=some (true,r)→∀w,(execOp a.eval o).run P w= .ok (.value r) w)
  (hnil:∀ad n c,a.eval x= .slice (some ad) n c→a.eval y= .slice none 0 0→tag=6∨tag=7→∀w,(execOp a.eval o).run P w= .ok (.value (.bool (tag == 7))) w:=by intro _ _ _ _ _ h;exfalso;omega):Ja cx P w0 N nt st a w o δ :=by
 simp only [Bb,Az] at hs
 have hxr:=h.opd x
 have hyr:=h.opd y
 split at hs
 ·rename_i u v hx hy
  rw [hx] at hxr
  rw [hy] at hyr
  split at hs
  ·rename_i c r hb
   cases c with
   |false=>exact hs.elim
   |true=>
    have hone:r.oneCell'=true:=by
     unfold bin2 at hb
     split at hb<;>(try split at hb)<;>first|(injection hb with hb;injection hb with _ hb;subst hb;rfl)|cases hb
    exact (D4 h hd (.val r) r w (Below.refl _ _) (hrun u v r hxr.val_eq hyr.val_eq hb w) (.val _ hone) (Ju rfl)).of_eq hs
  ·exact hs.elim
 ·rename_i v hy _
  rw [hy] at hyr
  exact A3h h hd hyr.val_eq hs hnil
 ·exact hs.elim
section
variable {u v r:Value} {w:World} {x y:Operand} {t:TypeId}
theorem A2p(t':TypeId)(h:bin2 0 u v=some (true,r)):((eqGuard .quo t x y u v).run P w).andThen (fun _ w'=>(binOp .quo t u v).run P w')= .ok r w:=by
 unfold bin2 at h
 split at h<;>try (first|(exfalso;omega)|(cases h;done))
 split at h<;>try (cases h;done)
 all_goals (rename_i hk;simp only [Option.some.injEq,Prod.mk.injEq,Bool.not_eq_true',decide_eq_false_iff_not] at h;obtain ⟨h1,rfl⟩:=h;have hk':=of_decide_eq_true hk;subst hk';simp_all [eqGuard,binOp,Op.intDiv])
theorem A2q(t':TypeId)(h:bin2 1 u v=some (true,r)):((eqGuard .rem t x y u v).run P w).andThen (fun _ w'=>(binOp .rem t u v).run P w')= .ok r w:=by
 unfold bin2 at h
 split at h<;>try (first|(exfalso;omega)|(cases h;done))
 split at h<;>try (cases h;done)
 all_goals (rename_i hk;simp only [Option.some.injEq,Prod.mk.injEq,Bool.not_eq_true',decide_eq_false_iff_not] at h;obtain ⟨h1,rfl⟩:=h;have hk':=of_decide_eq_true hk;subst hk';simp_all [eqGuard,binOp,Op.intDiv])
theorem A2r(t':TypeId)(h:bin2 2 u v=some (true,r)):((eqGuard .shl t x y u v).run P w).andThen (fun _ w'=>(binOp .shl t u v).run P w')= .ok r w:=by
 unfold bin2 at h
 split at h<;>try (first|(exfalso;omega)|(cases h;done))
 all_goals (simp only [Option.some.injEq,Prod.mk.injEq,Bool.not_eq_true',decide_eq_false_iff_not] at h;obtain ⟨h1,rfl⟩:=h;simp_all [eqGuard,binOp,Op.shift];try (intro hneg;omega))
theorem A2s(t':TypeId)(h:bin2 3 u v=some (true,r)):((eqGuard .shr t x y u v).run P w).andThen (fun _ w'=>(binOp .shr t u v).run P w')= .ok r w:=by
 unfold bin2 at h
 split at h<;>try (first|(exfalso;omega)|(cases h;done))
 all_goals (simp only [Option.some.injEq,Prod.mk.injEq,Bool.not_eq_true',decide_eq_false_iff_not] at h;obtain ⟨h1,rfl⟩:=h;simp_all [eqGuard,binOp,Op.shift];try (intro hneg;omega))
theorem A2t(t':TypeId)(h:bin2 4 u v=some (true,r)):((eqGuard .add t x y u v).run P w).andThen (fun _ w'=>(binOp .add t u v).run P w')= .ok r w:=by
 unfold bin2 at h
 split at h<;>try (first|(exfalso;omega)|(cases h;done))
 all_goals (simp only [Option.some.injEq,Prod.mk.injEq,Bool.not_eq_true',decide_eq_false_iff_not] at h;obtain ⟨h1,rfl⟩:=h;simp only [eqGuard,binOp,Op.stringOp];rw [if_neg h1];rfl)
theorem A2u(hty:P.underlying t=some .string)(h:bin2 5 u v=some (true,r)):(Instr.index t u v).run P w= .ok r w:=by
 unfold bin2 at h
 split at h<;>try (first|(exfalso;omega)|(cases h;done))
 all_goals (
  rename_i s k n _
  simp only [Option.some.injEq,Prod.mk.injEq] at h
  obtain ⟨h1,rfl⟩:=h
  cases hg:(if 0≤n then s[n.toNat]? else none) with
  |none=>rw [hg] at h1;cases h1
  |some b=>simp [Instr.index,asIntOf,run_underlying hty,hg,Jv])
end
theorem Aos{b:BinOp}{t:TypeId}{x y:Operand}{t':TypeId}{neg:Bool}{ts:List (Nat×Nat)}(h:SR cx w0 N nt st a w M β)(hd:∀x,o.dst=some x→x < nt)
  (hb:(b= .eql∧neg=false)∨(b= .neq∧neg=true)) (hts:Abx P t=some ts) (ho:o.op= .binOp b t x y t')
  (hs:Bb P (Gn P) (Gf P) ban (.eqA neg ts x y) o.dst st (fun δ'=> δ'= δ)):Ja cx P w0 N nt st a w o δ :=by
 simp only [Bb,Az] at hs
 have hgd:=Aq2 hts
 have hxr:=h.opd x
 have hyr:=h.opd y
 split at hs
 ·rename_i xs ys hx hy
  split at hs
  ·rename_i r hr
   rw [hx] at hxr
   rw [hy] at hyr
   generalize hux:a.eval x=u at hxr
   generalize huy:a.eval y=v at hyr
   cases hxr with
   |row p s hs=>cases hs
   |agg l1 c1 hl1 o1 r1=>
    cases hyr with
    |row p s hs=>cases hs
    |agg l2 c2 hl2 o2 r2=>
     have hrun:∀w',(Op.equalIn 10000 t (.agg c1.toArray) (.agg c2.toArray)).run P w'= .ok r w':=fun w'=>
      Al4 hl1 r1 hl2 r2 9998 w' hts hr
     rcases hb with ⟨rfl,rfl⟩|⟨rfl,rfl⟩
     ·refine (D4 h hd (.val (.bool r)) (.bool r) w (Below.refl _ _) ?_ (.val _ rfl) (Ju rfl)).of_eq hs
      simp only [execOp,ho,hux,huy,Sem.run_bind,run_eqGuard_agg w .eql t x y _ _ hgd,Result.andThen_ok,run_eql_struct,hrun,Sem.run_pure]
     ·refine (D4 h hd (.val (.bool (!r))) (.bool (!r)) w (Below.refl _ _) ?_ (.val _ rfl) (Ju rfl)).of_eq hs
      simp only [execOp,ho,hux,huy,Sem.run_bind,run_eqGuard_agg w .neq t x y _ _ hgd,Result.andThen_ok,run_neq_struct,hrun,Sem.run_pure]
  ·exact hs.elim
 ·exact hs.elim
theorem Aoy{f g:Nat→Option (Nat×Nat)}(hfg:∀i x,f i=some x→g i=some x):∀(ps:List (Nat×Value)) (cells cs:Array Value),Instr.fill f cells ps=some cs→Instr.fill g cells ps=some cs
 | [],cells,cs,h=>h
 |(i,v)::ps,cells,cs,h=>by
  simp only [Instr.fill] at h ⊢
  cases hf:f i with
  |none=>rw [hf] at h;cases h
  |some x=>
   rw [hf] at h
   rw [hfg i x hf]
   obtain ⟨off,size⟩:=x
   simp only at h ⊢
   split at h
   ·cases h
   ·rename_i hc
    rw [if_neg hc]
    exact Aoy hfg ps _ _ h
theorem Ck{x y:Nat}(h:Nat.beq x y=true):x=y:=Nat.eq_of_beq_eq_true h
theorem Af5(h:SR cx w0 N nt st a w M β)(hd:∀x,o.dst=some x→x < nt)(t f:Nat)(x:Operand)(fs:Array Field)(fd:Field)(n:Nat)(ho:o.op= .fieldAddr t x f)
  (hu:P.underlying t=some (.struct fs)) (hf:fs[f]? =some fd) (hs:szT P fd.type=some (n+1)) (ad:Addr) (hv:a.eval x= .pointer (some ad)) (p:PV)
  (hr:B1 w M β w0.old p (.pointer (some (ad.add fd.offset)))) (hn:p.sv=none):Ja cx P w0 N nt st a w o (dput o.dst p):=by
 obtain ⟨i,hi,his⟩:=Ad2 hs
 refine D4 h hd _ _ w (Below.refl _ _) ?_ hr (Ju hn)
 simp only [execOp,ho,hv,Instr.fieldAt,run_underlying hu,Instr.sureAddr,fieldPlace,sizeOf,typeInfo,Sem.run_bind,Sem.run_pure,Result.andThen_ok,hf,run_program,hi,his]
 rw [if_neg (by omega)]
 rfl
theorem A7j{B:Nat→Prop}{l:List PV}{v:Value}{ad:Addr}(h:B1 w M β B (.ref l) v)(hv:v= .pointer (some ad))(n:Nat):B1 w M β B (.ref (l.drop n)) (.pointer (some (ad.add n))):=by
 cases h with
 |row p s hs=>cases hs
 |ref l ad' vs hm hr=>
  injection hv with hv;injection hv with hv;subst hv
  refine .ref _ _ (fun i=>vs (n+i)) (fun i p hp=> ?_) (fun i p hp=> ?_)
  ·rw [List.getElem?_drop] at hp
   obtain ⟨g1,g2,g3⟩:=hm _ p hp
   rw [Agq]
   exact ⟨g1.imp (fun h=>by rw [Ad6];exact h) id,g2,g3⟩
  ·rw [List.getElem?_drop] at hp
   exact hr _ p hp
theorem A7o{B:Nat→Prop}{p:PV}{s:SV}{v:Value}(hs:p.sv=some s)(h:B1 w M β B p v):∃A c,v= .slice A s.n c∧s.n≤c∧∀i,i < s.n→∃ad,A=some ad∧B1 w M β B (.ref (s.f i)) (.pointer (some (ad.add (i*s.sz)))):=by
 have go:∀(p:PV) (v:Value),p.sv=some s→B1 w M β B p v→∃A c,v= .slice A s.n c∧s.n≤c∧∀i,i < s.n→∃ad,A=some ad∧B1 w M β B (.ref (s.f i)) (.pointer (some (ad.add (i*s.sz)))):=by
  intro p v hs h
  cases h with
  |row p s' hs' A c vs hc hsz ha hm hr=>
   rw [hs] at hs';injection hs' with hs';subst hs'
   refine ⟨A,c,rfl,hc,fun i hi=> ?_⟩
   obtain ⟨ad,hA⟩:=ha i hi
   refine ⟨ad,hA,.ref _ _ (fun j=>vs i j) (fun j p hp=> ?_) (fun j p hp=>hr i j p hi hp)⟩
   obtain ⟨q1,q2,q3⟩:=hm ad i j p hA hi hp
   rw [Agq]
   exact ⟨.inr q1,q2,q3⟩
  |_=>cases hs
 exact go p v hs h
theorem Af6(h:SR cx w0 N nt st a w M β)(hd:∀x,o.dst=some x→x < nt)(t e sz:Nat)(x i:Operand)(ho:o.op= .indexAddr t x i)(hu:P.underlying t=some (.slice e))(hsz:szT P e=some sz)
  (A:Addr) (n c:Nat) (k:IntKind) (m:Int) (hx:a.eval x= .slice (some A) n c) (hi:a.eval i= .int k m) (h0:0≤m) (h1:m < (n:Int)) (p:PV)
  (hr:B1 w M β w0.old p (.pointer (some (A.add (m.toNat*sz))))) (hn:p.sv=none):Ja cx P w0 N nt st a w o (dput o.dst p):=by
 obtain ⟨ie,hie,hies⟩:=Ad2 hsz
 refine D4 h hd p _ w (Below.refl _ _) ?_ hr (Ju hn)
 have helem:P.elem t=e:=by simp [Program.elem,hu]
 have:=run_indexAt_slice (P:=P) w t A n c k m (by rw [helem];exact hu)
 simp only [execOp,ho,hx,hi,Sem.run_bind,Sem.run_pure,Result.andThen_ok]
 rw [this,if_pos ⟨h0,by omega⟩,helem]
 simp [sizeOf,typeInfo,hie,hies]
theorem A8f(h:SR cx w0 N nt st a w M β)(hd:∀x,o.dst=some x→x < nt)(d s:Nat)(hdst:o.dst=some d)(x:Operand)(t e sz:Nat)(i:TypeInfo)(z:Value)
  (ho:o.op= .call { callee:= .builtin .append,args:= #[.tmp s,x],argTypes:= #[t,t] })
  (ht:P.underlying t=some (.slice e)) (hi:P.info? e=some i) (hz:i.zero=some z) (hzs:z.cells.size=i.size) (hsz:i.size=sz) (hpos:1≤sz)
  {y q r:LX} {own:Bool} (hy:st.get s= .lst true y) (hq:st.opd x= .lst own q) (hr:LX.cat y q=some r) (he:e=y.e) (hs:sz=y.sz)
  (hb:(y.len+q.len)*i.bytes≤140737488355328) (hm:y.len+q.len≤maxLen):Ja cx P w0 N nt st a w o ⟨[(d,.lst true r),(s,.lst false y)],[]⟩:=by
 obtain ⟨c1,c2,c3,c4,c5,c6,c7⟩:=LX.cat_spec y q r hr
 have h1:=h.drop s
 have hreg:=h.reg s
 rw [hy] at hreg h1
 have hxr:=h.opd x
 rw [hq] at hxr
 have ho1:=Ahq (cx:=cx) (w:=w) (β := β) (a:=a) (O:=st.obj) (st:=st) (s:=s) (sv:=⟨true,y.e,y.sz,y.len,y.row⟩) (by rw [hy];rfl) rfl
 obtain ⟨v',w',M',hrun,hS⟩:=Alp (P:=P) h1.sh t o.type e i z ht hi hz hzs (by omega) (p:= .lst true y) (q:= .lst own q) (r:= .lst true r) (s:=⟨true,y.e,y.sz,y.len,y.row⟩) (s2:=⟨own,q.e,q.sz,q.len,q.row⟩) (u:=⟨true,r.e,r.sz,r.len,r.row⟩) rfl rfl rfl
  he.symm (by rw [hsz];exact hs.symm) c3 c2 c4 c5 c6 (fun i _=>c7 i) hreg (h.sh.tok _ _ _ ho1) hxr
  (fun key s' v' g hk hg=>by
   have hk':X5 (hold cx (st.app ⟨[(s,(st.get s).view)],[]⟩) a) st.obj w β key s' v':=by rw [hy];exact hk
   obtain ⟨q1,q2⟩:=Adu hk'
   exact h.sh.tokne _ _ _ _ _ _ g ho1 q1 (fun e=>q2 e.symm) hg)
  (fun g x n hg=>h.sh.tokbox _ _ _ g x n ho1 hg) hb hm
 refine Mp h hd hdst (st0:=st.app ⟨[(s,.lst false y)],[]⟩) hS ?_ (fun t=>Ada st d s t _ _) (fun _=>rfl) (fun _ h=>h)
 simp only [execOp,ho,resolve,invoke,builtin,Sem.run_bind,Sem.run_pure,Result.andThen_ok,List.map_toArray,List.map_cons,List.map_nil]
 rw [show a.eval (.tmp s)=a.tmps.getD s undef from rfl,hrun]
 rfl
theorem Asc(h:SR cx w0 N nt st a w M β)(hd:∀x,o.dst=some x→x < nt)(d s:Nat)(hdst:o.dst=some d)(x:Operand)(t e sz:Nat)(i:TypeInfo)(z:Value)
  (ho:o.op= .call { callee:= .builtin .append,args:= #[.tmp s,x],argTypes:= #[t,t] })
  (ht:P.underlying t=some (.slice e)) (hi:P.info? e=some i) (hz:i.zero=some z) (hzs:z.cells.size=i.size) (hsz:i.size=sz) (hpos:1≤sz)
  {q:LX} {own:Bool} (hy:st.get s= .val (.slice none 0 0)) (hq:st.opd x= .lst own q) (he:e=q.e) (hs:sz=q.sz)
  (hb:(0+q.len)*i.bytes≤140737488355328) (hm:0+q.len≤maxLen):Ja cx P w0 N nt st a w o ⟨[(d,.lst true q)],[]⟩:=by
 have hreg:=h.reg s
 rw [hy] at hreg
 have hv:a.tmps.getD s undef= .slice none 0 0:=hreg.val_eq
 have hxr:=h.opd x
 rw [hq] at hxr
 have hp:B1 w M β w0.old (.sl true q.e q.sz []) (.slice none (SV.mk true q.e q.sz 0 (fun i=> [].getD i [])).n 0):=
  .row _ ⟨true,q.e,q.sz,0,fun i=> [].getD i []⟩ rfl none 0 (fun _ _=>undef) (Nat.le_refl _) (fun i hi=>by cases hi) (fun i hi=>by cases hi) (fun ad i j p ha=>by cases ha) (fun i j p hi=>by cases hi)
 obtain ⟨v',w',M',hrun,hS⟩:=Alp (P:=P) h.sh t o.type e i z ht hi hz hzs (by omega) (p:= .sl true q.e q.sz []) (q:= .lst own q) (r:= .lst true q) (s:=⟨true,q.e,q.sz,0,fun i=> [].getD i []⟩) (s2:=⟨own,q.e,q.sz,q.len,q.row⟩) (u:=⟨true,q.e,q.sz,q.len,q.row⟩) rfl rfl rfl
  he.symm (by rw [hsz];exact hs.symm) rfl rfl rfl (by simp) (fun i hi=>by cases hi) (fun i _=>by simp) hp (.inl ⟨none,rfl,rfl⟩) hxr
  (fun key s' v' g hk hg=>absurd hg Ik) (fun g x n hg=>absurd hg Ik) hb hm
 refine Mp h hd hdst (st0:=st) hS ?_ (fun t=>J1 st d t _) (fun _=>rfl) (fun _ h=>h)
 simp only [execOp,ho,resolve,invoke,builtin,Sem.run_bind,Sem.run_pure,Result.andThen_ok,List.map_toArray,List.map_cons,List.map_nil]
 rw [show a.eval (.tmp s)=a.tmps.getD s undef from rfl,hv,hrun]
 rfl
theorem Aog(h:SR cx w0 N nt st a w M β)(hd:∀x,o.dst=some x→x < nt)(d s:Nat)(hdst:o.dst=some d)(x:Operand)(t e:Nat)(i:TypeInfo)
  (ho:o.op= .call { callee:= .builtin .append,args:= #[.tmp s,x],argTypes:= #[t,t] }) (ht:P.underlying t=some (.slice e)) (hi:P.info? e=some i)
  {y:LX} (hy:st.get s= .lst true y) (hq:st.opd x= .val (.slice none 0 0)):Ja cx P w0 N nt st a w o ⟨[(d,.lst true y),(s,.lst false y)],[]⟩:=by
 have hreg:=h.reg s
 have hxr:=h.opd x
 rw [hq] at hxr
 have hxv:a.eval x= .slice none 0 0:=hxr.val_eq
 have ho1:=Ahq (cx:=cx) (w:=w) (β := β) (a:=a) (O:=st.obj) (st:=st) (s:=s) (sv:=⟨true,y.e,y.sz,y.len,y.row⟩) (by rw [hy];rfl) rfl
 have ht0:=h.sh.tok _ _ _ ho1
 have hv:∃A n c,a.tmps.getD s undef= .slice A n c∧n≤c∧(A=none→n=0∧c=0):=by
  rcases ht0 with ⟨A,h1,_⟩|⟨g,c,cur,h1,_,_,_,h5,_⟩
  ·exact ⟨A,0,0,h1,Nat.le_refl _,fun _=>⟨rfl,rfl⟩⟩
  ·exact ⟨_,_,_,h1,h5,fun h=>by cases h⟩
 obtain ⟨A,n,c,hv,hnc,hA⟩:=hv
 have hrun:(execOp a.eval o).run P w= .ok (.value (a.eval (.tmp s))) w:=by
  simp only [execOp,ho,resolve,invoke,builtin,Sem.run_bind,Sem.run_pure,Result.andThen_ok,List.map_toArray,List.map_cons,List.map_nil]
  rw [show a.eval (.tmp s)=a.tmps.getD s undef from rfl,hxv,hv,Aco t o.type e i ht hi A n c hnc hA none 0 w]
  rfl
 have:=Aju h hd s d hdst (P:=P) (o:=⟨o.dst,.move (.tmp s),o.type,o.pos,o.after,o.guard⟩) (fun _=>rfl)
 intro K Q hK
 rw [hy] at this
 have hk:=this (fun a' w'=>K a' w') Q hK
 unfold Oper.wp at hk ⊢
 rw [hrun]
 exact hk
theorem Ay2(h:SR cx w0 N nt st a w M β){e sz s:Nat}(hb:(st.get s).bare e sz=true):
  Ac8 w M w0.old ⟨true,e,sz,0,fun k=> [].getD k []⟩ (a.tmps.getD s undef)∧
  (∀key s' v' g,X5 (hold cx (st.app ⟨[(s,(st.get s).view)],[]⟩) a) st.obj w β key s' v'→tb (a.tmps.getD s undef)=some g→tb v'≠some g)∧
  (∀g d n,tb (a.tmps.getD s undef)=some g→β d≠some (g,n)):=by
 have hreg:=h.reg s
 unfold PV.bare at hb
 split at hb
 ·rename_i hg
  rw [hg] at hreg
  rw [hreg.val_eq]
  exact ⟨.inl ⟨none,rfl,rfl⟩,fun key s' v' g _ hg=>absurd hg Ik,fun g d n hg=>absurd hg Ik⟩
 ·rename_i y hg
  split at hb
  ·rename_i c1 c2 c3
   have c1:=Ck c1
   have c2:=Ck c2
   have c3:=Ck c3
   have ho1:=Ahq (cx:=cx) (w:=w) (β := β) (a:=a) (O:=st.obj) (st:=st) (s:=s) (sv:=⟨true,y.e,y.sz,y.len,y.row⟩) (by rw [hg];rfl) rfl
   refine ⟨?_,fun key s' v' g hk hg'=> ?_,fun g d n hg'=>h.sh.tokbox _ _ _ g d n ho1 hg'⟩
   ·rcases h.sh.tok _ _ _ ho1 with ⟨a0,h1,_⟩|⟨g,c,cur,h1,h2,h3,h4,h5,h6,h7⟩
    ·exact .inl ⟨a0,h1,rfl⟩
    ·simp only [c1,←c2,←c3] at h1 h3 h4 h5 h7
     exact .inr ⟨g,c,cur,h1,h2,h3,h4,h5,h6,h7⟩
   ·obtain ⟨q1,q2⟩:=Adu hk
    exact h.sh.tokne _ _ _ _ _ _ g ho1 q1 (fun e=>q2 e.symm) hg'
  ·cases hb
 ·cases hb
theorem Axy(h:SR cx w0 N nt st a w M β)(hd:∀x,o.dst=some x→x < nt)(d s id:Nat)(hdst:o.dst=some d)(x:Operand)(t e:Nat)(i:TypeInfo)(z:Value)
  (ho:o.op= .call { callee:= .builtin .append,args:= #[.tmp s,x],argTypes:= #[t,t] })
  (ht:P.underlying t=some (.slice e)) (hi:P.info? e=some i) (hz:i.zero=some z) (hzs:z.cells.size=i.size) (hpos:1≤i.size)
  {q:LX} {own:Bool} (hbare:(st.get s).bare e i.size=true) (hq:st.opd x= .lst own q) (hqs:i.size=q.sz) (hb:q.len*i.bytes≤140737488355328) (hm:q.len≤maxLen) (hn:1≤q.len)
  (cm:Bool) (hnew:A9 id (st.ob.map Prod.fst)=true):Ja cx P w0 N nt st a w o ⟨[(d,.vw cm id e i.size q.len),(s,(st.get s).view)],[(id,match cm with|true=>q.flat|false=> [.arrO q])]⟩:=by
 have hxr:=h.opd x
 rw [hq] at hxr
 obtain ⟨k1,k2,k3⟩:=Ay2 h hbare
 obtain ⟨v',w',M',β',hrun,hS⟩:=Av4 (P:=P) (O':=(st.app ⟨[(d,.vw cm id e i.size q.len),(s,(st.get s).view)],[(id,match cm with|true=>q.flat|false=> [.arrO q])]⟩).obj) (D':=fun x=>A9 x (id::st.ob.map Prod.fst)) (d:=id)
  (h.drop s).sh t o.type e i z ht hi hz hzs hpos rfl rfl rfl hqs.symm hn k1 hxr k2 k3 hb hm cm hnew (by rw [D7,if_pos rfl];cases cm<;>rfl) (fun x hx=>by rw [D7,if_neg (fun e=>hx e.symm)];rfl)
  (fun x hx=>by
   have hx':=(Bq _ _).1 hx
   exact ⟨(Bq _ _).2 (fun hm=>hx' (List.mem_cons_of_mem _ hm)),fun e=>hx' (by simp [e])⟩)
 refine Mp h hd hdst (st0:=st.app ⟨[(s,(st.get s).view)],[]⟩) hS ?_ (fun t=>C2 _ _ _ _ _) (fun _=>rfl) (fun _ h=>h)
 simp only [execOp,ho,resolve,invoke,builtin,Sem.run_bind,Sem.run_pure,Result.andThen_ok,List.map_toArray,List.map_cons,List.map_nil]
 rw [show a.eval (.tmp s)=a.tmps.getD s undef from rfl,hrun]
 rfl
theorem Au8(h:SR cx w0 N nt st a w M β)(hd:∀x,o.dst=some x→x < nt)(d s:Nat)(hdst:o.dst=some d)(x:Operand)(t e:Nat)(i:TypeInfo)(z:Value)
  (ho:o.op= .call { callee:= .builtin .append,args:= #[.tmp s,x],argTypes:= #[t,t] })
  (ht:P.underlying t=some (.slice e)) (hi:P.info? e=some i) (hz:i.zero=some z) (hzs:z.cells.size=i.size) (hpos:1≤i.size)
  {q n:LX} {own:Bool} (hbare:(st.get s).bare e i.size=true) (hq:st.opd x= .lst own q) (hqs:i.size=q.sz) (hn:q.len=0) (hnn:LX.nil e=some n) (hns:i.size=n.sz):
  Ja cx P w0 N nt st a w o ⟨[(d,.lst true n),(s,(st.get s).view)],[]⟩:=by
 have hxr:=h.opd x
 rw [hq] at hxr
 obtain ⟨k1,k2,k3⟩:=Ay2 h hbare
 obtain ⟨n1,n2⟩:=LX.nil_spec e n hnn
 have hp:B1 w M β w0.old (.sl true e i.size []) (a.tmps.getD s undef):=by
  have hv:∃A c,a.tmps.getD s undef= .slice A 0 c:=by
   rcases k1 with ⟨a0,h1,_⟩|⟨g,c,cur,h1,_⟩
   ·exact ⟨_,_,h1⟩
   ·exact ⟨_,_,h1⟩
  obtain ⟨A,c,hv⟩:=hv
  rw [hv]
  exact .row _ ⟨true,e,i.size,0,fun k=> [].getD k []⟩ rfl A c (fun _ _=>undef) (Nat.zero_le _) (fun i hi=>by cases hi) (fun i hi=>by cases hi) (fun ad i j p _ hi=>by cases hi) (fun i j p hi=>by cases hi)
 obtain ⟨v',w',M',hrun,hS⟩:=Alp (P:=P) (h.drop s).sh t o.type e i z ht hi hz hzs hpos (p:= .sl true e i.size []) (q:= .lst own q) (r:= .lst true n) (s:=⟨true,e,i.size,0,fun k=> [].getD k []⟩) (s2:=⟨own,q.e,q.sz,q.len,q.row⟩) (u:=⟨true,n.e,n.sz,n.len,n.row⟩) rfl rfl rfl
  rfl rfl hqs.symm n1 hns.symm (by show n.len=0+q.len;omega) (fun i hi=>by cases hi) (fun i hi=>by have:i < q.len:=hi;omega) hp k1 hxr k2 k3 (by show (0+q.len)*_≤_;rw [hn];simp) (by show 0+q.len≤_;omega)
 refine Mp h hd hdst (st0:=st.app ⟨[(s,(st.get s).view)],[]⟩) hS ?_ (fun t=>Ada st d s t _ _) (fun _=>rfl) (fun _ h=>h)
 simp only [execOp,ho,resolve,invoke,builtin,Sem.run_bind,Sem.run_pure,Result.andThen_ok,List.map_toArray,List.map_cons,List.map_nil]
 rw [show a.eval (.tmp s)=a.tmps.getD s undef from rfl,hrun]
 rfl
theorem Ad8{f:Nat}{args:Array Value}{n:Sem Next}(hc:Jb P f=true)(hn:n=callFunc f args):n.run P w= .ok (.enter f args) w:=by
 unfold Jb at hc
 cases hf:P.funcs[f]? with
 |none=>rw [hf] at hc;cases hc
 |some fn=>
  rw [hf] at hc
  simp only [Bool.and_eq_true,Bool.not_eq_true'] at hc
  obtain ⟨hc1,hc2⟩:=hc
  have hbody:fn.body.isNone=false:=by cases hb:fn.body with|none=>rw [hb] at hc2;cases hc2|some c=>rfl
  subst hn
  simp only [callFunc,Sem.run_bind,Sem.run_pure,Result.andThen_ok,run_program,hf]
  simp [hc1,hbody]
theorem B1.up{B:Nat→Prop}{p:PV}{v:Value}(h:B1 w M (fun _=>none) (fun _=>False) p v):B1 w M β B p v:=by
 induction h with
 |any v=>exact .any v
 |val v h=>exact .val v h
 |agg l cs hl h1 _ ih=>exact .agg l cs hl h1 ih
 |tup l cs hl _ ih=>exact .tup l cs hl ih
 |row p s hs a c vs hc hsz ha hm _ ih=>exact .row p s hs a c vs hc hsz ha hm ih
 |loc d off b n h=>cases h
 |el d sz i off b n h=>cases h
 |vw cf d e sz n b c h=>cases h
 |mp d b n h=>cases h
 |clo f n l cs hl _ ih=>exact .clo f n l cs hl ih
 |ref l ad vs hm _ ih=>exact .ref l ad vs (fun i p hp=>⟨.inr ((hm i p hp).1.resolve_left id),(hm i p hp).2⟩) ih
theorem L8{l:List PV}{i:Nat}{q:PV}(h:(l.map PV.pure0)[i]? =some q):∃p,l[i]? =some p∧q=p.pure0:=by
 rw [List.getElem?_map] at h
 cases hp:l[i]? with
 |none=>rw [hp] at h;cases h
 |some p=>rw [hp] at h;injection h with h;exact ⟨p,rfl,h.symm⟩
theorem Au4(h:SR cx w0 N nt st a w M β){p:PV}{v:Value}(hp:B1 w M β w0.old p v):B1 w M (fun _=>none) (fun b=>b < w.heap.size) (Aej st.obj p) v:=by
 have hle:w0.w.heap.size≤w.heap.size:=h.sh.bel.size
 cases p with
 |loc d off=>
  obtain ⟨b,n,hb,hv⟩:=u6 hp
  simp only [Aej]
  split
  ·rename_i hpl
   rw [hv]
   have hbw:=h.sh.mlt b 0 (h.sh.box d b n hb).2.1
   have hcell:=h.cellsAt (off:=off) hb (l:=(st.obj d).drop off) (fun i p hp=>by rw [List.getElem?_drop] at hp;exact hp) hpl
   have hall:∀i,∃v,∀p,((st.obj d).drop off)[i]? =some p→w.cell? ((⟨b,off,none⟩:Addr).add i)=some v∧B1 w M β w0.old p v∧v.oneCell'=true:=fun i=>by
    cases hp:((st.obj d).drop off)[i]? with
    |none=>exact ⟨undef,fun p hp=>by cases hp⟩
    |some p=>obtain ⟨v,hv⟩:=hcell i p hp;exact ⟨v,fun q hq=>by injection hq with hq;subst hq;exact hv⟩
   obtain ⟨vs,hvs⟩:=Classical.axiomOfChoice hall
   refine .ref _ _ vs (fun i q hq=> ?_) (fun i q hq=> ?_)
   ·obtain ⟨p,hp,rfl⟩:=L8 hq
    exact ⟨.inl hbw,(hvs i p hp).1,(hvs i p hp).2.2⟩
   ·obtain ⟨p,hp,rfl⟩:=L8 hq
    exact (hvs i p hp).2.1.pure0
  ·exact .any _
 |agg l=>
  cases hp with
  |row p s hs=>cases hs
  |agg l cs hl h1 hr=>
   refine .agg _ cs (by rw [List.length_map,hl]) h1 (fun i q u hq hu=> ?_)
   obtain ⟨p,hp,rfl⟩:=L8 hq
   exact (hr i p u hp hu).pure0
 |ref l=>
  cases hp with
  |row p s hs=>cases hs
  |ref l ad vs hm hr=>
   refine .ref _ ad vs (fun i q hq=> ?_) (fun i q hq=> ?_)
   ·obtain ⟨p,hp,rfl⟩:=L8 hq
    exact ⟨(hm i p hp).1.imp (fun hb=>h.sh.bel.lt hb) id,(hm i p hp).2⟩
   ·obtain ⟨p,hp,rfl⟩:=L8 hq
    exact (hr i p hp).pure0
 |_=>exact hp.pure0
theorem A36(h:SR cx w0 N nt st a w M β)(hd:∀x,o.dst=some x→x < nt)(f:Nat)(args:List Operand)(ats:Array Nat)(ho:o.op= .call { callee:= .value (.func f),args:=args.toArray,argTypes:=ats })
  (hc:Jb P f=true) (r:PV) (hr:Xj P f (args.map fun x=>Aej st.obj (st.opd x)) r):Ja cx P w0 N nt st a w o (dput o.dst r.view):=by
 intro K Q hK
 have hrun:(execOp a.eval o).run P w= .ok (.enter f (args.map a.eval).toArray) w:=by
  refine Ad8 (P:=P) hc ?_
  simp [execOp,ho,resolve,Act.eval,Deferred.ofValue,invoke]
 unfold Oper.wp
 rw [hrun]
 refine Calls.mono (hr w M (args.map a.eval) (by simp) ?_ h.sh.mlt (h.sh.mN.gl.all h.sh.bel h.sh.mN.eq)) ?_
 ·intro i p v hp hv
  rw [List.getElem?_map] at hp hv
  cases hx:args[i]? with
  |none=>rw [hx] at hp;cases hp
  |some x=>
   rw [hx] at hp hv
   simp only [Option.map_some,Option.some.injEq] at hp hv
   subst hp;subst hv
   exact Au4 h (h.opd x)
 ·rintro e w' ⟨v,rfl,hv,hb⟩
  have hv':B1 w' M β w0.old r v:=by
   exact hv.up
  exact hK _ _ _ _ ((h.world hb).dput o.dst r.view v hd hv'.view (X4 _))
theorem Af4(h:SR cx w0 N nt st a w M β)(hd:∀x,o.dst=some x→x < nt)(f:Nat)(args:List PV)(vs:List Value)(hrun:(execOp a.eval o).run P w= .ok (.enter f vs.toArray) w)
  (hl:vs.length=args.length) (hr:∀(i:Nat) (p:PV) (v:Value),args[i]? =some p→vs[i]? =some v→B1 w M β w0.old p v) (r:PV) (o':List (Nat×List PV))
  (hI:L3 P f args st.ob r o'):Ja cx P w0 N nt st a w o ⟨(dput o.dst r).s,o'⟩:=by
 intro K Q hK
 unfold Oper.wp
 rw [hrun]
 refine Calls.mono (hI (hold cx st a) w0 w N M β st.obj _ vs (fun _=>rfl) (fun _=>rfl) h.sh hl hr) ?_
 rintro e w' ⟨v,M',β',rfl,hS⟩
 show K (a.put o.dst v) w'
 cases hdst:o.dst with
 |some d=>
  rw [hdst] at hK
  exact hK _ _ _ _ (SR.of_cons h.defs h.nt (hd d hdst) (st0:=st) hS (fun s=>C2 _ _ _ _ _) (fun _=>Aml _ _ _) (fun z hz=>by rw [←Arl];exact hz))
 |none=>
  rw [hdst] at hK
  refine hK _ _ M' β' ⟨h.defs,h.nt,?_⟩
  have e1:(st.app ⟨(dput none r).s,o'⟩).obj=Db [] (o'++st.ob):=funext fun z=>Aml _ _ _
  have e2:(fun d=>A9 d ((st.app ⟨(dput none r).s,o'⟩).ob.map Prod.fst))=fun d=>A9 d ((o'++st.ob).map Prod.fst):=funext fun z=>Arl _ _ _
  rw [e1,e2]
  exact hS.hold (fun k=>hS.reg (some k)) (fun k=>some (some k)) (fun k s h1 h2=>⟨some k,rfl,h1,rfl⟩) (fun k k' j h1 h2=>by injection h1 with h1;injection h2 with h2;rw [←h1] at h2;injection h2 with h2;exact h2.symm)
theorem L3.frame{f:Nat}{args:List PV}{ob:List (Nat×List PV)}{r:PV}(h:L3 P f args [] r [])(hf:r.flat=true)(ha:∀p∈args,p.flat=true):L3 P f args ob r []:=by
 intro κ H w0 w N M β O D vs hO hD hS hl hr
 have h0:SH (fun(e:Empty)=>(e.elim:PV×Value)) (E9.all w) M (fun _=> []) (fun _=>true) w M (fun _=>none):=
  ⟨Bel.of w _ rfl,⟨fun _ _=>rfl,hS.mN.gl.all hS.bel hS.mN.eq⟩,hS.mlt,(fun d b n h=>by cases h),(fun d d' b n n' h=>by cases h),fun _ _=>rfl,fun k=>k.elim,
   (fun key s v ho=>by cases key with|slot k=>exact k.elim|cell d i=>obtain ⟨b,n,p,h,_⟩:=ho;cases h),
   (fun key key' s s' v v' g ho=>by cases key with|slot k=>exact k.elim|cell d i=>obtain ⟨b,n,p,h,_⟩:=ho;cases h),
   (fun key s v g d n ho=>by cases key with|slot k=>exact k.elim|cell d i=>obtain ⟨b,n,p,h,_⟩:=ho;cases h)⟩
 refine Calls.mono (h _ (E9.all w) w M M (fun _=>none) (fun _=> []) (fun _=>true) vs (fun d=>rfl) (fun d=>rfl) h0 hl (fun i p v hp hv=>(hr i p v hp hv).flat (ha p (List.mem_of_getElem? hp)))) ?_
 rintro e w' ⟨v,M',β',rfl,S1⟩
 have hb:Below w.heap.size w w':=S1.bel.below
 have hMM:∀b,b < w.heap.size→M' b=M b:=fun b hb=>S1.mN.eq b hb
 have hE:Ext w M w' M':=fun x u hi hv=>⟨fun n hn=>hi n (by rw [←hMM _ (l5 hv)];exact hn),by rw [hb.cell (l5 hv)];exact hv⟩
 have hR:∀p v,B1 w M β w0.old p v→B1 w' M' β w0.old p v:=fun p v hr=>hr.ext hE (fun x hx=>hb.cell (hS.bel.lt hx)) (fun _ _ h=>h)
 have hOw:∀key s v,X5 H O w' β key s v→X5 H O w β key s v:=by
  intro key s v ho
  cases key with
  |slot k=>exact ho
  |cell d i=>
   obtain ⟨b,n,p,h1,h2,h3,h4,h5⟩:=ho
   have hbl:=hS.mlt b 0 (hS.box d b n h1).2.1
   exact ⟨b,n,p,h1,h2,h3,h4,by rw [←hb.cell (p:=⟨b,i,none⟩) hbl];exact h5⟩
 have htl:∀key s v,X5 H O w β key s v→∀g,tb v=some g→g < w.heap.size:=fun key s v ho g hg=>by
  obtain ⟨_,k,hk⟩:=(hS.tok key s v ho).lt hg
  exact hS.mlt g k hk
 have SW:SH H w0 N O D w' M' β :=by
  refine ⟨hS.bel.later hb,⟨fun b hb=>(hMM b (hS.bel.lt hb)).trans (hS.mN b hb),hS.mN.gl⟩,S1.mlt,?_,hS.inj,hS.dom,fun k=>hR _ _ (hS.reg k),?_,?_,?_⟩
  ·intro d b n hd
   obtain ⟨h1,h2,h3⟩:=hS.box d b n hd
   have hbl:=hS.mlt b 0 h2
   exact ⟨h1,(hMM b hbl).trans h2,h3.ext (hb.block b hbl) hR⟩
  ·intro key s v ho
   have ht:=hS.tok key s v (hOw _ _ _ ho)
   exact ht.ext (fun g hg=>⟨hb.block g (htl _ _ _ (hOw _ _ _ ho) g hg),hMM g (htl _ _ _ (hOw _ _ _ ho) g hg)⟩)
  ·intro key key' s s' v v' g ho ho';exact hS.tokne key key' s s' v v' g (hOw _ _ _ ho) (hOw _ _ _ ho')
  ·intro key s v g d n ho;exact hS.tokbox key s v g d n (hOw _ _ _ ho)
 have hrv:B1 w' M' β w0.old r v:=B1.flat (S1.reg none) hf
 have e1:O=Db [] ([]++ob):=funext hO
 have e2:D=fun d=>A9 d (([]++ob).map Prod.fst):=funext hD
 refine ⟨v,M',β,rfl,?_⟩
 rw [←e1,←e2]
 have new:∀(s:SV) g,r.sv=some s→s.own=true→tb v=some g→w.heap.size≤g:=fun s g h1 h2 hg=>by
  have ht:=S1.tok (.slot none) s v ⟨h1,h2,rfl⟩
  rcases ht with ⟨a,rfl,_⟩|⟨g',c,cur,rfl,t2,_⟩
  ·cases a<;>cases hg
  ·have:g'=g:=by simpa [tb] using hg
   subst this
   exact Nat.le_of_not_lt t2
 refine SW.cons r v hrv (fun s h1 h2=>⟨?_,fun key s' v' g ho hg hg'=> ?_,fun g d n hg hd=> ?_⟩)
 ·have ht:=S1.tok (.slot none) s v ⟨h1,h2,rfl⟩
  rcases ht with ht|⟨g,c,cur,t1,t2,t3,t4,t5⟩
  ·exact .inl ht
  ·exact .inr ⟨g,c,cur,t1,fun hg=>t2 (hS.bel.lt hg),t3,t4,t5⟩
 ·have:=new s g h1 h2 hg
  have:=htl key s' v' (hOw _ _ _ ho) g hg'
  omega
 ·have:=new s g h1 h2 hg
  have:=hS.mlt g 0 (hS.box d g n hd).2.1
  omega
theorem Ag1:∀ {args:List Operand},T9 st args=true→∀p∈args.map (fun x=>(st.opd x).view),p.flat=true
 | [],_,p,hp=>by cases hp
 |x::r,h,p,hp=>by
  simp only [T9] at h
  split at h
  ·rename_i hx
   rw [List.map_cons] at hp
   rcases List.mem_cons.1 hp with e|e
   ·subst e;exact hx
   ·exact Ag1 h p e
  ·cases h
theorem Agw(h:SR cx w0 N nt st a w M β)(args:List Operand):∀(i:Nat) (p:PV) (v:Value),(args.map fun x=>(st.opd x).view)[i]? =some p→(args.map a.eval)[i]? =some v→B1 w M β w0.old p v:=by
 intro i p v hp hv
 rw [List.getElem?_map] at hp hv
 cases hx:args[i]? with
 |none=>rw [hx] at hp;cases hp
 |some x=>
  rw [hx] at hp hv
  simp only [Option.map_some,Option.some.injEq] at hp hv
  subst hp;subst hv
  exact (h.opd x).view
theorem Bfb{B:Nat→Prop}{f n:Nat}{caps:List PV}{v:Value}(h:B1 w M β B (.clo f n caps) v):∃cs:List Value,v= .func (.func f) (cs.take n).toArray (cs.drop n).toArray∧caps.length=cs.length∧∀(i:Nat) (p:PV) (v:Value),caps[i]? =some p→cs[i]? =some v→B1 w M β B p v:=by
 cases h with
 |row p s hs=>cases hs
 |clo f n l cs hl hr=>exact ⟨cs,rfl,hl,hr⟩
def A86(x y:List PV):Prop:=x.length=y.length∧∀(j:Nat) (q:PV),y[j]? =some q→∃p,x[j]? =some p∧(q=p∨PV.Le p q)
theorem A86.of_le{x y:List PV}(h:Tn x y):A86 x y:=⟨h.get.1,fun j q hq=>let ⟨p,h1,h2⟩:=h.get.2 j q hq;⟨p,h1,.inr h2⟩⟩
theorem Ank(h:SR cx w0 N nt st a w M β)(hd:∀x,o.dst=some x→x < nt){inl:Nat→Bool}{once:Nat}(hs:Bb P (Gn P) (Gf P) ban (cOp P inl once o) o.dst st (fun δ'=> δ'= δ)):Ja cx P w0 N nt st a w o δ :=by
 obtain ⟨dst,op,type,pos,after,guard⟩:=o
 have nilmv:∀(x:Operand) (op:Op),(∀w,(execOp a.eval ⟨dst,op,type,pos,after,guard⟩).run P w= .ok (.value (a.eval x)) w)→∀e,Awu x=true→Bb P (Gn P) (Gf P) ban (.nilsl e) dst st (fun δ'=> δ'= δ)→
   Ja cx P w0 N nt st a w ⟨dst,op,type,pos,after,guard⟩ δ :=by
  intro x op hrun e hx hs
  have hv:a.eval x= .slice none 0 0:=by
   unfold Awu at hx
   split at hx
   ·rfl
   ·cases hx
  simp only [Bb,Az] at hs
  cases dst with
  |none=>exact hs.elim
  |some d=>
   cases hy:LX.nil e with
   |none=>rw [hy] at hs;exact hs.elim
   |some y=>rw [hy] at hs;exact (Ax3 (P:=P) (o:=⟨some d,op,type,pos,after,guard⟩) h hd e y d rfl hy (by rw [hrun,hv])).of_eq hs
 have nilk:∀(x:Operand) (op:Op) (k:K),(∀w,(execOp a.eval ⟨dst,op,type,pos,after,guard⟩).run P w= .ok (.value (a.eval x)) w)→(Bb P (Gn P) (Gf P) ban k dst st (fun δ'=> δ'= δ)→Ja cx P w0 N nt st a w ⟨dst,op,type,pos,after,guard⟩ δ)→
   Bb P (Gn P) (Gf P) ban (A3g P x type k) dst st (fun δ'=> δ'= δ)→Ja cx P w0 N nt st a w ⟨dst,op,type,pos,after,guard⟩ δ :=by
  intro x op k hrun hk hs
  unfold A3g at hs
  split at hs
  ·rename_i e hx _
   exact nilmv x _ hrun e hx hs
  ·exact hk hs
 cases op with
 |move x=>
  refine nilk x _ (Ao6 P once type dst x) (fun _=>rfl) (fun hs=> ?_) hs
  have tk:(∃s d,x= .tmp s∧dst=some d∧Ao6 P once type dst x= .take s)∨Ao6 P once type dst x= .move x:=by
   unfold Ao6
   cases m0 P type with
   |false=>exact .inr rfl
   |true=>
    cases x with
    |tmp s=>
     cases dst with
     |none=>exact .inr rfl
     |some d=>
      cases hb:mvB once d with
      |true=>exact .inl ⟨s,d,rfl,rfl,by simp only [hb]⟩
      |false=>exact .inr (by simp only [hb])
    |_=>exact .inr rfl
  rcases tk with ⟨s,d,rfl,rfl,e⟩|e
  ·rw [e] at hs
   exact (Aju h hd s d rfl (fun _=>rfl)).of_eq hs
  ·rw [e] at hs
   exact (Apo h hd x (fun _=>rfl)).of_eq hs
 |assign x=>
  refine nilk x _ (Aps P type x) (fun _=>rfl) (fun hs=> ?_) hs
  have tk:(∃s,x= .tmp s∧Aps P type x= .take s)∨Aps P type x= .move x:=by
   unfold Aps
   cases m0 P type with
   |false=>exact .inr rfl
   |true=>cases x<;>first|exact .inl ⟨_,rfl,rfl⟩|exact .inr rfl
  rcases tk with ⟨s,rfl,e⟩|e
  ·rw [e] at hs
   simp only [Bb,Az] at hs
   cases dst with
   |none=>exact hs.elim
   |some d=>exact (Aju h hd s d rfl (fun _=>rfl)).of_eq hs
  ·rw [e] at hs
   exact (Apo h hd x (fun _=>rfl)).of_eq hs
 |pick c x y=>
  simp only [cOp,Bb,Az] at hs
  have hcr:=h.opd c
  split at hs
  ·rename_i t hq
   rw [hq] at hcr
   have hv:a.eval c= .bool t:=hcr.val_eq
   have hrun:∀w,(execOp a.eval ⟨dst,.pick c x y,type,pos,after,guard⟩).run P w= .ok (.value (if t then a.eval x else a.eval y)) w:=by
    intro w
    simp only [execOp,hv,asBool,Sem.run_bind,Sem.run_pure,Result.andThen_ok]
   cases t with
   |true=>exact (D4 h hd _ _ w (Below.refl _ _) (hrun w) (h.opd x).view (X4 _)).of_eq hs
   |false=>exact (D4 h hd _ _ w (Below.refl _ _) (hrun w) (h.opd y).view (X4 _)).of_eq hs
  ·exact hs.elim
 |alloc t=>
  simp only [cOp] at hs
  split at hs
  ·rename_i z hz
   simp only [Bb,Az] at hs
   cases dst with
   |none=>exact hs.elim
   |some d=>
    simp only at hs
    split at hs
    ·rename_i g1
     obtain ⟨i,z0,hi,hz0,hl0,hr0⟩:=Aa8 (w:=w) (M:=M) (β := β) (B:=w0.old) hz
     refine (Ani h hd d (st.base+d) rfl z z0.cells t g1 ⟨hl0,fun i p v hp hv=>⟨(hr0 i p v hp hv).1,(hr0 i p v hp hv).2.1⟩⟩ (fun i p s v hp hs ho hv=>(hr0 i p v hp hv).2.2 s hs ho) ?_).of_eq hs
     simp only [execOp,Instr.alloc,zeroValue,typeInfo,newVar,newRow,newObj,Sem.run_bind,Sem.run_pure,Result.andThen_ok,run_program,hi,hz0]
     simp [Sem.run]
    ·exact hs.elim
  ·exact hs.elim
 |box t x=>
  simp only [cOp,Bb,Az] at hs
  cases dst with
  |none=>exact hs.elim
  |some d=>
   simp only at hs
   split at hs
   ·rename_i g1 g2
    obtain ⟨c1,c2⟩:=Vn (h.opd x) g2
    refine (Ani h hd d (st.base+d) rfl _ (a.eval x).cells t g1 ⟨by rw [←c1];simp,fun i p v hp hv=>c2 i p v hp (by rw [Array.getElem?_toList];exact hv)⟩ (fun i p s v hp hs ho hv=> ?_) ?_).of_eq hs
    ·obtain ⟨p',_,rfl⟩:=Gv hp
     rw [Om hs] at ho;cases ho
    ·simp only [execOp,Instr.box,newVar,newRow,newObj,Sem.run_bind,Sem.run_pure,Result.andThen_ok]
     rfl
   ·exact hs.elim
 |build t parts=>
  simp only [cOp] at hs
  split at hs
  ·rename_i z fs hz hf
   split at hs
   ·rename_i qs hp
    simp only [Bb,Az] at hs
    obtain ⟨i,z0,hi,hz0,hl0,hr0⟩:=A4a (w:=w) (M:=M) (β := β) (B:=w0.old) hz
    obtain ⟨l',cs',r1,r2,r3,r4⟩:=Awj h fs parts.toList qs (z.map PV.view) z0.cells _ hp ⟨by rw [List.length_map,hl0],fun i p v hp hv=>by
     obtain ⟨p',hp',rfl⟩:=Gv hp
     exact ⟨(hr0 i p' v hp' hv).1.view,(hr0 i p' v hp' hv).2.1⟩⟩ hs
    have hbuilt:P.built t (parts.map fun p=>(p.1,a.eval p.2)).toList=some cs':=by
     unfold Program.built
     unfold Azc at hf
     cases hu:P.underlying t with
     |none=>rw [hu] at hf;cases hf
     |some d=>
      rw [hu] at hf
      cases d with
      |struct fields=>
       simp only at hf
       simp only [hi,hz0,hf]
       simpa using r1
      |array n e=>
       simp only at hf
       cases hie:P.info? e with
       |none=>rw [hie] at hf;cases hf
       |some ie=>
        rw [hie] at hf
        simp only [Option.map_some,Option.some.injEq] at hf
        subst hf
        simp only [hi,hz0,hie]
        refine Aoy (fun j x hj=> ?_) _ _ _ (by simpa using r1)
        cases hjr:(List.range n)[j]? with
        |none=>rw [hjr] at hj;cases hj
        |some j'=>
         rw [hjr] at hj
         rw [List.getElem?_range (by have:=(List.getElem?_eq_some_iff.1 hjr).1;simpa using this)] at hjr
         injection hjr with hjr
         subst hjr
         exact hj
      |_=>cases hf
    refine (D4 (v:= .agg cs') h hd (.agg l') w (Below.refl _ _) ?_ ?_ (Ju rfl)).of_eq r4
    ·have:=run_build w t _ cs' hbuilt
     simp only [execOp,Sem.run_bind,Sem.run_pure,Result.andThen_ok]
     rw [this]
     rfl
    ·have:B1 w M β w0.old (.agg l') (.agg cs'.toList.toArray):=by
      refine .agg l' cs'.toList (by simpa using r2.1) (fun v hv=> ?_) (fun i p v hp hv=>(r2.2 i p v hp (by rw [←Array.getElem?_toList];exact hv)).1)
      obtain ⟨j,hj,rfl⟩:=List.getElem_of_mem hv
      have hj':j < l'.length:=by rw [r2.1];simpa using hj
      exact (r2.2 j _ _ (List.getElem?_eq_getElem hj') (by rw [←Array.getElem?_toList];exact List.getElem?_eq_getElem hj)).2
     simpa using this
   ·exact hs.elim
  ·exact hs.elim
 |buildSlice t n parts=>
  simp only [cOp] at hs
  cases hu:P.underlying t with
  |none=>rw [hu] at hs;exact hs.elim
  |some d=>
   rw [hu] at hs
   cases d with
   |slice e=>
    simp only at hs
    cases g1:szT P e with
    |none=>rw [g1] at hs;exact hs.elim
    |some sz=>
     cases g2:Ah6 P e with
     |none=>rw [g1,g2] at hs;exact hs.elim
     |some z=>
      cases g3:Adf 0 parts.toList with
      |none=>rw [g1,g2,g3] at hs;exact hs.elim
      |some xs=>
       rw [g1,g2,g3] at hs
       simp only at hs
       cases b1:Nat.beq xs.length n<;>cases b2:Nat.ble (n*sz) 16777216<;>cases b3:Nat.beq z.length sz<;>cases b4:Nat.ble 1 sz<;>simp only [b1,b2,b3,b4] at hs<;>try exact hs.elim
       have e1:=Ck b1
       have e2:n*sz≤16777216:=Nat.le_of_ble_eq_true b2
       have e3:=Ck b3
       have e4:1≤sz:=Nat.le_of_ble_eq_true b4
       simp only [Bb,Az] at hs
       obtain ⟨i,hi,his⟩:=Ad2 g1
       unfold Ah6 at g2
       cases hzz:i.zero with
       |none=>simp [hi,hzz] at g2
       |some zv=>
        simp [hi,hzz] at g2
        have hzs:zv.cells.size=sz:=by rw [←e3,←g2];simp
        obtain ⟨es,cs',r1,r2,r3,r4,r5,r6,r7⟩:=As8 h sz parts.toList 0 xs _ ((Array.range (n*sz)).map (zv.cells[· % zv.cells.size]!)) g3 hs (by simp;rw [←e1];exact Nat.le_refl _)
        have hlen:es.length=n:=by rw [r3,e1]
        obtain ⟨hE,hS,hRR,hb1,hn1⟩:=h.sh.rowNew cs' e (es.length*sz)
        have hh:(w.alloc (.cells cs' e)).heap[w.heap.size]? =some (.cells cs' e (0,0)):=heap_alloc_new w _
        have hsize:cs'.size=n*sz:=by rw [r2];simp
        have hrun:(execOp a.eval ⟨dst,.buildSlice t n parts,type,pos,after,guard⟩).run P w= .ok (.value (.slice (some ⟨w.heap.size,0,none⟩) n n)) (w.alloc (.cells cs' e)):=by
         by_cases hz0:n*i.size=0
         ·have hn0:n=0:=by
           rcases Nat.mul_eq_zero.1 hz0 with h0|h0
           ·exact h0
           ·omega
          subst hn0
          have hpn:parts.toList= []:=by
           have hx0:xs= []:=List.eq_nil_of_length_eq_zero e1
           subst hx0
           cases hp:parts.toList with
           |nil=>rfl
           |cons q r=>
            obtain ⟨j,y⟩:=q
            rw [hp] at g3
            simp only [Adf] at g3
            split at g3
            ·injection g3 with g3;cases g3
            ·cases g3
          have hpa:parts= #[]:=by apply Array.ext';simpa using hpn
          have hcs:cs'= #[]:=Array.eq_empty_of_size_eq_zero (by rw [hsize];simp)
          subst hpa;subst hcs
          have hr0:Array.map (fun(_:Nat)=>(default:Value)) (Array.range 0)= #[]:=Array.eq_empty_of_size_eq_zero (by simp)
          simp [execOp,Instr.buildSlice,run_underlying hu,sizeOf,typeInfo,hi,Instr.fill,newRow,newObj,Sem.run]
          rw [hr0]
         ·have:=run_buildSlice (P:=P) w t e n (parts.map fun p=>(p.1,a.eval p.2)) cs' i zv hu hi hzz (by rw [his];omega) hz0 (by rw [his];simpa using r1)
          simp only [execOp,Sem.run_bind,Sem.run_pure,Result.andThen_ok]
          rw [this]
          rfl
        have hle:w0.w.heap.size≤w.heap.size:=h.sh.bel.size
        have hmax:n≤maxLen:=by
         have:n≤n*sz:=Nat.le_mul_of_pos_right _ (by omega)
         simp only [maxLen];omega
        have fin:∀(p:PV) (s:SV),p.sv=some s→s.e=e→s.sz=sz→s.n=n→(∀(i:Nat) (x:List PV),es[i]? =some x→A86 x (s.f i))→dput dst p= δ→Ja cx P w0 N nt st a w ⟨dst,.buildSlice t n parts,type,pos,after,guard⟩ δ :=by
         intro p s hp hse hss hsn hrow hδ
         subst hδ
         have hget:∀i,i < n→∃x,es[i]? =some x:=fun i hi=>⟨_,List.getElem?_eq_getElem (by omega)⟩
         have hrel:B1 (w.alloc (.cells cs' e)) (fun b=>if b=w.heap.size then some (es.length*sz) else M b) β w0.old p (.slice (some ⟨w.heap.size,0,none⟩) n n):=
          Y5 hp hsn.symm hh (Nat.le_refl _) (fun i hi=>by
            obtain ⟨x,hx⟩:=hget i hi
            rw [←(hrow i x hx).1,hss];exact r5 i x hx)
           (fun j hj m hm=>by
            simp only [if_true] at hm;injection hm with hm
            show j < m
            rw [hss] at hj;rw [←hm,hlen];exact hj)
           (fun i j q hi hq=>by
            obtain ⟨x,hx⟩:=hget i hi
            obtain ⟨p0,hp0,hle'⟩:=(hrow i x hx).2 j q hq
            obtain ⟨v,q1,q2,q3⟩:=r6 i x j p0 hx hp0
            rw [hss]
            refine ⟨v,by simpa using q1,?_,q3⟩
            rcases hle' with rfl|hle'
            ·exact hRR _ _ q2
            ·exact (hRR _ _ q2).le hle')
         cases dst with
         |none=>
          intro K Q hK
          exact On hrun (hK _ _ _ _ ⟨h.defs,h.nt,hS⟩)
         |some d=>
          refine Mp h hd rfl (st0:=st) (hS.cons p _ hrel (fun s' h1 h2=> ?_)) hrun (fun s=>J1 st d s _) (fun _=>rfl) (fun _ h=>h)
          rw [hp] at h1;injection h1 with h1;subst h1
          cases n with
          |zero=>exact ⟨.inl ⟨_,rfl,hsn⟩,fun key s' v' g _ hg=>absurd hg Ik,fun g d n hg=>absurd hg Ik⟩
          |succ n=>
           refine ⟨.inr ⟨w.heap.size,n,cs',by rw [hsn],h.sh.bel.new,by simp [hsn,hss,hlen],by rw [hse];exact hh,by omega,hmax,by rw [hss];exact hsize⟩,fun key s' v' g ho' hg=> ?_,fun g d n hg=> ?_⟩
           ·have:w.heap.size=g:=by simpa [tb] using hg
            rw [←this];exact (hn1 key s' v' ho').2
           ·have:w.heap.size=g:=by simpa [tb] using hg
            rw [←this];exact hb1 d _
        cases hlit:LX.lit e es with
        |some x=>
         rw [hlit] at r7
         simp only at r7
         obtain ⟨l1,l2,l3⟩:=LX.lit_spec e es x hlit
         cases b5:Nat.beq x.sz sz with
         |false=>rw [b5] at r7;exact r7.elim
         |true=>
          rw [b5] at r7
          exact fin (.lst true x) ⟨true,x.e,x.sz,x.len,x.row⟩ rfl l1 (Ck b5) (by show x.len=n;rw [l2,hlen]) (fun i r hr=> .of_le (l3 i r hr)) r7
        |none=>
         rw [hlit] at r7
         refine fin (.sl true e sz es) ⟨true,e,sz,es.length,fun i=>es.getD i []⟩ rfl rfl rfl hlen (fun i x hx=> ?_) r7
         have:es.getD i []=x:=by simp [List.getD,hx]
         show A86 x (es.getD i [])
         rw [this]
         exact ⟨rfl,fun j q hq=>⟨q,hq,.inl rfl⟩⟩
   |_=>exact hs.elim
 |load t x=>
  simp only [cOp] at hs
  cases hu:P.underlying t with
  |none=>rw [hu] at hs;exact hs.elim
  |some d=>
   cases hsz:szT P t with
   |none=>rw [hu,hsz] at hs;exact hs.elim
   |some sz=>
    rw [hu,hsz] at hs
    simp only at hs
    have key:∀(g:Bool),g=Gq P t→(Gq P t=false→sz=1)→Bb P (Gn P) (Gf P) ban (.load g sz x) dst st (fun δ'=> δ'= δ)→Ja cx P w0 N nt st a w ⟨dst,.load t x,type,pos,after,guard⟩ δ :=by
     intro g hg hsz1 hs
     subst hg
     have hxr:=h.opd x
     simp only [Bb,Az] at hs
     split at hs
     ·rename_i b off hq
      rw [hq] at hxr
      split at hs
      ·rename_i g1 g2 g3
       obtain ⟨bb,n,hb,hv⟩:=u6 hxr
       rw [A39] at g3 hs
       rw [Aur] at g3
       exact (Ajt h hd t sz x d rfl hu hsz hsz1 _ _ hv (h.cellsAt hb (fun i p hp=>u4 hp) g3).views (by have:=(Qx _ _).1 g2;simp [St.vobj] at this;simp;omega)).of_eq hs
      ·exact hs.elim
     ·rename_i l hq
      rw [hq] at hxr
      split at hs
      ·rename_i g2
       obtain ⟨ad,hv,hcell⟩:=Adw hxr
       exact (Ajt h hd t sz x d rfl hu hsz hsz1 _ _ hv (hcell.take sz) (by rw [List.length_take];have:=(Qx _ _).1 g2;omega)).of_eq hs
      ·exact hs.elim
     ·rename_i b sz' i off hq
      rw [hq] at hxr
      split at hs
      ·rename_i y g1 g3
       have g3:=A8q g3
       split at hs
       ·rename_i g4 g5
        have e:=Ck g4
        subst e
        obtain ⟨bb,n,hb,hin,hv⟩:=Ay9 hxr
        exact (Ajt h hd t sz x d rfl hu hsz hsz1 _ _ hv ((Awb h hb hin g3).take sz) (by rw [List.length_take];have:=(Qx _ _).1 g5;omega)).of_eq hs
       ·exact hs.elim
      ·exact hs.elim
     ·exact hs.elim
    have key2:(Gq P t=false∧sz=1)→∀dd,dst=some dd→Bb P (Gn P) (Gf P) ban (.loadT x) dst st (fun δ'=> δ'= δ)→Ja cx P w0 N nt st a w ⟨dst,.load t x,type,pos,after,guard⟩ δ :=by
     rintro ⟨hg,rfl⟩ dd hdd hs
     subst hdd
     simp only [Bb,Az] at hs
     cases hq:st.opd x with
     |loc b off=>
      rw [hq] at hs
      simp only at hs
      split at hs
      ·rename_i g1 g2
       simp only [Bool.and_eq_true] at g2
       exact (Axz h hd dd rfl x t b off d rfl hu hsz hg hq g2.1 g2.2).of_eq hs
      ·exact hs.elim
     |_=>rw [hq] at hs;exact hs.elim
    have slagg:m0 P t=true→Gq P t=false:=by
     intro h1
     unfold m0 at h1
     unfold Gq
     rw [hu] at h1 ⊢
     cases d<;>simp at h1 ⊢
    have sub:∀(g:Bool),g=Gq P t→(Gq P t=false→sz=1)→Bb P (Gn P) (Gf P) ban (Auf P once t dst g sz x) dst st (fun δ'=> δ'= δ)→Ja cx P w0 N nt st a w ⟨dst,.load t x,type,pos,after,guard⟩ δ :=by
     intro g hg hsz1 hs
     unfold Auf at hs
     split at hs
     ·rename_i dd hsl _
      split at hs
      ·exact key2 ⟨slagg hsl,hsz1 (slagg hsl)⟩ dd rfl hs
      ·exact key g hg hsz1 hs
     ·exact key g hg hsz1 hs
    cases g1:Gq P t with
    |false=>
     cases g2:Nat.beq sz 1 with
     |false=>rw [g1,g2] at hs;exact hs.elim
     |true=>rw [g1,g2] at hs;exact sub false g1.symm (fun _=>Ck g2) hs
    |true=>rw [g1] at hs;exact sub true g1.symm (fun e=>by rw [g1] at e;cases e) hs
 |store t ad x=>
  simp only [cOp] at hs
  cases hdst:dst with
  |some d=>rw [hdst] at hs;exact hs.elim
  |none=>
   subst hdst
   cases hsz:szT P t with
   |none=>rw [hsz] at hs;exact hs.elim
   |some sz=>
    rw [hsz] at hs
    simp only at hs
    have key:Bb P (Gn P) (Gf P) ban (.store sz ad x) none st (fun δ'=> δ'= δ)→Ja cx P w0 N nt st a w ⟨none,.store t ad x,type,pos,after,guard⟩ δ :=by
     intro hs
     simp only [Bb,Az] at hs
     cases hq:st.opd ad with
     |loc b off=>
      rw [hq] at hs
      simp only at hs
      split at hs
      ·rename_i g1 g2 g3
       simp only [Bool.and_eq_true] at g3
       obtain ⟨w',hrun,hS⟩:=Avb (o:=⟨none,.store t ad x,type,pos,after,guard⟩) h ad x t sz b off rfl hsz hq g1 g2 g3.1 g3.2
       exact (Ahy rfl hrun hS).of_eq hs
      ·exact hs.elim
     |el b sz' i off=>
      rw [hq] at hs
      simp only at hs
      split at hs
      ·rename_i y g1 g2 g3
       split at hs
       ·rename_i y' g4 g5
        have e:=Ck g4
        subst e
        obtain ⟨w',hrun,hS⟩:=Ah2 (o:=⟨none,.store t ad x,type,pos,after,guard⟩) h ad x t sz b i off y y' _ rfl hsz hq rfl g1 g2 g3 g5
        exact (Ahy rfl hrun hS).of_eq hs
       ·exact hs.elim
      ·exact hs.elim
     |_=>rw [hq] at hs;exact hs.elim
    unfold Ax4 at hs
    split at hs
    ·rename_i s hsl
     split at hs
     ·rename_i g1 g2
      have e:=Ck g2
      subst e
      simp only [Bb,Az] at hs
      cases hq:st.opd ad with
      |loc b off=>
       rw [hq] at hs
       simp only at hs
       split at hs
       ·rename_i q1 q2
        simp only [Bool.and_eq_true] at q2
        exact (Avc h ad s t b off rfl hsz hq q1 q2.1 q2.2 rfl).of_eq hs
       ·exact hs.elim
      |el b sz' i off=>
       rw [hq] at hs
       simp only at hs
       split at hs
       ·rename_i y q1 q2
        split at hs
        ·rename_i y' q3 q4
         have e:=Ck q3
         subst e
         have hc:(st.opd (.tmp s)).cells= [st.get s]:=Ao9 q1
         obtain ⟨w',hrun,hS⟩:=Ah2 (o:=⟨none,.store t ad (.tmp s),type,pos,after,guard⟩) h ad (.tmp s) t 1 b i off y y' [(st.get s).view] rfl hsz hq (by rw [hc];rfl) (by rw [hc];rfl) (by rw [hc];simp only [Xv];rw [q1]) q2 q4
         exact (Ahy (δ :=⟨[(s,(st.get s).view)],[(b,[.arrO y'])]⟩) rfl hrun (hS.drop s)).of_eq hs
        ·exact hs.elim
       ·exact hs.elim
      |_=>rw [hq] at hs;exact hs.elim
     ·exact key hs
    ·exact key hs
 |nilCheck x=>
  simp only [cOp,Bb,Az] at hs
  have hxr:=h.opd x
  split at hs
  ·rename_i b off hq
   rw [hq] at hxr
   obtain ⟨bb,n,hb,hv⟩:=u6 hxr
   exact (D4 h hd _ _ w (Below.refl _ _) (by simp only [execOp,hv];rfl) (.loc b off bb n hb) (Ju rfl)).of_eq hs
  ·rename_i l hq
   rw [hq] at hxr
   obtain ⟨ad,hv,_⟩:=Adw hxr
   rw [hv] at hxr
   exact (D4 h hd _ _ w (Below.refl _ _) (by simp only [execOp,hv];rfl) hxr (Ju rfl)).of_eq hs
  ·rename_i b sz i off hq
   rw [hq] at hxr
   obtain ⟨bb,n,hb,hin,hv⟩:=Ay9 hxr
   exact (D4 h hd _ _ w (Below.refl _ _) (by simp only [execOp,hv];rfl) (.el b sz i off bb n hb hin) (Ju rfl)).of_eq hs
  ·exact hs.elim
 |binOp b t x y t'=>
  simp only [cOp] at hs
  cases hag:Gq P t with
  |false=>
   rw [hag] at hs
   simp only at hs
   split at hs
   ·refine P1 h hd hs fun u v r hu hv hb w=> ?_
    simp only [execOp,hu,hv,Sem.run_bind]
    rw [A2p t' hb];rfl
   ·refine P1 h hd hs fun u v r hu hv hb w=> ?_
    simp only [execOp,hu,hv,Sem.run_bind]
    rw [A2q t' hb];rfl
   ·refine P1 h hd hs fun u v r hu hv hb w=> ?_
    simp only [execOp,hu,hv,Sem.run_bind]
    rw [A2r t' hb];rfl
   ·refine P1 h hd hs fun u v r hu hv hb w=> ?_
    simp only [execOp,hu,hv,Sem.run_bind]
    rw [A2s t' hb];rfl
   ·refine P1 h hd hs fun u v r hu hv hb w=> ?_
    simp only [execOp,hu,hv,Sem.run_bind]
    rw [A2t t' hb];rfl
   ·rename_i hty
    refine P1 h hd hs (fun u v r hu hv hb w=> ?_) fun ad n c hx hy _ w=> ?_
    ·unfold bin2 at hb
     cases u<;>cases v<;>cases hb
    ·have e1:=Aot (P:=P) (ad:=ad) (n:=n) (c:=c) w hty
     simp only [execOp,hx,hy,Sem.run_bind,eqGuard,binOp,Bool.not_true,Bool.false_eq_true,if_false,ite_self,e1,Sem.run_pure,Result.andThen_ok]
     rfl
   ·rename_i hty
    refine P1 h hd hs (fun u v r hu hv hb w=> ?_) fun ad n c hx hy _ w=> ?_
    ·unfold bin2 at hb
     cases u<;>cases v<;>cases hb
    ·have e1:=Aot (P:=P) (ad:=ad) (n:=n) (c:=c) w hty
     simp only [execOp,hx,hy,Sem.run_bind,eqGuard,binOp,Bool.not_true,Bool.false_eq_true,if_false,ite_self,e1,Sem.run_pure,Result.andThen_ok]
     rfl
   ·exact Wu h hd (fun cs b e=>by cases e) hs
  |true=>
   rw [hag] at hs
   simp only at hs
   split at hs
   ·rename_i ts hts
    exact Aos h hd (.inl ⟨rfl,rfl⟩) hts rfl hs
   ·rename_i ts hts
    exact Aos h hd (.inr ⟨rfl,rfl⟩) hts rfl hs
   ·exact hs.elim
 |unOp b t x=>exact Wu h hd (fun cs b e=>by cases e) hs
 |convert b t x=>exact Wu h hd (fun cs b e=>by cases e) hs
 |index t x i=>
  simp only [cOp] at hs
  split at hs
  ·rename_i hty
   refine P1 h hd hs fun u v r hu hv hb w=> ?_
   simp only [execOp,hu,hv,Sem.run_bind]
   rw [A2u hty hb];rfl
  ·exact hs.elim
 |fieldAddr t x f=>
  simp only [cOp] at hs
  cases hu:P.underlying t with
  |none=>rw [hu] at hs;exact hs.elim
  |some d=>
   rw [hu] at hs
   cases d with
   |struct fs=>
    simp only at hs
    cases hf:fs[f]? with
    |none=>rw [hf] at hs;exact hs.elim
    |some fd=>
     rw [hf] at hs
     simp only at hs
     cases hsz:szT P fd.type with
     |none=>rw [hsz] at hs;exact hs.elim
     |some sz=>
      rw [hsz] at hs
      cases sz with
      |zero=>exact hs.elim
      |succ n=>
       simp only [Bb,Az] at hs
       have hxr:=h.opd x
       split at hs
       ·rename_i b off hq
        rw [hq] at hxr
        obtain ⟨bb,m,hb,hv⟩:=u6 hxr
        refine (Af5 h hd t f x fs fd n rfl hu hf hsz _ hv (.loc b (off+fd.offset)) ?_ rfl).of_eq hs
        rw [Agr]
        exact .loc b _ bb m hb
       ·rename_i l hq
        rw [hq] at hxr
        obtain ⟨ad,hv,_⟩:=Adw hxr
        exact (Af5 h hd t f x fs fd n rfl hu hf hsz _ hv _ (A7j hxr hv _) rfl).of_eq hs
       ·rename_i b sz i off hq
        rw [hq] at hxr
        obtain ⟨bb,m,hb,hin,hv⟩:=Ay9 hxr
        refine (Af5 h hd t f x fs fd n rfl hu hf hsz _ hv (.el b sz i (off+fd.offset)) ?_ rfl).of_eq hs
        rw [Agr,Nat.add_assoc]
        exact .el b sz i _ bb m hb hin
       ·exact hs.elim
   |_=>exact hs.elim
 |indexAddr t x i=>
  simp only [cOp] at hs
  cases hu:P.underlying t with
  |none=>rw [hu] at hs;exact hs.elim
  |some d=>
   rw [hu] at hs
   cases d with
   |slice e=>
    simp only at hs
    cases hsz:szT P e with
    |none=>rw [hsz] at hs;exact hs.elim
    |some sz=>
     rw [hsz] at hs
     simp only [Bb,Az] at hs
     have hxr:=h.opd x
     have hir:=h.opd i
     split at hs
     ·rename_i c b e' sz' m k n hq hqi
      rw [hq] at hxr
      rw [hqi] at hir
      obtain ⟨bb,cp,hb,hc,hv⟩:=A2e hxr
      split at hs
      ·rename_i g1
       obtain ⟨h0,h1,hk⟩:=hs
       have e:=Ck g1
       subst e
       refine (Af6 h hd t _ sz x i rfl hu hsz _ _ _ k n hv hir.val_eq h0 h1 (.el b sz n.toNat 0) ?_ rfl).of_eq hk
       rw [Ad5]
       exact .el b sz n.toNat 0 bb m hb (by omega)
      ·rename_i g1
       obtain ⟨h0,h1,hk⟩:=hs
       refine (Af6 h hd t _ sz x i rfl hu hsz _ _ _ k n hv hir.val_eq h0 h1 (.loc b (n.toNat*sz)) ?_ rfl).of_eq hk
       rw [Ad5]
       exact .loc b _ bb m hb
      ·exact hs.elim
     ·rename_i k n hqi hne
      rw [hqi] at hir
      cases hsv:(st.opd x).sv with
      |none=>rw [hsv] at hs;exact hs.elim
      |some s=>
       rw [hsv] at hs
       simp only at hs
       cases g1:Nat.beq sz s.sz with
       |false=>rw [g1] at hs;exact hs.elim
       |true=>
        rw [g1] at hs
        obtain ⟨h0,h1,hk⟩:=hs
        have e:=Ck g1
        subst e
        obtain ⟨A,c,hv,hc,hrow⟩:=A7o hsv hxr
        obtain ⟨ad,rfl,hrel⟩:=hrow n.toNat (by omega)
        exact (Af6 h hd t _ s.sz x i rfl hu hsz _ _ _ k n hv hir.val_eq h0 h1 (.ref (s.f n.toNat)) hrel rfl).of_eq hk
     ·exact hs.elim
   |_=>exact hs.elim
 |extract x i=>
  simp only [cOp,Bb,Az] at hs
  have hxr:=h.opd x
  split at hs
  ·rename_i l hq
   rw [hq] at hxr
   split at hs
   ·rename_i g1
    have hil:=(Qx _ _).1 g1
    generalize hux:a.eval x=u at hxr
    cases hxr with
    |row p s hs=>cases hs
    |tup l cs hl hr=>
     have hi:i < cs.length:=by omega
     have hv:cs[i]? =some cs[i]:=List.getElem?_eq_getElem hi
     have hp:l[i]? =some (l[i]'(by omega)):=List.getElem?_eq_getElem (by omega)
     refine (D4 h hd _ cs[i] w (Below.refl _ _) ?_ ?_ (X4 _)).of_eq hs
     ·simp only [execOp,hux,Instr.extract,Sem.run_bind,List.getElem?_toArray,hv]
      rfl
     ·rw [Atn l i _ hp]
      exact (hr i _ _ hp hv).view
   ·exact hs.elim
  ·exact hs.elim
 |makeFunc fn first caps=>
  cases fn with
  |func f=>
   simp only [cOp] at hs
   cases hc:Jb P f with
   |false=>rw [hc] at hs;exact hs.elim
   |true=>
    rw [hc] at hs
    simp only [Bb,Az] at hs
    have e0:caps.map a.eval=(caps.toList.map a.eval).toArray:=by apply Array.ext';simp
    have e1:first.map a.eval=(first.toList.map a.eval).toArray:=by apply Array.ext';simp
    refine (D4 h hd (.clo f first.size ((first.toList++caps.toList).map fun x=>(st.opd x).view)) (.func (.func f) (((first.toList++caps.toList).map a.eval).take first.size).toArray (((first.toList++caps.toList).map a.eval).drop first.size).toArray) w (Below.refl _ _) ?_ (.clo f _ _ _ (by simp) (Agw h (first.toList++caps.toList))) (Ju rfl)).of_eq hs
    have t1:((first.toList++caps.toList).map a.eval).take first.size=first.toList.map a.eval:=by
     rw [List.map_append,List.take_left' (by simp)]
    have t2:((first.toList++caps.toList).map a.eval).drop first.size=caps.toList.map a.eval:=by
     rw [List.map_append,List.drop_left' (by simp)]
    rw [t1,t2,←e0,←e1]
    simp only [execOp,Instr.makeFunc,Sem.run_bind,Sem.run_pure,Result.andThen_ok]
  |_=>exact hs.elim
 |makeMap t r=>
  cases r with
  |some r=>simp only [cOp] at hs;exact hs.elim
  |none=>
   simp only [cOp] at hs
   split at hs
   ·rename_i ek ev hu
    split at hs
    ·rename_i x y hx hy
     simp only [Bb,Az] at hs
     cases dst with
     |none=>exact hs.elim
     |some d=>
      simp only at hs
      split at hs
      ·rename_i g1
       exact (Ax2 h hd d (st.base+d) rfl t _ _ x y rfl (LX.nil_spec ek x hx).2 (LX.nil_spec ev y hy).2 g1).of_eq hs
      ·exact hs.elim
    ·exact hs.elim
   ·exact hs.elim
 |lookup t m q ok=>
  simp only [cOp] at hs
  split at hs
  ·rename_i ek ev hu
   split at hs
   ·rename_i gq ts z ht hz
    split at hs
    ·rename_i hzk
     simp only [Bb,Az] at hs
     split at hs
     ·rename_i b hm
      split at hs
      ·rename_i gk gv ks vs c _ hob hq
       split at hs
       ·rename_i r hgk hf hgv
        cases ok<;>exact Au9 h hd rfl hu ht hz hzk hm hq hob hgk hf hgv hs
       ·exact hs.elim
      ·exact hs.elim
     ·exact hs.elim
    ·exact hs.elim
   ·exact hs.elim
  ·exact hs.elim
 |mapUpdate t m q x=>
  simp only [cOp] at hs
  split at hs
  ·rename_i ek ev hu
   split at hs
   ·rename_i gq ts ht
    simp only [Bb,Az] at hs
    split at hs
    ·rename_i b hm
     split at hs
     ·rename_i gk gv ks vs ck hob hq
      split at hs
      ·rename_i r c hgk hf hc
       exact Ax0 h rfl rfl hu ht hm hq hob hgk hf hc hs
      ·exact hs.elim
     ·exact hs.elim
    ·exact hs.elim
   ·exact hs.elim
  ·exact hs.elim
 |slice t x lo hi mx=>
  simp only [cOp] at hs
  cases hu:P.underlying t with
  |none=>rw [hu] at hs;exact hs.elim
  |some d=>
   rw [hu] at hs
   cases d with
   |string=>
    cases mx with
    |some m=>exact hs.elim
    |none=>
     simp only [Bb,Az] at hs
     split at hs
     ·rename_i s hx
      split at hs
      ·rename_i hh hhi
       split at hs
       ·rename_i l hl
        obtain ⟨h0,h1,h2,hk⟩:=hs
        exact (A37 h hd t x lo hi rfl hu s hx hhi hl h0 h1 h2).of_eq hk
       ·exact hs.elim
      ·exact hs.elim
     ·exact hs.elim
   |slice e=>
    simp only at hs
    cases hsz:szT P e with
    |none=>rw [hsz] at hs;exact hs.elim
    |some sz=>
     rw [hsz] at hs
     have key:(hi=none→mx=none)→Bb P (Gn P) (Gf P) ban (.slc sz x lo hi mx) dst st (fun δ'=> δ'= δ)→Ja cx P w0 N nt st a w ⟨dst,.slice t x lo hi mx,type,pos,after,guard⟩ δ :=by
      intro hmx hs
      simp only [Bb,Az] at hs
      split at hs
      ·rename_i own y hx
       split at hs
       ·rename_i m g1 hm
        split at hs
        ·rename_i hh hhi
         split at hs
         ·rename_i l hl
          obtain ⟨h0,h1,h2,h3,hk⟩:=hs
          exact (A8i h hd t e sz x lo hi mx rfl hu hsz hmx own y hx (Ck g1) hm hhi hl h0 h1 h2 h3).of_eq hk
         ·exact hs.elim
        ·exact hs.elim
       ·exact hs.elim
      ·exact hs.elim
     cases mx with
     |none=>exact key (fun _=>rfl) hs
     |some m=>
      cases hi with
      |none=>exact hs.elim
      |some hi=>exact key (fun e=>by cases e) hs
   |_=>exact hs.elim
 |makeSlice t l c=>
  simp only [cOp] at hs
  cases hu:P.underlying t with
  |none=>rw [hu] at hs;exact hs.elim
  |some d=>
   rw [hu] at hs
   cases d with
   |slice e=>
    simp only at hs
    cases hi:P.info? e with
    |none=>rw [hi] at hs;exact hs.elim
    |some i=>
     cases hsz:szT P e with
     |none=>rw [hi,hsz] at hs;exact hs.elim
     |some sz=>
      cases hz:Ah5 P e with
      |none=>rw [hi,hsz,hz] at hs;exact hs.elim
      |some z=>
       rw [hi,hsz,hz] at hs
       simp only at hs
       have his:i.size=sz:=by
        unfold szT at hsz
        rw [hi] at hsz
        simpa using hsz
       cases b1:Nat.beq z.length sz<;>cases b2:Nat.ble 1 sz<;>cases b3:Ar4 l c<;>cases b4:Asm l<;>simp only [b1,b2,b3,b4] at hs<;>try exact hs.elim
       ·
        have hl0:a.eval l= .int .i64 0:=by
         unfold Asm at b4
         split at b4
         ·rename_i n
          have e:=of_decide_eq_true b4
          subst e;rfl
         ·cases b4
        obtain ⟨i',z0,hi',hz0,hlz,_⟩:=Aa8 (w:=w) (M:=M) (β := β) (B:=w0.old) hz
        rw [hi] at hi'
        injection hi' with hi'
        subst hi'
        simp only [Bb,Az] at hs
        split at hs
        ·rename_i d m x hc hx
         split at hs
         ·rename_i b5
          obtain ⟨h0,h1,h2,hk⟩:=hs
          have hcr:=h.opd c
          rw [hc] at hcr
          have hcv:a.eval c= .int .i64 (m.toNat:Int):=by rw [hcr.val_eq,Int.toNat_of_nonneg h0]
          have e1:((m.toNat*i.bytes:Nat):Int)=m*(i.bytes:Int):=by rw [Int.natCast_mul,Int.toNat_of_nonneg h0]
          exact (Ax1 h hd d e rfl t l c m.toNat i x z0 rfl hu hi hz0 hx (by rw [his];exact Ck b5) hl0 hcv (by omega) (by omega)).of_eq hk
         ·exact hs.elim
        ·exact hs.elim
       all_goals
        have hlc:a.eval c=a.eval l:=by
         unfold Ar4 at b3
         split at b3
         ·have e:=Ck b3
          subst e;rfl
         ·have e:=of_decide_eq_true b3
          subst e;rfl
         ·cases b3
        have hpos:1≤sz:=Nat.le_of_ble_eq_true b2
        simp only [Bb,Az] at hs
        have hlr:=h.opd l
        split at hs
        ·rename_i d m hlv
         rw [hlv] at hlr
         split at hs
         ·split at hs
          ·rename_i h0 hnew hby
           simp only [Bool.and_eq_true] at hby
           have h0':=of_decide_eq_true h0
           have hv:a.eval l= .int .i64 (m.toNat:Int):=by rw [hlr.val_eq,Int.toNat_of_nonneg h0']
           exact (Apn h hd d (st.base+d) e sz rfl t l c m.toNat i z rfl hu hi his hz (Ck b1) hpos hv (by rw [hlc];exact hv) (Nat.le_of_ble_eq_true hby.1) (Nat.le_trans (Nat.le_of_ble_eq_true hby.2) (by decide)) hnew true _ (.inl ⟨rfl,rfl⟩)).of_eq hs
          ·exact hs.elim
         ·split at hs
          ·rename_i y hnew hy
           cases b5:Nat.beq y.sz sz with
           |false=>rw [b5] at hs;exact hs.elim
           |true=>
            rw [b5] at hs
            obtain ⟨h0,h1,h2,hk⟩:=hs
            have hv:a.eval l= .int .i64 (m.toNat:Int):=by rw [hlr.val_eq,Int.toNat_of_nonneg h0]
            have e1:((m.toNat*i.bytes:Nat):Int)=m*(i.bytes:Int):=by rw [Int.natCast_mul,Int.toNat_of_nonneg h0]
            exact (Apn h hd d (st.base+d) e sz rfl t l c m.toNat i z rfl hu hi his hz (Ck b1) hpos hv (by rw [hlc];exact hv) (by omega) (by omega) hnew false _ (.inr ⟨y,hy,rfl,Ck b5⟩)).of_eq hk
          ·exact hs.elim
        ·exact hs.elim
   |_=>exact hs.elim
 |call cl=>
  obtain ⟨callee,args,argTypes⟩:=cl
  cases callee with
  |invoke r m=>exact hs.elim
  |value f=>
   cases f with
   |func f=>
    simp only [cOp] at hs
    cases g1:Jb P f with
    |false=>
     rw [g1] at hs
     simp only at hs
     split at hs
     ·rename_i sb x y c he hx
      have hx':args= #[x,y,c]:=by apply Array.ext';simpa using hx
      subst hx'
      exact A8h h hd he rfl hs
     ·exact hs.elim
    |true=>
     rw [g1] at hs
     cases g3:inl f with
     |false=>
      rw [g3] at hs
      simp only [Bb,Az] at hs
      cases g2:Yp st ban args.toList with
      |false=>rw [g2] at hs;exact hs.elim
      |true=>
       rw [g2] at hs
       obtain ⟨r,hr,hk⟩:=hs
       rw [Es.of (Amd _ _ _)] at hr
       exact (A36 h hd f args.toList argTypes (by simp) g1 r hr).of_eq hk
     |true=>
      rw [g3] at hs
      simp only at hs
      cases g4:inl (4398046511104+f) with
      |true=>
       rw [g4] at hs
       simp only [Bb,Az] at hs
       cases g5:T9 st args.toList with
       |false=>rw [g5] at hs;exact hs.elim
       |true=>
        rw [g5] at hs
        obtain ⟨_,r,o',hI,hk⟩:=hs
        unfold A3o at hk
        split at hk
        ·rename_i hfl
         refine (Af4 h hd f (args.toList.map fun x=>(st.opd x).view) (args.toList.map a.eval) ?_ (by simp) (Agw h args.toList) r [] (hI.frame hfl (Ag1 g5))).of_eq ?_
         ·have e0:args.map a.eval=(args.toList.map a.eval).toArray:=by apply Array.ext';simp
          refine Ad8 (P:=P) g1 ?_
          rw [←e0]
          simp [execOp,resolve,Act.eval,Deferred.ofValue,invoke]
         ·rw [←hk];cases dst<;>rfl
        ·exact hk.elim
      |false=>
      rw [g4] at hs
      simp only [Bb,Az] at hs
      obtain ⟨_,r,o',hI,hk⟩:=hs
      refine (Af4 h hd f (args.toList.map fun x=>(st.opd x).view) (args.toList.map a.eval) ?_ (by simp) (Agw h args.toList) r o' hI).of_eq hk
      have e0:args.map a.eval=(args.toList.map a.eval).toArray:=by apply Array.ext';simp
      refine Ad8 (P:=P) g1 ?_
      rw [←e0]
      simp [execOp,resolve,Act.eval,Deferred.ofValue,invoke]
   |tmp x=>
    simp only [cOp,Bb,Az] at hs
    have hxr:=h.opd (.tmp x)
    split at hs
    ·rename_i f n caps hx
     rw [hx] at hxr
     obtain ⟨cs,hv,hl,hr⟩:=Bfb hxr
     obtain ⟨hc,r,o',hI,hk⟩:=hs
     refine (Af4 h hd f (caps.take n++((args.toList.map fun x=>(st.opd x).view)++caps.drop n)) (cs.take n++(args.toList.map a.eval++cs.drop n)) ?_ (by simp [hl]) (fun i p v hp hv=> ?_) r o' hI).of_eq hk
     ·refine Ad8 (P:=P) hc ?_
      have hv':a.tmps.getD x undef= .func (.func f) (cs.take n).toArray (cs.drop n).toArray:=hv
      have e0:(cs.take n).toArray++args.map a.eval++(cs.drop n).toArray=(cs.take n++(args.toList.map a.eval++cs.drop n)).toArray:=by apply Array.ext';simp
      rw [←e0]
      simp [execOp,resolve,Act.eval,Deferred.ofValue,invoke,hv']
     ·by_cases hi:i < (caps.take n).length
      ·have hi':i < (cs.take n).length:=by rw [List.length_take] at hi ⊢;omega
       rw [List.getElem?_append_left hi] at hp
       rw [List.getElem?_append_left hi'] at hv
       rw [List.getElem?_take] at hp hv
       split at hp
       ·rename_i hlt
        rw [if_pos hlt] at hv
        exact hr _ p v hp hv
       ·cases hp
      ·have e3:(cs.take n).length=(caps.take n).length:=by rw [List.length_take,List.length_take,hl]
       rw [List.getElem?_append_right (by omega)] at hp
       rw [List.getElem?_append_right (by omega),e3] at hv
       by_cases hi2:i - (caps.take n).length < args.toList.length
       ·rw [List.getElem?_append_left (by simpa using hi2)] at hp hv
        exact Agw h args.toList _ p v hp hv
       ·rw [List.getElem?_append_right (by simp at hi2 ⊢;omega)] at hp hv
        simp only [List.length_map] at hp hv
        rw [List.getElem?_drop] at hp hv
        exact hr _ p v hp hv
    ·exact hs.elim
   |_=>exact hs.elim
  |builtin b=>
   cases b with
   |delete=>
    simp only [cOp] at hs
    split at hs
    ·rename_i m q t ts' hx ht
     trace_state
     have hx':args= #[m,q]:=by apply Array.ext';simpa using hx
     subst hx'
     cases hu:P.underlying t with
     |none=>rw [hu] at hs;exact hs.elim
     |some d=>
      rw [hu] at hs
      cases d with
      |map ek ev=>
       simp only at hs
       cases hkp:Zc P ek with
       |none=>rw [hkp] at hs;exact hs.elim
       |some x=>
        obtain ⟨gq,ts⟩:=x
        rw [hkp] at hs
        simp only [Bb] at hs
        cases hm:st.opd m with
        |mp b=>
         rw [hm] at hs
         simp only at hs
         split at hs
         ·rename_i gk gv ks vs ck hob hq
          split at hs
          ·rename_i r hgk hf
           have hat:argTypes[0]? =some t:=by rw [←Array.getElem?_toList,ht];rfl
           exact A8g h rfl rfl hat hu hkp hm hq hob hgk hf hs
          ·exact hs.elim
         ·exact hs.elim
        |_=>rw [hm] at hs;exact hs.elim
      |_=>exact hs.elim
    ·exact hs.elim
   |len=>
    simp only [cOp] at hs
    split at hs
    ·rename_i x t hx ht
     have hx':args= #[x]:=by apply Array.ext';simpa using hx
     have ht':argTypes= #[t]:=by apply Array.ext';simpa using ht
     subst hx';subst ht'
     cases g1:m0 P t with
     |false=>
      rw [g1] at hs
      exact Wu h hd (fun cs b e=>by cases e) hs
     |true=>
      rw [g1] at hs
      unfold m0 at g1
      cases hu:P.underlying t with
      |none=>rw [hu] at g1;cases g1
      |some d=>
       rw [hu] at g1
       cases d with
       |slice e=>
        have helem:P.elem t=e:=by simp [Program.elem,hu]
        have hrun:∀(A:Option Addr) (n c:Nat),a.eval x= .slice A n c→∀w,(execOp a.eval ⟨dst,.call ⟨.builtin .len, #[x], #[t]⟩,type,pos,after,guard⟩).run P w= .ok (.value (.int .i64 n)) w:=by
         intro A n c hv w
         have:=run_len_slice (P:=P) w t type A n c (by rw [helem];exact hu)
         simp only [execOp,resolve,invoke,builtin,Sem.run_bind,Sem.run_pure,Result.andThen_ok,List.map_toArray,List.map_cons,List.map_nil,hv]
         rw [this]
         rfl
        simp only [Bb,Az] at hs
        have hxr:=h.opd x
        split at hs
        ·rename_i c b e' sz' m hq
         rw [hq] at hxr
         obtain ⟨bb,cp,hb,hc,hv⟩:=A2e hxr
         exact (D4 h hd _ _ w (Below.refl _ _) (hrun _ _ _ hv w) (.val _ rfl) (Ju rfl)).of_eq hs
        ·rename_i A n c hq
         rw [hq] at hxr
         exact (D4 h hd _ _ w (Below.refl _ _) (hrun _ _ _ hxr.val_eq w) (.val _ rfl) (Ju rfl)).of_eq hs
        ·cases hsv:(st.opd x).sv with
         |none=>rw [hsv] at hs;exact hs.elim
         |some s=>
          rw [hsv] at hs
          obtain ⟨A,c,hv,_,_⟩:=A7o hsv hxr
          exact (D4 h hd _ _ w (Below.refl _ _) (hrun _ _ _ hv w) (.val _ rfl) (Ju rfl)).of_eq hs
       |_=>cases g1
    ·exact hs.elim
   |cap=>
    simp only [cOp] at hs
    split at hs
    ·rename_i x t hx ht
     have hx':args= #[x]:=by apply Array.ext';simpa using hx
     have ht':argTypes= #[t]:=by apply Array.ext';simpa using ht
     subst hx';subst ht'
     cases g1:m0 P t with
     |false=>rw [g1] at hs;exact hs.elim
     |true=>
      rw [g1] at hs
      unfold m0 at g1
      cases hu:P.underlying t with
      |none=>rw [hu] at g1;cases g1
      |some d=>
       rw [hu] at g1
       cases d with
       |slice e=>
        have helem:P.elem t=e:=by simp [Program.elem,hu]
        simp only [Bb,Az] at hs
        have hxr:=h.opd x
        split at hs
        ·rename_i A n c hq
         rw [hq] at hxr
         refine (D4 h hd (.val (.int .i64 c)) (.int .i64 c) w (Below.refl _ _) ?_ (.val _ rfl) (Ju rfl)).of_eq hs
         have:=run_cap_slice (P:=P) w t type A n c (by rw [helem];exact hu)
         simp only [execOp,resolve,invoke,builtin,Sem.run_bind,Sem.run_pure,Result.andThen_ok,List.map_toArray,List.map_cons,List.map_nil,hxr.val_eq]
         rw [this]
         rfl
        ·exact hs.elim
       |_=>cases g1
    ·exact hs.elim
   |append=>
    simp only [cOp] at hs
    split at hs
    ·rename_i s x t t' hx ht
     have hx':args= #[.tmp s,x]:=by apply Array.ext';simpa using hx
     have ht':argTypes= #[t,t']:=by apply Array.ext';simpa using ht
     subst hx';subst ht'
     cases g1:Nat.beq t t' with
     |false=>rw [g1] at hs;exact hs.elim
     |true=>
      have:=Ck g1
      subst this
      rw [g1] at hs
      cases hu:P.underlying t with
      |none=>rw [hu] at hs;exact hs.elim
      |some d=>
       rw [hu] at hs
       cases d with
       |slice e=>
        simp only at hs
        cases hi:P.info? e with
        |none=>rw [hi] at hs;exact hs.elim
        |some i=>
         rw [hi] at hs
         simp only at hs
         cases hz:i.zero with
         |none=>rw [hz] at hs;exact hs.elim
         |some z=>
          rw [hz] at hs
          simp only at hs
          cases b1:Nat.beq z.cells.size i.size<;>cases b2:Nat.ble 1 i.size<;>simp only [b1,b2] at hs<;>try exact hs.elim
          have e1:=Ck b1
          have e2:1≤i.size:=Nat.le_of_ble_eq_true b2
          cases b3:A46 once dst && !(inl (2199023255552+e)) with
          |true=>
           rw [b3] at hs
           simp only [Bb,Az] at hs
           cases dst with
           |none=>exact hs.elim
           |some d=>
            split at hs
            ·rename_i d' n hd' hn
             injection hd' with hd'
             subst hd'
             split at hs
             ·rename_i hnew hbare
              simp only [Bool.and_eq_true] at hbare
              obtain ⟨⟨g2,g3⟩,g4⟩:=hbare
              split at hs
              ·rename_i own q hgx
               split at hs
               ·rename_i c1 c2
                cases hb0:Nat.beq q.len 0 with
                |true=>
                 rw [hb0] at hs
                 exact (Au8 h hd d s rfl x t e i z rfl hu hi hz e1 e2 g2 hgx (Ck c2) (Ck hb0) hn (Ck g4)).of_eq hs
                |false=>
                 rw [hb0] at hs
                 obtain ⟨hb,hm,hk⟩:=hs
                 exact (Axy h hd d s (st.base+d) rfl x t e i z rfl hu hi hz e1 e2 g2 hgx (Ck c2) hb hm (by
                  rcases Nat.eq_zero_or_pos q.len with h0|h0
                  ·rw [h0] at hb0;cases hb0
                  ·exact h0) _ hnew).of_eq hk
               ·exact hs.elim
              ·exact hs.elim
             ·exact hs.elim
            ·exact hs.elim
          |false=>
          rw [b3] at hs
          simp only [Bb,Az] at hs
          cases dst with
          |none=>exact hs.elim
          |some d=>
           simp only at hs
           split at hs
           ·rename_i y own q hgs hgx
            split at hs
            ·rename_i r c1 c2 hcat
             obtain ⟨hb,hm,hk⟩:=hs
             exact (A8f h hd d s rfl x t e i.size i z rfl hu hi hz e1 rfl e2 hgs hgx hcat (Ck c1) (Ck c2) hb hm).of_eq hk
            ·exact hs.elim
           ·rename_i y hgs hgx
            split at hs
            ·exact (Aog h hd d s rfl x t e i rfl hu hi hgs hgx).of_eq hs
            ·exact hs.elim
           ·rename_i own q hgs hgx
            split at hs
            ·rename_i c1 c2
             obtain ⟨hb,hm,hk⟩:=hs
             exact (Asc h hd d s rfl x t e i.size i z rfl hu hi hz e1 rfl e2 hgs hgx (Ck c1) (Ck c2) hb hm).of_eq hk
            ·exact hs.elim
           ·exact hs.elim
       |_=>exact hs.elim
    ·exact hs.elim
   |min=>exact Wu h hd (fun cs b e=>by cases e) hs
   |max=>exact Wu h hd (fun cs b e=>by cases e) hs
   |_=>exact hs.elim
 |_=>exact hs.elim
end
end Go.Proofs.YthjhkpgonleelaaGreatDoor.Ev
