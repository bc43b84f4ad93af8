/-  What the evaluator's data say of memory: the relation; what holds data, and that it is kept. -/
import Derived.Test.YtmimkinjcfekmaaGreatFa
namespace Go.Proofs.YtmimkinjcfekmaaGreat.Ev
open Go Go.RowKit
set_option linter.unusedVariables false
set_option linter.unusedSimpArgs false
set_option linter.unnecessarySimpa false
abbrev It:=Nat→Option Nat
abbrev Ha:=Nat→Option (Nat×Nat)
def imm(M:It)(a:Addr):Prop:=∀n,M a.block=some n→a.off < n
inductive Al (w:World) (M:It) (β :Ha) (B:Nat):PV→Value→Prop
 |any (v:Value):Al w M β B .any v
 |val (v:Value) (h:v.oneCell'=true):Al w M β B (.val v) v
 |agg (l:List PV) (cs:List Value) (hl:l.length=cs.length) (h1:∀v∈cs,v.oneCell'=true)
   (hr:∀(i:Nat) (p:PV) (v:Value),l[i]? =some p→cs[i]? =some v→Al w M β B p v):Al w M β B (.agg l) (.agg cs.toArray)
 |tup (l:List PV) (cs:List Value) (hl:l.length=cs.length)
   (hr:∀(i:Nat) (p:PV) (v:Value),l[i]? =some p→cs[i]? =some v→Al w M β B p v):Al w M β B (.tup l) (.tuple cs.toArray)
 |row (p:PV) (s:SV) (hs:p.sv=some s) (a:Option Addr) (c:Nat) (vs:Nat→Nat→Value)
   (hc:s.n≤c) (hsz:∀(i:Nat),i < s.n→(s.f i).length=s.sz) (ha:∀(i:Nat),i < s.n→∃ad,a=some ad)
   (hm:∀(ad:Addr) (i:Nat) (j:Nat) (p:PV),a=some ad→i < s.n→(s.f i)[j]? =some p→imm M (ad.add (i*s.sz+j))∧w.cell? (ad.add (i*s.sz+j))=some (vs i j)∧(vs i j).oneCell'=true)
   (hr:∀(i:Nat) (j:Nat) (p:PV),i < s.n→(s.f i)[j]? =some p→Al w M β B p (vs i j)):Al w M β B p (.slice a s.n c)
 |loc (d off b n:Nat) (h: β d=some (b,n)):Al w M β B (.loc d off) (.pointer (some ⟨b,off,none⟩))
 |el (d sz i off b n:Nat) (h: β d=some (b,n)) (hi:i < n):Al w M β B (.el d sz i off) (.pointer (some ⟨b,i*sz+off,none⟩))
 |vw (cf:Bool) (d e sz n b c:Nat) (h: β d=some (b,n)) (hc:n≤c):Al w M β B (.vw cf d e sz n) (.slice (some ⟨b,0,none⟩) n c)
 |mp (d b n:Nat) (h: β d=some (b,n)):Al w M β B (.mp d) (.map (some b))
 |clo (f n:Nat) (l:List PV) (cs:List Value) (hl:l.length=cs.length)
   (hr:∀(i:Nat) (p:PV) (v:Value),l[i]? =some p→cs[i]? =some v→Al w M β B p v):Al w M β B (.clo f n l) (.func (.func f) (cs.take n).toArray (cs.drop n).toArray)
 |ref (l:List PV) (ad:Addr) (vs:Nat→Value) (hm:∀(i:Nat) (p:PV),l[i]? =some p→(ad.block < B∨Ev.imm M (ad.add i))∧w.cell? (ad.add i)=some (vs i)∧(vs i).oneCell'=true)
   (hr:∀(i:Nat) (p:PV),l[i]? =some p→Al w M β B p (vs i)):Al w M β B (.ref l) (.pointer (some ad))
def Zu(w:World)(M:It)(w':World)(M':It):Prop:=∀a v,imm M a→w.cell? a=some v→imm M' a∧w'.cell? a=some v
theorem Zu.refl(w:World)(M:It):Zu w M w M:=fun _ _ h h'=>⟨h,h'⟩
theorem Zu.trans{w w' w'':World}{M M' M'':It}(h:Zu w M w' M')(h':Zu w' M' w'' M''):Zu w M w'' M'':=
 fun a v hi hc=>let ⟨h1,h2⟩:=h a v hi hc;h' a v h1 h2
theorem Vo(a:Addr)(n:Nat):(a.add n).block=a.block:=by unfold Addr.add;split<;>rfl
theorem add_add(a:Addr)(i j:Nat):(a.add i).add j=a.add (i+j):=by
 unfold Addr.add
 by_cases hi:i=0<;>by_cases hj:j=0<;>simp [hi,hj,Nat.add_assoc]
theorem P1(g k:Nat):(⟨g,0,none⟩:Addr).add k=⟨g,k,none⟩:=by unfold Addr.add;split<;>simp_all
theorem P2(g o k:Nat):(⟨g,o,none⟩:Addr).add k=⟨g,o+k,none⟩:=by unfold Addr.add;split<;>simp_all
section
variable {w w':World} {M M':It} {β β':Ha} {B:Nat}
theorem Al.ext(h:Zu w M w' M')(hB:∀a,a.block < B→w'.cell? a=w.cell? a)(hβ :∀d x,β d=some x→β' d=some x){p:PV}{v:Value}(hr:Al w M β B p v):Al w' M' β' B p v:=by
 induction hr with
 |any v=>exact .any v
 |val v h=>exact .val v h
 |agg l cs hl h1 _ ih=>exact .agg l cs hl h1 ih
 |tup l cs hl _ ih=>exact .tup l cs hl ih
 |row p s hs a c vs hc hsz ha hm _ ih=>
  exact .row p s hs a c vs hc hsz ha (fun ad i j p h1 h2 h3=>let ⟨g1,g2,g3⟩:=hm ad i j p h1 h2 h3;let ⟨k1,k2⟩:=h _ _ g1 g2;⟨k1,k2,g3⟩) ih
 |loc d off b n h=>exact .loc d off b n (hβ _ _ h)
 |el d sz i off b n h hi=>exact .el d sz i off b n (hβ _ _ h) hi
 |vw cf d e sz n b c h hc=>exact .vw cf d e sz n b c (hβ _ _ h) hc
 |mp d b n h=>exact .mp d b n (hβ _ _ h)
 |clo f n l cs hl _ ih=>exact .clo f n l cs hl ih
 |ref l ad vs hm _ ih=>
  refine .ref l ad vs (fun i p hp=> ?_) ih
  obtain ⟨g1,g2,g3⟩:=hm i p hp
  rcases g1 with g1|g1
  ·exact ⟨.inl g1,by rw [hB _ (by rw [Vo];exact g1)];exact g2,g3⟩
  ·obtain ⟨k1,k2⟩:=h _ _ g1 g2
   exact ⟨.inr k1,k2,g3⟩
theorem Afd{p:PV}{s:SV}(h:p.sv=some s):p.view.sv=some { s with own:=false } :=by
 cases p<;>simp only [PV.sv] at h<;>first|(injection h with h;subst h;rfl)|cases h
theorem Ej{p:PV}{s:SV}(h:p.view.sv=some s):s.own=false:=by
 cases p<;>simp only [PV.view,PV.sv] at h<;>first|(injection h with h;subst h;rfl)|cases h
theorem Xv{p:PV}(h:p.sv=none):p.view=p:=by
 cases p<;>first|rfl|(simp only [PV.sv] at h;cases h)
theorem Al.view{p:PV}{v:Value}(h:Al w M β B p v):Al w M β B p.view v:=by
 cases hq:p.sv with
 |none=>rw [Xv hq];exact h
 |some s=>
  have key:∀(p q:PV) (s:SV),p.sv=some s→q.sv=some { s with own:=false } →Al w M β B p v→Al w M β B q v:=by
   intro p q s hp hq hr
   cases hr with
   |row p s' hs a c vs hc hsz ha hm hr=>
    rw [hp] at hs;injection hs with hs;subst hs
    exact .row q { s with own:=false } hq a c vs hc hsz ha hm hr
   |_=>simp only [PV.sv] at hp;cases hp
  exact key p p.view s hq (Afd hq) h
theorem Xg(v:Value):Rx v=v.oneCell':=by cases v<;>rfl
theorem Al.one{p:PV}{v:Value}(h:Al w M β B p v)(h1:p.one=true):v.oneCell'=true:=by
 cases h with
 |any=>simp [PV.one] at h1
 |val v h=>exact h
 |agg=>simp [PV.one] at h1
 |tup=>simp [PV.one] at h1
 |_=>rfl
theorem Abq{p:PV}{s:SV}(hf:p.flat=true)(hs:p.sv=some s):∀(i j:Nat) (q:PV),(s.f i)[j]? =some q→q.flat=true:=by
 intro i j q hq
 cases p with
 |lst own x=>injection hs with hs;subst hs;exact LX.row_flat _ _ _ (List.mem_of_getElem? hq)
 |sl=>cases hf
 |_=>cases hs
theorem Al.flat{B':Nat}{p:PV}{v:Value}(h:Al w M β B p v)(hf:p.flat=true):Al w M β' B' p v:=by
 induction h with
 |any v=>exact .any v
 |val v h=>exact .val v h
 |row p s hs a c vs hc hsz ha hm hr ih=>
  exact .row p s hs a c vs hc hsz ha hm (fun i j q hi hq=>ih i j q hi hq (Abq hf hs i j q hq))
 |_=>simp [PV.flat] at hf
theorem Al.pure0{B':Nat}{p:PV}{v:Value}(h:Al w M β B p v):Al w M β' B' p.pure0 v:=by
 unfold PV.pure0
 cases hf:p.flat with
 |true=>exact (h.flat hf).view
 |false=>exact .any v
theorem Al.val_eq{v u:Value}(h:Al w M β B (.val v) u):u=v:=by
 cases h with
 |val v h=>rfl
 |row p s hs=>cases hs
theorem Al.le{p q:PV}{v:Value}(hl:PV.Le p q)(h:Al w M β B p v):Al w M β B q v:=by
 cases hl with
 |view=>exact h.view
 |nil own y hy=>
  have:=h.val_eq
  subst this
  have:Al w M β B (.lst own y) (.slice none (SV.mk own y.e y.sz y.len y.row).n 0):=
   .row _ ⟨own,y.e,y.sz,y.len,y.row⟩ rfl none 0 (fun _ _=>undef) (by simp [hy]) (fun i hi=>by simp [hy] at hi) (fun i hi=>by simp [hy] at hi) (fun ad i j p ha=>by cases ha) (fun i j p hi=>by simp [hy] at hi)
  simpa [hy] using this
theorem Ka{s:PV→Bool} :∀ {l:List PV},Ou s l=true→∀(i:Nat) (p:PV),l[i]? =some p→s p=true
 | [],_,i,p,h=>by simp at h
 |q::r,h,i,p,hp=>by
  simp only [Ou] at h
  cases hq:s q with
  |false=>rw [hq] at h;cases h
  |true=>
   rw [hq] at h
   cases i with
   |zero=>simp at hp;subst hp;exact hq
   |succ i=>exact Ka h i p (by simpa using hp)
theorem Us{s:PV→Bool} :∀ {l:List (List PV)},Xl s l=true→∀(i:Nat),Ou s (l.getD i [])=true
 | [],_,i=>rfl
 |q::r,h,i=>by
  simp only [Xl] at h
  cases hq:Ou s q with
  |false=>rw [hq] at h;cases h
  |true=>
   rw [hq] at h
   cases i with
   |zero=>exact hq
   |succ i=>exact Us h i
def Ha.cut(β :Ha)(D:Nat→Bool):Ha:=fun d=>if D d then none else β d
theorem Ha.cut_some{β :Ha}{D:Nat→Bool}{d:Nat}{x:Nat×Nat}(h: β.cut D d=some x): β d=some x∧D d=false:=by
 unfold Ha.cut at h
 cases hd:D d with
 |true=>rw [hd] at h;simp at h
 |false=>rw [hd] at h;exact ⟨by simpa using h,rfl⟩
theorem Ha.cut_eq{β :Ha}{D:Nat→Bool}{d:Nat}(h:D d=false): β.cut D d= β d:=by unfold Ha.cut;rw [h];rfl
theorem Al.safe0{D:Nat→Bool}{p:PV}{v:Value}(hs:p.safe0 D=true)(h:Al w M β B p v):Al w M (β.cut D) B p v:=by
 cases h with
 |any v=>exact .any v
 |val v h=>exact .val v h
 |row p s hsv a c vs hc hsz ha hm hr=>
  cases p with
  |sl=>simp [PV.safe0] at hs
  |lst own x=>exact (Al.row (β := β) (B:=B) _ s hsv a c vs hc hsz ha hm hr).flat rfl
  |_=>cases hsv
 |loc d off b n h=>exact .loc d off b n (by rw [Ha.cut_eq (by simpa [PV.safe0] using hs)];exact h)
 |el d sz i off b n h hi=>exact .el d sz i off b n (by rw [Ha.cut_eq (by simpa [PV.safe0] using hs)];exact h) hi
 |vw cf d e sz n b c h hc=>exact .vw cf d e sz n b c (by rw [Ha.cut_eq (by simpa [PV.safe0] using hs)];exact h) hc
 |mp d b n h=>exact .mp d b n (by rw [Ha.cut_eq (by simpa [PV.safe0] using hs)];exact h)
 |_=>simp [PV.safe0] at hs
theorem Al.safeUp{s:PV→Bool}(hs:∀p v,s p=true→Al w M β B p v→Al w M β' B p v){p:PV}{v:Value}(h1:p.safeUp s=true)(h:Al w M β B p v):Al w M β' B p v:=by
 cases h with
 |agg l cs hl h1' hr=>exact .agg l cs hl h1' (fun i p v hp hv=>hs _ _ (Ka h1 i p hp) (hr i p v hp hv))
 |tup l cs hl hr=>exact .tup l cs hl (fun i p v hp hv=>hs _ _ (Ka h1 i p hp) (hr i p v hp hv))
 |clo f n l cs hl hr=>exact .clo f n l cs hl (fun i p v hp hv=>hs _ _ (Ka h1 i p hp) (hr i p v hp hv))
 |ref l ad vs hm hr=>exact .ref l ad vs hm (fun i p hp=>hs _ _ (Ka h1 i p hp) (hr i p hp))
 |row p sv hsv a c vs hc hsz ha hm hr=>
  cases p with
  |sl own e sz es=>
   injection hsv with hsv;subst hsv
   exact .row _ _ rfl a c vs hc hsz ha hm (fun i j q hi hq=>hs _ _ (Ka (Us h1 i) j q hq) (hr i j q hi hq))
  |lst own x=>exact (Al.row (β := β) (B:=B) _ sv hsv a c vs hc hsz ha hm hr).flat rfl
  |_=>cases hsv
 |any v=>exact .any v
 |val v h=>exact .val v h
 |loc d off b n h=>exact hs _ _ h1 (.loc d off b n h)
 |el d sz i off b n h hi=>exact hs _ _ h1 (.el d sz i off b n h hi)
 |vw cf d e sz n b c h hc=>exact hs _ _ h1 (.vw cf d e sz n b c h hc)
 |mp d b n h=>exact hs _ _ h1 (.mp d b n h)
theorem Al.clean{D:Nat→Bool}{p:PV}{v:Value}(h:Al w M β B p v):Al w M (β.cut D) B (p.clean D) v:=by
 unfold PV.clean
 cases hs:p.safe D with
 |false=>exact .any v
 |true=>
  refine Al.safeUp (s:=PV.safeUp (PV.safeUp (PV.safe0 D))) (fun p v h1 h=> ?_) hs h
  refine Al.safeUp (s:=PV.safeUp (PV.safe0 D)) (fun p v h1 h=> ?_) h1 h
  exact Al.safeUp (s:=PV.safe0 D) (fun p v h1 h=>h.safe0 h1) h1 h
theorem X9{D:Nat→Bool}{p:PV}{s:SV}(h:(p.clean D).sv=some s):p.sv=some s:=by
 unfold PV.clean at h
 split at h
 ·exact h
 ·cases h
end
def tb:Value→Option Nat
 | .slice (some a) _ c=>match c with
  |0=>none
  |_+1=>some a.block
 |_=>none
def Ok(w:World)(M:It)(B:Nat)(s:SV)(v:Value):Prop:=
 (∃a,v= .slice a 0 0∧s.n=0)∨
 ∃g c cur,v= .slice (some ⟨g,0,none⟩) s.n (c+1)∧B≤g∧M g=some (s.n*s.sz)∧w.heap[g]? =some (.cells cur s.e (0,0))∧s.n≤c+1∧c+1≤maxLen∧cur.size=(c+1)*s.sz
inductive G3 (w:World) (M:It) (β :Ha) (B b n:Nat):List PV→Prop
 |cells (l:List PV) (cs:Array Value) (t:Nat) (hh:w.heap[b]? =some (.cells cs t (0,0))) (hs:l.length≤cs.size)
   (hr:∀(i:Nat) (p:PV) (v:Value),l[i]? =some p→cs[i]? =some v→Al w M β B p v∧v.oneCell'=true):G3 w M β B b n l
 |arr (x:LX) (cs:Array Value) (t:Nat) (hh:w.heap[b]? =some (.cells cs t (0,0))) (hn:x.len=n) (hs:n*x.sz≤cs.size)
   (hr:∀(i j:Nat) (p:PV) (v:Value),i < n→(x.row i)[j]? =some p→cs[i*x.sz+j]? =some v→Al w M β B p v∧v.oneCell'=true):G3 w M β B b n [.arrO x]
 |map (gk gv:Bool) (ks vs:LX) (es:Array MapEntry) (clock:Nat) (hh:w.heap[b]? =some (.map es clock)) (hk:es.size=ks.len) (hv:vs.len=ks.len)
   (hr:∀(i:Nat) (e:MapEntry),es[i]? =some e→Al w M β B (Oq gk (ks.row i)) e.key∧Al w M β B (Oq gv (vs.row i)) e.val):G3 w M β B b n [.mapO gk gv ks vs]
inductive Hw (κ :Type) where
 |slot (k: κ)
 |cell (d i:Nat)
def Lb{κ :Type}(H: κ→PV×Value)(O:Nat→List PV)(w:World)(β :Ha):Hw κ→SV→Value→Prop
 | .slot k,s,v=>(H k).1.sv=some s∧s.own=true∧(H k).2=v
 | .cell d i,s,v=>∃b n p,β d=some (b,n)∧(O d)[i]? =some p∧p.sv=some s∧s.own=true∧w.cell? ⟨b,i,none⟩=some v
structure SH {κ :Type} (H: κ→PV×Value) (w0:World) (N:It) (O:Nat→List PV) (D:Nat→Bool) (w:World) (M:It) (β :Ha):Prop where
 bel:Below w0.heap.size w0 w
 mN:∀b,b < w0.heap.size→M b=N b
 mlt:∀b n,M b=some n→b < w.heap.size
 box:∀d b n,β d=some (b,n)→w0.heap.size≤b∧M b=some 0∧G3 w M β w0.heap.size b n (O d)
 inj:∀d d' b n n',β d=some (b,n)→β d'=some (b,n')→d=d'
 dom:∀d,D d=true→β d=none
 reg:∀k,Al w M β w0.heap.size (H k).1 (H k).2
 tok:∀key s v,Lb H O w β key s v→Ok w M w0.heap.size s v
 tokne:∀key key' s s' v v' g,Lb H O w β key s v→Lb H O w β key' s' v'→key≠key'→tb v=some g→tb v'≠some g
 tokbox:∀key s v g d n,Lb H O w β key s v→tb v=some g→β d≠some (g,n)
section
variable {κ κ':Type} {H: κ→PV×Value} {H': κ'→PV×Value} {w0 w w':World} {N M M':It} {O O':Nat→List PV} {D D':Nat→Bool} {β β':Ha}
theorem SH.perm(h:SH H w0 N O D w M β)(hr:∀k,Al w M β w0.heap.size (H' k).1 (H' k).2)(hbox:∀d b n,β d=some (b,n)→G3 w M β w0.heap.size b n (O' d))(hD:∀d,D' d=true→β d=none)
  (φ :Hw κ'→Option (Hw κ)) (hφ :∀key s v,Lb H' O' w β key s v→∃key',φ key=some key'∧Lb H O w β key' s v)
  (hinj:∀k k' j,φ k=some j→φ k'=some j→k=k'):SH H' w0 N O' D' w M β :=by
 refine ⟨h.bel,h.mN,h.mlt,fun d b n hd=>⟨(h.box d b n hd).1,(h.box d b n hd).2.1,hbox d b n hd⟩,h.inj,hD,hr,?_,?_,?_⟩
 ·intro key s v ho
  obtain ⟨k',_,h2⟩:=hφ key s v ho
  exact h.tok k' s v h2
 ·intro key key' s s' v v' g ho ho' hne hg
  obtain ⟨j,h1,h2⟩:=hφ key s v ho
  obtain ⟨j',h1',h2'⟩:=hφ key' s' v' ho'
  refine h.tokne j j' s s' v v' g h2 h2' (fun e=>hne (hinj _ _ j h1 (by rw [e];exact h1'))) hg
 ·intro key s v g d n ho hg
  obtain ⟨j,h1,h2⟩:=hφ key s v ho
  exact h.tokbox j s v g d n h2 hg
theorem SH.hold(h:SH H w0 N O D w M β)(hr:∀k,Al w M β w0.heap.size (H' k).1 (H' k).2)(g: κ'→Option κ)
  (hg:∀k s,(H' k).1.sv=some s→s.own=true→∃j,g k=some j∧(H j).1.sv=some s∧(H j).2=(H' k).2) (hinj:∀k k' j,g k=some j→g k'=some j→k=k'):SH H' w0 N O D w M β :=by
 refine h.perm hr (fun d b n hd=>(h.box d b n hd).2.2) h.dom (fun key=>match key with| .slot k=>(g k).map .slot| .cell d i=>some (.cell d i)) ?_ ?_
 ·intro key s v ho
  cases key with
  |slot k=>
   obtain ⟨h1,h2,h3⟩:=ho
   obtain ⟨j,q1,q2,q3⟩:=hg k s h1 h2
   exact ⟨.slot j,by simp [q1],q2,h2,by rw [q3];exact h3⟩
  |cell d i=>exact ⟨.cell d i,rfl,ho⟩
 ·intro k k' j hk hk'
  cases k with
  |slot k=>
   cases k' with
   |slot k'=>
    simp only [Option.map_eq_some_iff] at hk hk'
    obtain ⟨a,ha,rfl⟩:=hk
    obtain ⟨a',ha',e⟩:=hk'
    injection e with e;subst e
    rw [hinj k k' _ ha ha']
   |cell d i=>
    simp only [Option.map_eq_some_iff] at hk hk'
    obtain ⟨a,ha,rfl⟩:=hk
    cases hk'
  |cell d i=>
   cases k' with
   |slot k'=>
    simp only [Option.map_eq_some_iff] at hk hk'
    obtain ⟨a,ha,rfl⟩:=hk'
    cases hk
   |cell d' i'=>injection hk with hk;injection hk' with hk';have e:=hk.trans hk'.symm;injection e with e1 e2;rw [e1,e2]
def Jg(x:PV×Value)(H: κ→PV×Value):Option κ→PV×Value
 |none=>x
 |some k=>H k
theorem SH.cons(h:SH H w0 N O D w M β)(p:PV)(v:Value)(hr:Al w M β w0.heap.size p v)
  (ht:∀s,p.sv=some s→s.own=true→Ok w M w0.heap.size s v∧(∀key s' v' g,Lb H O w β key s' v'→tb v=some g→tb v'≠some g)∧(∀g d n,tb v=some g→β d≠some (g,n))):
  SH (Jg (p,v) H) w0 N O D w M β :=by
 have old:∀(key:Hw (Option κ)) s u,Lb (Jg (p,v) H) O w β key s u→(key= .slot none∧p.sv=some s∧s.own=true∧v=u)∨∃key':Hw κ,Lb H O w β key' s u∧(∀key2:Hw (Option κ),Lb (Jg (p,v) H) O w β key2 s u→True)∧
   (match key' with| .slot k=>key= .slot (some k)| .cell d i=>key= .cell d i):=by
  intro key s u ho
  cases key with
  |slot k=>
   cases k with
   |none=>exact .inl ⟨rfl,ho.1,ho.2.1,ho.2.2⟩
   |some k=>exact .inr ⟨.slot k,ho,fun _ _=>trivial,rfl⟩
  |cell d i=>exact .inr ⟨.cell d i,ho,fun _ _=>trivial,rfl⟩
 refine ⟨h.bel,h.mN,h.mlt,h.box,h.inj,h.dom,?_,?_,?_,?_⟩
 ·intro k
  cases k with
  |none=>exact hr
  |some k=>exact h.reg k
 ·intro key s u ho
  rcases old key s u ho with ⟨_,h1,h2,rfl⟩|⟨k',h1,_⟩
  ·exact (ht s h1 h2).1
  ·exact h.tok k' s u h1
 ·intro key key' s s' u u' g ho ho' hne hg
  rcases old key s u ho with ⟨e1,h1,h2,rfl⟩|⟨k1,h1,_,e1⟩
  ·rcases old key' s' u' ho' with ⟨e2,_⟩|⟨k2,h2',_,e2⟩
   ·exact absurd (e1.trans e2.symm) hne
   ·exact (ht s h1 h2).2.1 k2 s' u' g h2' hg
  ·rcases old key' s' u' ho' with ⟨e2,h3,h4,rfl⟩|⟨k2,h2',_,e2⟩
   ·exact fun hv=>(ht s' h3 h4).2.1 k1 s u g h1 hv hg
   ·refine h.tokne k1 k2 s s' u u' g h1 h2' (fun e=>hne ?_) hg
    subst e
    cases k1<;>exact e1.trans e2.symm
 ·intro key s u g d n ho hg
  rcases old key s u ho with ⟨_,h1,h2,rfl⟩|⟨k',h1,_⟩
  ·exact (ht s h1 h2).2.2 g d n hg
  ·exact h.tokbox k' s u g d n h1 hg
theorem Hc{w:World}{x:Addr}{v:Value}(hx:w.cell? x=some v):x.block < w.heap.size:=by
 unfold World.cell? at hx
 rcases Nat.lt_or_ge x.block w.heap.size with h1|h1
 ·exact h1
 ·rw [Array.getElem?_eq_none h1] at hx;simp at hx
theorem G3.ext{B b n:Nat}{l:List PV}(h:G3 w M β B b n l)(hh:w'.heap[b]? =w.heap[b]?)(hR:∀p v,Al w M β B p v→Al w' M' β' B p v):G3 w' M' β' B b n l:=by
 cases h with
 |cells l cs t q1 q2 q3=>exact .cells l cs t (by rw [hh];exact q1) q2 (fun i p v hp hv=>⟨hR _ _ (q3 i p v hp hv).1,(q3 i p v hp hv).2⟩)
 |arr x cs t q1 q2 q3 q4=>exact .arr x cs t (by rw [hh];exact q1) q2 q3 (fun i j p v hi hp hv=>⟨hR _ _ (q4 i j p v hi hp hv).1,(q4 i j p v hi hp hv).2⟩)
 |map gk gv ks vs es clock q1 q2 q3 q4=>exact .map gk gv ks vs es clock (by rw [hh];exact q1) q2 q3 (fun i e he=>⟨hR _ _ (q4 i e he).1,hR _ _ (q4 i e he).2⟩)
theorem Ok.ext{B:Nat}{s:SV}{v:Value}(h:Ok w M B s v)(hh:∀g,tb v=some g→w'.heap[g]? =w.heap[g]? ∧M' g=M g):Ok w' M' B s v:=by
 rcases h with h|⟨g,c,cur,h1,h2,h3,h4,h5⟩
 ·exact .inl h
 ·have:=hh g (by rw [h1];rfl)
  exact .inr ⟨g,c,cur,h1,h2,by rw [this.2];exact h3,by rw [this.1];exact h4,h5⟩
theorem Ok.lt{B:Nat}{s:SV}{v:Value}(h:Ok w M B s v){g:Nat}(hg:tb v=some g):B≤g∧∃k,M g=some k:=by
 rcases h with ⟨a,h,_⟩|⟨g',c,cur,h1,h2,h3,_⟩
 ·rw [h] at hg
  cases a<;>cases hg
 ·rw [h1] at hg
  have:g'=g:=by simpa [tb] using hg
  subst this
  exact ⟨h2,_,h3⟩
theorem SH.world(h:SH H w0 N O D w M β)(hb:Below w.heap.size w w'):SH H w0 N O D w' M β :=by
 have hc:∀(x:Addr) v,w.cell? x=some v→w'.cell? x=some v:=fun x v hv=>by rw [hb.cell (Hc hv)];exact hv
 have hE:Zu w M w' M:=fun x v hi hv=>⟨hi,hc x v hv⟩
 have hle:w0.heap.size≤w.heap.size:=h.bel.size
 have hR:∀p v,Al w M β w0.heap.size p v→Al w' M β w0.heap.size p v:=fun p v hr=>hr.ext hE (fun x hx=>hb.cell (by omega)) (fun _ _ h=>h)
 have hO:∀key s v,Lb H O w' β key s v→Lb H O w β key s v:=by
  intro key s v ho
  cases key with
  |slot k=>exact ho
  |cell d i=>
   obtain ⟨b,n,p,h1,h2,h3,h4,h5⟩:=ho
   have hbl:=h.mlt b 0 (h.box d b n h1).2.1
   exact ⟨b,n,p,h1,h2,h3,h4,by rw [←hb.cell (p:=⟨b,i,none⟩) hbl];exact h5⟩
 refine ⟨h.bel.trans (hb.mono hle),h.mN,fun b n hn=>Nat.lt_of_lt_of_le (h.mlt b n hn) hb.size,?_,h.inj,h.dom,fun k=>hR _ _ (h.reg k),?_,?_,?_⟩
 ·intro d b n hd
  obtain ⟨h1,h2,h3⟩:=h.box d b n hd
  exact ⟨h1,h2,h3.ext (hb.block b (h.mlt b 0 h2)) hR⟩
 ·intro key s v ho
  have ht:=h.tok key s v (hO _ _ _ ho)
  exact ht.ext (fun g hg=>⟨hb.block g (let ⟨_,k,hk⟩:=ht.lt hg;h.mlt g k hk),rfl⟩)
 ·intro key key' s s' v v' g ho ho';exact h.tokne key key' s s' v v' g (hO _ _ _ ho) (hO _ _ _ ho')
 ·intro key s v g d n ho;exact h.tokbox key s v g d n (hO _ _ _ ho)
theorem SH.drawn(h:SH H w0 N O D w M β):SH H w0 N O D { w with drawn:=w.drawn+1 } M β :=
 h.world ⟨rfl,rfl,rfl,Nat.le_refl _,fun _ _=>rfl⟩
end
end Go.Proofs.YtmimkinjcfekmaaGreat.Ev
