/-  Slots of a frame; literals; rows. -/
import Derived.Test.YtmimkinjcfekmaaGreatFc
namespace Go.Proofs.YtmimkinjcfekmaaGreat.Ev
open Go Go.RowKit
set_option linter.unusedVariables false
set_option linter.unusedSimpArgs false
set_option linter.unnecessarySimpa false
def hold{ι :Type}(cx: ι→PV×Value)(st:St)(a:Act):Nat ⊕ ι→PV×Value
 | .inl s=>(st.get s,a.tmps.getD s undef)
 | .inr i=>cx i
structure SR {ι :Type} (cx: ι→PV×Value) (w0:World) (N:It) (nt:Nat) (st:St) (a:Act) (w:World) (M:It) (β :Ha):Prop where
 defs:a.defers= []
 nt:a.tmps.size=nt
 sh:SH (hold cx st a) w0 N st.obj (fun d=>Ag d (st.ob.map Prod.fst)) w M β
theorem Bi{α :Type}(d x: α)(r:List (Nat×α))(a s:Nat):Bp d ((a,x)::r) s=if a=s then x else Bp d r s:=by
 by_cases h:a=s
 ·subst h;simp [Bp]
 ·have:Nat.beq a s=false:=by
   cases hb:Nat.beq a s
   ·rfl
   ·exact absurd (Nat.eq_of_beq_eq_true hb) h
  simp [Bp,this,h]
theorem Am(d:Nat)(l:List Nat):Ag d l=true↔d∉l:=by
 induction l with
 |nil=>simp [Ag]
 |cons a l ih=>
  by_cases h:a=d
  ·subst h;simp [Ag]
  ·have:Nat.beq a d=false:=by
    cases hb:Nat.beq a d
    ·rfl
    ·exact absurd (Nat.eq_of_beq_eq_true hb) h
   have h':d≠a:=fun e=>h e.symm
   simp [Ag,this,ih,h']
theorem Ik{α :Type}(d: α)(l r:List (Nat×α))(s:Nat):Bp d (l++r) s=if s∈l.map Prod.fst then Bp d l s else Bp d r s:=by
 induction l with
 |nil=>simp
 |cons x l ih=>
  obtain ⟨a,y⟩:=x
  rw [List.cons_append,Bi,Bi,ih]
  by_cases h:a=s
  ·subst h;simp
  ·have:¬s=a:=fun e=>h e.symm
   simp only [h,if_false,List.map_cons,List.mem_cons,this,false_or]
theorem J9(l r:List Nat)(d:Nat):Ag d (l++r)=(Ag d l && Ag d r):=by
 rw [Bool.eq_iff_iff];simp [Am]
theorem Uq(K:List Nat):∀(l:List (Nat×List PV)) (d:Nat),Bp [] (rem K l) d=if d∈K then [] else Bp [] l d
 | [],d=>by simp [rem,Bp]
 |(a,x)::r,d=>by
  simp only [rem]
  cases h:Ag a K with
  |true=>
   have ha:=(Am _ _).1 h
   simp only
   rw [Bi,Bi,Uq K r d]
   by_cases e:a=d
   ·subst e;simp [ha]
   ·simp [e]
  |false=>
   have ha:a∈K:=by
    have:¬Ag a K=true:=by rw [h];simp
    rw [Am] at this;exact Classical.not_not.1 this
   simp only
   rw [Bi,Uq K r d]
   by_cases e:a=d
   ·subst e;simp [ha]
   ·simp [e]
theorem Xj(K:List Nat):∀(l:List (Nat×List PV)) (d:Nat),d∈(rem K l).map Prod.fst↔d∈l.map Prod.fst∧d∉K
 | [],d=>by simp [rem]
 |(a,x)::r,d=>by
  simp only [rem]
  cases h:Ag a K with
  |true=>
   have ha:=(Am _ _).1 h
   simp only [List.map_cons,List.mem_cons,Xj K r d]
   constructor
   ·rintro (rfl|⟨h1,h2⟩)
    ·exact ⟨.inl rfl,ha⟩
    ·exact ⟨.inr h1,h2⟩
   ·rintro ⟨h1|h1,h2⟩
    ·exact .inl h1
    ·exact .inr ⟨h1,h2⟩
  |false=>
   have ha:a∈K:=by
    have:¬Ag a K=true:=by rw [h];simp
    rw [Am] at this;exact Classical.not_not.1 this
   simp only [List.map_cons,List.mem_cons,Xj K r d]
   constructor
   ·rintro ⟨h1,h2⟩;exact ⟨.inr h1,h2⟩
   ·rintro ⟨h1|h1,h2⟩
    ·subst h1;exact absurd ha h2
    ·exact ⟨h1,h2⟩
theorem Qs{a b:List Nat}{d:Nat}(h:d∈a↔d∈b):Ag d a=Ag d b:=by
 rw [Bool.eq_iff_iff,Am,Am,h]
theorem J8{α :Type}{d: α}(f:Nat→α):∀(keys:List Nat) (s:Nat),Bp d (keys.map fun x=>(x,f x)) s=if s∈keys then f s else d:=by
 intro keys
 induction keys with
 |nil=>intro s;simp [Bp]
 |cons x keys ih=>
  intro s
  rw [List.map_cons,Bi,ih]
  by_cases e:x=s
  ·subst e;simp
  ·have:¬s=x:=fun e'=>e e'.symm
   simp only [e,if_false,List.mem_cons,this,false_or]
theorem Yu(d:Nat):∀(l:List Nat) (x:Nat),x∈Aby d l↔x=d∨x∈l
 | [],x=>by simp [Aby]
 |b::r,x=>by
  simp only [Aby]
  cases h1:Nat.blt d b with
  |true=>simp
  |false=>
   cases h2:Nat.beq d b with
   |true=>
    have:=Nat.eq_of_beq_eq_true h2
    subst this
    simp
   |false=>
    simp only [List.mem_cons,Yu d r x]
    constructor
    ·rintro (h|h|h)
     ·exact .inr (.inl h)
     ·exact .inl h
     ·exact .inr (.inr h)
    ·rintro (h|h|h)
     ·exact .inr (.inl h)
     ·exact .inl h
     ·exact .inr (.inr h)
theorem I2:∀(l:List Nat) (x:Nat),x∈U1 l↔x∈l
 | [],x=>Iff.rfl
 |d::r,x=>by simp only [U1,Yu,I2 r x,List.mem_cons]
theorem V4{α :Type}(d: α):∀(l:List (Nat×α)) (s:Nat),s∉l.map Prod.fst→Bp d l s=d
 | [],s,_=>rfl
 |(a,x)::r,s,h=>by
  rw [Bi,if_neg (fun e=>h (by simp [e]))]
  exact V4 d r s (fun hs=>h (by simp at hs ⊢;exact .inr hs))
theorem V9(l:List (Nat×List PV))(d:Nat):(d∈(Ml l).map Prod.fst)=(d∈l.map Prod.fst):=by
 have e:(Ml l).map Prod.fst=U1 (l.map Prod.fst):=by
  unfold Ml
  rw [List.map_map]
  exact List.map_id' _
 rw [e]
 exact propext (I2 _ _)
theorem i4(l:List (Nat×List PV))(d:Nat):Bp [] (Ml l) d=Bp [] l d:=by
 unfold Ml
 rw [J8]
 by_cases h:d∈U1 (l.map Prod.fst)
 ·rw [if_pos h]
 ·rw [if_neg h,V4 [] l d (fun hm=>h ((I2 _ _).2 hm))]
theorem Aao(l:List (Nat×List PV))(d:Nat):Ag d ((Ml l).map Prod.fst)=Ag d (l.map Prod.fst):=Qs (by rw [V9])
theorem Uf(o l:List (Nat×List PV))(d:Nat):Bp [] (Aep o l) d=Bp [] (o++l) d:=by
 match o with
 | []=>rfl
 | [x]=>rfl
 |x::y::r=>
  show Bp [] ((x::y::r)++rem ((x::y::r).map Prod.fst) l) d=_
  rw [Ik,Ik,Uq]
  by_cases h:d∈(x::y::r).map Prod.fst
  ·rw [if_pos h,if_pos h]
  ·rw [if_neg h,if_neg h,if_neg h]
theorem Xd(o l:List (Nat×List PV))(d:Nat):Ag d ((Aep o l).map Prod.fst)=Ag d ((o++l).map Prod.fst):=by
 match o with
 | []=>rfl
 | [x]=>rfl
 |x::y::r=>
  refine Qs ?_
  show d∈((x::y::r)++rem ((x::y::r).map Prod.fst) l).map Prod.fst↔_
  rw [List.map_append,List.map_append,List.mem_append,List.mem_append,Xj]
  constructor
  ·rintro (h|⟨h,_⟩)
   ·exact .inl h
   ·exact .inr h
  ·rintro (h|h)
   ·exact .inl h
   ·by_cases e:d∈(x::y::r).map Prod.fst
    ·exact .inl e
    ·exact .inr ⟨h,e⟩
theorem Abs(a:Act)(d s:Nat)(v:Value)(hd:d < a.tmps.size):(a.put (some d) v).tmps.getD s undef=if d=s then v else a.tmps.getD s undef:=by
 simp only [Act.put,Array.getD_eq_getD_getElem?,Array.getElem?_setIfInBounds]
 by_cases h:d=s
 ·subst h;simp [hd]
 ·simp [h]
theorem Db(st:St)(d s:Nat)(p:PV):(st.app ⟨[(d,p)],[]⟩).get s=if d=s then p else st.get s:=Bi _ _ _ _ _
section
variable {ι :Type} {cx: ι→PV×Value} {w0 w w':World} {N M M':It} {β β':Ha} {nt:Nat} {st st':St} {a:Act}
theorem SR.reg(h:SR cx w0 N nt st a w M β)(s:Nat):Al w M β w0.heap.size (st.get s) (a.tmps.getD s undef):=h.sh.reg (.inl s)
def Q6(d:Nat):Hw (Nat ⊕ ι)→Option (Hw (Option (Nat ⊕ ι)))
 | .slot (.inl s)=>if d=s then some (.slot none) else some (.slot (some (.inl s)))
 | .slot (.inr i)=>some (.slot (some (.inr i)))
 | .cell x i=>some (.cell x i)
def Ae7(d:Nat):Hw (Option (Nat ⊕ ι))→Hw (Nat ⊕ ι)
 | .slot none=> .slot (.inl d)
 | .slot (some k)=> .slot k
 | .cell x i=> .cell x i
theorem Sn{d:Nat}{k:Hw (Nat ⊕ ι)}{j:Hw (Option (Nat ⊕ ι))}(h:Q6 d k=some j):k=Ae7 d j:=by
 cases k with
 |slot k=>
  cases k with
  |inl s=>
   simp only [Q6] at h
   by_cases e:d=s
   ·rw [if_pos e] at h;injection h with h;subst h;rw [←e];rfl
   ·rw [if_neg e] at h;injection h with h;subst h;rfl
  |inr i=>injection h with h;subst h;rfl
 |cell x i=>injection h with h;subst h;rfl
theorem SR.of_cons{O:Nat→List PV}{D:Nat→Bool}(hdef:a.defers= [])(hnt:a.tmps.size=nt){d:Nat}(hd:d < nt){p:PV}{v:Value}{st0:St}
  (h:SH (Jg (p,v) (hold cx st0 a)) w0 N O D w M β) (hg:∀s,st'.get s=if d=s then p else st0.get s) (hO:∀x,st'.obj x=O x)
  (hD:∀x,Ag x (st'.ob.map Prod.fst)=true→D x=true):SR cx w0 N nt st' (a.put (some d) v) w M β :=by
 have hds:d < a.tmps.size:=by rw [hnt];exact hd
 have e:st'.obj=O:=funext hO
 refine ⟨hdef,by simp [Act.put,hnt],?_⟩
 rw [e]
 have hH:∀s,hold cx st' (a.put (some d) v) (.inl s)=(if d=s then p else st0.get s,if d=s then v else a.tmps.getD s undef):=fun s=>by
  simp only [hold];rw [hg,Abs a d s v hds]
 refine h.perm (fun k=> ?_) (fun d b n hb=>(h.box d b n hb).2.2) (fun x hx=>h.dom x (hD x hx)) (Q6 d) ?_ (fun k k' j h1 h2=>(Sn h1).trans (Sn h2).symm)
 ·cases k with
  |inl s=>
   rw [hH]
   by_cases e:d=s
   ·simp only [e,if_true];exact h.reg none
   ·simp only [e,if_false];exact h.reg (some (.inl s))
  |inr i=>exact h.reg (some (.inr i))
 ·intro key s u ho
  cases key with
  |slot k=>
   cases k with
   |inl t=>
    have ho':(hold cx st' (a.put (some d) v) (.inl t)).1.sv=some s∧s.own=true∧(hold cx st' (a.put (some d) v) (.inl t)).2=u:=ho
    rw [hH] at ho'
    by_cases e:d=t
    ·refine ⟨.slot none,by simp only [Q6];rw [if_pos e],?_⟩
     rw [if_pos e,if_pos e] at ho';exact ho'
    ·refine ⟨.slot (some (.inl t)),by simp only [Q6];rw [if_neg e],?_⟩
     rw [if_neg e,if_neg e] at ho';exact ho'
   |inr i=>exact ⟨_,rfl,ho⟩
  |cell x i=>exact ⟨_,rfl,ho⟩
theorem SR.put(h:SR cx w0 N nt st a w M β)(d:Nat)(p:PV)(v:Value)(hd:d < nt)(hr:Al w M β w0.heap.size p v)(hn:∀s,p.sv=some s→s.own=false):
  SR cx w0 N nt (st.app ⟨[(d,p)],[]⟩) (a.put (some d) v) w M β :=
 SR.of_cons h.defs h.nt hd (h.sh.cons p v hr (fun s h1 h2=>by rw [hn s h1] at h2;cases h2)) (fun s=>Db st d s p) (fun _=>rfl) (fun _ h=>h)
theorem SR.dput(h:SR cx w0 N nt st a w M β)(d:Option Nat)(p:PV)(v:Value)(hd:∀x,d=some x→x < nt)(hr:Al w M β w0.heap.size p v)(hn:∀s,p.sv=some s→s.own=false):
  SR cx w0 N nt (st.app (dput d p)) (a.put d v) w M β :=by
 cases d with
 |none=>exact h
 |some x=>exact h.put x p v (hd x rfl) hr hn
theorem SR.world(h:SR cx w0 N nt st a w M β)(hb:Below w.heap.size w w'):SR cx w0 N nt st a w' M β :=⟨h.defs,h.nt,h.sh.world hb⟩
theorem SR.drawn(h:SR cx w0 N nt st a w M β):SR cx w0 N nt st a { w with drawn:=w.drawn+1 } M β :=⟨h.defs,h.nt,h.sh.drawn⟩
theorem SR.drop(h:SR cx w0 N nt st a w M β)(s:Nat):SR cx w0 N nt (st.app ⟨[(s,(st.get s).view)],[]⟩) a w M β :=by
 refine ⟨h.defs,h.nt,h.sh.hold (fun k=> ?_) some (fun k sv h1 h2=> ?_) (fun k k' j h1 h2=>by injection h1 with h1;injection h2 with h2;rw [h1,h2])⟩
 ·cases k with
  |inl t=>
   simp only [hold]
   rw [Db]
   by_cases e:s=t
   ·subst e;rw [if_pos rfl];exact (h.reg s).view
   ·rw [if_neg e];exact h.reg t
  |inr i=>exact h.sh.reg (.inr i)
 ·cases k with
  |inl t=>
   simp only [hold] at h1
   rw [Db] at h1
   by_cases e:s=t
   ·rw [if_pos e] at h1;rw [Ej h1] at h2;cases h2
   ·rw [if_neg e] at h1;exact ⟨_,rfl,h1,rfl⟩
  |inr i=>exact ⟨_,rfl,h1,rfl⟩
theorem Qw{O:Nat→List PV}{s:Nat}{sv:SV}(h1:(st.get s).sv=some sv)(h2:sv.own=true):Lb (hold cx st a) O w β (.slot (.inl s)) sv (a.tmps.getD s undef):=⟨h1,h2,rfl⟩
theorem Nq{O:Nat→List PV}{s:Nat}{key:Hw (Nat ⊕ ι)}{sv:SV}{v:Value}(h:Lb (hold cx (st.app ⟨[(s,(st.get s).view)],[]⟩) a) O w β key sv v):
  Lb (hold cx st a) O w β key sv v∧key≠ .slot (.inl s):=by
 cases key with
 |slot k=>
  cases k with
  |inl t=>
   obtain ⟨h1,h2,h3⟩:=h
   simp only [hold] at h1
   rw [Db] at h1
   by_cases e:s=t
   ·rw [if_pos e] at h1;rw [Ej h1] at h2;cases h2
   ·rw [if_neg e] at h1;exact ⟨⟨h1,h2,h3⟩,fun e'=>by injection e' with e';injection e' with e';exact e e'.symm⟩
  |inr i=>exact ⟨h,fun e=>by injection e with e;cases e⟩
 |cell d i=>exact ⟨h,fun e=>by cases e⟩
theorem Hv(l:List PV):∀(off:Nat) (new:List PV),(Da l off new).length=l.length:=by
 induction l with
 |nil=>intro off new;simp [Da]
 |cons p r ih=>
  intro off new
  cases new with
  |nil=>cases off<;>simp [Da]
  |cons q new=>
   cases off with
   |zero=>simp [Da,ih]
   |succ n=>simp [Da,ih]
theorem Ji(l:List PV):∀(off:Nat) (new:List PV) (i:Nat),off+new.length≤l.length→
  (Da l off new)[i]? =if off≤i∧i < off+new.length then new[i - off]? else l[i]? :=by
 induction l with
 |nil=>
  intro off new i h
  have h1:off=0:=by simp at h;omega
  have h2:new= []:=List.eq_nil_of_length_eq_zero (by simp only [List.length_nil] at h;omega)
  subst h1;subst h2;simp [Da]
 |cons p r ih=>
  intro off new i h
  cases new with
  |nil=>
   have:Da (p::r) off []=p::r:=by cases off<;>rfl
   rw [this,if_neg (fun hh=>absurd hh.2 (by simp only [List.length_nil];omega))]
  |cons q new=>
   cases off with
   |zero=>
    have e:Da (p::r) 0 (q::new)=q::Da r 0 new:=rfl
    rw [e]
    cases i with
    |zero=>simp
    |succ i=>
     rw [List.getElem?_cons_succ,ih 0 new i (by simp at h ⊢;omega)]
     by_cases hi:i < new.length
     ·rw [if_pos ⟨by omega,by omega⟩,if_pos ⟨by omega,by simp;omega⟩];simp
     ·rw [if_neg (by omega),if_neg (by simp;omega)];simp
   |succ n=>
    have e:Da (p::r) (n+1) (q::new)=p::Da r n (q::new):=rfl
    rw [e]
    cases i with
    |zero=>rw [if_neg (by omega)];simp
    |succ i=>
     rw [List.getElem?_cons_succ,ih n (q::new) i (by simp at h ⊢;omega)]
     by_cases hi:n≤i∧i < n+(q::new).length
     ·rw [if_pos hi,if_pos ⟨by omega,by omega⟩]
      congr 1;omega
     ·rw [if_neg hi,if_neg (by omega)];simp
theorem J7(l:List PV):∀n,Ir l n=true↔l.length=n:=by
 induction l with
 |nil=>intro n;cases n<;>simp [Ir]
 |cons p r ih=>intro n;cases n<;>simp [Ir,ih]
theorem Gd(l:List PV):∀n,G5 l n=true↔n≤l.length:=by
 induction l with
 |nil=>intro n;cases n<;>simp [G5]
 |cons p r ih=>intro n;cases n<;>simp [G5,ih]
theorem Xb(cs:List Value)(off:Nat)(vs:List Value)(h:off+vs.length≤cs.length)(i:Nat):
  (cs.take off++vs++cs.drop (off+vs.length))[i]? =if off≤i∧i < off+vs.length then vs[i - off]? else cs[i]? :=by
 rw [List.append_assoc]
 by_cases h1:i < off
 ·rw [if_neg (by omega),List.getElem?_append_left (by simp;omega),List.getElem?_take,if_pos h1]
 ·rw [List.getElem?_append_right (by simp;omega)]
  have hl:(cs.take off).length=off:=by simp;omega
  rw [hl]
  by_cases h2:i < off+vs.length
  ·rw [if_pos ⟨by omega,h2⟩,List.getElem?_append_left (by omega)]
  ·rw [if_neg (by omega),List.getElem?_append_right (by omega),List.getElem?_drop]
   congr 1;omega
def RC(w:World)(M:It)(β :Ha)(B:Nat)(l:List PV)(cs:Array Value):Prop:=l.length=cs.size∧∀(i:Nat) (p:PV) (v:Value),l[i]? =some p→cs[i]? =some v→Al w M β B p v∧v.oneCell'=true
theorem Abf{B:Nat}{p:PV}{v:Value}(h:Al w M β B p v)(h1:Jt p.cells=true):
  v.cells.toList.length=p.cells.length∧(∀(i:Nat) (q:PV) (u:Value),p.cells[i]? =some q→v.cells.toList[i]? =some u→Al w M β B q u∧u.oneCell'=true):=by
 have single:∀p v,Al w M β B p v→p.one=true→p.cells= [p]→v.cells.toList.length=p.cells.length∧(∀(i:Nat) (q:PV) (u:Value),p.cells[i]? =some q→v.cells.toList[i]? =some u→Al w M β B q u∧u.oneCell'=true):=by
  intro p v h h1 h2
  have ho:=h.one h1
  have hv:v.cells= #[v]:=by cases v<;>first|rfl|(simp [Value.oneCell'] at ho)
  rw [h2,hv]
  refine ⟨rfl,fun i q u hq hu=> ?_⟩
  cases i with
  |zero=>simp at hq hu;subst hq;subst hu;exact ⟨h,ho⟩
  |succ i=>simp at hq
 cases p with
 |agg l=>
  cases h with
  |agg l cs hl ho hr=>
   refine ⟨hl.symm,fun i q u hq hu=>⟨hr i q u hq hu,ho u ?_⟩⟩
   exact List.mem_of_getElem? hu
  |row p s hs=>cases hs
 |any=>simp [PV.cells,Jt,PV.one] at h1
 |tup l=>simp [PV.cells,Jt,PV.one] at h1
 |ref l=>simp [PV.cells,Jt,PV.one] at h1
 |arrO x=>simp [PV.cells,Jt,PV.one] at h1
 |mapO _ _ _ _=>simp [PV.cells,Jt,PV.one] at h1
 |val v=>exact single _ _ h (by simp only [PV.cells,Jt] at h1;split at h1;assumption;cases h1) rfl
 |_=>exact single _ _ h rfl rfl
theorem B3{l:List PV}{i:Nat}{q:PV}(h:(l.map PV.view)[i]? =some q):∃p,l[i]? =some p∧q=p.view:=by
 rw [List.getElem?_map] at h
 cases hp:l[i]? with
 |none=>rw [hp] at h;cases h
 |some p=>rw [hp] at h;injection h with h;exact ⟨p,rfl,h.symm⟩
theorem Iz{B:Nat}{p:PV}{v:Value}(h:Al w M β B p v)(h1:Jt p.cells=true):
  v.cells.toList.length=(p.cells.map PV.view).length∧(∀(i:Nat) (q:PV) (u:Value),(p.cells.map PV.view)[i]? =some q→v.cells.toList[i]? =some u→Al w M β B q u∧u.oneCell'=true):=by
 obtain ⟨c1,c2⟩:=Abf h h1
 refine ⟨by rw [c1];simp,fun i q u hq hu=> ?_⟩
 obtain ⟨p',hp',rfl⟩:=B3 hq
 obtain ⟨r1,r2⟩:=c2 i p' u hp' hu
 exact ⟨r1.view,r2⟩
theorem SR.opd(h:SR cx w0 N nt st a w M β)(x:Operand):Al w M β w0.heap.size (st.opd x) (a.eval x):=by
 cases x with
 |tmp t=>exact h.reg t
 |const v=>
  show Al w M β w0.heap.size (match Rx v with|true=> .val v|false=> .any) v
  cases hv:Rx v with
  |true=>exact .val v (by rw [←Xg];exact hv)
  |false=>exact .any v
 |global g=>exact .any _
 |func f=>exact .clo f 0 [] [] rfl (fun i p v hp=>by simp at hp)
theorem SR.valOf(h:SR cx w0 N nt st a w M β):∀(l:List Operand),K7 st l=true→∀x∈l,a.eval x=st.valOf x:=by
 intro l
 induction l with
 |nil=>intro _ x hx;cases hx
 |cons y l ih=>
  intro hl x hx
  simp only [K7] at hl
  split at hl
  ·rename_i v hy
   rcases List.mem_cons.1 hx with e|e
   ·subst e
    have:=h.opd x
    rw [hy] at this
    simp only [St.valOf,hy]
    exact this.val_eq
   ·exact ih hl x e
  ·cases hl
theorem Y1{l:List PV}{Q:Nat→PV→Value→Prop}(h:∀(i:Nat) (p:PV),l[i]? =some p→∃v,Q i p v):
  ∃vs:List Value,vs.length=l.length∧∀(i:Nat) (p:PV) (v:Value),l[i]? =some p→vs[i]? =some v→Q i p v:=by
 induction l generalizing Q with
 |nil=>exact ⟨[],rfl,fun i p v hp=>by simp at hp⟩
 |cons p r ih=>
  obtain ⟨v,hv⟩:=h 0 p rfl
  obtain ⟨vs,h1,h2⟩:=ih (Q:=fun i=>Q (i+1)) (fun i q hq=>h (i+1) q (by simpa using hq))
  refine ⟨v::vs,by simp [h1],fun i q u hq hu=> ?_⟩
  cases i with
  |zero=>simp at hq hu;subst hq;subst hu;exact hv
  |succ i=>exact h2 i q u (by simpa using hq) (by simpa using hu)
def Hz(w:World)(M:It)(β :Ha)(B:Nat)(ad:Addr)(l:List PV):Prop:=∀(i:Nat) (p:PV),l[i]? =some p→∃v,w.cell? (ad.add i)=some v∧Al w M β B p v∧v.oneCell'=true
theorem Hz.views{B:Nat}{ad:Addr}{l:List PV}(h:Hz w M β B ad l):Hz w M β B ad (l.map PV.view):=fun i p hp=>by
 obtain ⟨q,h1,rfl⟩:=B3 hp
 obtain ⟨v,a,b,c⟩:=h i q h1
 exact ⟨v,a,b.view,c⟩
theorem Za:∀(l:List PV),Dg (l.map PV.view)=Dg l:=by
 intro l
 induction l with
 |nil=>rfl
 |cons p l ih=>cases p<;>simp only [List.map,PV.view,Dg]<;>exact ih
theorem Adv{b:Nat}{x:LX}(h:st.vobj b= [.arrO x]):st.obj b= [.arrO x]:=by
 unfold St.vobj at h
 generalize st.obj b=l at h ⊢
 match l,h with
 | [],h=>cases h
 | [p],h=>cases p<;>simp [PV.view] at h ⊢ <;>exact h
 |p::q::r,h=>simp at h
theorem Aa5(b off sz:Nat):((st.vobj b).drop off).take sz=(((st.obj b).drop off).take sz).map PV.view:=by
 simp only [St.vobj,List.map_drop,List.map_take]
theorem Ac1{B:Nat}{x:LX}{v:Value}(h:Al w M β B (.arrO x) v):False:=by
 cases h with
 |row p s hs=>cases hs
theorem Ac2{B:Nat}{g1 g2:Bool}{x y:LX}{v:Value}(h:Al w M β B (.mapO g1 g2 x y) v):False:=by
 cases h with
 |row p s hs=>cases hs
theorem Wu{B b n:Nat}{l:List PV}{x:LX}(h:G3 w M β B b n l)(hl:l= [.arrO x]):∃cs t,w.heap[b]? =some (.cells cs t (0,0))∧x.len=n∧n*x.sz≤cs.size∧
  ∀(i j:Nat) (p:PV) (v:Value),i < n→(x.row i)[j]? =some p→cs[i*x.sz+j]? =some v→Al w M β B p v∧v.oneCell'=true:=by
 cases h with
 |cells l cs t q1 q2 q3=>
  subst hl
  have hs:1≤cs.size:=q2
  have:=(q3 0 _ (cs[0]'(by omega)) rfl (Array.getElem?_eq_getElem (by omega))).1
  exact (Ac1 this).elim
 |arr y cs t q1 q2 q3 q4=>injection hl with hl;injection hl with hl;subst hl;exact ⟨cs,t,q1,q2,q3,q4⟩
 |map=>injection hl with hl;cases hl
theorem Acn{B b n:Nat}{l:List PV}{gk gv:Bool}{ks vs:LX}(h:G3 w M β B b n l)(hl:l= [.mapO gk gv ks vs]):∃es clock,w.heap[b]? =some (.map es clock)∧es.size=ks.len∧vs.len=ks.len∧
  ∀(i:Nat) (e:MapEntry),es[i]? =some e→Al w M β B (Oq gk (ks.row i)) e.key∧Al w M β B (Oq gv (vs.row i)) e.val:=by
 cases h with
 |cells l cs t q1 q2 q3=>
  subst hl
  have hs:1≤cs.size:=q2
  have:=(q3 0 _ (cs[0]'(by omega)) rfl (Array.getElem?_eq_getElem (by omega))).1
  exact (Ac2 this).elim
 |arr=>injection hl with hl;cases hl
 |map gk' gv' ks' vs' es clock q1 q2 q3 q4=>injection hl with hl;injection hl with e1 e2 e3 e4;subst e1;subst e2;subst e3;subst e4;exact ⟨es,clock,q1,q2,q3,q4⟩
theorem Wb:∀ {l:List PV},Dg l=true→∀(i:Nat) (p:PV),l[i]? =some p→(∀x,p≠ .arrO x)∧(∀g1 g2 x y,p≠ .mapO g1 g2 x y)
 | [],_,i,p,h=>by simp at h
 |q::r,h,i,p,hp=>by
  have hq:(∀x,q≠ .arrO x)∧(∀g1 g2 x y,q≠ .mapO g1 g2 x y)∧Dg r=true:=by
   cases q with
   |arrO x=>cases h
   |mapO a b c d=>cases h
   |_=>exact ⟨fun x e=>(by cases e),fun a b c d e=>(by cases e),h⟩
  cases i with
  |zero=>simp at hp;subst hp;exact ⟨hq.1,hq.2.1⟩
  |succ i=>exact Wb hq.2.2 i p (by simpa using hp)
theorem SR.cellsAt(h:SR cx w0 N nt st a w M β){d off b n:Nat}(hβ : β d=some (b,n)){l:List PV}(hl:∀(i:Nat) (p:PV),l[i]? =some p→(st.obj d)[off+i]? =some p)(hp:Dg l=true):Hz w M β w0.heap.size ⟨b,off,none⟩ l:=by
 intro i p hp'
 obtain ⟨_,_,h3⟩:=h.sh.box d b n hβ
 have hn:=Wb hp i p hp'
 have hq:=hl i p hp'
 generalize st.obj d=od at h3 hq
 cases h3 with
 |cells l cs t q1 q2 q3=>
  have hlt:off+i < cs.size:=by
   have:=(List.getElem?_eq_some_iff.1 hq).1
   omega
  have hv:cs[off+i]? =some cs[off+i]:=Array.getElem?_eq_getElem hlt
  refine ⟨_,?_,(q3 _ p _ hq hv)⟩
  rw [P2,World.cell?,q1]
  exact hv
 |arr x cs t q1 q2 q3 q4=>
  rw [List.getElem?_cons] at hq
  split at hq
  ·injection hq with hq;exact absurd hq.symm (hn.1 x)
  ·simp at hq
 |map g1 g2 ks vs es clock q1 q2 q3 q4=>
  rw [List.getElem?_cons] at hq
  split at hq
  ·injection hq with hq;exact absurd hq.symm (hn.2 _ _ _ _)
  ·simp at hq
theorem K9{l:List PV}{off sz i:Nat}{p:PV}(h:((l.drop off).take sz)[i]? =some p):l[off+i]? =some p:=by
 rw [List.getElem?_take] at h
 split at h
 ·rw [List.getElem?_drop] at h;exact h
 ·cases h
end
end Go.Proofs.YtmimkinjcfekmaaGreat.Ev
