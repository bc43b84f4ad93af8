/-  The relation is kept: a variable is made, written; a row is made, written. -/
import Derived.Test.YtmimkinjcfekmaaGreatFb
namespace Go.Proofs.YtmimkinjcfekmaaGreat.Ev
open Go Go.RowKit
set_option linter.unusedVariables false
set_option linter.unusedSimpArgs false
set_option linter.unnecessarySimpa false
section
variable {κ κ':Type} {H: κ→PV×Value} {H': κ'→PV×Value} {w0 w w':World} {N M M':It} {O O':Nat→List PV} {D D':Nat→Bool} {β β':Ha}
theorem M9(w:World)(o:Obj){x:Addr}{v:Value}(h:w.cell? x=some v):(w.alloc o).cell? x=some v:=by
 rw [World.cell?_of_block (w:=w) (Below.heap_alloc w o x.block (Hc h))];exact h
theorem SH.alloc(h:SH H w0 N O D w M β)(d n:Nat)(l:List PV)(o:Obj)(hnew:D d=true)
  (hO1:O' d=l) (hO2:∀x,x≠d→O' x=O x) (hD:∀x,D' x=true→D x=true∧x≠d)
  (hown:∀(i:Nat) (p:PV) (s:SV),l[i]? =some p→p.sv=some s→s.own=true→∀v,(w.alloc o).cell? ⟨w.heap.size,i,none⟩=some v→s.n=0∧∃a,v= .slice a 0 0)
  (hobj:∀(M':It) (β':Ha),(∀p v,Al w M β w0.heap.size p v→Al (w.alloc o) M' β' w0.heap.size p v)→β' d=some (w.heap.size,n)→G3 (w.alloc o) M' β' w0.heap.size w.heap.size n l):
  ∃M' β',SH H w0 N O' D' (w.alloc o) M' β'∧β' d=some (w.heap.size,n)∧(∀p v,Al w M β w0.heap.size p v→Al (w.alloc o) M' β' w0.heap.size p v):=by
 have hβ : β d=none:=h.dom d hnew
 let M':It:=fun b=>if b=w.heap.size then some 0 else M b
 let β':Ha:=fun x=>if x=d then some (w.heap.size,n) else β x
 have hMw:M w.heap.size=none:=by
  cases hm:M w.heap.size with
  |none=>rfl
  |some n=>exact absurd (h.mlt _ _ hm) (by omega)
 have hE:Zu w M (w.alloc o) M':=fun x v hi hc=>by
  have hx:=Hc hc
  refine ⟨fun n hn=>hi n ?_,M9 w _ hc⟩
  simp only [M'] at hn
  rw [if_neg (by omega)] at hn
  exact hn
 have hle:w0.heap.size≤w.heap.size:=h.bel.size
 have hβb:∀x b n,β x=some (b,n)→b < w.heap.size:=fun x b n hb=>h.mlt b 0 (h.box x b n hb).2.1
 have hmono:∀x y,β x=some y→β' x=some y:=fun x y hb=>by
  simp only [β']
  by_cases e:x=d
  ·subst e;rw [hβ] at hb;cases hb
  ·rw [if_neg e];exact hb
 have hB:∀x:Addr,x.block < w0.heap.size→(w.alloc o).cell? x=w.cell? x:=fun x hx=>
  World.cell?_of_block (w:=w) (Below.heap_alloc w _ x.block (by omega))
 have hR:∀p v,Al w M β w0.heap.size p v→Al (w.alloc o) M' β' w0.heap.size p v:=fun p v hr=>hr.ext hE hB hmono
 have hd: β' d=some (w.heap.size,n):=by simp [β']
 have hOwn:∀key s v,Lb H O' (w.alloc o) β' key s v→Lb H O w β key s v∨((∃a,v= .slice a 0 0)∧s.n=0):=by
  intro key s v ho
  cases key with
  |slot k=>exact .inl ho
  |cell x i=>
   obtain ⟨b,m,p,h1,h2,h3,h4,h5⟩:=ho
   simp only [β'] at h1
   by_cases e:x=d
   ·subst e
    rw [if_pos rfl] at h1
    injection h1 with h1
    injection h1 with h1 _
    subst h1
    rw [hO1] at h2
    have:=hown i p s h2 h3 h4 v h5
    exact .inr ⟨this.2,this.1⟩
   ·rw [if_neg e] at h1
    have hbl:=hβb x b m h1
    refine .inl ⟨b,m,p,h1,by rw [←hO2 x e];exact h2,h3,h4,?_⟩
    rw [←World.cell?_of_block (w:=w) (a:=⟨b,i,none⟩) (Below.heap_alloc w o b hbl)];exact h5
 have tb0:∀v g,(∃a,v= .slice a 0 0)→tb v=some g→False:=by
  rintro v g ⟨a,rfl⟩ hg
  cases a<;>cases hg
 refine ⟨M',β',⟨h.bel.alloc hle _,?_,?_,?_,?_,?_,fun k=>hR _ _ (h.reg k),?_,?_,?_⟩,hd,hR⟩
 ·intro b hb
  simp only [M']
  rw [if_neg (by omega)]
  exact h.mN b hb
 ·intro b n hn
  simp only [M'] at hn
  by_cases e:b=w.heap.size
  ·subst e;simp
  ·rw [if_neg e] at hn;have:=h.mlt b n hn;simp;omega
 ·intro x b m hb
  by_cases e:x=d
  ·subst e
   rw [hd] at hb
   injection hb with hb
   injection hb with hb hb2
   subst hb;subst hb2
   exact ⟨hle,by simp [M'],by rw [hO1];exact hobj M' β' hR hd⟩
  ·simp only [β'] at hb
   rw [if_neg e] at hb
   obtain ⟨h1,h2,h3⟩:=h.box x b m hb
   have hbl:=h.mlt b 0 h2
   exact ⟨h1,by simp only [M'];rw [if_neg (by omega)];exact h2,by rw [hO2 x e];exact h3.ext (Below.heap_alloc w _ b hbl) hR⟩
 ·intro x y b m m' hx hy
  simp only [β'] at hx hy
  by_cases e1:x=d<;>by_cases e2:y=d
  ·rw [e1,e2]
  ·rw [if_pos e1] at hx;rw [if_neg e2] at hy
   injection hx with hx;injection hx with hx _
   have:=hβb y b m' hy
   omega
  ·rw [if_neg e1] at hx;rw [if_pos e2] at hy
   injection hy with hy;injection hy with hy _
   have:=hβb x b m hx
   omega
  ·rw [if_neg e1] at hx;rw [if_neg e2] at hy
   exact h.inj x y b m m' hx hy
 ·intro x hx
  obtain ⟨h1,h2⟩:=hD x hx
  simp only [β']
  rw [if_neg h2]
  exact h.dom x h1
 ·intro key s v ho
  rcases hOwn key s v ho with ho|⟨⟨a,ha⟩,hn⟩
  ·have ht:=h.tok key s v ho
   refine ht.ext (fun g hg=> ?_)
   obtain ⟨_,k,hk⟩:=ht.lt hg
   have hgl:=h.mlt g k hk
   exact ⟨Below.heap_alloc w _ g hgl,by simp only [M'];rw [if_neg (by omega)]⟩
  ·exact .inl ⟨a,ha,hn⟩
 ·intro key key' s s' v v' g ho ho' hne hg
  rcases hOwn key s v ho with ho|⟨ha,_⟩
  ·rcases hOwn key' s' v' ho' with ho'|⟨ha,_⟩
   ·exact h.tokne key key' s s' v v' g ho ho' hne hg
   ·exact fun hg'=>tb0 _ _ ha hg'
  ·exact (tb0 _ _ ha hg).elim
 ·intro key s v g x m ho hg
  rcases hOwn key s v ho with ho|⟨ha,_⟩
  ·simp only [β']
   by_cases e:x=d
   ·rw [if_pos e]
    intro e3
    injection e3 with e3
    injection e3 with e3 _
    obtain ⟨_,k,hk⟩:=(h.tok key s v ho).lt hg
    have:=h.mlt g k hk
    omega
   ·rw [if_neg e]
    exact h.tokbox key s v g x m ho hg
  ·exact (tb0 _ _ ha hg).elim
theorem SH.adopt(h:SH H w0 N O D w M β)(d g n:Nat)(l:List PV)(hnew:D d=true)(hgB:w0.heap.size≤g)(hM:M g=some 0)(hbx:∀x n,β x≠some (g,n))
  (hno:∀key s v,Lb H O w β key s v→tb v≠some g) (hO1:O' d=l) (hO2:∀x,x≠d→O' x=O x) (hD:∀x,D' x=true→D x=true∧x≠d)
  (hown:∀(i:Nat) (p:PV) (s:SV),l[i]? =some p→p.sv=some s→s.own=true→False)
  (hobj:∀(β':Ha),(∀p v,Al w M β w0.heap.size p v→Al w M β' w0.heap.size p v)→β' d=some (g,n)→G3 w M β' w0.heap.size g n l):
  ∃β',SH H w0 N O' D' w M β'∧β' d=some (g,n):=by
 have hβ : β d=none:=h.dom d hnew
 let β':Ha:=fun x=>if x=d then some (g,n) else β x
 have hmono:∀x y,β x=some y→β' x=some y:=fun x y hb=>by
  simp only [β']
  by_cases e:x=d
  ·subst e;rw [hβ] at hb;cases hb
  ·rw [if_neg e];exact hb
 have hR:∀p v,Al w M β w0.heap.size p v→Al w M β' w0.heap.size p v:=fun p v hr=>hr.ext (Zu.refl w M) (fun _ _=>rfl) hmono
 have hd: β' d=some (g,n):=by simp [β']
 have hOwn:∀key s v,Lb H O' w β' key s v→Lb H O w β key s v:=by
  intro key s v ho
  cases key with
  |slot k=>exact ho
  |cell x i=>
   obtain ⟨b,m,p,h1,h2,h3,h4,h5⟩:=ho
   simp only [β'] at h1
   by_cases e:x=d
   ·subst e
    rw [hO1] at h2
    exact (hown i p s h2 h3 h4).elim
   ·rw [if_neg e] at h1
    exact ⟨b,m,p,h1,by rw [←hO2 x e];exact h2,h3,h4,h5⟩
 refine ⟨β',⟨h.bel,h.mN,h.mlt,?_,?_,?_,fun k=>hR _ _ (h.reg k),fun key s v ho=>h.tok key s v (hOwn _ _ _ ho),fun key key' s s' v v' g ho ho'=>h.tokne key key' s s' v v' g (hOwn _ _ _ ho) (hOwn _ _ _ ho'),?_⟩,hd⟩
 ·intro x b m hb
  by_cases e:x=d
  ·subst e
   rw [hd] at hb
   injection hb with hb
   injection hb with hb hb2
   subst hb;subst hb2
   exact ⟨hgB,hM,by rw [hO1];exact hobj β' hR hd⟩
  ·simp only [β'] at hb
   rw [if_neg e] at hb
   obtain ⟨h1,h2,h3⟩:=h.box x b m hb
   exact ⟨h1,h2,by rw [hO2 x e];exact h3.ext rfl hR⟩
 ·intro x y b m m' hx hy
  simp only [β'] at hx hy
  by_cases e1:x=d<;>by_cases e2:y=d
  ·rw [e1,e2]
  ·rw [if_pos e1] at hx;rw [if_neg e2] at hy
   injection hx with hx;injection hx with hx _
   subst hx
   exact absurd hy (hbx y m')
  ·rw [if_neg e1] at hx;rw [if_pos e2] at hy
   injection hy with hy;injection hy with hy _
   subst hy
   exact absurd hx (hbx x m)
  ·rw [if_neg e1] at hx;rw [if_neg e2] at hy
   exact h.inj x y b m m' hx hy
 ·intro x hx
  obtain ⟨h1,h2⟩:=hD x hx
  simp only [β']
  rw [if_neg h2]
  exact h.dom x h1
 ·intro key s v b x m ho hg
  have ho':=hOwn key s v ho
  simp only [β']
  by_cases e:x=d
  ·rw [if_pos e]
   intro e3
   injection e3 with e3
   injection e3 with e3 _
   subst e3
   exact hno key s v ho' hg
  ·rw [if_neg e]
   exact h.tokbox key s v b x m ho' hg
theorem SH.setObj(h:SH H w0 N O D w M β)(d b n:Nat)(hβ : β d=some (b,n))(l:List PV)(hO1:O' d=l)(hO2:∀x,x≠d→O' x=O x)
  (hoth:∀k,k≠b→w'.heap[k]? =w.heap[k]?) (hsz:w'.heap.size=w.heap.size) (hdl:Below w0.heap.size w w')
  (hobj:(∀p v,Al w M β w0.heap.size p v→Al w' M β w0.heap.size p v)→G3 w' M β w0.heap.size b n l)
  (hown:∀(i:Nat) (p:PV) (s:SV) (v:Value),l[i]? =some p→p.sv=some s→s.own=true→w'.cell? ⟨b,i,none⟩=some v→((∃q,(O d)[i]? =some q∧q.sv=some s)∧w.cell? ⟨b,i,none⟩=some v)∨(s.n=0∧∃a,v= .slice a 0 0)):
  SH H w0 N O' D w' M β∧(∀p v,Al w M β w0.heap.size p v→Al w' M β w0.heap.size p v):=by
 obtain ⟨hb1,hb2,hb3⟩:=h.box d b n hβ
 have hbw:b < w.heap.size:=h.mlt b 0 hb2
 have hE:Zu w M w' M:=fun x v hi hc=>by
  have hx:x.block≠b:=fun e=>by have:=hi 0 (by rw [e];exact hb2);omega
  exact ⟨hi,by rw [World.cell?_of_block (w:=w) (hoth _ hx)];exact hc⟩
 have hR:∀p v,Al w M β w0.heap.size p v→Al w' M β w0.heap.size p v:=fun p v hr=>hr.ext hE (fun x hx=>World.cell?_of_block (w:=w) (hoth _ (by omega))) (fun _ _ h=>h)
 have tb0:∀v g,(∃a,v= .slice a 0 0)→tb v=some g→False:=by
  rintro v g ⟨a,rfl⟩ hg
  cases a<;>cases hg
 have hOwn:∀key s v,Lb H O' w' β key s v→Lb H O w β key s v∨(s.n=0∧∃a,v= .slice a 0 0):=by
  intro key s v ho
  cases key with
  |slot k=>exact .inl ho
  |cell x i=>
   obtain ⟨b',m,p,h1,h2,h3,h4,h5⟩:=ho
   by_cases e:x=d
   ·subst e
    rw [hβ] at h1
    injection h1 with h1
    injection h1 with h1 h1'
    subst h1;subst h1'
    rw [hO1] at h2
    rcases hown i p s v h2 h3 h4 h5 with ⟨⟨q,q1,q2⟩,q3⟩|hz
    ·exact .inl ⟨b,n,q,hβ,q1,q2,h4,q3⟩
    ·exact .inr hz
   ·have hne:b'≠b:=fun e'=>e (h.inj x d b' m n h1 (by rw [e'];exact hβ))
    exact .inl ⟨b',m,p,h1,by rw [←hO2 x e];exact h2,h3,h4,by rw [←World.cell?_of_block (w:=w) (a:=⟨b',i,none⟩) (hoth b' hne)];exact h5⟩
 refine ⟨⟨h.bel.trans hdl,h.mN,fun x n hn=>by rw [hsz];exact h.mlt x n hn,?_,h.inj,h.dom,fun k=>hR _ _ (h.reg k),?_,?_,?_⟩,hR⟩
 ·intro x b' m hx
  by_cases e:x=d
  ·subst e
   rw [hβ] at hx
   injection hx with hx
   injection hx with hx hx'
   subst hx;subst hx'
   exact ⟨hb1,hb2,by rw [hO1];exact hobj hR⟩
  ·obtain ⟨h1,h2,h3⟩:=h.box x b' m hx
   have hne:b'≠b:=fun e'=>e (h.inj x d b' m n hx (by rw [e'];exact hβ))
   exact ⟨h1,h2,by rw [hO2 x e];exact h3.ext (hoth b' hne) hR⟩
 ·intro key s v ho
  rcases hOwn key s v ho with ho'|⟨hn,a,ha⟩
  ·refine (h.tok key s v ho').ext (fun g hg=>⟨hoth g (fun e=> ?_),rfl⟩)
   exact h.tokbox key s v g d n ho' hg (by rw [e];exact hβ)
  ·exact .inl ⟨a,ha,hn⟩
 ·intro key key' s s' v v' g ho ho' hne hg
  rcases hOwn _ _ _ ho with q|⟨_,q⟩
  ·rcases hOwn _ _ _ ho' with q'|⟨_,q'⟩
   ·exact h.tokne key key' s s' v v' g q q' hne hg
   ·exact fun hg'=>tb0 _ _ q' hg'
  ·exact (tb0 _ _ q hg).elim
 ·intro key s v g x m ho hg
  rcases hOwn _ _ _ ho with q|⟨_,q⟩
  ·exact h.tokbox key s v g x m q hg
  ·exact (tb0 _ _ q hg).elim
theorem SH.rowWrite(h:SH H w0 N O D w M β)(g k k':Nat)(cur cs:Array Value)(t:Nat)(hgB:w0.heap.size≤g)(hM:M g=some k)(hk:k≤k')
  (hh:w.heap[g]? =some (.cells cur t (0,0))) (hsame:∀i,i < k→cs[i]? =cur[i]?)
  (hbox:∀x n,β x≠some (g,n)) (hno:∀key s v,Lb H O w β key s v→tb v≠some g):
  Zu w M (w.setRow g cs) (fun b=>if b=g then some k' else M b)∧SH H w0 N O D (w.setRow g cs) (fun b=>if b=g then some k' else M b) β∧
  (∀p v,Al w M β w0.heap.size p v→Al (w.setRow g cs) (fun b=>if b=g then some k' else M b) β w0.heap.size p v)∧
  (∀key s v,Lb H O (w.setRow g cs) β key s v→Lb H O w β key s v):=by
 have hw1:(w.setRow g cs).heap[g]? =some (.cells cs t (0,0)):=setRow_heap w g cur _ t (0,0) hh
 have hoth:∀x,x≠g→(w.setRow g cs).heap[x]? =w.heap[x]? :=fun x hx=>setRow_other w g x _ hx
 have hsz:(w.setRow g cs).heap.size=w.heap.size:=by simp [World.setRow]
 have hgw:g < w.heap.size:=h.mlt g k hM
 have hE:Zu w M (w.setRow g cs) (fun b=>if b=g then some k' else M b):=by
  intro x v hi hc
  by_cases e:x.block=g
  ·have hlt:=hi k (by rw [e];exact hM)
   refine ⟨fun n hn=> ?_,?_⟩
   ·rw [e] at hn;simp only [if_true] at hn;injection hn with hn;omega
   ·unfold World.cell? at hc ⊢
    rw [e,hh] at hc
    rw [e,hw1]
    simp only at hc ⊢
    rw [hsame _ hlt];exact hc
  ·refine ⟨fun n hn=> ?_,by rw [World.cell?_of_block (w:=w) (hoth _ e)];exact hc⟩
   simp only [e,if_false] at hn
   exact hi n hn
 have hR:∀p v,Al w M β w0.heap.size p v→Al (w.setRow g cs) (fun b=>if b=g then some k' else M b) β w0.heap.size p v:=fun p v hr=>hr.ext hE (fun x hx=>World.cell?_of_block (w:=w) (hoth _ (by omega))) (fun _ _ h=>h)
 have hOwn:∀key s v,Lb H O (w.setRow g cs) β key s v→Lb H O w β key s v:=by
  intro key s v ho
  cases key with
  |slot k=>exact ho
  |cell x i=>
   obtain ⟨b',m,p,h1,h2,h3,h4,h5⟩:=ho
   have hne:b'≠g:=fun e=>hbox x m (by rw [h1,e])
   exact ⟨b',m,p,h1,h2,h3,h4,by rw [←World.cell?_of_block (w:=w) (a:=⟨b',i,none⟩) (hoth b' hne)];exact h5⟩
 refine ⟨hE,⟨h.bel.trans ⟨rfl,rfl,rfl,by omega,fun x hx=>hoth x (by omega)⟩,?_,?_,?_,h.inj,h.dom,fun k=>hR _ _ (h.reg k),?_,?_,?_⟩,hR,hOwn⟩
 ·intro b hb;simp only [show b≠g by omega,if_false];exact h.mN b hb
 ·intro b n hn
  by_cases e:b=g
  ·rw [e,hsz];exact hgw
  ·simp only [e,if_false] at hn;rw [hsz];exact h.mlt b n hn
 ·intro d b m hd
  have hne:b≠g:=fun e=>hbox d m (by rw [hd,e])
  obtain ⟨h1,h2,h3⟩:=h.box d b m hd
  exact ⟨h1,by simp only [hne,if_false];exact h2,h3.ext (hoth b hne) hR⟩
 ·intro key s v ho
  have ho':=hOwn key s v ho
  refine (h.tok key s v ho').ext (fun g' hg=> ?_)
  have hne:g'≠g:=fun e=>hno key s v ho' (by rw [hg,e])
  exact ⟨hoth g' hne,by simp only [hne,if_false]⟩
 ·intro key key' s s' v v' g ho ho';exact h.tokne key key' s s' v v' g (hOwn _ _ _ ho) (hOwn _ _ _ ho')
 ·intro key s v g x m ho;exact h.tokbox key s v g x m (hOwn _ _ _ ho)
theorem SH.fixed(h:SH H w0 N O D w M β)(g k:Nat)(hM:M g=some 0)(hbox:∀x n,β x≠some (g,n))(hno:∀key s v,Lb H O w β key s v→tb v≠some g)(hgB:w0.heap.size≤g):
  SH H w0 N O D w (fun b=>if b=g then some k else M b) β∧(∀p v,Al w M β w0.heap.size p v→Al w (fun b=>if b=g then some k else M b) β w0.heap.size p v):=by
 have hE:Zu w M w (fun b=>if b=g then some k else M b):=by
  intro x v hi hc
  refine ⟨fun n hn=> ?_,hc⟩
  by_cases e:x.block=g
  ·have:=hi 0 (by rw [e];exact hM);omega
  ·simp only [e,if_false] at hn
   exact hi n hn
 have hR:∀p v,Al w M β w0.heap.size p v→Al w (fun b=>if b=g then some k else M b) β w0.heap.size p v:=fun p v hr=>hr.ext hE (fun _ _=>rfl) (fun _ _ h=>h)
 refine ⟨⟨h.bel,?_,?_,?_,h.inj,h.dom,fun k=>hR _ _ (h.reg k),?_,h.tokne,h.tokbox⟩,hR⟩
 ·intro b hb;simp only [show b≠g by omega,if_false];exact h.mN b hb
 ·intro b n hn
  by_cases e:b=g
  ·rw [e];exact h.mlt g 0 hM
  ·simp only [e,if_false] at hn;exact h.mlt b n hn
 ·intro d b m hd
  have hne:b≠g:=fun e=>hbox d m (by rw [hd,e])
  obtain ⟨h1,h2,h3⟩:=h.box d b m hd
  exact ⟨h1,by simp only [hne,if_false];exact h2,h3.ext rfl hR⟩
 ·intro key s v ho
  refine (h.tok key s v ho).ext (fun g' hg=>⟨rfl,?_⟩)
  have hne:g'≠g:=fun e=>hno key s v ho (by rw [hg,e])
  simp only [hne,if_false]
theorem SH.rowNew(h:SH H w0 N O D w M β)(cs:Array Value)(t k:Nat):
  Zu w M (w.alloc (.cells cs t)) (fun b=>if b=w.heap.size then some k else M b)∧SH H w0 N O D (w.alloc (.cells cs t)) (fun b=>if b=w.heap.size then some k else M b) β∧
  (∀p v,Al w M β w0.heap.size p v→Al (w.alloc (.cells cs t)) (fun b=>if b=w.heap.size then some k else M b) β w0.heap.size p v)∧
  (∀x n,β x≠some (w.heap.size,n))∧(∀key s v,Lb H O (w.alloc (.cells cs t)) β key s v→Lb H O w β key s v∧tb v≠some w.heap.size):=by
 have hoth:∀x,x < w.heap.size→(w.alloc (.cells cs t)).heap[x]? =w.heap[x]? :=fun x hx=>Below.heap_alloc w _ x hx
 have hle:w0.heap.size≤w.heap.size:=h.bel.size
 have hE:Zu w M (w.alloc (.cells cs t)) (fun b=>if b=w.heap.size then some k else M b):=fun x v hi hc=>by
  have hx:=Hc hc
  refine ⟨fun n hn=>hi n ?_,M9 w _ hc⟩
  simp only [show x.block≠w.heap.size by omega,if_false] at hn
  exact hn
 have hβb:∀x b n,β x=some (b,n)→b < w.heap.size:=fun x b n hb=>h.mlt b 0 (h.box x b n hb).2.1
 have hR:∀p v,Al w M β w0.heap.size p v→Al (w.alloc (.cells cs t)) (fun b=>if b=w.heap.size then some k else M b) β w0.heap.size p v:=fun p v hr=>
  hr.ext hE (fun x hx=>World.cell?_of_block (w:=w) (hoth _ (by omega))) (fun _ _ h=>h)
 have hOwn:∀key s v,Lb H O (w.alloc (.cells cs t)) β key s v→Lb H O w β key s v:=by
  intro key s v ho
  cases key with
  |slot k=>exact ho
  |cell x i=>
   obtain ⟨b',m,p,h1,h2,h3,h4,h5⟩:=ho
   exact ⟨b',m,p,h1,h2,h3,h4,by rw [←World.cell?_of_block (w:=w) (a:=⟨b',i,none⟩) (hoth b' (hβb x b' m h1))];exact h5⟩
 have hlt:∀key s v,Lb H O w β key s v→∀g,tb v=some g→g < w.heap.size:=fun key s v ho g hg=>by
  obtain ⟨_,k,hk⟩:=(h.tok key s v ho).lt hg
  exact h.mlt g k hk
 refine ⟨hE,⟨h.bel.alloc hle _,?_,?_,?_,h.inj,h.dom,fun k=>hR _ _ (h.reg k),?_,?_,?_⟩,hR,?_,?_⟩
 ·intro b hb;simp only [show b≠w.heap.size by omega,if_false];exact h.mN b hb
 ·intro b n hn
  by_cases e:b=w.heap.size
  ·subst e;simp
  ·simp only [e,if_false] at hn;have:=h.mlt b n hn;simp;omega
 ·intro d b m hd
  obtain ⟨h1,h2,h3⟩:=h.box d b m hd
  have hbl:=hβb d b m hd
  exact ⟨h1,by simp only [show b≠w.heap.size by omega,if_false];exact h2,h3.ext (hoth b hbl) hR⟩
 ·intro key s v ho
  have ho':=hOwn key s v ho
  refine (h.tok key s v ho').ext (fun g hg=> ?_)
  have:=hlt key s v ho' g hg
  exact ⟨hoth g this,by simp only [show g≠w.heap.size by omega,if_false]⟩
 ·intro key key' s s' v v' g ho ho';exact h.tokne key key' s s' v v' g (hOwn _ _ _ ho) (hOwn _ _ _ ho')
 ·intro key s v g x m ho;exact h.tokbox key s v g x m (hOwn _ _ _ ho)
 ·intro x n hx
  have:=hβb x _ n hx
  omega
 ·intro key s v ho
  have ho':=hOwn key s v ho
  refine ⟨ho',fun hg=> ?_⟩
  have:=hlt key s v ho' _ hg
  omega
end
end Go.Proofs.YtmimkinjcfekmaaGreat.Ev
