/-  Operations: moving ownership; making rows and maps; slices; maps. -/
import Derived.Test.YtmimkinjcfekmaaGreatFf
namespace Go.Proofs.YtmimkinjcfekmaaGreat.Ev
open Go Go.RowKit
set_option linter.unusedVariables false
set_option linter.unusedSimpArgs false
set_option linter.unnecessarySimpa false
section
variable {ι :Type} {cx: ι→PV×Value} {P:Program} {w0 w:World} {N M:It} {β :Ha} {nt:Nat} {st:St} {a:Act} {o:Oper} {δ :Ap} {ban:List Nat}
def m3(s b off:Nat):Hw (Nat ⊕ ι)→Option (Hw (Nat ⊕ ι))
 | .slot (.inl t)=>if t=s then none else some (.slot (.inl t))
 | .slot (.inr i)=>some (.slot (.inr i))
 | .cell x i=>if x=b∧i=off then some (.slot (.inl s)) else some (.cell x i)
def Ahu(s b off:Nat):Hw (Nat ⊕ ι)→Hw (Nat ⊕ ι)
 | .slot (.inl t)=>if t=s then .cell b off else .slot (.inl t)
 | .slot (.inr i)=> .slot (.inr i)
 | .cell x i=> .cell x i
theorem Zq{s b off:Nat}{k j:Hw (Nat ⊕ ι)}(h:m3 s b off k=some j):k=Ahu s b off j:=by
 cases k with
 |slot k=>
  cases k with
  |inl t=>
   simp only [m3] at h
   by_cases e:t=s
   ·rw [if_pos e] at h;cases h
   ·rw [if_neg e] at h;injection h with h;subst h;simp only [Ahu];rw [if_neg e]
  |inr i=>injection h with h;subst h;rfl
 |cell x i=>
  simp only [m3] at h
  by_cases e:x=b∧i=off
  ·rw [if_pos e] at h;injection h with h;subst h;simp only [Ahu,if_true];rw [e.1,e.2]
  ·rw [if_neg e] at h;injection h with h;subst h;rfl
theorem D9{l:List PV}{off:Nat}{p:PV}(h:off+1≤l.length)(i:Nat):(Da l off [p])[i]? =if i=off then some p else l[i]? :=by
 rw [Ji l off [p] i (by simpa using h)]
 by_cases e:i=off
 ·subst e;rw [if_pos ⟨Nat.le_refl _,by simp⟩,if_pos rfl];simp
 ·rw [if_neg (by simp;omega),if_neg e]
theorem i9{l:List PV}(h:Dg l=true):∀(off:Nat) (p:PV),(∀x,p≠ .arrO x)→(∀a b c d,p≠ .mapO a b c d)→Dg (Da l off [p])=true:=by
 induction l with
 |nil=>intro off p _ _;simp [Da,Dg]
 |cons q r ih=>
  intro off p h1 h2
  have hq:Dg r=true:=by cases q<;>first|cases h|exact h
  cases off with
  |zero=>
   have e:Da (q::r) 0 [p]=p::r:=by
    show p::Da r 0 []=_
    cases r<;>rfl
   rw [e]
   cases p<;>first|exact absurd rfl (h1 _)|exact absurd rfl (h2 _ _ _ _)|exact hq
  |succ n=>
   show Dg (q::Da r n [p])=true
   have:=ih hq n p h1 h2
   cases q<;>first|cases h|exact this
theorem Zp(h:SR cx w0 N nt st a w M β)(ad:Operand)(s t b off:Nat)(ho:o.op= .store t ad (.tmp s))(hsz:Ow P t=some 1)(hst:st.opd ad= .loc b off)
  (g1:(st.get s).one=true) (g2:G5 (st.obj b) (off+1)=true) (g3:Dg (st.obj b)=true) (hd:o.dst=none):
  Df cx P w0 N nt st a w o ⟨[(s,(st.get s).view)],[(b,Da (st.obj b) off [st.get s])]⟩:=by
 have hc:(st.opd (.tmp s)).cells= [st.get s]:=Wa g1
 have hlen:=(Gd _ _).1 g2
 obtain ⟨w',hrun,hS,bb,n,hb,hcell⟩:=Zn h ad (.tmp s) t 1 b off ho hsz hst (by rw [hc];rfl) (by rw [hc];simp only [Jt];rw [g1]) g2 g3
 rw [hc] at hS
 have hone:(a.tmps.getD s undef).oneCell'=true:=(h.reg s).one g1
 have hval:w'.cell? ⟨bb,off,none⟩=some (a.tmps.getD s undef):=by
  have:=hcell 0 (a.tmps.getD s undef) (by rw [show a.eval (.tmp s)=a.tmps.getD s undef from rfl,Aez hone];rfl)
  simpa using this
 refine Q4 (M':=M) (β':= β) hd hrun ⟨h.defs,h.nt,?_⟩
 have hg:∀t,(st.app ⟨[(s,(st.get s).view)],[(b,Da (st.obj b) off [st.get s])]⟩).get t=if s=t then (st.get s).view else st.get t:=fun t=>Bi _ _ _ _ _
 have hO:∀x,(st.app ⟨[(s,(st.get s).view)],[(b,Da (st.obj b) off [st.get s])]⟩).obj x=if b=x then Da (st.obj b) off [st.get s] else st.obj x:=fun x=>Bi _ _ _ _ _
 have hO1:∀x,(st.app ⟨[],[(b,Da (st.obj b) off ([st.get s].map PV.view))]⟩).obj x=if b=x then Da (st.obj b) off [(st.get s).view] else st.obj x:=fun x=>Bi _ _ _ _ _
 have hreg:∀t,Al w' M β w0.heap.size (st.get t) (a.tmps.getD t undef):=fun t=>hS.sh.reg (.inl t)
 refine hS.sh.perm (fun k=> ?_) (fun d b' n' hd'=> ?_) (fun d hd'=>hS.sh.dom d hd') (m3 s b off) ?_ (fun k k' j h1 h2=>(Zq h1).trans (Zq h2).symm)
 ·cases k with
  |inl t=>
   simp only [hold]
   rw [hg]
   by_cases e:s=t
   ·subst e;rw [if_pos rfl];exact (hreg s).view
   ·rw [if_neg e];exact hreg t
  |inr i=>exact hS.sh.reg (.inr i)
 ·have hbx:=(hS.sh.box d b' n' hd').2.2
  rw [hO1] at hbx
  rw [hO]
  by_cases e:b=d
  ·rw [if_pos e] at hbx ⊢
   subst e
   rw [hb] at hd'
   injection hd' with hd'
   injection hd' with hd1 hd2
   subst hd1;subst hd2
   obtain ⟨cs,ty,q1,q2,q3⟩:=Ig hbx (i9 g3 off _ (by
    intro x e;have:=g1;rw [show (st.get s)= .arrO x by cases hq:st.get s<;>rw [hq] at e<;>first|exact e|cases e] at this;cases this) (by
    intro x1 x2 x3 x4 e;have:=g1;rw [show (st.get s)= .mapO x1 x2 x3 x4 by cases hq:st.get s<;>rw [hq] at e<;>first|exact e|cases e] at this;cases this))
   refine .cells _ cs ty q1 (by rw [Hv] at q2 ⊢;exact q2) (fun i p v hp hv=> ?_)
   rw [D9 hlen] at hp
   by_cases hi:i=off
   ·rw [if_pos hi] at hp
    injection hp with hp
    subst hp;subst hi
    have:w'.cell? ⟨bb,i,none⟩=some v:=by rw [Jz q1];exact hv
    rw [hval] at this
    injection this with this
    subst this
    exact ⟨hreg s,hone⟩
   ·rw [if_neg hi] at hp
    exact q3 i p v (by rw [D9 hlen,if_neg hi];exact hp) hv
  ·rw [if_neg e] at hbx ⊢;exact hbx
 ·intro key sv v ho'
  cases key with
  |slot k=>
   cases k with
   |inl t=>
    obtain ⟨h1,h2,h3⟩:=ho'
    simp only [hold] at h1
    rw [hg] at h1
    by_cases e:s=t
    ·rw [if_pos e] at h1;rw [Ej h1] at h2;cases h2
    ·rw [if_neg e] at h1
     exact ⟨.slot (.inl t),by simp only [m3];rw [if_neg (fun e'=>e e'.symm)],h1,h2,h3⟩
   |inr i=>exact ⟨_,rfl,ho'⟩
  |cell x i=>
   obtain ⟨b',n',p,h1,h2,h3,h4,h5⟩:=ho'
   rw [hO] at h2
   by_cases e:x=b∧i=off
   ·obtain ⟨rfl,rfl⟩:=e
    rw [if_pos rfl,D9 hlen,if_pos rfl] at h2
    injection h2 with h2
    subst h2
    rw [hb] at h1
    injection h1 with h1
    injection h1 with h1 _
    subst h1
    rw [hval] at h5
    injection h5 with h5
    exact ⟨.slot (.inl s),by simp [m3],h3,h4,h5⟩
   ·refine ⟨.cell x i,by simp only [m3];rw [if_neg e],b',n',p,h1,?_,h3,h4,h5⟩
    rw [hO1]
    by_cases e2:b=x
    ·rw [if_pos e2] at h2 ⊢
     rw [D9 hlen] at h2 ⊢
     have:¬i=off:=fun e'=>e ⟨e2.symm,e'⟩
     rw [if_neg this] at h2 ⊢
     exact h2
    ·rw [if_neg e2] at h2 ⊢;exact h2
def Ael(b off:Nat):Hw (Option (Nat ⊕ ι))→Option (Hw (Nat ⊕ ι))
 | .slot none=>some (.cell b off)
 | .slot (some k)=>some (.slot k)
 | .cell x i=>if x=b∧i=off then none else some (.cell x i)
def Ag5(b off:Nat):Hw (Nat ⊕ ι)→Hw (Option (Nat ⊕ ι))
 | .slot k=> .slot (some k)
 | .cell x i=>if x=b∧i=off then .slot none else .cell x i
theorem Y0{b off:Nat}{k:Hw (Option (Nat ⊕ ι))}{j:Hw (Nat ⊕ ι)}(h:Ael b off k=some j):k=Ag5 b off j:=by
 cases k with
 |slot k=>
  cases k with
  |none=>injection h with h;subst h;simp [Ag5]
  |some k=>injection h with h;subst h;rfl
 |cell x i=>
  simp only [Ael] at h
  by_cases e:x=b∧i=off
  ·rw [if_pos e] at h;cases h
  ·rw [if_neg e] at h;injection h with h;subst h;simp only [Ag5];rw [if_neg e]
theorem Yq(l:List PV):∀(i:Nat) (p:PV),l[i]? =some p→Ew l i=p:=by
 induction l with
 |nil=>intro i p h;simp at h
 |cons q r ih=>
  intro i p h
  cases i with
  |zero=>simpa [Ew] using h
  |succ i=>exact ih i p (by simpa using h)
theorem Abv{l:List PV}{i:Nat}(h:(Ew l i).one=true):l[i]? =some (Ew l i):=by
 cases hl:l[i]? with
 |some p=>rw [Yq l i p hl]
 |none=>
  have:∀(l:List PV) (i:Nat),l[i]? =none→Ew l i= .any:=by
   intro l
   induction l with
   |nil=>intro i _;rfl
   |cons q r ih=>
    intro i h
    cases i with
    |zero=>simp at h
    |succ i=>exact ih i (by simpa using h)
  rw [this l i hl] at h;cases h
theorem l5(h:SR cx w0 N nt st a w M β)(hd:∀x,o.dst=some x→x < nt)(d:Nat)(hdst:o.dst=some d)(x:Operand)(t b off:Nat)(td:TypeDesc)(ho:o.op= .load t x)(hu:P.underlying t=some td)(hs:Ow P t=some 1)
  (hag:Bz P t=false) (hst:st.opd x= .loc b off) (g1:(Ew (st.obj b) off).one=true) (g3:Dg (st.obj b)=true):
  Df cx P w0 N nt st a w o ⟨[(d,Ew (st.obj b) off)],[(b,Da (st.obj b) off [(Ew (st.obj b) off).view])]⟩:=by
 have hget:=Abv g1
 have hlen:off+1≤(st.obj b).length:=(List.getElem?_eq_some_iff.1 hget).1
 have hp:=h.opd x
 rw [hst] at hp
 obtain ⟨bb,n,hb,hv⟩:=Nj hp
 obtain ⟨cs,ty,q1,q2,q3⟩:=Ig (h.sh.box b bb n hb).2.2 g3
 have hcs:cs[off]? =some (cs[off]'(by omega)):=Array.getElem?_eq_getElem (by omega)
 generalize cs[off]'(by omega)=v at hcs
 obtain ⟨r1,r2⟩:=q3 off _ v hget hcs
 have hcell:w.cell? ⟨bb,off,none⟩=some v:=by rw [Jz q1];exact hcs
 have hrun:(execOp a.eval o).run P w= .ok (.value v) w:=by
  simp only [execOp,ho,hv,Instr.loadAt,Instr.sureAddr,Sem.run_bind,Sem.run_pure,Result.andThen_ok]
  rw [Mn hu hag hcell]
  rfl
 have hO:∀y,(st.app ⟨[(d,Ew (st.obj b) off)],[(b,Da (st.obj b) off [(Ew (st.obj b) off).view])]⟩).obj y=if b=y then Da (st.obj b) off [(Ew (st.obj b) off).view] else st.obj y:=fun y=>Bi _ _ _ _ _
 have hS:SH (Jg (Ew (st.obj b) off,v) (hold cx st a)) w0 N (st.app ⟨[(d,Ew (st.obj b) off)],[(b,Da (st.obj b) off [(Ew (st.obj b) off).view])]⟩).obj (fun d=>Ag d (st.ob.map Prod.fst)) w M β :=by
  refine h.sh.perm (fun k=> ?_) (fun d' b' n' hd'=> ?_) h.sh.dom (Ael b off) ?_ (fun k k' j h1 h2=>(Y0 h1).trans (Y0 h2).symm)
  ·cases k with
   |none=>exact r1
   |some k=>exact h.sh.reg k
  ·have hbx:=(h.sh.box d' b' n' hd').2.2
   rw [hO]
   by_cases e:b=d'
   ·rw [if_pos e]
    subst e
    rw [hb] at hd'
    injection hd' with hd'
    injection hd' with hd1 hd2
    subst hd1;subst hd2
    refine .cells _ cs ty q1 (by rw [Hv];exact q2) (fun i p u hp hu=> ?_)
    rw [D9 hlen] at hp
    by_cases hi:i=off
    ·rw [if_pos hi] at hp
     injection hp with hp
     subst hp;subst hi
     rw [hcs] at hu
     injection hu with hu
     subst hu
     exact ⟨r1.view,r2⟩
    ·rw [if_neg hi] at hp
     exact q3 i p u hp hu
   ·rw [if_neg e];exact hbx
  ·intro key sv u ho'
   cases key with
   |slot k=>
    cases k with
    |none=>
     obtain ⟨h1,h2,h3⟩:=ho'
     have h3':v=u:=h3
     subst h3'
     exact ⟨.cell b off,rfl,bb,n,_,hb,hget,h1,h2,hcell⟩
    |some k=>exact ⟨_,rfl,ho'⟩
   |cell y i=>
    obtain ⟨b',n',p,h1,h2,h3,h4,h5⟩:=ho'
    rw [hO] at h2
    by_cases e:y=b∧i=off
    ·obtain ⟨rfl,rfl⟩:=e
     rw [if_pos rfl,D9 hlen,if_pos rfl] at h2
     injection h2 with h2
     subst h2
     rw [Ej h3] at h4;cases h4
    ·refine ⟨.cell y i,by simp only [Ael];rw [if_neg e],b',n',p,h1,?_,h3,h4,h5⟩
     by_cases e2:b=y
     ·rw [if_pos e2,D9 hlen,if_neg (fun e'=>e ⟨e2.symm,e'⟩)] at h2
      rw [←e2];exact h2
     ·rw [if_neg e2] at h2;exact h2
 refine Dw h hd hdst (st0:=st) hS hrun (fun s=>Bi _ _ _ _ _) (fun _=>rfl) (fun y hy=> ?_)
 have hy':=(Am _ _).1 hy
 exact (Am _ _).2 (fun hm=>hy' (List.mem_cons_of_mem _ hm))
theorem Qc(z:List PV):∀(m k:Nat),k < m*z.length→((List.replicate m z).flatten)[k]? =z[k % z.length]? :=by
 intro m
 induction m with
 |zero=>intro k h;omega
 |succ m ih=>
  intro k h
  rw [List.replicate_succ,List.flatten_cons]
  rcases Nat.lt_or_ge k z.length with hk|hk
  ·rw [List.getElem?_append_left hk,Nat.mod_eq_of_lt hk]
  ·rw [List.getElem?_append_right hk,ih _ (by rw [Nat.add_mul,Nat.one_mul] at h;omega),←Nat.mod_eq_sub_mod hk]
theorem L8(z:List PV):∀(m:Nat),((List.replicate m z).flatten).length=m*z.length:=by
 intro m;simp
theorem Acm(z:Array Value)(n k:Nat)(h:k < n)(hz:0 < z.size):(madeCells z n)[k]? =z[k % z.size]? :=by
 have:k % z.size < z.size:=Nat.mod_lt _ hz
 simp [madeCells,h,this]
theorem Wk(h:SR cx w0 N nt st a w M β)(hd:∀x,o.dst=some x→x < nt)(d id e sz:Nat)(hdst:o.dst=some d)(t:Nat)(l c:Operand)(m:Nat)(i:TypeInfo)(z:List PV)(ho:o.op= .makeSlice t l c)
  (hu:P.underlying t=some (.slice e)) (hi:P.info? e=some i) (his:i.size=sz) (hz:Ra P e=some z) (hzl:z.length=sz) (hpos:1≤sz)
  (hl:a.eval l= .int .i64 m) (hc:a.eval c= .int .i64 m) (hb:m*i.bytes≤140737488355328) (hm:m≤9223372036854775807) (hnew:Ag id (st.ob.map Prod.fst)=true)
  (cf:Bool) (ob:List PV) (hob:(cf=true∧ob=(List.replicate m z).flatten)∨∃y,LX.lit e [z.map PV.view]=some y∧ob= [.arrO (y.rep m)]∧y.sz=sz):
  Df cx P w0 N nt st a w o ⟨[(d,.vw cf id e sz m)],[(id,ob)]⟩:=by
 obtain ⟨i',z0,hi',hz0,hl0,Xy⟩:=Lq (w:=w) (M:=M) (β := β) (B:=w0.heap.size) hz
 rw [hi] at hi'
 injection hi' with hi'
 subst hi'
 have hzs:z0.cells.size=sz:=by rw [←hl0,hzl]
 have hrun:(execOp a.eval o).run P w= .ok (.value (.slice (some ⟨w.heap.size,0,none⟩) m m)) (w.alloc (.cells (madeCells z0.cells (m*i.size)) e)):=by
  have:=run_make (P:=P) w t e i z0 hu hi hz0 .i64 .i64 m m (by omega) (Int.le_refl _) (by have h0:((m*i.bytes:Nat):Int)≤140737488355328:=Int.ofNat_le.2 hb;rw [Int.natCast_mul] at h0;rw [Int.mul_comm];omega) (by omega)
  simp only [execOp,ho,hl,hc,Sem.run_bind,Sem.run_pure,Result.andThen_ok]
  rw [this]
  rfl
 have hh:=heap_alloc_new w (.cells (madeCells z0.cells (m*i.size)) e)
 have hsz:(madeCells z0.cells (m*i.size)).size=m*sz:=by rw [size_madeCells,his]
 have hget:∀k,k < m*sz→(madeCells z0.cells (m*i.size))[k]? =z0.cells[k % sz]? :=fun k hk=>by
  rw [Acm _ _ _ (by rw [his];exact hk) (by omega),hzs]
 refine U4 h hd d id m hdst ob _ (.vw cf id e sz m) _ hnew rfl (fun W M' β' hb'=> .vw cf id e sz m _ m hb' (Nat.le_refl _)) (fun k p s hp hs how v hv=> ?_) (fun M' β' hR hb'=> ?_) hrun
 ·rw [Jz hh] at hv
  rcases hob with ⟨_,rfl⟩|⟨y,_,rfl,_⟩
  ·have hk:k < m*sz:=by have:=(List.getElem?_eq_some_iff.1 hp).1;rw [L8,hzl] at this;exact this
   rw [Qc z m k (by rw [hzl];exact hk),hzl] at hp
   rw [hget k hk] at hv
   exact (Xy _ p v hp hv).2.2 s hs how
  ·cases k with
   |zero=>simp at hp;subst hp;cases hs
   |succ k=>simp at hp
 ·rcases hob with ⟨_,rfl⟩|⟨y,hy,rfl,hys⟩
  ·refine .cells _ _ e hh (Nat.le_of_eq (by rw [hsz,L8,hzl])) (fun k p v hp hv=> ?_)
   have hk:k < m*sz:=by have:=(List.getElem?_eq_some_iff.1 hp).1;rw [L8,hzl] at this;exact this
   rw [Qc z m k (by rw [hzl];exact hk),hzl] at hp
   rw [hget k hk] at hv
   exact ⟨hR _ _ (Xy _ p v hp hv).1,(Xy _ p v hp hv).2.1⟩
  ·obtain ⟨s1,s2,s3,s4⟩:=LX.rep_spec y m
   obtain ⟨_,l2,l3⟩:=LX.lit_spec e _ y hy
   have hle:=(l3 0 _ rfl).get
   refine .arr _ _ e hh s3 (Nat.le_of_eq (by rw [hsz,s2,hys])) (fun k j p v hk hp hv=> ?_)
   rw [s2,hys] at hv
   rw [s4 k hk] at hp
   have hj:j < sz:=by have:=(List.getElem?_eq_some_iff.1 hp).1;rw [LX.row_len,hys] at this;exact this
   have hmm:(k+1)*sz≤m*sz:=Nat.mul_le_mul_right _ hk
   rw [Nat.add_mul,Nat.one_mul] at hmm
   rw [hget _ (by omega),Nat.mul_comm,Nat.mul_add_mod,Nat.mod_eq_of_lt hj] at hv
   obtain ⟨p0,hp0,hle'⟩:=hle.2 j p hp
   obtain ⟨p1,hp1,rfl⟩:=B3 hp0
   obtain ⟨r1,r2,_⟩:=Xy j p1 v hp1 hv
   exact ⟨(hR _ _ r1.view).le hle',r2⟩
theorem l7(h:SR cx w0 N nt st a w M β)(hd:∀x,o.dst=some x→x < nt)(d e:Nat)(hdst:o.dst=some d)(t:Nat)(l c:Operand)(m:Nat)(i:TypeInfo)(x:LX)(z:Value)(ho:o.op= .makeSlice t l c)
  (hu:P.underlying t=some (.slice e)) (hi:P.info? e=some i) (hz:i.zero=some z) (hx:LX.nil e=some x) (hxs:x.sz=i.size)
  (hl:a.eval l= .int .i64 0) (hc:a.eval c= .int .i64 m) (hb:m*i.bytes≤140737488355328) (hm:m≤maxLen):
  Df cx P w0 N nt st a w o ⟨[(d,.lst true x)],[]⟩:=by
 obtain ⟨hxe,hxn⟩:=LX.nil_spec e x hx
 have hrun:(execOp a.eval o).run P w= .ok (.value (.slice (some ⟨w.heap.size,0,none⟩) 0 m)) (w.alloc (.cells (madeCells z.cells (m*i.size)) e)):=by
  have:=run_make (P:=P) w t e i z hu hi hz .i64 .i64 0 m (Int.le_refl _) (by omega) (by have h0:((m*i.bytes:Nat):Int)≤140737488355328:=Int.ofNat_le.2 hb;rw [Int.natCast_mul] at h0;rw [Int.mul_comm];omega) (by simp only [maxLen] at hm;omega)
  simp only [execOp,ho,hl,hc,Sem.run_bind,Sem.run_pure,Result.andThen_ok]
  rw [this]
  rfl
 obtain ⟨_,hS,_,hb1,hn1⟩:=h.sh.rowNew (madeCells z.cells (m*i.size)) e 0
 have hh:=heap_alloc_new w (.cells (madeCells z.cells (m*i.size)) e)
 have hle:w0.heap.size≤w.heap.size:=h.sh.bel.size
 refine Dw h hd hdst (st0:=st) (hS.cons (.lst true x) _ (I4 (s:=⟨true,x.e,x.sz,x.len,x.row⟩) rfl hxn.symm hh (Nat.zero_le _) (fun i hi=>by omega) (fun i hi=>by omega) (fun i j q hi=>by omega)) (fun s h1 _=> ?_)) hrun (fun s=>Db st d s _) (fun _=>rfl) (fun _ h=>h)
 injection h1 with h1;subst h1
 cases m with
 |zero=>exact ⟨.inl ⟨_,rfl,hxn⟩,fun key s' v' g _ hg=>absurd hg Cx,fun g d n hg=>absurd hg Cx⟩
 |succ m=>
  refine ⟨.inr ⟨w.heap.size,m,madeCells z.cells ((m+1)*i.size),by rw [hxn],hle,by simp [hxn],by rw [hxe];exact hh,by simp [hxn],hm,by rw [size_madeCells,hxs]⟩,fun key s' v' g ho' hg=> ?_,fun g d n hg=> ?_⟩
  ·have:w.heap.size=g:=by simpa [tb] using hg
   rw [←this];exact (hn1 key s' v' ho').2
  ·have:w.heap.size=g:=by simpa [tb] using hg
   rw [←this];exact hb1 d n
theorem l8(h:SR cx w0 N nt st a w M β)(hd:∀x,o.dst=some x→x < nt)(d id:Nat)(hdst:o.dst=some d)(t:Nat)(gk gv:Bool)(ks vs:LX)(ho:o.op= .makeMap t none)
  (hk:ks.len=0) (hv:vs.len=0) (hnew:Ag id (st.ob.map Prod.fst)=true):Df cx P w0 N nt st a w o ⟨[(d,.mp id)],[(id,[.mapO gk gv ks vs])]⟩:=by
 have hh:=heap_alloc_new w (.map #[] 0)
 refine U4 h hd d id 0 hdst _ (.map #[] 0) (.mp id) _ hnew rfl (fun W M' β' hb=> .mp id _ _ hb) (fun k p s hp hs _ v _=> ?_) (fun M' β' hR hb=> .map gk gv ks vs #[] 0 hh (by simp [hk]) (by rw [hv,hk]) (fun i e he=>by simp at he)) ?_
 ·cases k with
  |zero=>simp at hp;subst hp;cases hs
  |succ k=>simp at hp
 ·simp only [execOp,ho,Option.map_none]
  rfl
end
end Go.Proofs.YtmimkinjcfekmaaGreat.Ev
