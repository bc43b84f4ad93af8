/-  Literals; rows; append. -/
import Derived.Test.YtmimkinjcfekmaaGreatFd
namespace Go.Proofs.YtmimkinjcfekmaaGreat.Ev
open Go Go.RowKit
set_option linter.unusedVariables false
set_option linter.unusedSimpArgs false
set_option linter.unnecessarySimpa false
def Holds(P:Program)(f:Nat)(args:List PV)(r:PV):Prop:=
 ∀(w:World) (N:It) (vs:List Value),vs.length=args.length→(∀(i:Nat) (p:PV) (v:Value),args[i]? =some p→vs[i]? =some v→Al w N (fun _=>none) w.heap.size p v)→
  (∀b n,N b=some n→b < w.heap.size)→
  Calls P f vs.toArray w fun e w'=>∃v,e= .returned v∧Al w' N (fun _=>none) 0 r v∧Below w.heap.size w w'
def Hg(P:Program)(f:Nat)(args:List PV)(ob:List (Nat×List PV))(r:PV)(o':List (Nat×List PV)):Prop:=
 ∀ {κ :Type} (H: κ→PV×Value) (w0 w:World) (N M:It) (β :Ha) (O:Nat→List PV) (D:Nat→Bool) (vs:List Value),
  (∀d,O d=Bp [] ob d)→(∀d,D d=Ag d (ob.map Prod.fst))→SH H w0 N O D w M β→
  vs.length=args.length→(∀(i:Nat) (p:PV) (v:Value),args[i]? =some p→vs[i]? =some v→Al w M β w0.heap.size p v)→
  Calls P f vs.toArray w fun e w'=>∃v M' β',e= .returned v∧SH (Jg (r,v) H) w0 N (Bp [] (o'++ob)) (fun d=>Ag d ((o'++ob).map Prod.fst)) w' M' β'
def Cv(P:Program):Av:=fun f args k=>∃r,Holds P f args r∧k r
def Cs(P:Program):Tc:=fun f args ob k=>Dj P f=true∧∃r o',Hg P f args ob r o'∧k r o'
theorem Zb{α :Type}{P:Program} :∀(s:Sem α) (k: α→Prop),Qx P s k→∀w,∃x,s.run P w= .ok x w∧k x:=by
 intro s
 induction s with
 |pure a=>intro k h w;exact ⟨a,rfl,h⟩
 |program f ih=>intro k h w;exact ih P k h w
 |_=>intro k h;exact h.elim
section
variable {ι :Type} {cx: ι→PV×Value} {P:Program} {w0 w w':World} {N M M':It} {β β':Ha} {nt:Nat} {st st':St} {a:Act}
theorem Nw{t sz:Nat}(h:Ow P t=some sz):∃i,P.info? t=some i∧i.size=sz:=by
 unfold Ow at h
 cases hi:P.info? t with
 |none=>rw [hi] at h;cases h
 |some i=>rw [hi] at h;exact ⟨i,rfl,by simpa using h⟩
theorem Hz.take{B:Nat}{ad:Addr}{l:List PV}(h:Hz w M β B ad l)(n:Nat):Hz w M β B ad (l.take n):=fun i p hp=>h i p (by
 rw [List.getElem?_take] at hp
 split at hp
 ·exact hp
 ·cases hp)
theorem Nr{B:Nat}{l:List PV}{v:Value}(h:Al w M β B (.ref l) v):∃ad,v= .pointer (some ad)∧Hz w M β B ad l:=by
 cases h with
 |row p s hs=>cases hs
 |ref l ad vs hm hr=>exact ⟨ad,rfl,fun i p hp=>⟨vs i,(hm i p hp).2.1,hr i p hp,(hm i p hp).2.2⟩⟩
theorem Nj{B:Nat}{d off:Nat}{v:Value}(h:Al w M β B (.loc d off) v):∃b n,β d=some (b,n)∧v= .pointer (some ⟨b,off,none⟩):=by
 cases h with
 |row p s hs=>cases hs
 |loc d off b n h=>exact ⟨b,n,h,rfl⟩
theorem n7{B:Nat}{d sz i off:Nat}{v:Value}(h:Al w M β B (.el d sz i off) v):∃b n,β d=some (b,n)∧i < n∧v= .pointer (some ⟨b,i*sz+off,none⟩):=by
 cases h with
 |row p s hs=>cases hs
 |el d sz i off b n h hi=>exact ⟨b,n,h,hi,rfl⟩
theorem w8{B:Nat}{cf:Bool}{d e sz n:Nat}{v:Value}(h:Al w M β B (.vw cf d e sz n) v):∃b c,β d=some (b,n)∧n≤c∧v= .slice (some ⟨b,0,none⟩) n c:=by
 cases h with
 |row p s hs=>cases hs
 |vw cf d e sz n b c h hc=>exact ⟨b,c,h,hc,rfl⟩
theorem Afq{B:Nat}{d:Nat}{v:Value}(h:Al w M β B (.mp d) v):∃b n,β d=some (b,n)∧v= .map (some b):=by
 cases h with
 |row p s hs=>cases hs
 |mp d b n h=>exact ⟨b,n,h,rfl⟩
theorem Ta{t sz:Nat}{ad:Addr}{vs:List Value}{d:TypeDesc}(hu:P.underlying t=some d)(ha:Bz P t=true)(hs:Ow P t=some sz)(hl:vs.length=sz)
  (hc:∀(j:Nat) (v:Value),vs[j]? =some v→w.cell? (ad.add j)=some v):(loadVar t ad).run P w= .ok (.agg vs.toArray) w:=by
 have h1:=run_loadCells_list (P:=P) w ad vs hc
 unfold Ow at hs
 cases hi:P.info? t with
 |none=>rw [hi] at hs;cases hs
 |some i=>
  rw [hi] at hs
  have hs':i.size=sz:=by simpa using hs
  unfold Bz at ha
  rw [hu] at ha
  subst hl
  cases d<;>simp at ha<;>simp [loadVar,isAgg,run_underlying hu,sizeOf,typeInfo,hi,hs',h1]
theorem Mn{t:Nat}{ad:Addr}{v:Value}{d:TypeDesc}(hu:P.underlying t=some d)(ha:Bz P t=false)(hc:w.cell? ad=some v):(loadVar t ad).run P w= .ok v w:=by
 unfold Bz at ha
 rw [hu] at ha
 cases d<;>simp at ha<;>simp [loadVar,isAgg,run_underlying hu,hc]
theorem s9{t sz:Nat}{ad:Addr}{l:List PV}{d:TypeDesc}{B:Nat}(hu:P.underlying t=some d)(hs:Ow P t=some sz)(hsz:Bz P t=false→sz=1)(hlen:l.length=sz)(hc:Hz w M β B ad l):
  ∃v,(loadVar t ad).run P w= .ok v w∧Al w M β B (Oq (Bz P t) l) v:=by
 obtain ⟨vs,h1,h2⟩:=Y1 hc
 cases ha:Bz P t with
 |true=>
  refine ⟨.agg vs.toArray,Ta hu ha hs (by omega) (fun j v hv=> ?_),.agg l vs h1.symm (fun v hv=> ?_) (fun i p v hp hv=>(h2 i p v hp hv).2.1)⟩
  ·have hj:j < l.length:=by have:=(List.getElem?_eq_some_iff.1 hv).1;omega
   exact (h2 j _ v (List.getElem?_eq_getElem hj) hv).1
  ·obtain ⟨j,hj,rfl⟩:=List.getElem_of_mem hv
   exact (h2 j _ _ (List.getElem?_eq_getElem (by omega)) (List.getElem?_eq_getElem hj)).2.2
 |false=>
  have h1':=hsz ha
  subst h1'
  match l,vs,hlen,h1,h2 with
  | [p],[v],_,_,h2=>
   obtain ⟨g1,g2,g3⟩:=h2 0 p v rfl rfl
   exact ⟨v,Mn hu ha (by simpa [Addr.add] using g1),g2.view⟩
theorem Aai(off:Nat):∀(vs:List Value) (k:Nat) (cells:Array Value),off+k+vs.length≤cells.size→
  ((vs.zipIdx k).foldl (fun cs (x:Value×Nat)=>cs.setIfInBounds (off+x.2) x.1) cells).size=cells.size∧
  ∀i,((vs.zipIdx k).foldl (fun cs (x:Value×Nat)=>cs.setIfInBounds (off+x.2) x.1) cells)[i]? =if off+k≤i∧i < off+k+vs.length then vs[i - (off+k)]? else cells[i]? :=by
 intro vs
 induction vs with
 |nil=>intro k cells h;exact ⟨rfl,fun i=>by rw [if_neg (by simp only [List.length_nil];omega)];rfl⟩
 |cons v vs ih=>
  intro k cells h
  simp only [List.zipIdx_cons,List.foldl_cons]
  obtain ⟨h1,h2⟩:=ih (k+1) (cells.setIfInBounds (off+k) v) (by simp at h ⊢;omega)
  refine ⟨by rw [h1];simp,fun i=> ?_⟩
  rw [h2 i]
  by_cases h3:i=off+k
  ·rw [if_neg (by omega),if_pos ⟨by omega,by simp;omega⟩]
   subst h3
   have hlt:off+k < cells.size:=by simp at h;omega
   simp [hlt]
  ·by_cases h4:off+(k+1)≤i∧i < off+(k+1)+vs.length
   ·rw [if_pos h4,if_pos ⟨by omega,by simp;omega⟩]
    rw [show i - (off+k)=(i - (off+(k+1)))+1 by omega]
    simp
   ·rw [if_neg h4,if_neg (by simp;omega)]
    rw [Array.getElem?_setIfInBounds_ne (by omega)]
theorem Xx(cells vs:Array Value)(off:Nat):vs.zipIdx.foldl (fun cs (x:Value×Nat)=>cs.setIfInBounds (off+x.2) x.1) cells=(vs.toList.zipIdx 0).foldl (fun cs (x:Value×Nat)=>cs.setIfInBounds (off+x.2) x.1) cells:=by
 rw [←Array.foldl_toList,Array.toList_zipIdx]
theorem Yj(off:Nat)(vs cells:Array Value)(h:off+vs.size≤cells.size):
  (vs.zipIdx.foldl (fun cs (x:Value×Nat)=>cs.setIfInBounds (off+x.2) x.1) cells).size=cells.size∧
  ∀i,(vs.zipIdx.foldl (fun cs (x:Value×Nat)=>cs.setIfInBounds (off+x.2) x.1) cells)[i]? =if off≤i∧i < off+vs.size then vs[i - off]? else cells[i]? :=by
 rw [Xx]
 obtain ⟨h1,h2⟩:=Aai off vs.toList 0 cells (by simpa using h)
 exact ⟨h1,fun i=>by simpa using h2 i⟩
theorem d3(h:SR cx w0 N nt st a w M β)(fs:List (Nat×Nat)):∀(ps:List (Nat×Operand)) (qs:List (Nat×Nat×Operand)) (l:List PV) (cs:Array Value) (k:List PV→Prop),
  Rz fs ps=some qs→RC w M β w0.heap.size l cs→Oo st l qs k→
  ∃l' cs',Instr.fill (fs[·]?) cs (ps.map fun p=>(p.1,a.eval p.2))=some cs'∧RC w M β w0.heap.size l' cs'∧l'.length=l.length∧k l':=by
 intro ps
 induction ps with
 |nil=>
  intro qs l cs k hq hr hf
  simp [Rz] at hq
  subst hq
  exact ⟨l,cs,rfl,hr,rfl,hf⟩
 |cons p ps ih=>
  obtain ⟨i,x⟩:=p
  intro qs l cs k hq hr hf
  simp only [Rz] at hq
  cases hi:fs[i]? with
  |none=>rw [hi] at hq;cases hq
  |some os=>
   obtain ⟨off,sz⟩:=os
   cases hp:Rz fs ps with
   |none=>rw [hi,hp] at hq;cases hq
   |some rest=>
    rw [hi,hp] at hq
    injection hq with hq
    subst hq
    simp only [Oo] at hf
    cases g1:Ir (st.opd x).cells sz<;>cases g2:Jt (st.opd x).cells<;>cases g3:G5 l (off+sz)<;>simp only [g1,g2,g3] at hf<;>try exact hf.elim
    obtain ⟨c1,c2⟩:=Iz (h.opd x) g2
    have e1:(st.opd x).cells.length=sz:=(J7 _ _).1 g1
    have e0:((st.opd x).cells.map PV.view).length=sz:=by rw [List.length_map,e1]
    have e2:off+sz≤l.length:=(Gd _ _).1 g3
    have e3:(a.eval x).cells.size=sz:=by rw [←e0,←c1];simp
    obtain ⟨f1,f2⟩:=Yj off (a.eval x).cells cs (by rw [e3,←hr.1];exact e2)
    have hrc:RC w M β w0.heap.size (Da l off ((st.opd x).cells.map PV.view)) ((a.eval x).cells.zipIdx.foldl (fun cs (x:Value×Nat)=>cs.setIfInBounds (off+x.2) x.1) cs):=by
     refine ⟨by rw [Hv,f1,hr.1],fun j q u hj hu=> ?_⟩
     rw [Ji _ _ _ _ (by omega)] at hj
     rw [f2] at hu
     by_cases hc:off≤j∧j < off+((st.opd x).cells.map PV.view).length
     ·rw [if_pos hc] at hj
      rw [if_pos ⟨hc.1,by omega⟩] at hu
      exact c2 _ q u hj (by simpa using hu)
     ·rw [if_neg hc] at hj
      rw [if_neg (by omega)] at hu
      exact hr.2 j q u hj hu
    obtain ⟨l',cs',r1,r2,r3,r4⟩:=ih rest _ _ k hp hrc hf
    refine ⟨l',cs',?_,r2,by rw [r3,Hv],r4⟩
    simp only [List.map_cons,Instr.fill,hi]
    rw [if_neg (by rw [e3,←hr.1];simp;omega)]
    exact r1
theorem Wp{B:Nat}(o:Option Nat)(v:Value)(h:Rx v=true):Al w M β B (w9 o v) v∧v.oneCell'=true∧(∀s,(w9 o v).sv=some s→s.own=true→s.n=0∧∃a,v= .slice a 0 0):=by
 have h1:v.oneCell'=true:=by rw [←Xg];exact h
 have base:Al w M β B (.val v) v∧v.oneCell'=true∧(∀s,(PV.val v).sv=some s→s.own=true→s.n=0∧∃a,v= .slice a 0 0):=⟨.val v h1,h1,fun s hs=>by cases hs⟩
 unfold w9
 split
 ·rename_i e
  cases hn:LX.nil e with
  |none=>exact base
  |some x=>
   have hx:=(LX.nil_spec e x hn).2
   exact ⟨Al.le (.nil true x hx) (.val _ rfl),rfl,fun s hs _=>by
    simp only [PV.sv] at hs
    injection hs with hs;subst hs
    exact ⟨hx,none,rfl⟩⟩
 ·exact base
theorem Ti{B:Nat} :∀(os:List (Option Nat)) (z:List Value),M5 z=true→(R9 os z).length=z.length∧∀(i:Nat) (p:PV) (v:Value),(R9 os z)[i]? =some p→z[i]? =some v→
  Al w M β B p v∧v.oneCell'=true∧(∀s,p.sv=some s→s.own=true→s.n=0∧∃a,v= .slice a 0 0)
 |os,[],_=>by
  have:R9 os []= []:=by cases os<;>rfl
  rw [this]
  exact ⟨rfl,fun i p v hp=>by simp at hp⟩
 | [],v::vs,h=>by
  simp only [M5] at h
  cases hv:Rx v with
  |false=>rw [hv] at h;cases h
  |true=>
   rw [hv] at h
   obtain ⟨q1,q2⟩:=Ti (B:=B) [] vs h
   refine ⟨by simp only [R9,List.length_cons,q1],fun i p u hp hu=> ?_⟩
   cases i with
   |zero=>
    simp only [R9,List.getElem?_cons_zero,Option.some.injEq] at hp hu
    subst hp;subst hu
    exact Wp none v hv
   |succ i=>exact q2 i p u (by simpa [R9] using hp) (by simpa using hu)
 |o::os,v::vs,h=>by
  simp only [M5] at h
  cases hv:Rx v with
  |false=>rw [hv] at h;cases h
  |true=>
   rw [hv] at h
   obtain ⟨q1,q2⟩:=Ti (B:=B) os vs h
   refine ⟨by simp only [R9,List.length_cons,q1],fun i p u hp hu=> ?_⟩
   cases i with
   |zero=>
    simp only [R9,List.getElem?_cons_zero,Option.some.injEq] at hp hu
    subst hp;subst hu
    exact Wp o v hv
   |succ i=>exact q2 i p u (by simpa [R9] using hp) (by simpa using hu)
theorem Lq{B t:Nat}{l:List PV}(h:Ra P t=some l):∃(i:TypeInfo) (z:Value),P.info? t=some i∧i.zero=some z∧l.length=z.cells.size∧∀(j:Nat) (p:PV) (v:Value),l[j]? =some p→z.cells[j]? =some v→
  Al w M β B p v∧v.oneCell'=true∧(∀s,p.sv=some s→s.own=true→s.n=0∧∃a,v= .slice a 0 0):=by
 unfold Ra at h
 cases hz:Rb P t with
 |none=>rw [hz] at h;cases h
 |some zz=>
  rw [hz] at h
  simp only at h
  cases ha:M5 zz with
  |false=>rw [ha] at h;cases h
  |true=>
   rw [ha] at h
   injection h with h
   subst h
   unfold Rb at hz
   cases hi:P.info? t with
   |none=>rw [hi] at hz;cases hz
   |some i=>
    rw [hi] at hz
    cases hzz:i.zero with
    |none=>simp [hzz] at hz
    |some z=>
     simp [hzz] at hz
     subst hz
     obtain ⟨q1,q2⟩:=Ti (w:=w) (M:=M) (β := β) (B:=B) (Ae6 P 8 t) z.cells.toList ha
     exact ⟨i,z,rfl,hzz,by rw [q1];simp,fun j p v hp hv=>q2 j p v hp (by rw [Array.getElem?_toList];exact hv)⟩
theorem Aa6{B t:Nat}{b:Bool}{l:List PV}(h:Ady b P t=some l):∃(i:TypeInfo) (z:Value),P.info? t=some i∧i.zero=some z∧l.length=z.cells.size∧∀(j:Nat) (p:PV) (v:Value),l[j]? =some p→z.cells[j]? =some v→
  Al w M β B p v∧v.oneCell'=true∧(∀s,p.sv=some s→s.own=true→s.n=0∧∃a,v= .slice a 0 0):=by
 cases b with
 |false=>exact Lq h
 |true=>
  unfold Ady at h
  cases hz:Rb P t with
  |none=>rw [hz] at h;cases h
  |some zz=>
   rw [hz] at h
   simp only at h
   cases ha:M5 zz with
   |false=>rw [ha] at h;cases h
   |true=>
    rw [ha] at h
    injection h with h
    subst h
    unfold Rb at hz
    cases hi:P.info? t with
    |none=>rw [hi] at hz;cases hz
    |some i=>
     rw [hi] at hz
     cases hzz:i.zero with
     |none=>simp [hzz] at hz
     |some z=>
      simp [hzz] at hz
      subst hz
      obtain ⟨q1,q2⟩:=Ti (w:=w) (M:=M) (β := β) (B:=B) [] z.cells.toList ha
      exact ⟨i,z,rfl,hzz,by rw [q1];simp,fun j p v hp hv=>q2 j p v hp (by rw [Array.getElem?_toList];exact hv)⟩
theorem Yc(h:SR cx w0 N nt st a w M β)(sz:Nat):∀(ps:List (Nat×Operand)) (i0:Nat) (xs:List Operand) (k:List (List PV)→Prop) (cs:Array Value),
  Nd i0 ps=some xs→Ng st sz xs k→(i0+xs.length)*sz≤cs.size→
  ∃es cs',Instr.fill (fun i=>some (i*sz,sz)) cs (ps.map fun p=>(p.1,a.eval p.2))=some cs'∧cs'.size=cs.size∧es.length=xs.length∧
   (∀j,j < i0*sz→cs'[j]? =cs[j]?)∧(∀(i:Nat) (x:List PV),es[i]? =some x→x.length=sz)∧
   (∀(i:Nat) (x:List PV) (j:Nat) (p:PV),es[i]? =some x→x[j]? =some p→∃v,cs'[(i0+i)*sz+j]? =some v∧Al w M β w0.heap.size p v∧v.oneCell'=true)∧k es:=by
 intro ps
 induction ps with
 |nil=>
  intro i0 xs k cs hd hf hs
  simp [Nd] at hd
  subst hd
  exact ⟨[],cs,rfl,rfl,rfl,fun _ _=>rfl,fun i x hx=>by simp at hx,fun i x j p hx=>by simp at hx,hf⟩
 |cons p ps ih=>
  obtain ⟨j0,x⟩:=p
  intro i0 xs k cs hd hf hs
  simp only [Nd] at hd
  cases hj:Nat.beq i0 j0 with
  |false=>rw [hj] at hd;cases hd
  |true=>
   have hj':=Nat.eq_of_beq_eq_true hj
   subst hj'
   cases hr:Nd (i0+1) ps with
   |none=>rw [hj,hr] at hd;cases hd
   |some ys=>
    rw [hj,hr] at hd
    injection hd with hd
    subst hd
    simp only [Ng] at hf
    cases g1:Ir (st.opd x).cells sz<;>cases g2:Jt (st.opd x).cells<;>simp only [g1,g2] at hf<;>try exact hf.elim
    obtain ⟨c1,c2⟩:=Iz (h.opd x) g2
    have e0:(st.opd x).cells.length=sz:=(J7 _ _).1 g1
    have e1:((st.opd x).cells.map PV.view).length=sz:=by rw [List.length_map,e0]
    have e3:(a.eval x).cells.size=sz:=by rw [←e1,←c1];simp
    have hmul:(i0+(x::ys).length)*sz=i0*sz+sz+ys.length*sz:=by simp only [List.length_cons,Nat.add_mul,Nat.one_mul];omega
    have hfit:i0*sz+(a.eval x).cells.size≤cs.size:=by omega
    obtain ⟨f1,f2⟩:=Yj (i0*sz) (a.eval x).cells cs hfit
    obtain ⟨es,cs',r1,r2,r3,r4,r5,r6,r7⟩:=ih (i0+1) ys (fun l=>k ((st.opd x).cells.map PV.view::l)) _ hr hf (by
     rw [f1];rw [hmul] at hs;simp only [Nat.add_mul,Nat.one_mul];omega)
    refine ⟨(st.opd x).cells.map PV.view::es,cs',?_,by rw [r2,f1],by simp [r3],?_,?_,?_,r7⟩
    ·simp only [List.map_cons,Instr.fill]
     rw [if_neg (by rw [e3];simp;omega)]
     exact r1
    ·intro j hjl
     rw [r4 j (by simp only [Nat.add_mul,Nat.one_mul];omega),f2,if_neg (by omega)]
    ·intro i y hy
     cases i with
     |zero=>simp at hy;subst hy;simpa using e1
     |succ i=>exact r5 i y (by simpa using hy)
    ·intro i y j p hy hp
     cases i with
     |zero=>
      rw [List.getElem?_cons_zero] at hy
      injection hy with hy
      subst hy
      have hjl:j < sz:=by have:=(List.getElem?_eq_some_iff.1 hp).1;omega
      have hv:(a.eval x).cells[j]? =some ((a.eval x).cells[j]'(by omega)):=Array.getElem?_eq_getElem (by omega)
      refine ⟨_,?_,c2 j p _ hp (by rw [Array.getElem?_toList];exact hv)⟩
      rw [Nat.add_zero,r4 _ (by simp only [Nat.add_mul,Nat.one_mul];omega),f2,if_pos ⟨by omega,by omega⟩,show i0*sz+j - i0*sz=j by omega]
      exact hv
     |succ i=>
      obtain ⟨v,q1,q2⟩:=r6 i y j p (by simpa using hy) hp
      exact ⟨v,by rw [show (i0+(i+1))=(i0+1+i) by omega];exact q1,q2⟩
theorem I4{B:Nat}{p:PV}{s:SV}(hs:p.sv=some s){g c n:Nat}(hn:n=s.n){cs:Array Value}{t:Nat}(hh:w.heap[g]? =some (.cells cs t (0,0)))(hc:n≤c)
  (hsz:∀(i:Nat),i < n→(s.f i).length=s.sz) (hM:∀i,i < n*s.sz→imm M ⟨g,i,none⟩)
  (hr:∀(i:Nat) (j:Nat) (q:PV),i < n→(s.f i)[j]? =some q→∃v,cs[i*s.sz+j]? =some v∧Al w M β B q v∧v.oneCell'=true):
  Al w M β B p (.slice (some ⟨g,0,none⟩) n c):=by
 subst hn
 refine .row p s hs _ c (fun i j=>(cs[i*s.sz+j]?).getD undef) hc hsz (fun i _=>⟨_,rfl⟩) ?_ ?_
 ·intro ad i j q had hi hq
  injection had with had
  subst had
  obtain ⟨v,h1,h2,h3⟩:=hr i j q hi hq
  have hj:j < s.sz:=by have:=(List.getElem?_eq_some_iff.1 hq).1;have:=hsz i hi;omega
  have hm:(i+1)*s.sz≤s.n*s.sz:=Nat.mul_le_mul_right _ hi
  rw [Nat.add_mul,Nat.one_mul] at hm
  rw [P1]
  refine ⟨hM _ (by omega),?_,by rw [h1];exact h3⟩
  rw [World.cell?,hh,h1]
  exact h1
 ·intro i j q hi hq
  obtain ⟨v,h1,h2,h3⟩:=hr i j q hi hq
  rw [h1];exact h2
theorem Nt{B:Nat}{p:PV}{s:SV}(hs:p.sv=some s){v:Value}(hpos:1≤s.sz)(h:Al w M β B p v):
  ∃(A:Option Addr) (c:Nat) (news:List Value),v= .slice A s.n c∧s.n≤c∧news.length=s.n*s.sz∧(∀(ad:Addr) (j:Nat) (u:Value),A=some ad→news[j]? =some u→w.cell? (ad.add j)=some u)∧
   (∀u∈news,u.oneCell'=true)∧(0 < s.n→∃ad,A=some ad)∧(∀(i:Nat),i < s.n→(s.f i).length=s.sz)∧
   (∀(i:Nat) (j:Nat) (q:PV),i < s.n→(s.f i)[j]? =some q→∃u,news[i*s.sz+j]? =some u∧Al w M β B q u∧u.oneCell'=true):=by
 have go:∀(p:PV) (v:Value),p.sv=some s→Al w M β B p v→∃(A:Option Addr) (c:Nat) (news:List Value),v= .slice A s.n c∧s.n≤c∧news.length=s.n*s.sz∧(∀(ad:Addr) (j:Nat) (u:Value),A=some ad→news[j]? =some u→w.cell? (ad.add j)=some u)∧
   (∀u∈news,u.oneCell'=true)∧(0 < s.n→∃ad,A=some ad)∧(∀(i:Nat),i < s.n→(s.f i).length=s.sz)∧
   (∀(i:Nat) (j:Nat) (q:PV),i < s.n→(s.f i)[j]? =some q→∃u,news[i*s.sz+j]? =some u∧Al w M β B q u∧u.oneCell'=true):=by
  intro p v hs h
  cases h with
  |row p s' hs' A c vs hc hsz ha hm hr=>
   rw [hs] at hs';injection hs' with hs';subst hs'
   have key:∀j,j < s.n*s.sz→∃p,j/s.sz < s.n∧(s.f (j/s.sz))[j % s.sz]? =some p:=by
    intro j hj
    have h1:j/s.sz < s.n:=Nat.div_lt_of_lt_mul (by rw [Nat.mul_comm];exact hj)
    have h2:j % s.sz < s.sz:=Nat.mod_lt _ (by omega)
    have hl:=hsz _ h1
    exact ⟨_,h1,List.getElem?_eq_getElem (by omega)⟩
   have hdm:∀j,j/s.sz*s.sz+j % s.sz=j:=fun j=>Nat.div_add_mod' j s.sz
   refine ⟨A,c,(List.range (s.n*s.sz)).map fun j=>vs (j/s.sz) (j % s.sz),rfl,hc,by simp,?_,?_,?_,hsz,?_⟩
   ·intro ad j u hA hj
    have hjl:j < s.n*s.sz:=by have:=(List.getElem?_eq_some_iff.1 hj).1;simpa using this
    obtain ⟨p,hx,hp⟩:=key j hjl
    have:=(hm ad _ _ p hA hx hp).2.1
    rw [hdm] at this
    rw [List.getElem?_map,List.getElem?_range hjl] at hj
    simp at hj
    rw [this,hj]
   ·intro u hu
    obtain ⟨j,hj,rfl⟩:=List.mem_map.1 hu
    have hjl:j < s.n*s.sz:=by simpa using hj
    obtain ⟨p,hx,hp⟩:=key j hjl
    obtain ⟨ad,hA⟩:=ha _ hx
    exact (hm ad _ _ p hA hx hp).2.2
   ·intro h0
    exact ha 0 h0
   ·intro i j p hi hp
    have hj:j < s.sz:=by have:=(List.getElem?_eq_some_iff.1 hp).1;have:=hsz i hi;omega
    have hmul:(i+1)*s.sz≤s.n*s.sz:=Nat.mul_le_mul_right _ hi
    rw [Nat.add_mul,Nat.one_mul] at hmul
    obtain ⟨ad,hA⟩:=ha i hi
    refine ⟨vs i j,?_,hr i j p hi hp,(hm ad i j p hA hi hp).2.2⟩
    rw [List.getElem?_map,List.getElem?_range (by omega)]
    have e1:(i*s.sz+j)/s.sz=i:=by
     rw [Nat.mul_comm,Nat.mul_add_div (by omega),Nat.div_eq_of_lt hj];omega
    have e2:(i*s.sz+j) % s.sz=j:=by
     rw [Nat.mul_comm,Nat.mul_add_mod,Nat.mod_eq_of_lt hj]
    simp [e1,e2]
  |_=>cases hs
 exact go p v hs h
theorem Mm(t ty e:TypeId)(i:TypeInfo)(ht:P.underlying t=some (.slice e))(hi:P.info? e=some i)(A0:Option Addr)(n c0:Nat)(hc:n≤c0)(hA:A0=none→n=0∧c0=0)
  (A:Option Addr) (c:Nat) (w:World):(Builtin.append_ #[t,t] ty #[.slice A0 n c0,.slice A 0 c]).run P w= .ok (.slice A0 n c0) w:=by
 cases A0 with
 |none=>
  obtain ⟨rfl,rfl⟩:=hA rfl
  cases A<;>simp [Builtin.append_,run_underlying ht,sizeOf,typeInfo,hi,Builtin.lenOf,Builtin.firstCells,loadCells,loadCellsFrom]
 |some g=>
  cases A<;>simp [Builtin.append_,run_underlying ht,sizeOf,typeInfo,hi,Builtin.lenOf,Builtin.firstCells,loadCells,loadCellsFrom,hc,storeCells]
theorem Wv{B:Nat}{s t u:SV}{xs news rest:List Value}(hsz:t.sz=s.sz)(husz:u.sz=s.sz)(hlen:xs.length=s.n*s.sz)(hun:u.n=s.n+t.n)
  (hu1:∀i,i < s.n→u.f i=s.f i) (hu2:∀i,i < t.n→u.f (s.n+i)=t.f i)
  (h1:∀(i:Nat) (j:Nat) (p:PV),i < s.n→(s.f i)[j]? =some p→∃v,xs[i*s.sz+j]? =some v∧Al w M β B p v∧v.oneCell'=true) (hs1:∀i,i < s.n→(s.f i).length=s.sz)
  (h2:∀(i:Nat) (j:Nat) (p:PV),i < t.n→(t.f i)[j]? =some p→∃v,news[i*t.sz+j]? =some v∧Al w M β B p v∧v.oneCell'=true) (hs2:∀i,i < t.n→(t.f i).length=t.sz) (hnl:news.length=t.n*t.sz):
  (∀i,i < u.n→(u.f i).length=u.sz)∧∀(i:Nat) (j:Nat) (p:PV),i < u.n→(u.f i)[j]? =some p→∃v,(xs++news++rest)[i*u.sz+j]? =some v∧Al w M β B p v∧v.oneCell'=true:=by
 rw [husz]
 rw [hsz] at h2 hs2 hnl
 constructor
 ·intro i hi
  by_cases h:i < s.n
  ·rw [hu1 i h];exact hs1 i h
  ·obtain ⟨k,rfl⟩:∃k,i=s.n+k:=⟨i - s.n,by omega⟩
   rw [hu2 k (by omega)];exact hs2 k (by omega)
 ·intro i j p hi hp
  by_cases h:i < s.n
  ·rw [hu1 i h] at hp
   obtain ⟨v,q1,q2⟩:=h1 i j p h hp
   have:=(List.getElem?_eq_some_iff.1 q1).1
   exact ⟨v,by rw [List.append_assoc,List.getElem?_append_left (by omega)];exact q1,q2⟩
  ·obtain ⟨k,rfl⟩:∃k,i=s.n+k:=⟨i - s.n,by omega⟩
   rw [hu2 k (by omega)] at hp
   obtain ⟨v,q1,q2⟩:=h2 k j p (by omega) hp
   have:=(List.getElem?_eq_some_iff.1 q1).1
   refine ⟨v,?_,q2⟩
   have e:(s.n+k)*s.sz+j=xs.length+(k*s.sz+j):=by rw [hlen,Nat.add_mul];omega
   rw [List.append_assoc,e,List.getElem?_append_right (by omega),show xs.length+(k*s.sz+j) - xs.length=k*s.sz+j by omega,List.getElem?_append_left (by omega)]
   exact q1
end
section
variable {κ :Type} {H: κ→PV×Value} {P:Program} {w0 w:World} {N M:It} {β :Ha} {O:Nat→List PV} {D:Nat→Bool}
theorem Tp(h:SH H w0 N O D w M β)(t ty e:Nat)(i:TypeInfo)(z:Value)(ht:P.underlying t=some (.slice e))(hi:P.info? e=some i)(hz:i.zero=some z)
  (hzs:z.cells.size=i.size) (hpos:1≤i.size) {p q r:PV} {s s2 u:SV} (hp:p.sv=some s) (hq:q.sv=some s2) (hr:r.sv=some u)
  (hse:s.e=e) (hss:s.sz=i.size) (hts:s2.sz=s.sz) (hue:u.e=s.e) (hus:u.sz=s.sz) (hun:u.n=s.n+s2.n) (hu1:∀i,i < s.n→u.f i=s.f i) (hu2:∀i,i < s2.n→u.f (s.n+i)=s2.f i)
  {v x:Value} (hv:Al w M β w0.heap.size p v) (ht0:Ok w M w0.heap.size s v) (hx:Al w M β w0.heap.size q x)
  (hno:∀key s' v' g,Lb H O w β key s' v'→tb v=some g→tb v'≠some g) (hbox:∀g d n,tb v=some g→β d≠some (g,n))
  (hb:(s.n+s2.n)*i.bytes≤140737488355328) (hm:s.n+s2.n≤maxLen):
  ∃v' w' M',(Builtin.append_ #[t,t] ty #[v,x]).run P w= .ok v' w'∧SH (Jg (r,v') H) w0 N O D w' M' β :=by
 obtain ⟨A,c,xs,hv1,hv2,hv3,hv4,hv5,hv6,hv7,hv8⟩:=Nt hp (by omega) hv
 obtain ⟨A',c',news,hu1',hu2',hu3',hu4',hu5',hu6',hu7',hu8'⟩:=Nt hq (by omega) hx
 have hmax:s.n+s2.n≤9223372036854775807:=by simp only [maxLen] at hm;omega
 by_cases hy:s2.n=0
 ·have hrun:(Builtin.append_ #[t,t] ty #[v,x]).run P w= .ok v w:=by
   rw [hu1',hv1,hy]
   refine Mm t ty e i ht hi A s.n c hv2 ?_ A' c' w
   intro hA
   rcases ht0 with ⟨a,h1,h2⟩|⟨g,c1,cur,h1,_⟩
   ·rw [hv1] at h1;injection h1 with _ h3 h4;exact ⟨h2,h4⟩
   ·rw [hv1,hA] at h1;cases h1
  have hrel:Al w M β w0.heap.size r v:=by
   have hun':s.n=u.n:=by omega
   have go:∀(p:PV) (v:Value),p.sv=some s→Al w M β w0.heap.size p v→Al w M β w0.heap.size r v:=by
    intro p v hp hv
    cases hv with
    |row p s' hs' A c vs hc hsz ha hm hr'=>
     rw [hp] at hs';injection hs' with hs';subst hs'
     rw [hun'] at hc hsz ha hm hr' ⊢
     refine .row r u hr A c vs hc (fun i hi=> ?_) ha (fun ad i j q h1 h2 h3=> ?_) (fun i j q h1 h2=> ?_)
     ·rw [hu1 i (by omega),hus];exact hsz i hi
     ·rw [hus];exact hm ad i j q h1 h2 (by rw [←hu1 i (by omega)];exact h3)
     ·exact hr' i j q h1 (by rw [←hu1 i (by omega)];exact h2)
    |_=>cases hp
   exact go p v hp hv
  refine ⟨v,w,M,hrun,h.cons r v hrel (fun s' h1 h2=> ?_)⟩
  rw [hr] at h1;injection h1 with h1;subst h1
  refine ⟨?_,hno,hbox⟩
  rcases ht0 with ⟨a,h1,h2⟩|⟨g,c1,cur,h1,h3,h4,h5,h6,h7,h8⟩
  ·exact .inl ⟨a,h1,by omega⟩
  ·exact .inr ⟨g,c1,cur,by rw [hun,hy];exact h1,h3,by rw [hun,hy,hus];exact h4,by rw [hue];exact h5,by omega,h7,by rw [hus];exact h8⟩
 ·obtain ⟨ad,hA⟩:=hu6' (by omega)
  subst hA
  have hR:∀(rest:List Value),_:=fun rest=>Wv (w:=w) (M:=M) (β := β) (B:=w0.heap.size) (rest:=rest) hts hus hv3 hun hu1 hu2 hv8 hv7 hu8' hu7' hu3'
  have fresh:∀(cap:Nat) (zs:List Value),s.n+s2.n≤cap+1→cap+1≤maxLen→(xs++news++zs).length=(cap+1)*i.size→∀(W:World),W=w∨W=w.drew→
    ∃M',SH (Jg (r,.slice (some ⟨w.heap.size,0,none⟩) (s.n+s2.n) (cap+1)) H) w0 N O D (W.alloc (.cells (xs++news++zs).toArray e)) M' β :=by
   intro cap zs hcap hcm hcs W hW
   have hW':SH H w0 N O D W M β :=by rcases hW with rfl|rfl;exact h;exact h.drawn
   have hWs:W.heap.size=w.heap.size:=by rcases hW with rfl|rfl<;>rfl
   have hWe:∀p v,Al w M β w0.heap.size p v→Al W M β w0.heap.size p v:=by
    rcases hW with rfl|rfl
    ·exact fun p v h=>h
    ·exact fun p v h=>Al.ext (w:=w) (w':=w.drew) (fun x u h1 h2=>⟨h1,h2⟩) (fun _ _=>rfl) (fun _ _ h=>h) h
   obtain ⟨hE,hS,hRR,hb1,hn1⟩:=hW'.rowNew (xs++news++zs).toArray e ((s.n+s2.n)*i.size)
   rw [hWs] at hE hS hRR hb1 hn1
   have hh:(W.alloc (.cells (xs++news++zs).toArray e)).heap[w.heap.size]? =some (.cells (xs++news++zs).toArray e (0,0)):=by rw [←hWs];exact heap_alloc_new W _
   have hle:w0.heap.size≤w.heap.size:=h.bel.size
   obtain ⟨r1,r2⟩:=hR zs
   refine ⟨_,hS.cons r _ ?_ (fun s' h1 h2=> ?_)⟩
   ·refine I4 hr hun.symm hh hcap (fun i hi=>r1 i (by omega)) (fun j hj n hn=> ?_) (fun i0 j q hi0 hq=> ?_)
    ·simp only [if_true] at hn
     injection hn with hn
     rw [hus,hss] at hj
     show j < n
     omega
    ·obtain ⟨u0,q1,q2,q3⟩:=r2 i0 j q (by omega) hq
     exact ⟨u0,by simpa using q1,hRR _ _ (hWe _ _ q2),q3⟩
   ·rw [hr] at h1;injection h1 with h1;subst h1
    refine ⟨.inr ⟨w.heap.size,cap,(xs++news++zs).toArray,by rw [hun],hle,by simp [hun,hus,hss],by rw [hue,hse];exact hh,by omega,hcm,by rw [hus,hss];simpa using hcs⟩,?_,?_⟩
    ·intro key s' v' g ho hg
     have:w.heap.size=g:=by simpa [tb] using hg
     rw [←this];exact (hn1 key s' v' ho).2
    ·intro g d n hg
     have:w.heap.size=g:=by simpa [tb] using hg
     rw [←this];exact hb1 d n
  have zlen:∀n,(Builtin.zeroCells z.cells n).toList.length=n*i.size:=fun n=>by rw [Array.length_toList,size_zeroCells,hzs]
  have toA:∀n,xs.toArray++news.toArray++Builtin.zeroCells z.cells n=(xs++news++(Builtin.zeroCells z.cells n).toList).toArray:=fun n=>by
   apply Array.ext';simp
  have hnl:news.length=s2.n*i.size:=by rw [hu3',hts,hss]
  have hxl:xs.length=s.n*i.size:=by rw [hv3,hss]
  have grow:∀(ad0:Addr),A=some ad0→¬(s.n+s2.n≤c)→∃v' w' M',(Builtin.append_ #[t,t] ty #[v,x]).run P w= .ok v' w'∧SH (Jg (r,v') H) w0 N O D w' M' β :=by
   intro ad0 hA0 hroom
   have hcell:∀(j:Nat) (q:Value),xs[j]? =some q→w.cell? (ad0.add j)=some q:=fun j q hq=>hv4 _ j q hA0 hq
   have hr:=run_append_grow (P:=P) w t ty e i z ht hi hz ad0 s.n c xs hxl hcell ad s2.n c' news hnl (fun j q hq=>hu4' ad j q rfl hq) (by omega) (by omega) (growslice_fits (by omega) hb)
   have hge:=grownCap_ge w (s.n+s2.n) c e
   have hle':=grownCap_le_maxLen w (s.n+s2.n) c e hm
   obtain ⟨k,hk⟩:∃k,grownCap w (s.n+s2.n) c e=k+1:=⟨grownCap w (s.n+s2.n) c e - 1,by omega⟩
   rw [hk] at hr hge hle'
   obtain ⟨M',hS⟩:=fresh k (Builtin.zeroCells z.cells (k+1 - (s.n+s2.n))).toList hge hle' (by
    rw [List.length_append,List.length_append,zlen,hnl,hxl,←Nat.add_mul,←Nat.add_mul];congr 1;omega) w.drew (.inr rfl)
   refine ⟨_,_,M',by rw [hv1,hA0,hu1'];exact hr,?_⟩
   rw [toA]
   exact hS
  rcases ht0 with ⟨a0,h1,h2⟩|⟨g,c1,cur,h1,h2,h3,h4,h5,h6,h7⟩
  ·have hAc:A=a0∧c=0:=by rw [hv1] at h1;injection h1 with q1 _ q3;exact ⟨q1,q3⟩
   obtain ⟨rfl,rfl⟩:=hAc
   cases A with
   |some ad0=>exact grow ad0 rfl (by omega)
   |none=>
    have hxs:xs= []:=List.eq_nil_of_length_eq_zero (by rw [hv3,h2];simp)
    subst hxs
    have hr:=run_append_nil (P:=P) w t ty e i z ht hi hz ad s2.n c' news hnl (fun j q hq=>hu4' ad j q rfl hq) (by omega) (by omega) (by rw [h2,Nat.zero_add] at hb;exact Nat.le_trans hb (by decide))
    have hge:=grownCap_ge w s2.n 0 e
    have hle':=grownCap_le_maxLen w s2.n 0 e (by omega)
    obtain ⟨k,hk⟩:∃k,grownCap w s2.n 0 e=k+1:=⟨grownCap w s2.n 0 e - 1,by omega⟩
    rw [hk] at hr hge hle'
    obtain ⟨M',hS⟩:=fresh k (Builtin.zeroCells z.cells (k+1 - s2.n)).toList (by omega) hle' (by
     rw [List.length_append,List.length_append,zlen,hnl,List.length_nil,Nat.zero_add,←Nat.add_mul];congr 1;omega) w.drew (.inr rfl)
    refine ⟨_,_,M',by rw [h1,hu1'];exact hr,?_⟩
    rw [h2,Nat.zero_add,List.nil_append] at hS
    have e0:news.toArray++Builtin.zeroCells z.cells (k+1 - s2.n)=(news++(Builtin.zeroCells z.cells (k+1 - s2.n)).toList).toArray:=by apply Array.ext';simp
    rw [e0]
    exact hS
  ·have hAg:A=some ⟨g,0,none⟩∧c=c1+1:=by rw [hv1] at h1;injection h1 with q1 _ q3;exact ⟨q1,q3⟩
   obtain ⟨hA1,hc1⟩:=hAg
   subst hc1
   have hcell:∀(j:Nat) (q:Value),xs[j]? =some q→w.cell? ((⟨g,0,none⟩:Addr).add j)=some q:=fun j q hq=>hv4 _ j q hA1 hq
   by_cases hroom:s.n+s2.n≤c1+1
   ·have hfit:s.n*i.size+news.length≤cur.size:=by rw [hnl,h7,hss,←Nat.add_mul];exact Nat.mul_le_mul_right _ hroom
    have hrr:=run_append_room (P:=P) w t ty e i ht hi g s.n (c1+1) cur (by rw [←hse];exact h4) ad s2.n c' news hnl (fun j q hq=>hu4' ad j q rfl hq) hu5' hroom hfit
    have htake:cur.toList.take (s.n*i.size)=xs:=by
     apply List.ext_getElem?
     intro j
     rcases Nat.lt_or_ge j (s.n*i.size) with hj|hj
     ·have hx:xs[j]? =some (xs[j]'(by omega)):=List.getElem?_eq_getElem (by omega)
      have:=hcell j _ hx
      rw [P1,World.cell?,h4] at this
      rw [List.getElem?_take,if_pos hj,hx]
      simpa using this
     ·rw [List.getElem?_eq_none (by simp;omega),List.getElem?_eq_none (by omega)]
    rw [htake] at hrr
    have htb:tb v=some g:=by rw [h1];rfl
    have hno':∀key s' v',Lb H O w β key s' v'→tb v'≠some g:=fun key s' v' ho=>hno key s' v' g ho htb
    have hbox':∀d n,β d≠some (g,n):=fun d n=>hbox g d n htb
    obtain ⟨hE,hS,hRR,hOO⟩:=h.rowWrite g (s.n*s.sz) ((s.n+s2.n)*s.sz) cur (xs++news++cur.toList.drop (s.n*i.size+news.length)).toArray s.e h2 h3 (Nat.mul_le_mul_right _ (by omega)) h4 (fun j hj=>by
     rw [hss] at hj
     have hx:xs[j]? =some (xs[j]'(by omega)):=List.getElem?_eq_getElem (by omega)
     have:=hcell j _ hx
     rw [P1,World.cell?,h4] at this
     have h8:cur[j]? =some (xs[j]'(by omega)):=by simpa using this
     rw [h8]
     simp only [List.getElem?_toArray]
     rw [List.append_assoc,List.getElem?_append_left (by omega)]
     exact hx) hbox' hno'
    have hh:(w.setRow g (xs++news++cur.toList.drop (s.n*i.size+news.length)).toArray).heap[g]? =some (.cells (xs++news++cur.toList.drop (s.n*i.size+news.length)).toArray s.e (0,0)):=setRow_heap w g cur _ s.e (0,0) h4
    obtain ⟨r1,r2⟩:=hR (cur.toList.drop (s.n*i.size+news.length))
    refine ⟨_,_,_,by rw [h1,hu1'];exact hrr,hS.cons r _ ?_ (fun s' q1 q2=> ?_)⟩
    ·refine I4 hr hun.symm hh hroom (fun i hi=>r1 i (by omega)) (fun j hj n hn=> ?_) (fun i0 j q hi0 hq=> ?_)
     ·simp only [if_true] at hn
      injection hn with hn
      rw [hus] at hj
      show j < n
      omega
     ·obtain ⟨u0,q1,q2,q3⟩:=r2 i0 j q (by omega) hq
      exact ⟨u0,by simpa using q1,hRR _ _ q2,q3⟩
    ·rw [hr] at q1;injection q1 with q1;subst q1
     refine ⟨.inr ⟨g,c1,_,by rw [hun],h2,by simp [hun,hus],by rw [hue];exact hh,by omega,h6,?_⟩,?_,?_⟩
     ·rw [hus,hss]
      simp only [List.size_toArray,List.length_append,List.length_drop,Array.length_toList]
      rw [hss] at h7
      omega
     ·intro key s' v' g' ho hg
      have:g=g':=by simpa [tb] using hg
      rw [←this];exact hno' key s' v' (hOO key s' v' ho)
     ·intro g' d n hg
      have:g=g':=by simpa [tb] using hg
      rw [←this];exact hbox' d n
   ·exact grow _ hA1 hroom
theorem O7(f:Nat→List PV)(s:Nat)(hf:∀i,(f i).length=s):∀n,(((List.range n).map f).flatten).length=n*s∧
  ∀k p,(((List.range n).map f).flatten)[k]? =some p→∃i j,i < n∧j < s∧k=i*s+j∧(f i)[j]? =some p
 |0=>⟨by simp,fun k p h=>by simp at h⟩
 |n+1=>by
  obtain ⟨h1,h2⟩:=O7 f s hf n
  rw [List.range_succ,List.map_append,List.flatten_append]
  have e:(List.map f [n]).flatten=f n:=by simp
  rw [e]
  refine ⟨by rw [List.length_append,h1,hf,Nat.add_mul,Nat.one_mul],fun k p h=> ?_⟩
  rcases Nat.lt_or_ge k (n*s) with hk|hk
  ·rw [List.getElem?_append_left (by omega)] at h
   obtain ⟨i,j,a,b,c,d⟩:=h2 k p h
   exact ⟨i,j,by omega,b,c,d⟩
  ·rw [List.getElem?_append_right (by omega),h1] at h
   have:=(List.getElem?_eq_some_iff.1 h).1
   rw [hf] at this
   exact ⟨n,k - n*s,by omega,this,by omega,h⟩
theorem LX.flat_len(z:LX):z.flat.length=z.len*z.sz:=by
 unfold LX.flat
 rw [List.length_map]
 exact (O7 z.row z.sz (LX.row_len z) z.len).1
theorem LX.flat_get(z:LX){k:Nat}{p:PV}(h:z.flat[k]? =some p):∃i j q,i < z.len∧j < z.sz∧k=i*z.sz+j∧(z.row i)[j]? =some q∧p=q.view:=by
 unfold LX.flat at h
 obtain ⟨q,h1,h2⟩:=B3 h
 obtain ⟨i,j,a,b,c,d⟩:=(O7 z.row z.sz (LX.row_len z) z.len).2 k q h1
 exact ⟨i,j,q,a,b,c,d,h2⟩
theorem Z1{O':Nat→List PV}{D':Nat→Bool}(h:SH H w0 N O D w M β)(t ty e:Nat)(i:TypeInfo)(z:Value)(ht:P.underlying t=some (.slice e))(hi:P.info? e=some i)(hz:i.zero=some z)
  (hzs:z.cells.size=i.size) (hpos:1≤i.size) {own:Bool} {x:LX} {s:SV} (hs0:s.n=0) (hse:s.e=e) (hss:s.sz=i.size) (hxs:x.sz=i.size) (hn:1≤x.len)
  {v xv:Value} (ht0:Ok w M w0.heap.size s v) (hx:Al w M β w0.heap.size (.lst own x) xv)
  (hno:∀key s' v' g,Lb H O w β key s' v'→tb v=some g→tb v'≠some g) (hbox:∀g d n,tb v=some g→β d≠some (g,n))
  (hb:x.len*i.bytes≤140737488355328) (hm:x.len≤maxLen)
  {d:Nat} (cm:Bool) (hnew:D d=true) (hO1:O' d=match cm with|true=>x.flat|false=> [.arrO x]) (hO2:∀y,y≠d→O' y=O y) (hD:∀y,D' y=true→D y=true∧y≠d):
  ∃v' w' M' β',(Builtin.append_ #[t,t] ty #[v,xv]).run P w= .ok v' w'∧SH (Jg (.vw cm d e i.size x.len,v') H) w0 N O' D' w' M' β':=by
 obtain ⟨A',c',news,hu1',hu2',hu3',hu4',hu5',hu6',hu7',hu8'⟩:=Nt (p:= .lst own x) (s:=⟨own,x.e,x.sz,x.len,x.row⟩) rfl (by show 1≤x.sz;omega) hx
 obtain ⟨ad,hA⟩:=hu6' (by show 0 < x.len;omega)
 subst hA
 have hnl:news.length=x.len*i.size:=by rw [hu3',←hxs]
 have hmax:x.len≤9223372036854775807:=by simp only [maxLen] at hm;omega
 have hu1'':xv= .slice (some ad) x.len c':=hu1'
 have hu2'':x.len≤c':=hu2'
 have fin:∀(W:World) (M1:It) (g c:Nat) (zs:List Value),(∀p v,Al w M β w0.heap.size p v→Al W M1 β w0.heap.size p v)→SH H w0 N O D W M1 β→w0.heap.size≤g→M1 g=some 0→(∀y n,β y≠some (g,n))→
   (∀key s v,Lb H O W β key s v→tb v≠some g)→W.heap[g]? =some (.cells (news++zs).toArray e (0,0))→x.len≤c→
   ∃M' β',SH (Jg (.vw cm d e i.size x.len,.slice (some ⟨g,0,none⟩) x.len c) H) w0 N O' D' W M' β':=by
  intro W M1 g c zs hR hS hgB hM1 hb1 hn1 hh hc
  have hcell:∀(i0 j:Nat) (p:PV) (v:Value),i0 < x.len→(x.row i0)[j]? =some p→(news++zs).toArray[i0*x.sz+j]? =some v→Al W M1 β w0.heap.size p v∧v.oneCell'=true:=fun i0 j p v hi0 hp hv=>by
   obtain ⟨v0,q1,q2,q3⟩:=hu8' i0 j p hi0 hp
   have hlt:=(List.getElem?_eq_some_iff.1 q1).1
   have:v=v0:=by
    simp only [List.getElem?_toArray] at hv
    rw [List.getElem?_append_left hlt] at hv
    exact Option.some.inj (hv.symm.trans q1)
   subst this
   exact ⟨hR _ _ q2,q3⟩
  cases cm with
  |false=>
   obtain ⟨β',hS',hd⟩:=hS.adopt d g x.len [.arrO x] hnew hgB hM1 hb1 hn1 hO1 hO2 hD (fun k p s' hp hs _=>by
     cases k with
     |zero=>simp at hp;subst hp;cases hs
     |succ k=>simp at hp) (fun β' hR' _=> .arr x _ e hh rfl (by simp only [List.size_toArray,List.length_append];rw [hnl,hxs];omega) (fun i0 j p v hi0 hp hv=>by
     obtain ⟨r1,r2⟩:=hcell i0 j p v hi0 hp hv
     exact ⟨hR' _ _ r1,r2⟩))
   exact ⟨M1,β',hS'.cons _ _ (.vw false d e i.size x.len g c hd hc) (fun s' h1 _=>by cases h1)⟩
  |true=>
   obtain ⟨β',hS',hd⟩:=hS.adopt d g x.len x.flat hnew hgB hM1 hb1 hn1 hO1 hO2 hD (fun k p s' hp hs ho'=>by
     obtain ⟨_,_,q,_,_,_,_,rfl⟩:=LX.flat_get x hp
     rw [Ej hs] at ho';cases ho') (fun β' hR' _=> .cells _ _ e hh (by simp only [List.size_toArray,List.length_append];rw [LX.flat_len,hnl,hxs];omega) (fun k p v hp hv=>by
     obtain ⟨i0,j,q,a1,a2,a3,a4,rfl⟩:=LX.flat_get x hp
     subst a3
     obtain ⟨r1,r2⟩:=hcell i0 j q v a1 a4 hv
     exact ⟨(hR' _ _ r1).view,r2⟩))
   exact ⟨M1,β',hS'.cons _ _ (.vw true d e i.size x.len g c hd hc) (fun s' h1 _=>by cases h1)⟩
 have zlen:∀n,(Builtin.zeroCells z.cells n).toList.length=n*i.size:=fun n=>by rw [Array.length_toList,size_zeroCells,hzs]
 have toA:∀n,news.toArray++Builtin.zeroCells z.cells n=(news++(Builtin.zeroCells z.cells n).toList).toArray:=fun n=>by
  apply Array.ext';simp
 have fresh:∀(cap:Nat) (zs:List Value),x.len≤cap→∃M' β',SH (Jg (.vw cm d e i.size x.len,.slice (some ⟨w.heap.size,0,none⟩) x.len cap) H) w0 N O' D' (w.drew.alloc (.cells (news++zs).toArray e)) M' β':=by
  intro cap zs hcap
  have hW':SH H w0 N O D w.drew M β :=h.drawn
  have hWe:∀p v,Al w M β w0.heap.size p v→Al w.drew M β w0.heap.size p v:=fun p v h=>Al.ext (w:=w) (w':=w.drew) (fun x u h1 h2=>⟨h1,h2⟩) (fun _ _=>rfl) (fun _ _ h=>h) h
  obtain ⟨hE,hS,hRR,hb1,hn1⟩:=hW'.rowNew (news++zs).toArray e 0
  have hle:w0.heap.size≤w.heap.size:=h.bel.size
  exact fin _ _ w.heap.size cap zs (fun p v hr=>hRR _ _ (hWe _ _ hr)) hS hle (if_pos rfl) hb1 (fun key s v ho=>(hn1 key s v ho).2) (heap_alloc_new w.drew _) hcap
 have grow:∀(ad0:Addr) (c:Nat),v= .slice (some ad0) 0 c→¬(0+x.len≤c)→∃v' w' M' β',(Builtin.append_ #[t,t] ty #[v,xv]).run P w= .ok v' w'∧SH (Jg (.vw cm d e i.size x.len,v') H) w0 N O' D' w' M' β':=by
  intro ad0 c hv hroom
  have hr:=run_append_grow (P:=P) w t ty e i z ht hi hz ad0 0 c [] (by simp) (fun j q hq=>by simp at hq) ad x.len c' news hnl (fun j q hq=>hu4' ad j q rfl hq) (by omega) (by omega) (growslice_fits (by omega) (by rw [Nat.zero_add];exact hb))
  have hge:=grownCap_ge w (0+x.len) c e
  obtain ⟨M',β',hS⟩:=fresh (grownCap w (0+x.len) c e) (Builtin.zeroCells z.cells (grownCap w (0+x.len) c e - (0+x.len))).toList (by omega)
  refine ⟨_,_,M',β',by rw [hv,hu1''];exact hr,?_⟩
  have e0:([]:List Value).toArray++news.toArray=news.toArray:=by apply Array.ext';simp
  rw [e0,toA]
  simpa using hS
 rcases ht0 with ⟨a0,h1,_⟩|⟨g,c1,cur,h1,h2,h3,h4,h5,h6,h7⟩
 ·cases a0 with
  |some ad0=>exact grow ad0 0 h1 (by omega)
  |none=>
   have hr:=run_append_nil (P:=P) w t ty e i z ht hi hz ad x.len c' news hnl (fun j q hq=>hu4' ad j q rfl hq) (by omega) (by omega) (Nat.le_trans hb (by decide))
   have hge:=grownCap_ge w x.len 0 e
   obtain ⟨M',β',hS⟩:=fresh (grownCap w x.len 0 e) (Builtin.zeroCells z.cells (grownCap w x.len 0 e - x.len)).toList hge
   refine ⟨_,_,M',β',by rw [h1,hu1''];exact hr,?_⟩
   rw [toA]
   exact hS
 ·rw [hs0] at h1 h3
  rw [hse] at h4
  rw [hss] at h7
  rw [Nat.zero_mul] at h3
  by_cases hroom:0+x.len≤c1+1
  ·have hfit:0*i.size+news.length≤cur.size:=by rw [hnl,h7,Nat.zero_mul,Nat.zero_add];exact Nat.mul_le_mul_right _ (by omega)
   have hrr:=run_append_room (P:=P) w t ty e i ht hi g 0 (c1+1) cur h4 ad x.len c' news hnl (fun j q hq=>hu4' ad j q rfl hq) hu5' hroom hfit
   have htb:tb v=some g:=by rw [h1];rfl
   have hno':∀key s' v',Lb H O w β key s' v'→tb v'≠some g:=fun key s' v' ho=>hno key s' v' g ho htb
   have hbox':∀d n,β d≠some (g,n):=fun d n=>hbox g d n htb
   rw [Nat.zero_mul,Nat.zero_add,List.take_zero,List.nil_append,Nat.zero_add] at hrr
   obtain ⟨hE,hS,hRR,hOO⟩:=h.rowWrite g 0 0 cur (news++cur.toList.drop news.length).toArray e h2 h3 (Nat.le_refl _) h4 (fun j hj=>by omega) hbox' hno'
   have hh:=setRow_heap w g cur (news++cur.toList.drop news.length).toArray e (0,0) h4
   obtain ⟨M',β',hS'⟩:=fin _ _ g (c1+1) (cur.toList.drop news.length) hRR hS h2 (by simp) hbox' (fun key s v ho=>hno' key s v (hOO key s v ho)) hh (by omega)
   exact ⟨_,_,M',β',by rw [h1,hu1''];exact hrr,hS'⟩
  ·exact grow _ _ h1 hroom
end
end Go.Proofs.YtmimkinjcfekmaaGreat.Ev
