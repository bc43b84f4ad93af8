/-  One operation. -/
import Derived.Test.YtmimkinjcfekmaaGreatFe
namespace Go.Proofs.YtmimkinjcfekmaaGreat.Ev
open Go Go.RowKit
set_option linter.unusedVariables false
set_option linter.unusedSimpArgs false
set_option linter.unnecessarySimpa false
theorem I8.get{r s:List PV}(h:I8 r s):r.length=s.length∧∀(j:Nat) (q:PV),s[j]? =some q→∃p,r[j]? =some p∧PV.Le p q:=by
 induction h with
 |nil=>exact ⟨rfl,fun j q hq=>by simp at hq⟩
 |cons h hr ih=>
  refine ⟨by simp [ih.1],fun j q hq=> ?_⟩
  cases j with
  |zero=>simp at hq;subst hq;exact ⟨_,rfl,h⟩
  |succ j=>simpa using ih.2 j q (by simpa using hq)
section
variable {ι :Type} {cx: ι→PV×Value} {P:Program} {w0 w:World} {N M:It} {β :Ha} {nt:Nat} {st:St} {a:Act} {o:Oper} {δ :Ap} {K:Act→World→Prop} {Q:Exit→Act→World→Prop} {ban:List Nat}
theorem Q9{v:Value}{w':World}(h:(execOp a.eval o).run P w= .ok (.value v) w')(hk:K (a.put o.dst v) w'):o.wp P a w K Q:=by
 unfold Oper.wp;rw [h];exact hk
theorem Adw{w':World}(h:(execOp a.eval o).run P w= .ok .skip w')(hk:K (a.put o.dst undef) w'):o.wp P a w K Q:=by
 unfold Oper.wp;rw [h];exact hk
def Df{ι :Type}(cx: ι→PV×Value)(P:Program)(w0:World)(N:It)(nt:Nat)(st:St)(a:Act)(w:World)(o:Oper)(δ :Ap):Prop:=
 ∀(K:Act→World→Prop) (Q:Exit→Act→World→Prop),(∀a' w' M' β',SR cx w0 N nt (st.app δ) a' w' M' β'→K a' w')→o.wp P a w K Q
theorem Df.of_eq{δ':Ap}(h:Df cx P w0 N nt st a w o δ)(e: δ = δ'):Df cx P w0 N nt st a w o δ':=e ▸ h
theorem Bg(h:SR cx w0 N nt st a w M β)(hd:∀x,o.dst=some x→x < nt)(p:PV)(v:Value)(w':World)(hb:Below w.heap.size w w')(hrun:(execOp a.eval o).run P w= .ok (.value v) w')
  (hr:Al w' M β w0.heap.size p v) (hn:∀s,p.sv=some s→s.own=false):Df cx P w0 N nt st a w o (dput o.dst p):=
 fun K Q hK=>Q9 hrun (hK _ _ _ _ ((h.world hb).dput o.dst p v hd hr hn))
theorem Dw(h:SR cx w0 N nt st a w M β)(hd:∀x,o.dst=some x→x < nt){d:Nat}(hdst:o.dst=some d){p:PV}{v:Value}{w':World}{M':It}{β':Ha}{st0:St}{O:Nat→List PV}{D:Nat→Bool}
  (hS:SH (Jg (p,v) (hold cx st0 a)) w0 N O D w' M' β') (hrun:(execOp a.eval o).run P w= .ok (.value v) w') {δ :Ap}
  (hg:∀s,(st.app δ).get s=if d=s then p else st0.get s) (hO:∀x,(st.app δ).obj x=O x) (hD:∀x,Ag x ((st.app δ).ob.map Prod.fst)=true→D x=true):Df cx P w0 N nt st a w o δ :=
 fun K Q hK=>Q9 hrun (by rw [hdst];exact hK _ _ _ _ (SR.of_cons h.defs h.nt (hd d hdst) hS hg hO hD))
theorem M7(st:St)(d s t:Nat)(p q:PV):(st.app ⟨[(d,p),(s,q)],[]⟩).get t=if d=t then p else (st.app ⟨[(s,q)],[]⟩).get t:=Bi _ _ _ _ _
theorem Dh{p:PV}(h:p.sv=none):∀s,p.sv=some s→s.own=false:=fun s hs=>by rw [h] at hs;cases hs
theorem Jk(p:PV):∀s,p.view.sv=some s→s.own=false:=fun s hs=>Ej hs
theorem Ma(g:Bool)(l:List PV):∀s,(Oq g l).sv=some s→s.own=false:=by
 intro s h
 cases g with
 |true=>cases h
 |false=>
  match l,h with
  | [],h=>cases h
  | [p],h=>exact Ej h
  |p::q::r,h=>cases h
theorem Wl(h:SR cx w0 N nt st a w M β)(hd:∀x,o.dst=some x→x < nt)(x:Operand)(hrun:∀w,(execOp a.eval o).run P w= .ok (.value (a.eval x)) w):
  Df cx P w0 N nt st a w o (dput o.dst (st.opd x).view):=
 Bg h hd _ _ w (Below.refl _ _) (hrun w) (h.opd x).view (Jk _)
theorem Cx{a:Option Addr}{n g:Nat} :tb (.slice a n 0)≠some g:=by cases a<;>(intro h;cases h)
theorem l9(h:SR cx w0 N nt st a w M β)(hd:∀x,o.dst=some x→x < nt)(e:Nat)(x:LX)(d:Nat)(hdst:o.dst=some d)(hx:LX.nil e=some x)
  (hrun:(execOp a.eval o).run P w= .ok (.value (.slice none 0 0)) w):Df cx P w0 N nt st a w o ⟨[(d,.lst true x)],[]⟩:=by
 have hn:=(LX.nil_spec e x hx).2
 refine Dw h hd hdst (st0:=st) (h.sh.cons (.lst true x) _ (Al.le (.nil true x hn) (.val _ rfl)) (fun s h1 h2=> ?_)) hrun (fun s=>Db st d s _) (fun _=>rfl) (fun _ h=>h)
 injection h1 with h1;subst h1
 exact ⟨.inl ⟨none,rfl,hn⟩,fun key s' v' g _ hg=>absurd hg Cx,fun g d n hg=>absurd hg Cx⟩
theorem R7(h:SR cx w0 N nt st a w M β)(hd:∀x,o.dst=some x→x < nt)(s d:Nat)(hdst:o.dst=some d)(hrun:∀w,(execOp a.eval o).run P w= .ok (.value (a.eval (.tmp s))) w):
  Df cx P w0 N nt st a w o ⟨[(d,st.get s),(s,(st.get s).view)],[]⟩:=by
 refine Dw h hd hdst (st0:=st.app ⟨[(s,(st.get s).view)],[]⟩) ((h.drop s).sh.cons (st.get s) (a.eval (.tmp s)) (h.reg s) (fun sv h1 h2=> ?_)) (hrun w) (fun t=>M7 st d s t _ _) (fun _=>rfl) (fun _ h=>h)
 have ho:=Qw (cx:=cx) (w:=w) (β := β) (a:=a) (O:=st.obj) h1 h2
 refine ⟨h.sh.tok _ _ _ ho,fun key s' v' g hk hg=> ?_,fun g x n hg=>h.sh.tokbox _ _ _ g x n ho hg⟩
 obtain ⟨q1,q2⟩:=Nq hk
 exact h.sh.tokne _ _ _ _ _ _ g ho q1 (fun e=>q2 e.symm) hg
theorem B6(st:St)(s:List (Nat×PV))(d:Nat)(l:List PV)(t:Nat):(st.app ⟨s,[(d,l)]⟩).obj t=if d=t then l else st.obj t:=Bi _ _ _ _ _
theorem U4(h:SR cx w0 N nt st a w M β)(hd:∀x,o.dst=some x→x < nt)(d id n:Nat)(hdst:o.dst=some d)(l:List PV)(ob:Obj)(p:PV)(v:Value)(hnew:Ag id (st.ob.map Prod.fst)=true)
  (hp:p.sv=none) (hrel:∀(W:World) (M':It) (β':Ha),β' id=some (w.heap.size,n)→Al W M' β' w0.heap.size p v)
  (hown:∀(i:Nat) (p:PV) (s:SV),l[i]? =some p→p.sv=some s→s.own=true→∀v,(w.alloc ob).cell? ⟨w.heap.size,i,none⟩=some v→s.n=0∧∃a,v= .slice a 0 0)
  (hobj:∀(M':It) (β':Ha),(∀p v,Al w M β w0.heap.size p v→Al (w.alloc ob) M' β' w0.heap.size p v)→β' id=some (w.heap.size,n)→G3 (w.alloc ob) M' β' w0.heap.size w.heap.size n l)
  (hrun:(execOp a.eval o).run P w= .ok (.value v) (w.alloc ob)):Df cx P w0 N nt st a w o ⟨[(d,p)],[(id,l)]⟩:=by
 obtain ⟨M',β',hS,hb,_⟩:=h.sh.alloc (O':=(st.app ⟨[(d,p)],[(id,l)]⟩).obj) (D':=fun x=>Ag x (id::st.ob.map Prod.fst)) id n l ob hnew (by rw [B6,if_pos rfl]) (fun x hx=>by rw [B6,if_neg (fun e=>hx e.symm)])
  (fun x hx=>by
   have hx':=(Am _ _).1 hx
   exact ⟨(Am _ _).2 (fun hm=>hx' (List.mem_cons_of_mem _ hm)),fun e=>hx' (by simp [e])⟩) hown hobj
 exact Dw h hd hdst (st0:=st) (hS.cons p v (hrel _ _ _ hb) (fun s h1 _=>by rw [hp] at h1;cases h1)) hrun (fun s=>Bi _ _ _ _ _) (fun _=>rfl) (fun _ h=>h)
theorem U2(h:SR cx w0 N nt st a w M β)(hd:∀x,o.dst=some x→x < nt)(d id:Nat)(hdst:o.dst=some d)(l:List PV)(cs:Array Value)(t:Nat)
  (hnew:Ag id (st.ob.map Prod.fst)=true) (hl:RC w M β w0.heap.size l cs) (hown:∀(i:Nat) (p:PV) (s:SV) (v:Value),l[i]? =some p→p.sv=some s→s.own=true→cs[i]? =some v→s.n=0∧∃a,v= .slice a 0 0)
  (hrun:(execOp a.eval o).run P w= .ok (.value (.pointer (some ⟨w.heap.size,0,none⟩))) (w.alloc (.cells cs t))):
  Df cx P w0 N nt st a w o ⟨[(d,.loc id 0)],[(id,l)]⟩:=by
 have hh:=heap_alloc_new w (.cells cs t)
 refine U4 h hd d id 0 hdst l (.cells cs t) (.loc id 0) _ hnew rfl (fun W M' β' hb=> .loc id 0 _ _ hb) (fun i p s hp hs ho v hv=> ?_) (fun M' β' hR hb=> ?_) hrun
 ·rw [World.cell?,hh] at hv
  exact hown i p s v hp hs ho hv
 ·exact .cells l cs t hh (Nat.le_of_eq hl.1) (fun i p v hp hv=>⟨hR _ _ (hl.2 i p v hp hv).1,(hl.2 i p v hp hv).2⟩)
theorem R6(h:SR cx w0 N nt st a w M β)(hd:∀x,o.dst=some x→x < nt)(t sz:Nat)(x:Operand)(d:TypeDesc)(ho:o.op= .load t x)(hu:P.underlying t=some d)(hs:Ow P t=some sz)
  (hsz:Bz P t=false→sz=1) (ad:Addr) (l:List PV) (hv:a.eval x= .pointer (some ad)) (hc:Hz w M β w0.heap.size ad l) (hl:l.length=sz):
  Df cx P w0 N nt st a w o (dput o.dst (Oq (Bz P t) l)):=by
 obtain ⟨v,hrun,hr⟩:=s9 (B:=w0.heap.size) hu hs hsz hl hc
 refine Bg h hd _ v w (Below.refl _ _) ?_ hr (Ma _ _)
 simp only [execOp,ho,hv,Instr.loadAt,Instr.sureAddr,Sem.run_bind,Sem.run_pure,Result.andThen_ok]
 rw [hrun]
 rfl
theorem Z5(h:SR cx w0 N nt st a w M β){d b n i off:Nat}{x:LX}(hβ : β d=some (b,n))(hi:i < n)(ho:st.obj d= [.arrO x]):Hz w M β w0.heap.size ⟨b,i*x.sz+off,none⟩ ((x.row i).drop off):=by
 intro j p hp
 obtain ⟨_,_,h3⟩:=h.sh.box d b n hβ
 obtain ⟨cs,t,q1,q2,q3,q4⟩:=Wu h3 ho
 rw [List.getElem?_drop] at hp
 have hlt:=(List.getElem?_eq_some_iff.1 hp).1
 rw [LX.row_len] at hlt
 have hm:(i+1)*x.sz≤n*x.sz:=Nat.mul_le_mul_right _ hi
 rw [Nat.add_mul,Nat.one_mul] at hm
 have hv:cs[i*x.sz+(off+j)]? =some (cs[i*x.sz+(off+j)]'(by omega)):=Array.getElem?_eq_getElem (by omega)
 refine ⟨_,?_,q4 i (off+j) p _ hi hp hv⟩
 rw [P2,World.cell?,q1,Nat.add_assoc]
 exact hv
theorem R3{t sz b off ty:Nat}{ad x:Operand}{cs:Array Value}(ho:o.op= .store t ad x)(hsz:Ow P t=some sz)(hv:a.eval ad= .pointer (some ⟨b,off,none⟩))(hh:w.heap[b]? =some (.cells cs ty (0,0)))
  (hl:(a.eval x).cells.toList.length=sz) (hfit:off+sz≤cs.size) (h1:∀u∈(a.eval x).cells.toList,u.oneCell'=true):
  (execOp a.eval o).run P w= .ok .skip (w.setRow b (cs.toList.take off++(a.eval x).cells.toList++cs.toList.drop (off+(a.eval x).cells.toList.length)).toArray):=by
 obtain ⟨i,hi,his⟩:=Nw hsz
 have hrun:=run_storeCells_at P b off ty (a.eval x).cells.toList 0 cs w hh (by rw [hl];simpa using hfit) h1
 simp only [Nat.add_zero] at hrun
 have hsize:(a.eval x).cells.size=i.size:=by rw [his,←hl];simp
 simp only [execOp,ho,hv,Instr.storeAt,Instr.sureAddr,storeVar,sizeOf,typeInfo,Sem.run_bind,Sem.run_pure,Result.andThen_ok,run_program,hi]
 simp only [hsize,ne_eq,not_true_eq_false,if_false,Sem.run_bind,Sem.run_pure,Result.andThen_ok]
 rw [hrun]
 rfl
theorem Q4(hdst:o.dst=none){w':World}{M':It}{β':Ha}(hrun:(execOp a.eval o).run P w= .ok .skip w')(hS:SR cx w0 N nt (st.app δ) a w' M' β'):Df cx P w0 N nt st a w o δ :=
 fun K Q hK=>Adw hrun (by rw [hdst];exact hK _ _ _ _ hS)
theorem Ig{B b n:Nat}{l:List PV}(h:G3 w M β B b n l)(hp:Dg l=true):∃cs t,w.heap[b]? =some (.cells cs t (0,0))∧l.length≤cs.size∧
  ∀(i:Nat) (p:PV) (v:Value),l[i]? =some p→cs[i]? =some v→Al w M β B p v∧v.oneCell'=true:=by
 cases h with
 |cells l cs t q1 q2 q3=>exact ⟨cs,t,q1,q2,q3⟩
 |arr=>cases hp
 |map=>cases hp
theorem Wa{p:PV}(h:p.one=true):p.cells= [p]:=by cases p<;>first|rfl|cases h
theorem Aez{v:Value}(h:v.oneCell'=true):v.cells= #[v]:=by cases v<;>first|rfl|cases h
theorem Jz{b i:Nat}{cs:Array Value}{t:Nat}(h:w.heap[b]? =some (.cells cs t (0,0))):w.cell? ⟨b,i,none⟩=cs[i]? :=by
 rw [World.cell?,h];rfl
theorem Lz(w0 w:World)(b:Nat)(cs:Array Value)(h:w0.heap.size≤b):Below w0.heap.size w (w.setRow b cs):=
 ⟨rfl,rfl,rfl,by simp [World.setRow],fun k hk=>setRow_other w b k _ (by omega)⟩
theorem Zn(h:SR cx w0 N nt st a w M β)(ad x:Operand)(t sz b off:Nat)(ho:o.op= .store t ad x)(hsz:Ow P t=some sz)(hst:st.opd ad= .loc b off)
  (g1:Ir (st.opd x).cells sz=true) (g2:Jt (st.opd x).cells=true) (g3:G5 (st.obj b) (off+sz)=true) (g4:Dg (st.obj b)=true):
  ∃w',(execOp a.eval o).run P w= .ok .skip w'∧SR cx w0 N nt (st.app ⟨[],[(b,Da (st.obj b) off ((st.opd x).cells.map PV.view))]⟩) a w' M β∧
   ∃bb n,β b=some (bb,n)∧∀(j:Nat) (u:Value),(a.eval x).cells.toList[j]? =some u→w'.cell? ⟨bb,off+j,none⟩=some u:=by
 have e1:=(J7 _ _).1 g1
 have e2:=(Gd _ _).1 g3
 obtain ⟨c1,c2⟩:=Iz (h.opd x) g2
 have hp:=h.opd ad
 rw [hst] at hp
 obtain ⟨bb,n,hb,hv⟩:=Nj hp
 obtain ⟨hb1,hb2,hb3⟩:=h.sh.box b bb n hb
 have e0:((st.opd x).cells.map PV.view).length=sz:=by rw [List.length_map,e1]
 have hvl:(a.eval x).cells.toList.length=sz:=by rw [c1,e0]
 have ho1:∀u∈(a.eval x).cells.toList,u.oneCell'=true:=by
  intro u hu
  obtain ⟨j,hj,rfl⟩:=List.getElem_of_mem hu
  exact (c2 j _ _ (List.getElem?_eq_getElem (by omega)) (List.getElem?_eq_getElem hj)).2
 obtain ⟨cs,ty,q1,q2,q3⟩:=Ig hb3 g4
 have hrun:=R3 (P:=P) ho hsz hv q1 hvl (by omega) ho1
 have hw1:(w.setRow bb (cs.toList.take off++(a.eval x).cells.toList++cs.toList.drop (off+(a.eval x).cells.toList.length)).toArray).heap[bb]? =_:=setRow_heap w bb cs _ ty (0,0) q1
 have hmid:∀i,(cs.toList.take off++(a.eval x).cells.toList++cs.toList.drop (off+(a.eval x).cells.toList.length))[i]? =_:=fun i=>Xb cs.toList off (a.eval x).cells.toList (by rw [hvl];simpa using (by omega)) i
 obtain ⟨hS,_⟩:=h.sh.setObj (O':=(st.app ⟨[],[(b,Da (st.obj b) off ((st.opd x).cells.map PV.view))]⟩).obj) b bb n hb (Da (st.obj b) off ((st.opd x).cells.map PV.view))
  (by rw [B6,if_pos rfl]) (fun y hy=>by rw [B6,if_neg (fun e=>hy e.symm)]) (w':=w.setRow bb (cs.toList.take off++(a.eval x).cells.toList++cs.toList.drop (off+(a.eval x).cells.toList.length)).toArray)
  (fun k hk=>setRow_other w bb k _ hk) (by simp [World.setRow]) (Lz w0 w bb _ hb1)
  (fun hR=> .cells _ _ ty hw1 (by rw [Hv];simp only [List.size_toArray,List.length_append,List.length_take,List.length_drop,Array.length_toList];rw [Array.length_toList] at hvl;omega) (fun i p v hp hv=>by
   rw [Ji _ _ _ _ (by omega)] at hp
   simp only [List.getElem?_toArray] at hv
   rw [hmid] at hv
   by_cases hi:off≤i∧i < off+((st.opd x).cells.map PV.view).length
   ·rw [if_pos hi] at hp
    rw [if_pos ⟨hi.1,by omega⟩] at hv
    exact ⟨hR _ _ (c2 _ p v hp hv).1,(c2 _ p v hp hv).2⟩
   ·rw [if_neg hi] at hp
    rw [if_neg (by omega)] at hv
    have hv':cs[i]? =some v:=by simpa using hv
    exact ⟨hR _ _ (q3 i p v hp hv').1,(q3 i p v hp hv').2⟩))
  (fun i p s v hp hs ho' hv=>by
   rw [Ji _ _ _ _ (by omega)] at hp
   by_cases hi:off≤i∧i < off+((st.opd x).cells.map PV.view).length
   ·rw [if_pos hi] at hp
    obtain ⟨p',_,rfl⟩:=B3 hp
    rw [Ej hs] at ho';cases ho'
   ·rw [if_neg hi] at hp
    refine .inl ⟨⟨p,hp,hs⟩,?_⟩
    rw [Jz hw1,List.getElem?_toArray,hmid,if_neg (by omega)] at hv
    rw [Jz q1]
    simpa using hv)
 refine ⟨_,hrun,⟨h.defs,h.nt,?_⟩,bb,n,hb,fun j u hu=> ?_⟩
 ·refine hS.perm (fun k=>hS.reg k) (fun d b n hd=>(hS.box d b n hd).2.2) (fun y hy=>h.sh.dom y ?_) some (fun key s v ho=>⟨key,rfl,ho⟩) (fun k k' j h1 h2=>by injection h1 with h1;injection h2 with h2;rw [h1,h2])
  have hy':=(Am _ _).1 hy
  exact (Am _ _).2 (fun hm=>hy' (List.mem_cons_of_mem _ hm))
 ·have hj:=(List.getElem?_eq_some_iff.1 hu).1
  rw [Jz hw1,List.getElem?_toArray,hmid,if_pos ⟨by omega,by omega⟩,show off+j - off=j by omega]
  exact hu
theorem V2:∀(os ps:List PV),(Ky os ps).length=ps.length
 |_,[]=>by cases ‹List PV› <;>rfl
 | [],p::ps=>rfl
 |o::os,p::ps=>by rw [Ky,List.length_cons,List.length_cons,V2 os ps]
theorem Acf(o p:PV):q8 o p=p∨(p= .val (.slice none 0 0)∧∃y,q8 o p= .lst true y∧y.len=0):=by
 unfold q8
 split
 ·rename_i y
  split
  ·rename_i hb
   exact .inr ⟨rfl,y,rfl,Nat.eq_of_beq_eq_true hb⟩
  ·exact .inl rfl
 ·exact .inl rfl
theorem Rl:∀(os ps:List PV) (i:Nat) (p':PV),(Ky os ps)[i]? =some p'→∃p,ps[i]? =some p∧(p'=p∨(p= .val (.slice none 0 0)∧∃y,p'= .lst true y∧y.len=0))
 |os,[],i,p',h=>by cases os<;>simp [Ky] at h
 | [],p::ps,i,p',h=>⟨p',h,.inl rfl⟩
 |o::os,p::ps,0,p',h=>by
  simp only [Ky,List.getElem?_cons_zero,Option.some.injEq] at h
  refine ⟨p,rfl,?_⟩
  rcases Acf o p with e|⟨e1,y,e2,e3⟩
  ·exact .inl (h.symm.trans e)
  ·exact .inr ⟨e1,y,h.symm.trans e2,e3⟩
 |o::os,p::ps,i+1,p',h=>by
  obtain ⟨q,h1,h2⟩:=Rl os ps i p' (by simpa [Ky] using h)
  exact ⟨q,by simpa using h1,h2⟩
theorem Zo(h:SR cx w0 N nt st a w M β)(ad x:Operand)(t sz b off:Nat)(ho:o.op= .store t ad x)(hsz:Ow P t=some sz)(hst:st.opd ad= .loc b off)
  (g1:Ir (st.opd x).cells sz=true) (g2:Jt (st.opd x).cells=true) (g3:G5 (st.obj b) (off+sz)=true) (g4:Dg (st.obj b)=true):
  ∃w',(execOp a.eval o).run P w= .ok .skip w'∧SR cx w0 N nt (st.app ⟨[],[(b,Da (st.obj b) off (Ky ((st.obj b).drop off) ((st.opd x).cells.map PV.view)))]⟩) a w' M β :=by
 have e1:=(J7 _ _).1 g1
 have e2:=(Gd _ _).1 g3
 obtain ⟨c1,c2⟩:=Iz (h.opd x) g2
 have hp:=h.opd ad
 rw [hst] at hp
 obtain ⟨bb,n,hb,hv⟩:=Nj hp
 obtain ⟨hb1,hb2,hb3⟩:=h.sh.box b bb n hb
 have e0:((st.opd x).cells.map PV.view).length=sz:=by rw [List.length_map,e1]
 have e9:(Ky ((st.obj b).drop off) ((st.opd x).cells.map PV.view)).length=sz:=by rw [V2,e0]
 have hvl:(a.eval x).cells.toList.length=sz:=by rw [c1,e0]
 have ho1:∀u∈(a.eval x).cells.toList,u.oneCell'=true:=by
  intro u hu
  obtain ⟨j,hj,rfl⟩:=List.getElem_of_mem hu
  exact (c2 j _ _ (List.getElem?_eq_getElem (by omega)) (List.getElem?_eq_getElem hj)).2
 obtain ⟨cs,ty,q1,q2,q3⟩:=Ig hb3 g4
 have hrun:=R3 (P:=P) ho hsz hv q1 hvl (by omega) ho1
 have hw1:(w.setRow bb (cs.toList.take off++(a.eval x).cells.toList++cs.toList.drop (off+(a.eval x).cells.toList.length)).toArray).heap[bb]? =_:=setRow_heap w bb cs _ ty (0,0) q1
 have hmid:∀i,(cs.toList.take off++(a.eval x).cells.toList++cs.toList.drop (off+(a.eval x).cells.toList.length))[i]? =_:=fun i=>Xb cs.toList off (a.eval x).cells.toList (by rw [hvl];simpa using (by omega)) i
 obtain ⟨hS,_⟩:=h.sh.setObj (O':=(st.app ⟨[],[(b,Da (st.obj b) off (Ky ((st.obj b).drop off) ((st.opd x).cells.map PV.view)))]⟩).obj) b bb n hb (Da (st.obj b) off (Ky ((st.obj b).drop off) ((st.opd x).cells.map PV.view)))
  (by rw [B6,if_pos rfl]) (fun y hy=>by rw [B6,if_neg (fun e=>hy e.symm)]) (w':=w.setRow bb (cs.toList.take off++(a.eval x).cells.toList++cs.toList.drop (off+(a.eval x).cells.toList.length)).toArray)
  (fun k hk=>setRow_other w bb k _ hk) (by simp [World.setRow]) (Lz w0 w bb _ hb1)
  (fun hR=> .cells _ _ ty hw1 (by rw [Hv];simp only [List.size_toArray,List.length_append,List.length_take,List.length_drop,Array.length_toList];rw [Array.length_toList] at hvl;omega) (fun i p v hp hv=>by
   rw [Ji _ _ _ _ (by omega)] at hp
   simp only [List.getElem?_toArray] at hv
   rw [hmid] at hv
   by_cases hi:off≤i∧i < off+(Ky ((st.obj b).drop off) ((st.opd x).cells.map PV.view)).length
   ·rw [if_pos hi] at hp
    rw [if_pos ⟨hi.1,by omega⟩] at hv
    obtain ⟨p0,hp0,hk⟩:=Rl _ _ _ _ hp
    rcases hk with rfl|⟨rfl,y,rfl,hy⟩
    ·exact ⟨hR _ _ (c2 _ _ v hp0 hv).1,(c2 _ _ v hp0 hv).2⟩
    ·exact ⟨(hR _ _ (c2 _ _ v hp0 hv).1).le (.nil true y hy),(c2 _ _ v hp0 hv).2⟩
   ·rw [if_neg hi] at hp
    rw [if_neg (by omega)] at hv
    have hv':cs[i]? =some v:=by simpa using hv
    exact ⟨hR _ _ (q3 i p v hp hv').1,(q3 i p v hp hv').2⟩))
  (fun i p s v hp hs ho' hv=>by
   rw [Ji _ _ _ _ (by omega)] at hp
   by_cases hi:off≤i∧i < off+(Ky ((st.obj b).drop off) ((st.opd x).cells.map PV.view)).length
   ·rw [if_pos hi] at hp
    obtain ⟨p0,hp0,hk⟩:=Rl _ _ _ _ hp
    rcases hk with rfl|⟨rfl,y,rfl,hy⟩
    ·obtain ⟨p',_,rfl⟩:=B3 hp0
     rw [Ej hs] at ho';cases ho'
    ·rw [Jz hw1,List.getElem?_toArray,hmid,if_pos ⟨hi.1,by omega⟩] at hv
     injection hs with hs
     subst hs
     exact .inr ⟨hy,none,(c2 _ _ v hp0 hv).1.val_eq⟩
   ·rw [if_neg hi] at hp
    refine .inl ⟨⟨p,hp,hs⟩,?_⟩
    rw [Jz hw1,List.getElem?_toArray,hmid,if_neg (by omega)] at hv
    rw [Jz q1]
    simpa using hv)
 refine ⟨_,hrun,⟨h.defs,h.nt,?_⟩⟩
 refine hS.perm (fun k=>hS.reg k) (fun d b n hd=>(hS.box d b n hd).2.2) (fun y hy=>h.sh.dom y ?_) some (fun key s v ho=>⟨key,rfl,ho⟩) (fun k k' j h1 h2=>by injection h1 with h1;injection h2 with h2;rw [h1,h2])
 have hy':=(Am _ _).1 hy
 exact (Am _ _).2 (fun hm=>hy' (List.mem_cons_of_mem _ hm))
theorem Q8(h:SR cx w0 N nt st a w M β)(ad x:Operand)(t sz b i off:Nat)(y y':LX)(c:List PV)(ho:o.op= .store t ad x)(hsz:Ow P t=some sz)(hst:st.opd ad= .el b y.sz i off)
  (hc:c=(st.opd x).cells.map PV.view) (g1:Ir (st.opd x).cells sz=true) (g2:Jt (st.opd x).cells=true) (g3:st.obj b= [.arrO y]) (g4:LX.set y i off c=some y'):
  ∃w',(execOp a.eval o).run P w= .ok .skip w'∧SR cx w0 N nt (st.app ⟨[],[(b,[.arrO y'])]⟩) a w' M β :=by
 have e1:=(J7 _ _).1 g1
 obtain ⟨c1,c2⟩:=Iz (h.opd x) g2
 rw [←hc] at c1 c2
 obtain ⟨s1,s2,s3,s4,s5,s6⟩:=LX.set_spec y i off c y' g4
 have hp:=h.opd ad
 rw [hst] at hp
 obtain ⟨bb,n,hb,hin,hv⟩:=n7 hp
 obtain ⟨hb1,hb2,hb3⟩:=h.sh.box b bb n hb
 have e0:c.length=sz:=by rw [hc,List.length_map,e1]
 have hvl:(a.eval x).cells.toList.length=sz:=by rw [c1,e0]
 have ho1:∀u∈(a.eval x).cells.toList,u.oneCell'=true:=by
  intro u hu
  obtain ⟨j,hj,rfl⟩:=List.getElem_of_mem hu
  exact (c2 j _ _ (List.getElem?_eq_getElem (by omega)) (List.getElem?_eq_getElem hj)).2
 obtain ⟨cs,ty,q1,q2,q3,q4⟩:=Wu hb3 g3
 have hm:(i+1)*y.sz≤n*y.sz:=Nat.mul_le_mul_right _ hin
 rw [Nat.add_mul,Nat.one_mul] at hm
 have hrun:=R3 (P:=P) ho hsz hv q1 hvl (by omega) ho1
 have hw1:(w.setRow bb (cs.toList.take (i*y.sz+off)++(a.eval x).cells.toList++cs.toList.drop (i*y.sz+off+(a.eval x).cells.toList.length)).toArray).heap[bb]? =_:=setRow_heap w bb cs _ ty (0,0) q1
 have hmid:∀k,(cs.toList.take (i*y.sz+off)++(a.eval x).cells.toList++cs.toList.drop (i*y.sz+off+(a.eval x).cells.toList.length))[k]? =_:=fun k=>Xb cs.toList (i*y.sz+off) (a.eval x).cells.toList (by rw [hvl];simpa using (by omega)) k
 have hl:=(s5 (by omega)).get
 obtain ⟨hS,_⟩:=h.sh.setObj (O':=(st.app ⟨[],[(b,[.arrO y'])]⟩).obj) b bb n hb [.arrO y']
  (by rw [B6,if_pos rfl]) (fun z hz=>by rw [B6,if_neg (fun e=>hz e.symm)]) (w':=w.setRow bb (cs.toList.take (i*y.sz+off)++(a.eval x).cells.toList++cs.toList.drop (i*y.sz+off+(a.eval x).cells.toList.length)).toArray)
  (fun k hk=>setRow_other w bb k _ hk) (by simp [World.setRow]) (Lz w0 w bb _ hb1)
  (fun hR=> .arr y' _ ty hw1 (by rw [s3,q2]) (by rw [s2];simp only [List.size_toArray,List.length_append,List.length_take,List.length_drop,Array.length_toList];rw [Array.length_toList] at hvl;omega) (fun i' j p v hi' hq hv=>by
   simp only [List.getElem?_toArray] at hv
   rw [hmid,s2] at hv
   have hj:j < y.sz:=by have:=(List.getElem?_eq_some_iff.1 hq).1;rw [LX.row_len,s2] at this;exact this
   by_cases hii:i'=i
   ·rw [hii] at hq hv hi'
    obtain ⟨p0,hp0,hle⟩:=hl.2 j p hq
    rw [Ji _ _ _ _ (by rw [LX.row_len];omega)] at hp0
    by_cases hr:off≤j∧j < off+c.length
    ·rw [if_pos hr] at hp0
     rw [if_pos ⟨by omega,by omega⟩,show i*y.sz+j - (i*y.sz+off)=j - off by omega] at hv
     exact ⟨(hR _ _ (c2 _ p0 v hp0 hv).1).le hle,(c2 _ p0 v hp0 hv).2⟩
    ·rw [if_neg hr] at hp0
     rw [if_neg (by omega)] at hv
     have hv':cs[i*y.sz+j]? =some v:=by simpa using hv
     exact ⟨(hR _ _ (q4 i j p0 v hi' hp0 hv').1).le hle,(q4 i j p0 v hi' hp0 hv').2⟩
   ·rw [s6 i' hii] at hq
    have hne:¬(i*y.sz+off≤i'*y.sz+j∧i'*y.sz+j < i*y.sz+off+(a.eval x).cells.toList.length):=by
     rintro ⟨h1,h2⟩
     rcases Nat.lt_or_ge i' i with hlt|hge
     ·have hm2:(i'+1)*y.sz≤i*y.sz:=Nat.mul_le_mul_right _ hlt
      rw [Nat.add_mul,Nat.one_mul] at hm2
      omega
     ·have hm2:(i+1)*y.sz≤i'*y.sz:=Nat.mul_le_mul_right _ (by omega)
      rw [Nat.add_mul,Nat.one_mul] at hm2
      omega
    rw [if_neg hne] at hv
    have hv':cs[i'*y.sz+j]? =some v:=by simpa using hv
    exact ⟨hR _ _ (q4 i' j p v hi' hq hv').1,(q4 i' j p v hi' hq hv').2⟩))
  (fun k p s v hp hs ho' hv=>by
   cases k with
   |zero=>simp at hp;subst hp;cases hs
   |succ k=>simp at hp)
 refine ⟨_,hrun,⟨h.defs,h.nt,?_⟩⟩
 refine hS.perm (fun k=>hS.reg k) (fun d b n hd=>(hS.box d b n hd).2.2) (fun z hz=>h.sh.dom z ?_) some (fun key s v ho=>⟨key,rfl,ho⟩) (fun k k' j h1 h2=>by injection h1 with h1;injection h2 with h2;rw [h1,h2])
 have hz':=(Am _ _).1 hz
 exact (Am _ _).2 (fun hm=>hz' (List.mem_cons_of_mem _ hm))
end
end Go.Proofs.YtmimkinjcfekmaaGreat.Ev
