/-  A loop over a map, whatever the order. -/
import Derived.Test.YtgacplpjamkieaaGreatHFM
import Derived.Maps.RangeRun
set_option linter.unusedVariables false
set_option linter.unusedSimpArgs false
set_option linter.unnecessarySimpa false
namespace Go.Proofs.YtgacplpjamkieaaGreat.Ev
open Go Go.RowKit
section
variable {w w':World} {M M':Jw} {β β':Kh} {B B':Nat->Prop} {N N':Jw} {w0 w0':D7} {κ :Type} {H: κ->PV×Value} {O:Nat->List PV} {D:Nat->Bool}
theorem Dr.mono{S S':Nat->Prop}{p:PV}(h:Dr S p)(hs:∀x,S x->S' x):Dr S' p:=by
 induction h with
 |any=>exact .any
 |val v=>exact .val v
 |aO own x=>exact .aO own x
 |agg l _ ih=>exact .agg l ih
 |aY l _ ih=>exact .aY l ih
 |ref l _ ih=>exact .ref l ih
 |bA f n l _ ih=>exact .bA f n l ih
 |sl own e sz es _ ih=>exact .sl own e sz es ih
 |loc d off h=>exact .loc d off (hs _ h)
 |el d sz i off h=>exact .el d sz i off (hs _ h)
 |vw c d e sz n h=>exact .vw c d e sz n (hs _ h)
 |mp d h=>exact .mp d (hs _ h)
def Axn(w:World)(r:Nat):Prop:=∃x y z t,w.heap[r]? =some (.mapIter x y z t)
theorem Alh{r:Nat}(h:∀b,b≠r->w'.heap[b]? =w.heap[b]?)(h1:Axn w r)(h2:Axn w' r)(a:Addr):w'.cell? a=w.cell? a:=by
 unfold World.cell?;by_cases e:a.block=r
 ·obtain⟨x,y,z,t,h1⟩:=h1;obtain⟨x',y',z',t',h2⟩:=h2;rw[e,h1,h2]
 ·rw[h _ e]
theorem Aq2{r:Nat}(h:∀b,b≠r->w'.heap[b]? =w.heap[b]?)(h1:Axn w r)(b:Nat):dH w b<=dH w' b:=Ajx h (by obtain⟨x,y,z,t,h1⟩:=h1;unfold dH;rw[h1];exact Nat.zero_le _) b
theorem Bk.base{p:PV}{v:Value}(hc:∀a,w'.cell? a=w.cell? a)(hz:∀b,dH w b<=dH w' b)(hB:∀(a:Addr) v,w.cell? a=some v->B a.block->B' a.block)(h:Bk w M β B p v):Bk w' M β B' p v:=by
 induction h with
 |any v=>exact .any v
 |val v h=>exact .val v h
 |agg l cs hl h1 _ ih=>exact .agg l cs hl h1 ih
 |aY l cs hl _ ih=>exact .aY l cs hl ih
 |row p s hs a c vs hc' hsz ha hm _ ih=>exact .row p s hs a c vs hc' hsz ha (λad i j p h1 h2 h3=>let ⟨g1,g2,g3⟩:=hm ad i j p h1 h2 h3;⟨g1,by rw[hc];exact g2,g3⟩) ih
 |loc d off b n h=>exact .loc d off b n h
 |el d sz i off b n h hi=>exact .el d sz i off b n h hi
 |vw cf d e sz n b c h hc h2=>exact .vw cf d e sz n b c h hc (Nat.le_trans h2 (hz b))
 |mp d b n h=>exact .mp d b n h
 |bA f n l cs hl _ ih=>exact .bA f n l cs hl ih
 |ref l ad vs hm _ ih=>
  refine .ref l ad vs (λi p hp=>?_) ih;obtain⟨g1,g2,g3⟩:=hm i p hp;refine⟨g1.imp (λg=>?_) id,by rw[hc];exact g2,g3⟩;have:=hB (ad.add i) _ g2 (by rw[Ag4];exact g);rwa[Ag4]at this
theorem Jr.notIt{b r n:Nat}{l:List PV}(h:Jr w M β B b n l)(hr:Axn w r):b≠r:=by
 obtain⟨x,y,z,t,hr⟩:=hr;intro e;subst e;cases h with
 |cells l cs t q1=>rw[hr]at q1;cases q1
 |arr x cs t q1=>rw[hr]at q1;cases q1
 |map gk gv ks vs es clock q1=>rw[hr]at q1;cases q1
 |bV gk gv ks vs es clock q1=>rw[hr]at q1;cases q1
theorem Bqe.notIt{r g:Nat}{κ :Type}{k:P4 κ}{s:SV}{v:Value}(h:Wg w M B s v)(hg:tb v=some g)(hr:Axn w r):g≠r:=by
 obtain⟨x,y,z,t,hr⟩:=hr
 rintro rfl
 rcases h with⟨a,rfl⟩|⟨g',c,cur,rfl,_,_,h4,_⟩
 ·exact absurd hg Adq
 ·have:g'=g:=T2 hg;subst this;rw[hr]at h4;cases h4
theorem SH.base{r:Nat}(h:SH H w0 N O D w M β)(hbel:Bel w0' w')(hmn:MN w0' N' M)(hh:∀b,b≠r->w'.heap[b]? =w.heap[b]?)(hsz:w'.heap.size=w.heap.size)(h1:Axn w r)(h2:Axn w' r)
  (ho:∀b,b≠r->(w0'.old b↔w0.old b)):SH H w0' N' O D w' M β :=by
 have hc:=Alh hh h1 h2;have hrc:∀(a:Addr) v,w.cell? a=some v->a.block≠r:=λa v hv e=>by
  obtain⟨x,y,z,t,h1⟩:=h1;unfold World.cell? at hv;rw[e,h1]at hv;cases hv
 have hR:∀p v,Bk w M β w0.old p v->Bk w' M β w0'.old p v:=λp v hr=>hr.base hc (Aq2 hh h1) λa v hv hb=>(ho _ (hrc a v hv)).2 hb;have hOwn:∀key s v,P5 H O w' β key s v->P5 H O w β key s v:=by
  intro key s v ho;cases key with
  |slot k=>exact ho
  |cell x i=>
   obtain⟨b',m,p,q1,q2,q3,q4,q5⟩:=ho;exact⟨b',m,p,q1,q2,q3,q4,by rw[<-hc];exact q5⟩
 refine⟨hbel,hmn,λb n hn=>by rw[hsz];exact h.mlt b n hn,λd b n hd=>?_,h.inj,h.dom,λk=>hR _ _ (h.reg k),λkey s v hk=>?_,λkey key' s s' v v' g hk hk'=>h.bX key key' s s' v v' g (hOwn _ _ _ hk) (hOwn _ _ _ hk'),λkey s v g d n hk=>h.bH key s v g d n (hOwn _ _ _ hk)⟩
 ·obtain⟨q1,q2,q3⟩:=h.box d b n hd;have hb:=q3.notIt h1;exact⟨λe=>q1 ((ho b hb).1 e),q2,q3.ext (hh b hb) hR⟩
 ·have ht:=h.tok key s v (hOwn _ _ _ hk);rcases ht.cut with ht|⟨g,c,cur,t1,t2,t3,t4,t5,t6,t7,t8⟩
  ·exact .inl ht
  ·have hg:g≠r:=Bqe.notIt (k:=key) (.inr ⟨g,c,cur,t1,t2,t3,t4,t5,t6,t7⟩) t8 h1;exact .inr ⟨g,c,cur,t1,λe=>t2 ((ho g hg).1 e),t3,by rw[hh g hg];exact t4,t5,t6,t7⟩
end
section
variable {ι :Type} {cx: ι->PV×Value} {P:Program} {w0:D7} {w:World} {N M:Jw} {β :Kh} {nt:Nat} {st:St} {a:Act}
def D7.it(w0:D7)(w:World)(r:Nat)(h0:∀b,w0.old b->b<w.heap.size)(hr:r<w.heap.size):D7:=⟨w,λb=>w0.old b\/b=r,λb hb=>by rcases hb with hb|rfl;exact h0 b hb;exact hr⟩
theorem A21{B:Nat->Prop}{b n:Nat}{l:List PV}{es:Array MapEntry}{clock:Nat}{gk gv:Bool}{ks vs:LX}(h:Jr w M β B b n l)(hl:l= [.bV es clock gk gv ks vs]):w.heap[b]? =some (.map es clock)/\es.size=ks.len/\vs.len=ks.len/\
  (∀(i:Nat) (e:MapEntry),es[i]? =some e->Bk w M β B (V2 gk (ks.row i)) e.key/\Bk w M β B (V2 gv (vs.row i)) e.val)/\K7 es clock:=by
 cases h with
 |cells l cs t q1 q2 q3=>
  subst hl;have hs:1<=cs.size:=q2;have:=(q3 0 _ (cs[0]'(by omega)) rfl (Array.getElem?_eq_getElem (by omega))).1;exact(Azl this).elim
 |arr=>injection hl with hl;cases hl
 |map=>injection hl with hl;cases hl
 |bV gk' gv' ks' vs' es' clock' q1 q2 q3 q4 q5=>injection hl with hl;injection hl with e1 e2 e3 e4 e5 e6;subst e1;subst e2;subst e3;subst e4;subst e5;subst e6;exact⟨q1,q2,q3,q4,q5⟩
def Az9(P:Program)(nt:Nat)(os3:Array Oper)(code:Code)(f:St->(Ex->St->Prop)->Prop):Prop:=
 ∀ {ι :Type} (cx: ι->PV×Value) (w0:D7) (N:Jw) (S:Nat->Prop),(∀i,Dr S (cx i).1)->∀(st:St) (a:Act) (w:World) (M:Jw) (β :Kh) (k:Ex->St->Prop),Ub S st->SR cx w0 N nt st a w M β->f st k->
  ∀(Q:Exit->Act->World->Prop),(∀e st' a' w' M' β',k e st'->Ub S st'->SR cx w0 N nt st' a' w' M' β'->Q (A4e e) a' w')->wpOps P os3 (Exit.then (code.wp P Q) Q) (List.range' 1 (os3.size-1)) a w
structure Hd (cx: ι->PV×Value) (P:Program) (w0:D7) (N:Jw) (S:Nat->Prop) (nt r bb d:Nat) (es:Array MapEntry) (clock:Nat) (O:List PV) (it:Nat) (Sn:List Nat) (st:St) (a:Act) (w:World):Prop where
 bS:Bel w0 w
 h0:∀b,w0.old b->b<w.heap.size
 gP:r<w.heap.size
 gV:¬w0.old r
 has:Ub (λx=>S x\/x=d) st
 obj:st.obj d=O
 itv:st.get it=.val (.pointer (some ⟨r,0,none⟩))
 iter:∃seen,w.heap[r]? =some (.mapIter (some bb) clock seen clock)/\∀(i:Nat) (e:MapEntry),es[i]? =some e->(seen.contains e.born=true↔i∈Sn)
 sr:∃M β,(∀b,w0.old b->M b=N b)/\SR (H2 (.mp d,.map (some bb)) cx) (w0.it w r h0 gP) M nt st a w M β
theorem A0f{es:Array MapEntry}{clock:Nat}(h:K7 es clock):(es.toList.map (·.born)).Nodup:=by
 rw[List.nodup_iff_pairwise_ne,List.pairwise_map];rw[List.pairwise_iff_getElem];intro i j hi hj hij e;have:=h.1 i j (es[i]'(by simpa using hi)) (es[j]'(by simpa using hj)) (Array.getElem?_eq_getElem _) (Array.getElem?_eq_getElem _) (by simpa using e);omega
end
end Go.Proofs.YtgacplpjamkieaaGreat.Ev
namespace Go.Proofs.YtgacplpjamkieaaGreat.Ev
open Go Go.RowKit
section
variable {ι :Type} {cx: ι->PV×Value} {P:Program} {w0:D7} {w:World} {N M:Jw} {β :Kh} {nt:Nat} {st:St} {a:Act}
theorem T4{os:Array Oper}{Q:Exit->Act->World->Prop}{i:Nat}{rest:List Nat}{o:Oper}(h:os[i]? =some o)(hg:o.guard=none)(hw:o.wp P a w (wpOps P os Q rest) Q):wpOps P os Q (i::rest) a w:=by
 simp only[wpOps,h];rw[if_pos (by unfold Region.wanted;rw[hg])];exact .inl hw
theorem An3{o:Oper}{x:Operand}{i:Nat}{cs:Array Value}{v:Value}(ho:o.op=.extract x i)(hx:a.eval x=.tuple cs)(hv:cs[i]? =some v):(execOp a.eval o).run P w=.ok (.value v) w:=by
 simp only[execOp,ho,hx,Instr.extract,Sem.run_bind,hv];rfl
theorem A9z{w0:D7}{w w1:World}{r:Nat}(hb:Bel w0 w)(h1:w1=w\/w1=w.drew)(hr:¬w0.old r)(hi:Axn w r)(o:Obj):Bel w0 (ChangeMaps.setBlock w1 r o):=by
 have e:Bel w0 w1:=by
  rcases h1 with rfl|rfl
  ·exact hb
  ·exact⟨hb.os,hb.tape,hb.output,hb.size,hb.block,hb.dH⟩
 have hw:w1.heap=w.heap:=by rcases h1 with rfl|rfl<;>rfl
 refine⟨e.os,e.tape,e.output,?_,λk hk=>?_,λk=>Nat.le_trans (hb.dH k) ?_⟩
 ·simp only[ChangeMaps.setBlock,Array.size_setIfInBounds];exact e.size
 ·have hne:r≠k:=λh=>hr (by rw[h];exact hk);simp only[ChangeMaps.setBlock];rw[Array.getElem?_setIfInBounds_ne hne];exact e.block k hk
 ·refine Aq2 (r:=r) (λb hb=>?_) hi k;simp only[ChangeMaps.setBlock];rw[Array.getElem?_setIfInBounds_ne (λe=>hb e.symm),hw]
theorem Hd.mapAt{S:Nat->Prop}{r bb d:Nat}{es:Array MapEntry}{clock:Nat}{O:List PV}{it:Nat}{Sn:List Nat}{gk gv:Bool}{ks vs:LX}(h:Hd cx P w0 N S nt r bb d es clock O it Sn st a w)(hO:O= [.bV es clock gk gv ks vs]):
  ∃M β n,(∀b,w0.old b->M b=N b)/\SR (H2 (.mp d,.map (some bb)) cx) (w0.it w r h.h0 h.gP) M nt st a w M β/\β d=some (bb,n)/\w.heap[bb]? =some (.map es clock)/\es.size=ks.len/\
   (∀(i:Nat) (e:MapEntry),es[i]? =some e->Bk w M β (w0.it w r h.h0 h.gP).old (V2 gk (ks.row i)) e.key/\Bk w M β (w0.it w r h.h0 h.gP).old (V2 gv (vs.row i)) e.val)/\K7 es clock:=by
 obtain⟨M,β,hM,hs⟩:=h.sr;obtain⟨b,n,hb,he⟩:=Ay2 (hs.sh.reg (.inr none));have:b=bb:=by injection he with he;injection he with he;exact he.symm
 subst this;obtain⟨q1,q2,q3,q4,q5⟩:=A21 (hs.sh.box d b n hb).2.2 (h.obj.trans hO);exact⟨M,β,n,hM,hs,hb,q1,q2,q4,q5⟩
theorem A1k{S:Nat->Prop}(hcx:∀i,Dr S (cx i).1){os2 os3:Array Oper}{id2 id3 o n:Nat}{code:Code}{it nx mo pair r bb d:Nat}{keys live:List Nat}{es:Array MapEntry}{clock:Nat}{gk gv:Bool}{ks vs:LX}
  {f:St->(Ex->St->Prop)->Prop}{t1 t2 t3:TypeId}{p1 p2 p3:String}{a1 a2 a3:Array Edge}{rest:List Oper}
  (h2:os2.toList= [⟨some nx,.next (.tmp it) false,t1,p1,a1,none⟩,⟨some mo,.extract (.tmp nx) 0,t2,p2,a2,none⟩])(h3:os3.toList=⟨some pair,.entry (.tmp it),t3,p3,a3,none⟩::rest)
  (hnx:nx<nt)(hmo:mo<nt)(hpair:pair<nt)(hne1:it≠nx)(hne2:it≠mo)(body:Az9 P nt os3 code f)(hdl:Ar d live=false)(hSl:∀x,S x->Ar x live=false)(hkeys:Ar it keys=false)
  {kF:St->Prop}{Q:Exit->Act->World->Prop}
  (hfin:∀Sn st' a' w',kF st'->Hd cx P w0 N S nt r bb d es clock [.bV es clock gk gv ks vs] it Sn st' a' w'->Q .normal a' w'):
  ∀(L:Nat) (Sn:List Nat) (st:St) (a:Act) (w:World),Hd cx P w0 N S nt r bb d es clock [.bV es clock gk gv ks vs] it Sn st a w->
   A7r f n d [.bV es clock gk gv ks vs] (.val (.pointer (some ⟨r,0,none⟩))) gk gv ks vs it nx mo pair keys live L Sn st kF->
   Code.rounds P (.seq (.region id2 os2 false) (.seq (.cond (.tmp mo) .skip (.exit o)) (.block n (.seq (.region id3 os3 false) code)))) (Exit.inBlock o Q) L a w:=by
 have e20:os2[0]? =some ⟨some nx,.next (.tmp it) false,t1,p1,a1,none⟩:=by rw[<-Array.getElem?_toList,h2];rfl
 have e21:os2[1]? =some ⟨some mo,.extract (.tmp nx) 0,t2,p2,a2,none⟩:=by rw[<-Array.getElem?_toList,h2];rfl
 have e2s:os2.size=2:=by rw[<-Array.length_toList,h2];rfl
 have e30:os3[0]? =some ⟨some pair,.entry (.tmp it),t3,p3,a3,none⟩:=by rw[<-Array.getElem?_toList,h3];rfl
 have e3s:os3.size=1+(os3.size-1):=by
  have:os3.size=rest.length+1:=by rw[<-Array.length_toList,h3];rfl
  omega
 intro L
 induction L with
 |zero=>intro Sn st a w _ hk;exact hk.elim
 |succ L ih=>
  intro Sn st a w hd ⟨k0,k1⟩;obtain⟨M,β,nb,hM,hs,hβ,hmap,hsz,hent,hborn⟩:=hd.mapAt rfl;obtain⟨seen,hit,hseen⟩:=hd.iter;have hitv:a.tmps.getD it undef=.pointer (some ⟨r,0,none⟩):=by
   have:=hs.reg it;rw[hd.itv]at this;exact this.val_eq
  have hnt:a.tmps.size=nt:=hs.nt;rw[rounds_succ];refine wp_seq (wp_region ?_);rw[e2s,show List.range 2= [0,1]from rfl];rcases run_next_at (P:=P) w t1 r bb clock clock seen es clock hit hmap (λx hx=>by
    obtain⟨i,hi,rfl⟩:=List.getElem_of_mem hx;exact hborn.2 i _ (by rw[<-Array.getElem?_toList];exact List.getElem?_eq_getElem hi)) (Nat.le_refl _) with⟨h0,hrun⟩|⟨e,he,w1,hw1,hrun⟩
  ·
   refine T4 e20 rfl (L4 (v:=.tuple #[.bool false]) (w':=w) ?_ ?_)
   ·simp only[execOp,Act.eval,hitv,Sem.run_bind,hrun,Result.andThen_ok];rfl
   have hs1:=hs.put nx .any (.tuple #[.bool false]) hnx (.any _) (λs h=>by cases h);refine T4 e21 rfl (L4 (v:=.bool false) (w':=w) (An3 rfl (by show(a.put (some nx) _).tmps.getD nx undef=_;rw[Xk _ _ _ _ (by omega),if_pos rfl]) rfl) ?_);have hs2:=hs1.put mo (.val (.bool false)) (.bool false) hmo (.val _ rfl) (λs h=>by cases h);show(Code.seq _ _).wp P _ _ _
   refine wp_seq (wp_cond_false (by show((a.put (some nx) _).put (some mo) _).tmps.getD mo undef=_;rw[Xk _ _ _ _ (by simp[Act.put];omega),if_pos rfl]) (wp_exit ?_));show Exit.inBlock o Q (.exit o) _ _
   simp only[Exit.inBlock,if_true];refine hfin Sn _ _ w (k0 λi hi=>?_) ⟨hd.bS,hd.h0,hd.gP,hd.gV,hd.has,hd.obj,?_,⟨seen,hit,hseen⟩,⟨M,β,hM,hs2⟩⟩
   ·have hi':i<es.size:=by omega
    refine(hseen i _ (Array.getElem?_eq_getElem hi')).1 ?_;cases hc:seen.contains (es[i]'hi').born with
    |true=>rfl
    |false=>
     have:es[i]'hi'∈(leftOf es seen):=by
      unfold leftOf;rw[Array.mem_filter];exact⟨Array.getElem_mem hi',by rw[hc];rfl⟩
     have:=Array.size_pos_of_mem this;omega
   ·show B4 .any ((mo,_)::(nx,_)::st.fr) it=_
    rw[B3,if_neg (λe=>hne2 e.symm),B3,if_neg (λe=>hne1 e.symm)];exact hd.itv
  ·
   obtain⟨he1,he2⟩:=mem_left he;obtain⟨i,hi,hie⟩:=List.getElem_of_mem he1;have hi':i<es.size:=by simpa using hi
   have hei:es[i]? =some e:=by rw[<-Array.getElem?_toList,List.getElem?_eq_getElem hi,hie]
   have hnot:i∉Sn:=λhm=>by
    have:=(hseen i e hei).2 hm;rw[he2]at this;cases this
   generalize hw2:ChangeMaps.setBlock w1 r (.mapIter (some bb) clock (seen.push e.born) clock)=w2 at hrun;have hr2:w2.heap[r]? =some (.mapIter (some bb) clock (seen.push e.born) clock):=by
    subst hw2;have hl:r<w1.heap.size:=by rcases hw1 with rfl|rfl;exact hd.gP;exact hd.gP
    simp[ChangeMaps.setBlock,hl]
   have hoth:∀b,b≠r->w2.heap[b]? =w.heap[b]? :=λb hb=>by
    subst hw2;simp only[ChangeMaps.setBlock];rw[Array.getElem?_setIfInBounds_ne (λh=>hb h.symm)];rcases hw1 with rfl|rfl<;>rfl
   have hsize:w2.heap.size=w.heap.size:=by
    subst hw2;simp only[ChangeMaps.setBlock,Array.size_setIfInBounds];rcases hw1 with rfl|rfl<;>rfl
   have hbel2:Bel w0 w2:=by rw[<-hw2];exact A9z hd.bS hw1 hd.gV ⟨_,_,_,_,hit⟩ _
   have hbbr:bb≠r:=λh=>by rw[h]at hmap;rw[hit]at hmap;cases hmap
   have hmap2:w2.heap[bb]? =some (.map es clock):=by rw[hoth bb hbbr];exact hmap
   have h02:∀b,w0.old b->b<w2.heap.size:=λb hb=>by rw[hsize];exact hd.h0 b hb
   have hrl2:r<w2.heap.size:=by rw[hsize];exact hd.gP
   have hs':SR (H2 (.mp d,.map (some bb)) cx) (w0.it w2 r h02 hrl2) M nt st a w2 M β :=by
    refine⟨hs.defs,hs.nt,hs.sh.base (r:=r) (Bel.of w2 _ rfl) ⟨λ_ _=>rfl,?_⟩ hoth hsize ⟨_,_,_,_,hit⟩ ⟨_,_,_,_,hr2⟩ (λb hb=>Iff.rfl)⟩;obtain⟨M0,g1,g2,g3⟩:=hs.sh.mN.gl;have hc:=Alh (w:=w) (w':=w2) hoth ⟨_,_,_,_,hit⟩ ⟨_,_,_,_,hr2⟩;refine⟨M0,g1,λg x hg=>?_,λg vs hg=>⟨(g3 g vs hg).1,let ⟨t,f,hv⟩:=(g3 g vs hg).2;⟨t,f,(hoth g (λh=>by rw[h]at hv;exact absurd (hit.symm.trans hv) (by simp))).trans hv⟩⟩⟩;obtain⟨q1,v,q2,q3⟩:=g2 g x hg;exact⟨q1,v,(hc _).trans q2,q3.base hc (Aq2 hoth ⟨_,_,_,_,hit⟩) λa v _ hb=>hb⟩
   refine T4 e20 rfl (L4 (v:=.tuple #[.bool true,e.key,e.val]) (w':=w2) ?_ ?_)
   ·simp only[execOp,Act.eval,hitv,Sem.run_bind,hrun,Result.andThen_ok];rfl
   have hs1:=hs'.put nx .any (.tuple #[.bool true,e.key,e.val]) hnx (.any _) (λs h=>by cases h);refine T4 e21 rfl (L4 (v:=.bool true) (w':=w2) (An3 rfl (by show(a.put (some nx) _).tmps.getD nx undef=_;rw[Xk _ _ _ _ (by omega),if_pos rfl]) rfl) ?_);have hs2:=hs1.put mo (.val (.bool true)) (.bool true) hmo (.val _ rfl) (λs h=>by cases h);show(Code.seq _ _).wp P _ _ _
   refine wp_seq (wp_cond_true (by show((a.put (some nx) _).put (some mo) _).tmps.getD mo undef=_;rw[Xk _ _ _ _ (by simp[Act.put];omega),if_pos rfl]) (wp_skip ?_));show(Code.block n _).wp P _ _ _
   refine wp_block (wp_seq (wp_region ?_));rw[List.range_eq_range',e3s,Nat.add_comm,List.range'_succ];have hit2:((a.put (some nx) (.tuple #[.bool true,e.key,e.val])).put (some mo) (.bool true)).tmps.getD it undef=.pointer (some ⟨r,0,none⟩):=by
    rw[Xk _ _ _ _ (by simp[Act.put];omega),if_neg (λh=>hne2 h.symm),Xk _ _ _ _ (by omega),if_neg (λh=>hne1 h.symm)];exact hitv
   refine T4 e30 rfl (L4 (v:=.tuple #[e.key,e.val]) (w':=w2) ?_ ?_)
   ·have:=run_entry_at (P:=P) w2 r bb clock seen es clock e hr2 hmap2 he1 (A0f hborn);simp only[execOp,Act.eval,hit2,Sem.run_bind,this,Result.andThen_ok];rfl
   have hc:=Alh (w:=w) (w':=w2) hoth ⟨_,_,_,_,hit⟩ ⟨_,_,_,_,hr2⟩;obtain⟨hk1,hk2⟩:=hent i e hei;have hs3:=hs2.put pair (.aY [V2 gk (ks.row i),V2 gv (vs.row i)]) (.tuple #[e.key,e.val]) hpair (.aY _ [e.key,e.val] rfl (λj p v hp hv=>by
    match j,hp,hv with
    |0,hp,hv=>injection hp with hp;injection hv with hv;subst hp;subst hv;exact hk1.base hc (Aq2 hoth ⟨_,_,_,_,hit⟩) λa v _ hb=>hb
    |1,hp,hv=>injection hp with hp;injection hv with hv;subst hp;subst hv;exact hk2.base hc (Aq2 hoth ⟨_,_,_,_,hit⟩) λa v _ hb=>hb
    |j+2,hp,hv=>simp at hp)) (λs h=>Xu _ _ s (M9 h).1)
   have hcx':∀k,Dr (λx=>S x\/x=d) ((H2 (PV.mp d,Value.map (some bb)) cx) k).1:=λk=>by
    cases k with
    |none=>exact .mp d (.inr rfl)
    |some k=>exact(hcx k).mono λx hx=>.inl hx
   refine body (H2 (.mp d,.map (some bb)) cx) (w0.it w2 r h02 hrl2) M (λx=>S x\/x=d) hcx' (st.app ⟨[(pair,.aY [V2 gk (ks.row i),V2 gv (vs.row i)]),(mo,.val (.bool true)),(nx,.any)],[]⟩) _ w2 M β _ hd.has hs3 (k1 i (by omega) hnot) _ ?_
   rintro ex st' a' w' M' β' ⟨hex,hobj,hitv',hrest⟩ has' sr'
   have go:Exit.then (Code.rounds P (.seq (.region id2 os2 false) (.seq (.cond (.tmp mo) .skip (.exit o)) (.block n (.seq (.region id3 os3 false) code)))) (Exit.inBlock o Q) L) (Exit.inBlock o Q) .normal a' w':=by
    show Code.rounds P (.seq (.region id2 os2 false) (.seq (.cond (.tmp mo) .skip (.exit o)) (.block n (.seq (.region id3 os3 false) code)))) (Exit.inBlock o Q) L a' w'
    have hsl:∀x,(S x\/x=d)->Ar x live=false:=λx hx=>by rcases hx with hx|rfl;exact hSl x hx;exact hdl
    have hb2:∀k,(w0.it w2 r h02 hrl2).old k->w'.heap[k]? =w2.heap[k]? :=sr'.sh.bS.block;have hsz2:w2.heap.size<=w'.heap.size:=sr'.sh.bS.size;have h0':∀b,w0.old b->b<w'.heap.size:=λb hb=>Nat.lt_of_lt_of_le (h02 b hb) hsz2;have hrl':r<w'.heap.size:=Nat.lt_of_lt_of_le hrl2 hsz2;have hr':w'.heap[r]? =some (.mapIter (some bb) clock (seen.push e.born) clock):=by rw[hb2 r (.inr rfl)];exact hr2
    have hkl:(keep keys live st').ob.map Prod.fst=live:=by
     show(live.map λd=>(d,_)).map Prod.fst=live
     rw[List.map_map];exact List.map_id' live
    have hgo:∀x,(keep keys live st').obj x=if x∈live then(st'.obj x).map (λp=>p.clean λd=>Ar d live) else[]:=λx=>Ks _ _ _
    have hgg:∀s,(keep keys live st').get s=if s∈keys then(st'.get s).clean (λd=>Ar d live)else .any:=λs=>Ks _ _ _
    have mem_of:∀ {x:Nat} {l:List Nat},Ar x l=false->x∈l:=λ{x l} h=>by
     have:¬Ar x l=true:=by rw[h];simp
     rw[Be]at this;exact Classical.not_not.1 this
    have hsk:=sr'.keep hcx' keys live hsl;refine ih (i::Sn) (keep keys live st') a' w' ⟨⟨sr'.sh.bS.os.trans hbel2.os,sr'.sh.bS.tape.trans hbel2.tape,sr'.sh.bS.output.trans hbel2.output,Nat.le_trans hbel2.size hsz2,λk hk=>(hb2 k (.inl hk)).trans (hbel2.block k hk),λk=>Nat.le_trans (hbel2.dH k) (sr'.sh.bS.dH k)⟩,h0',hrl',hd.gV,?_,?_,?_,⟨_,hr',λj e' hj=>?_⟩,⟨M',β'.cut λd=>Ar d live,λb hb=>(sr'.sh.mN.eq b (.inl hb)).trans (hM b hb),hsk.defs,hsk.nt,?_⟩⟩ hrest
    ·intro x hx;rw[hkl];exact⟨hsl x hx,(has' x hx).2⟩
    ·rw[hgo,if_pos (mem_of hdl),hobj];rfl
    ·rw[hgg,if_pos (mem_of hkeys),hitv'];rfl
    ·rw[contains_push,Bool.or_eq_true,List.mem_cons,hseen j e' hj];constructor
     ·rintro (h|h)
      ·exact .inr h
      ·have hb:e'.born=e.born:=by simpa using h
       exact .inl (hborn.1 j i e' e hj hei hb)
     ·rintro (h|h)
      ·subst h;rw[hei]at hj;injection hj with hj
       subst hj;exact .inr (by simp)
      ·exact .inl h
    ·refine hsk.sh.base (r:=r) (Bel.of w' _ rfl) ⟨λ_ _=>rfl,sr'.sh.mN.gl.to sr'.sh.bS sr'.sh.mN.eq _ rfl λb hb=>hb⟩ (λ_ _=>rfl) rfl ⟨_,_,_,_,hr'⟩ ⟨_,_,_,_,hr'⟩ (λb hb=>Iff.rfl)
   rcases hex with rfl|rfl
   ·exact go
   ·show(if n=n then _ else _)
    rw[if_pos rfl];exact go
end
end Go.Proofs.YtgacplpjamkieaaGreat.Ev
namespace Go.Proofs.YtgacplpjamkieaaGreat.Ev
open Go Go.RowKit
section
variable {P:Program} {C:Ba} {X:Inl} {inl:Nat->Bool} {nt:Nat}
def A5m(P:Program)(C:Ba)(X:Inl)(L nt:Nat)(code:Code)(v:EC):Prop:=
 ∀ {ι :Type} (cx: ι->PV×Value) (w0:D7) (N:Jw) (S:Nat->Prop),(∀i,Dr S (cx i).1)->∀(st:St) (a:Act) (w:World) (M:Jw) (β :Kh) (k:Ex->St->Prop),Ub S st->SR cx w0 N nt st a w M β->Ws P C X L v st k->
  ∀(Q:Exit->Act->World->Prop),(∀e st' a' w' M' β',k e st'->Ub S st'->SR cx w0 N nt st' a' w' M' β'->Q (A4e e) a' w')->code.wp P Q a w
theorem A2r{once:Nat}{os:Array Oper}{l:List Oper}{es:List Ek}(hco:Ajy P inl once os l=some es):∀eo∈es,∀o',eo.k=.dB o'->∀cs b,o'.op≠ .select cs b:=by
 intro eo hm o' hk';obtain⟨i,hi,rfl⟩:=List.getElem_of_mem hm;obtain⟨e1,e2⟩:=Tf _ _ hco;obtain⟨eo',q1,q2,_⟩:=e2 i (l[i]'(by omega)) (List.getElem?_eq_getElem (by omega));rw[List.getElem?_eq_getElem hi]at q1;injection q1 with q1
 rw[q1]at hk';exact Avk q2 o' hk'
theorem A2q{once:Nat}{os:Array Oper}{l:List Oper}{es:List Ek}(hco:Ajy P inl once os l=some es)(hds:Ti nt es=true){i0:Nat}(hl:∀j o,l[j]? =some o->os[i0+j]? =some o):
  ∀j eo,es[j]? =some eo->Bfn P inl once nt os (i0+j) eo:=by
 obtain⟨e1,e2⟩:=Tf _ _ hco;intro j eo hj;have hjl:j<l.length:=by have:=(List.getElem?_eq_some_iff.1 hj).1;omega
 obtain⟨eo',g1,g2,g3,g4⟩:=e2 j (l[j]'hjl) (List.getElem?_eq_getElem hjl);rw[hj]at g1;injection g1 with g1;subst g1
 exact⟨l[j]'hjl,hl j _ (List.getElem?_eq_getElem hjl),g2,g3,g4,λx hx=>Af6 es hds eo (List.mem_of_getElem? hj) x (by rw[g3];exact hx)⟩
theorem A90(hC:B8 P C)(hX:Jb P X){once L:Nat}{os3:Array Oper}{eop:Oper}{rest:List Oper}(h3:os3.toList=eop::rest){l3:List Ek}(hc:Ajy P inl once os3 rest=some l3)(hd:Ti nt l3=true)
  {code:Code}{v:EC}(ihc:A5m P C X L nt code v):Az9 P nt os3 code (λst k=>I2 P C X l3.length l3 st λst'=>Ws P C X L v st' k):=by
 intro ι cx w0 N S hcx st a w M β k hs h hk Q hQ;obtain⟨st1,st',q1,q2,q3⟩:=Alo hC hX _ l3 st st _ (A2r hc) (.refl _) hk;have hs':Ub S st':=Af9 (Arl q1 hs) q2.symm;have hlen:=(Tf _ _ hc).1;have hsz:os3.size=rest.length+1:=by rw[<-Array.length_toList,h3];rfl
 refine Ai1 (os:=os3) (inl:=inl) (once:=once) (nt:=nt) q1 1 (os3.size-1) (by omega) (by omega) (A2q hc hd λj o hj=>?_) a w M β h (λa' w' M' β' h'=>?_)
 ·rw[<-Array.getElem?_toList,h3,Nat.add_comm];exact hj
 ·rw[show os3.size-1-l3.length=0 by omega];show Exit.then (code.wp P Q) Q .normal a' w'
  exact ihc cx w0 N S hcx st' a' w' M' β' k hs' (h'.equiv q2.symm) q3 Q hQ
theorem Aum{os1 os2 os3:Array Oper}{mo n:Nat}{p:A0c}(h:A3b os1 os2 os3 mo n=some p):p.os1=os1/\p.os3=os3/\p.more=mo/\p.n=n/\p.it≠p.nx/\p.it≠p.more/\
  (∃ty pos after,os1.toList=p.pre++ [⟨some p.it,.range p.t p.m,ty,pos,after,none⟩])/\
  (∃t1 p1 a1 t2 p2 a2,os2.toList= [⟨some p.nx,.next (.tmp p.it) false,t1,p1,a1,none⟩,⟨some p.more,.extract (.tmp p.nx) 0,t2,p2,a2,none⟩])/\
  (∃t3 p3 a3,os3.toList=⟨some p.pair,.entry (.tmp p.it),t3,p3,a3,none⟩::p.rest):=by
 unfold A3b at h;split at h
 ·rename_i h1 h2 h3;split at h
  ·rename_i hb;simp only[Bool.and_eq_true,Bool.not_eq_true']at hb;obtain⟨⟨⟨⟨⟨b1,b2⟩,b3⟩,b4⟩,b5⟩,b6⟩:=hb;have b1:=B1 b1;have b2:=B1 b2;have b3:=B1 b3;have b4:=B1 b4
   injection h with h
   subst h;subst b1;subst b3;subst b4;subst b2
   have key:=congrArg List.reverse h1;rw[List.reverse_reverse,List.reverse_cons]at key;refine⟨rfl,rfl,rfl,rfl,λe=>?_,λe=>?_,⟨_,_,_,key⟩,⟨_,_,_,_,_,_,h2⟩,⟨_,_,_,h3⟩⟩
   ·dsimp only at e;rw[e]at b5;simp at b5
   ·dsimp only at e;rw[e]at b6;simp at b6
  ·cases h
 ·cases h
section
variable {ι :Type} {cx: ι->PV×Value} {w0:D7} {w:World} {N M:Jw} {β :Kh} {st:St} {a:Act}
theorem Auq{κ :Type}{H: κ->PV×Value}{O O':Nat->List PV}{D D':Nat->Bool}(h:SH H w0 N O D w M β)(d:Nat)(ho:∀x,x≠d->O' x=O x)(hD:∀x,D' x=true->D x=true)
  (hd:∀b n,β d=some (b,n)->Jr w M β w0.old b n (O' d))(hn:∀(i:Nat) (p:PV) (s:SV),(O' d)[i]? =some p->p.sv=some s->s.own=false)(hv:O d≠ []):SH H w0 N O' D' w M β :=by
 refine h.perm h.reg (λx b n hb=>?_) (λx hx=>h.dom x (hD x hx)) some (λkey s v hk=>⟨key,rfl,?_⟩) (λk k' j h1 h2=>by injection h1 with h1;injection h2 with h2;rw[h1,h2]) (λx _ _ _ e=>by rw[ho x (λq=>hv (by rw[<-q];exact e))];exact e)
 ·by_cases e:x=d
  ·subst e;exact hd b n hb
  ·rw[ho x e];exact(h.box x b n hb).2.2
 ·cases key with
  |slot k=>exact hk
  |cell x i=>
   obtain⟨b,n,p,q1,q2,q3,q4,q5⟩:=hk;by_cases e:x=d
   ·subst e;rw[hn i p s q2 q3]at q4;cases q4
   ·rw[ho x e]at q2;exact⟨b,n,p,q1,q2,q3,q4,q5⟩
theorem A4x(hC:B8 P C)(hX:Jb P X){S:Nat->Prop}(hcx:∀i,Dr S (cx i).1){os1 os2 os3:Array Oper}{id1 id2 id3 o n mo L once:Nat}{code:Code}{p:A0c}(hp:A3b os1 os2 os3 mo n=some p)
  {l1:List Ek}(hc1:Ajy P inl once os1 p.pre=some l1)(hd1:Ti nt l1=true){f:St->(Ex->St->Prop)->Prop}(body:Az9 P nt os3 code f){keys:List Nat}(hkeys:Ar p.it keys=false)
  (hit:p.it<nt)(hnx:p.nx<nt)(hmo:p.more<nt)(hpair:p.pair<nt)(ht:A0z P p.t=true){k:Ex->St->Prop}(hs:Ub S st)(h:SR cx w0 N nt st a w M β)
  (hk:I2 P C X l1.length l1 st λst1=>A1j f p.n p.m p.it p.nx p.more p.pair keys L st1 λst'=>k .normal st'){Q:Exit->Act->World->Prop}
  (hQ:∀e st' a' w' M' β',k e st'->Ub S st'->SR cx w0 N nt st' a' w' M' β'->Q (A4e e) a' w'):
  (Code.seq (.region id1 os1 false) (.block o (.loop (.seq (.region id2 os2 false) (.seq (.cond (.tmp mo) .skip (.exit o)) (.block n (.seq (.region id3 os3 false) code))))))).wp P Q a w:=by
 obtain⟨i1,i2,i3,i4,i5,i6,⟨ty,pos,after,j1⟩,⟨t1,p1,a1,t2,p2,a2,j2⟩,⟨t3,p3,a3,j3⟩⟩:=Aum hp;subst i3;subst i4
 obtain⟨st1',st1,q1,q2,q3⟩:=Alo hC hX _ l1 st st _ (A2r hc1) (.refl _) hk;have hs1:Ub S st1:=Af9 (Arl q1 hs) q2.symm;have hlen:=(Tf _ _ hc1).1;have hsz:os1.size=p.pre.length+1:=by rw[<-Array.length_toList,j1];simp
 refine wp_seq (wp_region ?_);rw[List.range_eq_range'];refine Ai1 (os:=os1) (inl:=inl) (once:=once) (nt:=nt) q1 0 os1.size (by omega) (by omega) (λj eo hj=>by
  rw[Nat.zero_add];have:=A2q (i0:=0) hc1 hd1 (λj o hj=>by
   rw[Nat.zero_add,<-Array.getElem?_toList,j1,List.getElem?_append_left (List.getElem?_eq_some_iff.1 hj).1];exact hj) j eo hj
  rwa[Nat.zero_add]at this) a w M β h (λaa ww M1 β1 h1=>?_)
 have h1:=h1.equiv q2.symm;rw[show os1.size-l1.length=1 by omega,Nat.zero_add,hlen,show List.range' p.pre.length 1= [p.pre.length]from rfl];unfold A1j at q3;split at q3
 ·rename_i d hm;split at q3
  ·rename_i gk gv ks vs hob;obtain⟨stF,hN,hkF⟩:=q3;have hmr:=h1.aM p.m;rw[hm]at hmr;obtain⟨bb,nb,hβ,hv⟩:=Ay2 hmr;obtain⟨es,clock,m1,m2,m3,m4,m5⟩:=Awa (h1.sh.box d bb nb hβ).2.2 hob;have hdk:Ar d (st1.ob.map Prod.fst)=false:=by
    cases hn:Ar d (st1.ob.map Prod.fst) with
    |false=>rfl
    |true=>have:=h1.sh.dom d hn;rw[hβ]at this;cases this
   have live_of:∀x,Ar x (st1.ob.map Prod.fst)=false->Ar x (B9 st1)=false:=λx hx=>by
    cases hn:Ar x (B9 st1) with
    |false=>rfl
    |true=>
     have e1:=(Be _ _).1 hn;have e2:Ar x (st1.ob.map Prod.fst)=true:=(Be _ _).2 (λhm=>e1 ((N9 _ _).2 hm));rw[e2]at hx;cases hx
   have hrun:(Instr.range p.t (.map (some bb))).run P ww=.ok (.pointer (some ⟨ww.heap.size,0,none⟩)) (ww.alloc (.mapIter (some bb) clock #[] clock)):=by
    unfold A0z at ht;split at ht
    ·rename_i ek ev hu;simp only[Instr.range,Sem.run_bind,run_underlying hu,Result.andThen_ok];rw[Xl (P:=P) m1];simp only[Sem.run_bind,Sem.run_pure,Result.andThen_ok];rfl
    ·cases ht
   have j0:os1[p.pre.length]? =some ⟨some p.it,.range p.t p.m,ty,pos,after,none⟩:=by rw[<-Array.getElem?_toList,j1];simp
   refine T4 j0 rfl (L4 (v:=.pointer (some ⟨ww.heap.size,0,none⟩)) (w':=ww.alloc (.mapIter (some bb) clock #[] clock)) ?_ ?_)
   ·simp only[execOp,hv,Sem.run_bind,hrun,Result.andThen_ok];rfl
   generalize hr:ww.heap.size=r;generalize hw2:ww.alloc (.mapIter (some bb) clock #[] clock)=w2;have hbw:Below ww.heap.size ww w2:=by rw[<-hw2];exact(Below.refl _ ww).alloc (Nat.le_refl _) _
   have hr2:w2.heap[r]? =some (.mapIter (some bb) clock #[] clock):=by rw[<-hw2,<-hr];show(ww.heap.push _)[_]? =_;simp
   have hlt:ww.heap.size<w2.heap.size:=by rw[<-hw2];show ww.heap.size<(ww.heap.push _).size;simp
   have h0:∀b,w0.old b->b<w2.heap.size:=λb hb=>by have:=h1.sh.bS.lt hb;omega
   have hrl:r<w2.heap.size:=by omega
   have hrn:¬w0.old r:=λhb=>by have:=h1.sh.bS.lt hb;omega
   have hval:=(h1.world hbw).put p.it (.val (.pointer (some ⟨r,0,none⟩))) (.pointer (some ⟨r,0,none⟩)) hit (.val _ rfl) (λs h=>by cases h);have hO1:∀x,x≠d->(st1.app ⟨[(p.it,.val (.pointer (some ⟨r,0,none⟩)))],[(d,[.bV es clock gk gv ks vs])]⟩).obj x=st1.obj x:=λx hx=>by rw[Dm,if_neg (λe=>hx e.symm)]
   have hO2:(st1.app ⟨[(p.it,.val (.pointer (some ⟨r,0,none⟩)))],[(d,[.bV es clock gk gv ks vs])]⟩).obj d= [.bV es clock gk gv ks vs]:=by rw[Dm,if_pos rfl]
   have hE:SR cx w0 N nt (st1.app ⟨[(p.it,.val (.pointer (some ⟨r,0,none⟩)))],[(d,[.bV es clock gk gv ks vs])]⟩) (aa.put (some p.it) (.pointer (some ⟨r,0,none⟩))) w2 M1 β1:=by
    refine⟨hval.defs,hval.nt,Auq hval.sh d (λx hx=>hO1 x hx) (λx hx=>?_) (λb n hb=>?_) (λi q s hq hsv=>?_) (λe=>by have e:st1.obj d= []:=e;rw[hob]at e;cases e)⟩
    ·rw[Nj]at hx;simp only[Bool.and_eq_true]at hx;exact hx.2
    ·rw[hO2];rw[hβ]at hb;injection hb with hb
     injection hb with hb1 hb2
     subst hb1;subst hb2
     have hbl:bb<ww.heap.size:=h1.sh.mlt bb 0 (h1.sh.box d bb nb hβ).2.1;have hR:∀q v,Bk ww M1 β1 w0.old q v->Bk w2 M1 β1 w0.old q v:=λq v hq=>hq.ext (λx v hi hc=>⟨hi,by rw[hbw.cell (Rs hc)];exact hc⟩) (λx hx=>hbw.cell (h1.sh.bS.lt hx)) (λ_ _ h=>h) (λ_ b _ _=>Te hbw b);exact .bV gk gv ks vs es clock (by rw[hbw.block _ hbl];exact m1) m2 m3 (λi e he=>⟨hR _ _ (m4 i e he).1,hR _ _ (m4 i e he).2⟩) m5
    ·rw[hO2]at hq;cases i with
     |zero=>injection hq with hq;subst hq;cases hsv
     |succ i=>simp at hq
   generalize hst2:st1.app ⟨[(p.it,.val (.pointer (some ⟨r,0,none⟩)))],[(d,[.bV es clock gk gv ks vs])]⟩=st2 at hE hO1 hO2;have hst2k:∀x,Ar x (st1.ob.map Prod.fst)=Ar x (st2.ob.map Prod.fst):=λx=>by
    rw[<-hst2,Nj];show _=(Ar x [d] && Ar x (st1.ob.map Prod.fst))
    by_cases e:x=d
    ·subst e;rw[hdk];simp
    ·have:Ar x [d]=true:=(Be _ _).2 (by simp[e]);rw[this,Bool.true_and]
   have hst2g:st2.get p.it=.val (.pointer (some ⟨r,0,none⟩)):=by
    rw[<-hst2];show B4 .any ((p.it,_)::st1.fr) p.it=_
    rw[B3,if_pos rfl]
   have hcx':∀k,Dr (λx=>S x\/x=d) ((H2 (PV.mp d,Value.map (some bb)) cx) k).1:=λk=>by
    cases k with
    |none=>exact .mp d (.inr rfl)
    |some k=>exact(hcx k).mono λx hx=>.inl hx
   have hX1:SR (H2 (.mp d,.map (some bb)) cx) w0 N nt st2 (aa.put (some p.it) (.pointer (some ⟨r,0,none⟩))) w2 M1 β1:=by
    refine⟨hE.defs,hE.nt,hE.sh.hold (λk=>?_) (λk=>match k with| .inl s=>some (.inl s)| .inr none=>none| .inr (some i)=>some (.inr i)) (λk s e1 e2=>?_) (λk k' j e1 e2=>?_)⟩
    ·cases k with
     |inl s=>exact hE.sh.reg (.inl s)
     |inr i=>cases i with
      |none=>exact .mp d bb nb hβ
      |some i=>exact hE.sh.reg (.inr i)
    ·cases k with
     |inl s'=>exact⟨_,rfl,e1,rfl⟩
     |inr i=>cases i with
      |none=>cases e1
      |some i=>exact⟨_,rfl,e1,rfl⟩
    ·cases k with
     |inl s=>cases k' with
      |inl s'=>injection e1 with e1;injection e2 with e2;rw[<-e2]at e1;injection e1 with e1;rw[e1]
      |inr i'=>cases i' with
       |none=>cases e2
       |some i'=>injection e1 with e1;injection e2 with e2;rw[<-e2]at e1;cases e1
     |inr i=>cases i with
      |none=>cases e1
      |some i=>cases k' with
       |inl s'=>injection e1 with e1;injection e2 with e2;rw[<-e2]at e1;cases e1
       |inr i'=>cases i' with
        |none=>cases e2
        |some i'=>injection e1 with e1;injection e2 with e2;rw[<-e2]at e1;injection e1 with e1;rw[e1]
   have hlk:B9 st1=(keep keys (B9 st1) st2).ob.map Prod.fst:=by
    show _=((B9 st1).map λd=>(d,_)).map Prod.fst
    rw[List.map_map];exact(List.map_id' (B9 st1)).symm
   have hsl:∀x,(S x\/x=d)->Ar x (B9 st1)=false:=λx hx=>by
    rcases hx with hx|rfl
    ·exact live_of x (hs1 x hx).1
    ·exact live_of _ hdk
   have hbase:SR (H2 (.mp d,.map (some bb)) cx) (w0.it w2 r h0 hrl) M1 nt st2 (aa.put (some p.it) (.pointer (some ⟨r,0,none⟩))) w2 M1 β1:=
    ⟨hX1.defs,hX1.nt,hX1.sh.base (r:=r) (Bel.of w2 _ rfl) ⟨λ_ _=>rfl,hX1.sh.mN.gl.to hX1.sh.bS hX1.sh.mN.eq _ rfl λb hb=>.inl hb⟩ (λ_ _=>rfl) rfl ⟨_,_,_,_,hr2⟩ ⟨_,_,_,_,hr2⟩
     (λb hb=>⟨λh=>by rcases h with h|h;exact h;exact absurd h hb,.inl⟩)⟩
   have hkp:=hbase.keep hcx' keys (B9 st1) hsl;have mem_of:∀ {x:Nat} {l:List Nat},Ar x l=false->x∈l:=λ{x l} h=>by
    have:¬Ar x l=true:=by rw[h];simp
    rw[Be]at this;exact Classical.not_not.1 this
   have hgo:∀x,(keep keys (B9 st1) st2).obj x=if x∈B9 st1 then(st2.obj x).map (λp=>p.clean λd=>Ar d (B9 st1)) else[]:=λx=>Ks _ _ _
   have hgg:∀s,(keep keys (B9 st1) st2).get s=if s∈keys then(st2.get s).clean (λd=>Ar d (B9 st1))else .any:=λs=>Ks _ _ _
   show(Code.block o _).wp P Q _ w2
   refine wp_block (wp_loop_rounds L ?_);have hN':=hN es clock r;unfold Bo1 at hN';rw[hst2]at hN';refine A1k (d:=d) (bb:=bb) (r:=r) (kF:=λst'=>Bo2 st' d p.it st1.base keys (B9 st1) [.aL gk gv ks vs]=stF) hcx j2 j3 hnx hmo hpair i5 i6 body (live_of d hdk) (λx hx=>live_of x (hs1 x hx).1) hkeys ?_ L [] { keep keys (B9 st1) st2 with base:=V3 st1.ob } (aa.put (some p.it) (.pointer (some ⟨r,0,none⟩))) w2
    ⟨⟨hval.sh.bS.os,hval.sh.bS.tape,hval.sh.bS.output,hval.sh.bS.size,hval.sh.bS.block,hval.sh.bS.dH⟩,h0,hrl,hrn,λx hx=>?_,?_,?_,⟨#[],hr2,λi e _=>by simp⟩,⟨M1,_,hval.sh.mN.eq,hkp.defs,hkp.nt,hkp.sh⟩⟩ hN'
   ·
    intro Sn st' a' w' hst' hd';obtain⟨M',β',n',hM',hsr,hβ',hmp',hsz',hent',hborn'⟩:=hd'.mapAt rfl;obtain⟨seen,hit',_⟩:=hd'.iter;have hback:SR (H2 (.mp d,.map (some bb)) cx) w0 N nt st' a' w' M' β':=
     ⟨hsr.defs,hsr.nt,hsr.sh.base (r:=r) hd'.bS ⟨hM',h.sh.mN.gl⟩ (λ_ _=>rfl) rfl ⟨_,_,_,_,hit'⟩ ⟨_,_,_,_,hit'⟩ (λb hb=>⟨.inl,λh=>by rcases h with h|h;exact h;exact absurd h hb⟩)⟩
    have hg1:∀s,(st'.app ⟨[(p.it,.any)],[(d,[.aL gk gv ks vs])]⟩).get s=if p.it=s then .any else st'.get s:=λs=>by
     show B4 .any ((p.it,_)::st'.fr) s=_
     rw[B3];rfl
    have ho1:∀x,(st'.app ⟨[(p.it,.any)],[(d,[.aL gk gv ks vs])]⟩).obj x=if d=x then[.aL gk gv ks vs]else st'.obj x:=λx=>Dm st' [(p.it,.any)] d [.aL gk gv ks vs] x
    have hdrop:SR cx w0 N nt (st'.app ⟨[(p.it,.any)],[(d,[.aL gk gv ks vs])]⟩) a' w' M' β':=by
     refine⟨hback.defs,hback.nt,?_⟩;have hh:SH (hold cx (st'.app ⟨[(p.it,.any)],[(d,[.aL gk gv ks vs])]⟩) a') w0 N st'.obj (λx=>Ar x (st'.ob.map Prod.fst)) w' M' β':=by
      refine hback.sh.hold (λk=>?_) (λk=>match k with| .inl s=>some (.inl s)| .inr i=>some (.inr (some i))) (λk s e1 e2=>?_) (λk k' j e1 e2=>?_)
      ·cases k with
       |inl s=>
        show Bk _ _ _ _ ((st'.app ⟨[(p.it,.any)],[(d,[.aL gk gv ks vs])]⟩).get s) _
        rw[hg1];split
        ·exact .any _
        ·exact hback.sh.reg (.inl s)
       |inr i=>exact hback.sh.reg (.inr (some i))
      ·cases k with
       |inl s'=>
        have e1:((st'.app ⟨[(p.it,.any)],[(d,[.aL gk gv ks vs])]⟩).get s').dQ=some s:=e1;rw[hg1]at e1;split at e1
        ·cases e1
        ·rename_i hne;exact⟨_,rfl,e1,by show ohd (st'.get s') _=ohd ((st'.app ⟨[(p.it,.any)],[(d,[.aL gk gv ks vs])]⟩).get s') _;rw[hg1,if_neg hne];rfl⟩
       |inr i=>exact⟨_,rfl,e1,rfl⟩
      ·cases k with
       |inl s=>cases k' with
        |inl s'=>injection e1 with e1;injection e2 with e2;rw[<-e2]at e1;injection e1 with e1;rw[e1]
        |inr i'=>injection e1 with e1;injection e2 with e2;rw[<-e2]at e1;cases e1
       |inr i=>cases k' with
        |inl s'=>injection e1 with e1;injection e2 with e2;rw[<-e2]at e1;cases e1
        |inr i'=>injection e1 with e1;injection e2 with e2;rw[<-e2]at e1;injection e1 with e1;injection e1 with e1;rw[e1]
     refine Auq hh d (λx hx=>by rw[ho1,if_neg (λe=>hx e.symm)]) (λx hx=>?_) (λb n hb=>?_) (λi q s hq hsv=>?_) (λe=>by have e:st'.obj d= []:=e;rw[hd'.obj]at e;cases e)
     ·have hx:Ar x ((st'.app ⟨[(p.it,.any)],[(d,[.aL gk gv ks vs])]⟩).ob.map Prod.fst)=true:=hx;rw[Nj]at hx;simp only[Bool.and_eq_true]at hx;exact hx.2
     ·rw[ho1,if_pos rfl];rw[hβ']at hb;injection hb with hb
      injection hb with hb1 hb2
      subst hb1;subst hb2
      have hx:=A21 (hback.sh.box d bb n' hβ').2.2 hd'.obj;exact .map gk gv ks vs es clock hx.1 hx.2.1 hx.2.2.1 hx.2.2.2.1 hx.2.2.2.2
     ·rw[ho1,if_pos rfl]at hq;cases i with
      |zero=>injection hq with hq;subst hq;cases hsv
      |succ i=>simp at hq
    have hk2:=hdrop.keep hcx keys (B9 st1) (λx hx=>live_of x (hs1 x hx).1);refine hQ .normal stF a' w' M' _ hkF (λx hx=>?_) (by rw[<-hst'];exact⟨hk2.defs,hk2.nt,hk2.sh⟩);rw[<-hst'];have hl2:(keep keys (B9 st1) (st'.app ⟨[(p.it,.any)],[(d,[.aL gk gv ks vs])]⟩)).ob.map Prod.fst=B9 st1:=by
     show((B9 st1).map λd=>(d,_)).map Prod.fst=B9 st1
     rw[List.map_map];exact List.map_id' (B9 st1)
    refine⟨?_,(hs1 x hx).2⟩;show Ar x ((keep keys (B9 st1) (st'.app ⟨[(p.it,.any)],[(d,[.aL gk gv ks vs])]⟩)).ob.map Prod.fst)=false
    rw[hl2];exact live_of x (hs1 x hx).1
   ·show Ar x ((keep keys (B9 st1) st2).ob.map Prod.fst)=false/\x<V3 st1.ob
    rw[<-hlk];refine⟨hsl x hx,Aue ?_⟩;rcases hx with hx|rfl
    ·exact(hs1 x hx).1
    ·exact hdk
   ·show(keep keys (B9 st1) st2).obj d=_
    rw[hgo,if_pos (mem_of (live_of d hdk)),hO2];rfl
   ·show(keep keys (B9 st1) st2).get p.it=_
    rw[hgg,if_pos (mem_of hkeys),hst2g];rfl
  ·exact q3.elim
 ·exact q3.elim
end
theorem A4v(once:Nat)(p:A0c)(x:Option (List Nat×EC)):A1i P inl once nt p x=.stop\/∃a b c d e f g h i j,A1i P inl once nt p x=.gY a b c d e f g h i j:=by
 unfold A1i;split
 ·split
  ·split
   ·exact .inr ⟨_,_,_,_,_,_,_,_,_,_,rfl⟩
   ·exact .inl rfl
  ·exact .inl rfl
 ·exact .inl rfl
theorem Axy{once:Nat}{V:List Nat}{out lt id:Nat}{b:Code} :Hq P inl once nt V out lt (.block id b)=.block id (Hq P inl once nt V out lt b):=rfl
theorem A95{once:Nat}{V:List Nat}{out lt:Nat}{b:Code}(h:Nat.testBit once 40004=false):Hq P inl once nt V out lt (.loop b)=Ake once V (.loop (Gj nt V out (D4 b)) (Hq P inl once nt (V++Gj nt V out (D4 b)) out (lt ||| D4 b) b)):=by
 show Ake once V (match Nat.testBit once 40004 with|true=>_|false=>_)=_
 rw[h]
theorem A54{once:Nat}{V:List Nat}{out lt:Nat}{b:Code}(h:Nat.testBit once 40004=true):∃k e,Hq P inl once nt V out lt (.loop b)=Ake once V (.fI k e):=
 ⟨Gj nt V out (D4 b),Hq P inl once nt (V++Gj nt V out (D4 b)) out (lt ||| D4 b) b,by
  show Ake once V (match Nat.testBit once 40004 with|true=>_|false=>_)=_
  rw[h]⟩
theorem Avj{once:Nat}{V:List Nat}{out lt:Nat}{a b:Code}(h:Azn a b=none):Hq P inl once nt V out lt (.seq a b)=.seq (Hq P inl once nt V (out ||| D4 b) (lt ||| D4 b) a) (match Adn b with
   |true=>Hq P inl once nt V (out ||| D4 a) lt b
   |false=>.seq (.kp (Be9 nt (lt ||| D4 b))) (Hq P inl once nt V (out ||| D4 a) lt b)):=by
 show(match Azn a b with|some p=>_|none=>_)=_
 rw[h]<;>rfl
theorem A2j{once:Nat}{V:List Nat}{out lt:Nat}{a b:Code}{p:A0c}(h:Azn a b=some p):Hq P inl once nt V out lt (.seq a b)=A1i P inl once nt p (Auj (Hq P inl once nt V (out ||| D4 a) lt b)):=by
 show(match Azn a b with|some p=>_|none=>_)=_
 rw[h]<;>rfl
theorem A7m{once:Nat}{V:List Nat}{out lt:Nat}{id2 id3 o o' n:Nat}{os2 os3:Array Oper}{c:Operand}{code:Code}{keys:List Nat}{v:EC}
  (h:Auj (Hq P inl once nt V out lt (.block o (.loop (.seq (.region id2 os2 false) (.seq (.cond c .skip (.exit o')) (.block n (.seq (.region id3 os3 false) code)))))))=some (keys,v)):
  ∃V' out' lt',(Adn code=true/\v=Hq P inl once nt V' out' lt' code)\/(∃ks,v=.seq (.kp ks) (Hq P inl once nt V' out' lt' code)):=by
 rw[Axy]at h;cases hf:Nat.testBit once 40004 with
 |true=>
  obtain⟨k,e,he⟩:=A54 (P:=P) (inl:=inl) (nt:=nt) (V:=V) (out:=out) (lt:=lt) (b:=.seq (.region id2 os2 false) (.seq (.cond c .skip (.exit o')) (.block n (.seq (.region id3 os3 false) code)))) hf;rw[he]at h;unfold Ake at h;split at h<;>cases h
 |false=>
  rw[A95 hf,Avj (a:=.region id2 os2 false) rfl]at h;unfold Ake at h;split at h
  ·cases h
  dsimp only[Adn]at h;rw[Avj (a:=.cond c .skip (.exit o')) rfl]at h;dsimp only[Adn]at h;rw[Axy]at h;cases hr:Azn (.region id3 os3 false) code with
  |some p'=>
   rw[A2j hr]at h;have key:∀(o n:Nat) (k1 k2 k3:List Nat) (e1 e2:EC) (x:Option (List Nat×EC)),Auj (.block o (.loop k1 (.seq e1 (.seq (.kp k2) (.seq e2 (.seq (.kp k3) (.block n (A1i P inl once nt p' x))))))))=none:=by
    intro o n k1 k2 k3 e1 e2 x;rcases A4v (P:=P) (inl:=inl) (nt:=nt) once p' x with e|⟨a1,a2,a3,a4,a5,a6,a7,a8,a9,a10,e⟩<;>(rw[e];rfl)
   rw[key]at h;cases h
  |none=>
   rw[Avj hr]at h;cases hs:Adn code with
   |true=>
    rw[hs]at h;dsimp only[Auj]at h;injection h with h
    injection h with h1 h2
    exact⟨_,_,_,.inl ⟨rfl,h2.symm⟩⟩
   |false=>
    rw[hs]at h;dsimp only[Auj]at h;injection h with h
    injection h with h1 h2
    exact⟨_,_,_,.inr ⟨_,h2.symm⟩⟩
end
end Go.Proofs.YtgacplpjamkieaaGreat.Ev
