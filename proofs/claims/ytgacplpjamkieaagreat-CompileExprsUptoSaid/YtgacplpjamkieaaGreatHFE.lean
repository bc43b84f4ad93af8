/-  Literals; rows; append. -/
import Derived.Test.YtgacplpjamkieaaGreatHFB
set_option linter.unusedVariables false
set_option linter.unusedSimpArgs false
set_option linter.unnecessarySimpa false
namespace Go.Proofs.YtgacplpjamkieaaGreat.Ev
open Go Go.RowKit
def Holds(P:Program)(f:Nat)(args:List PV)(r:PV):Prop:=
 ∀(w:World) (N:Jw) (vs:List Value),vs.length=args.length->(∀(i:Nat) (p:PV) (v:Value),args[i]? =some p->vs[i]? =some v->Bk w N (λ_=>none) (λb=>b<w.heap.size) p v)->
  (∀b n,N b=some n->b<w.heap.size)->Ajk N (D7.all w)->
  Calls P f vs.toArray w λe w'=>∃v,e=.returned v/\Bk w' N (λ_=>none) (λ_=>False) r v/\Below w.heap.size w w'
def Eo(P:Program)(f:Nat)(args:List PV)(ob:List (Nat×List PV))(r:PV)(o':List (Nat×List PV)):Prop:=
 ∀ {κ :Type} (H: κ->PV×Value) (w0:D7) (w:World) (N M:Jw) (β :Kh) (O:Nat->List PV) (D:Nat->Bool) (vs:List Value),
  (∀d,O d=B4 [] ob d)->(∀d,D d=Ar d (ob.map Prod.fst))->SH H w0 N O D w M β->
  vs.length=args.length->(∀(i:Nat) (p:PV) (v:Value),args[i]? =some p->vs[i]? =some v->Bk w M β w0.old p v)->
  Calls P f vs.toArray w λe w'=>∃v M' β',e=.returned v/\SH (H2 (r,v) H) w0 N (B4 [] (o'++ob)) (λd=>Ar d ((o'++ob).map Prod.fst)) w' M' β'
def aH{κ :Type}(args:List PV)(vs:List Value)(H: κ->PV×Value): κ ⊕ Nat->PV×Value
 | .inl k=>H k
 | .inr i=>(args.getD i .any,vs.getD i undef)
def Vc(P:Program)(f:Nat)(args:List PV)(ob:List (Nat×List PV))(r:PV)(o':List (Nat×List PV)):Prop:=
 ∀ {κ :Type} (H: κ->PV×Value) (w0:D7) (w:World) (N M:Jw) (β :Kh) (O:Nat->List PV) (D:Nat->Bool) (vs:List Value),
  (∀d,O d=B4 [] ob d)->(∀d,D d=Ar d (ob.map Prod.fst))->SH (aH args vs H) w0 N O D w M β->vs.length=args.length->
  Calls P f vs.toArray w λe w'=>∃v M' β',e=.returned v/\SH (H2 (r,v) H) w0 N (B4 [] (o'++ob)) (λd=>Ar d ((o'++ob).map Prod.fst)) w' M' β'
theorem Eo.toT{P:Program}{f:Nat}{args:List PV}{ob:List (Nat×List PV)}{r:PV}{o':List (Nat×List PV)}(h:Eo P f args ob r o'):Vc P f args ob r o':=by
 intro κ H w0 w N M β O D vs hO hD hS hl;refine h H w0 w N M β O D vs hO hD (hS.hold (λk=>hS.reg (.inl k)) (λk=>some (.inl k)) (λk s h1 h2=>⟨.inl k,rfl,h1,rfl⟩) (λk k' j h1 h2=>by injection h1 with h1;injection h2 with h2;rw[<-h1]at h2;injection h2 with h2;exact h2.symm)) hl (λi p v hp hv=>?_);have h1:Bk w M β w0.old (args.getD i .any) (vs.getD i undef):=hS.reg (.inr i);rw[List.getD,List.getD,hp,hv]at h1;exact h1
theorem Vc.toI{P:Program}{f:Nat}{args:List PV}{ob:List (Nat×List PV)}{r:PV}{o':List (Nat×List PV)}(h:Vc P f args ob r o')(ho:∀p∈args,∀s,p.dQ=some s->s.own=false):Eo P f args ob r o':=by
 intro κ H w0 w N M β O D vs hO hD hS hl hr;refine h H w0 w N M β O D vs hO hD (hS.hold (λk=>?_) (λk=>match k with| .inl k=>some k| .inr _=>none) (λk s h1 h2=>?_) (λk k' j h1 h2=>?_)) hl
 ·cases k with
  |inl k=>exact hS.reg k
  |inr i=>
   show Bk w M β w0.old (args.getD i .any) (vs.getD i undef)
   cases hp:args[i]? with
   |none=>rw[List.getD,hp];exact .any _
   |some p=>
    have hi:=(List.getElem?_eq_some_iff.1 hp).1;have hv:vs[i]? =some (vs[i]'(by omega)):=List.getElem?_eq_getElem (by omega);have:=hr i p _ hp hv;rw[List.getD,List.getD,hp,hv];exact this
 ·cases k with
  |inl k=>exact⟨k,rfl,h1,rfl⟩
  |inr i=>
   have h1:(args.getD i .any).dQ=some s:=h1;exfalso;cases hp:args[i]? with
   |none=>rw[List.getD,hp]at h1;cases h1
   |some p=>
    rw[List.getD,hp]at h1;rw[ho p (List.mem_of_getElem? hp) s h1]at h2;cases h2
 ·cases k with
  |inl k=>
   cases k' with
   |inl k'=>injection h1 with h1;injection h2 with h2;rw[h1,h2]
   |inr i=>cases h2
  |inr i=>cases h1
theorem Anf{α :Type}(g: α->PV)(l:List α):∀p∈l.map (λx=>(g x).view),∀s,p.dQ=some s->s.own=false:=by
 intro p hp s hs;obtain⟨x,_,rfl⟩:=List.mem_map.1 hp;exact Jx hs
def Afg(P:Program)(f:Nat)(cells args:List PV)(r:PV):Prop:=
 ∃r0 l o,r=.aY [r0,.agg l]/\Eo P f (.loc 0 0::args) [(0,cells)] r0 o/\B4 [] (o++ [(0,cells)]) 0=l/\okD l=true/\r0.fx=true
def Bfo(P:Program)(f:Nat)(args:List PV)(r:PV):Prop:=∃x,r=.aO false x/\∀ob,Eo P f args ob (.aO true x) []
def HoldsC(P:Program)(f:Nat)(args:List PV)(r:PV):Prop:=match args with
 | .aY cells::ps=>Afg P f cells ps r\/(cells= []/\Bfo P f ps r)
 |l=>Holds P f l r
theorem HoldsC.of{P:Program}{f:Nat}{args:List PV}{r:PV}(h:Adv args=false):HoldsC P f args r=Holds P f args r:=by
 cases args with
 |nil=>rfl
 |cons p l=>cases p<;>first|rfl|cases h
theorem Aw6(O:Nat->List PV)(p:PV):∀l,Ahk O p≠ .aY l:=by
 intro l h;cases p with
 |loc d off=>
  simp only[Ahk]at h;split at h<;>cases h
 |aO own x=>cases own<;>cases h
 |_=>simp[Ahk,PV.pure0,PV.flat,PV.view]at h
theorem Arm{α :Type}(O:Nat->List PV)(g: α->PV)(l:List α):Adv (l.map λx=>Ahk O (g x))=false:=by
 cases l with
 |nil=>rfl
 |cons x l=>
  rw[List.map_cons];cases h:Ahk O (g x) with
  |aY k=>exact absurd h (Aw6 O (g x) k)
  |_=>rfl
def Ej(P:Program):Ba:=λf args k=>∃r,HoldsC P f args r/\k r
def Eg(P:Program):Inl:=λf args ob k=>Ep P f=true/\∃r o',Vc P f args ob r o'/\k r o'
theorem Aze{α :Type}{P:Program} :∀(s:Sem α) (k: α->Prop),Akv P s k->∀w,∃x,s.run P w=.ok x w/\k x:=by
 intro s
 induction s with
 |pure a=>intro k h w;exact⟨a,rfl,h⟩
 |program f ih=>intro k h w;exact ih P k h w
 |_=>intro k h;exact h.elim
section
variable {ι :Type} {cx: ι->PV×Value} {P:Program} {w0:D7} {w w':World} {N M M':Jw} {β β':Kh} {nt:Nat} {st st':St} {a:Act}
theorem Abp{t sz:Nat}(h:szT P t=some sz):∃i,P.info? t=some i/\i.size=sz:=by
 unfold szT at h;cases hi:P.info? t with
 |none=>rw[hi]at h;cases h
 |some i=>rw[hi]at h;exact⟨i,rfl,by simpa using h⟩
theorem Qy.take{B:Nat->Prop}{ad:Addr}{l:List PV}(h:Qy w M β B ad l)(n:Nat):Qy w M β B ad (l.take n):=λi p hp=>h i p (by
 rw[List.getElem?_take]at hp;split at hp
 ·exact hp
 ·cases hp)
theorem Zn{B:Nat->Prop}{l:List PV}{v:Value}(h:Bk w M β B (.ref l) v):∃ad,v=.pointer (some ad)/\Qy w M β B ad l:=by
 cases h with
 |row p s hs=>cases hs
 |ref l ad vs hm hr=>exact⟨ad,rfl,λi p hp=>⟨vs i,(hm i p hp).2.1,hr i p hp,(hm i p hp).2.2⟩⟩
theorem Vh{B:Nat->Prop}{d off:Nat}{v:Value}(h:Bk w M β B (.loc d off) v):∃b n,β d=some (b,n)/\v=.pointer (some ⟨b,off,none⟩):=by
 cases h with
 |row p s hs=>cases hs
 |loc d off b n h=>exact⟨b,n,h,rfl⟩
theorem Ax2{B:Nat->Prop}{d sz i off:Nat}{v:Value}(h:Bk w M β B (.el d sz i off) v):∃b n,β d=some (b,n)/\i<n/\v=.pointer (some ⟨b,i*sz+off,none⟩):=by
 cases h with
 |row p s hs=>cases hs
 |el d sz i off b n h hi=>exact⟨b,n,h,hi,rfl⟩
theorem A3m{B:Nat->Prop}{cf:Bool}{d e sz n:Nat}{v:Value}(h:Bk w M β B (.vw cf d e sz n) v):∃b c,β d=some (b,n)/\n<=c/\v=.slice (some ⟨b,0,none⟩) n c:=by
 cases h with
 |row p s hs=>cases hs
 |vw cf d e sz n b c h hc _=>exact⟨b,c,h,hc,rfl⟩
theorem Blb{B:Nat->Prop}{cf:Bool}{d e sz n:Nat}{v:Value}(h:Bk w M β B (.vw cf d e sz n) v):∃b c,β d=some (b,n)/\n<=c/\c*sz<=dH w b/\v=.slice (some ⟨b,0,none⟩) n c:=by
 cases h with
 |row p s hs=>cases hs
 |vw cf d e sz n b c h hc hz=>exact⟨b,c,h,hc,hz,rfl⟩
theorem Ay2{B:Nat->Prop}{d:Nat}{v:Value}(h:Bk w M β B (.mp d) v):∃b n,β d=some (b,n)/\v=.map (some b):=by
 cases h with
 |row p s hs=>cases hs
 |mp d b n h=>exact⟨b,n,h,rfl⟩
theorem Apu{t sz:Nat}{ad:Addr}{vs:List Value}{d:TypeDesc}(hu:P.underlying t=some d)(ha:Et P t=true)(hs:szT P t=some sz)(hl:vs.length=sz)
  (hc:∀(j:Nat) (v:Value),vs[j]? =some v->w.cell? (ad.add j)=some v):(loadVar t ad).run P w=.ok (.agg vs.toArray) w:=by
 have h1:=run_loadCells_list (P:=P) w ad vs hc;unfold szT at hs;cases hi:P.info? t with
 |none=>rw[hi]at hs;cases hs
 |some i=>
  rw[hi]at hs;have hs':i.size=sz:=by simpa using hs
  unfold Et at ha;rw[hu]at ha;subst hl;cases d<;>simp at ha<;>simp[loadVar,isAgg,run_underlying hu,sizeOf,typeInfo,hi,hs',h1]
theorem Aee{t:Nat}{ad:Addr}{v:Value}{d:TypeDesc}(hu:P.underlying t=some d)(ha:Et P t=false)(hc:w.cell? ad=some v):(loadVar t ad).run P w=.ok v w:=by
 unfold Et at ha;rw[hu]at ha;cases d<;>simp at ha<;>simp[loadVar,isAgg,run_underlying hu,hc]
theorem A20{t sz:Nat}{ad:Addr}{l:List PV}{d:TypeDesc}{B:Nat->Prop}(hu:P.underlying t=some d)(hs:szT P t=some sz)(hsz:Et P t=false->sz=1)(hlen:l.length=sz)(hc:Qy w M β B ad l):
  ∃v,(loadVar t ad).run P w=.ok v w/\Bk w M β B (V2 (Et P t) l) v:=by
 obtain⟨vs,h1,h2⟩:=Ayv hc;cases ha:Et P t with
 |true=>
  refine⟨.agg vs.toArray,Apu hu ha hs (by omega) (λj v hv=>?_),.agg l vs h1.symm (λv hv=>?_) (λi p v hp hv=>(h2 i p v hp hv).2.1)⟩
  ·have hj:j<l.length:=by have:=(List.getElem?_eq_some_iff.1 hv).1;omega
   exact(h2 j _ v (List.getElem?_eq_getElem hj) hv).1
  ·obtain⟨j,hj,rfl⟩:=List.getElem_of_mem hv;exact(h2 j _ _ (List.getElem?_eq_getElem (by omega)) (List.getElem?_eq_getElem hj)).2.2
 |false=>
  have h1':=hsz ha;subst h1'
  match l,vs,hlen,h1,h2 with
  | [p],[v],_,_,h2=>
   obtain⟨g1,g2,g3⟩:=h2 0 p v rfl rfl;exact⟨v,Aee hu ha (by simpa[Addr.add]using g1),g2.view⟩
theorem A4f(off:Nat):∀(vs:List Value) (k:Nat) (cells:Array Value),off+k+vs.length<=cells.size->
  ((vs.zipIdx k).foldl (λcs (x:Value×Nat)=>cs.setIfInBounds (off+x.2) x.1) cells).size=cells.size/\
  ∀i,((vs.zipIdx k).foldl (λcs (x:Value×Nat)=>cs.setIfInBounds (off+x.2) x.1) cells)[i]? =if off+k<=i/\i<off+k+vs.length then vs[i-(off+k)]? else cells[i]? :=by
 intro vs
 induction vs with
 |nil=>intro k cells h;exact⟨rfl,λi=>by rw[if_neg (by simp only[List.length_nil];omega)];rfl⟩
 |cons v vs ih=>
  intro k cells h;simp only[List.zipIdx_cons,List.foldl_cons];obtain⟨h1,h2⟩:=ih (k+1) (cells.setIfInBounds (off+k) v) (by simp at h ⊢;omega);refine⟨by rw[h1];simp,λi=>?_⟩;rw[h2 i];by_cases h3:i=off+k
  ·rw[if_neg (by omega),if_pos ⟨by omega,by simp;omega⟩];subst h3;have hlt:off+k<cells.size:=by simp at h;omega
   simp[hlt]
  ·by_cases h4:off+(k+1)<=i/\i<off+(k+1)+vs.length
   ·rw[if_pos h4,if_pos ⟨by omega,by simp;omega⟩];rw[show i-(off+k)=(i-(off+(k+1)))+1 by omega];simp
   ·rw[if_neg h4,if_neg (by simp;omega)];rw[Array.getElem?_setIfInBounds_ne (by omega)]
theorem Axf(cells vs:Array Value)(off:Nat):vs.zipIdx.foldl (λcs (x:Value×Nat)=>cs.setIfInBounds (off+x.2) x.1) cells=(vs.toList.zipIdx 0).foldl (λcs (x:Value×Nat)=>cs.setIfInBounds (off+x.2) x.1) cells:=by
 rw[<-Array.foldl_toList,Array.toList_zipIdx]
theorem Ayc(off:Nat)(vs cells:Array Value)(h:off+vs.size<=cells.size):
  (vs.zipIdx.foldl (λcs (x:Value×Nat)=>cs.setIfInBounds (off+x.2) x.1) cells).size=cells.size/\
  ∀i,(vs.zipIdx.foldl (λcs (x:Value×Nat)=>cs.setIfInBounds (off+x.2) x.1) cells)[i]? =if off<=i/\i<off+vs.size then vs[i-off]? else cells[i]? :=by
 rw[Axf];obtain⟨h1,h2⟩:=A4f off vs.toList 0 cells (by simpa using h);exact⟨h1,λi=>by simpa using h2 i⟩
theorem A0q(h:SR cx w0 N nt st a w M β)(fs:List (Nat×Nat)):∀(ps:List (Nat×Operand)) (qs:List (Nat×Nat×Operand)) (l:List PV) (cs:Array Value) (k:List PV->Prop),
  Amv fs ps=some qs->RC w M β w0.old l cs->Ah0 st l qs k->
  ∃l' cs',Instr.fill (fs[·]?) cs (ps.map λp=>(p.1,a.eval p.2))=some cs'/\RC w M β w0.old l' cs'/\l'.length=l.length/\k l':=by
 intro ps
 induction ps with
 |nil=>
  intro qs l cs k hq hr hf;simp[Amv]at hq;subst hq;exact⟨l,cs,rfl,hr,rfl,hf⟩
 |cons p ps ih=>
  obtain⟨i,x⟩:=p;intro qs l cs k hq hr hf;simp only[Amv]at hq;cases hi:fs[i]? with
  |none=>rw[hi]at hq;cases hq
  |some os=>
   obtain⟨off,sz⟩:=os;cases hp:Amv fs ps with
   |none=>rw[hi,hp]at hq;cases hq
   |some rest=>
    rw[hi,hp]at hq;injection hq with hq
    subst hq;simp only[Ah0]at hf;cases g1:Qm (st.aM x).cells sz<;>cases g2:Sx (st.aM x).cells<;>cases g3:Mj l (off+sz)<;>simp only[g1,g2,g3]at hf<;>try exact hf.elim
    obtain⟨c1,c2⟩:=Tg (h.aM x) g2;have e1:(st.aM x).cells.length=sz:=(W1 _ _).1 g1;have e0:((st.aM x).cells.map PV.view).length=sz:=by rw[List.length_map,e1]
    have e2:off+sz<=l.length:=(L6 _ _).1 g3;have e3:(a.eval x).cells.size=sz:=by rw[<-e0,<-c1];simp
    obtain⟨f1,f2⟩:=Ayc off (a.eval x).cells cs (by rw[e3,<-hr.1];exact e2);have hrc:RC w M β w0.old (Hy l off ((st.aM x).cells.map PV.view)) ((a.eval x).cells.zipIdx.foldl (λcs (x:Value×Nat)=>cs.setIfInBounds (off+x.2) x.1) cs):=by
     refine⟨by rw[I5,f1,hr.1],λj q u hj hu=>?_⟩;rw[U6 _ _ _ _ (by omega)]at hj;rw[f2]at hu;by_cases hc:off<=j/\j<off+((st.aM x).cells.map PV.view).length
     ·rw[if_pos hc]at hj;rw[if_pos ⟨hc.1,by omega⟩]at hu;exact c2 _ q u hj (by simpa using hu)
     ·rw[if_neg hc]at hj;rw[if_neg (by omega)]at hu;exact hr.2 j q u hj hu
    obtain⟨l',cs',r1,r2,r3,r4⟩:=ih rest _ _ k hp hrc hf;refine⟨l',cs',?_,r2,by rw[r3,I5],r4⟩;simp only[List.map_cons,Instr.fill,hi];rw[if_neg (by rw[e3,<-hr.1];simp;omega)];exact r1
theorem Au1{B:Nat->Prop}(o:Option Nat)(v:Value)(h:Ams v=true):Bk w M β B (A3n o v) v/\v.oneCell'=true/\(∀s,(A3n o v).sv=some s->s.own=true->s.n=0/\∃a,v=.slice a 0 0):=by
 have h1:v.oneCell'=true:=by rw[<-Awo];exact h
 have base:Bk w M β B (.val v) v/\v.oneCell'=true/\(∀s,(PV.val v).sv=some s->s.own=true->s.n=0/\∃a,v=.slice a 0 0):=⟨.val v h1,h1,λs hs=>by cases hs⟩;unfold A3n;split
 ·rename_i e;cases hn:LX.nil e with
  |none=>exact base
  |some x=>
   have hx:=(LX.nil_spec e x hn).2;exact⟨Bk.le (.nil true x hx) (.val _ rfl),rfl,λs hs _=>by
    simp only[PV.sv]at hs;injection hs with hs;subst hs
    exact⟨hx,none,rfl⟩⟩
 ·exact base
theorem Aqk{B:Nat->Prop} :∀(os:List (Option Nat)) (z:List Value),Afy z=true->(Anh os z).length=z.length/\∀(i:Nat) (p:PV) (v:Value),(Anh os z)[i]? =some p->z[i]? =some v->
  Bk w M β B p v/\v.oneCell'=true/\(∀s,p.sv=some s->s.own=true->s.n=0/\∃a,v=.slice a 0 0)
 |os,[],_=>by
  have:Anh os []= []:=by cases os<;>rfl
  rw[this];exact⟨rfl,λi p v hp=>by simp at hp⟩
 | [],v::vs,h=>by
  simp only[Afy]at h;cases hv:Ams v with
  |false=>rw[hv]at h;cases h
  |true=>
   rw[hv]at h;obtain⟨q1,q2⟩:=Aqk (B:=B) [] vs h;refine⟨by simp only[Anh,List.length_cons,q1],λi p u hp hu=>?_⟩;cases i with
   |zero=>
    simp only[Anh,List.getElem?_cons_zero,Option.some.injEq]at hp hu;subst hp;subst hu
    exact Au1 none v hv
   |succ i=>exact q2 i p u (by simpa[Anh]using hp) (by simpa using hu)
 |o::os,v::vs,h=>by
  simp only[Afy]at h;cases hv:Ams v with
  |false=>rw[hv]at h;cases h
  |true=>
   rw[hv]at h;obtain⟨q1,q2⟩:=Aqk (B:=B) os vs h;refine⟨by simp only[Anh,List.length_cons,q1],λi p u hp hu=>?_⟩;cases i with
   |zero=>
    simp only[Anh,List.getElem?_cons_zero,Option.some.injEq]at hp hu;subst hp;subst hu
    exact Au1 o v hv
   |succ i=>exact q2 i p u (by simpa[Anh]using hp) (by simpa using hu)
theorem Aci{B:Nat->Prop}{t:Nat}{l:List PV}(h:Ala P t=some l):∃(i:TypeInfo) (z:Value),P.info? t=some i/\i.zero=some z/\l.length=z.cells.size/\∀(j:Nat) (p:PV) (v:Value),l[j]? =some p->z.cells[j]? =some v->
  Bk w M β B p v/\v.oneCell'=true/\(∀s,p.sv=some s->s.own=true->s.n=0/\∃a,v=.slice a 0 0):=by
 unfold Ala at h;cases hz:Alb P t with
 |none=>rw[hz]at h;cases h
 |some zz=>
  rw[hz]at h;simp only at h;cases ha:Afy zz with
  |false=>rw[ha]at h;cases h
  |true=>
   rw[ha]at h;injection h with h
   subst h;unfold Alb at hz;cases hi:P.info? t with
   |none=>rw[hi]at hz;cases hz
   |some i=>
    rw[hi]at hz;cases hzz:i.zero with
    |none=>simp[hzz]at hz
    |some z=>
     simp[hzz]at hz;subst hz;obtain⟨q1,q2⟩:=Aqk (w:=w) (M:=M) (β := β) (B:=B) (Bet P 8 t) z.cells.toList ha;exact⟨i,z,rfl,hzz,by rw[q1];simp,λj p v hp hv=>q2 j p v hp (by rw[Array.getElem?_toList];exact hv)⟩
theorem A5i{B:Nat->Prop}{t:Nat}{b:Bool}{l:List PV}(h:A8i b P t=some l):∃(i:TypeInfo) (z:Value),P.info? t=some i/\i.zero=some z/\l.length=z.cells.size/\∀(j:Nat) (p:PV) (v:Value),l[j]? =some p->z.cells[j]? =some v->
  Bk w M β B p v/\v.oneCell'=true/\(∀s,p.sv=some s->s.own=true->s.n=0/\∃a,v=.slice a 0 0):=by
 cases b with
 |false=>exact Aci h
 |true=>
  unfold A8i at h;cases hz:Alb P t with
  |none=>rw[hz]at h;cases h
  |some zz=>
   rw[hz]at h;simp only at h;cases ha:Afy zz with
   |false=>rw[ha]at h;cases h
   |true=>
    rw[ha]at h;injection h with h
    subst h;unfold Alb at hz;cases hi:P.info? t with
    |none=>rw[hi]at hz;cases hz
    |some i=>
     rw[hi]at hz;cases hzz:i.zero with
     |none=>simp[hzz]at hz
     |some z=>
      simp[hzz]at hz;subst hz;obtain⟨q1,q2⟩:=Aqk (w:=w) (M:=M) (β := β) (B:=B) [] z.cells.toList ha;exact⟨i,z,rfl,hzz,by rw[q1];simp,λj p v hp hv=>q2 j p v hp (by rw[Array.getElem?_toList];exact hv)⟩
theorem Ax3(h:SR cx w0 N nt st a w M β)(sz:Nat):∀(ps:List (Nat×Operand)) (i0:Nat) (xs:List Operand) (k:List (List PV)->Prop) (cs:Array Value),
  Af5 i0 ps=some xs->Wh st sz xs k->(i0+xs.length)*sz<=cs.size->
  ∃es cs',Instr.fill (λi=>some (i*sz,sz)) cs (ps.map λp=>(p.1,a.eval p.2))=some cs'/\cs'.size=cs.size/\es.length=xs.length/\
   (∀j,j<i0*sz->cs'[j]? =cs[j]?)/\(∀(i:Nat) (x:List PV),es[i]? =some x->x.length=sz)/\
   (∀(i:Nat) (x:List PV) (j:Nat) (p:PV),es[i]? =some x->x[j]? =some p->∃v,cs'[(i0+i)*sz+j]? =some v/\Bk w M β w0.old p v/\v.oneCell'=true)/\k es:=by
 intro ps
 induction ps with
 |nil=>
  intro i0 xs k cs hd hf hs;simp[Af5]at hd;subst hd;exact⟨[],cs,rfl,rfl,rfl,λ_ _=>rfl,λi x hx=>by simp at hx,λi x j p hx=>by simp at hx,hf⟩
 |cons p ps ih=>
  obtain⟨j0,x⟩:=p;intro i0 xs k cs hd hf hs;simp only[Af5]at hd;cases hj:Nat.beq i0 j0 with
  |false=>rw[hj]at hd;cases hd
  |true=>
   have hj':=Nat.eq_of_beq_eq_true hj;subst hj';cases hr:Af5 (i0+1) ps with
   |none=>rw[hj,hr]at hd;cases hd
   |some ys=>
    rw[hj,hr]at hd;injection hd with hd
    subst hd;simp only[Wh]at hf;cases g1:Qm (st.aM x).cells sz<;>cases g2:Sx (st.aM x).cells<;>simp only[g1,g2]at hf<;>try exact hf.elim
    obtain⟨c1,c2⟩:=Tg (h.aM x) g2;have e0:(st.aM x).cells.length=sz:=(W1 _ _).1 g1;have e1:((st.aM x).cells.map PV.view).length=sz:=by rw[List.length_map,e0]
    have e3:(a.eval x).cells.size=sz:=by rw[<-e1,<-c1];simp
    have hmul:(i0+(x::ys).length)*sz=i0*sz+sz+ys.length*sz:=by simp only[List.length_cons,Nat.add_mul,Nat.one_mul];omega
    have hfit:i0*sz+(a.eval x).cells.size<=cs.size:=by omega
    obtain⟨f1,f2⟩:=Ayc (i0*sz) (a.eval x).cells cs hfit;obtain⟨es,cs',r1,r2,r3,r4,r5,r6,r7⟩:=ih (i0+1) ys (λl=>k ((st.aM x).cells.map PV.view::l)) _ hr hf (by
     rw[f1];rw[hmul]at hs;simp only[Nat.add_mul,Nat.one_mul];omega)
    refine⟨(st.aM x).cells.map PV.view::es,cs',?_,by rw[r2,f1],by simp[r3],?_,?_,?_,r7⟩
    ·simp only[List.map_cons,Instr.fill];rw[if_neg (by rw[e3];simp;omega)];exact r1
    ·intro j hjl;rw[r4 j (by simp only[Nat.add_mul,Nat.one_mul];omega),f2,if_neg (by omega)]
    ·intro i y hy;cases i with
     |zero=>simp at hy;subst hy;simpa using e1
     |succ i=>exact r5 i y (by simpa using hy)
    ·intro i y j p hy hp;cases i with
     |zero=>
      rw[List.getElem?_cons_zero]at hy;injection hy with hy
      subst hy;have hjl:j<sz:=by have:=(List.getElem?_eq_some_iff.1 hp).1;omega
      have hv:(a.eval x).cells[j]? =some ((a.eval x).cells[j]'(by omega)):=Array.getElem?_eq_getElem (by omega);refine⟨_,?_,c2 j p _ hp (by rw[Array.getElem?_toList];exact hv)⟩;rw[Nat.add_zero,r4 _ (by simp only[Nat.add_mul,Nat.one_mul];omega),f2,if_pos ⟨by omega,by omega⟩,show i0*sz+j-i0*sz=j by omega];exact hv
     |succ i=>
      obtain⟨v,q1,q2⟩:=r6 i y j p (by simpa using hy) hp;exact⟨v,by rw[show(i0+(i+1))=(i0+1+i) by omega];exact q1,q2⟩
theorem Wo{B:Nat->Prop}{p:PV}{s:SV}(hs:p.sv=some s){g c n:Nat}(hn:n=s.n){cs:Array Value}{t:Nat}(hh:w.heap[g]? =some (.cells cs t (0,0)))(hc:n<=c)
  (hsz:∀(i:Nat),i<n->(s.f i).length=s.sz)(hM:∀i,i<n*s.sz->imm M ⟨g,i,none⟩)
  (hr:∀(i:Nat) (j:Nat) (q:PV),i<n->(s.f i)[j]? =some q->∃v,cs[i*s.sz+j]? =some v/\Bk w M β B q v/\v.oneCell'=true):
  Bk w M β B p (.slice (some ⟨g,0,none⟩) n c):=by
 subst hn;refine .row p s hs _ c (λi j=>(cs[i*s.sz+j]?).getD undef) hc hsz (λi _=>⟨_,rfl⟩) ?_ ?_
 ·intro ad i j q had hi hq;injection had with had
  subst had;obtain⟨v,h1,h2,h3⟩:=hr i j q hi hq;have hj:j<s.sz:=by have:=(List.getElem?_eq_some_iff.1 hq).1;have:=hsz i hi;omega
  have hm:(i+1)*s.sz<=s.n*s.sz:=Nat.mul_le_mul_right _ hi;rw[Nat.add_mul,Nat.one_mul]at hm;rw[add_lit];refine⟨hM _ (by omega),?_,by rw[h1];exact h3⟩;rw[World.cell?,hh,h1];exact h1
 ·intro i j q hi hq;obtain⟨v,h1,h2,h3⟩:=hr i j q hi hq;rw[h1];exact h2
theorem U7{B:Nat->Prop}{p:PV}{s:SV}(hs:p.sv=some s){v:Value}(hpos:1<=s.sz)(h:Bk w M β B p v):
  ∃(A:Option Addr) (c:Nat) (news:List Value),v=.slice A s.n c/\s.n<=c/\news.length=s.n*s.sz/\(∀(ad:Addr) (j:Nat) (u:Value),A=some ad->news[j]? =some u->w.cell? (ad.add j)=some u)/\
   (∀u∈news,u.oneCell'=true)/\(0<s.n->∃ad,A=some ad)/\(∀(i:Nat),i<s.n->(s.f i).length=s.sz)/\
   (∀(i:Nat) (j:Nat) (q:PV),i<s.n->(s.f i)[j]? =some q->∃u,news[i*s.sz+j]? =some u/\Bk w M β B q u/\u.oneCell'=true):=by
 have go:∀(p:PV) (v:Value),p.sv=some s->Bk w M β B p v->∃(A:Option Addr) (c:Nat) (news:List Value),v=.slice A s.n c/\s.n<=c/\news.length=s.n*s.sz/\(∀(ad:Addr) (j:Nat) (u:Value),A=some ad->news[j]? =some u->w.cell? (ad.add j)=some u)/\
   (∀u∈news,u.oneCell'=true)/\(0<s.n->∃ad,A=some ad)/\(∀(i:Nat),i<s.n->(s.f i).length=s.sz)/\
   (∀(i:Nat) (j:Nat) (q:PV),i<s.n->(s.f i)[j]? =some q->∃u,news[i*s.sz+j]? =some u/\Bk w M β B q u/\u.oneCell'=true):=by
  intro p v hs h;cases h with
  |row p s' hs' A c vs hc hsz ha hm hr=>
   rw[hs]at hs';injection hs' with hs';subst hs'
   have key:∀j,j<s.n*s.sz->∃p,j/s.sz<s.n/\(s.f (j/s.sz))[j % s.sz]? =some p:=by
    intro j hj;have h1:j/s.sz<s.n:=Nat.div_lt_of_lt_mul (by rw[Nat.mul_comm];exact hj);have h2:j % s.sz<s.sz:=Nat.mod_lt _ (by omega);have hl:=hsz _ h1;exact⟨_,h1,List.getElem?_eq_getElem (by omega)⟩
   have hdm:∀j,j/s.sz*s.sz+j % s.sz=j:=λj=>Nat.div_add_mod' j s.sz;refine⟨A,c,(List.range (s.n*s.sz)).map λj=>vs (j/s.sz) (j % s.sz),rfl,hc,by simp,?_,?_,?_,hsz,?_⟩
   ·intro ad j u hA hj;have hjl:j<s.n*s.sz:=by have:=(List.getElem?_eq_some_iff.1 hj).1;simpa using this
    obtain⟨p,hx,hp⟩:=key j hjl;have:=(hm ad _ _ p hA hx hp).2.1;rw[hdm]at this;rw[List.getElem?_map,List.getElem?_range hjl]at hj;simp at hj;rw[this,hj]
   ·intro u hu;obtain⟨j,hj,rfl⟩:=List.mem_map.1 hu;have hjl:j<s.n*s.sz:=by simpa using hj
    obtain⟨p,hx,hp⟩:=key j hjl;obtain⟨ad,hA⟩:=ha _ hx;exact(hm ad _ _ p hA hx hp).2.2
   ·intro h0;exact ha 0 h0
   ·intro i j p hi hp;have hj:j<s.sz:=by have:=(List.getElem?_eq_some_iff.1 hp).1;have:=hsz i hi;omega
    have hmul:(i+1)*s.sz<=s.n*s.sz:=Nat.mul_le_mul_right _ hi;rw[Nat.add_mul,Nat.one_mul]at hmul;obtain⟨ad,hA⟩:=ha i hi;refine⟨vs i j,?_,hr i j p hi hp,(hm ad i j p hA hi hp).2.2⟩;rw[List.getElem?_map,List.getElem?_range (by omega)];have e1:(i*s.sz+j)/s.sz=i:=by
     rw[Nat.mul_comm,Nat.mul_add_div (by omega),Nat.div_eq_of_lt hj];omega
    have e2:(i*s.sz+j) % s.sz=j:=by
     rw[Nat.mul_comm,Nat.mul_add_mod,Nat.mod_eq_of_lt hj]
    simp[e1,e2]
  |_=>cases hs
 exact go p v hs h
theorem V5(t ty e:TypeId)(i:TypeInfo)(ht:P.underlying t=some (.slice e))(hi:P.info? e=some i)(A0:Option Addr)(n c0:Nat)(hc:n<=c0)(hA:A0=none->n=0/\c0=0)
  (A:Option Addr)(c:Nat)(w:World):(Builtin.append_ #[t,t] ty #[.slice A0 n c0,.slice A 0 c]).run P w=.ok (.slice A0 n c0) w:=by
 cases A0 with
 |none=>
  obtain⟨rfl,rfl⟩:=hA rfl;cases A<;>simp[Builtin.append_,run_underlying ht,sizeOf,typeInfo,hi,Builtin.lenOf,Builtin.firstCells,loadCells,loadCellsFrom]
 |some g=>
  cases A<;>simp[Builtin.append_,run_underlying ht,sizeOf,typeInfo,hi,Builtin.lenOf,Builtin.firstCells,loadCells,loadCellsFrom,hc,storeCells]
theorem Avn{B:Nat->Prop}{s t u:SV}{xs news rest:List Value}(hsz:t.sz=s.sz)(husz:u.sz=s.sz)(hlen:xs.length=s.n*s.sz)(hun:u.n=s.n+t.n)
  (hu1:∀i,i<s.n->u.f i=s.f i)(hu2:∀i,i<t.n->u.f (s.n+i)=t.f i)
  (h1:∀(i:Nat) (j:Nat) (p:PV),i<s.n->(s.f i)[j]? =some p->∃v,xs[i*s.sz+j]? =some v/\Bk w M β B p v/\v.oneCell'=true)(hs1:∀i,i<s.n->(s.f i).length=s.sz)
  (h2:∀(i:Nat) (j:Nat) (p:PV),i<t.n->(t.f i)[j]? =some p->∃v,news[i*t.sz+j]? =some v/\Bk w M β B p v/\v.oneCell'=true)(hs2:∀i,i<t.n->(t.f i).length=t.sz)(hnl:news.length=t.n*t.sz):
  (∀i,i<u.n->(u.f i).length=u.sz)/\∀(i:Nat) (j:Nat) (p:PV),i<u.n->(u.f i)[j]? =some p->∃v,(xs++news++rest)[i*u.sz+j]? =some v/\Bk w M β B p v/\v.oneCell'=true:=by
 rw[husz];rw[hsz]at h2 hs2 hnl;constructor
 ·intro i hi;by_cases h:i<s.n
  ·rw[hu1 i h];exact hs1 i h
  ·obtain⟨k,rfl⟩:∃k,i=s.n+k:=⟨i-s.n,by omega⟩;rw[hu2 k (by omega)];exact hs2 k (by omega)
 ·intro i j p hi hp;by_cases h:i<s.n
  ·rw[hu1 i h]at hp;obtain⟨v,q1,q2⟩:=h1 i j p h hp;have:=(List.getElem?_eq_some_iff.1 q1).1;exact⟨v,by rw[List.append_assoc,List.getElem?_append_left (by omega)];exact q1,q2⟩
  ·obtain⟨k,rfl⟩:∃k,i=s.n+k:=⟨i-s.n,by omega⟩;rw[hu2 k (by omega)]at hp;obtain⟨v,q1,q2⟩:=h2 k j p (by omega) hp;have:=(List.getElem?_eq_some_iff.1 q1).1;refine⟨v,?_,q2⟩;have e:(s.n+k)*s.sz+j=xs.length+(k*s.sz+j):=by rw[hlen,Nat.add_mul];omega
   rw[List.append_assoc,e,List.getElem?_append_right (by omega),show xs.length+(k*s.sz+j)-xs.length=k*s.sz+j by omega,List.getElem?_append_left (by omega)];exact q1
end
section
variable {κ :Type} {H: κ->PV×Value} {P:Program} {w0:D7} {w:World} {N M:Jw} {β :Kh} {O:Nat->List PV} {D:Nat->Bool}
theorem Aqy(h:SH H w0 N O D w M β)(t ty e:Nat)(i:TypeInfo)(z:Value)(ht:P.underlying t=some (.slice e))(hi:P.info? e=some i)(hz:i.zero=some z)
  (hzs:z.cells.size=i.size)(hpos:1<=i.size){p q r:PV}{s s2 u:SV}(hp:p.sv=some s)(hq:q.sv=some s2)(hr:r.sv=some u)
  (hse:s.e=e)(hss:s.sz=i.size)(hts:s2.sz=s.sz)(hue:u.e=s.e)(hus:u.sz=s.sz)(hun:u.n=s.n+s2.n)(hu1:∀i,i<s.n->u.f i=s.f i)(hu2:∀i,i<s2.n->u.f (s.n+i)=s2.f i)
  {v x:Value}(hv:Bk w M β w0.old p v)(ht0:Wg w M w0.old s v)(hx:Bk w M β w0.old q x)
  (hno:∀key s' v' g,P5 H O w β key s' v'->tb v=some g->tb v'≠some g)(hbox:∀g d n,tb v=some g->β d≠some (g,n))
  (hb:(s.n+s2.n)*i.bytes<=140737488355328)(hm:s.n+s2.n<=maxLen):
  ∃v' w' M',(Builtin.append_ #[t,t] ty #[v,x]).run P w=.ok v' w'/\SH (H2 (r,v') H) w0 N O D w' M' β :=by
 obtain⟨A,c,xs,hv1,hv2,hv3,hv4,hv5,hv6,hv7,hv8⟩:=U7 hp (by omega) hv;obtain⟨A',c',news,hu1',hu2',hu3',hu4',hu5',hu6',hu7',hu8'⟩:=U7 hq (by omega) hx;have hmax:s.n+s2.n<=9223372036854775807:=by simp only[maxLen]at hm;omega
 by_cases hy:s2.n=0
 ·have hrun:(Builtin.append_ #[t,t] ty #[v,x]).run P w=.ok v w:=by
   rw[hu1',hv1,hy];refine V5 t ty e i ht hi A s.n c hv2 ?_ A' c' w;intro hA;rcases ht0 with⟨a,h1⟩|⟨g,c1,cur,h1,_⟩
   ·rw[hv1]at h1;injection h1 with _ _ h4
    have h0:s.n=0:=by
     rcases Nat.eq_zero_or_pos s.n with h|h
     ·exact h
     ·obtain⟨ad,e⟩:=hv6 h;rw[hA]at e;cases e
    exact⟨h0,by omega⟩
   ·rw[hv1,hA]at h1;cases h1
  have hrel:Bk w M β w0.old r v:=by
   have hun':s.n=u.n:=by omega
   have go:∀(p:PV) (v:Value),p.sv=some s->Bk w M β w0.old p v->Bk w M β w0.old r v:=by
    intro p v hp hv;cases hv with
    |row p s' hs' A c vs hc hsz ha hm hr'=>
     rw[hp]at hs';injection hs' with hs';subst hs'
     rw[hun']at hc hsz ha hm hr' ⊢;refine .row r u hr A c vs hc (λi hi=>?_) ha (λad i j q h1 h2 h3=>?_) (λi j q h1 h2=>?_)
     ·rw[hu1 i (by omega),hus];exact hsz i hi
     ·rw[hus];exact hm ad i j q h1 h2 (by rw[<-hu1 i (by omega)];exact h3)
     ·exact hr' i j q h1 (by rw[<-hu1 i (by omega)];exact h2)
    |_=>cases hp
   exact go p v hp hv
  refine⟨v,w,M,hrun,h.cons r v hrel (λs' h1 h2=>?_)⟩;rw[(M9 hr).2 v];rw[(M9 hr).1]at h1;injection h1 with h1;subst h1
  refine⟨?_,hno,hbox⟩;rcases ht0 with⟨a,h1⟩|⟨g,c1,cur,h1,h3,h4,h5,h6,h7,h8⟩
  ·exact .inl ⟨a,by rw[hun,hy];exact h1⟩
  ·exact .inr ⟨g,c1,cur,by rw[hun,hy];exact h1,h3,by rw[hun,hy,hus];exact h4,by rw[hue];exact h5,by omega,h7,by rw[hus];exact h8⟩
 ·obtain⟨ad,hA⟩:=hu6' (by omega);subst hA;have hR:∀(rest:List Value),_:=λrest=>Avn (w:=w) (M:=M) (β := β) (B:=w0.old) (rest:=rest) hts hus hv3 hun hu1 hu2 hv8 hv7 hu8' hu7' hu3';have fresh:∀(cap:Nat) (zs:List Value),s.n+s2.n<=cap+1->cap+1<=maxLen->(xs++news++zs).length=(cap+1)*i.size->∀(W:World),W=w\/W=w.drew->
    ∃M',SH (H2 (r,.slice (some ⟨w.heap.size,0,none⟩) (s.n+s2.n) (cap+1)) H) w0 N O D (W.alloc (.cells (xs++news++zs).toArray e)) M' β :=by
   intro cap zs hcap hcm hcs W hW;have hW':SH H w0 N O D W M β :=by rcases hW with rfl|rfl;exact h;exact h.drawn
   have hWs:W.heap.size=w.heap.size:=by rcases hW with rfl|rfl<;>rfl
   have hWe:∀p v,Bk w M β w0.old p v->Bk W M β w0.old p v:=by
    rcases hW with rfl|rfl
    ·exact λp v h=>h
    ·exact λp v h=>Bk.ext (w:=w) (w':=w.drew) (λx u h1 h2=>⟨h1,h2⟩) (λ_ _=>rfl) (λ_ _ h=>h) (λ_ _ _ _=>Nat.le_refl _) h
   obtain⟨hE,hS,hRR,hb1,hn1⟩:=hW'.rowNew (xs++news++zs).toArray e ((s.n+s2.n)*i.size);rw[hWs]at hE hS hRR hb1 hn1;have hh:(W.alloc (.cells (xs++news++zs).toArray e)).heap[w.heap.size]? =some (.cells (xs++news++zs).toArray e (0,0)):=by rw[<-hWs];exact heap_alloc_new W _
   have hle:w0.w.heap.size<=w.heap.size:=h.bS.size;obtain⟨r1,r2⟩:=hR zs;refine⟨_,hS.cons r _ ?_ (λs' h1 h2=>?_)⟩
   ·refine Wo hr hun.symm hh hcap (λi hi=>r1 i (by omega)) (λj hj n hn=>?_) (λi0 j q hi0 hq=>?_)
    ·simp only[if_true]at hn;injection hn with hn
     rw[hus,hss]at hj;show j<n
     omega
    ·obtain⟨u0,q1,q2,q3⟩:=r2 i0 j q (by omega) hq;exact⟨u0,by simpa using q1,hRR _ _ (hWe _ _ q2),q3⟩
   ·rw[(M9 hr).2];rw[(M9 hr).1]at h1;injection h1 with h1;subst h1
    refine⟨.inr ⟨w.heap.size,cap,(xs++news++zs).toArray,by rw[hun],h.bS.new,by simp[hun,hus,hss],by rw[hue,hse];exact hh,by omega,hcm,by rw[hus,hss];simpa using hcs⟩,?_,?_⟩
    ·intro key s' v' g ho hg;have:w.heap.size=g:=T2 hg;rw[<-this];exact(hn1 key s' v' ho).2
    ·intro g d n hg;have:w.heap.size=g:=T2 hg;rw[<-this];exact hb1 d n
  have zlen:∀n,(Builtin.zeroCells z.cells n).toList.length=n*i.size:=λn=>by rw[Array.length_toList,size_zeroCells,hzs]
  have toA:∀n,xs.toArray++news.toArray++Builtin.zeroCells z.cells n=(xs++news++(Builtin.zeroCells z.cells n).toList).toArray:=λn=>by
   apply Array.ext';simp
  have hnl:news.length=s2.n*i.size:=by rw[hu3',hts,hss]
  have hxl:xs.length=s.n*i.size:=by rw[hv3,hss]
  have grow:∀(ad0:Addr),A=some ad0->¬(s.n+s2.n<=c)->∃v' w' M',(Builtin.append_ #[t,t] ty #[v,x]).run P w=.ok v' w'/\SH (H2 (r,v') H) w0 N O D w' M' β :=by
   intro ad0 hA0 hroom;have hcell:∀(j:Nat) (q:Value),xs[j]? =some q->w.cell? (ad0.add j)=some q:=λj q hq=>hv4 _ j q hA0 hq;have hr:=run_append_grow (P:=P) w t ty e i z ht hi hz ad0 s.n c xs hxl hcell ad s2.n c' news hnl (λj q hq=>hu4' ad j q rfl hq) (by omega) (by omega) (growslice_fits (by omega) hb);have hge:=grownCap_ge w (s.n+s2.n) c e;have hle':=grownCap_le_maxLen w (s.n+s2.n) c e hm;obtain⟨k,hk⟩:∃k,grownCap w (s.n+s2.n) c e=k+1:=⟨grownCap w (s.n+s2.n) c e-1,by omega⟩;rw[hk]at hr hge hle';obtain⟨M',hS⟩:=fresh k (Builtin.zeroCells z.cells (k+1-(s.n+s2.n))).toList hge hle' (by
    rw[List.length_append,List.length_append,zlen,hnl,hxl,<-Nat.add_mul,<-Nat.add_mul];congr 1;omega) w.drew (.inr rfl)
   refine⟨_,_,M',by rw[hv1,hA0,hu1'];exact hr,?_⟩;rw[toA];exact hS
  rcases ht0 with⟨a0,h1⟩|⟨g,c1,cur,h1,h2,h3,h4,h5,h6,h7⟩
  ·have hAc:A=a0/\c=s.n:=by rw[hv1]at h1;injection h1 with q1 _ q3;exact⟨q1,q3⟩
   obtain⟨rfl,hc⟩:=hAc;cases A with
   |some ad0=>exact grow ad0 rfl (by omega)
   |none=>
    have h2:s.n=0:=by
     rcases Nat.eq_zero_or_pos s.n with h|h
     ·exact h
     ·obtain⟨ad,e⟩:=hv6 h;cases e
    rw[h2]at h1;have hxs:xs= []:=List.eq_nil_of_length_eq_zero (by rw[hv3,h2];simp);subst hxs;have hr:=run_append_nil (P:=P) w t ty e i z ht hi hz ad s2.n c' news hnl (λj q hq=>hu4' ad j q rfl hq) (by omega) (by omega) (by rw[h2,Nat.zero_add]at hb;exact Nat.le_trans hb (by decide));have hge:=grownCap_ge w s2.n 0 e;have hle':=grownCap_le_maxLen w s2.n 0 e (by omega);obtain⟨k,hk⟩:∃k,grownCap w s2.n 0 e=k+1:=⟨grownCap w s2.n 0 e-1,by omega⟩;rw[hk]at hr hge hle';obtain⟨M',hS⟩:=fresh k (Builtin.zeroCells z.cells (k+1-s2.n)).toList (by omega) hle' (by
     rw[List.length_append,List.length_append,zlen,hnl,List.length_nil,Nat.zero_add,<-Nat.add_mul];congr 1;omega) w.drew (.inr rfl)
    refine⟨_,_,M',by rw[h1,hu1'];exact hr,?_⟩;rw[h2,Nat.zero_add,List.nil_append]at hS;have e0:news.toArray++Builtin.zeroCells z.cells (k+1-s2.n)=(news++(Builtin.zeroCells z.cells (k+1-s2.n)).toList).toArray:=by apply Array.ext';simp
    rw[e0];exact hS
  ·have hAg:A=some ⟨g,0,none⟩/\c=c1+1:=by rw[hv1]at h1;injection h1 with q1 _ q3;exact⟨q1,q3⟩
   obtain⟨hA1,hc1⟩:=hAg;subst hc1;have hcell:∀(j:Nat) (q:Value),xs[j]? =some q->w.cell? ((⟨g,0,none⟩:Addr).add j)=some q:=λj q hq=>hv4 _ j q hA1 hq;by_cases hroom:s.n+s2.n<=c1+1
   ·have hfit:s.n*i.size+news.length<=cur.size:=by rw[hnl,h7,hss,<-Nat.add_mul];exact Nat.mul_le_mul_right _ hroom
    have hrr:=run_append_room (P:=P) w t ty e i ht hi g s.n (c1+1) cur (by rw[<-hse];exact h4) ad s2.n c' news hnl (λj q hq=>hu4' ad j q rfl hq) hu5' hroom hfit;have htake:cur.toList.take (s.n*i.size)=xs:=by
     apply List.ext_getElem?;intro j;rcases Nat.lt_or_ge j (s.n*i.size)with hj|hj
     ·have hx:xs[j]? =some (xs[j]'(by omega)):=List.getElem?_eq_getElem (by omega);have:=hcell j _ hx;rw[add_lit,World.cell?,h4]at this;rw[List.getElem?_take,if_pos hj,hx];simpa using this
     ·rw[List.getElem?_eq_none (by simp;omega),List.getElem?_eq_none (by omega)]
    rw[htake]at hrr;have htb:tb v=some g:=by rw[h1];exact A8c (by omega)
    have hno':∀key s' v',P5 H O w β key s' v'->tb v'≠some g:=λkey s' v' ho=>hno key s' v' g ho htb;have hbox':∀d n,β d≠some (g,n):=λd n=>hbox g d n htb;obtain⟨hE,hS,hRR,hOO⟩:=h.rowWrite g (s.n*s.sz) ((s.n+s2.n)*s.sz) cur (xs++news++cur.toList.drop (s.n*i.size+news.length)).toArray s.e h2 h3 (Nat.mul_le_mul_right _ (by omega)) h4 (by simp only[List.size_toArray,List.length_append,List.length_drop,Array.length_toList];omega) (λj hj=>by
     rw[hss]at hj;have hx:xs[j]? =some (xs[j]'(by omega)):=List.getElem?_eq_getElem (by omega);have:=hcell j _ hx;rw[add_lit,World.cell?,h4]at this;have h8:cur[j]? =some (xs[j]'(by omega)):=by simpa using this
     rw[h8];simp only[List.getElem?_toArray];rw[List.append_assoc,List.getElem?_append_left (by omega)];exact hx) hbox' hno'
    have hh:(w.setRow g (xs++news++cur.toList.drop (s.n*i.size+news.length)).toArray).heap[g]? =some (.cells (xs++news++cur.toList.drop (s.n*i.size+news.length)).toArray s.e (0,0)):=setRow_heap w g cur _ s.e (0,0) h4;obtain⟨r1,r2⟩:=hR (cur.toList.drop (s.n*i.size+news.length));refine⟨_,_,_,by rw[h1,hu1'];exact hrr,hS.cons r _ ?_ (λs' q1 q2=>?_)⟩
    ·refine Wo hr hun.symm hh hroom (λi hi=>r1 i (by omega)) (λj hj n hn=>?_) (λi0 j q hi0 hq=>?_)
     ·simp only[if_true]at hn;injection hn with hn
      rw[hus]at hj;show j<n
      omega
     ·obtain⟨u0,q1,q2,q3⟩:=r2 i0 j q (by omega) hq;exact⟨u0,by simpa using q1,hRR _ _ q2,q3⟩
    ·rw[(M9 hr).2];rw[(M9 hr).1]at q1;injection q1 with q1;subst q1
     refine⟨.inr ⟨g,c1,_,by rw[hun],h2,by simp[hun,hus],by rw[hue];exact hh,by omega,h6,?_⟩,?_,?_⟩
     ·rw[hus,hss];simp only[List.size_toArray,List.length_append,List.length_drop,Array.length_toList];rw[hss]at h7;omega
     ·intro key s' v' g' ho hg;have:g=g':=T2 hg;rw[<-this];exact hno' key s' v' (hOO key s' v' ho)
     ·intro g' d n hg;have:g=g':=T2 hg;rw[<-this];exact hbox' d n
   ·exact grow _ hA1 hroom
theorem Aiq(f:Nat->List PV)(s:Nat)(hf:∀i,(f i).length=s):∀n,(((List.range n).map f).flatten).length=n*s/\
  ∀k p,(((List.range n).map f).flatten)[k]? =some p->∃i j,i<n/\j<s/\k=i*s+j/\(f i)[j]? =some p
 |0=>⟨by simp,λk p h=>by simp at h⟩
 |n+1=>by
  obtain⟨h1,h2⟩:=Aiq f s hf n;rw[List.range_succ,List.map_append,List.flatten_append];have e:(List.map f [n]).flatten=f n:=by simp
  rw[e];refine⟨by rw[List.length_append,h1,hf,Nat.add_mul,Nat.one_mul],λk p h=>?_⟩;rcases Nat.lt_or_ge k (n*s)with hk|hk
  ·rw[List.getElem?_append_left (by omega)]at h;obtain⟨i,j,a,b,c,d⟩:=h2 k p h;exact⟨i,j,by omega,b,c,d⟩
  ·rw[List.getElem?_append_right (by omega),h1]at h;have:=(List.getElem?_eq_some_iff.1 h).1;rw[hf]at this;exact⟨n,k-n*s,by omega,this,by omega,h⟩
theorem LX.flat_len(z:LX):z.flat.length=z.len*z.sz:=by
 unfold LX.flat;rw[List.length_map];exact(Aiq z.row z.sz (LX.row_len z) z.len).1
theorem LX.flat_get(z:LX){k:Nat}{p:PV}(h:z.flat[k]? =some p):∃i j q,i<z.len/\j<z.sz/\k=i*z.sz+j/\(z.row i)[j]? =some q/\p=q.view:=by
 unfold LX.flat at h;obtain⟨q,h1,h2⟩:=F8 h;obtain⟨i,j,a,b,c,d⟩:=(Aiq z.row z.sz (LX.row_len z) z.len).2 k q h1;exact⟨i,j,q,a,b,c,d,h2⟩
theorem A0h{O':Nat->List PV}{D':Nat->Bool}(h:SH H w0 N O D w M β)(t ty e:Nat)(i:TypeInfo)(z:Value)(ht:P.underlying t=some (.slice e))(hi:P.info? e=some i)(hz:i.zero=some z)
  (hzs:z.cells.size=i.size)(hpos:1<=i.size){own:Bool}{x:LX}{s:SV}(hs0:s.n=0)(hse:s.e=e)(hss:s.sz=i.size)(hxs:x.sz=i.size)(hn:1<=x.len)
  {v xv:Value}(ht0:Wg w M w0.old s v)(hx:Bk w M β w0.old (.aO own x) xv)
  (hno:∀key s' v' g,P5 H O w β key s' v'->tb v=some g->tb v'≠some g)(hbox:∀g d n,tb v=some g->β d≠some (g,n))
  (hb:x.len*i.bytes<=140737488355328)(hm:x.len<=maxLen)
  {d:Nat}(cm:Bool)(hnew:D d=true)(hO1:O' d=match cm with|true=>x.flat|false=> [.bG x])(hO2:∀y,y≠d->O' y=O y)(hD:∀y,D' y=true->D y=true/\y≠d):
  ∃v' w' M' β',(Builtin.append_ #[t,t] ty #[v,xv]).run P w=.ok v' w'/\SH (H2 (.vw cm d e i.size x.len,v') H) w0 N O' D' w' M' β':=by
 obtain⟨A',c',news,hu1',hu2',hu3',hu4',hu5',hu6',hu7',hu8'⟩:=U7 (p:=.aO own x) (s:=⟨own,x.e,x.sz,x.len,x.row⟩) rfl (by show 1<=x.sz;omega) hx;obtain⟨ad,hA⟩:=hu6' (by show 0<x.len;omega);subst hA;have hnl:news.length=x.len*i.size:=by rw[hu3',<-hxs]
 have hmax:x.len<=9223372036854775807:=by simp only[maxLen]at hm;omega
 have hu1'':xv=.slice (some ad) x.len c':=hu1';have hu2'':x.len<=c':=hu2';have fin:∀(W:World) (M1:Jw) (g c:Nat) (zs:List Value),(∀p v,Bk w M β w0.old p v->Bk W M1 β w0.old p v)->SH H w0 N O D W M1 β->¬w0.old g->M1 g=some 0->(∀y n,β y≠some (g,n))->
   (∀key s v,P5 H O W β key s v->tb v≠some g)->W.heap[g]? =some (.cells (news++zs).toArray e (0,0))->x.len<=c->c*i.size<=(news++zs).length->
   ∃M' β',SH (H2 (.vw cm d e i.size x.len,.slice (some ⟨g,0,none⟩) x.len c) H) w0 N O' D' W M' β':=by
  intro W M1 g c zs hR hS hgB hM1 hb1 hn1 hh hc hcz;have hcz:c*i.size<=dH W g:=by rw[Vg hh];simpa using hcz
  have hcell:∀(i0 j:Nat) (p:PV) (v:Value),i0<x.len->(x.row i0)[j]? =some p->(news++zs).toArray[i0*x.sz+j]? =some v->Bk W M1 β w0.old p v/\v.oneCell'=true:=λi0 j p v hi0 hp hv=>by
   obtain⟨v0,q1,q2,q3⟩:=hu8' i0 j p hi0 hp;have hlt:=(List.getElem?_eq_some_iff.1 q1).1;have:v=v0:=by
    simp only[List.getElem?_toArray]at hv;rw[List.getElem?_append_left hlt]at hv;exact Option.some.inj (hv.symm.trans q1)
   subst this;exact⟨hR _ _ q2,q3⟩
  cases cm with
  |false=>
   obtain⟨β',hS',hd⟩:=hS.adopt d g x.len [.bG x] hnew hgB hM1 (λy m hy=>absurd hy (hb1 y m)) hn1 hO1 hO2 hD (λk p s' hp hs _=>by
     cases k with
     |zero=>simp at hp;subst hp;cases hs
     |succ k=>simp at hp) (λβ' hR' _=>.arr x _ e hh rfl (by simp only[List.size_toArray,List.length_append];rw[hnl,hxs];omega) (λi0 j p v hi0 hp hv=>by
     obtain⟨r1,r2⟩:=hcell i0 j p v hi0 hp hv;exact⟨hR' _ _ r1,r2⟩))
   exact⟨M1,β',hS'.cons _ _ (.vw false d e i.size x.len g c hd hc hcz) (λs' h1 _=>by cases h1)⟩
  |true=>
   obtain⟨β',hS',hd⟩:=hS.adopt d g x.len x.flat hnew hgB hM1 (λy m hy=>absurd hy (hb1 y m)) hn1 hO1 hO2 hD (λk p s' hp hs ho'=>by
     obtain⟨_,_,q,_,_,_,_,rfl⟩:=LX.flat_get x hp;rw[Abq hs]at ho';cases ho') (λβ' hR' _=>.cells _ _ e hh (by simp only[List.size_toArray,List.length_append];rw[LX.flat_len,hnl,hxs];omega) (λk p v hp hv=>by
     obtain⟨i0,j,q,a1,a2,a3,a4,rfl⟩:=LX.flat_get x hp;subst a3;obtain⟨r1,r2⟩:=hcell i0 j q v a1 a4 hv;exact⟨(hR' _ _ r1).view,r2⟩))
   exact⟨M1,β',hS'.cons _ _ (.vw true d e i.size x.len g c hd hc hcz) (λs' h1 _=>by cases h1)⟩
 have zlen:∀n,(Builtin.zeroCells z.cells n).toList.length=n*i.size:=λn=>by rw[Array.length_toList,size_zeroCells,hzs]
 have toA:∀n,news.toArray++Builtin.zeroCells z.cells n=(news++(Builtin.zeroCells z.cells n).toList).toArray:=λn=>by
  apply Array.ext';simp
 have fresh:∀(cap:Nat) (zs:List Value),x.len<=cap->cap*i.size<=(news++zs).length->∃M' β',SH (H2 (.vw cm d e i.size x.len,.slice (some ⟨w.heap.size,0,none⟩) x.len cap) H) w0 N O' D' (w.drew.alloc (.cells (news++zs).toArray e)) M' β':=by
  intro cap zs hcap hcz;have hW':SH H w0 N O D w.drew M β :=h.drawn;have hWe:∀p v,Bk w M β w0.old p v->Bk w.drew M β w0.old p v:=λp v h=>Bk.ext (w:=w) (w':=w.drew) (λx u h1 h2=>⟨h1,h2⟩) (λ_ _=>rfl) (λ_ _ h=>h) (λ_ _ _ _=>Nat.le_refl _) h;obtain⟨hE,hS,hRR,hb1,hn1⟩:=hW'.rowNew (news++zs).toArray e 0;have hle:w0.w.heap.size<=w.heap.size:=h.bS.size;exact fin _ _ w.heap.size cap zs (λp v hr=>hRR _ _ (hWe _ _ hr)) hS h.bS.new (if_pos rfl) hb1 (λkey s v ho=>(hn1 key s v ho).2) (heap_alloc_new w.drew _) hcap hcz
 have grow:∀(ad0:Addr) (c:Nat),v=.slice (some ad0) 0 c->¬(0+x.len<=c)->∃v' w' M' β',(Builtin.append_ #[t,t] ty #[v,xv]).run P w=.ok v' w'/\SH (H2 (.vw cm d e i.size x.len,v') H) w0 N O' D' w' M' β':=by
  intro ad0 c hv hroom;have hr:=run_append_grow (P:=P) w t ty e i z ht hi hz ad0 0 c [] (by simp) (λj q hq=>by simp at hq) ad x.len c' news hnl (λj q hq=>hu4' ad j q rfl hq) (by omega) (by omega) (growslice_fits (by omega) (by rw[Nat.zero_add];exact hb));have hge:=grownCap_ge w (0+x.len) c e;obtain⟨M',β',hS⟩:=fresh (grownCap w (0+x.len) c e) (Builtin.zeroCells z.cells (grownCap w (0+x.len) c e-(0+x.len))).toList (by omega) (by rw[List.length_append,zlen,hnl,<-Nat.add_mul];exact Nat.mul_le_mul_right _ (by omega));refine⟨_,_,M',β',by rw[hv,hu1''];exact hr,?_⟩;have e0:([]:List Value).toArray++news.toArray=news.toArray:=by apply Array.ext';simp
  rw[e0,toA];simpa using hS
 rcases ht0 with⟨a0,h1⟩|⟨g,c1,cur,h1,h2,h3,h4,h5,h6,h7⟩
 ·rw[hs0]at h1;cases a0 with
  |some ad0=>exact grow ad0 0 h1 (by omega)
  |none=>
   have hr:=run_append_nil (P:=P) w t ty e i z ht hi hz ad x.len c' news hnl (λj q hq=>hu4' ad j q rfl hq) (by omega) (by omega) (Nat.le_trans hb (by decide));have hge:=grownCap_ge w x.len 0 e;obtain⟨M',β',hS⟩:=fresh (grownCap w x.len 0 e) (Builtin.zeroCells z.cells (grownCap w x.len 0 e-x.len)).toList hge (by rw[List.length_append,zlen,hnl,<-Nat.add_mul];exact Nat.mul_le_mul_right _ (by omega));refine⟨_,_,M',β',by rw[h1,hu1''];exact hr,?_⟩;rw[toA];exact hS
 ·rw[hs0]at h1 h3;rw[hse]at h4;rw[hss]at h7;rw[Nat.zero_mul]at h3;by_cases hroom:0+x.len<=c1+1
  ·have hfit:0*i.size+news.length<=cur.size:=by rw[hnl,h7,Nat.zero_mul,Nat.zero_add];exact Nat.mul_le_mul_right _ (by omega)
   have hrr:=run_append_room (P:=P) w t ty e i ht hi g 0 (c1+1) cur h4 ad x.len c' news hnl (λj q hq=>hu4' ad j q rfl hq) hu5' hroom hfit;have htb:tb v=some g:=by rw[h1];exact A8c (by omega)
   have hno':∀key s' v',P5 H O w β key s' v'->tb v'≠some g:=λkey s' v' ho=>hno key s' v' g ho htb;have hbox':∀d n,β d≠some (g,n):=λd n=>hbox g d n htb;rw[Nat.zero_mul,Nat.zero_add,List.take_zero,List.nil_append,Nat.zero_add]at hrr;obtain⟨hE,hS,hRR,hOO⟩:=h.rowWrite g 0 0 cur (news++cur.toList.drop news.length).toArray e h2 h3 (Nat.le_refl _) h4 (by simp only[List.size_toArray,List.length_append,List.length_drop,Array.length_toList];omega) (λj hj=>by omega) hbox' hno';have hh:=setRow_heap w g cur (news++cur.toList.drop news.length).toArray e (0,0) h4;obtain⟨M',β',hS'⟩:=fin _ _ g (c1+1) (cur.toList.drop news.length) hRR hS h2 (by simp) hbox' (λkey s v ho=>hno' key s v (hOO key s v ho)) hh (by omega) (by rw[<-h7];simp only[List.length_append,List.length_drop,Array.length_toList];omega);exact⟨_,_,M',β',by rw[h1,hu1''];exact hrr,hS'⟩
  ·exact grow _ _ h1 hroom
end
end Go.Proofs.YtgacplpjamkieaaGreat.Ev
namespace Go.Proofs.YtgacplpjamkieaaGreat.Ev
open Go Go.RowKit
theorem Qh.get{r s:List PV}(h:Qh r s):r.length=s.length/\∀(j:Nat) (q:PV),s[j]? =some q->∃p,r[j]? =some p/\PV.Le p q:=by
 induction h with
 |nil=>exact⟨rfl,λj q hq=>by simp at hq⟩
 |cons h hr ih=>
  refine⟨by simp[ih.1],λj q hq=>?_⟩;cases j with
  |zero=>simp at hq;subst hq;exact⟨_,rfl,h⟩
  |succ j=>simpa using ih.2 j q (by simpa using hq)
section
variable {ι :Type} {cx: ι->PV×Value} {P:Program} {w0:D7} {w:World} {N M:Jw} {β :Kh} {nt:Nat} {st:St} {a:Act} {o:Oper} {δ :B2} {K:Act->World->Prop} {Q:Exit->Act->World->Prop} {ban:List Nat}
theorem L4{v:Value}{w':World}(h:(execOp a.eval o).run P w=.ok (.value v) w')(hk:K (a.put o.dst v) w'):o.wp P a w K Q:=by
 unfold Oper.wp;rw[h];exact hk
theorem A8g{w':World}(h:(execOp a.eval o).run P w=.ok .skip w')(hk:K (a.put o.dst undef) w'):o.wp P a w K Q:=by
 unfold Oper.wp;rw[h];exact hk
def E9{ι :Type}(cx: ι->PV×Value)(P:Program)(w0:D7)(N:Jw)(nt:Nat)(st:St)(a:Act)(w:World)(o:Oper)(δ :B2):Prop:=
 ∀(K:Act->World->Prop) (Q:Exit->Act->World->Prop),(∀a' w' M' β',SR cx w0 N nt (st.app δ) a' w' M' β'->K a' w')->o.wp P a w K Q
theorem E9.of_eq{δ':B2}(h:E9 cx P w0 N nt st a w o δ)(e: δ = δ'):E9 cx P w0 N nt st a w o δ':=e ▸ h
theorem C1(h:SR cx w0 N nt st a w M β)(hd:∀x,o.dst=some x->x<nt)(p:PV)(v:Value)(w':World)(hb:Below w.heap.size w w')(hrun:(execOp a.eval o).run P w=.ok (.value v) w')
  (hr:Bk w' M β w0.old p v)(hn:∀s,p.dQ=some s->s.own=false):E9 cx P w0 N nt st a w o (dput o.dst p):=
 λK Q hK=>L4 hrun (hK _ _ _ _ ((h.world hb).dput o.dst p v hd hr hn))
theorem I6(h:SR cx w0 N nt st a w M β)(hd:∀x,o.dst=some x->x<nt){d:Nat}(hdst:o.dst=some d){p:PV}{v:Value}{w':World}{M':Jw}{β':Kh}{st0:St}{O:Nat->List PV}{D:Nat->Bool}
  (hS:SH (H2 (p,v) (hold cx st0 a)) w0 N O D w' M' β')(hrun:(execOp a.eval o).run P w=.ok (.value v) w'){δ :B2}
  (hg:∀s,(st.app δ).get s=if d=s then p else st0.get s)(hO:∀x,(st.app δ).obj x=O x)(hD:∀x,Ar x ((st.app δ).ob.map Prod.fst)=true->D x=true):E9 cx P w0 N nt st a w o δ :=
 λK Q hK=>L4 hrun (by rw[hdst];exact hK _ _ _ _ (SR.of_cons h.defs h.nt (hd d hdst) hS hg hO hD))
theorem Y9(st:St)(d s t:Nat)(p q:PV):(st.app ⟨[(d,p),(s,q)],[]⟩).get t=if d=t then p else(st.app ⟨[(s,q)],[]⟩).get t:=B3 _ _ _ _ _
theorem Hx{p:PV}(h:p.dQ=none):∀s,p.dQ=some s->s.own=false:=λs hs=>by rw[h]at hs;cases hs
theorem Va(p:PV):∀s,p.view.dQ=some s->s.own=false:=λs hs=>Jx hs
theorem Xu(g:Bool)(l:List PV):∀s,(V2 g l).dQ=some s->s.own=false:=by
 intro s h;cases g with
 |true=>cases h
 |false=>
  match l,h with
  | [],h=>cases h
  | [p],h=>exact Jx h
  |p::q::r,h=>cases h
theorem Auv(h:SR cx w0 N nt st a w M β)(hd:∀x,o.dst=some x->x<nt)(x:Operand)(hrun:∀w,(execOp a.eval o).run P w=.ok (.value (a.eval x)) w):
  E9 cx P w0 N nt st a w o (dput o.dst (st.aM x).view):=
 C1 h hd _ _ w (Below.refl _ _) (hrun w) (h.aM x).view (Va _)
theorem Hl{a:Option Addr}{n g:Nat} :tb (.slice a n 0)≠some g:=by cases a<;>(intro h;cases h)
theorem A1y(h:SR cx w0 N nt st a w M β)(hd:∀x,o.dst=some x->x<nt)(e:Nat)(x:LX)(d:Nat)(hdst:o.dst=some d)(hx:LX.nil e=some x)
  (hrun:(execOp a.eval o).run P w=.ok (.value (.slice none 0 0)) w):E9 cx P w0 N nt st a w o ⟨[(d,.aO true x)],[]⟩:=by
 have hn:=(LX.nil_spec e x hx).2;refine I6 h hd hdst (st0:=st) (h.sh.cons (.aO true x) _ (Bk.le (.nil true x hn) (.val _ rfl)) (λs h1 h2=>?_)) hrun (λs=>Gc st d s _) (λ_=>rfl) (λ_ h=>h);injection h1 with h1;subst h1
 exact⟨.z rfl hn,λkey s' v' g _ hg=>absurd hg Hl,λg d n hg=>absurd hg Hl⟩
theorem Anc(h:SR cx w0 N nt st a w M β)(hd:∀x,o.dst=some x->x<nt)(s d:Nat)(hdst:o.dst=some d)(hrun:∀w,(execOp a.eval o).run P w=.ok (.value (a.eval (.tmp s))) w):
  E9 cx P w0 N nt st a w o ⟨[(d,st.get s),(s,(st.get s).view)],[]⟩:=by
 refine I6 h hd hdst (st0:=st.app ⟨[(s,(st.get s).view)],[]⟩) ((h.drop s).sh.cons (st.get s) (a.eval (.tmp s)) (h.reg s) (λsv h1 h2=>?_)) (hrun w) (λt=>Y9 st d s t _ _) (λ_=>rfl) (λ_ h=>h);have ho:=Aug (cx:=cx) (w:=w) (β := β) (a:=a) (O:=st.obj) h1 h2;refine⟨h.sh.tok _ _ _ ho,λkey s' v' g hk hg=>?_,λg x n hg=>h.sh.bH _ _ _ g x n ho hg⟩;obtain⟨q1,q2⟩:=Zk hk;exact h.sh.bX _ _ _ _ _ _ g ho q1 (λe=>q2 e.symm) hg
theorem Dm(st:St)(s:List (Nat×PV))(d:Nat)(l:List PV)(t:Nat):(st.app ⟨s,[(d,l)]⟩).obj t=if d=t then l else st.obj t:=B3 _ _ _ _ _
theorem Agt(h:SR cx w0 N nt st a w M β)(hd:∀x,o.dst=some x->x<nt)(d id n:Nat)(hdst:o.dst=some d)(l:List PV)(ob:Obj)(p:PV)(v:Value)(hnew:Ar id (st.ob.map Prod.fst)=true)
  (hp:p.dQ=none)(hrel:∀(W:World) (M':Jw) (β':Kh),W=w.alloc ob->β' id=some (w.heap.size,n)->Bk W M' β' w0.old p v)
  (hown:∀(i:Nat) (p:PV) (s:SV),l[i]? =some p->p.sv=some s->s.own=true->∀v,(w.alloc ob).cell? ⟨w.heap.size,i,none⟩=some v->s.n=0/\∃a,v=.slice a 0 0)
  (hobj:∀(M':Jw) (β':Kh),(∀p v,Bk w M β w0.old p v->Bk (w.alloc ob) M' β' w0.old p v)->β' id=some (w.heap.size,n)->Jr (w.alloc ob) M' β' w0.old w.heap.size n l)
  (hrun:(execOp a.eval o).run P w=.ok (.value v) (w.alloc ob)):E9 cx P w0 N nt st a w o ⟨[(d,p)],[(id,l)]⟩:=by
 obtain⟨M',β',hS,hb,_⟩:=h.sh.alloc (O':=(st.app ⟨[(d,p)],[(id,l)]⟩).obj) (D':=λx=>Ar x (id::st.ob.map Prod.fst)) id n l ob hnew (by rw[Dm,if_pos rfl]) (λx hx=>by rw[Dm,if_neg (λe=>hx e.symm)])
  (λx hx=>by
   have hx':=(Be _ _).1 hx;exact⟨(Be _ _).2 (λhm=>hx' (List.mem_cons_of_mem _ hm)),λe=>hx' (by simp[e])⟩) hown hobj
 exact I6 h hd hdst (st0:=st) (hS.cons p v (hrel _ _ _ rfl hb) (λs h1 _=>by rw[hp]at h1;cases h1)) hrun (λs=>B3 _ _ _ _ _) (λ_=>rfl) (λ_ h=>h)
theorem Asn(h:SR cx w0 N nt st a w M β)(hd:∀x,o.dst=some x->x<nt)(d id:Nat)(hdst:o.dst=some d)(l:List PV)(cs:Array Value)(t:Nat)
  (hnew:Ar id (st.ob.map Prod.fst)=true)(hl:RC w M β w0.old l cs)(hown:∀(i:Nat) (p:PV) (s:SV) (v:Value),l[i]? =some p->p.sv=some s->s.own=true->cs[i]? =some v->s.n=0/\∃a,v=.slice a 0 0)
  (hrun:(execOp a.eval o).run P w=.ok (.value (.pointer (some ⟨w.heap.size,0,none⟩))) (w.alloc (.cells cs t))):
  E9 cx P w0 N nt st a w o ⟨[(d,.loc id 0)],[(id,l)]⟩:=by
 have hh:=heap_alloc_new w (.cells cs t);refine Agt h hd d id 0 hdst l (.cells cs t) (.loc id 0) _ hnew rfl (λW M' β' _ hb=>.loc id 0 _ _ hb) (λi p s hp hs ho v hv=>?_) (λM' β' hR hb=>?_) hrun
 ·rw[World.cell?,hh]at hv;exact hown i p s v hp hs ho hv
 ·exact .cells l cs t hh (Nat.le_of_eq hl.1) (λi p v hp hv=>⟨hR _ _ (hl.2 i p v hp hv).1,(hl.2 i p v hp hv).2⟩)
theorem Anb(h:SR cx w0 N nt st a w M β)(hd:∀x,o.dst=some x->x<nt)(t sz:Nat)(x:Operand)(d:TypeDesc)(ho:o.op=.load t x)(hu:P.underlying t=some d)(hs:szT P t=some sz)
  (hsz:Et P t=false->sz=1)(ad:Addr)(l:List PV)(hv:a.eval x=.pointer (some ad))(hc:Qy w M β w0.old ad l)(hl:l.length=sz):
  E9 cx P w0 N nt st a w o (dput o.dst (V2 (Et P t) l)):=by
 obtain⟨v,hrun,hr⟩:=A20 (B:=w0.old) hu hs hsz hl hc;refine C1 h hd _ v w (Below.refl _ _) ?_ hr (Xu _ _);simp only[execOp,ho,hv,Instr.loadAt,Instr.sureAddr,Sem.run_bind,Sem.run_pure,Result.andThen_ok];rw[hrun];rfl
theorem A0k(h:SR cx w0 N nt st a w M β){d b n i off:Nat}{x:LX}(hβ : β d=some (b,n))(hi:i<n)(ho:st.obj d= [.bG x]):Qy w M β w0.old ⟨b,i*x.sz+off,none⟩ ((x.row i).drop off):=by
 intro j p hp;obtain⟨_,_,h3⟩:=h.sh.box d b n hβ;obtain⟨cs,t,q1,q2,q3,q4⟩:=Aqz h3 ho;rw[List.getElem?_drop]at hp;have hlt:=(List.getElem?_eq_some_iff.1 hp).1;rw[LX.row_len]at hlt;have hm:(i+1)*x.sz<=n*x.sz:=Nat.mul_le_mul_right _ hi;rw[Nat.add_mul,Nat.one_mul]at hm;have hv:cs[i*x.sz+(off+j)]? =some (cs[i*x.sz+(off+j)]'(by omega)):=Array.getElem?_eq_getElem (by omega);refine⟨_,?_,q4 i (off+j) p _ hi hp hv⟩;rw[m7,World.cell?,q1,Nat.add_assoc];exact hv
theorem Am1{t sz b off ty:Nat}{ad x:Operand}{cs:Array Value}(ho:o.op=.store t ad x)(hsz:szT P t=some sz)(hv:a.eval ad=.pointer (some ⟨b,off,none⟩))(hh:w.heap[b]? =some (.cells cs ty (0,0)))
  (hl:(a.eval x).cells.toList.length=sz)(hfit:off+sz<=cs.size)(h1:∀u∈(a.eval x).cells.toList,u.oneCell'=true):
  (execOp a.eval o).run P w=.ok .skip (w.setRow b (cs.toList.take off++(a.eval x).cells.toList++cs.toList.drop (off+(a.eval x).cells.toList.length)).toArray):=by
 obtain⟨i,hi,his⟩:=Abp hsz;have hrun:=run_storeCells_at P b off ty (a.eval x).cells.toList 0 cs w hh (by rw[hl];simpa using hfit) h1;simp only[Nat.add_zero]at hrun;have hsize:(a.eval x).cells.size=i.size:=by rw[his,<-hl];simp
 simp only[execOp,ho,hv,Instr.storeAt,Instr.sureAddr,storeVar,sizeOf,typeInfo,Sem.run_bind,Sem.run_pure,Result.andThen_ok,run_program,hi];simp only[hsize,ne_eq,not_true_eq_false,if_false,Sem.run_bind,Sem.run_pure,Result.andThen_ok];rw[hrun];rfl
theorem Ak6(hdst:o.dst=none){w':World}{M':Jw}{β':Kh}(hrun:(execOp a.eval o).run P w=.ok .skip w')(hS:SR cx w0 N nt (st.app δ) a w' M' β'):E9 cx P w0 N nt st a w o δ :=
 λK Q hK=>A8g hrun (by rw[hdst];exact hK _ _ _ _ hS)
theorem F4{B:Nat->Prop}{b n:Nat}{l:List PV}(h:Jr w M β B b n l)(hp:Er l=true):∃cs t,w.heap[b]? =some (.cells cs t (0,0))/\l.length<=cs.size/\
  ∀(i:Nat) (p:PV) (v:Value),l[i]? =some p->cs[i]? =some v->Bk w M β B p v/\v.oneCell'=true:=by
 cases h with
 |cells l cs t q1 q2 q3=>exact⟨cs,t,q1,q2,q3⟩
 |arr=>cases hp
 |map=>cases hp
 |bV=>cases hp
theorem Auf{p:PV}(h:p.one=true):p.cells= [p]:=by cases p<;>first|rfl|cases h
theorem Bdk{v:Value}(h:v.oneCell'=true):v.cells= #[v]:=by cases v<;>first|rfl|cases h
theorem Uc{b i:Nat}{cs:Array Value}{t:Nat}(h:w.heap[b]? =some (.cells cs t (0,0))):w.cell? ⟨b,i,none⟩=cs[i]? :=by
 rw[World.cell?,h];rfl
theorem Wq(w0:D7)(w:World)(b:Nat)(cs:Array Value)(h:¬w0.old b){cur:Array Value}{t:Nat}(hh:w.heap[b]? =some (.cells cur t (0,0)))(hcz:cur.size<=cs.size):Kp w0 w (w.setRow b cs):=
 ⟨rfl,rfl,rfl,by simp[World.setRow],λk hk=>setRow_other w b k _ (λe=>h (by rw[<-e];exact hk)),Ajx (λk hk=>setRow_other w b k _ hk) (by rw[Vg hh,Vg (setRow_heap w b cur cs t (0,0) hh)];exact hcz)⟩
theorem Azz(h:SR cx w0 N nt st a w M β)(ad x:Operand)(t sz b off:Nat)(ho:o.op=.store t ad x)(hsz:szT P t=some sz)(hst:st.aM ad=.loc b off)
  (g1:Qm (st.aM x).cells sz=true)(g2:Sx (st.aM x).cells=true)(g3:Mj (st.obj b) (off+sz)=true)(g4:Er (st.obj b)=true)(hne:st.obj b≠ []):
  ∃w',(execOp a.eval o).run P w=.ok .skip w'/\SR cx w0 N nt (st.app ⟨[],[(b,Hy (st.obj b) off ((st.aM x).cells.map PV.view))]⟩) a w' M β/\
   ∃bb n,β b=some (bb,n)/\∀(j:Nat) (u:Value),(a.eval x).cells.toList[j]? =some u->w'.cell? ⟨bb,off+j,none⟩=some u:=by
 have e1:=(W1 _ _).1 g1;have e2:=(L6 _ _).1 g3;obtain⟨c1,c2⟩:=Tg (h.aM x) g2;have hp:=h.aM ad;rw[hst]at hp;obtain⟨bb,n,hb,hv⟩:=Vh hp;obtain⟨hb1,hb2,hb3⟩:=h.sh.box b bb n hb;have e0:((st.aM x).cells.map PV.view).length=sz:=by rw[List.length_map,e1]
 have hvl:(a.eval x).cells.toList.length=sz:=by rw[c1,e0]
 have ho1:∀u∈(a.eval x).cells.toList,u.oneCell'=true:=by
  intro u hu;obtain⟨j,hj,rfl⟩:=List.getElem_of_mem hu;exact(c2 j _ _ (List.getElem?_eq_getElem (by omega)) (List.getElem?_eq_getElem hj)).2
 obtain⟨cs,ty,q1,q2,q3⟩:=F4 hb3 g4;have hrun:=Am1 (P:=P) ho hsz hv q1 hvl (by omega) ho1;have hw1:(w.setRow bb (cs.toList.take off++(a.eval x).cells.toList++cs.toList.drop (off+(a.eval x).cells.toList.length)).toArray).heap[bb]? =_:=setRow_heap w bb cs _ ty (0,0) q1;have hmid:∀i,(cs.toList.take off++(a.eval x).cells.toList++cs.toList.drop (off+(a.eval x).cells.toList.length))[i]? =_:=λi=>Awb cs.toList off (a.eval x).cells.toList (by rw[hvl];simpa using(by omega)) i;obtain⟨hS,_⟩:=h.sh.setObj (O':=(st.app ⟨[],[(b,Hy (st.obj b) off ((st.aM x).cells.map PV.view))]⟩).obj) b bb n hb hne (Hy (st.obj b) off ((st.aM x).cells.map PV.view))
  (λ_ _ _=>⟨_,_,hw1⟩) (by rw[Dm,if_pos rfl]) (λy hy=>by rw[Dm,if_neg (λe=>hy e.symm)]) (w':=w.setRow bb (cs.toList.take off++(a.eval x).cells.toList++cs.toList.drop (off+(a.eval x).cells.toList.length)).toArray)
  (λk hk=>setRow_other w bb k _ hk) (by simp[World.setRow]) (Wq w0 w bb _ hb1 q1 (by simp only[List.size_toArray,List.length_append,List.length_take,List.length_drop,Array.length_toList];omega))
  (λhR=>.cells _ _ ty hw1 (by rw[I5];simp only[List.size_toArray,List.length_append,List.length_take,List.length_drop,Array.length_toList];rw[Array.length_toList]at hvl;omega) (λi p v hp hv=>by
   rw[U6 _ _ _ _ (by omega)]at hp;simp only[List.getElem?_toArray]at hv;rw[hmid]at hv;by_cases hi:off<=i/\i<off+((st.aM x).cells.map PV.view).length
   ·rw[if_pos hi]at hp;rw[if_pos ⟨hi.1,by omega⟩]at hv;exact⟨hR _ _ (c2 _ p v hp hv).1,(c2 _ p v hp hv).2⟩
   ·rw[if_neg hi]at hp;rw[if_neg (by omega)]at hv;have hv':cs[i]? =some v:=by simpa using hv
    exact⟨hR _ _ (q3 i p v hp hv').1,(q3 i p v hp hv').2⟩))
  (λi p s v hp hs ho' hv=>by
   rw[U6 _ _ _ _ (by omega)]at hp;by_cases hi:off<=i/\i<off+((st.aM x).cells.map PV.view).length
   ·rw[if_pos hi]at hp;obtain⟨p',_,rfl⟩:=F8 hp;rw[Abq hs]at ho';cases ho'
   ·rw[if_neg hi]at hp;refine .inl ⟨⟨p,hp,hs⟩,?_⟩;rw[Uc hw1,List.getElem?_toArray,hmid,if_neg (by omega)]at hv;rw[Uc q1];simpa using hv)
 refine⟨_,hrun,⟨h.defs,h.nt,?_⟩,bb,n,hb,λj u hu=>?_⟩
 ·refine hS.perm (λk=>hS.reg k) (λd b n hd=>(hS.box d b n hd).2.2) (λy hy=>h.sh.dom y ?_) some (λkey s v ho=>⟨key,rfl,ho⟩) (λk k' j h1 h2=>by injection h1 with h1;injection h2 with h2;rw[h1,h2]);have hy':=(Be _ _).1 hy;exact(Be _ _).2 (λhm=>hy' (List.mem_cons_of_mem _ hm))
 ·have hj:=(List.getElem?_eq_some_iff.1 hu).1;rw[Uc hw1,List.getElem?_toArray,hmid,if_pos ⟨by omega,by omega⟩,show off+j-off=j by omega];exact hu
theorem At8:∀(os ps:List PV),(Xp os ps).length=ps.length
 |_,[]=>by cases ‹List PV› <;>rfl
 | [],p::ps=>rfl
 |o::os,p::ps=>by rw[Xp,List.length_cons,List.length_cons,At8 os ps]
theorem A62(o p:PV):A2v o p=p\/(p=.val (.slice none 0 0)/\∃y,A2v o p=.aO true y/\y.len=0):=by
 unfold A2v;split
 ·rename_i y;split
  ·rename_i hb;exact .inr ⟨rfl,y,rfl,Nat.eq_of_beq_eq_true hb⟩
  ·exact .inl rfl
 ·exact .inl rfl
theorem Al8:∀(os ps:List PV) (i:Nat) (p':PV),(Xp os ps)[i]? =some p'->∃p,ps[i]? =some p/\(p'=p\/(p=.val (.slice none 0 0)/\∃y,p'=.aO true y/\y.len=0))
 |os,[],i,p',h=>by cases os<;>simp[Xp]at h
 | [],p::ps,i,p',h=>⟨p',h,.inl rfl⟩
 |o::os,p::ps,0,p',h=>by
  simp only[Xp,List.getElem?_cons_zero,Option.some.injEq]at h;refine⟨p,rfl,?_⟩;rcases A62 o p with e|⟨e1,y,e2,e3⟩
  ·exact .inl (h.symm.trans e)
  ·exact .inr ⟨e1,y,h.symm.trans e2,e3⟩
 |o::os,p::ps,i+1,p',h=>by
  obtain⟨q,h1,h2⟩:=Al8 os ps i p' (by simpa[Xp]using h);exact⟨q,by simpa using h1,h2⟩
theorem Az0(h:SR cx w0 N nt st a w M β)(ad x:Operand)(t sz b off:Nat)(ho:o.op=.store t ad x)(hsz:szT P t=some sz)(hst:st.aM ad=.loc b off)
  (g1:Qm (st.aM x).cells sz=true)(g2:Sx (st.aM x).cells=true)(g3:Mj (st.obj b) (off+sz)=true)(g4:Awp (st.obj b)=true):
  ∃w',(execOp a.eval o).run P w=.ok .skip w'/\SR cx w0 N nt (st.app ⟨[],[(b,Hy (st.obj b) off (Xp ((st.obj b).drop off) ((st.aM x).cells.map PV.view)))]⟩) a w' M β :=by
 obtain⟨g4,hne⟩:=Azc g4;have e1:=(W1 _ _).1 g1;have e2:=(L6 _ _).1 g3;obtain⟨c1,c2⟩:=Tg (h.aM x) g2;have hp:=h.aM ad;rw[hst]at hp;obtain⟨bb,n,hb,hv⟩:=Vh hp;obtain⟨hb1,hb2,hb3⟩:=h.sh.box b bb n hb;have e0:((st.aM x).cells.map PV.view).length=sz:=by rw[List.length_map,e1]
 have e9:(Xp ((st.obj b).drop off) ((st.aM x).cells.map PV.view)).length=sz:=by rw[At8,e0]
 have hvl:(a.eval x).cells.toList.length=sz:=by rw[c1,e0]
 have ho1:∀u∈(a.eval x).cells.toList,u.oneCell'=true:=by
  intro u hu;obtain⟨j,hj,rfl⟩:=List.getElem_of_mem hu;exact(c2 j _ _ (List.getElem?_eq_getElem (by omega)) (List.getElem?_eq_getElem hj)).2
 obtain⟨cs,ty,q1,q2,q3⟩:=F4 hb3 g4;have hrun:=Am1 (P:=P) ho hsz hv q1 hvl (by omega) ho1;have hw1:(w.setRow bb (cs.toList.take off++(a.eval x).cells.toList++cs.toList.drop (off+(a.eval x).cells.toList.length)).toArray).heap[bb]? =_:=setRow_heap w bb cs _ ty (0,0) q1;have hmid:∀i,(cs.toList.take off++(a.eval x).cells.toList++cs.toList.drop (off+(a.eval x).cells.toList.length))[i]? =_:=λi=>Awb cs.toList off (a.eval x).cells.toList (by rw[hvl];simpa using(by omega)) i;obtain⟨hS,_⟩:=h.sh.setObj (O':=(st.app ⟨[],[(b,Hy (st.obj b) off (Xp ((st.obj b).drop off) ((st.aM x).cells.map PV.view)))]⟩).obj) b bb n hb hne (Hy (st.obj b) off (Xp ((st.obj b).drop off) ((st.aM x).cells.map PV.view)))
  (λ_ _ _=>⟨_,_,hw1⟩) (by rw[Dm,if_pos rfl]) (λy hy=>by rw[Dm,if_neg (λe=>hy e.symm)]) (w':=w.setRow bb (cs.toList.take off++(a.eval x).cells.toList++cs.toList.drop (off+(a.eval x).cells.toList.length)).toArray)
  (λk hk=>setRow_other w bb k _ hk) (by simp[World.setRow]) (Wq w0 w bb _ hb1 q1 (by simp only[List.size_toArray,List.length_append,List.length_take,List.length_drop,Array.length_toList];omega))
  (λhR=>.cells _ _ ty hw1 (by rw[I5];simp only[List.size_toArray,List.length_append,List.length_take,List.length_drop,Array.length_toList];rw[Array.length_toList]at hvl;omega) (λi p v hp hv=>by
   rw[U6 _ _ _ _ (by omega)]at hp;simp only[List.getElem?_toArray]at hv;rw[hmid]at hv;by_cases hi:off<=i/\i<off+(Xp ((st.obj b).drop off) ((st.aM x).cells.map PV.view)).length
   ·rw[if_pos hi]at hp;rw[if_pos ⟨hi.1,by omega⟩]at hv;obtain⟨p0,hp0,hk⟩:=Al8 _ _ _ _ hp;rcases hk with rfl|⟨rfl,y,rfl,hy⟩
    ·exact⟨hR _ _ (c2 _ _ v hp0 hv).1,(c2 _ _ v hp0 hv).2⟩
    ·exact⟨(hR _ _ (c2 _ _ v hp0 hv).1).le (.nil true y hy),(c2 _ _ v hp0 hv).2⟩
   ·rw[if_neg hi]at hp;rw[if_neg (by omega)]at hv;have hv':cs[i]? =some v:=by simpa using hv
    exact⟨hR _ _ (q3 i p v hp hv').1,(q3 i p v hp hv').2⟩))
  (λi p s v hp hs ho' hv=>by
   rw[U6 _ _ _ _ (by omega)]at hp;by_cases hi:off<=i/\i<off+(Xp ((st.obj b).drop off) ((st.aM x).cells.map PV.view)).length
   ·rw[if_pos hi]at hp;obtain⟨p0,hp0,hk⟩:=Al8 _ _ _ _ hp;rcases hk with rfl|⟨rfl,y,rfl,hy⟩
    ·obtain⟨p',_,rfl⟩:=F8 hp0;rw[Abq hs]at ho';cases ho'
    ·rw[Uc hw1,List.getElem?_toArray,hmid,if_pos ⟨hi.1,by omega⟩]at hv;injection hs with hs
     subst hs;exact .inr ⟨hy,none,(c2 _ _ v hp0 hv).1.val_eq⟩
   ·rw[if_neg hi]at hp;refine .inl ⟨⟨p,hp,hs⟩,?_⟩;rw[Uc hw1,List.getElem?_toArray,hmid,if_neg (by omega)]at hv;rw[Uc q1];simpa using hv)
 refine⟨_,hrun,⟨h.defs,h.nt,?_⟩⟩;refine hS.perm (λk=>hS.reg k) (λd b n hd=>(hS.box d b n hd).2.2) (λy hy=>h.sh.dom y ?_) some (λkey s v ho=>⟨key,rfl,ho⟩) (λk k' j h1 h2=>by injection h1 with h1;injection h2 with h2;rw[h1,h2]);have hy':=(Be _ _).1 hy;exact(Be _ _).2 (λhm=>hy' (List.mem_cons_of_mem _ hm))
theorem Ak9(h:SR cx w0 N nt st a w M β)(ad x:Operand)(t sz b i off:Nat)(y y':LX)(c:List PV)(ho:o.op=.store t ad x)(hsz:szT P t=some sz)(hst:st.aM ad=.el b y.sz i off)
  (hc:c=(st.aM x).cells.map PV.view)(g1:Qm (st.aM x).cells sz=true)(g2:Sx (st.aM x).cells=true)(g3:st.obj b= [.bG y])(g4:LX.set y i off c=some y'):
  ∃w',(execOp a.eval o).run P w=.ok .skip w'/\SR cx w0 N nt (st.app ⟨[],[(b,[.bG y'])]⟩) a w' M β :=by
 have e1:=(W1 _ _).1 g1;obtain⟨c1,c2⟩:=Tg (h.aM x) g2;rw[<-hc]at c1 c2;obtain⟨s1,s2,s3,s4,s5,s6⟩:=LX.set_spec y i off c y' g4;have hp:=h.aM ad;rw[hst]at hp;obtain⟨bb,n,hb,hin,hv⟩:=Ax2 hp;obtain⟨hb1,hb2,hb3⟩:=h.sh.box b bb n hb;have e0:c.length=sz:=by rw[hc,List.length_map,e1]
 have hvl:(a.eval x).cells.toList.length=sz:=by rw[c1,e0]
 have ho1:∀u∈(a.eval x).cells.toList,u.oneCell'=true:=by
  intro u hu;obtain⟨j,hj,rfl⟩:=List.getElem_of_mem hu;exact(c2 j _ _ (List.getElem?_eq_getElem (by omega)) (List.getElem?_eq_getElem hj)).2
 obtain⟨cs,ty,q1,q2,q3,q4⟩:=Aqz hb3 g3;have hm:(i+1)*y.sz<=n*y.sz:=Nat.mul_le_mul_right _ hin;rw[Nat.add_mul,Nat.one_mul]at hm;have hrun:=Am1 (P:=P) ho hsz hv q1 hvl (by omega) ho1;have hw1:(w.setRow bb (cs.toList.take (i*y.sz+off)++(a.eval x).cells.toList++cs.toList.drop (i*y.sz+off+(a.eval x).cells.toList.length)).toArray).heap[bb]? =_:=setRow_heap w bb cs _ ty (0,0) q1;have hmid:∀k,(cs.toList.take (i*y.sz+off)++(a.eval x).cells.toList++cs.toList.drop (i*y.sz+off+(a.eval x).cells.toList.length))[k]? =_:=λk=>Awb cs.toList (i*y.sz+off) (a.eval x).cells.toList (by rw[hvl];simpa using(by omega)) k;have hl:=(s5 (by omega)).get;obtain⟨hS,_⟩:=h.sh.setObj (O':=(st.app ⟨[],[(b,[.bG y'])]⟩).obj) b bb n hb (by rw[g3];simp) [.bG y']
  (λ_ _ _=>⟨_,_,hw1⟩) (by rw[Dm,if_pos rfl]) (λz hz=>by rw[Dm,if_neg (λe=>hz e.symm)]) (w':=w.setRow bb (cs.toList.take (i*y.sz+off)++(a.eval x).cells.toList++cs.toList.drop (i*y.sz+off+(a.eval x).cells.toList.length)).toArray)
  (λk hk=>setRow_other w bb k _ hk) (by simp[World.setRow]) (Wq w0 w bb _ hb1 q1 (by simp only[List.size_toArray,List.length_append,List.length_take,List.length_drop,Array.length_toList];omega))
  (λhR=>.arr y' _ ty hw1 (by rw[s3,q2]) (by rw[s2];simp only[List.size_toArray,List.length_append,List.length_take,List.length_drop,Array.length_toList];rw[Array.length_toList]at hvl;omega) (λi' j p v hi' hq hv=>by
   simp only[List.getElem?_toArray]at hv;rw[hmid,s2]at hv;have hj:j<y.sz:=by have:=(List.getElem?_eq_some_iff.1 hq).1;rw[LX.row_len,s2]at this;exact this
   by_cases hii:i'=i
   ·rw[hii]at hq hv hi';obtain⟨p0,hp0,hle⟩:=hl.2 j p hq;rw[U6 _ _ _ _ (by rw[LX.row_len];omega)]at hp0;by_cases hr:off<=j/\j<off+c.length
    ·rw[if_pos hr]at hp0;rw[if_pos ⟨by omega,by omega⟩,show i*y.sz+j-(i*y.sz+off)=j-off by omega]at hv;exact⟨(hR _ _ (c2 _ p0 v hp0 hv).1).le hle,(c2 _ p0 v hp0 hv).2⟩
    ·rw[if_neg hr]at hp0;rw[if_neg (by omega)]at hv;have hv':cs[i*y.sz+j]? =some v:=by simpa using hv
     exact⟨(hR _ _ (q4 i j p0 v hi' hp0 hv').1).le hle,(q4 i j p0 v hi' hp0 hv').2⟩
   ·rw[s6 i' hii]at hq;have hne:¬(i*y.sz+off<=i'*y.sz+j/\i'*y.sz+j<i*y.sz+off+(a.eval x).cells.toList.length):=by
     rintro ⟨h1,h2⟩
     rcases Nat.lt_or_ge i' i with hlt|hge
     ·have hm2:(i'+1)*y.sz<=i*y.sz:=Nat.mul_le_mul_right _ hlt;rw[Nat.add_mul,Nat.one_mul]at hm2;omega
     ·have hm2:(i+1)*y.sz<=i'*y.sz:=Nat.mul_le_mul_right _ (by omega);rw[Nat.add_mul,Nat.one_mul]at hm2;omega
    rw[if_neg hne]at hv;have hv':cs[i'*y.sz+j]? =some v:=by simpa using hv
    exact⟨hR _ _ (q4 i' j p v hi' hq hv').1,(q4 i' j p v hi' hq hv').2⟩))
  (λk p s v hp hs ho' hv=>by
   cases k with
   |zero=>simp at hp;subst hp;cases hs
   |succ k=>simp at hp)
 refine⟨_,hrun,⟨h.defs,h.nt,?_⟩⟩;refine hS.perm (λk=>hS.reg k) (λd b n hd=>(hS.box d b n hd).2.2) (λz hz=>h.sh.dom z ?_) some (λkey s v ho=>⟨key,rfl,ho⟩) (λk k' j h1 h2=>by injection h1 with h1;injection h2 with h2;rw[h1,h2]);have hz':=(Be _ _).1 hz;exact(Be _ _).2 (λhm=>hz' (List.mem_cons_of_mem _ hm))
end
section
variable {κ :Type} {H: κ->PV×Value} {P:Program} {w0:D7} {w:World} {N M:Jw} {β :Kh} {O:Nat->List PV} {D:Nat->Bool}
theorem Am0(w:World)(t ty e:TypeId)(i:TypeInfo)(ht:P.underlying t=some (.slice e))(hi:P.info? e=some i)
  (g sLen sCap tt:Nat)(cur:Array Value)(hg:w.heap[g]? =some (.cells cur tt (0,0)))
  (a:Addr)(m c:Nat)(news:List Value)(hl:news.length=m*i.size)(hnews:∀j u,news[j]? =some u->w.cell? (a.add j)=some u)(h1:∀u∈news,u.oneCell'=true)
  (hroom:sLen+m<=sCap)(hfit:sLen*i.size+news.length<=cur.size):
  (Builtin.append_ #[t,t] ty #[.slice (some ⟨g,0,none⟩) sLen sCap,.slice (some a) m c]).run P w=
   .ok (.slice (some ⟨g,0,none⟩) (sLen+m) sCap) (w.setRow g (cur.toList.take (sLen*i.size)++news++cur.toList.drop (sLen*i.size+news.length)).toArray):=by
 have hf:=run_firstCells_some (P:=P) w i.size m a m c news hl hnews;have hst:=run_storeCells_at P g (sLen*i.size) tt news 0 cur w hg (by simpa using hfit) h1;simp only[Nat.add_zero]at hst;simp[Builtin.append_,run_underlying ht,sizeOf,typeInfo,hi,Builtin.lenOf,hroom,hf,Addr.add_lit,hst]
theorem A4i{O':Nat->List PV}{D':Nat->Bool}(h:SH H w0 N O D w M β)(t ty e:Nat)(i:TypeInfo)(z:Value)(ht:P.underlying t=some (.slice e))(hi:P.info? e=some i)(hz:i.zero=some z)
  (hzs:z.cells.size=i.size)(hpos:1<=i.size){own:Bool}{y q r:LX}(hcat:LX.cat y q=some r)(hys:i.size=y.sz)
  {b bb c n:Nat}(hβ : β b=some (bb,n))(hOb:O b= [.bG y])(hnc:n<=c)(hcz:c*i.size<=dH w bb){xv:Value}(hx:Bk w M β w0.old (.aO own q) xv)
  (hb:(y.len+q.len)*i.bytes<=140737488355328)(hm:y.len+q.len<=maxLen)
  {d:Nat}(hnew:D d=true)(hdb:d≠b)(hO1:O' d= [.bG r])(hO0:O' b= [])(hO2:∀x,x≠d->x≠b->O' x=O x)(hD:∀x,D' x=true->D x=true/\x≠d):
  ∃v' w' M' β',(Builtin.append_ #[t,t] ty #[.slice (some ⟨bb,0,none⟩) n c,xv]).run P w=.ok v' w'/\SH (H2 (.vw false d e i.size r.len,v') H) w0 N O' D' w' M' β':=by
 obtain⟨c1,c2,c3,c4,c5,c6,c7⟩:=LX.cat_spec y q r hcat;obtain⟨hb1,hb2,hb3⟩:=h.box b bb n hβ;rw[hOb]at hb3;obtain⟨cs,tt,q1,q2,q3,q4⟩:=Aqz hb3 rfl;rw[Vg q1]at hcz;subst q2;obtain⟨A',c',news,hu1',hu2',hu3',hu4',hu5',hu6',hu7',hu8'⟩:=U7 (p:=.aO own q) (s:=⟨own,q.e,q.sz,q.len,q.row⟩) rfl (by show 1<=q.sz;omega) hx;have hqs:q.sz=i.size:=by omega
 have hrs:r.sz=i.size:=by omega
 have hrn:r.len=y.len+q.len:=c5;have hnl:news.length=q.len*i.size:=by rw[hu3',<-hqs]
 have hxv:xv=.slice A' q.len c':=hu1';rw[<-hys]at q3 q4;have hcn:y.len*i.size<=cs.size:=Nat.le_trans (Nat.mul_le_mul_right _ hnc) hcz
 let xs:List Value:=cs.toList.take (y.len*i.size)
 have hxl:xs.length=y.len*i.size:=by simp only[xs,List.length_take,Array.length_toList];omega
 have hxg:∀k,k<y.len*i.size->xs[k]? =cs[k]? :=λk hk=>by simp only[xs];rw[List.getElem?_take,if_pos hk];simp
 have cellR:∀(W:World) (M1:Jw) (β1:Kh) (rest:List Value),(∀p v,Bk w M β w0.old p v->Bk W M1 β1 w0.old p v)->∀(i0 j:Nat) (p:PV) (v:Value),i0<r.len->(r.row i0)[j]? =some p->(xs++news++rest)[i0*i.size+j]? =some v->Bk W M1 β1 w0.old p v/\v.oneCell'=true:=by
  intro W M1 β1 rest hR i0 j p v hi0 hp hv;have hj:j<i.size:=by have:=(List.getElem?_eq_some_iff.1 hp).1;rw[LX.row_len,hrs]at this;exact this
  by_cases hlt:i0<y.len
  ·rw[c6 i0 hlt]at hp;have hk:(i0+1)*i.size<=y.len*i.size:=Nat.mul_le_mul_right _ hlt;rw[Nat.add_mul,Nat.one_mul]at hk;rw[List.append_assoc,List.getElem?_append_left (by omega),hxg _ (by omega)]at hv;obtain⟨r1,r2⟩:=q4 i0 j p v hlt hp hv;exact⟨hR _ _ r1,r2⟩
  ·obtain⟨k,rfl⟩:∃k,i0=y.len+k:=⟨i0-y.len,by omega⟩;rw[c7 k]at hp;have hkq:k<q.len:=by omega
   obtain⟨u,r1,r2,r3⟩:=hu8' k j p hkq hp;have r1:news[k*q.sz+j]? =some u:=r1;rw[hqs]at r1;have hlt':=(List.getElem?_eq_some_iff.1 r1).1;have e0:(y.len+k)*i.size+j=xs.length+(k*i.size+j):=by rw[hxl,Nat.add_mul];omega
   rw[List.append_assoc,e0,List.getElem?_append_right (by omega),show xs.length+(k*i.size+j)-xs.length=k*i.size+j by omega,List.getElem?_append_left (by omega)]at hv;have:v=u:=Option.some.inj (hv.symm.trans r1);subst this;exact⟨hR _ _ r2,r3⟩
 let Ov:Nat->List PV:=λx=>if x=b then[]else O x
 have hOv:∀x,x≠b->Ov x=O x:=λx hx=>if_neg hx;have hOvb:Ov b= []:=if_pos rfl;have hO2':∀x,x≠d->O' x=Ov x:=λx hx=>by
  by_cases e:x=b
  ·rw[e,hO0,hOvb]
  ·rw[hOv x e];exact hO2 x hx e
 have hne:O b≠ []:=by rw[hOb];simp
 have void:∀(W:World),(∀k,k≠bb->W.heap[k]? =w.heap[k]?)->W.heap.size=w.heap.size->Kp w0 w W->(∃cs',W.heap[bb]? =some (.cells cs' tt (0,0)))->
   SH H w0 N Ov D W M β/\(∀p v,Bk w M β w0.old p v->Bk W M β w0.old p v):=λW g1 g2 g3 g4=>by
  obtain⟨cs',g4⟩:=g4;exact h.setObj (O':=Ov) b bb y.len hβ hne [] (λ_ _ _=>⟨cs',tt,g4⟩) hOvb hOv g1 g2 g3 (λ_=>.cells _ cs' tt g4 (Nat.zero_le _) (λi p v hp=>by simp at hp)) (λi p s v hp=>by simp at hp)
 have hvd:∀x m,β x=some (bb,m)->Ov x= []:=λx m hx=>by
  by_cases e:x=b
  ·rw[e];exact hOvb
  ·rw[hOv x e];exact(h.inj x b bb m y.len hx hβ).elim (λq=>absurd q e) λq=>q.elim id λq=>absurd q hne
 have hnoT:∀ {W:World} {M1:Jw} (hS:SH H w0 N Ov D W M1 β) key s v,P5 H Ov W β key s v->tb v≠some bb:=λhS key s v ho hg=>hS.bH key s v bb b y.len ho hg hβ;by_cases hy:q.len=0
 ·have hrun:(Builtin.append_ #[t,t] ty #[.slice (some ⟨bb,0,none⟩) y.len c,xv]).run P w=.ok (.slice (some ⟨bb,0,none⟩) y.len c) w:=by
   rw[hxv,hy];exact V5 t ty e i ht hi _ y.len c hnc (λhA=>by cases hA) A' c' w
  obtain⟨hS,hR⟩:=void w (λ_ _=>rfl) rfl ⟨rfl,rfl,rfl,Nat.le_refl _,λ_ _=>rfl,λ_=>Nat.le_refl _⟩ ⟨cs,q1⟩;obtain⟨β',hS',hd⟩:=hS.adopt d bb y.len [.bG r] hnew hb1 hb2 hvd (hnoT hS) hO1 hO2' hD (λk p s' hp hs _=>by
    cases k with
    |zero=>simp at hp;subst hp;cases hs
    |succ k=>simp at hp) (λβ' hR' _=>.arr r cs tt q1 (by omega) (by rw[hrs];exact q3) (λi0 j p v hi0 hp hv=>by
     rw[hrs]at hv;have hj:j<i.size:=by have:=(List.getElem?_eq_some_iff.1 hp).1;rw[LX.row_len,hrs]at this;exact this
     rw[c6 i0 hi0]at hp;obtain⟨r1,r2⟩:=q4 i0 j p v hi0 hp hv;exact⟨hR' _ _ r1,r2⟩))
  refine⟨_,w,M,β',hrun,?_⟩;have e0:r.len=y.len:=by omega
  rw[e0];exact hS'.cons _ _ (.vw false d e i.size y.len bb c hd hnc (by rw[Vg q1];exact hcz)) (λs' h1 _=>by cases h1)
 ·obtain⟨ad,hA⟩:=hu6' (by show 0<q.len;omega);subst hA;have hmax:y.len+q.len<=9223372036854775807:=by simp only[maxLen]at hm;omega
  by_cases hroom:y.len+q.len<=c
  ·have hfit:y.len*i.size+news.length<=cs.size:=by rw[hnl,<-Nat.add_mul];exact Nat.le_trans (Nat.mul_le_mul_right _ hroom) hcz
   have hrr:=Am0 (P:=P) w t ty e i ht hi bb y.len c tt cs q1 ad q.len c' news hnl (λj u hu=>hu4' ad j u rfl hu) hu5' hroom hfit;have hw1:=setRow_heap w bb cs (cs.toList.take (y.len*i.size)++news++cs.toList.drop (y.len*i.size+news.length)).toArray tt (0,0) q1;have hsz':(cs.toList.take (y.len*i.size)++news++cs.toList.drop (y.len*i.size+news.length)).toArray.size=cs.size:=by
    simp only[List.size_toArray,List.length_append,List.length_take,List.length_drop,Array.length_toList];omega
   obtain⟨hS,hR⟩:=void _ (λk hk=>setRow_other w bb k _ hk) (by simp[World.setRow]) (Wq w0 w bb _ hb1 q1 (Nat.le_of_eq hsz'.symm)) ⟨_,hw1⟩;obtain⟨β',hS',hd⟩:=hS.adopt d bb r.len [.bG r] hnew hb1 hb2 hvd (hnoT hS) hO1 hO2' hD (λk p s' hp hs _=>by
     cases k with
     |zero=>simp at hp;subst hp;cases hs
     |succ k=>simp at hp) (λβ' hR' _=>.arr r _ tt hw1 rfl (by rw[hsz',hrs,hrn];exact Nat.le_trans (Nat.mul_le_mul_right _ hroom) hcz) (λi0 j p v hi0 hp hv=>by
      rw[hrs]at hv;obtain⟨r1,r2⟩:=cellR _ M β (cs.toList.drop (y.len*i.size+news.length)) hR i0 j p v hi0 hp (by simpa using hv);exact⟨hR' _ _ r1,r2⟩))
   refine⟨_,_,M,β',by rw[hxv];exact hrr,?_⟩;rw[hrn]at hd ⊢;exact hS'.cons _ _ (.vw false d e i.size _ bb c hd hroom (by rw[Vg hw1,hsz'];exact hcz)) (λs' h1 _=>by cases h1)
  ·have hcell:∀(j:Nat) (u:Value),xs[j]? =some u->w.cell? ((⟨bb,0,none⟩:Addr).add j)=some u:=λj u hu=>by
    have:=(List.getElem?_eq_some_iff.1 hu).1;rw[add_lit,Uc q1,<-hxg j (by omega)];exact hu
   have hr:=run_append_grow (P:=P) w t ty e i z ht hi hz ⟨bb,0,none⟩ y.len c xs hxl hcell ad q.len c' news hnl (λj u hu=>hu4' ad j u rfl hu) (by omega) (by omega) (growslice_fits (by omega) hb);have hge:=grownCap_ge w (y.len+q.len) c e;generalize hcap:grownCap w (y.len+q.len) c e=cap at hr hge;obtain⟨hS,hR⟩:=void w (λ_ _=>rfl) rfl ⟨rfl,rfl,rfl,Nat.le_refl _,λ_ _=>rfl,λ_=>Nat.le_refl _⟩ ⟨cs,q1⟩;have hW':SH H w0 N Ov D w.drew M β :=hS.drawn;have hWe:∀p v,Bk w M β w0.old p v->Bk w.drew M β w0.old p v:=λp v h=>Bk.ext (w:=w) (w':=w.drew) (λx u h1 h2=>⟨h1,h2⟩) (λ_ _=>rfl) (λ_ _ h=>h) (λ_ _ _ _=>Nat.le_refl _) h;have toA:xs.toArray++news.toArray++Builtin.zeroCells z.cells (cap-(y.len+q.len))=(xs++news++(Builtin.zeroCells z.cells (cap-(y.len+q.len))).toList).toArray:=by apply Array.ext';simp
   rw[toA]at hr;have zlen:(Builtin.zeroCells z.cells (cap-(y.len+q.len))).toList.length=(cap-(y.len+q.len))*i.size:=by rw[Array.length_toList,size_zeroCells,hzs]
   generalize Builtin.zeroCells z.cells (cap-(y.len+q.len))=zs at hr zlen;have htot:(xs++news++zs.toList).length=cap*i.size:=by
    rw[List.length_append,List.length_append,zlen,hnl,hxl,<-Nat.add_mul,<-Nat.add_mul];congr 1;omega
   obtain⟨hE,hS2,hRR,hb9,hn9⟩:=hW'.rowNew (xs++news++zs.toList).toArray e 0;have hh:(w.drew.alloc (.cells (xs++news++zs.toList).toArray e)).heap[w.heap.size]? =some (.cells (xs++news++zs.toList).toArray e (0,0)):=heap_alloc_new w.drew _;obtain⟨β',hS',hd⟩:=hS2.adopt d w.heap.size r.len [.bG r] hnew h.bS.new (if_pos rfl) (λy m hy=>absurd hy (hb9 y m)) (λkey s v ho=>(hn9 key s v ho).2) hO1 hO2' hD (λk p s' hp hs _=>by
     cases k with
     |zero=>simp at hp;subst hp;cases hs
     |succ k=>simp at hp) (λβ' hR' _=>.arr r _ e hh rfl (by rw[List.size_toArray,htot,hrs,hrn];exact Nat.mul_le_mul_right _ hge) (λi0 j p v hi0 hp hv=>by
      rw[hrs]at hv;obtain⟨r1,r2⟩:=cellR _ _ β zs.toList (λp v hr=>hRR _ _ (hWe _ _ hr)) i0 j p v hi0 hp (by simpa using hv);exact⟨hR' _ _ r1,r2⟩))
   refine⟨_,_,(λb=>if b=w.heap.size then some 0 else M b),β',by rw[hxv];exact hr,?_⟩;rw[hrn]at hd ⊢;exact hS'.cons _ _ (.vw false d e i.size _ w.heap.size cap hd hge (by rw[Vg hh,List.size_toArray,htot];exact Nat.le_refl _)) (λs' h1 _=>by cases h1)
end
end Go.Proofs.YtgacplpjamkieaaGreat.Ev
namespace Go.Proofs.YtgacplpjamkieaaGreat.Ev
open Go Go.RowKit
section
variable {ι :Type} {cx: ι->PV×Value} {P:Program} {w0:D7} {w:World} {N M:Jw} {β :Kh} {nt:Nat} {st:St} {a:Act} {o:Oper} {δ :B2} {ban:List Nat}
def A10(s b off:Nat):P4 (Nat ⊕ ι)->Option (P4 (Nat ⊕ ι))
 | .slot (.inl t)=>if t=s then none else some (.slot (.inl t))
 | .slot (.inr i)=>some (.slot (.inr i))
 | .cell x i=>if x=b/\i=off then some (.slot (.inl s))else some (.cell x i)
def Bk7(s b off:Nat):P4 (Nat ⊕ ι)->P4 (Nat ⊕ ι)
 | .slot (.inl t)=>if t=s then .cell b off else .slot (.inl t)
 | .slot (.inr i)=>.slot (.inr i)
 | .cell x i=>.cell x i
theorem Az2{s b off:Nat}{k j:P4 (Nat ⊕ ι)}(h:A10 s b off k=some j):k=Bk7 s b off j:=by
 cases k with
 |slot k=>
  cases k with
  |inl t=>
   simp only[A10]at h;by_cases e:t=s
   ·rw[if_pos e]at h;cases h
   ·rw[if_neg e]at h;injection h with h;subst h;simp only[Bk7];rw[if_neg e]
  |inr i=>injection h with h;subst h;rfl
 |cell x i=>
  simp only[A10]at h;by_cases e:x=b/\i=off
  ·rw[if_pos e]at h;injection h with h;subst h;simp only[Bk7,if_true];rw[e.1,e.2]
  ·rw[if_neg e]at h;injection h with h;subst h;rfl
theorem Ix{l:List PV}{off:Nat}{p:PV}(h:off+1<=l.length)(i:Nat):(Hy l off [p])[i]? =if i=off then some p else l[i]? :=by
 rw[U6 l off [p] i (by simpa using h)];by_cases e:i=off
 ·subst e;rw[if_pos ⟨Nat.le_refl _,by simp⟩,if_pos rfl];simp
 ·rw[if_neg (by simp;omega),if_neg e]
theorem A1e{l:List PV}(h:Er l=true):∀(off:Nat) (p:PV),(∀x,p≠ .bG x)->(∀a b c d,p≠ .aL a b c d)->(∀a b c d e f,p≠ .bV a b c d e f)->Er (Hy l off [p])=true:=by
 induction l with
 |nil=>intro off p _ _ _;simp[Hy,Er]
 |cons q r ih=>
  intro off p h1 h2 h3;have hq:Er r=true:=by cases q<;>first|cases h|exact h
  cases off with
  |zero=>
   have e:Hy (q::r) 0 [p]=p::r:=by
    show p::Hy r 0 []=_
    cases r<;>rfl
   rw[e];cases p<;>first|exact absurd rfl (h1 _)|exact absurd rfl (h2 _ _ _ _)|exact absurd rfl (h3 _ _ _ _ _ _)|exact hq
  |succ n=>
   show Er (q::Hy r n [p])=true
   have:=ih hq n p h1 h2 h3;cases q<;>first|cases h|exact this
theorem Az1(h:SR cx w0 N nt st a w M β)(ad:Operand)(s t b off:Nat)(ho:o.op=.store t ad (.tmp s))(hsz:szT P t=some 1)(hst:st.aM ad=.loc b off)
  (g1:(st.get s).one=true)(g2:Mj (st.obj b) (off+1)=true)(g3:Er (st.obj b)=true)(hd:o.dst=none):
  E9 cx P w0 N nt st a w o ⟨[(s,(st.get s).view)],[(b,Hy (st.obj b) off [st.get s])]⟩:=by
 have hc:(st.aM (.tmp s)).cells= [st.get s]:=Auf g1;have hlen:=(L6 _ _).1 g2;obtain⟨w',hrun,hS,bb,n,hb,hcell⟩:=Azz h ad (.tmp s) t 1 b off ho hsz hst (by rw[hc];rfl) (by rw[hc];simp only[Sx];rw[g1]) g2 g3 (λe=>by rw[e]at hlen;simp at hlen);rw[hc]at hS;have hone:(a.tmps.getD s undef).oneCell'=true:=(h.reg s).one g1;have hval:w'.cell? ⟨bb,off,none⟩=some (a.tmps.getD s undef):=by
  have:=hcell 0 (a.tmps.getD s undef) (by rw[show a.eval (.tmp s)=a.tmps.getD s undef from rfl,Bdk hone];rfl);simpa using this
 refine Ak6 (M':=M) (β':= β) hd hrun ⟨h.defs,h.nt,?_⟩;have hg:∀t,(st.app ⟨[(s,(st.get s).view)],[(b,Hy (st.obj b) off [st.get s])]⟩).get t=if s=t then(st.get s).view else st.get t:=λt=>B3 _ _ _ _ _
 have hO:∀x,(st.app ⟨[(s,(st.get s).view)],[(b,Hy (st.obj b) off [st.get s])]⟩).obj x=if b=x then Hy (st.obj b) off [st.get s]else st.obj x:=λx=>B3 _ _ _ _ _
 have hO1:∀x,(st.app ⟨[],[(b,Hy (st.obj b) off ([st.get s].map PV.view))]⟩).obj x=if b=x then Hy (st.obj b) off [(st.get s).view]else st.obj x:=λx=>B3 _ _ _ _ _
 have hreg:∀t,Bk w' M β w0.old (st.get t) (a.tmps.getD t undef):=λt=>hS.sh.reg (.inl t);refine hS.sh.perm (λk=>?_) (λd b' n' hd'=>?_) (λd hd'=>hS.sh.dom d hd') (A10 s b off) ?_ (λk k' j h1 h2=>(Az2 h1).trans (Az2 h2).symm) (λd _ _ _ e=>by
  rw[hO1]at e;rw[hO];by_cases q:b=d
  ·rw[if_pos q]at e ⊢;have:=congrArg List.length e;rw[I5]at this;exact List.length_eq_zero_iff.1 (by rw[I5];simpa using this)
  ·rw[if_neg q]at e ⊢;exact e)
 ·cases k with
  |inl t=>
   simp only[hold];rw[hg];by_cases e:s=t
   ·subst e;rw[if_pos rfl];exact(hreg s).view
   ·rw[if_neg e];exact hreg t
  |inr i=>exact hS.sh.reg (.inr i)
 ·have hbx:=(hS.sh.box d b' n' hd').2.2;rw[hO1]at hbx;rw[hO];by_cases e:b=d
  ·rw[if_pos e]at hbx ⊢;subst e;rw[hb]at hd';injection hd' with hd'
   injection hd' with hd1 hd2
   subst hd1;subst hd2
   obtain⟨cs,ty,q1,q2,q3⟩:=F4 hbx (A1e g3 off _ (by
    intro x e;have:=g1;rw[A5e e]at this;cases this) (by
    intro x1 x2 x3 x4 e;have:=g1;rw[A5g e]at this;cases this) (by
    intro x1 x2 x3 x4 x5 x6 e;have:=g1;rw[A5f e]at this;cases this))
   refine .cells _ cs ty q1 (by rw[I5]at q2 ⊢;exact q2) (λi p v hp hv=>?_);rw[Ix hlen]at hp;by_cases hi:i=off
   ·rw[if_pos hi]at hp;injection hp with hp
    subst hp;subst hi
    have:w'.cell? ⟨bb,i,none⟩=some v:=by rw[Uc q1];exact hv
    rw[hval]at this;injection this with this
    subst this;exact⟨hreg s,hone⟩
   ·rw[if_neg hi]at hp;exact q3 i p v (by rw[Ix hlen,if_neg hi];exact hp) hv
  ·rw[if_neg e]at hbx ⊢;exact hbx
 ·intro key sv v ho';cases key with
  |slot k=>
   cases k with
   |inl t=>
    obtain⟨h1,h2,h3⟩:=ho';simp only[hold]at h1;rw[hg]at h1;by_cases e:s=t
    ·rw[if_pos e]at h1;rw[Jx h1]at h2;cases h2
    ·simp only[hold]at h3;rw[hg,if_neg e]at h3;rw[if_neg e]at h1;exact⟨.slot (.inl t),by simp only[A10];rw[if_neg (λe'=>e e'.symm)],h1,h2,h3⟩
   |inr i=>exact⟨_,rfl,ho'⟩
  |cell x i=>
   obtain⟨b',n',p,h1,h2,h3,h4,h5⟩:=ho';rw[hO]at h2;by_cases e:x=b/\i=off
   ·obtain⟨rfl,rfl⟩:=e;rw[if_pos rfl,Ix hlen,if_pos rfl]at h2;injection h2 with h2
    subst h2;rw[hb]at h1;injection h1 with h1
    injection h1 with h1 _
    subst h1;rw[hval]at h5;injection h5 with h5
    exact⟨.slot (.inl s),by simp[A10],(M9 h3).1,h4,((M9 h3).2 _).trans h5⟩
   ·refine⟨.cell x i,by simp only[A10];rw[if_neg e],b',n',p,h1,?_,h3,h4,h5⟩;rw[hO1];by_cases e2:b=x
    ·rw[if_pos e2]at h2 ⊢;rw[Ix hlen]at h2 ⊢;have:¬i=off:=λe'=>e ⟨e2.symm,e'⟩;rw[if_neg this]at h2 ⊢;exact h2
    ·rw[if_neg e2]at h2 ⊢;exact h2
def Bb2(b off:Nat):P4 (Option (Nat ⊕ ι))->Option (P4 (Nat ⊕ ι))
 | .slot none=>some (.cell b off)
 | .slot (some k)=>some (.slot k)
 | .cell x i=>if x=b/\i=off then none else some (.cell x i)
def Bim(b off:Nat):P4 (Nat ⊕ ι)->P4 (Option (Nat ⊕ ι))
 | .slot k=>.slot (some k)
 | .cell x i=>if x=b/\i=off then .slot none else .cell x i
theorem Ayu{b off:Nat}{k:P4 (Option (Nat ⊕ ι))}{j:P4 (Nat ⊕ ι)}(h:Bb2 b off k=some j):k=Bim b off j:=by
 cases k with
 |slot k=>
  cases k with
  |none=>injection h with h;subst h;simp[Bim]
  |some k=>injection h with h;subst h;rfl
 |cell x i=>
  simp only[Bb2]at h;by_cases e:x=b/\i=off
  ·rw[if_pos e]at h;cases h
  ·rw[if_neg e]at h;injection h with h;subst h;simp only[Bim];rw[if_neg e]
theorem Ayi(l:List PV):∀(i:Nat) (p:PV),l[i]? =some p->Lq l i=p:=by
 induction l with
 |nil=>intro i p h;simp at h
 |cons q r ih=>
  intro i p h;cases i with
  |zero=>simpa[Lq]using h
  |succ i=>exact ih i p (by simpa using h)
theorem Ayj{l:List PV}{i:Nat}(h:(Lq l i).one=true):l[i]? =some (Lq l i):=by
 cases hl:l[i]? with
 |some p=>rw[Ayi l i p hl]
 |none=>
  have:∀(l:List PV) (i:Nat),l[i]? =none->Lq l i=.any:=by
   intro l
   induction l with
   |nil=>intro i _;rfl
   |cons q r ih=>
    intro i h;cases i with
    |zero=>simp at h
    |succ i=>exact ih i (by simpa using h)
  rw[this l i hl]at h;cases h
theorem A1u(h:SR cx w0 N nt st a w M β)(hd:∀x,o.dst=some x->x<nt)(d:Nat)(hdst:o.dst=some d)(x:Operand)(t b off:Nat)(td:TypeDesc)(ho:o.op=.load t x)(hu:P.underlying t=some td)(hs:szT P t=some 1)
  (hag:Et P t=false)(hst:st.aM x=.loc b off)(g1:(Lq (st.obj b) off).one=true)(g3:Er (st.obj b)=true):
  E9 cx P w0 N nt st a w o ⟨[(d,Lq (st.obj b) off)],[(b,Hy (st.obj b) off [(Lq (st.obj b) off).view])]⟩:=by
 have hget:=Ayj g1;have hlen:off+1<=(st.obj b).length:=(List.getElem?_eq_some_iff.1 hget).1;have hp:=h.aM x;rw[hst]at hp;obtain⟨bb,n,hb,hv⟩:=Vh hp;obtain⟨cs,ty,q1,q2,q3⟩:=F4 (h.sh.box b bb n hb).2.2 g3;have hcs:cs[off]? =some (cs[off]'(by omega)):=Array.getElem?_eq_getElem (by omega);generalize cs[off]'(by omega)=v at hcs;obtain⟨r1,r2⟩:=q3 off _ v hget hcs;have hcell:w.cell? ⟨bb,off,none⟩=some v:=by rw[Uc q1];exact hcs
 have hrun:(execOp a.eval o).run P w=.ok (.value v) w:=by
  simp only[execOp,ho,hv,Instr.loadAt,Instr.sureAddr,Sem.run_bind,Sem.run_pure,Result.andThen_ok];rw[Aee hu hag hcell];rfl
 have hO:∀y,(st.app ⟨[(d,Lq (st.obj b) off)],[(b,Hy (st.obj b) off [(Lq (st.obj b) off).view])]⟩).obj y=if b=y then Hy (st.obj b) off [(Lq (st.obj b) off).view]else st.obj y:=λy=>B3 _ _ _ _ _
 have hS:SH (H2 (Lq (st.obj b) off,v) (hold cx st a)) w0 N (st.app ⟨[(d,Lq (st.obj b) off)],[(b,Hy (st.obj b) off [(Lq (st.obj b) off).view])]⟩).obj (λd=>Ar d (st.ob.map Prod.fst)) w M β :=by
  refine h.sh.perm (λk=>?_) (λd' b' n' hd'=>?_) h.sh.dom (Bb2 b off) ?_ (λk k' j h1 h2=>(Ayu h1).trans (Ayu h2).symm) (λy _ _ _ e=>by
   rw[hO];by_cases q:b=y
   ·subst q;rw[if_pos rfl];exact List.length_eq_zero_iff.1 (by rw[I5,e];rfl)
   ·rw[if_neg q];exact e)
  ·cases k with
   |none=>exact r1
   |some k=>exact h.sh.reg k
  ·have hbx:=(h.sh.box d' b' n' hd').2.2;rw[hO];by_cases e:b=d'
   ·rw[if_pos e];subst e;rw[hb]at hd';injection hd' with hd'
    injection hd' with hd1 hd2
    subst hd1;subst hd2
    refine .cells _ cs ty q1 (by rw[I5];exact q2) (λi p u hp hu=>?_);rw[Ix hlen]at hp;by_cases hi:i=off
    ·rw[if_pos hi]at hp;injection hp with hp
     subst hp;subst hi
     rw[hcs]at hu;injection hu with hu
     subst hu;exact⟨r1.view,r2⟩
    ·rw[if_neg hi]at hp;exact q3 i p u hp hu
   ·rw[if_neg e];exact hbx
  ·intro key sv u ho';cases key with
   |slot k=>
    cases k with
    |none=>
     obtain⟨h1,h2,h3⟩:=ho';have h1:(Lq (st.obj b) off).dQ=some sv:=h1;rw[(A28 g1).1]at h1;have h3':v=u:=((A28 g1).2 v).symm.trans h3;subst h3';exact⟨.cell b off,rfl,bb,n,_,hb,hget,h1,h2,hcell⟩
    |some k=>exact⟨_,rfl,ho'⟩
   |cell y i=>
    obtain⟨b',n',p,h1,h2,h3,h4,h5⟩:=ho';rw[hO]at h2;by_cases e:y=b/\i=off
    ·obtain⟨rfl,rfl⟩:=e;rw[if_pos rfl,Ix hlen,if_pos rfl]at h2;injection h2 with h2
     subst h2;rw[Abq h3]at h4;cases h4
    ·refine⟨.cell y i,by simp only[Bb2];rw[if_neg e],b',n',p,h1,?_,h3,h4,h5⟩;by_cases e2:b=y
     ·rw[if_pos e2,Ix hlen,if_neg (λe'=>e ⟨e2.symm,e'⟩)]at h2;rw[<-e2];exact h2
     ·rw[if_neg e2]at h2;exact h2
 refine I6 h hd hdst (st0:=st) hS hrun (λs=>B3 _ _ _ _ _) (λ_=>rfl) (λy hy=>?_);have hy':=(Be _ _).1 hy;exact(Be _ _).2 (λhm=>hy' (List.mem_cons_of_mem _ hm))
theorem Aj4(z:List PV):∀(m k:Nat),k<m*z.length->((List.replicate m z).flatten)[k]? =z[k % z.length]? :=by
 intro m
 induction m with
 |zero=>intro k h;omega
 |succ m ih=>
  intro k h;rw[List.replicate_succ,List.flatten_cons];rcases Nat.lt_or_ge k z.length with hk|hk
  ·rw[List.getElem?_append_left hk,Nat.mod_eq_of_lt hk]
  ·rw[List.getElem?_append_right hk,ih _ (by rw[Nat.add_mul,Nat.one_mul]at h;omega),<-Nat.mod_eq_sub_mod hk]
theorem Adb(z:List PV):∀(m:Nat),((List.replicate m z).flatten).length=m*z.length:=by
 intro m;simp
theorem A7c(z:Array Value)(n k:Nat)(h:k<n)(hz:0<z.size):(madeCells z n)[k]? =z[k % z.size]? :=by
 have:k % z.size<z.size:=Nat.mod_lt _ hz;simp[madeCells,h,this]
theorem Auu(h:SR cx w0 N nt st a w M β)(hd:∀x,o.dst=some x->x<nt)(d id e sz:Nat)(hdst:o.dst=some d)(t:Nat)(l c:Operand)(m:Nat)(i:TypeInfo)(z:List PV)(ho:o.op=.makeSlice t l c)
  (hu:P.underlying t=some (.slice e))(hi:P.info? e=some i)(his:i.size=sz)(hz:Ala P e=some z)(hzl:z.length=sz)(hpos:1<=sz)
  (hl:a.eval l=.int .i64 m)(hc:a.eval c=.int .i64 m)(hb:m*i.bytes<=140737488355328)(hm:m<=9223372036854775807)(hnew:Ar id (st.ob.map Prod.fst)=true)
  (cf:Bool)(ob:List PV)(hob:(cf=true/\ob=(List.replicate m z).flatten)\/∃y,LX.lit e [z.map PV.view]=some y/\ob= [.bG (y.rep m)]/\y.sz=sz):
  E9 cx P w0 N nt st a w o ⟨[(d,.vw cf id e sz m)],[(id,ob)]⟩:=by
 obtain⟨i',z0,hi',hz0,hl0,hr0⟩:=Aci (w:=w) (M:=M) (β := β) (B:=w0.old) hz;rw[hi]at hi';injection hi' with hi'
 subst hi';have hzs:z0.cells.size=sz:=by rw[<-hl0,hzl]
 have hrun:(execOp a.eval o).run P w=.ok (.value (.slice (some ⟨w.heap.size,0,none⟩) m m)) (w.alloc (.cells (madeCells z0.cells (m*i.size)) e)):=by
  have:=run_make (P:=P) w t e i z0 hu hi hz0 .i64 .i64 m m (by omega) (Int.le_refl _) (by have h0:((m*i.bytes:Nat):Int)<=140737488355328:=Int.ofNat_le.2 hb;rw[Int.natCast_mul]at h0;rw[Int.mul_comm];omega) (by omega);simp only[execOp,ho,hl,hc,Sem.run_bind,Sem.run_pure,Result.andThen_ok];rw[this];rfl
 have hh:=heap_alloc_new w (.cells (madeCells z0.cells (m*i.size)) e);have hsz:(madeCells z0.cells (m*i.size)).size=m*sz:=by rw[size_madeCells,his]
 have hget:∀k,k<m*sz->(madeCells z0.cells (m*i.size))[k]? =z0.cells[k % sz]? :=λk hk=>by
  rw[A7c _ _ _ (by rw[his];exact hk) (by omega),hzs]
 refine Agt h hd d id m hdst ob _ (.vw cf id e sz m) _ hnew rfl (λW M' β' hW hb'=>.vw cf id e sz m _ m hb' (Nat.le_refl _) (by subst hW;rw[Vg hh,hsz];exact Nat.le_refl _)) (λk p s hp hs how v hv=>?_) (λM' β' hR hb'=>?_) hrun
 ·rw[Uc hh]at hv;rcases hob with⟨_,rfl⟩|⟨y,_,rfl,_⟩
  ·have hk:k<m*sz:=by have:=(List.getElem?_eq_some_iff.1 hp).1;rw[Adb,hzl]at this;exact this
   rw[Aj4 z m k (by rw[hzl];exact hk),hzl]at hp;rw[hget k hk]at hv;exact(hr0 _ p v hp hv).2.2 s hs how
  ·cases k with
   |zero=>simp at hp;subst hp;cases hs
   |succ k=>simp at hp
 ·rcases hob with⟨_,rfl⟩|⟨y,hy,rfl,hys⟩
  ·refine .cells _ _ e hh (Nat.le_of_eq (by rw[hsz,Adb,hzl])) (λk p v hp hv=>?_);have hk:k<m*sz:=by have:=(List.getElem?_eq_some_iff.1 hp).1;rw[Adb,hzl]at this;exact this
   rw[Aj4 z m k (by rw[hzl];exact hk),hzl]at hp;rw[hget k hk]at hv;exact⟨hR _ _ (hr0 _ p v hp hv).1,(hr0 _ p v hp hv).2.1⟩
  ·obtain⟨s1,s2,s3,s4⟩:=LX.rep_spec y m;obtain⟨_,l2,l3⟩:=LX.lit_spec e _ y hy;have hle:=(l3 0 _ rfl).get;refine .arr _ _ e hh s3 (Nat.le_of_eq (by rw[hsz,s2,hys])) (λk j p v hk hp hv=>?_);rw[s2,hys]at hv;rw[s4 k hk]at hp;have hj:j<sz:=by have:=(List.getElem?_eq_some_iff.1 hp).1;rw[LX.row_len,hys]at this;exact this
   have hmm:(k+1)*sz<=m*sz:=Nat.mul_le_mul_right _ hk;rw[Nat.add_mul,Nat.one_mul]at hmm;rw[hget _ (by omega),Nat.mul_comm,Nat.mul_add_mod,Nat.mod_eq_of_lt hj]at hv;obtain⟨p0,hp0,hle'⟩:=hle.2 j p hp;obtain⟨p1,hp1,rfl⟩:=F8 hp0;obtain⟨r1,r2,_⟩:=hr0 j p1 v hp1 hv;exact⟨(hR _ _ r1.view).le hle',r2⟩
theorem A1w(h:SR cx w0 N nt st a w M β)(hd:∀x,o.dst=some x->x<nt)(d e:Nat)(hdst:o.dst=some d)(t:Nat)(l c:Operand)(m:Nat)(i:TypeInfo)(x:LX)(z:Value)(ho:o.op=.makeSlice t l c)
  (hu:P.underlying t=some (.slice e))(hi:P.info? e=some i)(hz:i.zero=some z)(hx:LX.nil e=some x)(hxs:x.sz=i.size)
  (hl:a.eval l=.int .i64 0)(hc:a.eval c=.int .i64 m)(hb:m*i.bytes<=140737488355328)(hm:m<=maxLen):
  E9 cx P w0 N nt st a w o ⟨[(d,.aO true x)],[]⟩:=by
 obtain⟨hxe,hxn⟩:=LX.nil_spec e x hx;have hrun:(execOp a.eval o).run P w=.ok (.value (.slice (some ⟨w.heap.size,0,none⟩) 0 m)) (w.alloc (.cells (madeCells z.cells (m*i.size)) e)):=by
  have:=run_make (P:=P) w t e i z hu hi hz .i64 .i64 0 m (Int.le_refl _) (by omega) (by have h0:((m*i.bytes:Nat):Int)<=140737488355328:=Int.ofNat_le.2 hb;rw[Int.natCast_mul]at h0;rw[Int.mul_comm];omega) (by simp only[maxLen]at hm;omega);simp only[execOp,ho,hl,hc,Sem.run_bind,Sem.run_pure,Result.andThen_ok];rw[this];rfl
 obtain⟨_,hS,_,hb1,hn1⟩:=h.sh.rowNew (madeCells z.cells (m*i.size)) e 0;have hh:=heap_alloc_new w (.cells (madeCells z.cells (m*i.size)) e);have hle:w0.w.heap.size<=w.heap.size:=h.sh.bS.size;refine I6 h hd hdst (st0:=st) (hS.cons (.aO true x) _ (Wo (s:=⟨true,x.e,x.sz,x.len,x.row⟩) rfl hxn.symm hh (Nat.zero_le _) (λi hi=>by omega) (λi hi=>by omega) (λi j q hi=>by omega)) (λs h1 _=>?_)) hrun (λs=>Gc st d s _) (λ_=>rfl) (λ_ h=>h);injection h1 with h1;subst h1
 cases m with
 |zero=>exact⟨.z rfl hxn,λkey s' v' g _ hg=>absurd hg Hl,λg d n hg=>absurd hg Hl⟩
 |succ m=>
  refine⟨.inr ⟨w.heap.size,m,madeCells z.cells ((m+1)*i.size),by rw[hxn];rfl,h.sh.bS.new,by simp[hxn],by rw[hxe];exact hh,by simp[hxn],hm,by rw[size_madeCells,hxs]⟩,λkey s' v' g ho' hg=>?_,λg d n hg=>?_⟩
  ·have:w.heap.size=g:=T2 hg;rw[<-this];exact(hn1 key s' v' ho').2
  ·have:w.heap.size=g:=T2 hg;rw[<-this];exact hb1 d n
theorem A1x(h:SR cx w0 N nt st a w M β)(hd:∀x,o.dst=some x->x<nt)(d id:Nat)(hdst:o.dst=some d)(t:Nat)(gk gv:Bool)(ks vs:LX)(ho:o.op=.makeMap t none)
  (hk:ks.len=0)(hv:vs.len=0)(hnew:Ar id (st.ob.map Prod.fst)=true):E9 cx P w0 N nt st a w o ⟨[(d,.mp id)],[(id,[.aL gk gv ks vs])]⟩:=by
 have hh:=heap_alloc_new w (.map #[] 0);refine Agt h hd d id 0 hdst _ (.map #[] 0) (.mp id) _ hnew rfl (λW M' β' _ hb=>.mp id _ _ hb) (λk p s hp hs _ v _=>?_) (λM' β' hR hb=>.map gk gv ks vs #[] 0 hh (by simp[hk]) (by rw[hv,hk]) (λi e he=>by simp at he) (.nil 0)) ?_
 ·cases k with
  |zero=>simp at hp;subst hp;cases hs
  |succ k=>simp at hp
 ·simp only[execOp,ho,Option.map_none];rfl
end
end Go.Proofs.YtgacplpjamkieaaGreat.Ev
