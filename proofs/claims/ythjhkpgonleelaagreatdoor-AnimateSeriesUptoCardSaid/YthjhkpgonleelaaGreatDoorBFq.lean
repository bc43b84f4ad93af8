/-  What a readable argument is to the evaluator; from 'Holds .. true' to what a law's statement asks. -/
import Derived.Test.YthjhkpgonleelaaGreatDoorBFn
import Derived.DataReads
import Derived.ProofKit
import Derived.OpenShut
import Derived.Carry
namespace Go.Proofs.YthjhkpgonleelaaGreatDoor.Ev
open Go Go.RowKit Go.ChangeShapes Go.WideShapes Go.ChangeAt
set_option linter.unusedVariables false
set_option linter.unusedSimpArgs false
set_option linter.unnecessarySimpa false
def Aqx(P:Program)(tot:Nat):List Field→Nat→Bool
 | [],o=>Nat.beq o tot
 |f::r,o=>Nat.beq f.offset o && Aqx P tot r (o+P.cellsOf f.type)
def Ass(S:TypeId→List PV→Prop):List TypeId→List PV→Prop
 | [],l=>l= []
 |t::r,l=>∃a b,l=a++b∧S t a∧Ass S r b
def Shp(P:Program):Nat→TypeId→List PV→Prop
 |0,_,_=>False
 |n+1,t,l=>match P.underlying t with
  |some .bool=>∃b,l= [.val (.bool b)]
  |some (.int k)=>∃n,l= [.val (.int k n)]∧(Lit.int k n).wf=true
  |some .string=>∃s,l= [.val (.string s)]∧s.size≤maxLen
  |some (.slice e)=>∃x:LX,l= [.lst false x]∧x.e=e∧x.len≤maxLen∧∀i,i < x.len→Shp P n e (x.row i)
  |some (.struct fs)=>Ass (Shp P n) (fs.toList.map (·.type)) l
  |_=>False
def A3j(t:Nat):List Nat→Bool
 | []=>false
 |a::r=>match Nat.beq a t with
  |true=>true
  |false=>A3j t r
def Bby(P:Program)(L:List Nat)(t:TypeId):Bool:=match P.underlying t with
 |some .bool=>true
 |some (.int _)=>true
 |some .string=>true
 |some (.slice e)=>A3j e L && (LX.nil e).isSome
 |some (.struct fs)=>Aqx P (P.cellsOf t) fs.toList 0 && fs.toList.all fun f=>A3j f.type L
 |_=>false
def Aum(P:Program)(L:List Nat):Bool:=L.all (Bby P L)
theorem Ahj{t:Nat} :∀ {L:List Nat},A3j t L=true→t∈L
 | [],h=>by cases h
 |a::r,h=>by
  simp only [A3j] at h
  cases hb:Nat.beq a t with
  |true=>have:=Ck hb;subst this;simp
  |false=>rw [hb] at h;exact List.mem_cons_of_mem _ (Ahj h)
def Alk(P:Program)(L:List Nat):Prop:=∀(e n m:Nat) (f:Nat→List PV),e∈L→(LX.nil e).isSome=true→(∀i,i < m→Shp P n e (f i))→∃x:LX,x.e=e∧x.len=m∧x.sz=P.cellsOf e∧∀i,i < m→x.row i=f i
abbrev A4v(w:World)(p:PV)(v:Value):Prop:=B1 w (fun _=>none) (fun _=>none) (fun b=>b < w.heap.size) p v
def Rd(w:World)(l:List PV)(cs:List Value):Prop:=
 l.length=cs.length∧∀(i:Nat) (p:PV) (v:Value),l[i]? =some p→cs[i]? =some v→A4v w p v∧v.oneCell'=true
theorem Rd.nil(w:World):Rd w [] []:=⟨rfl,fun i p v h=>by simp at h⟩
theorem Rd.one{w:World}{p:PV}{v:Value}(h:A4v w p v)(h1:v.oneCell'=true):Rd w [p] [v]:=by
 refine ⟨rfl,fun i q u hq hu=> ?_⟩
 cases i with
 |zero=>simp at hq hu;subst hq;subst hu;exact ⟨h,h1⟩
 |succ i=>simp at hq
theorem Rd.append{w:World}{l m:List PV}{cs ds:List Value}(h:Rd w l cs)(h':Rd w m ds):Rd w (l++m) (cs++ds):=by
 refine ⟨by simp [h.1,h'.1],fun i p v hp hv=> ?_⟩
 by_cases hi:i < l.length
 ·rw [List.getElem?_append_left hi] at hp
  rw [List.getElem?_append_left (h.1 ▸ hi)] at hv
  exact h.2 i p v hp hv
 ·rw [List.getElem?_append_right (by omega)] at hp
  rw [List.getElem?_append_right (by have:=h.1;omega),←h.1] at hv
  exact h'.2 _ p v hp hv
section
variable {H:Type} {enc:TypeId×Value→H} {P:Program} {w:World} {base:Nat} {spare:Nat→Bool} {held:Bool} {L:List Nat}
end
def LeI(p q:PV):Prop:=∀(w:World) (M:Px) (β :N0) (B:Nat→Prop) (v:Value),B1 w M β B p v→B1 w M β B q v
theorem Xj.le{P:Program}{f:Nat}{args:List PV}{r r':PV}(h:Xj P f args r)(hr:LeI r r'):Xj P f args r':=
 fun w N vs h1 h2 h3 h4=>(h w N vs h1 h2 h3 h4).mono fun _ _ ⟨v,e,hv,hb⟩=>⟨v,e,hr _ _ _ _ _ hv,hb⟩
theorem Xj.args{P:Program}{f:Nat}{args args':List PV}{r:PV}(h:Xj P f args' r)(hl:args.length=args'.length)(ha:∀(i:Nat) (p q:PV),args[i]? =some p→args'[i]? =some q→LeI p q):Xj P f args r:=by
 intro w N vs h1 h2 h3 h4
 refine h w N vs (by omega) (fun i q v hq hv=> ?_) h3 h4
 have hi:i < args.length:=by have:=(List.getElem?_eq_some_iff.mp hq).1;omega
 exact ha i _ q (List.getElem?_eq_getElem hi) hq _ _ _ _ _ (h2 i _ v (List.getElem?_eq_getElem hi) hv)
theorem LeI.nil{y:LX}{own:Bool}(h:y.len=0):LeI (.val (.slice none 0 0)) (.lst own y):=fun _ _ _ _ _ hv=>hv.le (.nil own y h)
theorem LeI.view(p:PV):LeI p p.view:=fun _ _ _ _ _ hv=>hv.view
theorem LeI.refl(p:PV):LeI p p:=fun _ _ _ _ _ hv=>hv
section
variable {H:Type} {enc:TypeId×Value→H} {P:Program} {L:List Nat}
theorem Aw6{f:Func}{s:ChangeSpec}{apart fresh handsOn again:Bool}{W W':World}{args:Array Value}{v:Value}{ds gs:List (DataW H)}{before pa pv:List MemPlace}
  (hW:DataW.Whole enc P f.params.toList s.vars apart W args.toList ds gs before)
  (hres:∀(b:Nat) (sp:Nat→Bool) (hd:Bool),DataW.TrodAll enc P W' b sp hd f.resultTypes.toList (v.resultList f.resultTypes.size) (s.fn H (ds++gs)).results [])
  (hargs:∀sp:Nat→Bool,(∀p∈before,sp p.block=true)→DataW.TrodAll enc P W' 0 sp true f.params.toList args.toList (s.fn H (ds++gs)).args pa)
  (hvars:∀sp:Nat→Bool,(∀p∈before,sp p.block=true)→DataW.TrodVars enc P W' sp s.vars (s.fn H (ds++gs)).vars pv)
  (hps:before=pa++pv) (hb:Below W.heap.size W W')
  (hok:∀(j:Nat) (t:TypeId) (r:Value),f.resultTypes[j]? =some t→(v.resultList f.resultTypes.size)[j]? =some r→Value.okWide P W' .any 0 t r):
  s.post enc P f apart fresh handsOn again W args v W':=by
 have hlt:∀p∈before,p.block < W.heap.size:=fun p hp=>hW.lt p hp
 have hold:∀p∈before,(fun b=>decide (b < W.heap.size)) p.block=true:=fun p hp=>by simpa using hlt p hp
 refine ⟨ds,gs,before,[],pa,pv,hW,hres _ _ _,hargs _ hold,hvars _ hold,World.keptBut_mono (fun p hp=>⟨hp,?_⟩) (hb.frame (· ∈before)),fun _=> ?_⟩
 ·rw [hps,List.mem_append] at hp
  exact Or.inr hp
 ·obtain ⟨_,_,_,_,_,hz,hn⟩:=hW
  refine ⟨hok,_,_,([]++pa)++pv,⟨[]++pa,pv,trodAll_append (hargs _ (fun _ _=>rfl)) (hres _ _ _),hvars _ (fun _ _=>rfl),rfl,?_,?_⟩,?_⟩
  ·intro b off hp
   have hin:MemPlace.cell b off∈before:=by rw [hps];simpa using hp
   rw [hb.frozen (hlt _ hin)]
   exact hz b off hin
  ·intro ha
   have:=hn ha
   rw [hps] at this
   simpa using this
  ·intro p hp _
   rw [hps]
   simpa using hp
def Bdv(P:Program)(L:List Nat)(t:TypeId):Bool:=
 A3j t L && P.readableRec t && decide (t < P.types.size)
theorem Bk3{W:World}{r:Go.Reach}{base:Nat}{t:TypeId}{v:Value}(hk:Bby P L t=true)(hv:Value.okWide P W r base t v):
  (∃fs cs,P.underlying t=some (.struct fs)∧v= .agg cs)∨((∀fs,P.underlying t≠some (.struct fs))∧v.cells.toList= [v]∧v.oneCell'=true):=by
 unfold Bby at hk
 cases hu:P.underlying t with
 |none=>rw [hu] at hk;cases hk
 |some d=>
  cases d
  case bool=>obtain ⟨b,rfl⟩:=okWide_bool hu hv;exact .inr ⟨by simp,rfl,rfl⟩
  case int k=>obtain ⟨b,rfl⟩:=okWide_int hu hv;exact .inr ⟨by simp,rfl,rfl⟩
  case string=>obtain ⟨b,rfl⟩:=okWide_string hu hv;exact .inr ⟨by simp,rfl,rfl⟩
  case slice e=>obtain ⟨a,l,c,rfl⟩:=okWide_slice hu hv;exact .inr ⟨by simp,rfl,rfl⟩
  case struct fs=>
   simp only [Value.okWide,hu] at hv
   obtain ⟨cs,rfl,_⟩:=hv
   exact .inl ⟨_,cs,rfl,rfl⟩
  all_goals (rw [hu] at hk;cases hk)
theorem Asu{W W':World}(hl:laidOutB P=true)(hb:Below W.heap.size W W'){sp:Nat→Bool} :
  ∀(ts:List TypeId) (vs:List Value) (ds:List (DataW H)) (ps:List MemPlace),(∀t∈ts,P.readableRec t=true∧t < P.types.size)→
   DataW.TrodAll enc P W 0 (fun _=>true) true ts vs ds ps→(∀p∈ps,p.block < W.heap.size)→(∀p∈ps,sp p.block=true)→
   DataW.TrodAll enc P W' 0 sp true ts vs ds ps
 | [],vs,ds,ps,_,h,_,_=>by
  obtain ⟨rfl,rfl,rfl⟩:=trodAll_nil h
  exact rfl
 |t::ts,vs,ds,ps,hk,h,hlt,hsp=>by
  obtain ⟨v,vs',d,ds',p,q,rfl,rfl,rfl,h1,h2⟩:=trodAll_cons h
  have ht:=hk t (by simp)
  exact trodAll_cons_mk (WideElems.Trod_stays hl ht.1 ht.2 h1 (fun x hx=>hb.same (hlt x (by simp [hx]))) (fun x hx=>hsp x (by simp [hx])))
   (Asu hl hb ts vs' ds' q (fun t ht=>hk t (by simp [ht])) h2 (fun x hx=>hlt x (by simp [hx])) (fun x hx=>hsp x (by simp [hx])))
end
end Go.Proofs.YthjhkpgonleelaaGreatDoor.Ev
