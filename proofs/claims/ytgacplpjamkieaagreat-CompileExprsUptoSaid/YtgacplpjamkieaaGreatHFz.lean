/-  The second form of a statement: how much is read (its bulk). -/
import Derived.Test.YtgacplpjamkieaaGreatHFW
import Derived.Test.YtgacplpjamkieaaGreatRows
import Derived.JoinedCond
set_option linter.unusedVariables false
set_option linter.unusedSimpArgs false
set_option linter.unnecessarySimpa false
namespace Go.Proofs.YtgacplpjamkieaaGreat.Ev
open Go Go.RowKit Go.ChangeShapes Go.WideShapes Go.ChangeAt
def Aoi:(Nat->Nat)->Nat->Nat
 |_,0=>0
 |f,n+1=>f 0+Aoi (λi=>f (i+1)) n
def Iy{α :Type}(g: α->Nat):List α->Nat
 | []=>0
 |x::l=>g x+Iy g l
theorem Pl{α :Type}{g: α->Nat}{l:List α}(h:∀x,1<=g x):l.length<=Iy g l:=by
 induction l with
 |nil=>simp[Iy]
 |cons a l ih=>rw[Iy,List.length_cons];have:=h a;omega
def Y5(S:TypeId->List PV->Nat->Prop):List TypeId->List PV->Nat->Prop
 | [],l,_=>l= []
 |t::r,l,b=>∃a c b1 b2,l=a++c/\b1+b2<=b/\S t a b1/\Y5 S r c b2
def Mr(P:Program):Nat->TypeId->List PV->Nat->Prop
 |0,_,_,_=>False
 |n+1,t,l,b=>match P.underlying t with
  |some .bool=>1<=b/\∃z,l= [.val (.bool z)]
  |some (.int k)=>1<=b/\∃z,l= [.val (.int k z)]/\(Lit.int k z).wf=true
  |some .string=>∃s,l= [.val (.string s)]/\s.size<=maxLen/\s.size+1<=b
  |some (.slice e)=>∃(x:LX) (f:Nat->Nat),l= [.aO false x]/\x.e=e/\x.len<=maxLen/\Aoi f x.len+1<=b/\∀i,i<x.len->Mr P n e (x.row i) (f i)
  |some (.struct fs)=>∃b',b'+1<=b/\Y5 (Mr P n) (fs.toList.map (·.type)) l b'
  |some (.array k e)=>∃b',b'+1<=b/\Y5 (Mr P n) (List.replicate k e) l b'
  |_=>False
theorem Y5.shps{S:TypeId->List PV->Nat->Prop}{S':TypeId->List PV->Prop}(h:∀t l b,S t l b->S' t l):∀ {ts:List TypeId} {l:List PV} {b:Nat},Y5 S ts l b->Au5 S' ts l
 | [],_,_,hh=>hh
 |t::r,l,b,⟨a,c,b1,b2,e,_,h1,h2⟩=>⟨a,c,e,h _ _ _ h1,Y5.shps h h2⟩
theorem Mr.shp{P:Program} :∀ {n:Nat} {t:TypeId} {l:List PV} {b:Nat},Mr P n t l b->Shp P n t l:=by
 intro n
 induction n with
 |zero=>intro t l b h;exact h
 |succ n ih=>
  intro t l b h;unfold Mr at h;unfold Shp;cases hu:P.underlying t with
  |none=>rw[hu]at h;exact h
  |some d=>
   rw[hu]at h;cases d
   case bool=>exact h.2
   case int k=>exact h.2
   case string=>obtain⟨s,h1,h2,_⟩:=h;exact⟨s,h1,h2⟩
   case slice e=>obtain⟨x,f,h1,h2,h3,_,h4⟩:=h;exact⟨x,h1,h2,h3,λi hi=>ih (h4 i hi)⟩
   case struct fs=>obtain⟨b',_,h⟩:=h;exact Y5.shps (S:=Mr P n) (S':=Shp P n) (λt l b hh=>ih hh) h
   case array k e=>obtain⟨b',_,h⟩:=h;exact Y5.shps (S:=Mr P n) (S':=Shp P n) (λt l b hh=>ih hh) h
   all_goals exact h
theorem A71{P:Program}{n:Nat}{t:TypeId}{b:Nat}{z:ByteArray}(hu:P.underlying t=some .string)(h:Mr P n t [.val (.string z)] b):z.size+1<=b:=by
 cases n with
 |zero=>exact h.elim
 |succ n=>
  simp only[Mr,hu]at h;obtain⟨s,h1,_,h2⟩:=h;injection h1 with h1 _
  injection h1 with h1
  injection h1 with h1
  subst h1;exact h2
theorem Azr{P:Program} :∀ {n:Nat} {t:TypeId} {l:List PV} {b:Nat},Mr P n t l b->1<=b:=by
 intro n t l b h;cases n with
 |zero=>exact h.elim
 |succ n=>
  unfold Mr at h;cases hu:P.underlying t with
  |none=>rw[hu]at h;exact h.elim
  |some d=>
   rw[hu]at h;cases d
   case bool=>exact h.1
   case int k=>exact h.1
   case string=>obtain⟨s,_,_,h2⟩:=h;omega
   case slice e=>obtain⟨x,f,_,_,_,h2,_⟩:=h;omega
   case struct fs=>obtain⟨b',h2,_⟩:=h;omega
   case array k e=>obtain⟨b',h2,_⟩:=h;omega
   all_goals exact h.elim
theorem Ber{P:Program}{n:Nat}{t e:TypeId}{b:Nat}{x:LX}(hu:P.underlying t=some (.slice e))(h:Mr P n t [.aO false x] b):∃m f,m<n/\Aoi f x.len+1<=b/\∀i,i<x.len->Mr P m e (x.row i) (f i):=by
 cases n with
 |zero=>exact h.elim
 |succ n=>
  simp only[Mr,hu]at h;obtain⟨y,f,h1,_,_,h2,h3⟩:=h;injection h1 with h1 _
  injection h1 with _ h1
  subst h1;exact⟨n,f,by omega,h2,h3⟩
theorem Bes{P:Program}{n:Nat}{t:TypeId}{l:List PV}{b:Nat}{fs:Array Field}(hu:P.underlying t=some (.struct fs))(h:Mr P n t l b):∃m b',m<n/\b'+1<=b/\Y5 (Mr P m) (fs.toList.map (·.type)) l b':=by
 cases n with
 |zero=>exact h.elim
 |succ n=>
  simp only[Mr,hu]at h;obtain⟨b',h1,h2⟩:=h;exact⟨n,b',by omega,h1,h2⟩
theorem A1r{P:Program}{m:Nat}{t:TypeId}{r:List TypeId}{l:List PV}{b k:Nat}(hw:∀l,Shp P m t l->l.length=k)(h:Y5 (Mr P m) (t::r) l b):∃b1 b2,b1+b2<=b/\Mr P m t (l.take k) b1/\Y5 (Mr P m) r (l.drop k) b2:=by
 obtain⟨a,c,b1,b2,rfl,hb,h1,h2⟩:=h;have:=hw a h1.shp;rw[List.take_left' this,List.drop_left' this];exact⟨b1,b2,hb,h1,h2⟩
theorem Att{α :Type} [Inhabited α]{row: α->List PV}{Q:List PV->Nat->Prop}{g: α->Nat}(hg:∀y b,Q (row y) b->g y<=b):∀ {l:List α} {f:Nat->Nat},(∀i,i<l.length->Q (row (l.getD i default)) (f i))->Iy g l<=Aoi f l.length
 | [],f,_=>by simp[Iy]
 |x::l,f,h=>by
  rw[Iy,List.length_cons,Aoi];have h0:=hg x (f 0) (h 0 (by simp));have h1:=Att (f:=λi=>f (i+1)) hg (l:=l) λi hi=>h (i+1) (by simpa using hi);omega
section
variable {H:Type} {enc:TypeId×Value->H} {P:Program} {w:World} {base:Nat} {spare:Nat->Bool} {held:Bool} {L:List Nat}
theorem Auw:∀(l:List (DataW H)),Aoi (λi=>(l[i]?.map Rows.uptoBulk).getD 0) l.length=Rows.uptoBulkAll l
 | []=>rfl
 |x::l=>by
  rw[List.length_cons,Aoi,Rows.uptoBulkAll,<-Auw l];rfl
theorem Bdj(d:DataW H):1<=Rows.uptoBulk d:=by
 cases d with
 |lit l=>cases l<;>simp[Rows.uptoBulk]
 |nil=>simp[Rows.uptoBulk]
 |ptr d=>simp[Rows.uptoBulk]
 |slice Wh spare=>simp[Rows.uptoBulk]
 |agg parts=>simp[Rows.uptoBulk]
 |iface t d=>simp[Rows.uptoBulk]
 |map entries=>simp[Rows.uptoBulk]
 |held h=>simp[Rows.uptoBulk]
theorem Akz{fuel:Nat}(ih:∀(t:TypeId) (cs:List Value) (x:DataW H×List MemPlace),t∈L->DataW.trod enc P w base spare held fuel t cs=some x->∃l,Rd w l cs/\Mr P fuel t l (Rows.uptoBulk x.1))
  {cs:List Value}{tot:Nat}(hcs:cs.length=tot):
  ∀(fs:List Field) (o:Nat) (xs:List (DataW H×List MemPlace)),Avp P tot fs o=true->(∀f∈fs,f.type∈L)->
   fs.mapM (λf=>DataW.trod enc P w base spare held fuel f.type ((cs.drop f.offset).take (P.cellsOf f.type)))=some xs->
   ∃l,Rd w l (cs.drop o)/\Y5 (Mr P fuel) (fs.map (·.type)) l (Rows.uptoBulkAll (xs.map (·.1)))
 | [],o,xs,hc,_,_=>by
  have:o=tot:=Nat.eq_of_beq_eq_true hc;refine⟨[],?_,rfl⟩;rw[List.drop_of_length_le (by omega)];exact Rd.nil w
 |f::r,o,xs,hc,hk,hm=>by
  simp only[Avp,Bool.and_eq_true]at hc;have ho:f.offset=o:=Nat.eq_of_beq_eq_true hc.1;rw[List.mapM_cons]at hm;cases hx:DataW.trod enc P w base spare held fuel f.type ((cs.drop f.offset).take (P.cellsOf f.type)) with
  |none=>rw[hx]at hm;simp at hm
  |some x=>
   cases hr:r.mapM (λf=>DataW.trod enc P w base spare held fuel f.type ((cs.drop f.offset).take (P.cellsOf f.type))) with
   |none=>rw[hx,hr]at hm;simp at hm
   |some xs'=>
    rw[hx,hr]at hm;obtain rfl:x::xs'=xs:=by simpa using hm
    obtain⟨a,ha,hsa⟩:=ih f.type _ x (hk f (by simp)) hx;obtain⟨b,hb,hsb⟩:=Akz ih hcs r (o+P.cellsOf f.type) xs' hc.2 (λg hg=>hk g (List.mem_cons_of_mem _ hg)) hr;refine⟨a++b,?_,⟨a,b,_,_,rfl,?_,hsa,hsb⟩⟩
    ·have e:cs.drop o=(cs.drop f.offset).take (P.cellsOf f.type)++cs.drop (o+P.cellsOf f.type):=by
      rw[ho,<-List.drop_drop,List.take_append_drop]
     rw[e];exact ha.append hb
    ·rw[List.map_cons,Rows.uptoBulkAll];exact Nat.le_refl _
theorem Aod{fuel:Nat}(ih:∀(t:TypeId) (cs:List Value) (x:DataW H×List MemPlace),t∈L->DataW.trod enc P w base spare held fuel t cs=some x->∃l,Rd w l cs/\Mr P fuel t l (Rows.uptoBulk x.1))
  {cs:List Value}{e:TypeId}(he:e∈L):
  ∀(k s:Nat) (xs:List (DataW H×List MemPlace)),cs.length=(s+k)*P.cellsOf e->
   (List.range' s k).mapM (λi=>DataW.trod enc P w base spare held fuel e ((cs.drop (i*P.cellsOf e)).take (P.cellsOf e)))=some xs->
   ∃l,Rd w l (cs.drop (s*P.cellsOf e))/\Y5 (Mr P fuel) (List.replicate k e) l (Rows.uptoBulkAll (xs.map (·.1)))
 |0,s,xs,hc,_=>by
  refine⟨[],?_,rfl⟩;rw[List.drop_of_length_le (by rw[hc];exact Nat.le_refl _)];exact Rd.nil w
 |k+1,s,xs,hc,hm=>by
  rw[List.range'_succ,List.mapM_cons]at hm;cases hx:DataW.trod enc P w base spare held fuel e ((cs.drop (s*P.cellsOf e)).take (P.cellsOf e)) with
  |none=>rw[hx]at hm;simp at hm
  |some x=>
   cases hr:(List.range' (s+1) k).mapM (λi=>DataW.trod enc P w base spare held fuel e ((cs.drop (i*P.cellsOf e)).take (P.cellsOf e))) with
   |none=>rw[hx,hr]at hm;simp at hm
   |some xs'=>
    rw[hx,hr]at hm;obtain rfl:x::xs'=xs:=by simpa using hm
    obtain⟨a,ha,hsa⟩:=ih e _ x he hx;obtain⟨b,hb,hsb⟩:=Aod ih he k (s+1) xs' (by rw[hc];congr 1;omega) hr;refine⟨a++b,?_,⟨a,b,_,_,rfl,?_,hsa,hsb⟩⟩
    ·have e1:cs.drop (s*P.cellsOf e)=(cs.drop (s*P.cellsOf e)).take (P.cellsOf e)++cs.drop ((s+1)*P.cellsOf e):=by
      rw[Nat.succ_mul,<-List.drop_drop,List.take_append_drop]
     rw[e1];exact ha.append hb
    ·rw[List.map_cons,Rows.uptoBulkAll];exact Nat.le_refl _
theorem A29(hL:Ay6 P L=true)(hmk:Aqp P L):∀(fuel:Nat) (t:TypeId) (cs:List Value) (x:DataW H×List MemPlace),t∈L->DataW.trod enc P w base spare held fuel t cs=some x->∃l,Rd w l cs/\Mr P fuel t l (Rows.uptoBulk x.1)
 |0,_,_,_,_,h=>by simp[DataW.trod]at h
 |fuel+1,t,cs,x,hk,h=>by
  have hok:=List.all_eq_true.mp hL t hk;have h1x:=Bdj x.1;unfold Bdh at hok;unfold Mr;unfold DataW.trod at h;cases hu:P.underlying t with
  |none=>rw[hu]at hok;cases hok
  |some d=>
   cases d
   case bool=>
    simp only[hu]at h ⊢;split at h<;>try simp_all<;>done
    rename_i b _;exact⟨[.val (.bool b)],Rd.one (.val _ rfl) rfl,h1x,b,rfl⟩
   case int k=>
    simp only[hu]at h ⊢;split at h<;>try simp_all<;>done
    rename_i k1 k' n' h1;obtain rfl:k=k1:=by simpa using h1
    split at h
    ·rename_i hh;obtain⟨rfl,hw⟩:=hh;exact⟨[.val (.int _ n')],Rd.one (.val _ rfl) rfl,h1x,n',rfl,hw⟩
    ·simp at h
   case string=>
    simp only[hu]at h ⊢;split at h<;>try simp_all<;>done
    rename_i s _;split at h
    ·rename_i hh;obtain rfl:(DataW.lit (Lit.string s.data.toList),[])=x:=by simpa using h
     exact⟨[.val (.string s)],Rd.one (.val _ rfl) rfl,s,rfl,hh,by rw[Rows.uptoBulk];exact Nat.le_refl _⟩
    ·simp at h
   case slice e=>
    simp only[hu]at h hok ⊢;simp only[Bool.and_eq_true]at hok;have heL:=Agl hok.1;split at h<;>try simp_all<;>done
    ·rename_i h1;obtain⟨y,hy⟩:=Option.isSome_iff_exists.1 hok.2;obtain⟨he,hn⟩:=LX.nil_spec e y hy;refine⟨[.aO false y],Rd.one ?_ rfl,y,λ_=>0,rfl,he,by rw[hn];exact Nat.zero_le _,by rw[hn];simpa[Aoi]using h1x,λi hi=>by rw[hn]at hi;omega⟩;exact Bk.le (.nil false y hn) (.val _ rfl)
    ·rename_i e1 ad len cap h1;obtain rfl:e=e1:=by simpa using h1
     split at h
     ·rename_i hh;obtain⟨hb,hl,hc⟩:=hh;cases hm:(List.range len).mapM (λi=>(w.cells? base (ad.add (i*P.cellsOf e)) (P.cellsOf e)).bind (DataW.trod enc P w base spare held fuel e)) with
      |none=>simp[hm]at h
      |some ys=>
       have hlen:ys.length=len:=by simpa using mapM_some_length hm
       have hbulk:Rows.uptoBulkAll (ys.map (·.1))+1<=Rows.uptoBulk x.1:=by
        rw[hm]at h;rw[Option.bind_some]at h;obtain⟨rest,_,hx⟩:=Option.map_eq_some_iff.1 h;subst hx;show _<=Rows.uptoBulk (DataW.slice _ _)
        rw[Rows.uptoBulk];omega
       have hget:∀i,i<len->∃(cs:List Value) (l:List PV),w.cells? base (ad.add (i*P.cellsOf e)) (P.cellsOf e)=some cs/\Rd w l cs/\Mr P fuel e l (((ys.map (·.1))[i]?.map Rows.uptoBulk).getD 0):=by
        intro i hi;have:=mapM_some_get hm i i (by simp[hi]);rw[List.getElem?_eq_getElem (by omega)]at this;cases hcs:w.cells? base (ad.add (i*P.cellsOf e)) (P.cellsOf e) with
        |none=>simp[hcs]at this
        |some cs=>
         rw[hcs]at this;obtain⟨l,h1,h2⟩:=A29 hL hmk fuel e cs _ heL this;refine⟨cs,l,rfl,h1,?_⟩;rw[List.getElem?_map,List.getElem?_eq_getElem (by omega)];exact h2
       have hch:∃(f:Nat->List PV) (g:Nat->List Value),∀i,i<len->w.cells? base (ad.add (i*P.cellsOf e)) (P.cellsOf e)=some (g i)/\Rd w (f i) (g i)/\Mr P fuel e (f i) (((ys.map (·.1))[i]?.map Rows.uptoBulk).getD 0):=by
        refine⟨λi=>if hi:i<len then Classical.choose (Classical.choose_spec (hget i hi)) else[],λi=>if hi:i<len then Classical.choose (hget i hi) else[],λi hi=>?_⟩;simp only[hi,dif_pos];exact Classical.choose_spec (Classical.choose_spec (hget i hi))
       obtain⟨f,g,hfg⟩:=hch;obtain⟨y,y1,y2,y3,y4⟩:=hmk e fuel len f heL hok.2 (λi hi=>(hfg i hi).2.2.shp);refine⟨[.aO false y],Rd.one ?_ rfl,y,_,rfl,y1,by rw[y2];omega,?_,λi hi=>by rw[y2]at hi;rw[y4 i hi];exact(hfg i hi).2.2⟩
       ·have:=Bk.row (w:=w) (M:=λ_=>none) (β :=λ_=>none) (B:=λb=>b<w.heap.size) (.aO false y) ⟨false,y.e,y.sz,y.len,y.row⟩ rfl (some ad) cap (λi j=>((g i)[j]?).getD undef) (by show y.len<=cap;rw[y2];exact hl)
         (λi _=>LX.row_len _ _) (λ_ _=>⟨ad,rfl⟩) ?_ ?_
        ·simpa only[y2]using this
        ·intro ad' i j p hea hi hp;obtain rfl:ad=ad':=by simpa using hea
         have hi':i<len:=by rw[<-y2];exact hi
         obtain⟨h1,h2,_⟩:=hfg i hi';obtain⟨_,h4,h5⟩:=World.cells?_some h1;have hp':(f i)[j]? =some p:=by rw[<-y4 i hi'];exact hp
         have hj:j<(g i).length:=by
          have:=(List.getElem?_eq_some_iff.mp hp').1;rw[h2.1]at this;exact this
         refine⟨λm hm=>by simp at hm,?_,?_⟩
         ·show w.cell? (ad.add (i*y.sz+j))=_
          rw[y3,<-add_add,h5 j (by omega),List.getElem?_eq_getElem hj];simp
         ·rw[List.getElem?_eq_getElem hj];exact(h2.2 j p _ hp' (List.getElem?_eq_getElem hj)).2
        ·intro i j p hi hp;have hi':i<len:=by rw[<-y2];exact hi
         obtain⟨h1,h2,_⟩:=hfg i hi';have hp':(f i)[j]? =some p:=by rw[<-y4 i hi'];exact hp
         have hj:j<(g i).length:=by
          have:=(List.getElem?_eq_some_iff.mp hp').1;rw[h2.1]at this;exact this
         rw[List.getElem?_eq_getElem hj];exact(h2.2 j p _ hp' (List.getElem?_eq_getElem hj)).1
       ·rw[y2];have e2:=Auw (ys.map (·.1));rw[List.length_map,hlen]at e2;rw[e2];exact hbulk
     ·simp at h
   case struct fs=>
    simp only[hu]at h hok ⊢;simp only[Bool.and_eq_true]at hok;split at h
    ·rename_i hlen;cases hm:fs.toList.mapM (λf=>DataW.trod enc P w base spare held fuel f.type ((cs.drop f.offset).take (P.cellsOf f.type))) with
     |none=>rw[hm]at h;simp at h
     |some xs=>
      rw[hm]at h;obtain⟨l,h1,h2⟩:=Akz (λt cs x=>A29 hL hmk fuel t cs x) hlen fs.toList 0 xs hok.1 (λf hf=>Agl (List.all_eq_true.mp hok.2 f hf)) hm;refine⟨l,by simpa using h1,_,?_,h2⟩;rw[Option.map_some]at h;injection h with h
      subst h;show _<=Rows.uptoBulk (DataW.agg _)
      rw[Rows.uptoBulk];exact Nat.le_refl _
    ·simp at h
   case array k e=>
    simp only[hu]at h hok ⊢;simp only[Bool.and_eq_true]at hok;split at h
    ·rename_i hlen;cases hm:(List.range k).mapM (λi=>DataW.trod enc P w base spare held fuel e ((cs.drop (i*P.cellsOf e)).take (P.cellsOf e))) with
     |none=>rw[hm]at h;simp at h
     |some xs=>
      rw[hm]at h;rw[List.range_eq_range']at hm;obtain⟨l,h1,h2⟩:=Aod (λt cs x=>A29 hL hmk fuel t cs x) (Agl hok.1) k 0 xs (by rw[hlen,Nat.eq_of_beq_eq_true hok.2,Nat.zero_add]) hm;refine⟨l,by simpa using h1,_,?_,h2⟩;rw[Option.map_some]at h;injection h with h
      subst h;show _<=Rows.uptoBulk (DataW.agg _)
      rw[Rows.uptoBulk];exact Nat.le_refl _
    ·simp at h
   all_goals (rw[hu]at hok;cases hok)
def Avi(P:Program)(t:TypeId)(p:PV)(b:Nat):Prop:=∃n,match P.underlying t with
 |some (.struct _)=>∃l,p=.agg l/\Mr P n t l b
 |some (.array _ _)=>∃l,p=.agg l/\Mr P n t l b
 |_=>Mr P n t [p] b
def Ajv(P:Program):List TypeId->List PV->Nat->Prop
 | [],l,_=>l= []
 |t::r,l,b=>∃p q b1 b2,l=p::q/\b1+b2<=b/\Avi P t p b1/\Ajv P r q b2
theorem A7o(hL:Ay6 P L=true)(hmk:Aqp P L){W:World}{r:Go.Reach}{base:Nat}{t:TypeId}{v:Value}{d:DataW H}{ps:List MemPlace}{sp:Nat->Bool}
  (hk:t∈L)(hv:Value.okWide P W r base t v)(h:DataW.Trod enc P W 0 sp true t v d ps):
  ∃p,Avi P t p (Rows.uptoBulk d)/\A5r W p v:=by
 obtain⟨fuel,h⟩:=h;obtain⟨l,hl,hs⟩:=A29 hL hmk fuel t _ _ hk h;rcases Bom (List.all_eq_true.mp hL t hk) hv with⟨cs,e,rfl⟩|⟨e,e',h1,h2⟩
 ·refine⟨.agg l,⟨fuel,?_⟩,?_⟩
  ·rcases e with⟨fs,e⟩|⟨k,u,e⟩<;>rw[e]<;>exact⟨l,rfl,hs⟩
  ·have:A5r W (.agg l) (.agg cs.toList.toArray):=.agg l cs.toList hl.1 (λv hv=>by
     obtain⟨i,hi⟩:=List.getElem?_of_mem hv;have hlt:=(List.getElem?_eq_some_iff.mp hi).1;have hlt':i<l.length:=by have:=hl.1;simp only[Value.cells]at this;omega
     exact(hl.2 i _ v (List.getElem?_eq_getElem hlt') hi).2) (λi p v h1 h2=>(hl.2 i p v h1 h2).1)
   exact this
 ·rw[h1]at hl;have hlen:l.length=1:=hl.1;obtain⟨p,rfl⟩:∃p,l= [p]:=by
   match l,hlen with
   | [p],_=>exact⟨p,rfl⟩
  refine⟨p,⟨fuel,?_⟩,(hl.2 0 p v rfl rfl).1⟩;split
  ·rename_i fs hh;exact absurd hh (e _)
  ·rename_i k u hh;exact absurd hh (e' _ _)
  ·exact hs
theorem Aul(hL:Ay6 P L=true)(hmk:Aqp P L){W:World}{r:Go.Reach}{base:Nat}{sp:Nat->Bool} :
  ∀(ts:List TypeId) (vs:List Value) (ds:List (DataW H)) (ps:List MemPlace),(∀t∈ts,t∈L)->
   (∀(j:Nat) (t:TypeId) (v:Value),ts[j]? =some t->vs[j]? =some v->Value.okWide P W r base t v)->
   DataW.TrodAll enc P W 0 sp true ts vs ds ps->
   ∃l,Ajv P ts l (Rows.uptoBulkAll ds)/\vs.length=l.length/\∀(i:Nat) (p:PV) (v:Value),l[i]? =some p->vs[i]? =some v->A5r W p v
 | [],vs,ds,ps,_,_,h=>by
  obtain⟨rfl,rfl,rfl⟩:=trodAll_nil h;exact⟨[],rfl,rfl,λi p v h=>by simp at h⟩
 |t::ts,vs,ds,ps,hk,hv,h=>by
  obtain⟨v,vs',d,ds',p,q,rfl,rfl,rfl,h1,h2⟩:=trodAll_cons h;obtain⟨a,ha,hra⟩:=A7o hL hmk (hk t (by simp)) (hv 0 t v rfl rfl) h1;obtain⟨l,hl,hlen,hr⟩:=Aul hL hmk ts vs' ds' q (λt ht=>hk t (by simp[ht])) (λj t v h1 h2=>hv (j+1) t v (by simpa using h1) (by simpa using h2)) h2;refine⟨a::l,⟨a,l,_,_,rfl,by rw[Rows.uptoBulkAll];exact Nat.le_refl _,ha,hl⟩,by simp[hlen],λi p v hp hv=>?_⟩;cases i with
  |zero=>simp at hp hv;subst hp;subst hv;exact hra
  |succ i=>exact hr i p v (by simpa using hp) (by simpa using hv)
theorem As9(hLk:Ay6 P L=true)(hmk:Aqp P L){f:Nat}{fn:Func}{s:ChangeSpec}{tb:TypeId}{W:World}{base:Nat}{args:Array Value}{ds gs:List (DataW H)}{before:List MemPlace}
  (hl:laidOutB P=true)(hpar:(fn.params.toList.all (Bfd P L))=true)(hvars:s.vars= [])(hres:fn.resultTypes= #[tb])(htb:P.underlying tb=some .bool)
  (hs:∀ds:List (DataW H),ds.length=fn.params.toList.length->s.fn H (ds++ [])= { results:= [.lit (.bool true)],args:=ds })
  (hh:∀l b,b<=1048576->Ajv P fn.params.toList l b->Holds P f l (.val (.bool true)))
  (hval:∀(j:Nat) t v,fn.params[j]? =some t->args[j]? =some v->Value.okWide P W .any base t v)
  {apart fresh handsOn again:Bool}(hgl:Ajk (λ_=>none) (D7.all W))
  (hW:DataW.Whole enc P fn.params.toList s.vars apart W args.toList ds gs before)(hk:Rows.uptoSmall H (ds++gs)=true):
  Calls P f args W λe W'=>∃v,e=.returned v/\s.post enc P fn apart fresh handsOn again W args v W':=by
 have hp:∀t∈fn.params.toList,t∈L/\P.readableRec t=true/\t<P.types.size:=by
  intro t ht;have:=List.all_eq_true.mp hpar t ht;simp only[Bfd,Bool.and_eq_true,decide_eq_true_eq]at this;exact⟨Agl this.1.1,this.1.2,this.2⟩
 have hW':=hW;obtain⟨p,q,hA,hV,rfl,hfz,hnd⟩:=hW;rw[hvars]at hV;obtain⟨rfl,rfl⟩:=trodVars_none hV;obtain⟨l,hl1,hl2,hl3⟩:=Aul hLk hmk fn.params.toList args.toList ds p (λt ht=>(hp t ht).1) (λj t v h1 h2=>hval j t v (by simpa using h1) (by simpa using h2)) hA;have hlen:ds.length=fn.params.toList.length:=by
  clear hl1 hl2 hl3 hW' hfz hnd hval hk;generalize fn.params.toList=ts at hA;generalize args.toList=vs at hA
  induction ts generalizing vs ds p with
  |nil=>obtain⟨_,rfl,_⟩:=trodAll_nil hA;rfl
  |cons t ts ih=>
   obtain⟨v,vs',d,ds',p,q,rfl,rfl,rfl,h1,h2⟩:=trodAll_cons hA;simp[ih _ _ h2]
 rw[List.append_nil]at hk;have hc:=hh l _ (of_decide_eq_true hk) hl1 W (λ_=>none) args.toList hl2 hl3 (λb n h=>by simp at h) hgl;rw[Array.toArray_toList]at hc;refine hc.mono λe W' ⟨v,he,hr,hb⟩=>⟨v,he,?_⟩;obtain rfl:v=.bool true:=by exact hr.val_eq
 have hlt:∀x∈p,x.block<W.heap.size:=λx hx=>hW'.lt x (by simpa using hx);refine A1f (pa:=p) (pv:= []) hW' ?_ ?_ ?_ rfl hb (ok_one hres rfl (okWide_bool_mk htb _))
 ·intro b sp hd;rw[hs ds hlen,hres];exact trodAll_cons_mk (shut_bool htb _) trodAll_mk0
 ·intro sp hsp;rw[hs ds hlen];exact Axu hl hb _ _ _ _ (λt ht=>(hp t ht).2) hA hlt (λx hx=>hsp x (by simpa using hx))
 ·intro sp _;rw[hs ds hlen,hvars];rfl
end
structure RT (P:Program) (N:Nat) (t:TypeId) (c:Nat) {α :Type} (w: α->List PV) (ok: α->Prop) (bk: α->Nat):Prop where
 mi:∀n,n<N->∀l,Shp P n t l->∃y,l=w y
 len:∀y,(w y).length=c
 ok:∀n,n<N->∀y,Shp P n t (w y)->ok y
 bp:∀n,n<N->∀y b,Mr P n t (w y) b->bk y<=b
structure RY (P:Program) (N:Nat) (ts:List TypeId) (c:Nat) {α :Type} (w: α->List PV) (ok: α->Prop) (bk: α->Nat):Prop where
 mi:∀n,n<N->∀l,Au5 (Shp P n) ts l->∃y,l=w y
 len:∀y,(w y).length=c
 ok:∀n,n<N->∀y,Au5 (Shp P n) ts (w y)->ok y
 bp:∀n,n<N->∀y b,Y5 (Mr P n) ts (w y) b->bk y<=b
abbrev RTi(P:Program)(t:TypeId)(k:IntKind):Prop:=∀N,RT P N t 1 (λx=> [.val (.int k x)]) (okI k) λ_=>1
abbrev RTb(P:Program)(t:TypeId):Prop:=∀N,RT P N t 1 (λx=> [.val (.bool x)]) (λ_=>True) λ_=>1
abbrev RTt(P:Program)(t:TypeId):Prop:=∀N,RT P N t 1 (λx=> [.val (.string x)]) okS λx=>x.size+1
abbrev RTs(P:Program)(t:TypeId){α :Type}(K:List α->LX)(ok: α->Prop)(bk: α->Nat):Prop:=∀N,RT P N t 1 (λx=> [.aO false (K x)]) (λx=>x.length<=maxLen/\∀y∈x,ok y) λx=>Iy bk x+1
section
variable {P:Program} {N:Nat} {t e:TypeId} {c c':Nat} {ts:List TypeId} {α β γ :Type} {w: α->List PV} {ok: α->Prop} {bk: α->Nat} {w': β->List PV} {ok': β->Prop} {bk': β->Nat}
theorem RT.int{k:IntKind}(hu:P.underlying t=some (.int k))(N:Nat):RT P N t 1 (λx=> [.val (.int k x)]) (okI k) λ_=>1:=
 ⟨λn _ l h=>by obtain⟨z,h,_⟩:=A3h hu h;exact⟨z,h⟩,λ_=>rfl,λn _ y h=>Bju hu h,λn _ y b h=>Azr h⟩
theorem RT.bool(hu:P.underlying t=some .bool)(N:Nat):RT P N t 1 (λx=> [.val (.bool x)]) (λ_=>True) λ_=>1:=
 ⟨λn _ l h=>by obtain⟨z,h⟩:=A72 hu h;exact⟨z,h⟩,λ_=>rfl,λn _ y h=>trivial,λn _ y b h=>Azr h⟩
theorem RT.str(hu:P.underlying t=some .string)(N:Nat):RT P N t 1 (λx=> [.val (.string x)]) okS λx=>x.size+1:=
 ⟨λn _ l h=>by obtain⟨z,h,_⟩:=A3i hu h;exact⟨z,h⟩,λ_=>rfl,λn _ y h=>Bjv hu h,λn _ y b h=>A71 hu h⟩
theorem RT.dn(h:RT P (N+1) t c w ok bk):RT P N t c w ok bk:=⟨λn hn=>h.mi n (by omega),h.len,λn hn=>h.ok n (by omega),λn hn=>h.bp n (by omega)⟩
theorem RT.zero(h:∀y,(w y).length=c:=by intro y;rfl):RT P 0 t c w ok bk:=⟨λn hn=>by omega,h,λn hn=>by omega,λn hn=>by omega⟩
theorem RT.sl [Inhabited α]{K:List α->LX}{f:RF α}{g:LX->Option (List α)}{z:Nat} [k:TL K g e z] [q:TG K f](hu:P.underlying t=some (.slice e))(h:RT P N e c f.w ok bk):
  RT P (N+1) t 1 (λx=> [.aO false (K x)]) (λx=>x.length<=maxLen/\∀y∈x,ok y) λx=>Iy bk x+1:=
 ⟨λn _ l h=>by
  obtain⟨x,h1,h2,_⟩:=A73 hu h;obtain⟨y,rfl⟩:=k.of x h2;exact⟨y,h1⟩,λ_=>rfl,λn hn y h1=>by
  obtain⟨h2,m,hm,h3⟩:=Boo hu h1;rw[k.len]at h2 h3;exact⟨h2,λz hz=>h.ok m (by omega) z (A5u (row:=f.w) (Q:=Shp P m e) (λi hi=>by have:=h3 i hi;rwa[q.row]at this) z hz)⟩,λn hn y b h1=>by
  obtain⟨m,fn,hm,h2,h3⟩:=Ber hu h1;rw[k.len]at h2 h3;have:=Att (row:=f.w) (Q:=Mr P m e) (g:=bk) (h.bp m (by omega)) (l:=y) (f:=fn) λi hi=>by have:=h3 i hi;rwa[q.row]at this
  show Iy bk y+1<=b
  omega⟩
theorem RT.to(h:RT P N t c w ok bk){ok2: α->Prop}(h2:∀y,ok y->ok2 y):RT P N t c w ok2 bk:=⟨h.mi,h.len,λn hn y hy=>h2 y (h.ok n hn y hy),h.bp⟩
theorem RT.o(h:RT P N t c w ok bk):RY P N [t] c w ok bk:=
 ⟨λn hn l ⟨a,b,e1,h1,e2⟩=>by
  obtain⟨y,rfl⟩:=h.mi n hn a h1;exact⟨y,by rw[e1,show b= []from e2,List.append_nil]⟩,h.len,λn hn y ⟨a,b,e1,h1,e2⟩=>by
  rw[show b= []from e2,List.append_nil]at e1;rw[<-e1]at h1;exact h.ok n hn y h1,λn hn y b ⟨a,d,b1,b2,e1,hb,h1,e2⟩=>by
  rw[show d= []from e2,List.append_nil]at e1;rw[<-e1]at h1;have:=h.bp n hn y b1 h1;omega⟩
theorem RT.a(h:RT P N t c w ok bk)(h':RY P N ts c' w' ok' bk'):RY P N (t::ts) (c+c') (λx: α×β =>w x.1++w' x.2) (λx=>ok x.1/\ok' x.2) λx=>bk x.1+bk' x.2:=by
 have hw:∀n,n<N->∀l,Shp P n t l->l.length=c:=λn hn l hl=>by
  obtain⟨y,rfl⟩:=h.mi n hn l hl;exact h.len y
 refine⟨λn hn l ⟨a,b,e1,h1,h2⟩=>?_,λy=>by rw[List.length_append,h.len,h'.len],λn hn y hy=>?_,λn hn y b hy=>?_⟩
 ·obtain⟨y,rfl⟩:=h.mi n hn a h1;obtain⟨z,rfl⟩:=h'.mi n hn b h2;exact⟨(y,z),e1⟩
 ·obtain⟨h1,h2⟩:=A43 (hw n hn) hy;rw[List.take_left' (h.len _)]at h1;rw[List.drop_left' (h.len _)]at h2;exact⟨h.ok n hn _ h1,h'.ok n hn _ h2⟩
 ·obtain⟨b1,b2,hb,h1,h2⟩:=A1r (hw n hn) hy;rw[List.take_left' (h.len _)]at h1;rw[List.drop_left' (h.len _)]at h2;have:=h.bp n hn _ _ h1;have:=h'.bp n hn _ _ h2;show bk y.1+bk' y.2<=b
  omega
theorem RY.st{fs:Array Field}(hu:P.underlying t=some (.struct fs))(h:RY P N ts c w ok bk)(g: α->γ)(s: γ->α){W: γ->List PV}{OK: γ->Prop}{BK: γ->Nat}(hts:fs.toList.map (·.type)=ts:=by rfl)(hW:∀y,W y=w (s y):=by intro y;rfl)
  (hg:∀a,s (g a)=a:=by intro a;rfl)(hok:∀y,ok (s y)->OK y:=by intro y h;exact h)(hbk:∀y,BK y=bk (s y)+1:=by intro y;rfl):RT P (N+1) t c W OK BK:=by
 subst hts;refine⟨λn hn l hl=>?_,λy=>by rw[hW];exact h.len _,λn hn y hy=>?_,λn hn y b hy=>?_⟩
 ·obtain⟨m,hm,h1⟩:=A74 hu hl;obtain⟨a,rfl⟩:=h.mi m (by omega) l h1;exact⟨g a,by rw[hW,hg]⟩
 ·obtain⟨m,hm,h1⟩:=A74 hu hy;rw[hW]at h1;exact hok y (h.ok m (by omega) _ h1)
 ·obtain⟨m,b',hm,hb,h1⟩:=Bes hu hy;rw[hW]at h1;have:=h.bp m (by omega) _ _ h1;rw[hbk];omega
theorem RT.rd(h:∀N,RT P N t c w ok bk){n:Nat}{l:List PV}{b:Nat}(hl:Mr P n t l b):∃y,l=w y/\ok y/\bk y<=b:=by
 obtain⟨y,rfl⟩:=(h (n+1)).mi n (by omega) l hl.shp;exact⟨y,rfl,(h (n+1)).ok n (by omega) y hl.shp,(h (n+1)).bp n (by omega) y b hl⟩
theorem RT.rows [Inhabited α]{K:List α->LX}{f:RF α}{g:LX->Option (List α)}{z:Nat} [k:TL K g e z] [q:TG K f](h:∀N,RT P N e c f.w ok bk)(hc:z=P.cellsOf e:=by kernel_rfl){n m:Nat}{fn:Nat->List PV}(hf:∀i,i<m->Shp P n e (fn i)):
  ∃x:LX,x.e=e/\x.len=m/\x.sz=P.cellsOf e/\∀i,i<m->x.row i=fn i:=by
 obtain⟨l,h1,h2⟩:=Bc4 f.w m fn λi hi=>(h (n+1)).mi n (by omega) _ (hf i hi);exact⟨K l,k.e _,by rw[k.len];exact h1,by rw[k.sz];exact hc,λi hi=>by rw[q.row];exact h2 i hi⟩
end
end Go.Proofs.YtgacplpjamkieaaGreat.Ev
