/-  Operations: slices of slices, maps, calls. -/
import Derived.Test.YtgacplpjamkieaaGreatHFE
import Derived.DeepKeys
import Derived.MapKept
set_option linter.unusedVariables false
set_option linter.unusedSimpArgs false
set_option linter.unnecessarySimpa false
namespace Go.Proofs.YtgacplpjamkieaaGreat.Ev
open Go Go.RowKit
section
variable {ι :Type} {cx: ι->PV×Value} {P:Program} {w0:D7} {w:World} {N M:Jw} {β :Kh} {nt:Nat} {st:St} {a:Act} {o:Oper} {δ :B2} {ban:List Nat}
theorem n3(h:SR cx w0 N nt st a w M β){d n:Int}{x:Option Operand}(hx:st.bnd d x=some n):(x=none/\n=d)\/∃y k,x=some y/\a.eval y=.int k n:=by
 unfold St.bnd at hx;cases x with
 |none=>injection hx with hx;exact .inl ⟨rfl,hx.symm⟩
 |some y=>
  simp only at hx;split at hx
  ·rename_i k m hy;injection hx with hx
   subst hx;have:=h.aM y;rw[hy]at this;exact .inr ⟨y,k,rfl,this.val_eq⟩
  ·cases hx
theorem Rr(k:IntKind){i:Int}{y:Nat}(code:BoundsCode)(h0:0<=i)(h1:i<=y):(Instr.sliceBound (.int k i) y code).run P w=.ok i.toNat w:=by
 simp[Instr.sliceBound,asIntOf,h0,h1]
theorem Ats(h:SR cx w0 N nt st a w M β){n c:Nat}{l hh m:Int}{lo hi mx:Option Operand}(hc:n<=c)(hm:st.bnd n mx=some m)(hhi:st.bnd n hi=some hh)(hl:st.bnd 0 lo=some l)
  (h0:0<=l)(h1:l<=hh)(h2:hh<=m)(h3:m<=n)(hmx:hi=none->mx=none)(b:Bool):
  ∃m',(Instr.sliceBounds b n c (lo.map a.eval) (hi.map a.eval) (mx.map a.eval)).run P w=.ok (l.toNat,hh.toNat,m') w/\hh.toNat<=m'/\(mx≠none->m'=m.toNat):=by
 rcases n3 h hm with⟨rfl,rfl⟩|⟨ym,km,rfl,em⟩
 ·refine⟨c,?_,by omega,λh=>absurd rfl h⟩;rcases n3 h hhi with⟨rfl,rfl⟩|⟨yh,kh,rfl,eh⟩
  ·rcases n3 h hl with⟨rfl,rfl⟩|⟨yl,kl,rfl,el⟩
   ·simp[Instr.sliceBounds]
   ·simp only[Instr.sliceBounds,Option.map_none,Option.map_some,Sem.run_bind,Sem.run_pure,Result.andThen_ok,el];rw[Rr kl _ h0 h1];simp
  ·rcases n3 h hl with⟨rfl,rfl⟩|⟨yl,kl,rfl,el⟩
   ·simp only[Instr.sliceBounds,Option.map_none,Option.map_some,Sem.run_bind,Sem.run_pure,Result.andThen_ok,eh];rw[Rr kh _ (by omega) (by omega)];simp
   ·simp only[Instr.sliceBounds,Option.map_none,Option.map_some,Sem.run_bind,Sem.run_pure,Result.andThen_ok,eh,el];rw[Rr kh _ (by omega) (by omega)];simp only[Result.andThen_ok];rw[Rr kl _ h0 (by omega)];simp
 ·rcases n3 h hhi with⟨rfl,rfl⟩|⟨yh,kh,rfl,eh⟩
  ·exact absurd (hmx rfl) (by simp)
  ·refine⟨m.toNat,?_,by omega,λ_=>rfl⟩;rcases n3 h hl with⟨rfl,rfl⟩|⟨yl,kl,rfl,el⟩
   ·simp only[Instr.sliceBounds,Option.map_none,Option.map_some,Sem.run_bind,Sem.run_pure,Result.andThen_ok,eh,em];rw[Rr km _ (by omega) (by omega)];simp only[Result.andThen_ok];rw[Rr kh _ (by omega) (by omega)];simp
   ·simp only[Instr.sliceBounds,Option.map_none,Option.map_some,Sem.run_bind,Sem.run_pure,Result.andThen_ok,eh,el,em];rw[Rr km _ (by omega) (by omega)];simp only[Result.andThen_ok];rw[Rr kh _ (by omega) (by omega)];simp only[Result.andThen_ok];rw[Rr kl _ h0 (by omega)];simp
theorem Bey{B:Nat->Prop}{own:Bool}{y:LX}{A:Option Addr}{n c:Nat}(h:Bk w M β B (.aO own y) (.slice A n c))(own':Bool)(l hh m:Nat)(h1:l<=hh)(h2:hh<=y.len)(h3:hh<=m):
  Bk w M β B (.aO own' (y.sub l hh)) (sliced A l hh m y.sz):=by
 obtain⟨s1,s2,s3,s4⟩:=LX.sub_spec y l hh h2;have go:∀(p:PV) (v:Value),p.sv=some ⟨own,y.e,y.sz,y.len,y.row⟩->Bk w M β B p v->v=.slice A n c->Bk w M β B (.aO own' (y.sub l hh)) (sliced A l hh m y.sz):=by
  intro p v hp h hv;cases h with
  |row p s hs A' c' vs hc hsz ha hm hr=>
   rw[hp]at hs;injection hs with hs;subst hs
   injection hv with e1 e2 e3
   subst e1;have key:∀(a':Option Addr),(∀i,i<hh-l->∃ad ad0,a'=some ad/\A'=some ad0/\ad=ad0.add (l*y.sz))->Bk w M β B (.aO own' (y.sub l hh)) (.slice a' (hh-l) (m-l)):=by
    intro a' hA;have:=Bk.row (w:=w) (M:=M) (β := β) (B:=B) (.aO own' (y.sub l hh)) ⟨own',(y.sub l hh).e,(y.sub l hh).sz,(y.sub l hh).len,(y.sub l hh).row⟩ rfl a' (m-l) (λi j=>vs (l+i) j) (by simp only[s3];omega)
     (λi hi=>LX.row_len _ _) (λi hi=>by simp only[s3]at hi;obtain⟨ad,_,h,_⟩:=hA i hi;exact⟨ad,h⟩)
     (λad i j q had hi hq=>by
      simp only[s3]at hi;simp only[s4 i hi]at hq;obtain⟨ad',ad0,e1,e2,e3⟩:=hA i hi;rw[e1]at had;injection had with had
      subst had;obtain⟨g1,g2,g3⟩:=hm ad0 (l+i) j q e2 (by show l+i<y.len;omega) hq;simp only[s2];rw[e3,add_add,show l*y.sz+(i*y.sz+j)=(l+i)*y.sz+j by rw[Nat.add_mul];omega];exact⟨g1,g2,g3⟩)
     (λi j q hi hq=>by
      simp only[s3]at hi;simp only[s4 i hi]at hq;exact hr (l+i) j q (by show l+i<y.len;omega) hq)
    simpa only[s3]using this
   unfold sliced;by_cases hml:m=l
   ·rw[if_pos hml];exact key _ (λi hi=>by omega)
   ·rw[if_neg hml];refine key _ (λi hi=>?_);obtain⟨ad,had⟩:=ha (l+i) (by show l+i<y.len;omega);exact⟨ad.add (l*y.sz),ad,by rw[had];rfl,had,rfl⟩
  |_=>cases hp
 exact go _ _ rfl h rfl
theorem A8b(h:SR cx w0 N nt st a w M β)(hd:∀x,o.dst=some x->x<nt)(t e sz:Nat)(x:Operand)(lo hi mx:Option Operand)(ho:o.op=.slice t x lo hi mx)(hu:P.underlying t=some (.slice e))(hsz:szT P e=some sz)
  (hmx:hi=none->mx=none)(own:Bool)(y:LX)(hx:st.aM x=.aO own y)(hys:sz=y.sz){l hh m:Int}(hm:st.bnd y.len mx=some m)(hhi:st.bnd y.len hi=some hh)(hl:st.bnd 0 lo=some l)
  (h0:0<=l)(h1:l<=hh)(h2:hh<=m)(h3:m<=(y.len:Int))(h4:mx.isSome=true->m<=hh):
  E9 cx P w0 N nt st a w o (dput o.dst (.aO mx.isSome (y.sub l.toNat hh.toNat))):=by
 have hxr:=h.aM x;rw[hx]at hxr;have hv:∃A c,a.eval x=.slice A y.len c/\y.len<=c:=by
  obtain⟨A,c,_,q,hc,_⟩:∃A c,True/\a.eval x=.slice A y.len c/\y.len<=c/\True:=by
   have go:∀(p:PV) (v:Value),p.sv=some ⟨own,y.e,y.sz,y.len,y.row⟩->Bk w M β w0.old p v->∃A c,True/\v=.slice A y.len c/\y.len<=c/\True:=by
    intro p v hp h;cases h with
    |row p s hs A c vs hc=>
     rw[hp]at hs;injection hs with hs;subst hs
     exact⟨A,c,trivial,rfl,hc,trivial⟩
    |_=>cases hp
   exact go _ _ rfl hxr
  exact⟨A,c,q,hc⟩
 obtain⟨A,c,hv,hc⟩:=hv;obtain⟨ie,hie,hies⟩:=Abp hsz;obtain⟨m',hb,hm1,hm2⟩:=Ats (P:=P) h hc hm hhi hl h0 h1 h2 h3 hmx true;have helem:P.elem t=e:=by simp[Program.elem,hu]
 have hrun:(execOp a.eval o).run P w=.ok (.value (sliced A l.toNat hh.toNat m' y.sz)) w:=by
  simp only[execOp,ho,Sem.run_bind,Sem.run_pure,Result.andThen_ok,hv];rw[run_sliceAt_slice w t _ _ _ _ (by rw[helem];exact hu),run_slice_any w t _ _ _ (by rw[helem];exact hu),hb,helem];simp[sizeOf,typeInfo,hie,hies,hys]
 rw[hv]at hxr;have hrel:=λown'=>Bey hxr own' l.toNat hh.toNat m' (by omega) (by omega) hm1;cases hdst:o.dst with
 |none=>
  intro K Q hK;refine L4 hrun ?_;rw[hdst];exact hK _ _ _ _ h
 |some d=>
  refine I6 h hd hdst (st0:=st) (h.sh.cons _ _ (hrel _) (λs h1' h2'=>?_)) hrun (λs=>Gc st d s _) (λ_=>rfl) (λ_ h=>h);have hz:∃a',sliced A l.toNat hh.toNat m' y.sz=.slice a' s.n s.n:=by
   injection h1' with h1'
   subst h1';have hm0:=h4 h2';have e1:=hm2 (by intro e;rw[e]at h2';cases h2');have:m'=hh.toNat:=by omega
   obtain⟨_,_,s3,_⟩:=LX.sub_spec y l.toNat hh.toNat (by omega);subst this;refine⟨if hh.toNat=l.toNat then A else A.map λx=>x.add (l.toNat*y.sz),?_⟩;simp only[sliced,s3]
  obtain⟨a',hz⟩:=hz;rw[hz];exact⟨.inl ⟨a',rfl⟩,λkey s' v' g _ hg=>absurd hg Adq,λg d n hg=>absurd hg Adq⟩
theorem A5b(h:SR cx w0 N nt st a w M β)(hd:∀x,o.dst=some x->x<nt)(t:Nat)(x:Operand)(lo hi:Option Operand)(ho:o.op=.slice t x lo hi none)(hu:P.underlying t=some .string)
  (s:ByteArray)(hx:st.aM x=.val (.string s)){l hh:Int}(hhi:st.bnd s.size hi=some hh)(hl:st.bnd 0 lo=some l)(h0:0<=l)(h1:l<=hh)(h2:hh<=(s.size:Int)):
  E9 cx P w0 N nt st a w o (dput o.dst (.val (.string (s.extract l.toNat hh.toNat)))):=by
 have hxr:=h.aM x;rw[hx]at hxr;have hv:a.eval x=.string s:=hxr.val_eq;obtain⟨m',hb,_,_⟩:=Ats (P:=P) (mx:=none) h (Nat.le_refl s.size) rfl hhi hl h0 h1 h2 (Int.le_refl _) (λ_=>rfl) false;refine C1 h hd _ _ w (Below.refl _ _) ?_ (.val _ rfl) (Hx rfl);simp only[Option.map_none]at hb;simp only[execOp,ho,Sem.run_bind,Sem.run_pure,Result.andThen_ok,hv,Option.map_none];rw[run_sliceAt_string w t _ _ _ _ hu];simp only[Instr.slice,Sem.run_bind,run_underlying hu,Result.andThen_ok,Option.isSome_none,Bool.false_eq_true,if_false];rw[hb];simp
theorem A49(h:SR cx w0 N nt st a w M β)(hd:∀x,o.dst=some x->x<nt)(src dst e:Nat)(x:Operand)(ho:o.op=.convert src dst x)(hs:P.underlying src=some (.slice e))(he:P.underlying e=some (.int .u8))(ht:P.underlying dst=some .string)
  (own:Bool)(y:LX)(hx:st.aM x=.aO own y)(s:ByteArray)(hy:y.str=some s):E9 cx P w0 N nt st a w o (dput o.dst (.val (.string s))):=by
 have hxr:=h.aM x;rw[hx]at hxr;obtain⟨l,rfl,hl,hsz,hrow⟩:=LX.str_spec hy;obtain⟨A,c,xs,q1,q2,q3,q4,q5,q6,q7,q8⟩:=U7 (p:=.aO own y) (s:=⟨own,y.e,y.sz,y.len,y.row⟩) rfl (by show 1<=y.sz;omega) hxr;have hxs:xs=l.map (Value.int .u8):=by
  have q3:xs.length=y.len*y.sz:=q3;rw[hsz,hl,Nat.mul_one]at q3;apply List.ext_getElem?;intro i;by_cases hi:i<l.length
  ·obtain⟨u,k1,k2,_⟩:=q8 i 0 (.val (.int .u8 (l.getD i 0))) (by show i<y.len;omega) (by show(y.row i)[0]? =_;rw[hrow i hi];rfl);have k1:xs[i*y.sz+0]? =some u:=k1;rw[hsz,Nat.mul_one,Nat.add_zero]at k1;rw[k1,k2.val_eq,List.getElem?_map,List.getElem?_eq_getElem hi,List.getD,List.getElem?_eq_getElem hi];rfl
  ·rw[List.getElem?_eq_none (by omega),List.getElem?_eq_none (by simp;omega)]
 refine C1 h hd _ _ w (Below.refl _ _) ?_ (.val _ rfl) (Hx rfl);have q1:a.eval x=.slice A y.len c:=q1;simp only[execOp,ho,Sem.run_bind,Sem.run_pure,Result.andThen_ok,q1];cases A with
 |none=>
  rw[run_convert_bytes_nil w src e hs he _ _ dst ht];have:l= []:=by
   rcases Nat.eq_zero_or_pos l.length with h|h
   ·exact List.eq_nil_of_length_eq_zero h
   ·obtain⟨ad,e⟩:=q6 (by show 0<y.len;omega);cases e
  subst this;rfl
 |some ad=>
  have hc:(loadCells ad y.len).run P w=.ok (l.map (Value.int .u8)).toArray w:=by
   have:=run_loadCells_list (P:=P) w ad (l.map (Value.int .u8)) (λj v hj=>q4 ad j v rfl (by rw[hxs];exact hj));rw[List.length_map,<-hl]at this;exact this
  rw[run_convert_bytes_string w src dst e _ y.len c hs he ht,run_bytesToString w ad y.len c l hc,foldl_push_bytes];simp[strOfNums,ByteArray.empty,ByteArray.emptyWithCapacity];rfl
theorem A1s(h:SR cx w0 N nt st a w M β)(hd:∀x,o.dst=some x->x<nt)(src dst e:Nat)(x:Operand)(ho:o.op=.convert src dst x)(hs:P.underlying src=some (.slice e))(he:P.underlying e=some (.int .u8))(ht:P.underlying dst=some .string)
  (hx:st.aM x=.val (.slice none 0 0)):E9 cx P w0 N nt st a w o (dput o.dst (.val (.string ByteArray.empty))):=by
 have hxr:=h.aM x;rw[hx]at hxr;have hv:a.eval x=.slice none 0 0:=hxr.val_eq;refine C1 h hd _ _ w (Below.refl _ _) ?_ (.val _ rfl) (Hx rfl);simp only[execOp,ho,Sem.run_bind,Sem.run_pure,Result.andThen_ok,hv];rw[run_convert_bytes_nil w src e hs he _ _ dst ht];rfl
theorem Aj6{B0:Nat->Prop}{l:List PV}{cs:List Value}(hl:l.length=cs.length)(hr:∀(i:Nat) (p:PV) (v:Value),l[i]? =some p->cs[i]? =some v->Bk w M β B0 p v){o:Nat}{v:Value}(h:Lq l o=.val v):cs[o]? =some v:=by
 induction l generalizing cs o with
 |nil=>simp[Lq]at h
 |cons p r ih=>
  cases cs with
  |nil=>simp at hl
  |cons c cs=>
   cases o with
   |zero=>
    simp only[Lq]at h;subst h;have:=(hr 0 _ c rfl rfl).val_eq;rw[this];rfl
   |succ o=>
    have:=ih (cs:=cs) (o:=o) (by simpa using hl) (λi p v h1 h2=>hr (i+1) p v (by simpa using h1) (by simpa using h2)) (by simpa[Lq]using h);simpa using this
theorem Ai7{t tag:Nat}(h:Ahl P t=some tag):P.plainKey t=true:=by
 unfold Ahl at h;unfold Program.plainKey;split at h<;>simp_all
theorem Ax5{B0:Nat->Prop}{l m:List PV}{xs ys:List Value}(h1:l.length=xs.length)(r1:∀(i:Nat) (p:PV) (v:Value),l[i]? =some p->xs[i]? =some v->Bk w M β B0 p v)
  (h2:m.length=ys.length)(r2:∀(i:Nat) (p:PV) (v:Value),m[i]? =some p->ys[i]? =some v->Bk w M β B0 p v)(d:Nat)(w':World):
  ∀(fs:List Field) (ts:List (Nat×Nat)) (b:Bool),Aio P fs=some ts->Ain ts l m=some b->(Op.eqFields (d+1) xs.toArray ys.toArray fs).run P w'=.ok b w'
 | [],ts,b,ht,hb=>by
  simp only[Aio,Option.some.injEq]at ht;subst ht;simp only[Ain,Option.some.injEq]at hb;subst hb;simp[Op.eqFields]
 |f::fs,ts,b,ht,hb=>by
  simp only[Aio]at ht;split at ht
  ·rename_i tag l' hn htag htl;simp only[Option.some.injEq]at ht;subst ht;simp only[Ain]at hb;cases hr:Ain l' l m with
   |none=>rw[hr]at hb;cases hb
   |some t=>
    rw[hr]at hb;simp only at hb;have ih:=Ax5 h1 r1 h2 r2 d w' fs l' t htl hr;have hnm:f.name≠ "_" :=by simpa using hn
    have hp:=Ai7 htag;have fin:∀(u v:Value) (r:Bool),Lq l f.offset=.val u->Lq m f.offset=.val v->(Op.equalIn (d+1) f.type u v).run P w'=.ok r w'->(Op.eqFields (d+1) xs.toArray ys.toArray (f::fs)).run P w'=.ok (r && t) w':=by
     intro u v r hu hv hrun;have hx:xs.toArray[f.offset]? =some u:=by simpa using Aj6 h1 r1 hu
     have hy:ys.toArray[f.offset]? =some v:=by simpa using Aj6 h2 r2 hv
     simp only[Op.eqFields,hnm,ne_eq,not_false_eq_true,if_true,Sem.run_bind,run_part_plain w' hp hx,run_part_plain w' hp hy,hrun,Result.andThen_ok];cases r
     ·simp
     ·simpa using ih
    unfold Ahl at htag;split at hb
    ·rename_i u v hu hv;simp only[Option.some.injEq]at hb;subst hb;split at htag<;>first|(exact absurd htag (by decide))|skip
     rename_i hty;exact fin _ _ _ hu hv (run_equalIn_bool w' d _ u v hty)
    ·rename_i k u k' v hu hv;split at hb
     ·rename_i hkk;have hkk':k=k':=of_decide_eq_true hkk;subst hkk';simp only[Option.some.injEq]at hb;subst hb;split at htag<;>first|(exact absurd htag (by decide))|skip
      rename_i k2 hty;exact fin _ _ _ hu hv (run_equalIn_int w' d _ k k2 u v hty)
     ·cases hb
    ·rename_i u v hu hv;simp only[Option.some.injEq]at hb;subst hb;split at htag<;>first|(exact absurd htag (by decide))|skip
     rename_i hty;exact fin _ _ _ hu hv (by simp[Op.equalIn,run_underlying hty])
    ·cases hb
  ·cases ht
theorem Avu{t:TypeId}{ts:List (Nat×Nat)}(hts:Ac9 P t=some ts):P.eqGuardType P.depth t=false:=by
 unfold Ac9 at hts;split at hts
 ·split at hts
  ·rename_i hgd;exact hgd
  ·cases hts
 ·split at hts
  ·rename_i hgd;exact hgd
  ·cases hts
 ·cases hts
theorem An1{B0:Nat->Prop}{l m:List PV}{xs ys:List Value}(h1:l.length=xs.length)(r1:∀(i:Nat) (p:PV) (v:Value),l[i]? =some p->xs[i]? =some v->Bk w M β B0 p v)
  (h2:m.length=ys.length)(r2:∀(i:Nat) (p:PV) (v:Value),m[i]? =some p->ys[i]? =some v->Bk w M β B0 p v){e tag:Nat}(htag:Ahl P e=some tag)(d:Nat)(w':World):
  ∀(is:List Nat) (b:Bool),Ain (Anv tag is) l m=some b->(Op.eqItems (d+1) e 1 xs.toArray ys.toArray is).run P w'=.ok b w'
 | [],b,hb=>by
  simp only[Anv,Ain,Option.some.injEq]at hb;subst hb;simp[Op.eqItems]
 |i::is,b,hb=>by
  simp only[Anv,Ain]at hb;cases hr:Ain (Anv tag is) l m with
  |none=>rw[hr]at hb;cases hb
  |some t=>
   rw[hr]at hb;simp only at hb;have ih:=An1 h1 r1 h2 r2 htag d w' is t hr;have hp:=Ai7 htag;have fin:∀(u v:Value) (r:Bool),Lq l i=.val u->Lq m i=.val v->(Op.equalIn (d+1) e u v).run P w'=.ok r w'->(Op.eqItems (d+1) e 1 xs.toArray ys.toArray (i::is)).run P w'=.ok (r && t) w':=by
    intro u v r hu hv hrun;have hx:xs.toArray[i]? =some u:=by simpa using Aj6 h1 r1 hu
    have hy:ys.toArray[i]? =some v:=by simpa using Aj6 h2 r2 hv
    simp only[Op.eqItems,Nat.mul_one,Sem.run_bind,run_part_plain w' hp hx,run_part_plain w' hp hy,hrun,Result.andThen_ok];cases r
    ·simp
    ·simpa using ih
   unfold Ahl at htag;split at hb
   ·rename_i u v hu hv;simp only[Option.some.injEq]at hb;subst hb;split at htag<;>first|(exact absurd htag (by decide))|skip
    rename_i hty;exact fin _ _ _ hu hv (run_equalIn_bool w' d _ u v hty)
   ·rename_i k u k' v hu hv;split at hb
    ·rename_i hkk;have hkk':k=k':=of_decide_eq_true hkk;subst hkk';simp only[Option.some.injEq]at hb;subst hb;split at htag<;>first|(exact absurd htag (by decide))|skip
     rename_i k2 hty;exact fin _ _ _ hu hv (run_equalIn_int w' d _ k k2 u v hty)
    ·cases hb
   ·rename_i u v hu hv;simp only[Option.some.injEq]at hb;subst hb;split at htag<;>first|(exact absurd htag (by decide))|skip
    rename_i hty;exact fin _ _ _ hu hv (by simp[Op.equalIn,run_underlying hty])
   ·cases hb
theorem Ara{B0:Nat->Prop}{l m:List PV}{xs ys:List Value}(h1:l.length=xs.length)(r1:∀(i:Nat) (p:PV) (v:Value),l[i]? =some p->xs[i]? =some v->Bk w M β B0 p v)
  (h2:m.length=ys.length)(r2:∀(i:Nat) (p:PV) (v:Value),m[i]? =some p->ys[i]? =some v->Bk w M β B0 p v)(d:Nat)(w':World){t:TypeId}{ts:List (Nat×Nat)}{b:Bool}(hts:Ac9 P t=some ts)(hb:Ain ts l m=some b):
  (Op.equalIn (d+2) t (.agg xs.toArray) (.agg ys.toArray)).run P w'=.ok b w':=by
 unfold Ac9 at hts;split at hts
 ·rename_i fs hu;split at hts
  ·rename_i hst hgd;have hfs:P.fieldsOf t=fs:=by simp[Program.fieldsOf,hu]
   rw[show d+2=(d+1)+1 from rfl,run_equalIn_struct w' (d+1) t _ _ (by rw[hfs];exact hu) hst,hfs];exact Ax5 h1 r1 h2 r2 d w' _ _ _ hts hb
  ·cases hts
 ·rename_i n e hu;split at hts
  ·rename_i tag htag hc hgd;rw[Bool.and_eq_true]at hc;obtain⟨i,hi⟩:=Option.isSome_iff_exists.1 hc.2;have h1':P.cellsOf e=1:=Nat.eq_of_beq_eq_true hc.1;injection hts with hts
   subst hts;rw[show d+2=(d+1)+1 from rfl,run_equalIn_array w' (d+1) _ _ hu hi,h1'];exact An1 h1 r1 h2 r2 htag d w' _ _ hb
  ·cases hts
 ·cases hts
theorem Xl{b:Nat}{es:Array MapEntry}{clock:Nat}(h:w.heap[b]? =some (.map es clock)):(getObj b).run P w=.ok (.map es clock) w:=by
 simp[getObj,Sem.run,h]
theorem Adm{b:Nat}{es:Array MapEntry}{clock:Nat}(o':Obj)(h:w.heap[b]? =some (.map es clock)):(setObj b o').run P w=.ok () { w with heap:=w.heap.setIfInBounds b o' } :=by
 simp[setObj,Sem.run,h]
theorem bytes_beq(a b:ByteArray):(a == b)=true↔a=b:=by
 exact Go.MapKept.bytes_beq a b
theorem n5{t:Nat}{d:TypeDesc}{kv:Value}(hu:P.underlying t=some d)(hd:(∃k,d=.int k)\/d=.string\/d=.bool)(b:Bool)(n:Nat)(w':World):(Instr.checkKey b (n+1) t kv).run P w'=.ok () w':=by
 rcases hd with⟨k,rfl⟩|rfl|rfl<;>simp[Instr.checkKey,run_underlying hu]
theorem Ai2{b r:Bool}{q:PV}(h:Ah6 (.val (.bool b)) q=some r):∃c,q=.val (.bool c)/\r=(b == c):=by
 cases q with
 |val v=>
  cases v with
  |bool c=>exact⟨c,rfl,by injection h with h;exact h.symm⟩
  |_=>cases h
 |_=>cases h
theorem Adk{b:ByteArray}{r:Bool}{q:PV}(h:Ah6 (.val (.string b)) q=some r):∃c,q=.val (.string c)/\r=(b == c):=by
 cases q with
 |val v=>
  cases v with
  |string c=>exact⟨c,rfl,by injection h with h;exact h.symm⟩
  |_=>cases h
 |_=>cases h
theorem Am8{k:IntKind}{b:Int}{r:Bool}{q:PV}(h:Ah6 (.val (.int k b)) q=some r):∃c,q=.val (.int k c)/\r=(b == c):=by
 cases q with
 |val v=>
  cases v with
  |int k' c=>
   simp only[Ah6]at h;split at h
   ·rename_i hk;have:=of_decide_eq_true hk;subst this;exact⟨c,rfl,by injection h with h;exact h.symm⟩
   ·cases h
  |_=>cases h
 |_=>cases h
theorem Am9{p:PV}{q:List PV}{r:Bool}(h:Z1 [p] q=some r):∃q0,q= [q0]/\Ah6 p q0=some r:=by
 match q,h with
 | [q0],h=>exact⟨q0,rfl,h⟩
theorem A1o{b r:Bool}{q:List PV}(h:Z1 [.val (.bool b)] q=some r):∃c,q= [.val (.bool c)]/\r=(b == c):=by
 obtain⟨q0,rfl,h⟩:=Am9 h;obtain⟨c,e1,e2⟩:=Ai2 h;subst e1;exact⟨c,rfl,e2⟩
theorem Aw0{b:ByteArray}{r:Bool}{q:List PV}(h:Z1 [.val (.string b)] q=some r):∃c,q= [.val (.string c)]/\r=(b == c):=by
 obtain⟨q0,rfl,h⟩:=Am9 h;obtain⟨c,e1,e2⟩:=Adk h;subst e1;exact⟨c,rfl,e2⟩
theorem A40{k:IntKind}{b:Int}{r:Bool}{q:List PV}(h:Z1 [.val (.int k b)] q=some r):∃c,q= [.val (.int k c)]/\r=(b == c):=by
 obtain⟨q0,rfl,h⟩:=Am9 h;obtain⟨c,e1,e2⟩:=Am8 h;subst e1;exact⟨c,rfl,e2⟩
theorem Az3{t tag:Nat}{p:PV}{kv:Value}{B:Nat->Prop}(ht:Ahl P t=some tag)(hp:Axa tag p=true)(hr:Bk w M β B p kv):
  p=.val kv/\∃d,P.underlying t=some d/\(∀(b:Bool) (w':World),(Instr.checkKey b 10000 t kv).run P w'=.ok () w')/\
   (∀(q:List PV) (r:Bool) (u:Value),Z1 [p] q=some r->Bk w M β B (V2 false q) u->Instr.sameNow d kv u=some r/\(r=true->u=kv/\Instr.sameBits 10000 u kv=true/\q= [p])):=by
 unfold Ahl at ht;unfold Axa at hp;split at hp
 ·rename_i b;have hv:=hr.val_eq;subst hv;split at ht<;>first|(exact absurd ht (by decide))|skip
  rename_i hu;refine⟨rfl,_,hu,λb' w'=>n5 hu (.inr (.inr rfl)) b' 9999 w',λq r u hs hu'=>?_⟩;obtain⟨c,rfl,hrr⟩:=A1o hs;have hu2:u=.bool c:=(hu':Bk w M β B (.val (.bool c)) u).val_eq;subst hu2;refine⟨by rw[hrr];rfl,λhr'=>?_⟩;have e:b=c:=by rw[hrr]at hr';simpa using hr'
  subst e;exact⟨rfl,by simp[Instr.sameBits],rfl⟩
 ·rename_i k n;have hv:=hr.val_eq;subst hv;split at ht<;>first|(exact absurd ht (by decide))|skip
  rename_i kk hu;refine⟨rfl,_,hu,λb' w'=>n5 hu (.inl ⟨kk,rfl⟩) b' 9999 w',λq r u hs hu'=>?_⟩;obtain⟨c,rfl,hrr⟩:=A40 hs;have hu2:u=.int k c:=(hu':Bk w M β B (.val (.int k c)) u).val_eq;subst hu2;refine⟨by rw[hrr];simp[Instr.sameNow],λhr'=>?_⟩;have e:n=c:=by rw[hrr]at hr';simpa using hr'
  subst e;exact⟨rfl,by simp[Instr.sameBits],rfl⟩
 ·rename_i s;have hv:=hr.val_eq;subst hv;split at ht<;>first|(exact absurd ht (by decide))|skip
  rename_i hu;refine⟨rfl,_,hu,λb' w'=>n5 hu (.inr (.inl rfl)) b' 9999 w',λq r u hs hu'=>?_⟩;obtain⟨c,rfl,hrr⟩:=Aw0 hs;have hu2:u=.string c:=(hu':Bk w M β B (.val (.string c)) u).val_eq;subst hu2;refine⟨by rw[hrr];rfl,λhr'=>?_⟩;have e:s=c:=by rw[hrr]at hr';exact(bytes_beq _ _).1 hr'
  subst e;exact⟨rfl,by show(s == s)=true;exact(bytes_beq _ _).2 rfl,rfl⟩
 ·cases hp
theorem Avv(d:TypeDesc)(k:Value):∀(es:List MapEntry) (i0:Nat),(∀e∈es,Instr.sameNow d k e.key=some false)->Instr.findNow d k es i0=some none:=by
 intro es
 induction es with
 |nil=>intro i0 _;rfl
 |cons e es ih=>
  intro i0 h;simp only[Instr.findNow];rw[h e (by simp)];exact ih _ (λe' he=>h e' (List.mem_cons_of_mem _ he))
theorem Avw(d:TypeDesc)(k:Value):∀(es:List MapEntry) (i0 i:Nat) (e:MapEntry),es[i]? =some e->Instr.sameNow d k e.key=some true->(∀j e',j<i->es[j]? =some e'->Instr.sameNow d k e'.key=some false)->
  Instr.findNow d k es i0=some (some (i0+i,e.val)):=by
 intro es
 induction es with
 |nil=>intro i0 i e h;simp at h
 |cons e0 es ih=>
  intro i0 i e h h1 h2;simp only[Instr.findNow];cases i with
  |zero=>
   simp at h;subst h
   rw[h1];rfl
  |succ i=>
   rw[h2 0 e0 (by omega) rfl];simp only;rw[ih (i0+1) i e (by simpa using h) h1 (λj e' hj he=>h2 (j+1) e' (by omega) (by simpa using he))]
   congr 3;omega
theorem A6j{t tag:Nat}{p:PV}{kv:Value}{B:Nat->Prop}(ht:Ahl P t=some tag)(hp:Axa tag p=true)(hr:Bk w M β B p kv){es:Array MapEntry}{ks:LX}(hk:es.size=ks.len)
  (hes:∀(i:Nat) (e:MapEntry),es[i]? =some e->Bk w M β B (V2 false (ks.row i)) e.key){r:Option Nat}(hf:LX.find ks [p]=some r)(w':World):
  (Instr.findKey t kv es.toList).run P w'=.ok (r.bind λi=>(es[i]?).map λe=>(i,e.val)) w'/\(∀i,r=some i->i<es.size/\∀e,es[i]? =some e->e.key=kv/\Instr.sameBits 10000 e.key kv=true/\ks.row i= [p]):=by
 obtain⟨_,d,hu,_,hsame⟩:=Az3 ht hp hr;obtain⟨f1,f2⟩:=LX.find_spec ks [p] r hf;have lt:∀i e,es.toList[i]? =some e->i<ks.len:=λi e he=>by
  have:=(List.getElem?_eq_some_iff.1 he).1;rw[<-hk];simpa using this
 cases r with
 |none=>
  refine⟨?_,λi h=>by cases h⟩;simp only[Instr.findKey,Sem.run_bind,run_underlying hu,Result.andThen_ok];rw[Avv d kv es.toList 0 (λe he=>by
   obtain⟨i,hi,rfl⟩:=List.getElem_of_mem he;have hi':es.toList[i]? =some es.toList[i]:=List.getElem?_eq_getElem hi;exact(hsame _ false _ (f1 rfl i (lt i _ hi')) (hes i _ (by rw[<-Array.getElem?_toList];exact hi'))).1)]
  rfl
 |some i=>
  obtain⟨g1,g2,g3⟩:=f2 i rfl;have hi:i<es.size:=by omega
  have he:es[i]? =some es[i]:=Array.getElem?_eq_getElem hi;obtain⟨q1,q2⟩:=hsame _ true _ g2 (hes i _ he);refine⟨?_,λi' h'=>by
   injection h' with h'
   subst h';exact⟨hi,λe he'=>by rw[he]at he';injection he' with he';subst he';exact q2 rfl⟩⟩
  simp only[Instr.findKey,Sem.run_bind,run_underlying hu,Result.andThen_ok];rw[Avw d kv es.toList 0 i es[i] (by rw[Array.getElem?_toList];exact he) q1 (λj e' hj he'=>
   (hsame _ false _ (g3 j hj) (hes j _ (by rw[<-Array.getElem?_toList];exact he'))).1)]
  simp[he]
theorem Asq{tag:Nat}{p:PV}(h:Axa tag p=true):(tag=0/\∃b,p=.val (.bool b))\/(tag=1/\∃k n,p=.val (.int k n))\/(tag=2/\∃s,p=.val (.string s)):=by
 unfold Axa at h;split at h
 ·exact .inl ⟨rfl,_,rfl⟩
 ·exact .inr (.inl ⟨rfl,_,_,rfl⟩)
 ·exact .inr (.inr ⟨rfl,_,rfl⟩)
 ·cases h
theorem Ag6(l:List PV):∀(k:Nat) (p:PV) (r:List PV),l.drop k=p::r->Lq l k=p:=by
 induction l with
 |nil=>intro k p r h;simp at h
 |cons q l ih=>
  intro k p r h;cases k with
  |zero=>simp at h;exact h.1
  |succ k=>exact ih k p r (by simpa using h)
theorem Aj1{l:List PV}{k:Nat}{p:PV}{r:List PV}(h:l.drop k=p::r):l.drop (k+1)=r:=by
 rw[<-List.drop_drop,h];rfl
theorem A7j{tag k:Nat}{p q:PV}{b:Bool}(ht:Axa tag p=true)(h:Ah6 p q=some b)(l m:List PV)(hl:Lq l k=p)(hm:Lq m k=q){r:List (Nat×Nat)}{t:Bool}(hr:Ain r l m=some t):
  Ain ((tag,k)::r) l m=some (b && t):=by
 simp only[Ain,hr,hl,hm];rcases Asq ht with⟨rfl,x,rfl⟩|⟨rfl,kk,x,rfl⟩|⟨rfl,x,rfl⟩
 ·obtain⟨c,rfl,rfl⟩:=Ai2 h;rfl
 ·obtain⟨c,rfl,rfl⟩:=Am8 h;simp
 ·obtain⟨c,rfl,rfl⟩:=Adk h;rfl
theorem Asj(l m:List PV):∀(ts:List (Nat×Nat)) (x:Nat×Nat) (k:Nat) (p q:PV) (l' m':List PV) (b:Bool),Asl k (x::ts)=true->So (x::ts) (p::l')=true->l.drop k=p::l'->m.drop k=q::m'->Auo p l' q m'=some b->Ain (x::ts) l m=some b
 | [],(tag,o),k,p,q,l',m',b,hs,ht,hl,hm,h=>by
  simp only[Asl]at hs;split at hs
  ·rename_i ho;have ho':=Nat.eq_of_beq_eq_true ho;subst ho';simp only[So]at ht;split at ht
   ·rename_i htag
    match l',ht with
    | [],_=>
     match m',h with
     | [],h=>
      have:=A7j htag (h:Ah6 p q=some b) l m (Ag6 l _ _ _ hl) (Ag6 m _ _ _ hm) (r:= []) (t:=true) rfl;rwa[Bool.and_true]at this
   ·cases ht
  ·cases hs
 |y::ts,(tag,o),k,p,q,l',m',b,hs,ht,hl,hm,h=>by
  simp only[Asl]at hs;split at hs
  ·rename_i ho;have ho':=Nat.eq_of_beq_eq_true ho;subst ho';rw[So]at ht;split at ht
   ·rename_i htag
    match l',ht with
    |p'::l'',ht=>
     match m',h with
     |q'::m'',h=>
      simp only[Auo]at h;split at h
      ·rename_i x' y' h1 h2;injection h with h
       subst h;exact A7j htag h1 l m (Ag6 l _ _ _ hl) (Ag6 m _ _ _ hm) (Asj l m ts y (o+1) p' q' l'' m'' y' hs ht (Aj1 hl) (Aj1 hm) h2)
      ·cases h
   ·cases ht
  ·cases hs
theorem Asi{tag:Nat}{p q:PV}(ht:Axa tag p=true)(h:Ah6 p q=some true):q=p:=by
 rcases Asq ht with⟨rfl,x,rfl⟩|⟨rfl,kk,x,rfl⟩|⟨rfl,x,rfl⟩
 ·obtain⟨c,rfl,e⟩:=Ai2 h;have:x=c:=by simpa using e.symm
  rw[this]
 ·obtain⟨c,rfl,e⟩:=Am8 h;have:x=c:=by simpa using e.symm
  rw[this]
 ·obtain⟨c,rfl,e⟩:=Adk h;have:x=c:=(bytes_beq _ _).1 e.symm
  rw[this]
theorem Ask:∀(ts:List (Nat×Nat)) (p q:PV) (l m:List PV),So ts (p::l)=true->Auo p l q m=some true->q::m=p::l
 | [],p,q,l,m,ht,h=>by cases ht
 |(tag,o)::ts,p,q,l,m,ht,h=>by
  rw[So]at ht;split at ht
  ·rename_i htag
   match l,m,ht,h with
   | [],[],_,h=>rw[Asi htag h]
   |p'::l',q'::m',ht,h=>
    simp only[Auo]at h;split at h
    ·rename_i x y h1 h2;injection h with h
     obtain⟨e1,e2⟩:=Bool.and_eq_true_iff.1 h;subst e1;subst e2
     rw[Asi htag h1,Ask ts p' q' l' m' ht h2]
    ·cases h
  ·cases ht
theorem Aux:∀ {ts:List (Nat×Nat)} {l:List PV},So ts l=true->∀(i:Nat) (p:PV),l[i]? =some p->∃v,p=.val v/\Instr.sameBits 9999 v v=true
 | [],[],_,i,p,h=>by simp at h
 |(tag,o)::ts,q::l,ht,i,p,h=>by
  rw[So]at ht;split at ht
  ·rename_i htag;cases i with
   |zero=>
    simp at h;subst h
    rcases Asq htag with⟨rfl,x,rfl⟩|⟨rfl,kk,x,rfl⟩|⟨rfl,x,rfl⟩
    ·exact⟨_,rfl,by simp[Instr.sameBits]⟩
    ·exact⟨_,rfl,by simp[Instr.sameBits]⟩
    ·exact⟨_,rfl,by show(x == x)=true;exact(bytes_beq _ _).2 rfl⟩
   |succ i=>exact Aux ht i p (by simpa using h)
  ·cases ht
theorem A5t{B:Nat->Prop}{l:List PV}{u v:Value}(hv:∀(i:Nat) (p:PV),l[i]? =some p->∃v,p=.val v/\Instr.sameBits 9999 v v=true)(h1:Bk w M β B (.agg l) u)(h2:Bk w M β B (.agg l) v):u=v/\Instr.sameBits 10000 u v=true:=by
 cases h1 with
 |row p s hs=>cases hs
 |agg _ c1 hl1 o1 r1=>
  cases h2 with
  |row p s hs=>cases hs
  |agg _ c2 hl2 o2 r2=>
   have e:c1=c2:=by
    apply List.ext_getElem?;intro i;cases hp:l[i]? with
    |none=>
     have hi:=List.getElem?_eq_none_iff.1 hp;rw[List.getElem?_eq_none (by omega),List.getElem?_eq_none (by omega)]
    |some p=>
     have hi:=(List.getElem?_eq_some_iff.1 hp).1;obtain⟨v,rfl,_⟩:=hv i p hp;have a1:c1[i]? =some c1[i]:=List.getElem?_eq_getElem (by omega);have a2:c2[i]? =some c2[i]:=List.getElem?_eq_getElem (by omega);rw[a1,a2,(r1 i _ _ hp a1).val_eq,(r2 i _ _ hp a2).val_eq]
   subst e;refine⟨rfl,?_⟩;rw[show(10000:Nat)=9999+1 from rfl,Instr.sameBits];rw[Bool.and_eq_true];refine⟨by simp,?_⟩;rw[List.all_eq_true]
   rintro ⟨x,y⟩ hxy
   simp only at hxy;obtain⟨i,hi,e⟩:=List.getElem_of_mem hxy;have hi':i<c1.length:=by simpa using hi
   rw[List.getElem_zip]at e;injection e with e1 e2
   have hp:l[i]? =some l[i]:=List.getElem?_eq_getElem (by omega);obtain⟨v,hv1,hv2⟩:=hv i _ hp;have a1:c1[i]? =some c1[i]:=List.getElem?_eq_getElem hi';have:=r1 i _ _ hp a1;rw[hv1]at this;have hx:x=v:=by rw[<-e1];exact this.val_eq
   have hy:y=v:=by rw[<-e2];exact this.val_eq
   subst hx;subst hy
   exact hv2
theorem Ayd{d:TypeDesc}{k:Value}(hd:(∃n e,d=.array n e)\/∃fs,d=.struct fs)(es:List MapEntry):Instr.findNow d k es 0=(match es with| []=>some none|_=>none):=by
 cases es with
 |nil=>rfl
 |cons e es=>
  simp only[Instr.findNow];have:Instr.sameNow d k e.key=none:=by
   rcases hd with⟨n,e',rfl⟩|⟨fs,rfl⟩<;>simp[Instr.sameNow]
  rw[this]
theorem Aot{t:TypeId}{k:Value}(w':World):∀(es:List MapEntry) (i0:Nat),(∀e∈es,(Op.equal t k e.key).run P w'=.ok false w')->(Instr.findAsking t k es i0).run P w'=.ok none w':=by
 intro es
 induction es with
 |nil=>intro i0 _;rfl
 |cons e es ih=>
  intro i0 h;simp only[Instr.findAsking,Sem.run_bind,h e (by simp),Result.andThen_ok];exact ih _ (λe' he=>h e' (List.mem_cons_of_mem _ he))
theorem Aou{t:TypeId}{k:Value}(w':World):∀(es:List MapEntry) (i0 i:Nat) (e:MapEntry),es[i]? =some e->(Op.equal t k e.key).run P w'=.ok true w'->(∀j e',j<i->es[j]? =some e'->(Op.equal t k e'.key).run P w'=.ok false w')->
  (Instr.findAsking t k es i0).run P w'=.ok (some (i0+i,e.val)) w':=by
 intro es
 induction es with
 |nil=>intro i0 i e h;simp at h
 |cons e0 es ih=>
  intro i0 i e h h1 h2;cases i with
  |zero=>
   simp at h;subst h
   simp only[Instr.findAsking,Sem.run_bind,h1,Result.andThen_ok];rfl
  |succ i=>
   simp only[Instr.findAsking,Sem.run_bind,h2 0 e0 (by omega) rfl,Result.andThen_ok];have:=ih (i0+1) i e (by simpa using h) h1 (λj e' hj he=>h2 (j+1) e' (by omega) (by simpa using he));rw[show i0+1+i=i0+(i+1) by omega]at this;exact this
theorem Atu{t tag:Nat}(ht:Ahl P t=some tag)(v:Value)(b:Bool)(n:Nat)(w':World):(Instr.checkKey b (n+1) t v).run P w'=.ok () w':=by
 unfold Ahl at ht;split at ht
 ·rename_i hu;exact n5 hu (.inr (.inr rfl)) b n w'
 ·rename_i k hu;exact n5 hu (.inl ⟨k,rfl⟩) b n w'
 ·rename_i hu;exact n5 hu (.inr (.inl rfl)) b n w'
 ·cases ht
theorem A0l{fs:List Field}{ts:List (Nat×Nat)}(h:Aio P fs=some ts):∀f∈fs,f.name≠ "_" /\∃tag,Ahl P f.type=some tag/\(tag,f.offset)∈ts:=by
 induction fs generalizing ts with
 |nil=>intro f hf;cases hf
 |cons g fs ih=>
  intro f hf;simp only[Aio]at h;split at h
  ·rename_i tag l hn htag hl;injection h with h
   subst h;rcases List.mem_cons.1 hf with rfl|hf
   ·exact⟨by simpa using hn,tag,htag,by simp⟩
   ·obtain⟨a,t,b,c⟩:=ih hl f hf;exact⟨a,t,b,List.mem_cons_of_mem _ c⟩
  ·cases h
theorem Asr:∀ {ts:List (Nat×Nat)} {l:List PV},So ts l=true->l.length=ts.length
 | [],[],_=>rfl
 |(tag,o)::ts,q::l,h=>by
  rw[So]at h;split at h
  ·simp[Asr h]
  ·cases h
 | [],_::_,h=>by cases h
 |_::_,[],h=>by simp[So]at h
theorem Azq:∀ {ts:List (Nat×Nat)} {k:Nat},Asl k ts=true->∀x∈ts,x.2<k+ts.length
 | [],_,_,x,hx=>by cases hx
 |(tag,o)::ts,k,h,x,hx=>by
  rw[Asl]at h;split at h
  ·rename_i ho;have:=Nat.eq_of_beq_eq_true ho;subst this;rcases List.mem_cons.1 hx with rfl|hx
   ·simp
   ·have:=Azq h x hx;simp at this ⊢;omega
  ·cases h
theorem Arq{ek:Nat}{gq:Bool}{ts:List (Nat×Nat)}{p:PV}{kv:Value}{c:List PV}{B:Nat->Prop}(hk:Wu P ek=some (gq,ts))(hc:Adc gq ts p=some c)(hr:Bk w M β B p kv):
  Bk w M β B (V2 gq c) kv/\(∀(b:Bool) (w':World),(Instr.checkKey b 10000 ek kv).run P w'=.ok () w')/\
  ∀(es:Array MapEntry) (ks:LX),es.size=ks.len->(∀(i:Nat) (e:MapEntry),es[i]? =some e->Bk w M β B (V2 gq (ks.row i)) e.key)->∀(r:Option Nat),LX.find ks c=some r->∀(w':World),
   (Instr.findKey ek kv es.toList).run P w'=.ok (r.bind λi=>(es[i]?).map λe=>(i,e.val)) w'/\(∀i,r=some i->i<es.size/\∀e,es[i]? =some e->e.key=kv/\Instr.sameBits 10000 e.key kv=true/\ks.row i=c):=by
 unfold Wu at hk;split at hk
 ·rename_i tag ht;injection hk with hk
  injection hk with e1 e2
  subst e1;subst e2
  simp only[Adc]at hc;split at hc
  ·rename_i htag;injection hc with hc
   subst hc;have hp:Axa tag p=true:=by
    simp only[So]at htag;split at htag
    ·assumption
    ·cases htag
   obtain⟨_,d,hu,hchk,_⟩:=Az3 ht hp hr;exact⟨hr.view,hchk,λes ks hsz hes r hf w'=>A6j ht hp hr hsz hes hf w'⟩
  ·cases hc
 ·rename_i hnt;split at hk
  ·rename_i x xs hplan;split at hk
   ·rename_i hseq;injection hk with hk
    injection hk with e1 e2
    subst e1;subst e2
    cases p with
    |agg l=>
     simp only[Adc]at hc;split at hc
     ·rename_i htags;injection hc with hc
      subst hc;have hvals:=Aux htags;have hlen:=Asr htags;have hdesc:∃d,P.underlying ek=some d/\((∃n e,d=.array n e)\/∃fs,d=.struct fs):=by
       unfold Ac9 at hplan;split at hplan
       ·rename_i fs hu;exact⟨_,hu,.inr ⟨fs,rfl⟩⟩
       ·rename_i n e hu;exact⟨_,hu,.inl ⟨n,e,rfl⟩⟩
       ·cases hplan
      obtain⟨d,hu,hd⟩:=hdesc;have hr0:=hr;cases hr with
      |row _ s hs=>cases hs
      |agg _ cs hl o1 r1=>
      refine⟨hr0,λb w'=>?_,λes ks hsz hes r hf w'=>?_⟩
      ·
       have part:∀(t tag off:Nat),Ahl P t=some tag->off<l.length->∃v,(part t cs.toArray off).run P w'=.ok v w':=by
        intro t tag off ht hoff;have:cs.toArray[off]? =some cs[off]:=by simp[List.getElem?_eq_getElem (show off<cs.length by omega)]
        exact⟨_,run_part_plain w' (Ai7 ht) this⟩
       unfold Ac9 at hplan;split at hplan
       ·rename_i fs hu';split at hplan
        ·have hget:=A0l hplan;rw[show(10000:Nat)=9999+1 from rfl,Instr.checkKey];simp only[Sem.run_bind,run_underlying hu',Result.andThen_ok];rw[<-Array.forIn_toList];have each:∀f∈fs.toList,f.name≠ "_" /\∃tag,Ahl P f.type=some tag/\f.offset<l.length:=λf hf=>by
          obtain⟨a,tag,b,c⟩:=hget f hf;have:=Azq hseq _ c;exact⟨a,tag,b,by simp at this hlen ⊢;omega⟩
         clear hget hplan;generalize fs.toList=L at each
         induction L with
         |nil=>simp
         |cons f L ih=>
          obtain⟨hn,tag,ht,ho⟩:=each f (by simp);obtain⟨v,hv⟩:=part f.type tag f.offset ht ho;simp only[List.forIn_cons,Sem.run_bind,hn,ne_eq,not_false_eq_true,if_true,Result.andThen_ok,hv,Atu ht v b 9998 w',Sem.run_pure];exact ih (λy hy=>each y (by simp[hy]))
        ·cases hplan
       ·rename_i n e hu';split at hplan
        ·rename_i tag htag hcell hgd;rw[Bool.and_eq_true]at hcell;obtain⟨i,hi⟩:=Option.isSome_iff_exists.1 hcell.2;injection hplan with hplan
         have hn:l.length=n:=by
          rw[hlen,<-hplan];have:∀is:List Nat,(Anv tag is).length=is.length:=λis=>by induction is with|nil=>rfl|cons a is ih=>simp[Anv,ih]
          rw[this];simp
         have hsz1:i.size=1:=by
          have:P.cellsOf e=1:=Nat.eq_of_beq_eq_true hcell.1;simpa[Program.cellsOf,hi]using this
         rw[show(10000:Nat)=9999+1 from rfl,Instr.checkKey];simp only[Sem.run_bind,run_underlying hu',Result.andThen_ok];simp only[Std.Legacy.Range.forIn_eq_forIn_range',Std.Legacy.Range.size,Nat.sub_zero,Nat.add_one_sub_one,Nat.div_one];have each:∀j∈List.range' 0 n,j<l.length:=λj hj=>by simp at hj;omega
         generalize List.range' 0 n=is at each
         induction is with
         |nil=>simp
         |cons j is ih=>
          obtain⟨v,hv⟩:=part e tag j htag (each j (by simp));have hso:(sizeOf e).run P w'=.ok (P.cellsOf e) w':=run_sizeOf w' hi;have h1:P.cellsOf e=1:=Nat.eq_of_beq_eq_true hcell.1;simp only[List.forIn_cons,Sem.run_bind,hso,h1,Nat.mul_one,Result.andThen_ok,hv,Atu htag v b 9998 w',Sem.run_pure];exact ih (λy hy=>each y (by simp[hy]))
        ·cases hplan
       ·cases hplan
      ·
       have eqrun:∀(row:List PV) (u:Value) (b:Bool),Z1 l row=some b->Bk w M β B (.agg row) u->(Op.equal ek (.agg cs.toArray) u).run P w'=.ok b w':=by
        intro row u b hsv hru;cases hru with
        |row _ s hs=>cases hs
        |agg _ us hul o2 r2=>
         refine Ara hl r1 hul r2 9998 w' hplan ?_
         match l,row,hsv,htags with
         |p0::l',q0::m',hsv,htags=>exact Asj (p0::l') (q0::m') xs x 0 p0 q0 l' m' b hseq htags rfl rfl hsv
       obtain⟨f1,f2⟩:=LX.find_spec ks l r hf;have lt:∀i e,es.toList[i]? =some e->i<ks.len:=λi e he=>by
        have:=(List.getElem?_eq_some_iff.1 he).1;rw[<-hsz];simpa using this
       have step:(Instr.findKey ek (.agg cs.toArray) es.toList).run P w'=(Instr.findAsking ek (.agg cs.toArray) es.toList).run P w':=by
        simp only[Instr.findKey,Sem.run_bind,run_underlying hu,Result.andThen_ok];rw[Ayd hd];cases es.toList with
        |nil=>rfl
        |cons _ _=>rfl
       cases r with
       |none=>
        refine⟨?_,λi h=>by cases h⟩;rw[step,Aot w' es.toList 0 (λe he=>by
         obtain⟨i,hi,rfl⟩:=List.getElem_of_mem he;have hi':es.toList[i]? =some es.toList[i]:=List.getElem?_eq_getElem hi;exact eqrun _ _ false (f1 rfl i (lt i _ hi')) (hes i _ (by rw[<-Array.getElem?_toList];exact hi')))]
        rfl
       |some i=>
        obtain⟨g1,g2,g3⟩:=f2 i rfl;have hi:i<es.size:=by omega
        have he:es[i]? =some es[i]:=Array.getElem?_eq_getElem hi;refine⟨?_,λi' h'=>?_⟩
        ·rw[step,Aou w' es.toList 0 i es[i] (by rw[Array.getElem?_toList];exact he) (eqrun _ _ true g2 (hes i _ he)) (λj e' hj he'=>
          eqrun _ _ false (g3 j hj) (hes j _ (by rw[<-Array.getElem?_toList];exact he')))]
         simp[he]
        ·injection h' with h'
         subst h';refine⟨hi,λe he'=>?_⟩;rw[he]at he';injection he' with he'
         subst he';have hrow:ks.row i=l:=by
          match l,ks.row i,g2,htags with
          |p0::l',q0::m',g2,htags=>exact Ask _ p0 q0 l' m' htags g2
         have hk':=hes i _ he;rw[hrow]at hk';obtain⟨q1,q2⟩:=A5t hvals hk' hr0;exact⟨q1,q2,hrow⟩
     ·cases hc
    |_=>cases hc
   ·cases hk
  ·cases hk
theorem Aha{B:Nat->Prop}{r s:List PV}(h:Qh r s){g:Bool}{v:Value}(hv:Bk w M β B (V2 g r) v):Bk w M β B (V2 g s) v:=by
 cases g with
 |true=>
  have hv':Bk w M β B (.agg r) v:=hv;have hg:=h.get;cases hv' with
  |agg l cs hl h1 hr=>
   refine .agg s cs (by rw[<-hg.1];exact hl) h1 (λi q u hq hu=>?_);obtain⟨p,hp,hle⟩:=hg.2 i q hq;exact(hr i p u hp hu).le hle
  |row p s' hs=>cases hs
 |false=>
  cases h with
  |nil=>exact hv
  |cons h hr=>
   cases hr with
   |nil=>
    rename_i p q;have hv':Bk w M β B p.view v:=hv;show Bk w M β B q.view v
    cases h with
    |view=>exact hv'.view
    |nil own y hy=>exact(Bk.le (.nil own y hy) hv').view
   |cons=>exact .any v
theorem Azy(h:SR cx w0 N nt st a w M β)(hd:∀x,o.dst=some x->x<nt){t ek ev:Nat}{ts:List (Nat×Nat)}{m q:Operand}{ok g gv gq gk:Bool}{c:List PV}{z:List PV}(ho:o.op=.lookup t m q ok)(hu:P.underlying t=some (.map ek ev))
  (ht:Wu P ek=some (gq,ts))(hz:Ala P ev=some z)(hzk:A8h P ev g=true){b:Nat}(hm:st.aM m=.mp b)(hq:Adc gq ts (st.aM q)=some c){ks vs:LX}
  (hob:A22 (st.obj b)=some (gk,gv,ks,vs))(hgk:Aog gq gk=true){r:Option Nat}(hf:LX.find ks c=some r)(hgv:Aog g gv=true)
  (hs:fk r (λi=>dput o.dst (match ok with|true=>.aY [V2 gv (vs.row i),.val (.bool true)]|false=>V2 gv (vs.row i))= δ)
      (dput o.dst (match ok with|true=>.aY [V2 g (z.map PV.view),.val (.bool false)]|false=>V2 g (z.map PV.view))= δ)):E9 cx P w0 N nt st a w o δ :=by
 have hmr:=h.aM m;rw[hm]at hmr;obtain⟨bb,n,hb,hv⟩:=Ay2 hmr;obtain⟨_,_,h3⟩:=h.sh.box b bb n hb;obtain⟨es,clock,q1,q2,q3,q4⟩:=Bc6 h3 hob;have hgk':gk=gq:=by cases gk<;>cases gq<;>first|rfl|cases hgk
 subst hgk';obtain⟨hp,hchk,hfk⟩:=Arq ht hq (h.aM q);obtain⟨hrun,hfound⟩:=hfk es ks q2 (λi e he=>(q4 i e he).1) r hf w;obtain⟨i',z0,hi',hz0,hl0,hr0⟩:=Aci (w:=w) (M:=M) (β := β) (B:=w0.old) hz;have hzv:(zeroValue ev).run P w=.ok z0 w:=by simp[zeroValue,typeInfo,hi',hz0]
 have lk:∀(v:Value) (t':Bool),(match r.bind λi=>(es[i]?).map λe=>(i,e.val) with|some (_,v')=>some (v',true)|none=>some (z0,false))=some (v,t')->
   (execOp a.eval o).run P w=.ok (.value (if ok then .tuple #[v,.bool t']else v)) w:=by
  intro v t' hvt;simp only[execOp,ho,hv,Instr.lookup,Sem.run_bind,run_underlying hu,Result.andThen_ok,Sem.run_pure];rw[Xl (P:=P) q1];simp only[Sem.run_bind,Result.andThen_ok,Sem.run_pure];rw[hchk];simp only[Sem.run_bind,Result.andThen_ok,Sem.run_pure];rw[hrun];simp only[Sem.run_bind,Result.andThen_ok,Sem.run_pure];cases hrr:(r.bind λi=>(es[i]?).map λe=>(i,e.val)) with
  |none=>
   rw[hrr]at hvt;injection hvt with hvt
   injection hvt with e1 e2
   subst e1;subst e2
   simp only[Sem.run_bind,hzv,Result.andThen_ok,Sem.run_pure]
  |some x=>
   obtain⟨i,v'⟩:=x;rw[hrr]at hvt;injection hvt with hvt
   injection hvt with e1 e2
   subst e1;subst e2
   simp only[Sem.run_bind,Sem.run_pure,Result.andThen_ok]
 have put:∀(p:PV) (v:Value) (t':Bool),(execOp a.eval o).run P w=.ok (.value (if ok then .tuple #[v,.bool t']else v)) w->Bk w M β w0.old p v->(∀s,p.dQ=some s->s.own=false)->
   dput o.dst (match ok with|true=>.aY [p,.val (.bool t')]|false=>p)= δ->E9 cx P w0 N nt st a w o δ :=by
  intro p v t' hrun hr hn hδ;cases ok with
  |true=>
   refine(C1 h hd (.aY [p,.val (.bool t')]) _ w (Below.refl _ _) hrun ?_ (λs hs=>hn s (M9 hs).1)).of_eq hδ;refine .aY [p,.val (.bool t')] [v,.bool t'] rfl (λi x u hx hu=>?_)
   match i,hx,hu with
   |0,hx,hu=>simp at hx hu;subst hx;subst hu;exact hr
   |1,hx,hu=>simp at hx hu;subst hx;subst hu;exact .val _ rfl
   |i+2,hx,hu=>simp at hx
  |false=>exact(C1 h hd p _ w (Below.refl _ _) hrun hr hn).of_eq hδ
 cases r with
 |none=>
  refine put _ z0 false (lk z0 false rfl) ?_ (Xu _ _) (by cases ok<;>exact hs);have hzc:∀(j:Nat) (p:PV) (v:Value),(z.map PV.view)[j]? =some p->z0.cells[j]? =some v->Bk w M β w0.old p v/\v.oneCell'=true:=λj p v hp hv=>by
   obtain⟨p',hp',rfl⟩:=F8 hp;obtain⟨r1,r2,_⟩:=hr0 j p' v hp' hv;exact⟨r1.view,r2⟩
  unfold A8h at hzk;rw[hi',show(some i').bind (·.zero)=some z0 by simp[hz0]]at hzk;cases g with
  |true=>
   have hagg:∃cs,z0=.agg cs:=by
    cases z0 with
    |agg cs=>exact⟨cs,rfl⟩
    |_=>cases hzk
   obtain⟨cs,rfl⟩:=hagg;have:=Bk.agg (w:=w) (M:=M) (β := β) (B:=w0.old) (z.map PV.view) cs.toList (by rw[List.length_map,hl0];simp[Value.cells]) (λv hv=>?_) (λj p v hp hv=>(hzc j p v hp (by show cs[j]? =some v;rw[<-Array.getElem?_toList];exact hv)).1)
   ·exact this
   ·obtain⟨j,hj,rfl⟩:=List.getElem_of_mem hv;have hj':j<(z.map PV.view).length:=by rw[List.length_map,hl0];simpa[Value.cells]using hj
    exact(hzc j _ _ (List.getElem?_eq_getElem hj') (by show cs[j]? =some _;rw[<-Array.getElem?_toList];exact List.getElem?_eq_getElem hj)).2
  |false=>
   have hone:z0.cells= #[z0]:=by cases z0<;>first|rfl|cases hzk
   rw[hone]at hl0 hzc
   match z,hl0,hzc with
   | [p],_,hzc=>exact(hzc 0 _ z0 rfl rfl).1.view
 |some i=>
  obtain⟨hi,hke⟩:=hfound i rfl;have he:es[i]? =some es[i]:=Array.getElem?_eq_getElem hi;exact put _ es[i].val true (lk _ true (by simp[he])) (q4 i _ he).2 (Xu _ _) (by cases ok<;>exact hs)
theorem A42(l c:List PV)(h:c.length=l.length):Hy l 0 c=c:=by
 apply List.ext_getElem?;intro i;rw[U6 l 0 c i (by omega)];by_cases hi:i<c.length
 ·rw[if_pos ⟨by omega,by omega⟩];simp
 ·rw[if_neg (by omega),List.getElem?_eq_none (by omega),List.getElem?_eq_none (by omega)]
theorem Auk{x y:LX}{c:List PV}(h:LX.push x c=some y):y.len=x.len+1/\(∀i,i<x.len->y.row i=x.row i)/\Qh c (y.row x.len):=by
 unfold LX.push at h;cases hl:LX.lit x.e [c] with
 |none=>rw[hl]at h;cases h
 |some z=>
  rw[hl]at h;obtain⟨l1,l2,l3⟩:=LX.lit_spec _ _ _ hl;obtain⟨_,_,_,_,c1,c2,c3⟩:=LX.cat_spec x z y h;have:=c3 0;rw[Nat.add_zero]at this;exact⟨by rw[c1,l2];rfl,c2,by rw[this];exact l3 0 c rfl⟩
theorem A14{B:Nat->Prop}{g:Bool}{p:PV}{v:Value}{c:List PV}(h:Axc g p=some c)(hr:Bk w M β B p v):Bk w M β B (V2 g c) v:=by
 unfold Axc at h;split at h
 ·rename_i l;injection h with h
  subst h;show Bk w M β B (.agg (l.map PV.view)) v
  cases hr with
  |agg l cs hl h1 hr=>
   refine .agg _ cs (by rw[List.length_map,hl]) h1 (λi q u hq hu=>?_);obtain⟨q',hq',rfl⟩:=F8 hq;exact(hr i q' u hq' hu).view
  |row p s hs=>cases hs
 ·cases h
 ·split at h
  ·injection h with h
   subst h;exact hr.view.view
  ·cases h
theorem A1v(h:SR cx w0 N nt st a w M β){t ek ev:Nat}{ts:List (Nat×Nat)}{gq gk:Bool}{ck:List PV}{m q x:Operand}(hd:o.dst=none)(ho:o.op=.mapUpdate t m q x)(hu:P.underlying t=some (.map ek ev))
  (ht:Wu P ek=some (gq,ts)){b:Nat}(hm:st.aM m=.mp b)(hq:Adc gq ts (st.aM q)=some ck){ks vs:LX}{gv:Bool}
  (hob:st.obj b= [.aL gk gv ks vs])(hgk:Aog gq gk=true){r:Option Nat}(hf:LX.find ks ck=some r){c:List PV}(hc:Axc gv (st.aM x)=some c)
  (hs:fk r (λi=>match Nat.beq c.length vs.sz,LX.set vs i 0 c with
      |true,some vs'=>⟨[],[(b,[.aL gk gv ks vs'])]⟩= δ
      |_,_=>False)
     (match LX.push ks ck,LX.push vs c with
      |some ks',some vs'=>⟨[],[(b,[.aL gk gv ks' vs'])]⟩= δ
      |_,_=>False)):E9 cx P w0 N nt st a w o δ :=by
 have hmr:=h.aM m;rw[hm]at hmr;obtain⟨bb,n,hb,hv⟩:=Ay2 hmr;obtain⟨hb1,_,h3⟩:=h.sh.box b bb n hb;obtain⟨es,clock,q1,q2,q3,q4,q5⟩:=Awa h3 hob;have hgk':gk=gq:=by cases gk<;>cases gq<;>first|rfl|cases hgk
 subst hgk';obtain⟨hp,hchk,hfk⟩:=Arq ht hq (h.aM q);obtain⟨hrun,hfound⟩:=hfk es ks q2 (λi e he=>(q4 i e he).1) r hf w;have hxr:=A14 hc (h.aM x);have hbw:bb<w.heap.size:=h.sh.mlt bb 0 (h.sh.box b bb n hb).2.1;have fin:∀(es':Array MapEntry) (clock':Nat) (ks' vs':LX),(execOp a.eval o).run P w=.ok .skip { w with heap:=w.heap.setIfInBounds bb (.map es' clock') } ->es'.size=ks'.len->vs'.len=ks'.len->
   (∀(i:Nat) (e:MapEntry),es'[i]? =some e->Bk w M β w0.old (V2 gk (ks'.row i)) e.key/\Bk w M β w0.old (V2 gv (vs'.row i)) e.val)->K7 es' clock'->⟨[],[(b,[.aL gk gv ks' vs'])]⟩= δ->E9 cx P w0 N nt st a w o δ :=by
  intro es' clock' ks' vs' hrun hk hv' hes hbn hδ;subst hδ;have hoth:∀k,k≠bb->(w.heap.setIfInBounds bb (.map es' clock'))[k]? =w.heap[k]? :=λk hk=>by rw[Array.getElem?_setIfInBounds_ne (λe=>hk e.symm)]
  obtain⟨hS,_⟩:=h.sh.setObj (O':=(st.app ⟨[],[(b,[.aL gk gv ks' vs'])]⟩).obj) b bb n hb (by rw[hob];simp) [.aL gk gv ks' vs'] (λcs t q=>by rw[q1]at q;cases q) (by rw[Dm,if_pos rfl]) (λz hz=>by rw[Dm,if_neg (λe=>hz e.symm)])
   (w':= { w with heap:=w.heap.setIfInBounds bb (.map es' clock') }) hoth (by simp) ⟨rfl,rfl,rfl,by simp,λk hk=>hoth k (λe=>hb1 (by rw[<-e];exact hk)),Ajx hoth (by unfold dH;rw[q1];exact Nat.zero_le _)⟩
   (λhR=>.map gk gv ks' vs' es' clock' (by simp[hbw]) hk hv' (λi e he=>⟨hR _ _ (hes i e he).1,hR _ _ (hes i e he).2⟩) hbn)
   (λk p s v hp hs _ _=>by
    cases k with
    |zero=>simp at hp;subst hp;cases hs
    |succ k=>simp at hp)
  refine Ak6 (M':=M) (β':= β) hd hrun ⟨h.defs,h.nt,?_⟩;refine hS.perm (λk=>hS.reg k) (λd b n hd=>(hS.box d b n hd).2.2) (λz hz=>h.sh.dom z ?_) some (λkey s v ho=>⟨key,rfl,ho⟩) (λk k' j h1 h2=>by injection h1 with h1;injection h2 with h2;rw[h1,h2]);have hz':=(Be _ _).1 hz;exact(Be _ _).2 (λhm=>hz' (List.mem_cons_of_mem _ hm))
 have pre:∀(k:Sem Unit),True:=λ_=>trivial;cases r with
 |none=>
  have hs':(match LX.push ks ck,LX.push vs c with
      |some ks',some vs'=>(⟨[],[(b,[.aL gk gv ks' vs'])]⟩:B2)= δ
      |_,_=>False):=hs
  split at hs'
  ·rename_i ks' vs' hk' hv';obtain⟨p1,p2,p3⟩:=Auk hk';obtain⟨r1,r2,r3⟩:=Auk hv';refine fin (es.push { key:=a.eval q,val:=a.eval x,born:=clock }) (clock+1) ks' vs' ?_ (by simp[p1,q2]) (by rw[r1,p1,q3]) (λi e he=>?_) (q5.push _ _) hs'
   ·simp only[execOp,ho,hv,Instr.mapUpdate,Sem.run_bind,run_underlying hu,Result.andThen_ok,Sem.run_pure];rw[Xl (P:=P) q1];simp only[Sem.run_bind,Result.andThen_ok,Sem.run_pure];rw[hchk];simp only[Sem.run_bind,Result.andThen_ok,Sem.run_pure];rw[hrun];simp only[Option.bind_none,Sem.run_bind,Result.andThen_ok,Sem.run_pure];rw[Adm _ q1];rfl
   ·rw[Array.getElem?_push]at he;by_cases hi:i=es.size
    ·rw[if_pos hi]at he;injection he with he
     subst he;subst hi
     rw[q2];refine⟨Aha (g:=gk) p3 hp,?_⟩;rw[<-q3];exact Aha r3 hxr
    ·rw[if_neg hi]at he;have hlt:i<es.size:=(Array.getElem?_eq_some_iff.1 he).1;rw[p2 i (by omega),r2 i (by omega)];exact q4 i e he
  ·exact hs'.elim
 |some i=>
  obtain⟨hi,hke⟩:=hfound i rfl;have he:es[i]? =some es[i]:=Array.getElem?_eq_getElem hi;obtain⟨k1,k2,k3⟩:=hke _ he;have hs':(match Nat.beq c.length vs.sz,LX.set vs i 0 c with
      |true,some vs'=>(⟨[],[(b,[.aL gk gv ks vs'])]⟩:B2)= δ
      |_,_=>False):=hs
  split at hs'
  ·rename_i vs' hcl hv';have hcl':=Nat.eq_of_beq_eq_true hcl;obtain⟨s1,s2,s3,s4,s5,s6⟩:=LX.set_spec vs i 0 c vs' hv';refine fin (es.modify i λe=> { e with key:=a.eval q,val:=a.eval x }) clock ks vs' ?_ (by simp[q2]) (by rw[s3,q3]) (λj e hje=>?_) (q5.modify i _ _) hs'
   ·have hbits:(Instr.keyThatStays es[i].key (a.eval q)).run P w=.ok (a.eval q) w:=by
     unfold Instr.keyThatStays;rw[if_pos k2];rfl
    simp only[execOp,ho,hv,Instr.mapUpdate,Sem.run_bind,run_underlying hu,Result.andThen_ok,Sem.run_pure];rw[Xl (P:=P) q1];simp only[Sem.run_bind,Result.andThen_ok,Sem.run_pure];rw[hchk];simp only[Sem.run_bind,Result.andThen_ok,Sem.run_pure];rw[hrun];simp only[Option.bind_some,he,Option.map_some,Option.getD_some,Sem.run_bind,Result.andThen_ok,Sem.run_pure];rw[hbits];simp only[Sem.run_bind,Result.andThen_ok,Sem.run_pure];rw[Adm _ q1];rfl
   ·rw[Array.getElem?_modify]at hje;by_cases hij:i=j
    ·rw[if_pos hij]at hje;rw[<-hij,he]at hje;simp only[Option.map_some,Option.some.injEq]at hje;subst hje;rw[<-hij];refine⟨?_,?_⟩
     ·rw[k3];exact hp
     ·have hrow:=s5 (by omega);rw[A42 _ _ (by rw[LX.row_len];exact hcl')]at hrow;exact Aha hrow hxr
    ·rw[if_neg hij]at hje;rw[s6 j (λe=>hij e.symm)];exact q4 j e hje
  ·exact hs'.elim
theorem LX.cut_spec{x y:LX}{i:Nat}(h:LX.cut x i=some y)(hi:i<x.len):y.len=x.len-1/\∀j,j<y.len->y.row j=x.row (if j<i then j else j+1):=by
 obtain⟨_,_,_,_,c5,c6,c7⟩:=LX.cat_spec _ _ _ h;obtain⟨_,_,a3,a4⟩:=LX.sub_spec x 0 i (by omega);obtain⟨_,_,b3,b4⟩:=LX.sub_spec x (i+1) x.len (Nat.le_refl _);have hl:y.len=x.len-1:=by rw[c5,a3,b3];omega
 refine⟨hl,λj hj=>?_⟩;by_cases hji:j<i
 ·rw[if_pos hji,c6 j (by rw[a3];omega),a4 j (by omega),Nat.zero_add]
 ·rw[if_neg hji];have:=c7 (j-i);rw[a3,show i-0+(j-i)=j by omega,b4 (j-i) (by omega)]at this;rw[this]
  congr 1
  omega
theorem A8d(hdst:o.dst=none){v:Value}{w':World}{M':Jw}{β':Kh}(hrun:(execOp a.eval o).run P w=.ok (.value v) w')(hS:SR cx w0 N nt (st.app δ) a w' M' β'):E9 cx P w0 N nt st a w o δ :=
 λK Q hK=>L4 hrun (by rw[hdst];exact hK _ _ _ _ hS)
theorem A79(h:SR cx w0 N nt st a w M β){t ek ev:Nat}{ts:List (Nat×Nat)}{gq gk:Bool}{ck:List PV}{m q:Operand}{ats:Array Nat}(hd:o.dst=none)(ho:o.op=.call { callee:=.builtin .delete,args:= #[m,q],argTypes:=ats })(hat:ats[0]? =some t)(hu:P.underlying t=some (.map ek ev))
  (ht:Wu P ek=some (gq,ts)){b:Nat}(hm:st.aM m=.mp b)(hq:Adc gq ts (st.aM q)=some ck){ks vs:LX}{gv:Bool}
  (hob:st.obj b= [.aL gk gv ks vs])(hgk:Aog gq gk=true){r:Option Nat}(hf:LX.find ks ck=some r)
  (hs:fk r (λi=>match LX.cut ks i,LX.cut vs i with
      |some ks',some vs'=>⟨[],[(b,[.aL gk gv ks' vs'])]⟩= δ
      |_,_=>False)
     (⟨[],[]⟩= δ)):E9 cx P w0 N nt st a w o δ :=by
 have hmr:=h.aM m;rw[hm]at hmr;obtain⟨bb,n,hb,hv⟩:=Ay2 hmr;obtain⟨hb1,_,h3⟩:=h.sh.box b bb n hb;obtain⟨es,clock,q1,q2,q3,q4,q5⟩:=Awa h3 hob;have hgk':gk=gq:=by cases gk<;>cases gq<;>first|rfl|cases hgk
 subst hgk';obtain⟨hp,hchk,hfk⟩:=Arq ht hq (h.aM q);obtain⟨hrun,hfound⟩:=hfk es ks q2 (λi e he=>(q4 i e he).1) r hf w;have hbw:bb<w.heap.size:=h.sh.mlt bb 0 (h.sh.box b bb n hb).2.1;have fin:∀(es':Array MapEntry) (clock':Nat) (ks' vs':LX),(execOp a.eval o).run P w=.ok (.value (.tuple #[])) { w with heap:=w.heap.setIfInBounds bb (.map es' clock') } ->es'.size=ks'.len->vs'.len=ks'.len->
   (∀(i:Nat) (e:MapEntry),es'[i]? =some e->Bk w M β w0.old (V2 gk (ks'.row i)) e.key/\Bk w M β w0.old (V2 gv (vs'.row i)) e.val)->K7 es' clock'->⟨[],[(b,[.aL gk gv ks' vs'])]⟩= δ->E9 cx P w0 N nt st a w o δ :=by
  intro es' clock' ks' vs' hrun hk hv' hes hbn hδ;subst hδ;have hoth:∀k,k≠bb->(w.heap.setIfInBounds bb (.map es' clock'))[k]? =w.heap[k]? :=λk hk=>by rw[Array.getElem?_setIfInBounds_ne (λe=>hk e.symm)]
  obtain⟨hS,_⟩:=h.sh.setObj (O':=(st.app ⟨[],[(b,[.aL gk gv ks' vs'])]⟩).obj) b bb n hb (by rw[hob];simp) [.aL gk gv ks' vs'] (λcs t q=>by rw[q1]at q;cases q) (by rw[Dm,if_pos rfl]) (λz hz=>by rw[Dm,if_neg (λe=>hz e.symm)])
   (w':= { w with heap:=w.heap.setIfInBounds bb (.map es' clock') }) hoth (by simp) ⟨rfl,rfl,rfl,by simp,λk hk=>hoth k (λe=>hb1 (by rw[<-e];exact hk)),Ajx hoth (by unfold dH;rw[q1];exact Nat.zero_le _)⟩
   (λhR=>.map gk gv ks' vs' es' clock' (by simp[hbw]) hk hv' (λi e he=>⟨hR _ _ (hes i e he).1,hR _ _ (hes i e he).2⟩) hbn)
   (λk p s v hp hs _ _=>by
    cases k with
    |zero=>simp at hp;subst hp;cases hs
    |succ k=>simp at hp)
  refine A8d (M':=M) (β':= β) hd hrun ⟨h.defs,h.nt,?_⟩;refine hS.perm (λk=>hS.reg k) (λd b n hd=>(hS.box d b n hd).2.2) (λz hz=>h.sh.dom z ?_) some (λkey s v ho=>⟨key,rfl,ho⟩) (λk k' j h1 h2=>by injection h1 with h1;injection h2 with h2;rw[h1,h2]);have hz':=(Be _ _).1 hz;exact(Be _ _).2 (λhm=>hz' (List.mem_cons_of_mem _ hm))
 have run:∀(w':World),(match r with|some i=>(setObj bb (.map (es.eraseIdxIfInBounds i) clock))|none=>(setObj bb (.map es clock))).run P w=.ok () w'->(∀i,r=some i->i<es.size)->(execOp a.eval o).run P w=.ok (.value (.tuple #[])) w':=by
  intro w' hw' hri;have ha0:ats[0]? =some t:=hat;simp only[execOp,ho,resolve,invoke,builtin,Builtin.delete_,Sem.run_bind,Sem.run_pure,Result.andThen_ok,List.map_toArray,List.map_cons,List.map_nil,ha0,hv];simp only[List.getElem?_toArray,List.getElem?_cons_zero,List.getElem?_cons_succ];simp only[Sem.run_bind,run_underlying hu,Result.andThen_ok,Sem.run_pure];rw[Xl (P:=P) q1];simp only[Sem.run_bind,Result.andThen_ok,Sem.run_pure];rw[hchk];simp only[Sem.run_bind,Result.andThen_ok,Sem.run_pure];rw[hrun];cases r with
  |none=>
   simp only[Option.bind_none,Sem.run_bind,Result.andThen_ok,Sem.run_pure];rw[hw'];rfl
  |some i=>
   have hil:=hri i rfl;have he:es[i]? =some (es[i]'hil):=Array.getElem?_eq_getElem hil;simp only[Option.bind_some,he,Option.map_some,Sem.run_bind,Result.andThen_ok,Sem.run_pure];rw[hw'];rfl
 cases r with
 |none=>
  have hs':(⟨[],[]⟩:B2)= δ :=hs;subst hs';have hw:({ w with heap:=w.heap.setIfInBounds bb (.map es clock) } :World)=w:=by
   have:w.heap.setIfInBounds bb (.map es clock)=w.heap:=by
    apply Array.ext_getElem?;intro i;rw[Array.getElem?_setIfInBounds];split
    ·rename_i e;subst e
     exact q1.symm
    ·rfl
   rw[this]
  intro K Q hK;refine L4 (run w ?_ (λi h=>by cases h)) ?_
  ·show(setObj bb (.map es clock)).run P w=_
   rw[Adm _ q1,hw]
  ·rw[hd];have e:st.app ⟨[],[]⟩=st:=rfl;exact hK _ _ _ _ (by rw[e];exact h)
 |some i=>
  obtain⟨hi,_⟩:=hfound i rfl;have hs':(match LX.cut ks i,LX.cut vs i with
      |some ks',some vs'=>(⟨[],[(b,[.aL gk gv ks' vs'])]⟩:B2)= δ
      |_,_=>False):=hs
  split at hs'
  ·rename_i ks' vs' hk' hv';obtain⟨p1,p2⟩:=LX.cut_spec hk' (by omega);obtain⟨r1,r2⟩:=LX.cut_spec hv' (by omega);have hsz:(es.eraseIdxIfInBounds i).size=es.size-1:=by
    unfold Array.eraseIdxIfInBounds;rw[dif_pos hi,Array.size_eraseIdx]
   refine fin (es.eraseIdxIfInBounds i) clock ks' vs' (run _ ?_ (λj hj=>by injection hj with hj;omega)) (by rw[hsz,p1,q2]) (by rw[r1,p1,q3]) (λj e hje=>?_) (q5.erase i hi) hs'
   ·show(setObj bb (.map (es.eraseIdxIfInBounds i) clock)).run P w=_
    rw[Adm _ q1]
   ·have hjl:j<(es.eraseIdxIfInBounds i).size:=(Array.getElem?_eq_some_iff.1 hje).1;rw[Alk es i hi]at hje;rw[p2 j (by omega),r2 j (by omega)];exact q4 _ e hje
  ·exact hs'.elim
end
end Go.Proofs.YtgacplpjamkieaaGreat.Ev
