/-  Operations: slices of slices, maps, calls. -/
import Derived.Test.YtgacplpjamkieaaGreatZFE
import Derived.DeepKeys
import Derived.MapKept
set_option linter.unusedVariables false
set_option linter.unusedSimpArgs false
set_option linter.unnecessarySimpa false
namespace Go.Proofs.YtgacplpjamkieaaGreat.Ev
open Go Go.RowKit
section
variable {ι :Type} {cx: ι->PV×Value} {P:Program} {w0:He} {w:World} {N M:Ro} {β :Qd} {nt:Nat} {st:St} {a:Act} {o:Oper} {δ :Cy} {ban:List Nat}
theorem Af0(h:SR cx w0 N nt st a w M β){d n:Int}{x:Option Operand}(hx:st.bnd d x=some n):(x=none/\n=d)\/∃y k,x=some y/\a.eval y=.int k n:=by
 unfold St.bnd at hx;cases x with
 |none=>injection hx with hx;exact .inl ⟨rfl,hx.symm⟩
 |some y=>
  simp only at hx;split at hx
  ·rename_i k m hy;injection hx with hx
   subst hx;have:=h.aQ y;rw[hy]at this;exact .inr ⟨y,k,rfl,this.val_eq⟩
  ·cases hx
theorem Yt(k:IntKind){i:Int}{y:Nat}(code:BoundsCode)(h0:0<=i)(h1:i<=y):(Instr.sliceBound (.int k i) y code).run P w=.ok i.toNat w:=by
 simp[Instr.sliceBound,asIntOf,h0,h1]
theorem Ax0(h:SR cx w0 N nt st a w M β){n c:Nat}{l hh m:Int}{lo hi mx:Option Operand}(hc:n<=c)(hm:st.bnd n mx=some m)(hhi:st.bnd n hi=some hh)(hl:st.bnd 0 lo=some l)
  (h0:0<=l)(h1:l<=hh)(h2:hh<=m)(h3:m<=n)(hmx:hi=none->mx=none)(b:Bool):
  ∃m',(Instr.sliceBounds b n c (lo.map a.eval) (hi.map a.eval) (mx.map a.eval)).run P w=.ok (l.toNat,hh.toNat,m') w/\hh.toNat<=m'/\(mx≠none->m'=m.toNat):=by
 rcases Af0 h hm with⟨rfl,rfl⟩|⟨ym,km,rfl,em⟩
 ·refine⟨c,?_,by omega,λh=>absurd rfl h⟩;rcases Af0 h hhi with⟨rfl,rfl⟩|⟨yh,kh,rfl,eh⟩
  ·rcases Af0 h hl with⟨rfl,rfl⟩|⟨yl,kl,rfl,el⟩
   ·simp[Instr.sliceBounds]
   ·simp only[Instr.sliceBounds,Option.map_none,Option.map_some,Sem.run_bind,Sem.run_pure,Result.andThen_ok,el];rw[Yt kl _ h0 h1];simp
  ·rcases Af0 h hl with⟨rfl,rfl⟩|⟨yl,kl,rfl,el⟩
   ·simp only[Instr.sliceBounds,Option.map_none,Option.map_some,Sem.run_bind,Sem.run_pure,Result.andThen_ok,eh];rw[Yt kh _ (by omega) (by omega)];simp
   ·simp only[Instr.sliceBounds,Option.map_none,Option.map_some,Sem.run_bind,Sem.run_pure,Result.andThen_ok,eh,el];rw[Yt kh _ (by omega) (by omega)];simp only[Result.andThen_ok];rw[Yt kl _ h0 (by omega)];simp
 ·rcases Af0 h hhi with⟨rfl,rfl⟩|⟨yh,kh,rfl,eh⟩
  ·exact absurd (hmx rfl) (by simp)
  ·refine⟨m.toNat,?_,by omega,λ_=>rfl⟩;rcases Af0 h hl with⟨rfl,rfl⟩|⟨yl,kl,rfl,el⟩
   ·simp only[Instr.sliceBounds,Option.map_none,Option.map_some,Sem.run_bind,Sem.run_pure,Result.andThen_ok,eh,em];rw[Yt km _ (by omega) (by omega)];simp only[Result.andThen_ok];rw[Yt kh _ (by omega) (by omega)];simp
   ·simp only[Instr.sliceBounds,Option.map_none,Option.map_some,Sem.run_bind,Sem.run_pure,Result.andThen_ok,eh,el,em];rw[Yt km _ (by omega) (by omega)];simp only[Result.andThen_ok];rw[Yt kh _ (by omega) (by omega)];simp only[Result.andThen_ok];rw[Yt kl _ h0 (by omega)];simp
theorem Bio{B:Nat->Prop}{own:Bool}{y:LX}{A:Option Addr}{n c:Nat}(h:B5 w M β B (.aV own y) (.slice A n c))(own':Bool)(l hh m:Nat)(h1:l<=hh)(h2:hh<=y.len)(h3:hh<=m):
  B5 w M β B (.aV own' (y.sub l hh)) (sliced A l hh m y.sz):=by
 obtain⟨s1,s2,s3,s4⟩:=LX.sub_spec y l hh h2;have go:∀(p:PV) (v:Value),p.sv=some ⟨own,y.e,y.sz,y.len,y.row⟩->B5 w M β B p v->v=.slice A n c->B5 w M β B (.aV own' (y.sub l hh)) (sliced A l hh m y.sz):=by
  intro p v hp h hv;cases h with
  |row p s hs A' c' vs hc hsz ha hm hr=>
   rw[hp]at hs;injection hs with hs;subst hs
   injection hv with e1 e2 e3
   subst e1;have key:∀(a':Option Addr),(∀i,i<hh-l->∃ad ad0,a'=some ad/\A'=some ad0/\ad=ad0.add (l*y.sz))->B5 w M β B (.aV own' (y.sub l hh)) (.slice a' (hh-l) (m-l)):=by
    intro a' hA;have:=B5.row (w:=w) (M:=M) (β := β) (B:=B) (.aV own' (y.sub l hh)) ⟨own',(y.sub l hh).e,(y.sub l hh).sz,(y.sub l hh).len,(y.sub l hh).row⟩ rfl a' (m-l) (λi j=>vs (l+i) j) (by simp only[s3];omega)
     (λi hi=>LX.row_len _ _) (λi hi=>by simp only[s3]at hi;obtain⟨ad,_,h,_⟩:=hA i hi;exact⟨ad,h⟩)
     (λad i j q had hi hq=>by
      simp only[s3]at hi;simp only[s4 i hi]at hq;obtain⟨ad',ad0,e1,e2,e3⟩:=hA i hi;rw[e1]at had;injection had with had
      subst had;obtain⟨g1,g2,g3⟩:=hm ad0 (l+i) j q e2 (by show l+i<y.len;omega) hq;simp only[s2];rw[e3,At5,show l*y.sz+(i*y.sz+j)=(l+i)*y.sz+j by rw[Nat.add_mul];omega];exact⟨g1,g2,g3⟩)
     (λi j q hi hq=>by
      simp only[s3]at hi;simp only[s4 i hi]at hq;exact hr (l+i) j q (by show l+i<y.len;omega) hq)
    simpa only[s3]using this
   unfold sliced;by_cases hml:m=l
   ·rw[if_pos hml];exact key _ (λi hi=>by omega)
   ·rw[if_neg hml];refine key _ (λi hi=>?_);obtain⟨ad,had⟩:=ha (l+i) (by show l+i<y.len;omega);exact⟨ad.add (l*y.sz),ad,by rw[had];rfl,had,rfl⟩
  |_=>cases hp
 exact go _ _ rfl h rfl
theorem Bc1(h:SR cx w0 N nt st a w M β)(hd:∀x,o.dst=some x->x<nt)(t e sz:Nat)(x:Operand)(lo hi mx:Option Operand)(ho:o.op=.slice t x lo hi mx)(hu:P.underlying t=some (.slice e))(hsz:szT P e=some sz)
  (hmx:hi=none->mx=none)(own:Bool)(y:LX)(hx:st.aQ x=.aV own y)(hys:sz=y.sz){l hh m:Int}(hm:st.bnd y.len mx=some m)(hhi:st.bnd y.len hi=some hh)(hl:st.bnd 0 lo=some l)
  (h0:0<=l)(h1:l<=hh)(h2:hh<=m)(h3:m<=(y.len:Int))(h4:mx.isSome=true->m<=hh):
  I3 cx P w0 N nt st a w o (dput o.dst (.aV mx.isSome (y.sub l.toNat hh.toNat))):=by
 have hxr:=h.aQ x;rw[hx]at hxr;have hv:∃A c,a.eval x=.slice A y.len c/\y.len<=c:=by
  obtain⟨A,c,_,q,hc,_⟩:∃A c,True/\a.eval x=.slice A y.len c/\y.len<=c/\True:=by
   have go:∀(p:PV) (v:Value),p.sv=some ⟨own,y.e,y.sz,y.len,y.row⟩->B5 w M β w0.old p v->∃A c,True/\v=.slice A y.len c/\y.len<=c/\True:=by
    intro p v hp h;cases h with
    |row p s hs A c vs hc=>
     rw[hp]at hs;injection hs with hs;subst hs
     exact⟨A,c,trivial,rfl,hc,trivial⟩
    |_=>cases hp
   exact go _ _ rfl hxr
  exact⟨A,c,q,hc⟩
 obtain⟨A,c,hv,hc⟩:=hv;obtain⟨ie,hie,hies⟩:=Aha hsz;obtain⟨m',hb,hm1,hm2⟩:=Ax0 (P:=P) h hc hm hhi hl h0 h1 h2 h3 hmx true;have helem:P.elem t=e:=by simp[Program.elem,hu]
 have hrun:(execOp a.eval o).run P w=.ok (.value (sliced A l.toNat hh.toNat m' y.sz)) w:=by
  simp only[execOp,ho,Sem.run_bind,Sem.run_pure,Result.andThen_ok,hv];rw[run_sliceAt_slice w t _ _ _ _ (by rw[helem];exact hu),run_slice_any w t _ _ _ (by rw[helem];exact hu),hb,helem];simp[sizeOf,typeInfo,hie,hies,hys]
 rw[hv]at hxr;have hrel:=λown'=>Bio hxr own' l.toNat hh.toNat m' (by omega) (by omega) hm1;cases hdst:o.dst with
 |none=>
  intro K Q hK;refine Sp hrun ?_;rw[hdst];exact hK _ _ _ _ h
 |some d=>
  refine Nq h hd hdst (st0:=st) (h.sh.cons _ _ (hrel _) (λs h1' h2'=>?_)) hrun (λs=>Jv st d s _) (λ_=>rfl) (λ_ h=>h);have hz:∃a',sliced A l.toNat hh.toNat m' y.sz=.slice a' s.n s.n:=by
   injection h1' with h1'
   subst h1';have hm0:=h4 h2';have e1:=hm2 (by intro e;rw[e]at h2';cases h2');have:m'=hh.toNat:=by omega
   obtain⟨_,_,s3,_⟩:=LX.sub_spec y l.toNat hh.toNat (by omega);subst this;refine⟨if hh.toNat=l.toNat then A else A.map λx=>x.add (l.toNat*y.sz),?_⟩;simp only[sliced,s3]
  obtain⟨a',hz⟩:=hz;rw[hz];exact⟨.inl ⟨a',rfl⟩,λkey s' v' g _ hg=>absurd hg Aiy,λg d n hg=>absurd hg Aiy⟩
theorem A9o(h:SR cx w0 N nt st a w M β)(hd:∀x,o.dst=some x->x<nt)(t:Nat)(x:Operand)(lo hi:Option Operand)(ho:o.op=.slice t x lo hi none)(hu:P.underlying t=some .string)
  (s:ByteArray)(hx:st.aQ x=.val (.string s)){l hh:Int}(hhi:st.bnd s.size hi=some hh)(hl:st.bnd 0 lo=some l)(h0:0<=l)(h1:l<=hh)(h2:hh<=(s.size:Int)):
  I3 cx P w0 N nt st a w o (dput o.dst (.val (.string (s.extract l.toNat hh.toNat)))):=by
 have hxr:=h.aQ x;rw[hx]at hxr;have hv:a.eval x=.string s:=hxr.val_eq;obtain⟨m',hb,_,_⟩:=Ax0 (P:=P) (mx:=none) h (Nat.le_refl s.size) rfl hhi hl h0 h1 h2 (Int.le_refl _) (λ_=>rfl) false;refine D5 h hd _ _ w (Below.refl _ _) ?_ (.val _ rfl) (Lt rfl);simp only[Option.map_none]at hb;simp only[execOp,ho,Sem.run_bind,Sem.run_pure,Result.andThen_ok,hv,Option.map_none];rw[run_sliceAt_string w t _ _ _ _ hu];simp only[Instr.slice,Sem.run_bind,run_underlying hu,Result.andThen_ok,Option.isSome_none,Bool.false_eq_true,if_false];rw[hb];simp
theorem A9m(h:SR cx w0 N nt st a w M β)(hd:∀x,o.dst=some x->x<nt)(src dst e:Nat)(x:Operand)(ho:o.op=.convert src dst x)(hs:P.underlying src=some (.slice e))(he:P.underlying e=some (.int .u8))(ht:P.underlying dst=some .string)
  (own:Bool)(y:LX)(hx:st.aQ x=.aV own y)(s:ByteArray)(hy:y.str=some s):I3 cx P w0 N nt st a w o (dput o.dst (.val (.string s))):=by
 have hxr:=h.aQ x;rw[hx]at hxr;obtain⟨l,rfl,hl,hsz,hrow⟩:=LX.str_spec hy;obtain⟨A,c,xs,q1,q2,q3,q4,q5,q6,q7,q8⟩:=Aba (p:=.aV own y) (s:=⟨own,y.e,y.sz,y.len,y.row⟩) rfl (by show 1<=y.sz;omega) hxr;have hxs:xs=l.map (Value.int .u8):=by
  have q3:xs.length=y.len*y.sz:=q3;rw[hsz,hl,Nat.mul_one]at q3;apply List.ext_getElem?;intro i;by_cases hi:i<l.length
  ·obtain⟨u,k1,k2,_⟩:=q8 i 0 (.val (.int .u8 (l.getD i 0))) (by show i<y.len;omega) (by show(y.row i)[0]? =_;rw[hrow i hi];rfl);have k1:xs[i*y.sz+0]? =some u:=k1;rw[hsz,Nat.mul_one,Nat.add_zero]at k1;rw[k1,k2.val_eq,List.getElem?_map,List.getElem?_eq_getElem hi,List.getD,List.getElem?_eq_getElem hi];rfl
  ·rw[List.getElem?_eq_none (by omega),List.getElem?_eq_none (by simp;omega)]
 refine D5 h hd _ _ w (Below.refl _ _) ?_ (.val _ rfl) (Lt rfl);have q1:a.eval x=.slice A y.len c:=q1;simp only[execOp,ho,Sem.run_bind,Sem.run_pure,Result.andThen_ok,q1];cases A with
 |none=>
  rw[run_convert_bytes_nil w src e hs he _ _ dst ht];have:l= []:=by
   rcases Nat.eq_zero_or_pos l.length with h|h
   ·exact List.eq_nil_of_length_eq_zero h
   ·obtain⟨ad,e⟩:=q6 (by show 0<y.len;omega);cases e
  subst this;rfl
 |some ad=>
  have hc:(loadCells ad y.len).run P w=.ok (l.map (Value.int .u8)).toArray w:=by
   have:=run_loadCells_list (P:=P) w ad (l.map (Value.int .u8)) (λj v hj=>q4 ad j v rfl (by rw[hxs];exact hj));rw[List.length_map,<-hl]at this;exact this
  rw[run_convert_bytes_string w src dst e _ y.len c hs he ht,run_bytesToString w ad y.len c l hc,foldl_push_bytes];simp[strOfNums,ByteArray.empty,ByteArray.emptyWithCapacity];rfl
theorem A50(h:SR cx w0 N nt st a w M β)(hd:∀x,o.dst=some x->x<nt)(src dst e:Nat)(x:Operand)(ho:o.op=.convert src dst x)(hs:P.underlying src=some (.slice e))(he:P.underlying e=some (.int .u8))(ht:P.underlying dst=some .string)
  (hx:st.aQ x=.val (.slice none 0 0)):I3 cx P w0 N nt st a w o (dput o.dst (.val (.string ByteArray.empty))):=by
 have hxr:=h.aQ x;rw[hx]at hxr;have hv:a.eval x=.slice none 0 0:=hxr.val_eq;refine D5 h hd _ _ w (Below.refl _ _) ?_ (.val _ rfl) (Lt rfl);simp only[execOp,ho,Sem.run_bind,Sem.run_pure,Result.andThen_ok,hv];rw[run_convert_bytes_nil w src e hs he _ _ dst ht];rfl
theorem Aoi{B0:Nat->Prop}{l:List PV}{cs:List Value}(hl:l.length=cs.length)(hr:∀(i:Nat) (p:PV) (v:Value),l[i]? =some p->cs[i]? =some v->B5 w M β B0 p v){o:Nat}{v:Value}(h:Sm l o=.val v):cs[o]? =some v:=by
 induction l generalizing cs o with
 |nil=>simp[Sm]at h
 |cons p r ih=>
  cases cs with
  |nil=>simp at hl
  |cons c cs=>
   cases o with
   |zero=>
    simp only[Sm]at h;subst h;have:=(hr 0 _ c rfl rfl).val_eq;rw[this];rfl
   |succ o=>
    have:=ih (cs:=cs) (o:=o) (by simpa using hl) (λi p v h1 h2=>hr (i+1) p v (by simpa using h1) (by simpa using h2)) (by simpa[Sm]using h);simpa using this
theorem Anr{t tag:Nat}(h:Alz P t=some tag):P.plainKey t=true:=by
 unfold Alz at h;unfold Program.plainKey;split at h<;>simp_all
theorem A2e{B0:Nat->Prop}{l m:List PV}{xs ys:List Value}(h1:l.length=xs.length)(r1:∀(i:Nat) (p:PV) (v:Value),l[i]? =some p->xs[i]? =some v->B5 w M β B0 p v)
  (h2:m.length=ys.length)(r2:∀(i:Nat) (p:PV) (v:Value),m[i]? =some p->ys[i]? =some v->B5 w M β B0 p v)(d:Nat)(w':World):
  ∀(fs:List Field) (ts:List (Nat×Nat)) (b:Bool),Amw P fs=some ts->Amv ts l m=some b->(Op.eqFields (d+1) xs.toArray ys.toArray fs).run P w'=.ok b w'
 | [],ts,b,ht,hb=>by
  simp only[Amw,Option.some.injEq]at ht;subst ht;simp only[Amv,Option.some.injEq]at hb;subst hb;simp[Op.eqFields]
 |f::fs,ts,b,ht,hb=>by
  simp only[Amw]at ht;split at ht
  ·rename_i tag l' hn htag htl;simp only[Option.some.injEq]at ht;subst ht;simp only[Amv]at hb;cases hr:Amv l' l m with
   |none=>rw[hr]at hb;cases hb
   |some t=>
    rw[hr]at hb;simp only at hb;have ih:=A2e h1 r1 h2 r2 d w' fs l' t htl hr;have hnm:f.name≠ "_" :=by simpa using hn
    have hp:=Anr htag;have fin:∀(u v:Value) (r:Bool),Sm l f.offset=.val u->Sm m f.offset=.val v->(Op.equalIn (d+1) f.type u v).run P w'=.ok r w'->(Op.eqFields (d+1) xs.toArray ys.toArray (f::fs)).run P w'=.ok (r && t) w':=by
     intro u v r hu hv hrun;have hx:xs.toArray[f.offset]? =some u:=by simpa using Aoi h1 r1 hu
     have hy:ys.toArray[f.offset]? =some v:=by simpa using Aoi h2 r2 hv
     simp only[Op.eqFields,hnm,ne_eq,not_false_eq_true,if_true,Sem.run_bind,run_part_plain w' hp hx,run_part_plain w' hp hy,hrun,Result.andThen_ok];cases r
     ·simp
     ·simpa using ih
    unfold Alz at htag;split at hb
    ·rename_i u v hu hv;simp only[Option.some.injEq]at hb;subst hb;split at htag<;>first|(exact absurd htag (by decide))|skip
     rename_i hty;exact fin _ _ _ hu hv (run_equalIn_bool w' d _ u v hty)
    ·rename_i k u k' v hu hv;split at hb
     ·rename_i hkk;have hkk':k=k':=of_decide_eq_true hkk;subst hkk';simp only[Option.some.injEq]at hb;subst hb;split at htag<;>first|(exact absurd htag (by decide))|skip
      rename_i k2 hty;exact fin _ _ _ hu hv (run_equalIn_int w' d _ k k2 u v hty)
     ·cases hb
    ·rename_i u v hu hv;simp only[Option.some.injEq]at hb;subst hb;split at htag<;>first|(exact absurd htag (by decide))|skip
     rename_i hty;exact fin _ _ _ hu hv (by simp[Op.equalIn,run_underlying hty])
    ·cases hb
  ·cases ht
theorem Azx{t:TypeId}{ts:List (Nat×Nat)}(hts:Aid P t=some ts):P.eqGuardType P.depth t=false:=by
 unfold Aid at hts;split at hts
 ·split at hts
  ·rename_i hgd;exact hgd
  ·cases hts
 ·split at hts
  ·rename_i hgd;exact hgd
  ·cases hts
 ·cases hts
theorem Ask{B0:Nat->Prop}{l m:List PV}{xs ys:List Value}(h1:l.length=xs.length)(r1:∀(i:Nat) (p:PV) (v:Value),l[i]? =some p->xs[i]? =some v->B5 w M β B0 p v)
  (h2:m.length=ys.length)(r2:∀(i:Nat) (p:PV) (v:Value),m[i]? =some p->ys[i]? =some v->B5 w M β B0 p v){e tag:Nat}(htag:Alz P e=some tag)(d:Nat)(w':World):
  ∀(is:List Nat) (b:Bool),Amv (Ase tag is) l m=some b->(Op.eqItems (d+1) e 1 xs.toArray ys.toArray is).run P w'=.ok b w'
 | [],b,hb=>by
  simp only[Ase,Amv,Option.some.injEq]at hb;subst hb;simp[Op.eqItems]
 |i::is,b,hb=>by
  simp only[Ase,Amv]at hb;cases hr:Amv (Ase tag is) l m with
  |none=>rw[hr]at hb;cases hb
  |some t=>
   rw[hr]at hb;simp only at hb;have ih:=Ask h1 r1 h2 r2 htag d w' is t hr;have hp:=Anr htag;have fin:∀(u v:Value) (r:Bool),Sm l i=.val u->Sm m i=.val v->(Op.equalIn (d+1) e u v).run P w'=.ok r w'->(Op.eqItems (d+1) e 1 xs.toArray ys.toArray (i::is)).run P w'=.ok (r && t) w':=by
    intro u v r hu hv hrun;have hx:xs.toArray[i]? =some u:=by simpa using Aoi h1 r1 hu
    have hy:ys.toArray[i]? =some v:=by simpa using Aoi h2 r2 hv
    simp only[Op.eqItems,Nat.mul_one,Sem.run_bind,run_part_plain w' hp hx,run_part_plain w' hp hy,hrun,Result.andThen_ok];cases r
    ·simp
    ·simpa using ih
   unfold Alz at htag;split at hb
   ·rename_i u v hu hv;simp only[Option.some.injEq]at hb;subst hb;split at htag<;>first|(exact absurd htag (by decide))|skip
    rename_i hty;exact fin _ _ _ hu hv (run_equalIn_bool w' d _ u v hty)
   ·rename_i k u k' v hu hv;split at hb
    ·rename_i hkk;have hkk':k=k':=of_decide_eq_true hkk;subst hkk';simp only[Option.some.injEq]at hb;subst hb;split at htag<;>first|(exact absurd htag (by decide))|skip
     rename_i k2 hty;exact fin _ _ _ hu hv (run_equalIn_int w' d _ k k2 u v hty)
    ·cases hb
   ·rename_i u v hu hv;simp only[Option.some.injEq]at hb;subst hb;split at htag<;>first|(exact absurd htag (by decide))|skip
    rename_i hty;exact fin _ _ _ hu hv (by simp[Op.equalIn,run_underlying hty])
   ·cases hb
theorem Auz{B0:Nat->Prop}{l m:List PV}{xs ys:List Value}(h1:l.length=xs.length)(r1:∀(i:Nat) (p:PV) (v:Value),l[i]? =some p->xs[i]? =some v->B5 w M β B0 p v)
  (h2:m.length=ys.length)(r2:∀(i:Nat) (p:PV) (v:Value),m[i]? =some p->ys[i]? =some v->B5 w M β B0 p v)(d:Nat)(w':World){t:TypeId}{ts:List (Nat×Nat)}{b:Bool}(hts:Aid P t=some ts)(hb:Amv ts l m=some b):
  (Op.equalIn (d+2) t (.agg xs.toArray) (.agg ys.toArray)).run P w'=.ok b w':=by
 unfold Aid at hts;split at hts
 ·rename_i fs hu;split at hts
  ·rename_i hst hgd;have hfs:P.fieldsOf t=fs:=by simp[Program.fieldsOf,hu]
   rw[show d+2=(d+1)+1 from rfl,run_equalIn_struct w' (d+1) t _ _ (by rw[hfs];exact hu) hst,hfs];exact A2e h1 r1 h2 r2 d w' _ _ _ hts hb
  ·cases hts
 ·rename_i n e hu;split at hts
  ·rename_i tag htag hc hgd;rw[Bool.and_eq_true]at hc;obtain⟨i,hi⟩:=Option.isSome_iff_exists.1 hc.2;have h1':P.cellsOf e=1:=Nat.eq_of_beq_eq_true hc.1;injection hts with hts
   subst hts;rw[show d+2=(d+1)+1 from rfl,run_equalIn_array w' (d+1) _ _ hu hi,h1'];exact Ask h1 r1 h2 r2 htag d w' _ _ hb
  ·cases hts
 ·cases hts
theorem Adr{b:Nat}{es:Array MapEntry}{clock:Nat}(h:w.heap[b]? =some (.map es clock)):(getObj b).run P w=.ok (.map es clock) w:=by
 simp[getObj,Sem.run,h]
theorem Aiu{b:Nat}{es:Array MapEntry}{clock:Nat}(o':Obj)(h:w.heap[b]? =some (.map es clock)):(setObj b o').run P w=.ok () { w with heap:=w.heap.setIfInBounds b o' } :=by
 simp[setObj,Sem.run,h]
theorem bytes_beq(a b:ByteArray):(a == b)=true↔a=b:=by
 exact Go.MapKept.bytes_beq a b
theorem Af1{t:Nat}{d:TypeDesc}{kv:Value}(hu:P.underlying t=some d)(hd:(∃k,d=.int k)\/d=.string\/d=.bool)(b:Bool)(n:Nat)(w':World):(Instr.checkKey b (n+1) t kv).run P w'=.ok () w':=by
 rcases hd with⟨k,rfl⟩|rfl|rfl<;>simp[Instr.checkKey,run_underlying hu]
theorem Ank{b r:Bool}{q:PV}(h:Amj (.val (.bool b)) q=some r):∃c,q=.val (.bool c)/\r=(b == c):=by
 cases q with
 |val v=>
  cases v with
  |bool c=>exact⟨c,rfl,by injection h with h;exact h.symm⟩
  |_=>cases h
 |_=>cases h
theorem Ait{b:ByteArray}{r:Bool}{q:PV}(h:Amj (.val (.string b)) q=some r):∃c,q=.val (.string c)/\r=(b == c):=by
 cases q with
 |val v=>
  cases v with
  |string c=>exact⟨c,rfl,by injection h with h;exact h.symm⟩
  |_=>cases h
 |_=>cases h
theorem Ar0{k:IntKind}{b:Int}{r:Bool}{q:PV}(h:Amj (.val (.int k b)) q=some r):∃c,q=.val (.int k c)/\r=(b == c):=by
 cases q with
 |val v=>
  cases v with
  |int k' c=>
   simp only[Amj]at h;split at h
   ·rename_i hk;have:=of_decide_eq_true hk;subst this;exact⟨c,rfl,by injection h with h;exact h.symm⟩
   ·cases h
  |_=>cases h
 |_=>cases h
theorem Ar1{p:PV}{q:List PV}{r:Bool}(h:Ae1 [p] q=some r):∃q0,q= [q0]/\Amj p q0=some r:=by
 match q,h with
 | [q0],h=>exact⟨q0,rfl,h⟩
theorem A5v{b r:Bool}{q:List PV}(h:Ae1 [.val (.bool b)] q=some r):∃c,q= [.val (.bool c)]/\r=(b == c):=by
 obtain⟨q0,rfl,h⟩:=Ar1 h;obtain⟨c,e1,e2⟩:=Ank h;subst e1;exact⟨c,rfl,e2⟩
theorem A05{b:ByteArray}{r:Bool}{q:List PV}(h:Ae1 [.val (.string b)] q=some r):∃c,q= [.val (.string c)]/\r=(b == c):=by
 obtain⟨q0,rfl,h⟩:=Ar1 h;obtain⟨c,e1,e2⟩:=Ait h;subst e1;exact⟨c,rfl,e2⟩
theorem A9b{k:IntKind}{b:Int}{r:Bool}{q:List PV}(h:Ae1 [.val (.int k b)] q=some r):∃c,q= [.val (.int k c)]/\r=(b == c):=by
 obtain⟨q0,rfl,h⟩:=Ar1 h;obtain⟨c,e1,e2⟩:=Ar0 h;subst e1;exact⟨c,rfl,e2⟩
theorem A35{t tag:Nat}{p:PV}{kv:Value}{B:Nat->Prop}(ht:Alz P t=some tag)(hp:A1f tag p=true)(hr:B5 w M β B p kv):
  p=.val kv/\∃d,P.underlying t=some d/\(∀(b:Bool) (w':World),(Instr.checkKey b 10000 t kv).run P w'=.ok () w')/\
   (∀(q:List PV) (r:Bool) (u:Value),Ae1 [p] q=some r->B5 w M β B (mkP false q) u->Instr.sameNow d kv u=some r/\(r=true->u=kv/\Instr.sameBits 10000 u kv=true/\q= [p])):=by
 unfold Alz at ht;unfold A1f at hp;split at hp
 ·rename_i b;have hv:=hr.val_eq;subst hv;split at ht<;>first|(exact absurd ht (by decide))|skip
  rename_i hu;refine⟨rfl,_,hu,λb' w'=>Af1 hu (.inr (.inr rfl)) b' 9999 w',λq r u hs hu'=>?_⟩;obtain⟨c,rfl,hrr⟩:=A5v hs;have hu2:u=.bool c:=(hu':B5 w M β B (.val (.bool c)) u).val_eq;subst hu2;refine⟨by rw[hrr];rfl,λhr'=>?_⟩;have e:b=c:=by rw[hrr]at hr';simpa using hr'
  subst e;exact⟨rfl,by simp[Instr.sameBits],rfl⟩
 ·rename_i k n;have hv:=hr.val_eq;subst hv;split at ht<;>first|(exact absurd ht (by decide))|skip
  rename_i kk hu;refine⟨rfl,_,hu,λb' w'=>Af1 hu (.inl ⟨kk,rfl⟩) b' 9999 w',λq r u hs hu'=>?_⟩;obtain⟨c,rfl,hrr⟩:=A9b hs;have hu2:u=.int k c:=(hu':B5 w M β B (.val (.int k c)) u).val_eq;subst hu2;refine⟨by rw[hrr];simp[Instr.sameNow],λhr'=>?_⟩;have e:n=c:=by rw[hrr]at hr';simpa using hr'
  subst e;exact⟨rfl,by simp[Instr.sameBits],rfl⟩
 ·rename_i s;have hv:=hr.val_eq;subst hv;split at ht<;>first|(exact absurd ht (by decide))|skip
  rename_i hu;refine⟨rfl,_,hu,λb' w'=>Af1 hu (.inr (.inl rfl)) b' 9999 w',λq r u hs hu'=>?_⟩;obtain⟨c,rfl,hrr⟩:=A05 hs;have hu2:u=.string c:=(hu':B5 w M β B (.val (.string c)) u).val_eq;subst hu2;refine⟨by rw[hrr];rfl,λhr'=>?_⟩;have e:s=c:=by rw[hrr]at hr';exact(bytes_beq _ _).1 hr'
  subst e;exact⟨rfl,by show(s == s)=true;exact(bytes_beq _ _).2 rfl,rfl⟩
 ·cases hp
theorem Azy(d:TypeDesc)(k:Value):∀(es:List MapEntry) (i0:Nat),(∀e∈es,Instr.sameNow d k e.key=some false)->Instr.findNow d k es i0=some none:=by
 intro es
 induction es with
 |nil=>intro i0 _;rfl
 |cons e es ih=>
  intro i0 h;simp only[Instr.findNow];rw[h e (by simp)];exact ih _ (λe' he=>h e' (List.mem_cons_of_mem _ he))
theorem Azz(d:TypeDesc)(k:Value):∀(es:List MapEntry) (i0 i:Nat) (e:MapEntry),es[i]? =some e->Instr.sameNow d k e.key=some true->(∀j e',j<i->es[j]? =some e'->Instr.sameNow d k e'.key=some false)->
  Instr.findNow d k es i0=some (some (i0+i,e.val)):=by
 intro es
 induction es with
 |nil=>intro i0 i e h;simp at h
 |cons e0 es ih=>
  intro i0 i e h h1 h2;simp only[Instr.findNow];cases i with
  |zero=>
   simp at h;subst h
   rw[h1];rfl
  |succ i=>
   rw[h2 0 e0 (by omega) rfl];simp only;rw[ih (i0+1) i e (by simpa using h) h1 (λj e' hj he=>h2 (j+1) e' (by omega) (by simpa using he))]
   congr 3;omega
theorem Ba8{t tag:Nat}{p:PV}{kv:Value}{B:Nat->Prop}(ht:Alz P t=some tag)(hp:A1f tag p=true)(hr:B5 w M β B p kv){es:Array MapEntry}{ks:LX}(hk:es.size=ks.len)
  (hes:∀(i:Nat) (e:MapEntry),es[i]? =some e->B5 w M β B (mkP false (ks.row i)) e.key){r:Option Nat}(hf:LX.find ks [p]=some r)(w':World):
  (Instr.findKey t kv es.toList).run P w'=.ok (r.bind λi=>(es[i]?).map λe=>(i,e.val)) w'/\(∀i,r=some i->i<es.size/\∀e,es[i]? =some e->e.key=kv/\Instr.sameBits 10000 e.key kv=true/\ks.row i= [p]):=by
 obtain⟨_,d,hu,_,hsame⟩:=A35 ht hp hr;obtain⟨f1,f2⟩:=LX.find_spec ks [p] r hf;have lt:∀i e,es.toList[i]? =some e->i<ks.len:=λi e he=>by
  have:=(List.getElem?_eq_some_iff.1 he).1;rw[<-hk];simpa using this
 cases r with
 |none=>
  refine⟨?_,λi h=>by cases h⟩;simp only[Instr.findKey,Sem.run_bind,run_underlying hu,Result.andThen_ok];rw[Azy d kv es.toList 0 (λe he=>by
   obtain⟨i,hi,rfl⟩:=List.getElem_of_mem he;have hi':es.toList[i]? =some es.toList[i]:=List.getElem?_eq_getElem hi;exact(hsame _ false _ (f1 rfl i (lt i _ hi')) (hes i _ (by rw[<-Array.getElem?_toList];exact hi'))).1)]
  rfl
 |some i=>
  obtain⟨g1,g2,g3⟩:=f2 i rfl;have hi:i<es.size:=by omega
  have he:es[i]? =some es[i]:=Array.getElem?_eq_getElem hi;obtain⟨q1,q2⟩:=hsame _ true _ g2 (hes i _ he);refine⟨?_,λi' h'=>by
   injection h' with h'
   subst h';exact⟨hi,λe he'=>by rw[he]at he';injection he' with he';subst he';exact q2 rfl⟩⟩
  simp only[Instr.findKey,Sem.run_bind,run_underlying hu,Result.andThen_ok];rw[Azz d kv es.toList 0 i es[i] (by rw[Array.getElem?_toList];exact he) q1 (λj e' hj he'=>
   (hsame _ false _ (g3 j hj) (hes j _ (by rw[<-Array.getElem?_toList];exact he'))).1)]
  simp[he]
theorem Awv{tag:Nat}{p:PV}(h:A1f tag p=true):(tag=0/\∃b,p=.val (.bool b))\/(tag=1/\∃k n,p=.val (.int k n))\/(tag=2/\∃s,p=.val (.string s)):=by
 unfold A1f at h;split at h
 ·exact .inl ⟨rfl,_,rfl⟩
 ·exact .inr (.inl ⟨rfl,_,_,rfl⟩)
 ·exact .inr (.inr ⟨rfl,_,rfl⟩)
 ·cases h
theorem Alh(l:List PV):∀(k:Nat) (p:PV) (r:List PV),l.drop k=p::r->Sm l k=p:=by
 induction l with
 |nil=>intro k p r h;simp at h
 |cons q l ih=>
  intro k p r h;cases k with
  |zero=>simp at h;exact h.1
  |succ k=>exact ih k p r (by simpa using h)
theorem Aod{l:List PV}{k:Nat}{p:PV}{r:List PV}(h:l.drop k=p::r):l.drop (k+1)=r:=by
 rw[<-List.drop_drop,h];rfl
theorem Bb3{tag k:Nat}{p q:PV}{b:Bool}(ht:A1f tag p=true)(h:Amj p q=some b)(l m:List PV)(hl:Sm l k=p)(hm:Sm m k=q){r:List (Nat×Nat)}{t:Bool}(hr:Amv r l m=some t):
  Amv ((tag,k)::r) l m=some (b && t):=by
 simp only[Amv,hr,hl,hm];rcases Awv ht with⟨rfl,x,rfl⟩|⟨rfl,kk,x,rfl⟩|⟨rfl,x,rfl⟩
 ·obtain⟨c,rfl,rfl⟩:=Ank h;rfl
 ·obtain⟨c,rfl,rfl⟩:=Ar0 h;simp
 ·obtain⟨c,rfl,rfl⟩:=Ait h;rfl
theorem Awl(l m:List PV):∀(ts:List (Nat×Nat)) (x:Nat×Nat) (k:Nat) (p q:PV) (l' m':List PV) (b:Bool),Awo k (x::ts)=true->Zh (x::ts) (p::l')=true->l.drop k=p::l'->m.drop k=q::m'->Ay0 p l' q m'=some b->Amv (x::ts) l m=some b
 | [],(tag,o),k,p,q,l',m',b,hs,ht,hl,hm,h=>by
  simp only[Awo]at hs;split at hs
  ·rename_i ho;have ho':=Nat.eq_of_beq_eq_true ho;subst ho';simp only[Zh]at ht;split at ht
   ·rename_i htag
    match l',ht with
    | [],_=>
     match m',h with
     | [],h=>
      have:=Bb3 htag (h:Amj p q=some b) l m (Alh l _ _ _ hl) (Alh m _ _ _ hm) (r:= []) (t:=true) rfl;rwa[Bool.and_true]at this
   ·cases ht
  ·cases hs
 |y::ts,(tag,o),k,p,q,l',m',b,hs,ht,hl,hm,h=>by
  simp only[Awo]at hs;split at hs
  ·rename_i ho;have ho':=Nat.eq_of_beq_eq_true ho;subst ho';rw[Zh]at ht;split at ht
   ·rename_i htag
    match l',ht with
    |p'::l'',ht=>
     match m',h with
     |q'::m'',h=>
      simp only[Ay0]at h;split at h
      ·rename_i x' y' h1 h2;injection h with h
       subst h;exact Bb3 htag h1 l m (Alh l _ _ _ hl) (Alh m _ _ _ hm) (Awl l m ts y (o+1) p' q' l'' m'' y' hs ht (Aod hl) (Aod hm) h2)
      ·cases h
   ·cases ht
  ·cases hs
theorem Awk{tag:Nat}{p q:PV}(ht:A1f tag p=true)(h:Amj p q=some true):q=p:=by
 rcases Awv ht with⟨rfl,x,rfl⟩|⟨rfl,kk,x,rfl⟩|⟨rfl,x,rfl⟩
 ·obtain⟨c,rfl,e⟩:=Ank h;have:x=c:=by simpa using e.symm
  rw[this]
 ·obtain⟨c,rfl,e⟩:=Ar0 h;have:x=c:=by simpa using e.symm
  rw[this]
 ·obtain⟨c,rfl,e⟩:=Ait h;have:x=c:=(bytes_beq _ _).1 e.symm
  rw[this]
theorem Awm:∀(ts:List (Nat×Nat)) (p q:PV) (l m:List PV),Zh ts (p::l)=true->Ay0 p l q m=some true->q::m=p::l
 | [],p,q,l,m,ht,h=>by cases ht
 |(tag,o)::ts,p,q,l,m,ht,h=>by
  rw[Zh]at ht;split at ht
  ·rename_i htag
   match l,m,ht,h with
   | [],[],_,h=>rw[Awk htag h]
   |p'::l',q'::m',ht,h=>
    simp only[Ay0]at h;split at h
    ·rename_i x y h1 h2;injection h with h
     obtain⟨e1,e2⟩:=Bool.and_eq_true_iff.1 h;subst e1;subst e2
     rw[Awk htag h1,Awm ts p' q' l' m' ht h2]
    ·cases h
  ·cases ht
theorem Ay8:∀ {ts:List (Nat×Nat)} {l:List PV},Zh ts l=true->∀(i:Nat) (p:PV),l[i]? =some p->∃v,p=.val v/\Instr.sameBits 9999 v v=true
 | [],[],_,i,p,h=>by simp at h
 |(tag,o)::ts,q::l,ht,i,p,h=>by
  rw[Zh]at ht;split at ht
  ·rename_i htag;cases i with
   |zero=>
    simp at h;subst h
    rcases Awv htag with⟨rfl,x,rfl⟩|⟨rfl,kk,x,rfl⟩|⟨rfl,x,rfl⟩
    ·exact⟨_,rfl,by simp[Instr.sameBits]⟩
    ·exact⟨_,rfl,by simp[Instr.sameBits]⟩
    ·exact⟨_,rfl,by show(x == x)=true;exact(bytes_beq _ _).2 rfl⟩
   |succ i=>exact Ay8 ht i p (by simpa using h)
  ·cases ht
theorem A98{B:Nat->Prop}{l:List PV}{u v:Value}(hv:∀(i:Nat) (p:PV),l[i]? =some p->∃v,p=.val v/\Instr.sameBits 9999 v v=true)(h1:B5 w M β B (.agg l) u)(h2:B5 w M β B (.agg l) v):u=v/\Instr.sameBits 10000 u v=true:=by
 cases h1 with
 |row p s hs=>cases hs
 |agg _ c1 hl1 o1 r1=>
  cases h2 with
  |row p s hs=>cases hs
  |agg _ c2 hl2 o2 r2=>
   have e:c1=c2:=by
    apply List.ext_getElem?;intro i;cases hp:l[i]? with
    |none=>
     have hi:=List.getElem?_eq_none_iff.1 hp;rw[List.getElem?_eq_none (by omega),List.getElem?_eq_none (by omega)]
    |some p=>
     have hi:=(List.getElem?_eq_some_iff.1 hp).1;obtain⟨v,rfl,_⟩:=hv i p hp;have a1:c1[i]? =some c1[i]:=List.getElem?_eq_getElem (by omega);have a2:c2[i]? =some c2[i]:=List.getElem?_eq_getElem (by omega);rw[a1,a2,(r1 i _ _ hp a1).val_eq,(r2 i _ _ hp a2).val_eq]
   subst e;refine⟨rfl,?_⟩;rw[show(10000:Nat)=9999+1 from rfl,Instr.sameBits];rw[Bool.and_eq_true];refine⟨by simp,?_⟩;rw[List.all_eq_true]
   rintro ⟨x,y⟩ hxy
   simp only at hxy;obtain⟨i,hi,e⟩:=List.getElem_of_mem hxy;have hi':i<c1.length:=by simpa using hi
   rw[List.getElem_zip]at e;injection e with e1 e2
   have hp:l[i]? =some l[i]:=List.getElem?_eq_getElem (by omega);obtain⟨v,hv1,hv2⟩:=hv i _ hp;have a1:c1[i]? =some c1[i]:=List.getElem?_eq_getElem hi';have:=r1 i _ _ hp a1;rw[hv1]at this;have hx:x=v:=by rw[<-e1];exact this.val_eq
   have hy:y=v:=by rw[<-e2];exact this.val_eq
   subst hx;subst hy
   exact hv2
theorem A2l{d:TypeDesc}{k:Value}(hd:(∃n e,d=.array n e)\/∃fs,d=.struct fs)(es:List MapEntry):Instr.findNow d k es 0=(match es with| []=>some none|_=>none):=by
 cases es with
 |nil=>rfl
 |cons e es=>
  simp only[Instr.findNow];have:Instr.sameNow d k e.key=none:=by
   rcases hd with⟨n,e',rfl⟩|⟨fs,rfl⟩<;>simp[Instr.sameNow]
  rw[this]
theorem Atb{t:TypeId}{k:Value}(w':World):∀(es:List MapEntry) (i0:Nat),(∀e∈es,(Op.equal t k e.key).run P w'=.ok false w')->(Instr.findAsking t k es i0).run P w'=.ok none w':=by
 intro es
 induction es with
 |nil=>intro i0 _;rfl
 |cons e es ih=>
  intro i0 h;simp only[Instr.findAsking,Sem.run_bind,h e (by simp),Result.andThen_ok];exact ih _ (λe' he=>h e' (List.mem_cons_of_mem _ he))
theorem Atc{t:TypeId}{k:Value}(w':World):∀(es:List MapEntry) (i0 i:Nat) (e:MapEntry),es[i]? =some e->(Op.equal t k e.key).run P w'=.ok true w'->(∀j e',j<i->es[j]? =some e'->(Op.equal t k e'.key).run P w'=.ok false w')->
  (Instr.findAsking t k es i0).run P w'=.ok (some (i0+i,e.val)) w':=by
 intro es
 induction es with
 |nil=>intro i0 i e h;simp at h
 |cons e0 es ih=>
  intro i0 i e h h1 h2;cases i with
  |zero=>
   simp at h;subst h
   simp only[Instr.findAsking,Sem.run_bind,h1,Result.andThen_ok];rfl
  |succ i=>
   simp only[Instr.findAsking,Sem.run_bind,h2 0 e0 (by omega) rfl,Result.andThen_ok];have:=ih (i0+1) i e (by simpa using h) h1 (λj e' hj he=>h2 (j+1) e' (by omega) (by simpa using he));rw[show i0+1+i=i0+(i+1) by omega]at this;exact this
theorem Ax2{t tag:Nat}(ht:Alz P t=some tag)(v:Value)(b:Bool)(n:Nat)(w':World):(Instr.checkKey b (n+1) t v).run P w'=.ok () w':=by
 unfold Alz at ht;split at ht
 ·rename_i hu;exact Af1 hu (.inr (.inr rfl)) b n w'
 ·rename_i k hu;exact Af1 hu (.inl ⟨k,rfl⟩) b n w'
 ·rename_i hu;exact Af1 hu (.inr (.inl rfl)) b n w'
 ·cases ht
theorem A4r{fs:List Field}{ts:List (Nat×Nat)}(h:Amw P fs=some ts):∀f∈fs,f.name≠ "_" /\∃tag,Alz P f.type=some tag/\(tag,f.offset)∈ts:=by
 induction fs generalizing ts with
 |nil=>intro f hf;cases hf
 |cons g fs ih=>
  intro f hf;simp only[Amw]at h;split at h
  ·rename_i tag l hn htag hl;injection h with h
   subst h;rcases List.mem_cons.1 hf with rfl|hf
   ·exact⟨by simpa using hn,tag,htag,by simp⟩
   ·obtain⟨a,t,b,c⟩:=ih hl f hf;exact⟨a,t,b,List.mem_cons_of_mem _ c⟩
  ·cases h
theorem Aww:∀ {ts:List (Nat×Nat)} {l:List PV},Zh ts l=true->l.length=ts.length
 | [],[],_=>rfl
 |(tag,o)::ts,q::l,h=>by
  rw[Zh]at h;split at h
  ·simp[Aww h]
  ·cases h
 | [],_::_,h=>by cases h
 |_::_,[],h=>by simp[Zh]at h
theorem A3r:∀ {ts:List (Nat×Nat)} {k:Nat},Awo k ts=true->∀x∈ts,x.2<k+ts.length
 | [],_,_,x,hx=>by cases hx
 |(tag,o)::ts,k,h,x,hx=>by
  rw[Awo]at h;split at h
  ·rename_i ho;have:=Nat.eq_of_beq_eq_true ho;subst this;rcases List.mem_cons.1 hx with rfl|hx
   ·simp
   ·have:=A3r h x hx;simp at this ⊢;omega
  ·cases h
theorem Ave{ek:Nat}{gq:Bool}{ts:List (Nat×Nat)}{p:PV}{kv:Value}{c:List PV}{B:Nat->Prop}(hk:Acr P ek=some (gq,ts))(hc:Aih gq ts p=some c)(hr:B5 w M β B p kv):
  B5 w M β B (mkP gq c) kv/\(∀(b:Bool) (w':World),(Instr.checkKey b 10000 ek kv).run P w'=.ok () w')/\
  ∀(es:Array MapEntry) (ks:LX),es.size=ks.len->(∀(i:Nat) (e:MapEntry),es[i]? =some e->B5 w M β B (mkP gq (ks.row i)) e.key)->∀(r:Option Nat),LX.find ks c=some r->∀(w':World),
   (Instr.findKey ek kv es.toList).run P w'=.ok (r.bind λi=>(es[i]?).map λe=>(i,e.val)) w'/\(∀i,r=some i->i<es.size/\∀e,es[i]? =some e->e.key=kv/\Instr.sameBits 10000 e.key kv=true/\ks.row i=c):=by
 unfold Acr at hk;split at hk
 ·rename_i tag ht;injection hk with hk
  injection hk with e1 e2
  subst e1;subst e2
  simp only[Aih]at hc;split at hc
  ·rename_i htag;injection hc with hc
   subst hc;have hp:A1f tag p=true:=by
    simp only[Zh]at htag;split at htag
    ·assumption
    ·cases htag
   obtain⟨_,d,hu,hchk,_⟩:=A35 ht hp hr;exact⟨hr.view,hchk,λes ks hsz hes r hf w'=>Ba8 ht hp hr hsz hes hf w'⟩
  ·cases hc
 ·rename_i hnt;split at hk
  ·rename_i x xs hplan;split at hk
   ·rename_i hseq;injection hk with hk
    injection hk with e1 e2
    subst e1;subst e2
    cases p with
    |agg l=>
     simp only[Aih]at hc;split at hc
     ·rename_i htags;injection hc with hc
      subst hc;have hvals:=Ay8 htags;have hlen:=Aww htags;have hdesc:∃d,P.underlying ek=some d/\((∃n e,d=.array n e)\/∃fs,d=.struct fs):=by
       unfold Aid at hplan;split at hplan
       ·rename_i fs hu;exact⟨_,hu,.inr ⟨fs,rfl⟩⟩
       ·rename_i n e hu;exact⟨_,hu,.inl ⟨n,e,rfl⟩⟩
       ·cases hplan
      obtain⟨d,hu,hd⟩:=hdesc;have hr0:=hr;cases hr with
      |row _ s hs=>cases hs
      |agg _ cs hl o1 r1=>
      refine⟨hr0,λb w'=>?_,λes ks hsz hes r hf w'=>?_⟩
      ·
       have part:∀(t tag off:Nat),Alz P t=some tag->off<l.length->∃v,(part t cs.toArray off).run P w'=.ok v w':=by
        intro t tag off ht hoff;have:cs.toArray[off]? =some cs[off]:=by simp[List.getElem?_eq_getElem (show off<cs.length by omega)]
        exact⟨_,run_part_plain w' (Anr ht) this⟩
       unfold Aid at hplan;split at hplan
       ·rename_i fs hu';split at hplan
        ·have hget:=A4r hplan;rw[show(10000:Nat)=9999+1 from rfl,Instr.checkKey];simp only[Sem.run_bind,run_underlying hu',Result.andThen_ok];rw[<-Array.forIn_toList];have each:∀f∈fs.toList,f.name≠ "_" /\∃tag,Alz P f.type=some tag/\f.offset<l.length:=λf hf=>by
          obtain⟨a,tag,b,c⟩:=hget f hf;have:=A3r hseq _ c;exact⟨a,tag,b,by simp at this hlen ⊢;omega⟩
         clear hget hplan;generalize fs.toList=L at each
         induction L with
         |nil=>simp
         |cons f L ih=>
          obtain⟨hn,tag,ht,ho⟩:=each f (by simp);obtain⟨v,hv⟩:=part f.type tag f.offset ht ho;simp only[List.forIn_cons,Sem.run_bind,hn,ne_eq,not_false_eq_true,if_true,Result.andThen_ok,hv,Ax2 ht v b 9998 w',Sem.run_pure];exact ih (λy hy=>each y (by simp[hy]))
        ·cases hplan
       ·rename_i n e hu';split at hplan
        ·rename_i tag htag hcell hgd;rw[Bool.and_eq_true]at hcell;obtain⟨i,hi⟩:=Option.isSome_iff_exists.1 hcell.2;injection hplan with hplan
         have hn:l.length=n:=by
          rw[hlen,<-hplan];have:∀is:List Nat,(Ase tag is).length=is.length:=λis=>by induction is with|nil=>rfl|cons a is ih=>simp[Ase,ih]
          rw[this];simp
         have hsz1:i.size=1:=by
          have:P.cellsOf e=1:=Nat.eq_of_beq_eq_true hcell.1;simpa[Program.cellsOf,hi]using this
         rw[show(10000:Nat)=9999+1 from rfl,Instr.checkKey];simp only[Sem.run_bind,run_underlying hu',Result.andThen_ok];simp only[Std.Legacy.Range.forIn_eq_forIn_range',Std.Legacy.Range.size,Nat.sub_zero,Nat.add_one_sub_one,Nat.div_one];have each:∀j∈List.range' 0 n,j<l.length:=λj hj=>by simp at hj;omega
         generalize List.range' 0 n=is at each
         induction is with
         |nil=>simp
         |cons j is ih=>
          obtain⟨v,hv⟩:=part e tag j htag (each j (by simp));have hso:(sizeOf e).run P w'=.ok (P.cellsOf e) w':=run_sizeOf w' hi;have h1:P.cellsOf e=1:=Nat.eq_of_beq_eq_true hcell.1;simp only[List.forIn_cons,Sem.run_bind,hso,h1,Nat.mul_one,Result.andThen_ok,hv,Ax2 htag v b 9998 w',Sem.run_pure];exact ih (λy hy=>each y (by simp[hy]))
        ·cases hplan
       ·cases hplan
      ·
       have eqrun:∀(row:List PV) (u:Value) (b:Bool),Ae1 l row=some b->B5 w M β B (.agg row) u->(Op.equal ek (.agg cs.toArray) u).run P w'=.ok b w':=by
        intro row u b hsv hru;cases hru with
        |row _ s hs=>cases hs
        |agg _ us hul o2 r2=>
         refine Auz hl r1 hul r2 9998 w' hplan ?_
         match l,row,hsv,htags with
         |p0::l',q0::m',hsv,htags=>exact Awl (p0::l') (q0::m') xs x 0 p0 q0 l' m' b hseq htags rfl rfl hsv
       obtain⟨f1,f2⟩:=LX.find_spec ks l r hf;have lt:∀i e,es.toList[i]? =some e->i<ks.len:=λi e he=>by
        have:=(List.getElem?_eq_some_iff.1 he).1;rw[<-hsz];simpa using this
       have step:(Instr.findKey ek (.agg cs.toArray) es.toList).run P w'=(Instr.findAsking ek (.agg cs.toArray) es.toList).run P w':=by
        simp only[Instr.findKey,Sem.run_bind,run_underlying hu,Result.andThen_ok];rw[A2l hd];cases es.toList with
        |nil=>rfl
        |cons _ _=>rfl
       cases r with
       |none=>
        refine⟨?_,λi h=>by cases h⟩;rw[step,Atb w' es.toList 0 (λe he=>by
         obtain⟨i,hi,rfl⟩:=List.getElem_of_mem he;have hi':es.toList[i]? =some es.toList[i]:=List.getElem?_eq_getElem hi;exact eqrun _ _ false (f1 rfl i (lt i _ hi')) (hes i _ (by rw[<-Array.getElem?_toList];exact hi')))]
        rfl
       |some i=>
        obtain⟨g1,g2,g3⟩:=f2 i rfl;have hi:i<es.size:=by omega
        have he:es[i]? =some es[i]:=Array.getElem?_eq_getElem hi;refine⟨?_,λi' h'=>?_⟩
        ·rw[step,Atc w' es.toList 0 i es[i] (by rw[Array.getElem?_toList];exact he) (eqrun _ _ true g2 (hes i _ he)) (λj e' hj he'=>
          eqrun _ _ false (g3 j hj) (hes j _ (by rw[<-Array.getElem?_toList];exact he')))]
         simp[he]
        ·injection h' with h'
         subst h';refine⟨hi,λe he'=>?_⟩;rw[he]at he';injection he' with he'
         subst he';have hrow:ks.row i=l:=by
          match l,ks.row i,g2,htags with
          |p0::l',q0::m',g2,htags=>exact Awm _ p0 q0 l' m' htags g2
         have hk':=hes i _ he;rw[hrow]at hk';obtain⟨q1,q2⟩:=A98 hvals hk' hr0;exact⟨q1,q2,hrow⟩
     ·cases hc
    |_=>cases hc
   ·cases hk
  ·cases hk
theorem All{B:Nat->Prop}{r s:List PV}(h:X0 r s){g:Bool}{v:Value}(hv:B5 w M β B (mkP g r) v):B5 w M β B (mkP g s) v:=by
 cases g with
 |true=>
  have hv':B5 w M β B (.agg r) v:=hv;have hg:=h.get;cases hv' with
  |agg l cs hl h1 hr=>
   refine .agg s cs (by rw[<-hg.1];exact hl) h1 (λi q u hq hu=>?_);obtain⟨p,hp,hle⟩:=hg.2 i q hq;exact(hr i p u hp hu).le hle
  |row p s' hs=>cases hs
 |false=>
  cases h with
  |nil=>exact hv
  |cons h hr=>
   cases hr with
   |nil=>
    rename_i p q;have hv':B5 w M β B p.view v:=hv;show B5 w M β B q.view v
    cases h with
    |view=>exact hv'.view
    |nil own y hy=>exact(B5.le (.nil own y hy) hv').view
   |cons=>exact .any v
theorem A30(h:SR cx w0 N nt st a w M β)(hd:∀x,o.dst=some x->x<nt){t ek ev:Nat}{ts:List (Nat×Nat)}{m q:Operand}{ok g gv gq gk:Bool}{c:List PV}{z:List PV}(ho:o.op=.lookup t m q ok)(hu:P.underlying t=some (.map ek ev))
  (ht:Acr P ek=some (gq,ts))(hz:Apx P ev=some z)(hzk:Bdi P ev g=true){b:Nat}(hm:st.aQ m=.mp b)(hq:Aih gq ts (st.aQ q)=some c){ks vs:LX}
  (hob:A7b (st.obj b)=some (gk,gv,ks,vs))(hgk:As0 gq gk=true){r:Option Nat}(hf:LX.find ks c=some r)(hgv:As0 g gv=true)
  (hs:fk r (λi=>dput o.dst (match ok with|true=>.bI [mkP gv (vs.row i),.val (.bool true)]|false=>mkP gv (vs.row i))= δ)
      (dput o.dst (match ok with|true=>.bI [mkP g (z.map PV.view),.val (.bool false)]|false=>mkP g (z.map PV.view))= δ)):I3 cx P w0 N nt st a w o δ :=by
 have hmr:=h.aQ m;rw[hm]at hmr;obtain⟨bb,n,hb,hv⟩:=A28 hmr;obtain⟨_,_,h3⟩:=h.sh.box b bb n hb;obtain⟨es,clock,q1,q2,q3,q4⟩:=Bha h3 hob;have hgk':gk=gq:=by cases gk<;>cases gq<;>first|rfl|cases hgk
 subst hgk';obtain⟨hp,hchk,hfk⟩:=Ave ht hq (h.aQ q);obtain⟨hrun,hfound⟩:=hfk es ks q2 (λi e he=>(q4 i e he).1) r hf w;obtain⟨i',z0,hi',hz0,hl0,hr0⟩:=Ahl (w:=w) (M:=M) (β := β) (B:=w0.old) hz;have hzv:(zeroValue ev).run P w=.ok z0 w:=by simp[zeroValue,typeInfo,hi',hz0]
 have lk:∀(v:Value) (t':Bool),(match r.bind λi=>(es[i]?).map λe=>(i,e.val) with|some (_,v')=>some (v',true)|none=>some (z0,false))=some (v,t')->
   (execOp a.eval o).run P w=.ok (.value (if ok then .tuple #[v,.bool t']else v)) w:=by
  intro v t' hvt;simp only[execOp,ho,hv,Instr.lookup,Sem.run_bind,run_underlying hu,Result.andThen_ok,Sem.run_pure];rw[Adr (P:=P) q1];simp only[Sem.run_bind,Result.andThen_ok,Sem.run_pure];rw[hchk];simp only[Sem.run_bind,Result.andThen_ok,Sem.run_pure];rw[hrun];simp only[Sem.run_bind,Result.andThen_ok,Sem.run_pure];cases hrr:(r.bind λi=>(es[i]?).map λe=>(i,e.val)) with
  |none=>
   rw[hrr]at hvt;injection hvt with hvt
   injection hvt with e1 e2
   subst e1;subst e2
   simp only[Sem.run_bind,hzv,Result.andThen_ok,Sem.run_pure]
  |some x=>
   obtain⟨i,v'⟩:=x;rw[hrr]at hvt;injection hvt with hvt
   injection hvt with e1 e2
   subst e1;subst e2
   simp only[Sem.run_bind,Sem.run_pure,Result.andThen_ok]
 have put:∀(p:PV) (v:Value) (t':Bool),(execOp a.eval o).run P w=.ok (.value (if ok then .tuple #[v,.bool t']else v)) w->B5 w M β w0.old p v->(∀s,p.eG=some s->s.own=false)->
   dput o.dst (match ok with|true=>.bI [p,.val (.bool t')]|false=>p)= δ->I3 cx P w0 N nt st a w o δ :=by
  intro p v t' hrun hr hn hδ;cases ok with
  |true=>
   refine(D5 h hd (.bI [p,.val (.bool t')]) _ w (Below.refl _ _) hrun ?_ (λs hs=>hn s (Ud hs).1)).of_eq hδ;refine .bI [p,.val (.bool t')] [v,.bool t'] rfl (λi x u hx hu=>?_)
   match i,hx,hu with
   |0,hx,hu=>simp at hx hu;subst hx;subst hu;exact hr
   |1,hx,hu=>simp at hx hu;subst hx;subst hu;exact .val _ rfl
   |i+2,hx,hu=>simp at hx
  |false=>exact(D5 h hd p _ w (Below.refl _ _) hrun hr hn).of_eq hδ
 cases r with
 |none=>
  refine put _ z0 false (lk z0 false rfl) ?_ (Adz _ _) (by cases ok<;>exact hs);have hzc:∀(j:Nat) (p:PV) (v:Value),(z.map PV.view)[j]? =some p->z0.cells[j]? =some v->B5 w M β w0.old p v/\v.oneCell'=true:=λj p v hp hv=>by
   obtain⟨p',hp',rfl⟩:=Jp hp;obtain⟨r1,r2,_⟩:=hr0 j p' v hp' hv;exact⟨r1.view,r2⟩
  unfold Bdi at hzk;rw[hi',show(some i').bind (·.zero)=some z0 by simp[hz0]]at hzk;cases g with
  |true=>
   have hagg:∃cs,z0=.agg cs:=by
    cases z0 with
    |agg cs=>exact⟨cs,rfl⟩
    |_=>cases hzk
   obtain⟨cs,rfl⟩:=hagg;have:=B5.agg (w:=w) (M:=M) (β := β) (B:=w0.old) (z.map PV.view) cs.toList (by rw[List.length_map,hl0];simp[Value.cells]) (λv hv=>?_) (λj p v hp hv=>(hzc j p v hp (by show cs[j]? =some v;rw[<-Array.getElem?_toList];exact hv)).1)
   ·exact this
   ·obtain⟨j,hj,rfl⟩:=List.getElem_of_mem hv;have hj':j<(z.map PV.view).length:=by rw[List.length_map,hl0];simpa[Value.cells]using hj
    exact(hzc j _ _ (List.getElem?_eq_getElem hj') (by show cs[j]? =some _;rw[<-Array.getElem?_toList];exact List.getElem?_eq_getElem hj)).2
  |false=>
   have hone:z0.cells= #[z0]:=by cases z0<;>first|rfl|cases hzk
   rw[hone]at hl0 hzc
   match z,hl0,hzc with
   | [p],_,hzc=>exact(hzc 0 _ z0 rfl rfl).1.view
 |some i=>
  obtain⟨hi,hke⟩:=hfound i rfl;have he:es[i]? =some es[i]:=Array.getElem?_eq_getElem hi;exact put _ es[i].val true (lk _ true (by simp[he])) (q4 i _ he).2 (Adz _ _) (by cases ok<;>exact hs)
theorem A9e(l c:List PV)(h:c.length=l.length):Lx l 0 c=c:=by
 apply List.ext_getElem?;intro i;rw[Aa9 l 0 c i (by omega)];by_cases hi:i<c.length
 ·rw[if_pos ⟨by omega,by omega⟩];simp
 ·rw[if_neg (by omega),List.getElem?_eq_none (by omega),List.getElem?_eq_none (by omega)]
theorem Ays{x y:LX}{c:List PV}(h:LX.push x c=some y):y.len=x.len+1/\(∀i,i<x.len->y.row i=x.row i)/\X0 c (y.row x.len):=by
 unfold LX.push at h;cases hl:LX.lit x.e [c] with
 |none=>rw[hl]at h;cases h
 |some z=>
  rw[hl]at h;obtain⟨l1,l2,l3⟩:=LX.lit_spec _ _ _ hl;obtain⟨_,_,_,_,c1,c2,c3⟩:=LX.cat_spec x z y h;have:=c3 0;rw[Nat.add_zero]at this;exact⟨by rw[c1,l2];rfl,c2,by rw[this];exact l3 0 c rfl⟩
theorem A6f{B:Nat->Prop}{g:Bool}{p:PV}{v:Value}{c:List PV}(h:A1m g p=some c)(hr:B5 w M β B p v):B5 w M β B (mkP g c) v:=by
 unfold A1m at h;split at h
 ·rename_i l;injection h with h
  subst h;show B5 w M β B (.agg (l.map PV.view)) v
  cases hr with
  |agg l cs hl h1 hr=>
   refine .agg _ cs (by rw[List.length_map,hl]) h1 (λi q u hq hu=>?_);obtain⟨q',hq',rfl⟩:=Jp hq;exact(hr i q' u hq' hu).view
  |row p s hs=>cases hs
 ·cases h
 ·split at h
  ·injection h with h
   subst h;exact hr.view.view
  ·cases h
theorem A53(h:SR cx w0 N nt st a w M β){t ek ev:Nat}{ts:List (Nat×Nat)}{gq gk:Bool}{ck:List PV}{m q x:Operand}(hd:o.dst=none)(ho:o.op=.mapUpdate t m q x)(hu:P.underlying t=some (.map ek ev))
  (ht:Acr P ek=some (gq,ts)){b:Nat}(hm:st.aQ m=.mp b)(hq:Aih gq ts (st.aQ q)=some ck){ks vs:LX}{gv:Bool}
  (hob:st.obj b= [.aP gk gv ks vs])(hgk:As0 gq gk=true){r:Option Nat}(hf:LX.find ks ck=some r){c:List PV}(hc:A1m gv (st.aQ x)=some c)
  (hs:fk r (λi=>match Nat.beq c.length vs.sz,LX.set vs i 0 c with
      |true,some vs'=>⟨[],[(b,[.aP gk gv ks vs'])]⟩= δ
      |_,_=>False)
     (match LX.push ks ck,LX.push vs c with
      |some ks',some vs'=>⟨[],[(b,[.aP gk gv ks' vs'])]⟩= δ
      |_,_=>False)):I3 cx P w0 N nt st a w o δ :=by
 have hmr:=h.aQ m;rw[hm]at hmr;obtain⟨bb,n,hb,hv⟩:=A28 hmr;obtain⟨hb1,_,h3⟩:=h.sh.box b bb n hb;obtain⟨es,clock,q1,q2,q3,q4,q5⟩:=A0i h3 hob;have hgk':gk=gq:=by cases gk<;>cases gq<;>first|rfl|cases hgk
 subst hgk';obtain⟨hp,hchk,hfk⟩:=Ave ht hq (h.aQ q);obtain⟨hrun,hfound⟩:=hfk es ks q2 (λi e he=>(q4 i e he).1) r hf w;have hxr:=A6f hc (h.aQ x);have hbw:bb<w.heap.size:=h.sh.mlt bb 0 (h.sh.box b bb n hb).2.1;have fin:∀(es':Array MapEntry) (clock':Nat) (ks' vs':LX),(execOp a.eval o).run P w=.ok .skip { w with heap:=w.heap.setIfInBounds bb (.map es' clock') } ->es'.size=ks'.len->vs'.len=ks'.len->
   (∀(i:Nat) (e:MapEntry),es'[i]? =some e->B5 w M β w0.old (mkP gk (ks'.row i)) e.key/\B5 w M β w0.old (mkP gv (vs'.row i)) e.val)->Rv es' clock'->⟨[],[(b,[.aP gk gv ks' vs'])]⟩= δ->I3 cx P w0 N nt st a w o δ :=by
  intro es' clock' ks' vs' hrun hk hv' hes hbn hδ;subst hδ;have hoth:∀k,k≠bb->(w.heap.setIfInBounds bb (.map es' clock'))[k]? =w.heap[k]? :=λk hk=>by rw[Array.getElem?_setIfInBounds_ne (λe=>hk e.symm)]
  obtain⟨hS,_⟩:=h.sh.setObj (O':=(st.app ⟨[],[(b,[.aP gk gv ks' vs'])]⟩).obj) b bb n hb (by rw[hob];simp) [.aP gk gv ks' vs'] (λcs t q=>by rw[q1]at q;cases q) (by rw[F8,if_pos rfl]) (λz hz=>by rw[F8,if_neg (λe=>hz e.symm)])
   (w':= { w with heap:=w.heap.setIfInBounds bb (.map es' clock') }) hoth (by simp) ⟨rfl,rfl,rfl,by simp,λk hk=>hoth k (λe=>hb1 (by rw[<-e];exact hk)),Aob hoth (by unfold dR;rw[q1];exact Nat.zero_le _)⟩
   (λhR=>.map gk gv ks' vs' es' clock' (by simp[hbw]) hk hv' (λi e he=>⟨hR _ _ (hes i e he).1,hR _ _ (hes i e he).2⟩) hbn)
   (λk p s v hp hs _ _=>by
    cases k with
    |zero=>simp at hp;subst hp;cases hs
    |succ k=>simp at hp)
  refine Apo (M':=M) (β':= β) hd hrun ⟨h.defs,h.nt,?_⟩;refine hS.perm (λk=>hS.reg k) (λd b n hd=>(hS.box d b n hd).2.2) (λz hz=>h.sh.dom z ?_) some (λkey s v ho=>⟨key,rfl,ho⟩) (λk k' j h1 h2=>by injection h1 with h1;injection h2 with h2;rw[h1,h2]);have hz':=(Bs _ _).1 hz;exact(Bs _ _).2 (λhm=>hz' (List.mem_cons_of_mem _ hm))
 have pre:∀(k:Sem Unit),True:=λ_=>trivial;cases r with
 |none=>
  have hs':(match LX.push ks ck,LX.push vs c with
      |some ks',some vs'=>(⟨[],[(b,[.aP gk gv ks' vs'])]⟩:Cy)= δ
      |_,_=>False):=hs
  split at hs'
  ·rename_i ks' vs' hk' hv';obtain⟨p1,p2,p3⟩:=Ays hk';obtain⟨r1,r2,r3⟩:=Ays hv';refine fin (es.push { key:=a.eval q,val:=a.eval x,born:=clock }) (clock+1) ks' vs' ?_ (by simp[p1,q2]) (by rw[r1,p1,q3]) (λi e he=>?_) (q5.push _ _) hs'
   ·simp only[execOp,ho,hv,Instr.mapUpdate,Sem.run_bind,run_underlying hu,Result.andThen_ok,Sem.run_pure];rw[Adr (P:=P) q1];simp only[Sem.run_bind,Result.andThen_ok,Sem.run_pure];rw[hchk];simp only[Sem.run_bind,Result.andThen_ok,Sem.run_pure];rw[hrun];simp only[Option.bind_none,Sem.run_bind,Result.andThen_ok,Sem.run_pure];rw[Aiu _ q1];rfl
   ·rw[Array.getElem?_push]at he;by_cases hi:i=es.size
    ·rw[if_pos hi]at he;injection he with he
     subst he;subst hi
     rw[q2];refine⟨All (g:=gk) p3 hp,?_⟩;rw[<-q3];exact All r3 hxr
    ·rw[if_neg hi]at he;have hlt:i<es.size:=(Array.getElem?_eq_some_iff.1 he).1;rw[p2 i (by omega),r2 i (by omega)];exact q4 i e he
  ·exact hs'.elim
 |some i=>
  obtain⟨hi,hke⟩:=hfound i rfl;have he:es[i]? =some es[i]:=Array.getElem?_eq_getElem hi;obtain⟨k1,k2,k3⟩:=hke _ he;have hs':(match Nat.beq c.length vs.sz,LX.set vs i 0 c with
      |true,some vs'=>(⟨[],[(b,[.aP gk gv ks vs'])]⟩:Cy)= δ
      |_,_=>False):=hs
  split at hs'
  ·rename_i vs' hcl hv';have hcl':=Nat.eq_of_beq_eq_true hcl;obtain⟨s1,s2,s3,s4,s5,s6⟩:=LX.set_spec vs i 0 c vs' hv';refine fin (es.modify i λe=> { e with key:=a.eval q,val:=a.eval x }) clock ks vs' ?_ (by simp[q2]) (by rw[s3,q3]) (λj e hje=>?_) (q5.modify i _ _) hs'
   ·have hbits:(Instr.keyThatStays es[i].key (a.eval q)).run P w=.ok (a.eval q) w:=by
     unfold Instr.keyThatStays;rw[if_pos k2];rfl
    simp only[execOp,ho,hv,Instr.mapUpdate,Sem.run_bind,run_underlying hu,Result.andThen_ok,Sem.run_pure];rw[Adr (P:=P) q1];simp only[Sem.run_bind,Result.andThen_ok,Sem.run_pure];rw[hchk];simp only[Sem.run_bind,Result.andThen_ok,Sem.run_pure];rw[hrun];simp only[Option.bind_some,he,Option.map_some,Option.getD_some,Sem.run_bind,Result.andThen_ok,Sem.run_pure];rw[hbits];simp only[Sem.run_bind,Result.andThen_ok,Sem.run_pure];rw[Aiu _ q1];rfl
   ·rw[Array.getElem?_modify]at hje;by_cases hij:i=j
    ·rw[if_pos hij]at hje;rw[<-hij,he]at hje;simp only[Option.map_some,Option.some.injEq]at hje;subst hje;rw[<-hij];refine⟨?_,?_⟩
     ·rw[k3];exact hp
     ·have hrow:=s5 (by omega);rw[A9e _ _ (by rw[LX.row_len];exact hcl')]at hrow;exact All hrow hxr
    ·rw[if_neg hij]at hje;rw[s6 j (λe=>hij e.symm)];exact q4 j e hje
  ·exact hs'.elim
theorem LX.cut_spec{x y:LX}{i:Nat}(h:LX.cut x i=some y)(hi:i<x.len):y.len=x.len-1/\∀j,j<y.len->y.row j=x.row (if j<i then j else j+1):=by
 obtain⟨_,_,_,_,c5,c6,c7⟩:=LX.cat_spec _ _ _ h;obtain⟨_,_,a3,a4⟩:=LX.sub_spec x 0 i (by omega);obtain⟨_,_,b3,b4⟩:=LX.sub_spec x (i+1) x.len (Nat.le_refl _);have hl:y.len=x.len-1:=by rw[c5,a3,b3];omega
 refine⟨hl,λj hj=>?_⟩;by_cases hji:j<i
 ·rw[if_pos hji,c6 j (by rw[a3];omega),a4 j (by omega),Nat.zero_add]
 ·rw[if_neg hji];have:=c7 (j-i);rw[a3,show i-0+(j-i)=j by omega,b4 (j-i) (by omega)]at this;rw[this]
  congr 1
  omega
theorem Bdc(hdst:o.dst=none){v:Value}{w':World}{M':Ro}{β':Qd}(hrun:(execOp a.eval o).run P w=.ok (.value v) w')(hS:SR cx w0 N nt (st.app δ) a w' M' β'):I3 cx P w0 N nt st a w o δ :=
 λK Q hK=>Sp hrun (by rw[hdst];exact hK _ _ _ _ hS)
theorem Bcz(h:SR cx w0 N nt st a w M β){t ek ev:Nat}{ts:List (Nat×Nat)}{gq gk:Bool}{ck:List PV}{m q:Operand}{ats:Array Nat}(hd:o.dst=none)(ho:o.op=.call { callee:=.builtin .delete,args:= #[m,q],argTypes:=ats })(hat:ats[0]? =some t)(hu:P.underlying t=some (.map ek ev))
  (ht:Acr P ek=some (gq,ts)){b:Nat}(hm:st.aQ m=.mp b)(hq:Aih gq ts (st.aQ q)=some ck){ks vs:LX}{gv:Bool}
  (hob:st.obj b= [.aP gk gv ks vs])(hgk:As0 gq gk=true){r:Option Nat}(hf:LX.find ks ck=some r)
  (hs:fk r (λi=>match LX.cut ks i,LX.cut vs i with
      |some ks',some vs'=>⟨[],[(b,[.aP gk gv ks' vs'])]⟩= δ
      |_,_=>False)
     (⟨[],[]⟩= δ)):I3 cx P w0 N nt st a w o δ :=by
 have hmr:=h.aQ m;rw[hm]at hmr;obtain⟨bb,n,hb,hv⟩:=A28 hmr;obtain⟨hb1,_,h3⟩:=h.sh.box b bb n hb;obtain⟨es,clock,q1,q2,q3,q4,q5⟩:=A0i h3 hob;have hgk':gk=gq:=by cases gk<;>cases gq<;>first|rfl|cases hgk
 subst hgk';obtain⟨hp,hchk,hfk⟩:=Ave ht hq (h.aQ q);obtain⟨hrun,hfound⟩:=hfk es ks q2 (λi e he=>(q4 i e he).1) r hf w;have hbw:bb<w.heap.size:=h.sh.mlt bb 0 (h.sh.box b bb n hb).2.1;have fin:∀(es':Array MapEntry) (clock':Nat) (ks' vs':LX),(execOp a.eval o).run P w=.ok (.value (.tuple #[])) { w with heap:=w.heap.setIfInBounds bb (.map es' clock') } ->es'.size=ks'.len->vs'.len=ks'.len->
   (∀(i:Nat) (e:MapEntry),es'[i]? =some e->B5 w M β w0.old (mkP gk (ks'.row i)) e.key/\B5 w M β w0.old (mkP gv (vs'.row i)) e.val)->Rv es' clock'->⟨[],[(b,[.aP gk gv ks' vs'])]⟩= δ->I3 cx P w0 N nt st a w o δ :=by
  intro es' clock' ks' vs' hrun hk hv' hes hbn hδ;subst hδ;have hoth:∀k,k≠bb->(w.heap.setIfInBounds bb (.map es' clock'))[k]? =w.heap[k]? :=λk hk=>by rw[Array.getElem?_setIfInBounds_ne (λe=>hk e.symm)]
  obtain⟨hS,_⟩:=h.sh.setObj (O':=(st.app ⟨[],[(b,[.aP gk gv ks' vs'])]⟩).obj) b bb n hb (by rw[hob];simp) [.aP gk gv ks' vs'] (λcs t q=>by rw[q1]at q;cases q) (by rw[F8,if_pos rfl]) (λz hz=>by rw[F8,if_neg (λe=>hz e.symm)])
   (w':= { w with heap:=w.heap.setIfInBounds bb (.map es' clock') }) hoth (by simp) ⟨rfl,rfl,rfl,by simp,λk hk=>hoth k (λe=>hb1 (by rw[<-e];exact hk)),Aob hoth (by unfold dR;rw[q1];exact Nat.zero_le _)⟩
   (λhR=>.map gk gv ks' vs' es' clock' (by simp[hbw]) hk hv' (λi e he=>⟨hR _ _ (hes i e he).1,hR _ _ (hes i e he).2⟩) hbn)
   (λk p s v hp hs _ _=>by
    cases k with
    |zero=>simp at hp;subst hp;cases hs
    |succ k=>simp at hp)
  refine Bdc (M':=M) (β':= β) hd hrun ⟨h.defs,h.nt,?_⟩;refine hS.perm (λk=>hS.reg k) (λd b n hd=>(hS.box d b n hd).2.2) (λz hz=>h.sh.dom z ?_) some (λkey s v ho=>⟨key,rfl,ho⟩) (λk k' j h1 h2=>by injection h1 with h1;injection h2 with h2;rw[h1,h2]);have hz':=(Bs _ _).1 hz;exact(Bs _ _).2 (λhm=>hz' (List.mem_cons_of_mem _ hm))
 have run:∀(w':World),(match r with|some i=>(setObj bb (.map (es.eraseIdxIfInBounds i) clock))|none=>(setObj bb (.map es clock))).run P w=.ok () w'->(∀i,r=some i->i<es.size)->(execOp a.eval o).run P w=.ok (.value (.tuple #[])) w':=by
  intro w' hw' hri;have ha0:ats[0]? =some t:=hat;simp only[execOp,ho,resolve,invoke,builtin,Builtin.delete_,Sem.run_bind,Sem.run_pure,Result.andThen_ok,List.map_toArray,List.map_cons,List.map_nil,ha0,hv];simp only[List.getElem?_toArray,List.getElem?_cons_zero,List.getElem?_cons_succ];simp only[Sem.run_bind,run_underlying hu,Result.andThen_ok,Sem.run_pure];rw[Adr (P:=P) q1];simp only[Sem.run_bind,Result.andThen_ok,Sem.run_pure];rw[hchk];simp only[Sem.run_bind,Result.andThen_ok,Sem.run_pure];rw[hrun];cases r with
  |none=>
   simp only[Option.bind_none,Sem.run_bind,Result.andThen_ok,Sem.run_pure];rw[hw'];rfl
  |some i=>
   have hil:=hri i rfl;have he:es[i]? =some (es[i]'hil):=Array.getElem?_eq_getElem hil;simp only[Option.bind_some,he,Option.map_some,Sem.run_bind,Result.andThen_ok,Sem.run_pure];rw[hw'];rfl
 cases r with
 |none=>
  have hs':(⟨[],[]⟩:Cy)= δ :=hs;subst hs';have hw:({ w with heap:=w.heap.setIfInBounds bb (.map es clock) } :World)=w:=by
   have:w.heap.setIfInBounds bb (.map es clock)=w.heap:=by
    apply Array.ext_getElem?;intro i;rw[Array.getElem?_setIfInBounds];split
    ·rename_i e;subst e
     exact q1.symm
    ·rfl
   rw[this]
  intro K Q hK;refine Sp (run w ?_ (λi h=>by cases h)) ?_
  ·show(setObj bb (.map es clock)).run P w=_
   rw[Aiu _ q1,hw]
  ·rw[hd];have e:st.app ⟨[],[]⟩=st:=rfl;exact hK _ _ _ _ (by rw[e];exact h)
 |some i=>
  obtain⟨hi,_⟩:=hfound i rfl;have hs':(match LX.cut ks i,LX.cut vs i with
      |some ks',some vs'=>(⟨[],[(b,[.aP gk gv ks' vs'])]⟩:Cy)= δ
      |_,_=>False):=hs
  split at hs'
  ·rename_i ks' vs' hk' hv';obtain⟨p1,p2⟩:=LX.cut_spec hk' (by omega);obtain⟨r1,r2⟩:=LX.cut_spec hv' (by omega);have hsz:(es.eraseIdxIfInBounds i).size=es.size-1:=by
    unfold Array.eraseIdxIfInBounds;rw[dif_pos hi,Array.size_eraseIdx]
   refine fin (es.eraseIdxIfInBounds i) clock ks' vs' (run _ ?_ (λj hj=>by injection hj with hj;omega)) (by rw[hsz,p1,q2]) (by rw[r1,p1,q3]) (λj e hje=>?_) (q5.erase i hi) hs'
   ·show(setObj bb (.map (es.eraseIdxIfInBounds i) clock)).run P w=_
    rw[Aiu _ q1]
   ·have hjl:j<(es.eraseIdxIfInBounds i).size:=(Array.getElem?_eq_some_iff.1 hje).1;rw[Ap9 es i hi]at hje;rw[p2 j (by omega),r2 j (by omega)];exact q4 _ e hje
  ·exact hs'.elim
end
end Go.Proofs.YtgacplpjamkieaaGreat.Ev
