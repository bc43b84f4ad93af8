/-  Code, evaluated; functions; calls that are carried out in place. -/
import Derived.Test.YthjhkpgonleelaaGreatDoorLFV
import Derived.DataReads
import Derived.ProofKit
import Derived.OpenShut
import Derived.Carry
set_option linter.unusedVariables false
set_option linter.unusedSimpArgs false
set_option linter.unnecessarySimpa false
namespace Go.Proofs.YthjhkpgonleelaaGreatDoor.Ev
open Go Go.RowKit
section
variable {ι :Type} {cx: ι->PV×Value} {P:Program} {C:Bc} {X:Inl} {inl:Nat->Bool} {w0:Gs} {w:World} {N M:T7} {β :Sk} {nt:Nat} {st:St} {a:Act}
theorem Bhh{S:Nat->Prop} :∀(V:List Nat) {st:St},SR cx w0 N nt st a w M β->Has S st->SR cx w0 N nt (st.vwL V) a w M β/\Has S (st.vwL V)
 | [],_,h,hs=>⟨h,hs⟩
 |t::r,_,h,hs=>Bhh r (h.drop t) (Avp hs _)
theorem Boy{S:Nat->Prop}(once:Nat)(V:List Nat){st:St}(h:SR cx w0 N nt st a w M β)(hs:Has S st):SR cx w0 N nt (vwR once V st) a w M β/\Has S (vwR once V st):=by
 unfold vwR;split
 ·exact Bhh V h hs
 ·exact⟨h,hs⟩
theorem Bi2{L once:Nat}{V:List Nat}{l:List Hm}{st:St}{k:Ex->St->Prop}(h:evC P C X L (Bu7 once V l) st k):J3 P C X l.length l st (λst'=>k .normal (vwR once V st')):=by
 unfold Bu7 at h;unfold vwR;cases hb:Nat.testBit once 40007 with
 |true=>rw[hb]at h;exact h
 |false=>rw[hb]at h;exact h
theorem Bfv(hC:Dl P C)(hX:Qk P X)(hm:P.follows .mixedOrders=true)(once:Nat)(L:Nat):∀(sz:Nat) (c:Code),SizeOf.sizeOf c<sz->∀ {ι :Type} (cx: ι->PV×Value) (w0:Gs) (N:T7) (S:Nat->Prop) (hcx:∀i,Gt S (cx i).1) (V:List Nat) (out lt:Nat) (ec:EC),Jm P inl once nt V out lt c=ec->
  ∀(st:St) (a:Act) (w:World) (M:T7) (β :Sk) (k:Ex->St->Prop),Has S st->SR cx w0 N nt st a w M β->evC P C X L ec st k->
  ∀(Q:Exit->Act->World->Prop),(∀e st' a' w' M' β',k e st'->Has S st'->SR cx w0 N nt st' a' w' M' β'->Q (Bj7 e) a' w')->c.wp P Q a w:=by
 intro sz
 induction sz with
 |zero=>intro c h;exact absurd h (Nat.not_lt_zero _)
 |succ sz IH=>
 intro c hsz ι cx w0 N S hcx;cases c with
 |skip=>
  intro V out lt ec hc st a w M β k hs h hk Q hQ;subst hc;exact wp_skip (hQ .normal st a w M β hk hs h)
 |region id os d=>
  intro V out lt ec hc st a w M β k hs h hk Q hQ;simp only[Jm]at hc;cases hco:Avh P inl once os os.toList with
  |none=>rw[hco]at hc;subst hc;exact hk.elim
  |some l=>
   rw[hco]at hc;simp only at hc;cases hds:Abp nt l with
   |false=>rw[hds]at hc;subst hc;exact hk.elim
   |true=>
    rw[hds]at hc;have hsel:∀eo∈l,∀o',eo.k=.eY o'->∀cs b,o'.op≠ .select cs b:=by
     intro eo hm o' hk';obtain⟨i,hi,rfl⟩:=List.getElem_of_mem hm;obtain⟨e1,e2⟩:=Abn _ _ hco;obtain⟨eo',q1,q2,_⟩:=e2 i (os.toList[i]'(by omega)) (List.getElem?_eq_getElem (by omega));rw[List.getElem?_eq_getElem hi]at q1;injection q1 with q1
     rw[q1]at hk';exact A9f q2 o' hk'
    cases d with
    |false=>
     obtain⟨st0,M0,β0,hs0,h0,hk⟩:∃st0 M0 β0,Has S st0/\SR cx w0 N nt st0 a w M0 β0/\J3 P C X l.length l st0 (λst'=>k .normal (vwR once V st')):=by
      cases hfb:Nat.testBit once 40003 with
      |true=>
       rw[hfb]at hc;subst hc;obtain⟨M0,β0,h0,hs0⟩:=SR.frzL hcx (Bmn l.reverse (B6z once V)) h hs;exact⟨_,M0,β0,hs0,h0,Bi2 (st:=st.frzL _) hk⟩
      |false=>
       rw[hfb]at hc;subst hc;exact⟨st,M,β,hs,h,Bi2 hk⟩
     obtain⟨st1,st',h1,h2,h3⟩:=Axj hC hX _ l st0 st0 _ hsel (.refl _) hk;have hs':Has S st':=Arc (A3z h1 hs0) h2.symm;refine wp_region ?_;obtain⟨hlen,hsp⟩:=Abn _ _ hco;have:=Auh (Q:=Q) (os:=os) (inl:=inl) (once:=once) (nt:=nt) h1 0 os.size (by omega) (by rw[hlen];simp) (λj eo hj=>by
      have hjl:j<os.size:=by have:=(List.getElem?_eq_some_iff.1 hj).1;rw[hlen]at this;simpa using this
      have ho:os[j]? =some os[j]:=Array.getElem?_eq_getElem hjl;obtain⟨eo',g1,g2,g3,g4⟩:=hsp j os[j] (by simp[ho]);rw[hj]at g1;injection g1 with g1;subst g1
      exact⟨os[j],by rw[Nat.zero_add];exact ho,g2,g3,g4,λx hx=>Aq8 l hds eo (List.mem_of_getElem? hj) x (by rw[g3];exact hx)⟩) a w M0 β0 h0 (λa' w' M' β' h'=>by
       rw[hlen];simp only[Array.length_toList,Nat.sub_self];exact hQ .normal _ a' w' M' β' h3 (Boy once V (h'.equiv h2.symm) hs').2 (Boy once V (h'.equiv h2.symm) hs').1)
     rw[List.range_eq_range'];exact this
    |true=>
     simp only at hc;have key:(∃ap,Atr ap os.toList l=true/\ec=.region (Aft l) ap l)\/ec=.stop:=by
      cases hdr:Atr [] os.toList l with
      |true=>
       rw[hdr]at hc;exact .inl ⟨[],hdr,hc.symm⟩
      |false=>
       rw[hdr]at hc;simp only at hc;cases hdr2:Atr (Azg l l) os.toList l with
       |false=>rw[hdr2]at hc;exact .inr hc.symm
       |true=>
        rw[hdr2]at hc;exact .inl ⟨_,hdr2,hc.symm⟩
     rcases key with⟨ap,hdr,rfl⟩|rfl
     rotate_left
     ·exact hk.elim
     simp only[evC]at hk;cases hap:An4 st ap with
     |false=>rw[hap]at hk;exact hk.elim
     |true=>
      rw[hap]at hk;simp only at hk;obtain⟨δs,st1,st',h1,h2,h3⟩:=A7u hC hX l st st _ hsel (.refl _) hk;have hs':Has S st':=Arc (by rw[h1.last];exact Bst _ _ _ hs) h2.symm;refine wp_region_any hm ?_;have hrep:∀i,(Array.replicate os.size false).getD i false=false:=λi=>by
       rw[Array.getD_eq_getD_getElem?,Array.getElem?_replicate];split<;>rfl
      refine Bfq (Q:=Q) hap h1 hco hds hdr (λa' w' M' β' h'=>hQ .normal st' a' w' M' β' h3 hs' (h'.equiv h2.symm)) os.size _ (by simp) ?_ ?_ a _ M β ?_
      ·rw[List.filter_eq_self.2 (λi _=>by rw[hrep];rfl)];simp
      ·intro j o ho hj;rw[hrep]at hj;cases hj
      ·rw[show Si δs (Rp (Array.replicate os.size false)) st=st from Aru _ _ _ (λi _=>hrep i)];exact h.drawn
 |seq x y=>
  have ihx:= @IH x (by have:=hsz;simp only[Code.seq.sizeOf_spec]at this;omega) ι cx w0 N S hcx;have ihy:= @IH y (by have:=hsz;simp only[Code.seq.sizeOf_spec]at this;omega) ι cx w0 N S hcx;intro V out lt ec hc st a w M β k hs h hk Q hQ;subst hc;cases hrp:Bek x y with
  |none=>
   rw[A9e hrp]at hk;dsimp only[evC]at hk;refine wp_seq (ihx _ _ _ _ rfl st a w M β _ hs h hk _ ?_);intro e st' a' w' M' β' hk' hs' h';cases e with
   |normal=>
    cases hb:Aox y with
    |true=>
     rw[hb]at hk';exact ihy _ _ _ _ rfl st' a' w' M' β' k hs' h' hk' Q hQ
    |false=>
     rw[hb]at hk';exact ihy _ _ _ _ rfl _ a' w' M' _ k (Arc (Bdf hs' _) (Zz _ _ _).symm) ((h'.keep hcx _ (Cs st') (Axz hs')).equiv (Zz _ _ _).symm) hk' Q hQ
   |exit i=>exact hQ (.exit i) st' a' w' M' β' hk' hs' h'
   |ret=>exact hQ .ret st' a' w' M' β' hk' hs' h'
  |some p=>
   rw[Bh6 hrp]at hk;unfold Bek at hrp;split at hrp
   ·rename_i id1 os1 o id2 os2 mo o' n id3 os3 code;split at hrp
    ·rename_i hoo;have hoo:=Cn hoo;subst hoo;obtain⟨i1,i2,i3,i4,_,_,_,_,⟨t3,p3,a3,j3⟩⟩:=A8g hrp;unfold Bgx at hk;split at hk
     ·rename_i keys v hpj;split at hk
      ·rename_i l1 l3 hc1 hc3;split at hk
       ·rename_i hchk;simp only[Bool.and_eq_true,Bool.not_eq_true']at hchk;obtain⟨⟨⟨⟨⟨⟨⟨c1,c2⟩,c3⟩,c4⟩,c5⟩,c6⟩,c7⟩,c8⟩:=hchk;have hlt:∀ {a b:Nat},Nat.blt a b=true->a<b:=λ{a b} h=>Nat.le_of_ble_eq_true h;rw[i1]at hc1;rw[i2]at hc3;obtain⟨V',out',lt',hv⟩:=Bnx hpj;have hcode:Blj P C X L nt code v:=by
         intro ι' cx' w0' N' S' hcx' st a w M β k hs h hk Q hQ;have ihc:= @IH code (by have:=hsz;simp only[Code.seq.sizeOf_spec,Code.block.sizeOf_spec,Code.loop.sizeOf_spec]at this;omega) ι' cx' w0' N' S' hcx';rcases hv with⟨_,rfl⟩|⟨ks,rfl⟩
         ·exact ihc V' out' lt' _ rfl st a w M β k hs h hk Q hQ
         ·dsimp only[evC,Qr]at hk;exact ihc V' out' lt' _ rfl _ a w M _ k (Arc (Bdf hs _) (Zz _ _ _).symm) ((h.keep hcx' _ (Cs st) (Axz hs)).equiv (Zz _ _ _).symm) hk Q hQ
        exact Bkt hC hX hcx hrp hc1 c1 (Bq4 hC hX j3 hc3 c2 hcode) c8 (hlt c3) (hlt c4) (hlt c5) (hlt c6) c7 hs h hk hQ
       ·exact hk.elim
      ·exact hk.elim
     ·exact hk.elim
    ·cases hrp
   ·cases hrp
 |cond c x y=>
  have ihx:= @IH x (by have:=hsz;simp only[Code.cond.sizeOf_spec]at this;omega) ι cx w0 N S hcx;have ihy:= @IH y (by have:=hsz;simp only[Code.cond.sizeOf_spec]at this;omega) ι cx w0 N S hcx;intro V out lt ec hc st a w M β k hs h hk Q hQ;subst hc;simp only[Jm,evC]at hk;have hr:=h.aT c;split at hk
  ·rename_i t hq;rw[hq]at hr;have hv:a.eval c=.bool t:=hr.val_eq;cases t with
   |true=>exact wp_cond_true hv (ihx _ _ _ _ rfl st a w M β k hs h hk Q hQ)
   |false=>exact wp_cond_false hv (ihy _ _ _ _ rfl st a w M β k hs h hk Q hQ)
  ·exact hk.elim
 |block id b=>
  have ih:= @IH b (by have:=hsz;simp only[Code.block.sizeOf_spec]at this;omega) ι cx w0 N S hcx;intro V out lt ec hc st a w M β k hs h hk Q hQ;subst hc;refine wp_block (ih _ _ _ _ rfl st a w M β _ hs h hk _ ?_);intro e st' a' w' M' β' hk' hs' h';cases e with
  |normal=>exact hQ .normal st' a' w' M' β' hk' hs' h'
  |ret=>exact hQ .ret st' a' w' M' β' hk' hs' h'
  |exit i=>
   simp only[Bj7,Exit.inBlock];by_cases e:i=id
   ·subst e;rw[if_pos rfl];simp only[Gi,Nat.beq_refl]at hk';exact hQ .normal st' a' w' M' β' hk' hs' h'
   ·rw[if_neg e];have hb:Nat.beq i id=false:=by
     cases hb:Nat.beq i id with
     |false=>rfl
     |true=>exact absurd (Cn hb) e
    simp only[Gi,hb]at hk';exact hQ (.exit i) st' a' w' M' β' hk' hs' h'
 |loop b=>
  have ih:= @IH b (by have:=hsz;simp only[Code.loop.sizeOf_spec]at this;omega) ι cx w0 N S hcx;intro V out lt ec hc st a w M β k hs h hk Q hQ;have key0:∃(ec0:EC) (st0:St),(match Nat.testBit once 40004 with
    |true=>.gJ (Im nt V out (Ge b)) (Jm P inl once nt (V++Im nt V out (Ge b)) out (lt ||| Ge b) b)
    |false=>.loop (Im nt V out (Ge b)) (Jm P inl once nt (V++Im nt V out (Ge b)) out (lt ||| Ge b) b))=ec0/\Has S st0/\SR cx w0 N nt st0 a w M β/\evC P C X L ec0 st0 k:=by
   subst hc;have hk:evC P C X L (Avv once V (match Nat.testBit once 40004 with
    |true=>.gJ (Im nt V out (Ge b)) (Jm P inl once nt (V++Im nt V out (Ge b)) out (lt ||| Ge b) b)
    |false=>.loop (Im nt V out (Ge b)) (Jm P inl once nt (V++Im nt V out (Ge b)) out (lt ||| Ge b) b))) st k:=hk
   unfold Avv at hk;split at hk
   ·obtain⟨q1,q2⟩:=Bhh V h hs;exact⟨_,_,rfl,q2,q1,hk⟩
   ·exact⟨_,_,rfl,hs,h,hk⟩
  clear hk hs h hc;obtain⟨ec,st,hc,hs,h,hk⟩:=key0;refine wp_loop_rounds L ?_;cases hfl:Nat.testBit once 40004 with
  |true=>
   rw[hfl]at hc;subst hc;simp only[evC]at hk;generalize hkeys:Im nt V out (Ge b)=keys at hk;have key:∀(n:Nat) (st:St) (a:Act) (w:World) (M:T7) (β :Sk),Has S st->SR cx w0 N nt st a w M β->A38 (evC P C X L (Jm P inl once nt (V++keys) out (lt ||| Ge b) b)) keys n st k->Code.rounds P b Q n a w:=by
    intro n
    induction n with
    |zero=>intro st a w M β _ _ hk;exact hk.elim
    |succ n ihn=>
     intro st a w M β hs h hk;rw[rounds_succ];refine ih _ _ _ _ rfl st a w M β _ hs h hk _ ?_;intro e st' a' w' M' β' hk' hs' h';cases e with
     |normal=>
      have hlive:∀d,S d->Ay d (Cs st')=false:=λd hd=>by
       have:=(hs' d hd).1;cases hn:Ay d (Cs st') with
       |false=>rfl
       |true=>
        have h1:=(Bw _ _).1 hn;have h2:Ay d (st'.ob.map Prod.fst)=true:=(Bw _ _).2 (λhm=>h1 ((Zb _ _).2 hm));rw[h2]at this;cases this
      have hskeep:Has S (keep keys (Cs st') st'):=λd hd=>by
       have e:(keep keys (Cs st') st').ob.map Prod.fst=Cs st':=by
        show((Cs st').map λd=>(d,_)).map Prod.fst=Cs st'
        rw[List.map_map];exact List.map_id' (Cs st')
       rw[e];exact⟨hlive d hd,(hs' d hd).2⟩
      exact ihn _ a' w' M' _ (Arc hskeep (Zz _ _ _).symm) ((h'.keep hcx _ (Cs st') hlive).equiv (Zz _ _ _).symm) hk'
     |exit i=>exact hQ (.exit i) st' a' w' M' β' hk' hs' h'
     |ret=>exact hQ .ret st' a' w' M' β' hk' hs' h'
   exact key L st a w M β hs h hk
  |false=>
  rw[hfl]at hc;subst hc;simp only[evC]at hk;generalize hkeys:Im nt V out (Ge b)=keys at hk;have hlive:=Bik hs keys;generalize gcK keys st=live at hk hlive;have hskeep:∀keys (s:St),Has S s->Has S (keep keys live s):=λkeys s hs d hd=>by
   have e:(keep keys live s).ob.map Prod.fst=live:=by
    show(live.map λd=>(d,_)).map Prod.fst=live
    rw[List.map_map];exact List.map_id' live
   rw[e];exact⟨hlive d hd,(hs d hd).2⟩
  have key:∀(n:Nat) (st:St) (a:Act) (w:World) (M:T7) (β :Sk),Has S st->SR cx w0 N nt st a w M β->Io (evC P C X L (Jm P inl once nt (V++keys) out (lt ||| Ge b) b)) keys live n st k->Code.rounds P b Q n a w:=by
   intro n
   induction n with
   |zero=>intro st a w M β _ _ hk;exact hk.elim
   |succ n ihn=>
    intro st a w M β hs h hk;rw[rounds_succ];refine ih _ _ _ _ rfl st a w M β _ hs h hk _ ?_;intro e st' a' w' M' β' hk' hs' h';cases e with
    |normal=>exact ihn _ a' w' M' _ (hskeep _ _ hs') (h'.keep hcx _ live hlive) hk'
    |exit i=>exact hQ (.exit i) _ a' w' M' _ hk' (hskeep _ _ hs') (h'.keep hcx _ live hlive)
    |ret=>exact hQ .ret _ a' w' M' _ hk' (hskeep _ _ hs') (h'.keep hcx _ live hlive)
  exact key L _ a w M _ (hskeep _ _ hs) (h.keep hcx _ live hlive) hk
 |exit id=>
  intro V out lt ec hc st a w M β k hs h hk Q hQ;subst hc;exact wp_exit (hQ (.exit id) st a w M β hk hs h)
 |ret=>
  intro V out lt ec hc st a w M β k hs h hk Q hQ;subst hc;exact wp_ret (hQ .ret st a w M β hk hs h)
 |rangeFunc=>intro V out lt ec hc st a w M β k hs h hk;subst hc;exact hk.elim
 |scope=>intro V out lt ec hc st a w M β k hs h hk;subst hc;exact hk.elim
 |label=>intro V out lt ec hc st a w M β k hs h hk;subst hc;exact hk.elim
 |goto=>intro V out lt ec hc st a w M β k hs h hk;subst hc;exact hk.elim
 |refuse=>intro V out lt ec hc st a w M β k hs h hk;subst hc;exact hk.elim
theorem A7s(hC:Dl P C)(hX:Qk P X)(hm:P.follows .mixedOrders=true){S:Nat->Prop}(hcx:∀i,Gt S (cx i).1)(once:Nat)(L:Nat):∀(c:Code) (V:List Nat) (out lt:Nat) (ec:EC),Jm P inl once nt V out lt c=ec->
  ∀(st:St) (a:Act) (w:World) (M:T7) (β :Sk) (k:Ex->St->Prop),Has S st->SR cx w0 N nt st a w M β->evC P C X L ec st k->
  ∀(Q:Exit->Act->World->Prop),(∀e st' a' w' M' β',k e st'->Has S st'->SR cx w0 N nt st' a' w' M' β'->Q (Bj7 e) a' w')->c.wp P Q a w:=
 λc=>Bfv hC hX hm once L _ c (Nat.lt_succ_self _) cx w0 N S hcx
def Ay3(a:Act):ResultVar->Sem Value
 | .tmp t=>pure (a.tmps.getD t undef)
 | .cell b t=>do loadVar t (<-asAddr (a.tmps.getD b undef))
theorem A3s:∀(rs:List ResultVar) (k:List PV->Prop),W5 P st rs k->∃l,k l/\∀k':List PV->Prop,k' l->W5 P st rs k':=by
 intro rs
 induction rs with
 |nil=>intro k h;exact⟨[],h,λk' h'=>h'⟩
 |cons x rs ih=>
  intro k h;cases x with
  |tmp t=>
   simp only[W5]at h ⊢;obtain⟨l,h1,h2⟩:=ih _ h;exact⟨_,h1,λk' hk=>h2 (λl=>k' (st.get t::l)) hk⟩
  |cell b t=>
   simp only[W5]at h ⊢;split at h
   ·split at h
    ·obtain⟨l,h1,h2⟩:=ih _ h;exact⟨_,h1,λk' hk=>h2 (λl=>k' (_::l)) hk⟩
    ·obtain⟨l,h1,h2⟩:=ih _ h;exact⟨_,h1,λk' hk=>h2 (λl=>k' (_::l)) hk⟩
    ·exact h.elim
   ·exact h.elim
theorem A0a(h:SR cx w0 N nt st a w M β):∀(rs:List ResultVar) (k:List PV->Prop),W5 P st rs k->∃(ps:List PV) (vs:List Value),k ps/\vs.length=ps.length/\ps.length=rs.length/\
  (∀(i:Nat) (p:PV) (v:Value),ps[i]? =some p->vs[i]? =some v->B2 w M β w0.old p v/\((∃t,p=st.get t/\v=a.tmps.getD t undef)\/∀s,p.sv=some s->s.own=false))/\
  (rs.mapM (Ay3 a)).run P w=.ok vs w:=by
 intro rs
 induction rs with
 |nil=>intro k hk;exact⟨[],[],hk,rfl,rfl,λi p v hp=>by simp at hp,rfl⟩
 |cons x rs ih=>
  intro k hk;cases x with
  |tmp t=>
   obtain⟨ps,vs,h1,h2,h3,h4,h5⟩:=ih _ hk;refine⟨_,a.tmps.getD t undef::vs,h1,by simp[h2],by simp[h3],λi p v hp hv=>?_,?_⟩
   ·cases i with
    |zero=>
     rw[List.getElem?_cons_zero]at hp hv;injection hp with hp;injection hv with hv
     subst hp;subst hv;exact⟨h.reg t,.inl ⟨t,rfl,rfl⟩⟩
    |succ i=>exact h4 i p v (by simpa using hp) (by simpa using hv)
   ·simp only[List.mapM_cons,Ay3,Sem.run_bind,Sem.run_pure,Result.andThen_ok,h5]
  |cell b t=>
   simp only[W5]at hk;cases hq:st.get b with
   |loc d off=>
    cases hs:szT P t with
    |none=>rw[hq,hs]at hk;exact hk.elim
    |some sz=>
     cases hu:P.underlying t with
     |none=>rw[hq,hs,hu]at hk;exact hk.elim
     |some td=>
      rw[hq,hs,hu]at hk;simp only at hk;have hreg:=h.reg b;rw[hq]at hreg;obtain⟨bb,n,hb,hv⟩:=Ako hreg;have fin:∀(pv:PV),(H4 P t=false->sz=1)->(W7 ((st.obj d).drop off) sz && plain (((st.obj d).drop off).take sz))=true->pv=mkP (H4 P t) (((st.obj d).drop off).take sz)->
        W5 P st rs (λl=>k (pv::l))->∃(ps:List PV) (vs:List Value),k ps/\vs.length=ps.length/\ps.length=(ResultVar.cell b t::rs).length/\
        (∀(i:Nat) (p:PV) (v:Value),ps[i]? =some p->vs[i]? =some v->B2 w M β w0.old p v/\((∃t,p=st.get t/\v=a.tmps.getD t undef)\/∀s,p.sv=some s->s.own=false))/\
        ((ResultVar.cell b t::rs).mapM (Ay3 a)).run P w=.ok vs w:=by
       intro pv hsz hl hpv hk;simp only[Bool.and_eq_true]at hl;obtain⟨v,hrun,hr⟩:=Biw (B:=w0.old) (l:=((st.obj d).drop off).take sz) hu hs hsz (by rw[List.length_take];have:=(Vn _ _).1 hl.1;omega) (h.cellsAt hb (λi p hp=>Akk hp) hl.2);obtain⟨ps,vs,h1,h2,h3,h4,h5⟩:=ih _ hk;refine⟨_,v::vs,h1,by simp[h2],by simp[h3],λi p u hp hu=>?_,?_⟩
       ·cases i with
        |zero=>simp at hp hu;subst hp;subst hu;rw[hpv];exact⟨hr,.inr (Aoj _ _)⟩
        |succ i=>exact h4 i p u (by simpa using hp) (by simpa using hu)
       ·simp only[List.mapM_cons,Ay3,Sem.run_bind,Sem.run_pure,Result.andThen_ok,hv,asAddr,hrun,h5]
      cases g1:H4 P t<;>cases g2:Nat.beq sz 1<;>cases g3:(W7 ((st.obj d).drop off) sz && plain (((st.obj d).drop off).take sz))<;>simp only[g1,g2,g3]at hk fin
      ·exact fin _ (λ_=>Cn g2) trivial rfl hk
      ·exact fin _ (λe=>by cases e) trivial rfl hk
      ·exact fin _ (λe=>by cases e) trivial rfl hk
   |_=>rw[hq]at hk;exact hk.elim
theorem A0l{fn:Func}{us:List Value}(h5:(fn.results.toList.mapM (Ay3 a)).run P w=.ok us w):(results fn a.tmps).run P w=.ok (if h:us.length=1 then us[0]else .tuple us.toArray) w:=by
 have e:results fn a.tmps=(do let vs<-fn.results.mapM (Ay3 a);pure (if h:vs.size=1 then vs[0]else .tuple vs)):=rfl;rw[e,Array.mapM_eq_mapM_toList];simp only[Sem.run_bind,Sem.run_map];rw[h5];simp only[Result.andThen_ok,Sem.run_pure];by_cases hu:us.length=1
 ·simp[hu]
 ·simp[hu]
theorem Bg0(sz:Nat):∀(n:Nat) (l:List PV) (i:Nat),i<n->(Ay4 sz n l)[i]? =some ((l.drop (i*sz)).take sz):=by
 intro n
 induction n with
 |zero=>intro l i h;omega
 |succ n ih=>
  intro l i h;simp only[Ay4];cases i with
  |zero=>simp
  |succ i=>
   rw[List.getElem?_cons_succ,ih _ _ (by omega),List.drop_drop]
   congr 3
   rw[Nat.add_mul];omega
theorem Bg1(sz:Nat):∀(n:Nat) (l:List PV),(Ay4 sz n l).length=n:=by
 intro n
 induction n with
 |zero=>intro l;rfl
 |succ n ih=>intro l;simp only[Ay4,List.length_cons,ih]
theorem Bmj{w0s:Nat->Prop}{O:Nat->List PV}(hN:∀x:Addr,¬w0s x.block->imm N x)(hbox:∀d b n,β d=some (b,n)->¬w0s b/\Nm w N β w0s b n (O d)):∀(m:Nat) {p:PV} {v:Value},B2 w N β w0s p v->B2 w N (λ_=>none) (λ_=>False) (p.finN O m) v:=by
 intro m
 induction m with
 |zero=>intro p v h;exact h.pure0
 |succ m ih=>
 intro p v h;unfold PV.finN;split
 ·rename_i c d e sz n;obtain⟨b,cp,hb,hc,rfl⟩:=Bjf h;obtain⟨hb1,hob⟩:=hbox d b n hb;split
  ·rename_i x hO;split
   ·rename_i g1;have e:=Cn g1;subst e;obtain⟨cs,t,q1,q2,q3,q4⟩:=A89 hob hO;refine Agl (s:=⟨false,x.e,x.sz,x.len,x.row⟩) rfl q2.symm q1 hc (λi _=>LX.row_len _ _) (λi _=>hN _ hb1) (λi j q hi hq=>?_);have hj:j<x.sz:=by have:=(List.getElem?_eq_some_iff.1 hq).1;rw[LX.row_len]at this;exact this
    have hm:(i+1)*x.sz<=n*x.sz:=Nat.mul_le_mul_right _ hi;rw[Nat.add_mul,Nat.one_mul]at hm;have hv:cs[i*x.sz+j]? =some (cs[i*x.sz+j]'(by omega)):=Array.getElem?_eq_getElem (by omega);obtain⟨r1,r2⟩:=q4 i j q _ hi hq hv;exact⟨_,hv,r1.flat (LX.row_flat _ _ _ (List.mem_of_getElem? hq)),r2⟩
   ·exact .any _
  ·split
   ·rename_i x hlit hlen;split
    ·rename_i g1;have e1:=Cn g1;simp only[Bool.and_eq_true]at hlen;have hlen':=(Ag4 _ _).1 hlen.1;obtain⟨l1,l2,l3⟩:=LX.lit_spec _ _ _ hlit;rw[Bg1]at l2;have hob':∃cs t,w.heap[b]? =some (.cells cs t (0,0))/\(n*sz<=cs.size)/\∀(i:Nat) (p:PV) (v:Value),i<n*sz->(O d)[i]? =some p->cs[i]? =some v->B2 w N (λ_=>none) (λ_=>False) (p.finN O m) v/\v.oneCell'=true:=by
      obtain⟨cs,t,q1,q2,q3⟩:=Rz hob hlen.2;exact⟨cs,t,q1,by omega,λi p v _ hp hv=>⟨ih (q3 i p v hp hv).1,(q3 i p v hp hv).2⟩⟩
     obtain⟨cs,t,q1,q2,q3⟩:=hob';refine Agl (s:=⟨false,x.e,x.sz,x.len,x.row⟩) rfl l2.symm q1 hc (λi _=>LX.row_len _ _) (λi _=>hN _ hb1) (λi j q hi hq=>?_);have hj:j<x.sz:=by have:=(List.getElem?_eq_some_iff.1 hq).1;rw[LX.row_len]at this;exact this
     have hm:(i+1)*sz<=n*sz:=Nat.mul_le_mul_right _ hi;rw[Nat.add_mul,Nat.one_mul]at hm;obtain⟨p0,hp0,hle⟩:=(l3 i _ (Bg0 sz n _ i hi)).get.2 j q hq;have hp1:=Akk hp0;rw[List.getElem?_map]at hp1;obtain⟨p1,hp2,rfl⟩:=Option.map_eq_some_iff.1 hp1;rw[<-e1]at hj ⊢;have hv:cs[i*sz+j]? =some (cs[i*sz+j]'(by omega)):=Array.getElem?_eq_getElem (by omega);obtain⟨r1,r2⟩:=q3 _ p1 _ (by omega) hp2 hv;exact⟨_,hv,r1.le hle,r2⟩
    ·exact .any _
   ·exact .any _
  ·exact .any _
 ·exact h.pure0
theorem A3v{w0s:Nat->Prop}{O:Nat->List PV}(hN:∀x:Addr,¬w0s x.block->imm N x)(hbox:∀d b n,β d=some (b,n)->¬w0s b/\Nm w N β w0s b n (O d)){p:PV}{v:Value}(h:B2 w N β w0s p v):
  B2 w N (λ_=>none) (λ_=>False) (p.fin1 O) v:=Bmj hN hbox 3 h
theorem Br5{w0s:Nat->Prop}{O:Nat->List PV}(hN:∀x:Addr,¬w0s x.block->imm N x)(hbox:∀d b n,β d=some (b,n)->¬w0s b/\Nm w N β w0s b n (O d)){p:PV}{v:Value}(h:B2 w N β w0s p v):
  B2 w N (λ_=>none) (λ_=>False) (p.fin O) v:=by
 cases p with
 |agg l=>
  cases h with
  |row p s hs=>cases hs
  |agg l cs hl h1 hr=>
   refine .agg _ cs (by rw[List.length_map,hl]) h1 (λi q u hq hu=>?_);rw[List.getElem?_map]at hq;cases hp:l[i]? with
   |none=>rw[hp]at hq;cases hq
   |some p=>
    rw[hp]at hq;injection hq with hq
    subst hq;exact A3v hN hbox (hr i p u hp hu)
 |bY l=>
  cases h with
  |row p s hs=>cases hs
  |bY l cs hl hr=>
   refine .bY _ cs (by rw[List.length_map,hl]) (λi q u hq hu=>?_);rw[List.getElem?_map]at hq;cases hp:l[i]? with
   |none=>rw[hp]at hq;cases hq
   |some p=>
    rw[hp]at hq;injection hq with hq
    subst hq;exact A3v hN hbox (hr i p u hp hu)
 |sl own e sz es=>
  cases h with
  |row p s hs a c vs hc hsz ha hm hr=>
   injection hs with hs;subst hs
   have hf:∀i,i<es.length->(es.map λr=>r.map PV.pure0).getD i []=(es.getD i []).map PV.pure0:=λi hi=>by
    simp[List.getD,hi]
   have:=B2.row (w:=w) (M:=N) (β :=λ_=>none) (B:=λ_=>False) (.sl false e sz (es.map λr=>r.map PV.pure0)) ⟨false,e,sz,(es.map λr=>r.map PV.pure0).length,λi=>(es.map λr=>r.map PV.pure0).getD i []⟩ rfl a c vs
    (by simpa using hc) (λi hi=>by
     simp only[List.length_map]at hi;show((es.map λr=>r.map PV.pure0).getD i []).length=sz
     rw[hf i hi,List.length_map];exact hsz i hi) (λi hi=>ha i (by simpa using hi))
    (λad i j q had hi hq=>by
     simp only[List.length_map]at hi;have hq':((es.map λr=>r.map PV.pure0).getD i [])[j]? =some q:=hq;rw[hf i hi]at hq';obtain⟨p,hp,rfl⟩:=P6 hq';exact hm ad i j p had hi hp)
    (λi j q hi hq=>by
     simp only[List.length_map]at hi;have hq':((es.map λr=>r.map PV.pure0).getD i [])[j]? =some q:=hq;rw[hf i hi]at hq';obtain⟨p,hp,rfl⟩:=P6 hq';exact(hr i j p hi hp).pure0)
   simp only[List.length_map]at this;exact this
 |_=>exact A3v hN hbox h
theorem Bf2:∀(l:List PV) (i s:Nat),Dn .any (Afe i l) s=if i<=s then(match l[s-i]? with|some p=>p.view|none=>.any)else .any:=by
 intro l
 induction l with
 |nil=>intro i s;simp[Afe,Dn]
 |cons p l ih=>
  intro i s;simp only[Afe];rw[Dc,ih];by_cases e:i=s
  ·subst e;simp
  ·rw[if_neg e];by_cases h1:i<=s
   ·rw[if_pos (by omega),if_pos h1];rw[show s-i=(s-(i+1))+1 by omega];simp
   ·rw[if_neg (by omega),if_neg h1]
theorem Bex{κ :Type}{H: κ->PV×Value}{O:Nat->List PV}{D:Nat->Bool}{ob:List (Nat×List PV)}(base:Nat)(h:SH H w0 N O D w M β)(hO:∀d,O d=Dn [] ob d)(hD:∀d,D d=Ay d (ob.map Prod.fst))
  (args:List PV)(vs:List Value)(hl:vs.length=args.length)(hr:∀(i:Nat) (p:PV) (v:Value),args[i]? =some p->vs[i]? =some v->B2 w M β w0.old p v)(hn:args.length<=nt):
  SR H w0 N nt { fr:=Afe 0 args,ob:=ob,base:=base } { tmps:=vs.toArray++Array.replicate (nt-vs.toArray.size) undef,defers:= [] } w M β :=by
 have hg:∀s,St.get { fr:=Afe 0 args,ob:=ob,base:=base } s=match args[s]? with|some p=>p.view|none=>.any:=λs=>by
  have:=Bf2 args 0 s;rw[if_pos (Nat.zero_le s),Nat.sub_zero]at this;exact this
 have e1:O=St.obj { fr:=Afe 0 args,ob:=ob,base:=base } :=funext hO;have e2:D=λd=>Ay d (ob.map Prod.fst):=funext hD;refine⟨rfl,by simp;omega,?_⟩;rw[<-e1];show SH _ w0 N O (λd=>Ay d (ob.map Prod.fst)) w M β
 rw[<-e2];refine h.hold (λk=>?_) (λk=>match k with| .inl _=>none| .inr i=>some i) (λk s h1 h2=>?_) (λk k' j h1 h2=>?_)
 ·cases k with
  |inl s=>
   simp only[hold];rw[hg];cases hp:args[s]? with
   |none=>exact .any _
   |some p=>
    have hs:s<args.length:=(List.getElem?_eq_some_iff.1 hp).1;have hv:vs[s]? =some (vs[s]'(by omega)):=List.getElem?_eq_getElem (by omega);have:(vs.toArray++Array.replicate (nt-vs.toArray.size) undef).getD s undef=vs[s]'(by omega):=by
     rw[Array.getD_eq_getD_getElem?,Array.getElem?_append_left (by simp;omega)];simp[hv]
    simp only[];rw[this];exact(hr s p _ hp hv).view
  |inr i=>exact h.reg i
 ·cases k with
  |inl s=>
   simp only[hold]at h1;rw[hg]at h1;cases hp:args[s]? with
   |none=>rw[hp]at h1;cases h1
   |some p=>rw[hp]at h1;rw[Su h1]at h2;cases h2
  |inr i=>exact⟨i,rfl,h1,rfl⟩
 ·cases k with
  |inl s=>cases h1
  |inr i=>
   cases k' with
   |inl s=>cases h2
   |inr i'=>injection h1 with h1;injection h2 with h2;rw[h1,h2]
theorem A3r(hC:Dl P C)(hX:Qk P X){ban:List Nat} :∀(l:List Hm) (st:St) (k:St->Prop),So P C X ban l st k->∃st',k st'/\∀k':St->Prop,k' st'->So P (H0 P) (Hr P) ban l st k':=by
 intro l
 induction l with
 |nil=>intro st k h;exact⟨st,h,λk' h'=>h'⟩
 |cons eo l ih=>
  intro st k h;have run1:∀(su:St),Ba P C X ban eo.k eo.dst su (λδ =>So P C X ban l (su.app δ) k)->∃st',k st'/\∀k':St->Prop,k' st'->Ba P (H0 P) (Hr P) ban eo.k eo.dst su (λδ =>So P (H0 P) (Hr P) ban l (su.app δ) k'):=by
   intro su hs;obtain⟨δ,h1,h2⟩:=Asa hC hX _ _ _ _ hs;obtain⟨st',h3,h4⟩:=ih _ _ h1;exact⟨st',h3,λk' hk=>h2 (λδ =>So P (H0 P) (Hr P) ban l (su.app δ) k') (h4 k' hk)⟩
  simp only[So]at h ⊢;cases hg:eo.g with
  |none=>
   rw[hg]at h;exact run1 st h
  |some sw=>
   obtain⟨s,want⟩:=sw;rw[hg]at h;simp only at h ⊢;split at h
   ·rename_i t hq;cases t<;>cases want<;>simp only[br]at h ⊢ <;>first|exact run1 _ h|exact ih _ _ h
   ·exact ih _ _ h
   ·exact h.elim
theorem Atw(hC:Dl P C)(hX:Qk P X):∀(n:Nat) (l:List Hm) (st:St) (k:St->Prop),J3 P C X n l st k->∃st',k st'/\∀k':St->Prop,k' st'->J3 P (H0 P) (Hr P) n l st k':=by
 intro n
 induction n with
 |zero=>
  intro l st k h;cases l with
  |nil=>exact⟨st,h,λk' h'=>h'⟩
  |cons _ _=>exact h.elim
 |succ n ih=>
  intro l st k h;cases l with
  |nil=>exact⟨st,h,λk' h'=>h'⟩
  |cons eo l=>
   have run1:∀(su:St),Ba P C X [] eo.k eo.dst su (λδ =>J3 P C X n l (su.app δ) k)->∃st',k st'/\∀k':St->Prop,k' st'->Ba P (H0 P) (Hr P) [] eo.k eo.dst su (λδ =>J3 P (H0 P) (Hr P) n l (su.app δ) k'):=by
    intro su hs;obtain⟨δ,h1,h2⟩:=Asa hC hX _ _ _ _ hs;obtain⟨st',h3,h4⟩:=ih _ _ _ h1;exact⟨st',h3,λk' hk=>h2 (λδ =>J3 P (H0 P) (Hr P) n l (su.app δ) k') (h4 k' hk)⟩
   simp only[J3]at h ⊢;cases hg:eo.g with
   |none=>
    rw[hg]at h;exact run1 st h
   |some sw=>
    obtain⟨s,want⟩:=sw;rw[hg]at h;simp only at h ⊢;split at h
    ·rename_i t hq;cases hsp:Auk s (eo::l) with
     |none=>
      rw[hsp]at h;cases t<;>cases want<;>simp only[br]at h ⊢ <;>first|exact run1 _ h|exact ih _ _ _ h
     |some x=>
      obtain⟨B,pd,r'⟩:=x;rw[hsp]at h;simp only[jn]at h ⊢;have go:∀su,So P C X [] B su (A0e pd (λb=>J3 P C X n r' (stJ st B pd b) k))->∃st',k st'/\∀k':St->Prop,k' st'->So P (H0 P) (Hr P) [] B su (A0e pd (λb=>J3 P (H0 P) (Hr P) n r' (stJ st B pd b) k')):=by
       intro su hs;obtain⟨sB,h1,h2⟩:=A3r hC hX _ _ _ hs;unfold A0e at h1;split at h1
       ·rename_i b hb;obtain⟨st',h3,h4⟩:=ih _ _ _ h1;exact⟨st',h3,λk' hk=>h2 _ (by unfold A0e;rw[hb];exact h4 k' hk)⟩
       ·exact h1.elim
      cases t<;>simp only[br]at h ⊢ <;>exact go _ h
    ·exact ih _ _ _ h
    ·exact h.elim
theorem Bks{F F':St->(Ex->St->Prop)->Prop}(hf:∀(st:St) (k:Ex->St->Prop),F st k->∃e st',k e st'/\∀k':Ex->St->Prop,k' e st'->F' st k'){n:Nat}{m:Operand}{it nx mo pr:Nat}{keys:List Nat}{L:Nat}{st:St}{k:St->Prop}
  (h:Bgy F n m it nx mo pr keys L st k):∃stF,k stF/\∀k':St->Prop,k' stF->Bgy F' n m it nx mo pr keys L st k':=by
 have hr:∀(d:Nat) (O:List PV) (V:PV) (gk gv:Bool) (ks vs:LX) (live:List Nat) (kk:St->Prop) (Ln:Nat) (Sn:List Nat) (st:St),Ba6 F n d O V gk gv ks vs it nx mo pr keys live Ln Sn st kk->Ba6 F' n d O V gk gv ks vs it nx mo pr keys live Ln Sn st kk:=by
  intro d O V gk gv ks vs live kk Ln
  induction Ln with
  |zero=>intro Sn st h;exact h
  |succ Ln ihn=>
   intro Sn st h;refine⟨h.1,λi hi hn=>?_⟩;obtain⟨e,st',h3,h4⟩:=hf _ _ (h.2 i hi hn);exact h4 _ ⟨h3.1,h3.2.1,h3.2.2.1,ihn _ _ h3.2.2.2⟩
 unfold Bgy at h;split at h
 ·rename_i d hq;split at h
  ·rename_i gk gv ks vs hob;obtain⟨stF,hN,hk⟩:=h;refine⟨stF,hk,λk' hk'=>?_⟩;unfold Bgy;rw[hq];dsimp only;rw[hob];exact⟨stF,λes clock r=>hr _ _ _ _ _ _ _ _ _ _ _ _ (hN es clock r),hk'⟩
  ·exact h.elim
 ·exact h.elim
theorem Bcq(hC:Dl P C)(hX:Qk P X)(L:Nat):∀(ec:EC) (st:St) (k:Ex->St->Prop),evC P C X L ec st k->∃e st',k e st'/\∀k':Ex->St->Prop,k' e st'->evC P (H0 P) (Hr P) L ec st k':=by
 intro ec
 induction ec with
 |skip=>intro st k h;exact⟨.normal,st,h,λk' h'=>h'⟩
 |region ban ap l=>
  intro st k h;simp only[evC]at h ⊢;cases hap:An4 st ap with
  |false=>rw[hap]at h;exact h.elim
  |true=>
   rw[hap]at h;obtain⟨st',h1,h2⟩:=A3r hC hX _ _ _ h;exact⟨.normal,st',h1,λk' hk=>h2 (λst'=>k' .normal st') hk⟩
 |gT l=>
  intro st k h;simp only[evC]at h ⊢;obtain⟨st',h1,h2⟩:=Atw hC hX _ _ _ _ h;exact⟨.normal,st',h1,λk' hk=>h2 (λst'=>k' .normal st') hk⟩
 |seq a b iha ihb=>
  intro st k h;simp only[evC]at h ⊢;obtain⟨e,st1,h1,h2⟩:=iha _ _ h;cases e with
  |normal=>
   obtain⟨e,st',h3,h4⟩:=ihb _ _ h1;exact⟨e,st',h3,λk' hk=>h2 _ (h4 k' hk)⟩
  |exit i=>exact⟨.exit i,st1,h1,λk' hk=>h2 _ hk⟩
  |ret=>exact⟨.ret,st1,h1,λk' hk=>h2 _ hk⟩
 |cond c a b iha ihb=>
  intro st k h;simp only[evC]at h ⊢;split at h
  ·rename_i t hq;cases t with
   |true=>exact iha _ _ h
   |false=>exact ihb _ _ h
  ·exact h.elim
 |block id b ih=>
  intro st k h;simp only[evC]at h ⊢;obtain⟨e,st1,h1,h2⟩:=ih _ _ h;cases e with
  |normal=>exact⟨.normal,st1,h1,λk' hk=>h2 _ hk⟩
  |ret=>exact⟨.ret,st1,h1,λk' hk=>h2 _ hk⟩
  |exit i=>
   cases hb:Nat.beq i id with
   |true=>
    simp only[Gi,hb]at h1;exact⟨.normal,st1,h1,λk' hk=>h2 _ (by simp only[Gi,hb];exact hk)⟩
   |false=>
    simp only[Gi,hb]at h1;exact⟨.exit i,st1,h1,λk' hk=>h2 _ (by simp only[Gi,hb];exact hk)⟩
 |loop keys b ih=>
  intro st k h;simp only[evC]at h ⊢;generalize keep keys (gcK keys st) st=s0 at h ⊢;generalize gcK keys st=live at h ⊢;have key:∀(n:Nat) (st:St) (k:Ex->St->Prop),Io (evC P C X L b) keys live n st k->∃e st',k e st'/\∀k':Ex->St->Prop,k' e st'->Io (evC P (H0 P) (Hr P) L b) keys live n st k':=by
   intro n
   induction n with
   |zero=>intro st k h;exact h.elim
   |succ n ihn=>
    intro st k h;obtain⟨e,st1,h1,h2⟩:=ih _ _ h;cases e with
    |normal=>
     obtain⟨e,st',h3,h4⟩:=ihn _ _ h1;exact⟨e,st',h3,λk' hk=>h2 _ (h4 k' hk)⟩
    |exit i=>exact⟨.exit i,_,h1,λk' hk=>h2 _ hk⟩
    |ret=>exact⟨.ret,_,h1,λk' hk=>h2 _ hk⟩
  exact key L s0 k h
 |exit id=>intro st k h;exact⟨.exit id,st,h,λk' h'=>h'⟩
 |kp keys=>intro st k h;exact⟨.normal,_,h,λk' h'=>h'⟩
 |iE ts=>intro st k h;exact⟨.normal,_,h,λk' h'=>h'⟩
 |iC ts=>intro st k h;exact⟨.normal,_,h,λk' h'=>h'⟩
 |gJ keys b ih=>
  intro st k h;simp only[evC]at h ⊢;have key:∀(n:Nat) (st:St) (k:Ex->St->Prop),A38 (evC P C X L b) keys n st k->∃e st',k e st'/\∀k':Ex->St->Prop,k' e st'->A38 (evC P (H0 P) (Hr P) L b) keys n st k':=by
   intro n
   induction n with
   |zero=>intro st k h;exact h.elim
   |succ n ihn=>
    intro st k h;obtain⟨e,st1,h1,h2⟩:=ih _ _ h;cases e with
    |normal=>
     obtain⟨e,st',h3,h4⟩:=ihn _ _ h1;exact⟨e,st',h3,λk' hk=>h2 _ (h4 k' hk)⟩
    |exit i=>exact⟨.exit i,_,h1,λk' hk=>h2 _ hk⟩
    |ret=>exact⟨.ret,_,h1,λk' hk=>h2 _ hk⟩
  exact key L st k h
 |iB pre m it nx mo pr keys asg b n ih=>
  intro st k h;simp only[evC]at h ⊢;obtain⟨st1,h1,h2⟩:=Atw hC hX _ _ _ _ h;have hf:∀(st:St) (k:Ex->St->Prop),(J3 P C X asg.length asg st λst'=>evC P C X L b st' k)->∃e st',k e st'/\∀k':Ex->St->Prop,k' e st'->
    (J3 P (H0 P) (Hr P) asg.length asg st λst'=>evC P (H0 P) (Hr P) L b st' k'):=λst k h=>by
   obtain⟨st1,h1,h2⟩:=Atw hC hX _ _ _ _ h;obtain⟨e,st',h3,h4⟩:=ih _ _ h1;exact⟨e,st',h3,λk' hk=>h2 _ (h4 k' hk)⟩
  obtain⟨stF,q1,q2⟩:=Bks (F':=λ(st:St) (k:Ex->St->Prop)=>J3 P (H0 P) (Hr P) asg.length asg st λst'=>evC P (H0 P) (Hr P) L b st' k) hf h1;exact⟨.normal,stF,q1,λk' hk'=>h2 _ (q2 _ hk')⟩
 |ret=>intro st k h;exact⟨.ret,st,h,λk' h'=>h'⟩
 |stop=>intro st k h;exact h.elim
theorem Dl.star:Dl P (H0 P):=λ_ _ _ h=>h
theorem Qk.star:Qk P (Hr P):=λ_ _ _ _ h=>h
theorem A0z{f:Nat}{args:List PV}{ob:List (Nat×List PV)}{r:PV}(h:W3 P f (args.map (Ask (Dn [] ob))) r):O9 P f args ob r.view []:=by
 intro κ H w0 w N M β O D vs hO hD hS hl hr;have hsr:SR H w0 N 0 { fr:= [],ob:=ob,base:=0 } { tmps:= #[],defers:= [] } w M β :=by
  have e1:O=St.obj { fr:= [],ob:=ob,base:=0 } :=funext hO;have e2:D=λd=>Ay d (ob.map Prod.fst):=funext hD;refine⟨rfl,rfl,?_⟩;rw[<-e1];show SH _ w0 N O (λd=>Ay d (ob.map Prod.fst)) w M β
  rw[<-e2];refine hS.hold (λk=>?_) (λk=>match k with| .inl _=>none| .inr i=>some i) (λk s h1 h2=>?_) (λk k' j h1 h2=>?_)
  ·cases k with
   |inl s=>exact .any _
   |inr i=>exact hS.reg i
  ·cases k with
   |inl s=>cases h1
   |inr i=>exact⟨i,rfl,h1,rfl⟩
  ·cases k with
   |inl s=>cases h1
   |inr i=>
    cases k' with
    |inl s=>cases h2
    |inr i'=>injection h1 with h1;injection h2 with h2;rw[h1,h2]
 refine Calls.mono (h w M vs (by simp[hl]) (λi p v hp hv=>?_) hS.mlt (hS.mN.gl.all hS.dR hS.mN.eq)) ?_
 ·rw[List.getElem?_map]at hp;cases hx:args[i]? with
  |none=>rw[hx]at hp;cases hp
  |some x=>
   rw[hx]at hp;simp only[Option.map_some,Option.some.injEq]at hp;subst hp;exact Beu hsr (hr i x v hx hv)
 ·rintro e w' ⟨v,rfl,hv,hb⟩
  have e1:O=Dn [] ([]++ob):=funext hO;have e2:D=λd=>Ay d (([]++ob).map Prod.fst):=funext hD;refine⟨v,M,β,rfl,?_⟩;rw[<-e1,<-e2];exact(hS.world hb).cons _ v hv.up.view (λs h1 h2=>by rw[Su h1]at h2;cases h2)
def A2n(P:Program)(f e b:Nat):Prop:=K6 P f=true/\∀(w:World) (m:Nat),m*b<=140737488355328->m<=4611686018427387904->
 Calls P f #[.slice none 0 0,.int .i64 m] w λen w'=>(en=.returned (.slice none 0 0)/\w'=w)\/
  ∃(w1:World) (cs:Array Value) (c:Nat),en=.returned (.slice (some ⟨w1.heap.size,0,none⟩) 0 c)/\Below w.heap.size w w1/\w'=w1.alloc (.cells cs e)/\(∀x,LX.nil e=some x->cs.size=c*x.sz)/\c<=maxLen
def Bhk(P:Program)(f e:Nat):Prop:=K6 P f=true/\∀(a:Option Addr) (c:Nat) (w:World),
 Calls P f #[.slice a 0 c] w λen w'=>(en=.returned (.slice none 0 0)/\w'=w)\/(en=.returned (.slice (some ⟨w.heap.size,0,none⟩) 0 0)/\w'=w.alloc (.cells #[] e))
def Aw5(P:Program)(G:Nat->Option (Nat×Nat)):Prop:=∀f e b,G f=some (e,b)->(b=0->Bhk P f e)/\(b≠0->b≠2000000->A2n P f e b)
theorem Bc5{f e b:Nat}(hg:A2n P f e b){x:LX}(hx:LX.nil e=some x){m:Int}(h0:0<=m)(hb:m*(b:Int)<=140737488355328)(hm:m<=(4611686018427387904:Int))(ob:List (Nat×List PV)):
  O9 P f [.val (.slice none 0 0),.val (.int .i64 m)] ob (.bA true x) []:=by
 intro κ H w0 w N M β O D vs hO hD hS hl hr
 match vs,hl with
 | [v1,v2],_=>
  have e1:v1=.slice none 0 0:=(hr 0 _ v1 rfl rfl).val_eq;have e2:v2=.int .i64 m:=(hr 1 _ v2 rfl rfl).val_eq;subst e1;subst e2
  obtain⟨n,rfl⟩:=Int.eq_ofNat_of_zero_le h0;obtain⟨hxe,hxn⟩:=LX.nil_spec e x hx;have o1:O=Dn [] ([]++ob):=funext hO;have o2:D=λd=>Ay d (([]++ob).map Prod.fst):=funext hD;refine Calls.mono (hg.2 w n (by
   have:((n*b:Nat):Int)<=140737488355328:=by rw[Int.natCast_mul];exact hb
   omega) (by omega)) ?_
  rintro en w' (⟨rfl,rfl⟩|⟨w1,cs,c,rfl,hbel,rfl,hsz,hc⟩)
  ·refine⟨_,M,β,rfl,?_⟩;rw[<-o1,<-o2];refine hS.cons (.bA true x) (.slice none 0 0) (B2.le (PV.Le.nil true x hxn) (B2.val _ rfl)) (λs h1 _=>?_);injection h1 with h1;subst h1
   exact⟨.inl ⟨_,rfl,hxn⟩,λkey s' v' g _ hg=>absurd hg J6,λg d n hg=>absurd hg J6⟩
  ·have hS1:=hS.world hbel;obtain⟨_,hS2,_,hb1,hn1⟩:=hS1.rowNew cs e 0;have hh:=heap_alloc_new w1 (.cells cs e);have hle:¬w0.old w1.heap.size:=hS1.dR.new;refine⟨_,(λb=>if b=w1.heap.size then some 0 else M b),β,rfl,?_⟩;rw[<-o1,<-o2];refine hS2.cons (.bA true x) _ (Agl (s:=⟨true,x.e,x.sz,x.len,x.row⟩) rfl hxn.symm hh (Nat.zero_le _) (λi hi=>by omega) (λi hi=>by omega) (λi j q hi=>by omega)) (λs h1 _=>?_);injection h1 with h1;subst h1
   cases c with
   |zero=>exact⟨.inl ⟨_,rfl,hxn⟩,λkey s' v' g _ hg=>absurd hg J6,λg d n hg=>absurd hg J6⟩
   |succ c=>
    refine⟨.inr ⟨w1.heap.size,c,cs,by rw[hxn],hle,by simp[hxn],by rw[hxe];exact hh,by simp[hxn],hc,by rw[hsz x hx]⟩,λkey s' v' g ho' hg=>?_,λg d n hg=>?_⟩
    ·have:w1.heap.size=g:=by simpa[tb]using hg
     rw[<-this];exact(hn1 key s' v' ho').2
    ·have:w1.heap.size=g:=by simpa[tb]using hg
     rw[<-this];exact hb1 d n
theorem A9j{f e:Nat}(hg:Bhk P f e){x:LX}(hx:LX.nil e=some x)(o:Bool){z:LX}(hz:Nat.beq z.len 0=true)(ob:List (Nat×List PV)):
  O9 P f [.bA o z] ob (.bA true x) []:=by
 intro κ H w0 w N M β O D vs hO hD hS hl hr
 match vs,hl with
 | [v1],_=>
  have hz0:z.len=0:=Nat.eq_of_beq_eq_true hz;obtain⟨a,c,rfl⟩:∃a c,v1=.slice a 0 c:=by
   cases hr 0 _ v1 rfl rfl with
   |row p s hs a c vs _ _ _ _ _=>
    injection hs with hs
    subst hs;exact⟨a,c,by show Value.slice a z.len c=_;rw[hz0]⟩
  obtain⟨hxe,hxn⟩:=LX.nil_spec e x hx;have o1:O=Dn [] ([]++ob):=funext hO;have o2:D=λd=>Ay d (([]++ob).map Prod.fst):=funext hD;refine Calls.mono (hg.2 a c w) ?_
  rintro en w' (⟨rfl,rfl⟩|⟨rfl,rfl⟩)
  ·refine⟨_,M,β,rfl,?_⟩;rw[<-o1,<-o2];refine hS.cons (.bA true x) (.slice none 0 0) (B2.le (PV.Le.nil true x hxn) (B2.val _ rfl)) (λs h1 _=>?_);injection h1 with h1;subst h1
   exact⟨.inl ⟨_,rfl,hxn⟩,λkey s' v' g _ hg=>absurd hg J6,λg d n hg=>absurd hg J6⟩
  ·obtain⟨_,hS2,_,hb1,hn1⟩:=hS.rowNew #[] e 0;have hh:=heap_alloc_new w (.cells #[] e);refine⟨_,(λb=>if b=w.heap.size then some 0 else M b),β,rfl,?_⟩;rw[<-o1,<-o2];refine hS2.cons (.bA true x) _ (Agl (s:=⟨true,x.e,x.sz,x.len,x.row⟩) rfl hxn.symm hh (Nat.zero_le _) (λi hi=>by omega) (λi hi=>by omega) (λi j q hi=>by omega)) (λs h1 _=>?_);injection h1 with h1;subst h1
   exact⟨.inl ⟨_,rfl,hxn⟩,λkey s' v' g _ hg=>absurd hg J6,λg d n hg=>absurd hg J6⟩
def B7h(t:Option Nat):W2 (Option ι)->Option (W2 (Nat ⊕ ι))
 | .slot none=>t.map λs=>.slot (.inl s)
 | .slot (some k)=>some (.slot (.inr k))
 | .cell x i=>some (.cell x i)
def Cbe:W2 (Nat ⊕ ι)->W2 (Option ι)
 | .slot (.inl _)=>.slot none
 | .slot (.inr k)=>.slot (some k)
 | .cell x i=>.cell x i
theorem Bea{t:Option Nat}{k:W2 (Option ι)}{j:W2 (Nat ⊕ ι)}(h:B7h t k=some j):k=Cbe j:=by
 cases k with
 |slot k=>
  cases k with
  |none=>
   cases t with
   |none=>cases h
   |some s=>injection h with h;subst h;rfl
  |some k=>injection h with h;subst h;rfl
 |cell x i=>injection h with h;subst h;rfl
theorem Br3(st:St)(rs:List ResultVar):st.endI rs=st\/st.endI rs=A70 (Aif rs) (gcK (Aif rs) st) st:=by
 unfold St.endI;cases rs with
 |cons a r=>exact .inl rfl
 |nil=>
  cases A90 7 (Cs st) with
  |false=>exact .inl rfl
  |true=>exact .inr rfl
theorem Bxb(h:SR cx w0 N nt st a w M β){ob:List (Nat×List PV)}{r:PV}{v:Value}(hr:B2 w M β w0.old r v)(ho:(∃t,r=st.get t/\v=a.tmps.getD t undef)\/∀s,r.sv=some s->s.own=false):
  SH (Qw (r,v) cx) w0 N (Dn [] (st.ob++ob)) (λd=>Ay d ((st.ob++ob).map Prod.fst)) w M β :=by
 have hO:∀d x,β d=some x->Dn [] (st.ob++ob) d=st.obj d:=λd x hd=>by
  rw[U1,if_pos]
  ·rfl
  ·cases hn:Ay d (st.ob.map Prod.fst) with
   |true=>have:=h.sh.dom d hn;rw[this]at hd;cases hd
   |false=>
    have:¬Ay d (st.ob.map Prod.fst)=true:=by rw[hn];simp
    rw[Bw]at this;exact Classical.not_not.1 this
 have key:∀(t:Option Nat),(∀s,r.sv=some s->s.own=true->∃t',t=some t'/\r=st.get t'/\v=a.tmps.getD t' undef)->SH (Qw (r,v) cx) w0 N (Dn [] (st.ob++ob)) (λd=>Ay d ((st.ob++ob).map Prod.fst)) w M β :=by
  intro t ht;refine h.sh.perm (λk=>?_) (λd b n hd=>by rw[hO d _ hd];exact(h.sh.box d b n hd).2.2) (λd hd=>?_) (B7h t) ?_ (λk k' j h1 h2=>(Bea h1).trans (Bea h2).symm)
  ·cases k with
   |none=>exact hr
   |some k=>exact h.sh.reg (.inr k)
  ·rw[List.map_append,Y9,Bool.and_eq_true]at hd;exact h.sh.dom d hd.1
  ·intro key s u hk;cases key with
   |slot k=>
    cases k with
    |none=>
     obtain⟨q1,q2,q3⟩:=hk;obtain⟨t',e1,e2,e3⟩:=ht s q1 q2;subst e1;refine⟨.slot (.inl t'),rfl,?_,q2,?_⟩
     ·show(st.get t').sv=some s
      rw[<-e2];exact q1
     ·show a.tmps.getD t' undef=u
      rw[<-e3];exact q3
    |some k=>exact⟨_,rfl,hk⟩
   |cell d i=>
    obtain⟨b,n,p,q1,q2,q3⟩:=hk;rw[hO d _ q1]at q2;exact⟨.cell d i,rfl,b,n,p,q1,q2,q3⟩
 rcases ho with⟨t,e1,e2⟩|ho
 ·exact key (some t) (λs _ _=>⟨t,rfl,e1,e2⟩)
 ·exact key none (λs h1 h2=>by rw[ho s h1]at h2;cases h2)
theorem A57{X:Inl}(hC:Dl P C)(ih:Qk P X)(hm:P.follows .mixedOrders=true)(L:Nat){f:Nat}{fn:Func}(hf:P.funcs[f]? =some fn){ec:EC}(hc:cFn P inl fn=some ec){args:List PV}(hn:Nat.ble args.length fn.ntmps=true)(hcall:K6 P f=true)
  {ob:List (Nat×List PV)}{k:PV->List (Nat×List PV)->Prop}(h:evC P C X L ec { fr:=Afe 0 args,ob:=ob,base:=Arj ob } (Bnd P fn.results.toList k)):Hr P f args ob k:=by
 refine⟨hcall,?_⟩;unfold cFn at hc;cases hb:fn.body with
 |none=>rw[hb]at hc;cases hc
 |some c=>
  rw[hb]at hc;injection hc with hc
  obtain⟨e,st',h1,h2⟩:=Bcq hC ih L ec _ _ h;have hfin:∃l,A9r (Apd (st'.endI fn.results.toList).ob) k l/\W5 P (st'.endI fn.results.toList) fn.results.toList (λl'=>l'=l)/\(e=.normal\/e=.ret):=by
   cases e with
   |exit i=>exact h1.elim
   |normal=>obtain⟨l,q1,q2⟩:=A3s _ _ h1;exact⟨l,q1,q2 _ rfl,.inl rfl⟩
   |ret=>obtain⟨l,q1,q2⟩:=A3s _ _ h1;exact⟨l,q1,q2 _ rfl,.inr rfl⟩
  obtain⟨l,h3,h4,h5⟩:=hfin;have main:∀(r:PV),(∃t,l= [t]/\r=t)\/(l.length≠1/\r=.bY (l.map PV.view))->O9 P f args ob r (st'.endI fn.results.toList).ob:=by
   intro r hrl κ H w0 w N M β O D vs hO hD hS hl hr;refine calls_of_wp hf hb ?_;have hS':∀k,Gt (λd=>∃x,β d=some x) (H k).1:=λk=>(hS.reg k).locs;have hHas:Has (λd=>∃x,β d=some x) { fr:=Afe 0 args,ob:=ob,base:=Arj ob } :=by
    rintro d ⟨x,hx⟩
    have hn:Ay d (ob.map Prod.fst)=false:=by
     cases hn:Ay d (ob.map Prod.fst) with
     |false=>rfl
     |true=>
      have:=hS.dom d (by rw[hD];exact hn);rw[this]at hx;cases hx
    exact⟨hn,A77 hn⟩
   refine A7s (cx:=H) (w0:=w0) (N:=N) (Dl.star (P:=P)) (Qk.star (P:=P)) hm hS' _ L c _ _ _ ec hc _ _ w M β (λe' s'=>e'=e/\s'=st') hHas (Bex _ hS hO hD args vs hl hr (Nat.le_of_ble_eq_true hn)) (h2 _ ⟨rfl,rfl⟩) _ ?_
   rintro e' s' a' w' M' β' ⟨rfl,rfl⟩ hHs hSR0
   obtain⟨β3,hSR⟩:∃β3,SR H w0 N fn.ntmps (s'.endI fn.results.toList) a' w' M' β3:=by
    rcases Br3 s' fn.results.toList with he|he<;>rw[he]
    ·exact⟨β',hSR0⟩
    ·exact⟨_,(hSR0.keep hS' (Aif fn.results.toList) (gcK (Aif fn.results.toList) s') (Bik hHs _)).equiv (Zz (Aif fn.results.toList) (gcK (Aif fn.results.toList) s') s').symm⟩
   obtain⟨ps,us,q1,q2,q3,q4,q5⟩:=A0a hSR _ _ h4;subst q1;have hrun:=A0l q5;have fin:a'.defers= []/\∃v,(results fn a'.tmps).run P w'=.ok v w'/\∃v2 M2 β2,Ending.returned v=.returned v2/\SH (Qw (r,v2) H) w0 N (Dn [] ((s'.endI fn.results.toList).ob++ob)) (λd=>Ay d (((s'.endI fn.results.toList).ob++ob).map Prod.fst)) w' M2 β2:=by
    refine⟨hSR.defs,_,hrun,_,M',β3,rfl,?_⟩;rcases hrl with⟨t,hl1,rfl⟩|⟨hl1,rfl⟩
    ·subst hl1
     match us,q2,q4 with
     | [u],_,q4=>
      obtain⟨r1,r2⟩:=q4 0 _ u rfl rfl;exact Bxb hSR r1 r2
    ·have hne:¬us.length=1:=by rw[q2];exact hl1
     rw[dif_neg hne];refine Bxb hSR (.bY _ us (by rw[List.length_map,q2]) (λi q u hq hu=>?_)) (.inr (Lh rfl));obtain⟨p,hp,rfl⟩:=Ic hq;exact(q4 i p u hp hu).1.view
   rcases h5 with rfl|rfl
   ·exact fin
   ·exact fin
  match l,h3,main with
  | [],h3,main=>exact⟨_,_,O9.norm (main _ (.inr ⟨by simp,rfl⟩)),h3⟩
  | [r],h3,main=>exact⟨_,_,O9.norm (main _ (.inl ⟨r,rfl,rfl⟩)),h3⟩
  |a::b::l,h3,main=>exact⟨_,_,O9.norm (main _ (.inr ⟨by simp,rfl⟩)),h3⟩
theorem Axi{X:Inl}(hC:Dl P C)(ih:Qk P X)(hm:P.follows .mixedOrders=true)(L:Nat):Qk P (evJ P inl C L X):=by
  intro f args ob k h;simp only[evJ]at h;split at h
  ·split at h
   ·rename_i fn hf;split at h
    ·rename_i ec hc hn hcall;exact A57 hC ih hm L hf hc hn hcall h
    ·exact h.elim
   ·exact h.elim
  ·split at h
   ·rename_i hcall;obtain⟨r,h1,h2⟩:=hC _ _ _ h;rw[F8.of (A30 (Dn [] ob) (λx=>x) args)]at h1;exact⟨hcall,_,_,A0z h1,h2⟩
   ·exact h.elim
theorem Bfw{G:Nat->Option (Nat×Nat)}(hG:Aw5 P G)(hC:Dl P C)(hm:P.follows .mixedOrders=true)(L:Nat):∀n,Qk P (Bcs P inl G C L n):=by
 intro n
 induction n with
 |zero=>intro f args ob k h;exact h.elim
 |succ n ih=>
  intro f args ob k h;simp only[Bcs,evB]at h;cases hGf:G f with
  |some eb=>
   obtain⟨e,b⟩:=eb;rw[hGf]at h;simp only at h;have hg:=hG f e b hGf;cases hb:Nat.beq b 0 with
   |true=>
    rw[hb]at h;simp only[Bl6]at h;have hg:=hg.1 (Nat.eq_of_beq_eq_true hb);split at h
    ·rename_i o z x hx;cases hz:Nat.beq z.len 0 with
     |true=>
      rw[hz]at h;exact⟨hg.1,_,_,A9j hg hx o hz ob,h⟩
     |false=>
      rw[hz]at h;exact Axi hC ih hm L _ _ _ _ h
    ·exact Axi hC ih hm L _ _ _ _ h
   |false=>
    rw[hb]at h;cases hb2:Nat.beq b 2000000 with
    |true=>
     rw[hb2]at h;simp only[stK]at h;split at h
     ·rename_i d ps;split at h
      ·rename_i g1 g2 g3;obtain⟨r,h1,h2⟩:=hC _ _ _ h;obtain⟨r0,l,o,rfl,q1,q2,q3,q4⟩:=(h1:A8y P f _ _ r);exact⟨g3,r0,[(d,l)],Bf4 q1 q2 g2 q3 q4 d ob rfl g1,h2⟩
      ·exact h.elim
     ·exact h.elim
    |false=>
    rw[hb2]at h;simp only[Bw7,Ax]at h;have hg:=hg.2 (λe=>by subst e;cases hb) (λe=>by subst e;cases hb2);split at h
    ·rename_i m x hx;exact⟨hg.1,_,_,Bc5 hg hx h.1 h.2.1 h.2.2.1 ob,h.2.2.2⟩
    ·exact h.elim
  |none=>
   rw[hGf]at h;exact Axi hC ih hm L _ _ _ _ h
theorem A7t{G:Nat->Option (Nat×Nat)}{J:Nat->Bool}(hG:Aw5 P G)(hC:Dl P C)(hm:P.follows .mixedOrders=true)(L:Nat)(n:Nat):Qk P (evI P inl G J C L n):=by
 rw[Bfx];exact Bfw hG hC hm L n
theorem A0d(hC:Dl P C)(hX:Qk P X)(hm:P.follows .mixedOrders=true)(L:Nat){f:Nat}{fn:Func}(hf:P.funcs[f]? =some fn){ec:EC}(hc:cFn P inl fn=some ec)(args:List PV)(r:PV)
  (hn:Nat.ble args.length fn.ntmps=true)(h:Bcr P C X L fn.results.toList ec args (λp=>p=r)):W3 P f args r:=by
 have h:=(Axh h).2;unfold cFn at hc;cases hb:fn.body with
 |none=>rw[hb]at hc;cases hc
 |some c=>
  rw[hb]at hc;injection hc with hc
  intro w N vs hl hr hN hgl;refine calls_of_wp hf hb ?_;have h0:SH (λ(e:Empty)=>(e.elim:PV×Value)) (Gs.all w) N (λ_=> []) (λ_=>true) w N (λ_=>none):=
   ⟨Bel.of w _ rfl,⟨λ_ _=>rfl,hgl⟩,hN,(λd b n h=>by cases h),(λd d' b n n' h=>by cases h),λ_ _=>rfl,λk=>k.elim,
    (λkey s v ho=>by cases key with|slot k=>exact k.elim|cell d i=>obtain⟨b,n,p,h,_⟩:=ho;cases h),
    (λkey key' s s' v v' g ho=>by cases key with|slot k=>exact k.elim|cell d i=>obtain⟨b,n,p,h,_⟩:=ho;cases h),
    (λkey s v g d n ho=>by cases key with|slot k=>exact k.elim|cell d i=>obtain⟨b,n,p,h,_⟩:=ho;cases h)⟩
  refine A7s (cx:=λ(e:Empty)=>(e.elim:PV×Value)) (w0:=Gs.all w) (N:=N) (S:=λ_=>False) hC hX hm (λk=>k.elim) _ L c _ _ _ ec hc _ _ w N (λ_=>none) _ (λd hd=>hd.elim)
   (Bex (ob:= []) 0 h0 (λ_=>rfl) (λ_=>rfl) args vs hl hr (Nat.le_of_ble_eq_true hn)) h _ ?_
  intro e st' a' w' M' β' hk _ hS;have fin:W5 P st' fn.results.toList (Ara st'.obj λp=>p=r)->a'.defers= []/\∃v,(results fn a'.tmps).run P w'=.ok v w'/\∃u,Ending.returned v=.returned u/\B2 w' N (λ_=>none) (λ_=>False) r u/\Below w.heap.size w w':=by
   intro hk;obtain⟨ps,us,h1,h2,h3,h4,h5⟩:=A0a hS _ _ hk;have himm:∀x:Addr,imm M' x->imm N x:=λx hi n hn=>by
    have hx:=hN _ _ hn;exact hi n (by rw[hS.sh.mN _ hx];exact hn)
   have hmono:∀p v,B2 w' M' β' (Gs.all w).old p v->B2 w' N β' (Gs.all w).old p v:=λp v hp=>hp.ext (λx u hi hc=>⟨himm x hi,hc⟩) (λ_ _=>rfl) (λ_ _ h=>h);have hNb:∀x:Addr,¬(Gs.all w).old x.block->imm N x:=λx hx n hn=>absurd (hN _ _ hn) hx;have hbox:∀d b n,β' d=some (b,n)->¬(Gs.all w).old b/\Nm w' N β' (Gs.all w).old b n (st'.obj d):=λd b n hd=>
    ⟨(hS.sh.box d b n hd).1,(hS.sh.box d b n hd).2.2.ext rfl hmono⟩
   have hfin:∀p v,B2 w' M' β' (Gs.all w).old p v->B2 w' N (λ_=>none) (λ_=>False) (p.fin st'.obj) v:=λp v hp=>Br5 hNb hbox (hmono p v hp);refine⟨hS.defs,_,A0l h5,_,rfl,?_,hS.sh.dR.below⟩
   match ps,us,h1,h2,h4 with
   | [],[],h1,_,h4=>
    have h1':PV.bY []=r:=h1;rw[<-h1'];exact .bY [] [] rfl (λi p v hp=>by simp at hp)
   | [p],[u],h1,_,h4=>
    have h1':p.fin st'.obj=r:=h1;rw[<-h1'];exact hfin _ _ (h4 0 p u rfl rfl).1
   |p::q::ps,u::u'::us,h1,h2,h4=>
    have h1':PV.bY ((p::q::ps).map (PV.fin st'.obj))=r:=h1;rw[<-h1'];refine .bY _ _ (by simpa using h2.symm) (λi x v hx hv=>?_);rw[List.getElem?_map]at hx;cases hp:(p::q::ps)[i]? with
    |none=>rw[hp]at hx;cases hx
    |some y=>
     rw[hp]at hx;injection hx with hx
     subst hx;exact hfin _ _ (h4 i y v hp hv).1
  cases e with
  |normal=>exact fin hk
  |ret=>exact fin hk
  |exit i=>exact hk.elim
end
end Go.Proofs.YthjhkpgonleelaaGreatDoor.Ev
namespace Go.Proofs.YthjhkpgonleelaaGreatDoor.Ev
open Go Go.RowKit Go.ChangeShapes Go.WideShapes Go.ChangeAt
def A9k(P:Program)(tot:Nat):List Field->Nat->Bool
 | [],o=>Nat.beq o tot
 |f::r,o=>Nat.beq f.offset o && A9k P tot r (o+P.cellsOf f.type)
def Bb2(S:TypeId->List PV->Prop):List TypeId->List PV->Prop
 | [],l=>l= []
 |t::r,l=>∃a b,l=a++b/\S t a/\Bb2 S r b
def Shp(P:Program):Nat->TypeId->List PV->Prop
 |0,_,_=>False
 |n+1,t,l=>match P.underlying t with
  |some .bool=>∃b,l= [.val (.bool b)]
  |some (.int k)=>∃n,l= [.val (.int k n)]/\(Lit.int k n).wf=true
  |some .string=>∃s,l= [.val (.string s)]/\s.size<=maxLen
  |some (.slice e)=>∃x:LX,l= [.bA false x]/\x.e=e/\x.len<=maxLen/\∀i,i<x.len->Shp P n e (x.row i)
  |some (.struct fs)=>Bb2 (Shp P n) (fs.toList.map (·.type)) l
  |_=>False
def Bkj(t:Nat):List Nat->Bool
 | []=>false
 |a::r=>match Nat.beq a t with
  |true=>true
  |false=>Bkj t r
def Bu0(P:Program)(L:List Nat)(t:TypeId):Bool:=match P.underlying t with
 |some .bool=>true
 |some (.int _)=>true
 |some .string=>true
 |some (.slice e)=>Bkj e L && (LX.nil e).isSome
 |some (.struct fs)=>A9k P (P.cellsOf t) fs.toList 0 && fs.toList.all λf=>Bkj f.type L
 |_=>false
def Bdn(P:Program)(L:List Nat):Bool:=L.all (Bu0 P L)
theorem Av8{t:Nat} :∀ {L:List Nat},Bkj t L=true->t∈L
 | [],h=>by cases h
 |a::r,h=>by
  simp only[Bkj]at h;cases hb:Nat.beq a t with
  |true=>have:=Cn hb;subst this;simp
  |false=>rw[hb]at h;exact List.mem_cons_of_mem _ (Av8 h)
def A2p(P:Program)(L:List Nat):Prop:=∀(e n m:Nat) (f:Nat->List PV),e∈L->(LX.nil e).isSome=true->(∀i,i<m->Shp P n e (f i))->∃x:LX,x.e=e/\x.len=m/\x.sz=P.cellsOf e/\∀i,i<m->x.row i=f i
abbrev Blq(w:World)(p:PV)(v:Value):Prop:=B2 w (λ_=>none) (λ_=>none) (λb=>b<w.heap.size) p v
def Rd(w:World)(l:List PV)(cs:List Value):Prop:=
 l.length=cs.length/\∀(i:Nat) (p:PV) (v:Value),l[i]? =some p->cs[i]? =some v->Blq w p v/\v.oneCell'=true
theorem Rd.nil(w:World):Rd w [] []:=⟨rfl,λi p v h=>by simp at h⟩
theorem Rd.one{w:World}{p:PV}{v:Value}(h:Blq w p v)(h1:v.oneCell'=true):Rd w [p] [v]:=by
 refine⟨rfl,λi q u hq hu=>?_⟩;cases i with
 |zero=>simp at hq hu;subst hq;subst hu;exact⟨h,h1⟩
 |succ i=>simp at hq
theorem Rd.append{w:World}{l m:List PV}{cs ds:List Value}(h:Rd w l cs)(h':Rd w m ds):Rd w (l++m) (cs++ds):=by
 refine⟨by simp[h.1,h'.1],λi p v hp hv=>?_⟩;by_cases hi:i<l.length
 ·rw[List.getElem?_append_left hi]at hp;rw[List.getElem?_append_left (h.1 ▸ hi)]at hv;exact h.2 i p v hp hv
 ·rw[List.getElem?_append_right (by omega)]at hp;rw[List.getElem?_append_right (by have:=h.1;omega),<-h.1]at hv;exact h'.2 _ p v hp hv
section
variable {H:Type} {enc:TypeId×Value->H} {P:Program} {w:World} {base:Nat} {spare:Nat->Bool} {held:Bool} {L:List Nat}
end
def LeI(p q:PV):Prop:=∀(w:World) (M:T7) (β :Sk) (B:Nat->Prop) (v:Value),B2 w M β B p v->B2 w M β B q v
theorem W3.le{P:Program}{f:Nat}{args:List PV}{r r':PV}(h:W3 P f args r)(hr:LeI r r'):W3 P f args r':=
 λw N vs h1 h2 h3 h4=>(h w N vs h1 h2 h3 h4).mono λ_ _ ⟨v,e,hv,hb⟩=>⟨v,e,hr _ _ _ _ _ hv,hb⟩
theorem W3.args{P:Program}{f:Nat}{args args':List PV}{r:PV}(h:W3 P f args' r)(hl:args.length=args'.length)(ha:∀(i:Nat) (p q:PV),args[i]? =some p->args'[i]? =some q->LeI p q):W3 P f args r:=by
 intro w N vs h1 h2 h3 h4;refine h w N vs (by omega) (λi q v hq hv=>?_) h3 h4;have hi:i<args.length:=by have:=(List.getElem?_eq_some_iff.mp hq).1;omega
 exact ha i _ q (List.getElem?_eq_getElem hi) hq _ _ _ _ _ (h2 i _ v (List.getElem?_eq_getElem hi) hv)
theorem LeI.nil{y:LX}{own:Bool}(h:y.len=0):LeI (.val (.slice none 0 0)) (.bA own y):=λ_ _ _ _ _ hv=>hv.le (.nil own y h)
theorem LeI.view(p:PV):LeI p p.view:=λ_ _ _ _ _ hv=>hv.view
theorem LeI.refl(p:PV):LeI p p:=λ_ _ _ _ _ hv=>hv
section
variable {H:Type} {enc:TypeId×Value->H} {P:Program} {L:List Nat}
theorem Bgq{f:Func}{s:ChangeSpec}{apart fresh handsOn again:Bool}{W W':World}{args:Array Value}{v:Value}{ds gs:List (DataW H)}{before pa pv:List MemPlace}
  (hW:DataW.Whole enc P f.params.toList s.vars apart W args.toList ds gs before)
  (hres:∀(b:Nat) (sp:Nat->Bool) (hd:Bool),DataW.TrodAll enc P W' b sp hd f.resultTypes.toList (v.resultList f.resultTypes.size) (s.fn H (ds++gs)).results [])
  (hargs:∀sp:Nat->Bool,(∀p∈before,sp p.block=true)->DataW.TrodAll enc P W' 0 sp true f.params.toList args.toList (s.fn H (ds++gs)).args pa)
  (hvars:∀sp:Nat->Bool,(∀p∈before,sp p.block=true)->DataW.TrodVars enc P W' sp s.vars (s.fn H (ds++gs)).vars pv)
  (hps:before=pa++pv)(hb:Below W.heap.size W W')
  (hok:∀(j:Nat) (t:TypeId) (r:Value),f.resultTypes[j]? =some t->(v.resultList f.resultTypes.size)[j]? =some r->Value.okWide P W' .any 0 t r):
  s.post enc P f apart fresh handsOn again W args v W':=by
 have hlt:∀p∈before,p.block<W.heap.size:=λp hp=>hW.lt p hp;have hold:∀p∈before,(λb=>decide (b<W.heap.size)) p.block=true:=λp hp=>by simpa using hlt p hp
 refine⟨ds,gs,before,[],pa,pv,hW,hres _ _ _,hargs _ hold,hvars _ hold,World.keptBut_mono (λp hp=>⟨hp,?_⟩) (hb.frame (· ∈before)),λ_=>?_⟩
 ·rw[hps,List.mem_append]at hp;exact Or.inr hp
 ·obtain⟨_,_,_,_,_,hz,hn⟩:=hW;refine⟨hok,_,_,([]++pa)++pv,⟨[]++pa,pv,trodAll_append (hargs _ (λ_ _=>rfl)) (hres _ _ _),hvars _ (λ_ _=>rfl),rfl,?_,?_⟩,?_⟩
  ·intro b off hp;have hin:MemPlace.cell b off∈before:=by rw[hps];simpa using hp
   rw[hb.frozen (hlt _ hin)];exact hz b off hin
  ·intro ha;have:=hn ha;rw[hps]at this;simpa using this
  ·intro p hp _;rw[hps];simpa using hp
def Bxg(P:Program)(L:List Nat)(t:TypeId):Bool:=
 Bkj t L && P.readableRec t && decide (t<P.types.size)
theorem B7d{W:World}{r:Go.Reach}{base:Nat}{t:TypeId}{v:Value}(hk:Bu0 P L t=true)(hv:Value.okWide P W r base t v):
  (∃fs cs,P.underlying t=some (.struct fs)/\v=.agg cs)\/((∀fs,P.underlying t≠some (.struct fs))/\v.cells.toList= [v]/\v.oneCell'=true):=by
 unfold Bu0 at hk;cases hu:P.underlying t with
 |none=>rw[hu]at hk;cases hk
 |some d=>
  cases d
  case bool=>obtain⟨b,rfl⟩:=okWide_bool hu hv;exact .inr ⟨by simp,rfl,rfl⟩
  case int k=>obtain⟨b,rfl⟩:=okWide_int hu hv;exact .inr ⟨by simp,rfl,rfl⟩
  case string=>obtain⟨b,rfl⟩:=okWide_string hu hv;exact .inr ⟨by simp,rfl,rfl⟩
  case slice e=>obtain⟨a,l,c,rfl⟩:=okWide_slice hu hv;exact .inr ⟨by simp,rfl,rfl⟩
  case struct fs=>
   simp only[Value.okWide,hu]at hv;obtain⟨cs,rfl,_⟩:=hv;exact .inl ⟨_,cs,rfl,rfl⟩
  all_goals (rw[hu]at hk;cases hk)
theorem Bb7{W W':World}(hl:laidOutB P=true)(hb:Below W.heap.size W W'){sp:Nat->Bool} :
  ∀(ts:List TypeId) (vs:List Value) (ds:List (DataW H)) (ps:List MemPlace),(∀t∈ts,P.readableRec t=true/\t<P.types.size)->
   DataW.TrodAll enc P W 0 (λ_=>true) true ts vs ds ps->(∀p∈ps,p.block<W.heap.size)->(∀p∈ps,sp p.block=true)->
   DataW.TrodAll enc P W' 0 sp true ts vs ds ps
 | [],vs,ds,ps,_,h,_,_=>by
  obtain⟨rfl,rfl,rfl⟩:=trodAll_nil h;exact rfl
 |t::ts,vs,ds,ps,hk,h,hlt,hsp=>by
  obtain⟨v,vs',d,ds',p,q,rfl,rfl,rfl,h1,h2⟩:=trodAll_cons h;have ht:=hk t (by simp);exact trodAll_cons_mk (WideElems.Trod_stays hl ht.1 ht.2 h1 (λx hx=>hb.same (hlt x (by simp[hx]))) (λx hx=>hsp x (by simp[hx])))
   (Bb7 hl hb ts vs' ds' q (λt ht=>hk t (by simp[ht])) h2 (λx hx=>hlt x (by simp[hx])) (λx hx=>hsp x (by simp[hx])))
end
end Go.Proofs.YthjhkpgonleelaaGreatDoor.Ev
