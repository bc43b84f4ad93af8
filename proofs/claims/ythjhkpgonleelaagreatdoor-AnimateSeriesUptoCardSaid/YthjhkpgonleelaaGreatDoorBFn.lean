/-  Code, evaluated; functions; calls that are carried out in place. -/
import Derived.Test.YthjhkpgonleelaaGreatDoorBFV
namespace Go.Proofs.YthjhkpgonleelaaGreatDoor.Ev
open Go Go.RowKit
set_option linter.unusedVariables false
set_option linter.unusedSimpArgs false
set_option linter.unnecessarySimpa false
section
variable {ι :Type} {cx: ι→PV×Value} {P:Program} {C:Bt} {X:Inl} {inl:Nat→Bool} {w0:E9} {w:World} {N M:Px} {β :N0} {nt:Nat} {st:St} {a:Act}
theorem Ayb{S:Nat→Prop} :∀(V:List Nat) {st:St},SR cx w0 N nt st a w M β→x9 S st→SR cx w0 N nt (st.vwL V) a w M β∧x9 S (st.vwL V)
 | [],_,h,hs=>⟨h,hs⟩
 |t::r,_,h,hs=>Ayb r (h.drop t) (Ag4 hs _)
theorem A8r{S:Nat→Prop}(once:Nat)(V:List Nat){st:St}(h:SR cx w0 N nt st a w M β)(hs:x9 S st):SR cx w0 N nt (vwR once V st) a w M β∧x9 S (vwR once V st):=by
 unfold vwR
 split
 ·exact Ayb V h hs
 ·exact ⟨h,hs⟩
theorem A1i{L once:Nat}{V:List Nat}{l:List Gm}{st:St}{k:Ex→St→Prop}(h:f9 P C X L (Bcn once V l) st k):Jc P C X l.length l st (fun st'=>k .normal (vwR once V st')):=by
 unfold Bcn at h
 unfold vwR
 cases hb:Nat.testBit once 40007 with
 |true=>rw [hb] at h;exact h
 |false=>rw [hb] at h;exact h
theorem Awf(hC:Ed P C)(hX:Mj P X)(hm:P.follows .mixedOrders=true)(once:Nat)(L:Nat):∀(sz:Nat) (c:Code),SizeOf.sizeOf c < sz→∀ {ι :Type} (cx: ι→PV×Value) (w0:E9) (N:Px) (S:Nat→Prop) (hcx:∀i,E8 S (cx i).1) (V:List Nat) (out lt:Nat) (ec:EC),H4 P inl once nt V out lt c=ec→
  ∀(st:St) (a:Act) (w:World) (M:Px) (β :N0) (k:Ex→St→Prop),x9 S st→SR cx w0 N nt st a w M β→f9 P C X L ec st k→
  ∀(Q:Exit→Act→World→Prop),(∀e st' a' w' M' β',k e st'→x9 S st'→SR cx w0 N nt st' a' w' M' β'→Q (A29 e) a' w')→c.wp P Q a w:=by
 intro sz
 induction sz with
 |zero=>intro c h;exact absurd h (Nat.not_lt_zero _)
 |succ sz IH=>
 intro c hsz ι cx w0 N S hcx
 cases c with
 |skip=>
  intro V out lt ec hc st a w M β k hs h hk Q hQ
  subst hc
  exact wp_skip (hQ .normal st a w M β hk hs h)
 |region id os d=>
  intro V out lt ec hc st a w M β k hs h hk Q hQ
  simp only [H4] at hc
  cases hco:Agx P inl once os os.toList with
  |none=>rw [hco] at hc;subst hc;exact hk.elim
  |some l=>
   rw [hco] at hc
   simp only at hc
   cases hds:Vo nt l with
   |false=>rw [hds] at hc;subst hc;exact hk.elim
   |true=>
    rw [hds] at hc
    have hsel:∀eo∈l,∀o',eo.k= .scal o'→∀cs b,o'.op≠ .select cs b:=by
     intro eo hm o' hk'
     obtain ⟨i,hi,rfl⟩:=List.getElem_of_mem hm
     obtain ⟨e1,e2⟩:=Vm _ _ hco
     obtain ⟨eo',q1,q2,_⟩:=e2 i (os.toList[i]'(by omega)) (List.getElem?_eq_getElem (by omega))
     rw [List.getElem?_eq_getElem hi] at q1
     injection q1 with q1
     rw [q1] at hk'
     exact Aqs q2 o' hk'
    cases d with
    |false=>
     obtain ⟨st0,M0,β0,hs0,h0,hk⟩:∃st0 M0 β0,x9 S st0∧SR cx w0 N nt st0 a w M0 β0∧Jc P C X l.length l st0 (fun st'=>k .normal (vwR once V st')):=by
      cases hfb:Nat.testBit once 40003 with
      |true=>
       rw [hfb] at hc
       subst hc
       obtain ⟨M0,β0,h0,hs0⟩:=SR.frzL hcx (A5r l.reverse (Bkq once V)) h hs
       exact ⟨_,M0,β0,hs0,h0,A1i (st:=st.frzL _) hk⟩
      |false=>
       rw [hfb] at hc
       subst hc
       exact ⟨st,M,β,hs,h,A1i hk⟩
     obtain ⟨st1,st',h1,h2,h3⟩:=Aie hC hX _ l st0 st0 _ hsel (.refl _) hk
     have hs':x9 S st':=Adl (Amc h1 hs0) h2.symm
     refine wp_region ?_
     obtain ⟨hlen,hsp⟩:=Vm _ _ hco
     have:=Af0 (Q:=Q) (os:=os) (inl:=inl) (once:=once) (nt:=nt) h1 0 os.size (by omega) (by rw [hlen];simp) (fun j eo hj=>by
      have hjl:j < os.size:=by have:=(List.getElem?_eq_some_iff.1 hj).1;rw [hlen] at this;simpa using this
      have ho:os[j]? =some os[j]:=Array.getElem?_eq_getElem hjl
      obtain ⟨eo',g1,g2,g3,g4⟩:=hsp j os[j] (by simp [ho])
      rw [hj] at g1;injection g1 with g1;subst g1
      exact ⟨os[j],by rw [Nat.zero_add];exact ho,g2,g3,g4,fun x hx=>Adg l hds eo (List.mem_of_getElem? hj) x (by rw [g3];exact hx)⟩) a w M0 β0 h0 (fun a' w' M' β' h'=>by
       rw [hlen]
       simp only [Array.length_toList,Nat.sub_self]
       exact hQ .normal _ a' w' M' β' h3 (A8r once V (h'.equiv h2.symm) hs').2 (A8r once V (h'.equiv h2.symm) hs').1)
     rw [List.range_eq_range']
     exact this
    |true=>
     simp only at hc
     have key:(∃ap,Afe ap os.toList l=true∧ec= .region (Yq l) ap l)∨ec= .stop:=by
      cases hdr:Afe [] os.toList l with
      |true=>
       rw [hdr] at hc
       exact .inl ⟨[],hdr,hc.symm⟩
      |false=>
       rw [hdr] at hc
       simp only at hc
       cases hdr2:Afe (Ajw l l) os.toList l with
       |false=>rw [hdr2] at hc;exact .inr hc.symm
       |true=>
        rw [hdr2] at hc
        exact .inl ⟨_,hdr2,hc.symm⟩
     rcases key with ⟨ap,hdr,rfl⟩|rfl
     rotate_left
     ·exact hk.elim
     simp only [f9] at hk
     cases hap:Abn st ap with
     |false=>rw [hap] at hk;exact hk.elim
     |true=>
      rw [hap] at hk
      simp only at hk
      obtain ⟨δs,st1,st',h1,h2,h3⟩:=Aow hC hX l st st _ hsel (.refl _) hk
      have hs':x9 S st':=Adl (by rw [h1.last];exact A99 _ _ _ hs) h2.symm
      refine wp_region_any hm ?_
      have hrep:∀i,(Array.replicate os.size false).getD i false=false:=fun i=>by
       rw [Array.getD_eq_getD_getElem?,Array.getElem?_replicate];split<;>rfl
      refine Av9 (Q:=Q) hap h1 hco hds hdr (fun a' w' M' β' h'=>hQ .normal st' a' w' M' β' h3 hs' (h'.equiv h2.symm)) os.size _ (by simp) ?_ ?_ a _ M β ?_
      ·rw [List.filter_eq_self.2 (fun i _=>by rw [hrep];rfl)];simp
      ·intro j o ho hj;rw [hrep] at hj;cases hj
      ·rw [show Nz δs (Nh (Array.replicate os.size false)) st=st from Ad0 _ _ _ (fun i _=>hrep i)];exact h.drawn
 |seq x y=>
  have ihx:= @IH x (by have:=hsz;simp only [Code.seq.sizeOf_spec] at this;omega) ι cx w0 N S hcx
  have ihy:= @IH y (by have:=hsz;simp only [Code.seq.sizeOf_spec] at this;omega) ι cx w0 N S hcx
  intro V out lt ec hc st a w M β k hs h hk Q hQ
  subst hc
  cases hrp:Au0 x y with
  |none=>
   rw [Aqr hrp] at hk
   dsimp only [f9] at hk
   refine wp_seq (ihx _ _ _ _ rfl st a w M β _ hs h hk _ ?_)
   intro e st' a' w' M' β' hk' hs' h'
   cases e with
   |normal=>
    cases hb:Acd y with
    |true=>
     rw [hb] at hk'
     exact ihy _ _ _ _ rfl st' a' w' M' β' k hs' h' hk' Q hQ
    |false=>
     rw [hb] at hk'
     have hlive:∀d,S d→A9 d (Cj st')=false:=fun d hd=>by
      have:=(hs' d hd).1
      cases hn:A9 d (Cj st') with
      |false=>rfl
      |true=>
       have h1:=(Bq _ _).1 hn
       have h2:A9 d (st'.ob.map Prod.fst)=true:=(Bq _ _).2 (fun hm=>h1 ((Ri _ _).2 hm))
       rw [h2] at this;cases this
     have hskeep:∀keys,x9 S (keep keys (Cj st') st'):=fun keys d hd=>by
      have e:(keep keys (Cj st') st').ob.map Prod.fst=Cj st':=by
       show ((Cj st').map fun d=>(d,_)).map Prod.fst=Cj st'
       rw [List.map_map]
       exact List.map_id' (Cj st')
      rw [e];exact ⟨hlive d hd,(hs' d hd).2⟩
     exact ihy _ _ _ _ rfl _ a' w' M' _ k (Adl (hskeep _) (Xq _ _ _).symm) ((h'.keep hcx _ (Cj st') hlive).equiv (Xq _ _ _).symm) hk' Q hQ
   |exit i=>exact hQ (.exit i) st' a' w' M' β' hk' hs' h'
   |ret=>exact hQ .ret st' a' w' M' β' hk' hs' h'
  |some p=>
   rw [Ay3 hrp] at hk
   unfold Au0 at hrp
   split at hrp
   ·rename_i id1 os1 o id2 os2 mo o' n id3 os3 code
    split at hrp
    ·rename_i hoo
     have hoo:=Ck hoo
     subst hoo
     obtain ⟨i1,i2,i3,i4,_,_,_,_,⟨t3,p3,a3,j3⟩⟩:=Apf hrp
     unfold Axb at hk
     split at hk
     ·rename_i keys v hpj
      split at hk
      ·rename_i l1 l3 hc1 hc3
       split at hk
       ·rename_i hchk
        simp only [Bool.and_eq_true,Bool.not_eq_true'] at hchk
        obtain ⟨⟨⟨⟨⟨⟨⟨c1,c2⟩,c3⟩,c4⟩,c5⟩,c6⟩,c7⟩,c8⟩:=hchk
        have hlt:∀ {a b:Nat},Nat.blt a b=true→a < b:=fun {a b} h=>Nat.le_of_ble_eq_true h
        rw [i1] at hc1
        rw [i2] at hc3
        obtain ⟨V',out',lt',hv⟩:=A7c hpj
        have hcode:A4f P C X L nt code v:=by
         intro ι' cx' w0' N' S' hcx' st a w M β k hs h hk Q hQ
         have ihc:= @IH code (by have:=hsz;simp only [Code.seq.sizeOf_spec,Code.block.sizeOf_spec,Code.loop.sizeOf_spec] at this;omega) ι' cx' w0' N' S' hcx'
         rcases hv with ⟨_,rfl⟩|⟨ks,rfl⟩
         ·exact ihc V' out' lt' _ rfl st a w M β k hs h hk Q hQ
         ·dsimp only [f9,Bz] at hk
          have hlive:∀d,S' d→A9 d (Cj st)=false:=fun d hd=>by
           have:=(hs d hd).1
           cases hn:A9 d (Cj st) with
           |false=>rfl
           |true=>
            have h1:=(Bq _ _).1 hn
            have h2:A9 d (st.ob.map Prod.fst)=true:=(Bq _ _).2 (fun hm=>h1 ((Ri _ _).2 hm))
            rw [h2] at this;cases this
          have hskeep:∀keys,x9 S' (keep keys (Cj st) st):=fun keys d hd=>by
           have e:(keep keys (Cj st) st).ob.map Prod.fst=Cj st:=by
            show ((Cj st).map fun d=>(d,_)).map Prod.fst=Cj st
            rw [List.map_map]
            exact List.map_id' (Cj st)
           rw [e];exact ⟨hlive d hd,(hs d hd).2⟩
          exact ihc V' out' lt' _ rfl _ a w M _ k (Adl (hskeep _) (Xq _ _ _).symm) ((h.keep hcx' _ (Cj st) hlive).equiv (Xq _ _ _).symm) hk Q hQ
        exact A3s hC hX hcx hrp hc1 c1 (A9d hC hX j3 hc3 c2 hcode) c8 (hlt c3) (hlt c4) (hlt c5) (hlt c6) c7 hs h hk hQ
       ·exact hk.elim
      ·exact hk.elim
     ·exact hk.elim
    ·cases hrp
   ·cases hrp
 |cond c x y=>
  have ihx:= @IH x (by have:=hsz;simp only [Code.cond.sizeOf_spec] at this;omega) ι cx w0 N S hcx
  have ihy:= @IH y (by have:=hsz;simp only [Code.cond.sizeOf_spec] at this;omega) ι cx w0 N S hcx
  intro V out lt ec hc st a w M β k hs h hk Q hQ
  subst hc
  simp only [H4,f9] at hk
  have hr:=h.opd c
  split at hk
  ·rename_i t hq
   rw [hq] at hr
   have hv:a.eval c= .bool t:=hr.val_eq
   cases t with
   |true=>exact wp_cond_true hv (ihx _ _ _ _ rfl st a w M β k hs h hk Q hQ)
   |false=>exact wp_cond_false hv (ihy _ _ _ _ rfl st a w M β k hs h hk Q hQ)
  ·exact hk.elim
 |block id b=>
  have ih:= @IH b (by have:=hsz;simp only [Code.block.sizeOf_spec] at this;omega) ι cx w0 N S hcx
  intro V out lt ec hc st a w M β k hs h hk Q hQ
  subst hc
  refine wp_block (ih _ _ _ _ rfl st a w M β _ hs h hk _ ?_)
  intro e st' a' w' M' β' hk' hs' h'
  cases e with
  |normal=>exact hQ .normal st' a' w' M' β' hk' hs' h'
  |ret=>exact hQ .ret st' a' w' M' β' hk' hs' h'
  |exit i=>
   simp only [A29,Exit.inBlock]
   by_cases e:i=id
   ·subst e
    rw [if_pos rfl]
    simp only [Bs,Nat.beq_refl] at hk'
    exact hQ .normal st' a' w' M' β' hk' hs' h'
   ·rw [if_neg e]
    have hb:Nat.beq i id=false:=by
     cases hb:Nat.beq i id with
     |false=>rfl
     |true=>exact absurd (Ck hb) e
    simp only [Bs,hb] at hk'
    exact hQ (.exit i) st' a' w' M' β' hk' hs' h'
 |loop b=>
  have ih:= @IH b (by have:=hsz;simp only [Code.loop.sizeOf_spec] at this;omega) ι cx w0 N S hcx
  intro V out lt ec hc st a w M β k hs h hk Q hQ
  have key0:∃(ec0:EC) (st0:St),(match Nat.testBit once 40004 with
    |true=> .loopU (Hm nt V out (Eu b)) (H4 P inl once nt (V++Hm nt V out (Eu b)) out (lt ||| Eu b) b)
    |false=> .loop (Hm nt V out (Eu b)) (H4 P inl once nt (V++Hm nt V out (Eu b)) out (lt ||| Eu b) b))=ec0∧x9 S st0∧SR cx w0 N nt st0 a w M β∧f9 P C X L ec0 st0 k:=by
   subst hc
   have hk:f9 P C X L (Aha once V (match Nat.testBit once 40004 with
    |true=> .loopU (Hm nt V out (Eu b)) (H4 P inl once nt (V++Hm nt V out (Eu b)) out (lt ||| Eu b) b)
    |false=> .loop (Hm nt V out (Eu b)) (H4 P inl once nt (V++Hm nt V out (Eu b)) out (lt ||| Eu b) b))) st k:=hk
   unfold Aha at hk
   split at hk
   ·obtain ⟨q1,q2⟩:=Ayb V h hs
    exact ⟨_,_,rfl,q2,q1,hk⟩
   ·exact ⟨_,_,rfl,hs,h,hk⟩
  clear hk hs h hc
  obtain ⟨ec,st,hc,hs,h,hk⟩:=key0
  refine wp_loop_rounds L ?_
  cases hfl:Nat.testBit once 40004 with
  |true=>
   rw [hfl] at hc
   subst hc
   simp only [f9] at hk
   generalize hkeys:Hm nt V out (Eu b)=keys at hk
   have key:∀(n:Nat) (st:St) (a:Act) (w:World) (M:Px) (β :N0),x9 S st→SR cx w0 N nt st a w M β→Amh (f9 P C X L (H4 P inl once nt (V++keys) out (lt ||| Eu b) b)) keys n st k→Code.rounds P b Q n a w:=by
    intro n
    induction n with
    |zero=>intro st a w M β _ _ hk;exact hk.elim
    |succ n ihn=>
     intro st a w M β hs h hk
     rw [rounds_succ]
     refine ih _ _ _ _ rfl st a w M β _ hs h hk _ ?_
     intro e st' a' w' M' β' hk' hs' h'
     cases e with
     |normal=>
      have hlive:∀d,S d→A9 d (Cj st')=false:=fun d hd=>by
       have:=(hs' d hd).1
       cases hn:A9 d (Cj st') with
       |false=>rfl
       |true=>
        have h1:=(Bq _ _).1 hn
        have h2:A9 d (st'.ob.map Prod.fst)=true:=(Bq _ _).2 (fun hm=>h1 ((Ri _ _).2 hm))
        rw [h2] at this;cases this
      have hskeep:x9 S (keep keys (Cj st') st'):=fun d hd=>by
       have e:(keep keys (Cj st') st').ob.map Prod.fst=Cj st':=by
        show ((Cj st').map fun d=>(d,_)).map Prod.fst=Cj st'
        rw [List.map_map]
        exact List.map_id' (Cj st')
       rw [e];exact ⟨hlive d hd,(hs' d hd).2⟩
      exact ihn _ a' w' M' _ (Adl hskeep (Xq _ _ _).symm) ((h'.keep hcx _ (Cj st') hlive).equiv (Xq _ _ _).symm) hk'
     |exit i=>exact hQ (.exit i) st' a' w' M' β' hk' hs' h'
     |ret=>exact hQ .ret st' a' w' M' β' hk' hs' h'
   exact key L st a w M β hs h hk
  |false=>
  rw [hfl] at hc
  subst hc
  have hlive:∀d,S d→A9 d (Cj st)=false:=fun d hd=>by
   have:=(hs d hd).1
   cases hn:A9 d (Cj st) with
   |false=>rfl
   |true=>
    have h1:=(Bq _ _).1 hn
    have h2:A9 d (st.ob.map Prod.fst)=true:=(Bq _ _).2 (fun hm=>h1 ((Ri _ _).2 hm))
    rw [h2] at this;cases this
  simp only [f9] at hk
  generalize Cj st=live at hk hlive
  have hskeep:∀keys (s:St),x9 S s→x9 S (keep keys live s):=fun keys s hs d hd=>by
   have e:(keep keys live s).ob.map Prod.fst=live:=by
    show (live.map fun d=>(d,_)).map Prod.fst=live
    rw [List.map_map]
    exact List.map_id' live
   rw [e];exact ⟨hlive d hd,(hs d hd).2⟩
  generalize hkeys:Hm nt V out (Eu b)=keys at hk
  have key:∀(n:Nat) (st:St) (a:Act) (w:World) (M:Px) (β :N0),x9 S st→SR cx w0 N nt st a w M β→Kj (f9 P C X L (H4 P inl once nt (V++keys) out (lt ||| Eu b) b)) keys live n st k→Code.rounds P b Q n a w:=by
   intro n
   induction n with
   |zero=>intro st a w M β _ _ hk;exact hk.elim
   |succ n ihn=>
    intro st a w M β hs h hk
    rw [rounds_succ]
    refine ih _ _ _ _ rfl st a w M β _ hs h hk _ ?_
    intro e st' a' w' M' β' hk' hs' h'
    cases e with
    |normal=>exact ihn _ a' w' M' _ (hskeep _ _ hs') (h'.keep hcx _ live hlive) hk'
    |exit i=>exact hQ (.exit i) _ a' w' M' _ hk' (hskeep _ _ hs') (h'.keep hcx _ live hlive)
    |ret=>exact hQ .ret _ a' w' M' _ hk' (hskeep _ _ hs') (h'.keep hcx _ live hlive)
  exact key L _ a w M _ (hskeep _ _ hs) (h.keep hcx _ live hlive) hk
 |exit id=>
  intro V out lt ec hc st a w M β k hs h hk Q hQ
  subst hc
  exact wp_exit (hQ (.exit id) st a w M β hk hs h)
 |ret=>
  intro V out lt ec hc st a w M β k hs h hk Q hQ
  subst hc
  exact wp_ret (hQ .ret st a w M β hk hs h)
 |rangeFunc=>intro V out lt ec hc st a w M β k hs h hk;subst hc;exact hk.elim
 |scope=>intro V out lt ec hc st a w M β k hs h hk;subst hc;exact hk.elim
 |label=>intro V out lt ec hc st a w M β k hs h hk;subst hc;exact hk.elim
 |goto=>intro V out lt ec hc st a w M β k hs h hk;subst hc;exact hk.elim
 |refuse=>intro V out lt ec hc st a w M β k hs h hk;subst hc;exact hk.elim
theorem Aou(hC:Ed P C)(hX:Mj P X)(hm:P.follows .mixedOrders=true){S:Nat→Prop}(hcx:∀i,E8 S (cx i).1)(once:Nat)(L:Nat):∀(c:Code) (V:List Nat) (out lt:Nat) (ec:EC),H4 P inl once nt V out lt c=ec→
  ∀(st:St) (a:Act) (w:World) (M:Px) (β :N0) (k:Ex→St→Prop),x9 S st→SR cx w0 N nt st a w M β→f9 P C X L ec st k→
  ∀(Q:Exit→Act→World→Prop),(∀e st' a' w' M' β',k e st'→x9 S st'→SR cx w0 N nt st' a' w' M' β'→Q (A29 e) a' w')→c.wp P Q a w:=
 fun c=>Awf hC hX hm once L _ c (Nat.lt_succ_self _) cx w0 N S hcx
def Ajn(a:Act):ResultVar→Sem Value
 | .tmp t=>pure (a.tmps.getD t undef)
 | .cell b t=>do loadVar t (←asAddr (a.tmps.getD b undef))
theorem Al6:∀(rs:List ResultVar) (k:List PV→Prop),R9 P st rs k→∃l,k l∧∀k':List PV→Prop,k' l→R9 P st rs k':=by
 intro rs
 induction rs with
 |nil=>intro k h;exact ⟨[],h,fun k' h'=>h'⟩
 |cons x rs ih=>
  intro k h
  cases x with
  |tmp t=>
   simp only [R9] at h ⊢
   obtain ⟨l,h1,h2⟩:=ih _ h
   exact ⟨_,h1,fun k' hk=>h2 (fun l=>k' (st.get t::l)) hk⟩
  |cell b t=>
   simp only [R9] at h ⊢
   split at h
   ·split at h
    ·obtain ⟨l,h1,h2⟩:=ih _ h
     exact ⟨_,h1,fun k' hk=>h2 (fun l=>k' (_::l)) hk⟩
    ·obtain ⟨l,h1,h2⟩:=ih _ h
     exact ⟨_,h1,fun k' hk=>h2 (fun l=>k' (_::l)) hk⟩
    ·exact h.elim
   ·exact h.elim
theorem Aj9(h:SR cx w0 N nt st a w M β):∀(rs:List ResultVar) (k:List PV→Prop),R9 P st rs k→∃(ps:List PV) (vs:List Value),k ps∧vs.length=ps.length∧ps.length=rs.length∧
  (∀(i:Nat) (p:PV) (v:Value),ps[i]? =some p→vs[i]? =some v→B1 w M β w0.old p v∧((∃t,p=st.get t∧v=a.tmps.getD t undef)∨∀s,p.sv=some s→s.own=false))∧
  (rs.mapM (Ajn a)).run P w= .ok vs w:=by
 intro rs
 induction rs with
 |nil=>intro k hk;exact ⟨[],[],hk,rfl,rfl,fun i p v hp=>by simp at hp,rfl⟩
 |cons x rs ih=>
  intro k hk
  cases x with
  |tmp t=>
   obtain ⟨ps,vs,h1,h2,h3,h4,h5⟩:=ih _ hk
   refine ⟨_,a.tmps.getD t undef::vs,h1,by simp [h2],by simp [h3],fun i p v hp hv=> ?_,?_⟩
   ·cases i with
    |zero=>
     rw [List.getElem?_cons_zero] at hp hv
     injection hp with hp;injection hv with hv
     subst hp;subst hv;exact ⟨h.reg t,.inl ⟨t,rfl,rfl⟩⟩
    |succ i=>exact h4 i p v (by simpa using hp) (by simpa using hv)
   ·simp only [List.mapM_cons,Ajn,Sem.run_bind,Sem.run_pure,Result.andThen_ok,h5]
  |cell b t=>
   simp only [R9] at hk
   cases hq:st.get b with
   |loc d off=>
    cases hs:szT P t with
    |none=>rw [hq,hs] at hk;exact hk.elim
    |some sz=>
     cases hu:P.underlying t with
     |none=>rw [hq,hs,hu] at hk;exact hk.elim
     |some td=>
      rw [hq,hs,hu] at hk
      simp only at hk
      have hreg:=h.reg b
      rw [hq] at hreg
      obtain ⟨bb,n,hb,hv⟩:=u6 hreg
      have fin:∀(pv:PV),(Gq P t=false→sz=1)→(Sb ((st.obj d).drop off) sz && plain (((st.obj d).drop off).take sz))=true→pv=X6 (Gq P t) (((st.obj d).drop off).take sz)→
        R9 P st rs (fun l=>k (pv::l))→∃(ps:List PV) (vs:List Value),k ps∧vs.length=ps.length∧ps.length=(ResultVar.cell b t::rs).length∧
        (∀(i:Nat) (p:PV) (v:Value),ps[i]? =some p→vs[i]? =some v→B1 w M β w0.old p v∧((∃t,p=st.get t∧v=a.tmps.getD t undef)∨∀s,p.sv=some s→s.own=false))∧
        ((ResultVar.cell b t::rs).mapM (Ajn a)).run P w= .ok vs w:=by
       intro pv hsz hl hpv hk
       simp only [Bool.and_eq_true] at hl
       obtain ⟨v,hrun,hr⟩:=A1c (B:=w0.old) (l:=((st.obj d).drop off).take sz) hu hs hsz (by rw [List.length_take];have:=(Qx _ _).1 hl.1;omega) (h.cellsAt hb (fun i p hp=>u4 hp) hl.2)
       obtain ⟨ps,vs,h1,h2,h3,h4,h5⟩:=ih _ hk
       refine ⟨_,v::vs,h1,by simp [h2],by simp [h3],fun i p u hp hu=> ?_,?_⟩
       ·cases i with
        |zero=>simp at hp hu;subst hp;subst hu;rw [hpv];exact ⟨hr,.inr (Ab3 _ _)⟩
        |succ i=>exact h4 i p u (by simpa using hp) (by simpa using hu)
       ·simp only [List.mapM_cons,Ajn,Sem.run_bind,Sem.run_pure,Result.andThen_ok,hv,asAddr,hrun,h5]
      cases g1:Gq P t<;>cases g2:Nat.beq sz 1<;>cases g3:(Sb ((st.obj d).drop off) sz && plain (((st.obj d).drop off).take sz))<;>simp only [g1,g2,g3] at hk fin
      ·exact fin _ (fun _=>Ck g2) trivial rfl hk
      ·exact fin _ (fun e=>by cases e) trivial rfl hk
      ·exact fin _ (fun e=>by cases e) trivial rfl hk
   |_=>rw [hq] at hk;exact hk.elim
theorem Akg{fn:Func}{us:List Value}(h5:(fn.results.toList.mapM (Ajn a)).run P w= .ok us w):(results fn a.tmps).run P w= .ok (if h:us.length=1 then us[0] else .tuple us.toArray) w:=by
 have e:results fn a.tmps=(do let vs←fn.results.mapM (Ajn a);pure (if h:vs.size=1 then vs[0] else .tuple vs)):=rfl
 rw [e,Array.mapM_eq_mapM_toList]
 simp only [Sem.run_bind,Sem.run_map]
 rw [h5]
 simp only [Result.andThen_ok,Sem.run_pure]
 by_cases hu:us.length=1
 ·simp [hu]
 ·simp [hu]
theorem Axf(sz:Nat):∀(n:Nat) (l:List PV) (i:Nat),i < n→(Ajo sz n l)[i]? =some ((l.drop (i*sz)).take sz):=by
 intro n
 induction n with
 |zero=>intro l i h;omega
 |succ n ih=>
  intro l i h
  simp only [Ajo]
  cases i with
  |zero=>simp
  |succ i=>
   rw [List.getElem?_cons_succ,ih _ _ (by omega),List.drop_drop]
   congr 3
   rw [Nat.add_mul];omega
theorem Axg(sz:Nat):∀(n:Nat) (l:List PV),(Ajo sz n l).length=n:=by
 intro n
 induction n with
 |zero=>intro l;rfl
 |succ n ih=>intro l;simp only [Ajo,List.length_cons,ih]
theorem A5m{w0s:Nat→Prop}{O:Nat→List PV}(hN:∀x:Addr,¬w0s x.block→imm N x)(hbox:∀d b n,β d=some (b,n)→¬w0s b∧Ky w N β w0s b n (O d)):∀(m:Nat) {p:PV} {v:Value},B1 w N β w0s p v→B1 w N (fun _=>none) (fun _=>False) (p.finN O m) v:=by
 intro m
 induction m with
 |zero=>intro p v h;exact h.pure0
 |succ m ih=>
 intro p v h
 unfold PV.finN
 split
 ·rename_i c d e sz n
  obtain ⟨b,cp,hb,hc,rfl⟩:=A2e h
  obtain ⟨hb1,hob⟩:=hbox d b n hb
  split
  ·rename_i x hO
   split
   ·rename_i g1
    have e:=Ck g1
    subst e
    obtain ⟨cs,t,q1,q2,q3,q4⟩:=Aqm hob hO
    refine Y5 (s:=⟨false,x.e,x.sz,x.len,x.row⟩) rfl q2.symm q1 hc (fun i _=>LX.row_len _ _) (fun i _=>hN _ hb1) (fun i j q hi hq=> ?_)
    have hj:j < x.sz:=by have:=(List.getElem?_eq_some_iff.1 hq).1;rw [LX.row_len] at this;exact this
    have hm:(i+1)*x.sz≤n*x.sz:=Nat.mul_le_mul_right _ hi
    rw [Nat.add_mul,Nat.one_mul] at hm
    have hv:cs[i*x.sz+j]? =some (cs[i*x.sz+j]'(by omega)):=Array.getElem?_eq_getElem (by omega)
    obtain ⟨r1,r2⟩:=q4 i j q _ hi hq hv
    exact ⟨_,hv,r1.flat (LX.row_flat _ _ _ (List.mem_of_getElem? hq)),r2⟩
   ·exact .any _
  ·split
   ·rename_i x hlit hlen
    split
    ·rename_i g1
     have e1:=Ck g1
     simp only [Bool.and_eq_true] at hlen
     have hlen':=(Zk _ _).1 hlen.1
     obtain ⟨l1,l2,l3⟩:=LX.lit_spec _ _ _ hlit
     rw [Axg] at l2
     have hob':∃cs t,w.heap[b]? =some (.cells cs t (0,0))∧(n*sz≤cs.size)∧∀(i:Nat) (p:PV) (v:Value),i < n*sz→(O d)[i]? =some p→cs[i]? =some v→B1 w N (fun _=>none) (fun _=>False) (p.finN O m) v∧v.oneCell'=true:=by
      obtain ⟨cs,t,q1,q2,q3⟩:=Np hob hlen.2
      exact ⟨cs,t,q1,by omega,fun i p v _ hp hv=>⟨ih (q3 i p v hp hv).1,(q3 i p v hp hv).2⟩⟩
     obtain ⟨cs,t,q1,q2,q3⟩:=hob'
     refine Y5 (s:=⟨false,x.e,x.sz,x.len,x.row⟩) rfl l2.symm q1 hc (fun i _=>LX.row_len _ _) (fun i _=>hN _ hb1) (fun i j q hi hq=> ?_)
     have hj:j < x.sz:=by have:=(List.getElem?_eq_some_iff.1 hq).1;rw [LX.row_len] at this;exact this
     have hm:(i+1)*sz≤n*sz:=Nat.mul_le_mul_right _ hi
     rw [Nat.add_mul,Nat.one_mul] at hm
     obtain ⟨p0,hp0,hle⟩:=(l3 i _ (Axf sz n _ i hi)).get.2 j q hq
     have hp1:=u4 hp0
     rw [List.getElem?_map] at hp1
     obtain ⟨p1,hp2,rfl⟩:=Option.map_eq_some_iff.1 hp1
     rw [←e1] at hj ⊢
     have hv:cs[i*sz+j]? =some (cs[i*sz+j]'(by omega)):=Array.getElem?_eq_getElem (by omega)
     obtain ⟨r1,r2⟩:=q3 _ p1 _ (by omega) hp2 hv
     exact ⟨_,hv,r1.le hle,r2⟩
    ·exact .any _
   ·exact .any _
  ·exact .any _
 ·exact h.pure0
theorem Al8{w0s:Nat→Prop}{O:Nat→List PV}(hN:∀x:Addr,¬w0s x.block→imm N x)(hbox:∀d b n,β d=some (b,n)→¬w0s b∧Ky w N β w0s b n (O d)){p:PV}{v:Value}(h:B1 w N β w0s p v):
  B1 w N (fun _=>none) (fun _=>False) (p.fin1 O) v:=A5m hN hbox 3 h
theorem A9t{w0s:Nat→Prop}{O:Nat→List PV}(hN:∀x:Addr,¬w0s x.block→imm N x)(hbox:∀d b n,β d=some (b,n)→¬w0s b∧Ky w N β w0s b n (O d)){p:PV}{v:Value}(h:B1 w N β w0s p v):
  B1 w N (fun _=>none) (fun _=>False) (p.fin O) v:=by
 cases p with
 |agg l=>
  cases h with
  |row p s hs=>cases hs
  |agg l cs hl h1 hr=>
   refine .agg _ cs (by rw [List.length_map,hl]) h1 (fun i q u hq hu=> ?_)
   rw [List.getElem?_map] at hq
   cases hp:l[i]? with
   |none=>rw [hp] at hq;cases hq
   |some p=>
    rw [hp] at hq
    injection hq with hq
    subst hq
    exact Al8 hN hbox (hr i p u hp hu)
 |tup l=>
  cases h with
  |row p s hs=>cases hs
  |tup l cs hl hr=>
   refine .tup _ cs (by rw [List.length_map,hl]) (fun i q u hq hu=> ?_)
   rw [List.getElem?_map] at hq
   cases hp:l[i]? with
   |none=>rw [hp] at hq;cases hq
   |some p=>
    rw [hp] at hq
    injection hq with hq
    subst hq
    exact Al8 hN hbox (hr i p u hp hu)
 |sl own e sz es=>
  cases h with
  |row p s hs a c vs hc hsz ha hm hr=>
   injection hs with hs;subst hs
   have hf:∀i,i < es.length→(es.map fun r=>r.map PV.pure0).getD i []=(es.getD i []).map PV.pure0:=fun i hi=>by
    simp [List.getD,hi]
   have:=B1.row (w:=w) (M:=N) (β :=fun _=>none) (B:=fun _=>False) (.sl false e sz (es.map fun r=>r.map PV.pure0)) ⟨false,e,sz,(es.map fun r=>r.map PV.pure0).length,fun i=>(es.map fun r=>r.map PV.pure0).getD i []⟩ rfl a c vs
    (by simpa using hc) (fun i hi=>by
     simp only [List.length_map] at hi
     show ((es.map fun r=>r.map PV.pure0).getD i []).length=sz
     rw [hf i hi,List.length_map];exact hsz i hi) (fun i hi=>ha i (by simpa using hi))
    (fun ad i j q had hi hq=>by
     simp only [List.length_map] at hi
     have hq':((es.map fun r=>r.map PV.pure0).getD i [])[j]? =some q:=hq
     rw [hf i hi] at hq'
     obtain ⟨p,hp,rfl⟩:=L8 hq'
     exact hm ad i j p had hi hp)
    (fun i j q hi hq=>by
     simp only [List.length_map] at hi
     have hq':((es.map fun r=>r.map PV.pure0).getD i [])[j]? =some q:=hq
     rw [hf i hi] at hq'
     obtain ⟨p,hp,rfl⟩:=L8 hq'
     exact (hr i j p hi hp).pure0)
   simp only [List.length_map] at this
   exact this
 |_=>exact Al8 hN hbox h
theorem Awm:∀(l:List PV) (i s:Nat),Db .any (Yc i l) s=if i≤s then (match l[s - i]? with|some p=>p.view|none=> .any) else .any:=by
 intro l
 induction l with
 |nil=>intro i s;simp [Yc,Db]
 |cons p l ih=>
  intro i s
  simp only [Yc]
  rw [C2,ih]
  by_cases e:i=s
  ·subst e;simp
  ·rw [if_neg e]
   by_cases h1:i≤s
   ·rw [if_pos (by omega),if_pos h1]
    rw [show s - i=(s - (i+1))+1 by omega]
    simp
   ·rw [if_neg (by omega),if_neg h1]
theorem Au6{κ :Type}{H: κ→PV×Value}{O:Nat→List PV}{D:Nat→Bool}{ob:List (Nat×List PV)}(base:Nat)(h:SH H w0 N O D w M β)(hO:∀d,O d=Db [] ob d)(hD:∀d,D d=A9 d (ob.map Prod.fst))
  (args:List PV) (vs:List Value) (hl:vs.length=args.length) (hr:∀(i:Nat) (p:PV) (v:Value),args[i]? =some p→vs[i]? =some v→B1 w M β w0.old p v) (hn:args.length≤nt):
  SR H w0 N nt { fr:=Yc 0 args,ob:=ob,base:=base } { tmps:=vs.toArray++Array.replicate (nt - vs.toArray.size) undef,defers:= [] } w M β :=by
 have hg:∀s,St.get { fr:=Yc 0 args,ob:=ob,base:=base } s=match args[s]? with|some p=>p.view|none=> .any:=fun s=>by
  have:=Awm args 0 s
  rw [if_pos (Nat.zero_le s),Nat.sub_zero] at this
  exact this
 have e1:O=St.obj { fr:=Yc 0 args,ob:=ob,base:=base } :=funext hO
 have e2:D=fun d=>A9 d (ob.map Prod.fst):=funext hD
 refine ⟨rfl,by simp;omega,?_⟩
 rw [←e1]
 show SH _ w0 N O (fun d=>A9 d (ob.map Prod.fst)) w M β
 rw [←e2]
 refine h.hold (fun k=> ?_) (fun k=>match k with| .inl _=>none| .inr i=>some i) (fun k s h1 h2=> ?_) (fun k k' j h1 h2=> ?_)
 ·cases k with
  |inl s=>
   simp only [hold]
   rw [hg]
   cases hp:args[s]? with
   |none=>exact .any _
   |some p=>
    have hs:s < args.length:=(List.getElem?_eq_some_iff.1 hp).1
    have hv:vs[s]? =some (vs[s]'(by omega)):=List.getElem?_eq_getElem (by omega)
    have:(vs.toArray++Array.replicate (nt - vs.toArray.size) undef).getD s undef=vs[s]'(by omega):=by
     rw [Array.getD_eq_getD_getElem?,Array.getElem?_append_left (by simp;omega)]
     simp [hv]
    simp only []
    rw [this]
    exact (hr s p _ hp hv).view
  |inr i=>exact h.reg i
 ·cases k with
  |inl s=>
   simp only [hold] at h1
   rw [hg] at h1
   cases hp:args[s]? with
   |none=>rw [hp] at h1;cases h1
   |some p=>rw [hp] at h1;rw [Om h1] at h2;cases h2
  |inr i=>exact ⟨i,rfl,h1,rfl⟩
 ·cases k with
  |inl s=>cases h1
  |inr i=>
   cases k' with
   |inl s=>cases h2
   |inr i'=>injection h1 with h1;injection h2 with h2;rw [h1,h2]
theorem Al5(hC:Ed P C)(hX:Mj P X){ban:List Nat} :∀(l:List Gm) (st:St) (k:St→Prop),P4 P C X ban l st k→∃st',k st'∧∀k':St→Prop,k' st'→P4 P (Gn P) (Gf P) ban l st k':=by
 intro l
 induction l with
 |nil=>intro st k h;exact ⟨st,h,fun k' h'=>h'⟩
 |cons eo l ih=>
  intro st k h
  have run1:∀(su:St),Bb P C X ban eo.k eo.dst su (fun δ =>P4 P C X ban l (su.app δ) k)→∃st',k st'∧∀k':St→Prop,k' st'→Bb P (Gn P) (Gf P) ban eo.k eo.dst su (fun δ =>P4 P (Gn P) (Gf P) ban l (su.app δ) k'):=by
   intro su hs
   obtain ⟨δ,h1,h2⟩:=Aed hC hX _ _ _ _ hs
   obtain ⟨st',h3,h4⟩:=ih _ _ h1
   exact ⟨st',h3,fun k' hk=>h2 (fun δ =>P4 P (Gn P) (Gf P) ban l (su.app δ) k') (h4 k' hk)⟩
  simp only [P4] at h ⊢
  cases hg:eo.g with
  |none=>
   rw [hg] at h
   exact run1 st h
  |some sw=>
   obtain ⟨s,want⟩:=sw
   rw [hg] at h
   simp only at h ⊢
   split at h
   ·rename_i t hq
    cases t<;>cases want<;>simp only [br] at h ⊢ <;>first|exact run1 _ h|exact ih _ _ h
   ·exact ih _ _ h
   ·exact h.elim
theorem Afi(hC:Ed P C)(hX:Mj P X):∀(n:Nat) (l:List Gm) (st:St) (k:St→Prop),Jc P C X n l st k→∃st',k st'∧∀k':St→Prop,k' st'→Jc P (Gn P) (Gf P) n l st k':=by
 intro n
 induction n with
 |zero=>
  intro l st k h
  cases l with
  |nil=>exact ⟨st,h,fun k' h'=>h'⟩
  |cons _ _=>exact h.elim
 |succ n ih=>
  intro l st k h
  cases l with
  |nil=>exact ⟨st,h,fun k' h'=>h'⟩
  |cons eo l=>
   have run1:∀(su:St),Bb P C X [] eo.k eo.dst su (fun δ =>Jc P C X n l (su.app δ) k)→∃st',k st'∧∀k':St→Prop,k' st'→Bb P (Gn P) (Gf P) [] eo.k eo.dst su (fun δ =>Jc P (Gn P) (Gf P) n l (su.app δ) k'):=by
    intro su hs
    obtain ⟨δ,h1,h2⟩:=Aed hC hX _ _ _ _ hs
    obtain ⟨st',h3,h4⟩:=ih _ _ _ h1
    exact ⟨st',h3,fun k' hk=>h2 (fun δ =>Jc P (Gn P) (Gf P) n l (su.app δ) k') (h4 k' hk)⟩
   simp only [Jc] at h ⊢
   cases hg:eo.g with
   |none=>
    rw [hg] at h
    exact run1 st h
   |some sw=>
    obtain ⟨s,want⟩:=sw
    rw [hg] at h
    simp only at h ⊢
    split at h
    ·rename_i t hq
     cases hsp:Af3 s (eo::l) with
     |none=>
      rw [hsp] at h
      cases t<;>cases want<;>simp only [br] at h ⊢ <;>first|exact run1 _ h|exact ih _ _ _ h
     |some x=>
      obtain ⟨B,pd,r'⟩:=x
      rw [hsp] at h
      simp only [jn] at h ⊢
      have go:∀su,P4 P C X [] B su (Akc pd (fun b=>Jc P C X n r' (stJ st B pd b) k))→∃st',k st'∧∀k':St→Prop,k' st'→P4 P (Gn P) (Gf P) [] B su (Akc pd (fun b=>Jc P (Gn P) (Gf P) n r' (stJ st B pd b) k')):=by
       intro su hs
       obtain ⟨sB,h1,h2⟩:=Al5 hC hX _ _ _ hs
       unfold Akc at h1
       split at h1
       ·rename_i b hb
        obtain ⟨st',h3,h4⟩:=ih _ _ _ h1
        exact ⟨st',h3,fun k' hk=>h2 _ (by unfold Akc;rw [hb];exact h4 k' hk)⟩
       ·exact h1.elim
      cases t<;>simp only [br] at h ⊢ <;>exact go _ h
    ·exact ih _ _ _ h
    ·exact h.elim
theorem A3r{F F':St→(Ex→St→Prop)→Prop}(hf:∀(st:St) (k:Ex→St→Prop),F st k→∃e st',k e st'∧∀k':Ex→St→Prop,k' e st'→F' st k'){n:Nat}{m:Operand}{it nx mo pr:Nat}{keys:List Nat}{L:Nat}{st:St}{k:St→Prop}
  (h:Axc F n m it nx mo pr keys L st k):∃stF,k stF∧∀k':St→Prop,k' stF→Axc F' n m it nx mo pr keys L st k':=by
 have hr:∀(d:Nat) (O:List PV) (V:PV) (gk gv:Bool) (ks vs:LX) (live:List Nat) (kk:St→Prop) (Ln:Nat) (Sn:List Nat) (st:St),Ar1 F n d O V gk gv ks vs it nx mo pr keys live Ln Sn st kk→Ar1 F' n d O V gk gv ks vs it nx mo pr keys live Ln Sn st kk:=by
  intro d O V gk gv ks vs live kk Ln
  induction Ln with
  |zero=>intro Sn st h;exact h
  |succ Ln ihn=>
   intro Sn st h
   refine ⟨h.1,fun i hi hn=> ?_⟩
   obtain ⟨e,st',h3,h4⟩:=hf _ _ (h.2 i hi hn)
   exact h4 _ ⟨h3.1,h3.2.1,h3.2.2.1,ihn _ _ h3.2.2.2⟩
 unfold Axc at h
 split at h
 ·rename_i d hq
  split at h
  ·rename_i gk gv ks vs hob
   obtain ⟨stF,hN,hk⟩:=h
   refine ⟨stF,hk,fun k' hk'=> ?_⟩
   unfold Axc
   rw [hq]
   dsimp only
   rw [hob]
   exact ⟨stF,fun es clock r=>hr _ _ _ _ _ _ _ _ _ _ _ _ (hN es clock r),hk'⟩
  ·exact h.elim
 ·exact h.elim
theorem Atc(hC:Ed P C)(hX:Mj P X)(L:Nat):∀(ec:EC) (st:St) (k:Ex→St→Prop),f9 P C X L ec st k→∃e st',k e st'∧∀k':Ex→St→Prop,k' e st'→f9 P (Gn P) (Gf P) L ec st k':=by
 intro ec
 induction ec with
 |skip=>intro st k h;exact ⟨.normal,st,h,fun k' h'=>h'⟩
 |region ban ap l=>
  intro st k h
  simp only [f9] at h ⊢
  cases hap:Abn st ap with
  |false=>rw [hap] at h;exact h.elim
  |true=>
   rw [hap] at h
   obtain ⟨st',h1,h2⟩:=Al5 hC hX _ _ _ h
   exact ⟨.normal,st',h1,fun k' hk=>h2 (fun st'=>k' .normal st') hk⟩
 |regS l=>
  intro st k h
  simp only [f9] at h ⊢
  obtain ⟨st',h1,h2⟩:=Afi hC hX _ _ _ _ h
  exact ⟨.normal,st',h1,fun k' hk=>h2 (fun st'=>k' .normal st') hk⟩
 |seq a b iha ihb=>
  intro st k h
  simp only [f9] at h ⊢
  obtain ⟨e,st1,h1,h2⟩:=iha _ _ h
  cases e with
  |normal=>
   obtain ⟨e,st',h3,h4⟩:=ihb _ _ h1
   exact ⟨e,st',h3,fun k' hk=>h2 _ (h4 k' hk)⟩
  |exit i=>exact ⟨.exit i,st1,h1,fun k' hk=>h2 _ hk⟩
  |ret=>exact ⟨.ret,st1,h1,fun k' hk=>h2 _ hk⟩
 |cond c a b iha ihb=>
  intro st k h
  simp only [f9] at h ⊢
  split at h
  ·rename_i t hq
   cases t with
   |true=>exact iha _ _ h
   |false=>exact ihb _ _ h
  ·exact h.elim
 |block id b ih=>
  intro st k h
  simp only [f9] at h ⊢
  obtain ⟨e,st1,h1,h2⟩:=ih _ _ h
  cases e with
  |normal=>exact ⟨.normal,st1,h1,fun k' hk=>h2 _ hk⟩
  |ret=>exact ⟨.ret,st1,h1,fun k' hk=>h2 _ hk⟩
  |exit i=>
   cases hb:Nat.beq i id with
   |true=>
    simp only [Bs,hb] at h1
    exact ⟨.normal,st1,h1,fun k' hk=>h2 _ (by simp only [Bs,hb];exact hk)⟩
   |false=>
    simp only [Bs,hb] at h1
    exact ⟨.exit i,st1,h1,fun k' hk=>h2 _ (by simp only [Bs,hb];exact hk)⟩
 |loop keys b ih=>
  intro st k h
  simp only [f9] at h ⊢
  generalize keep keys (Cj st) st=s0 at h ⊢
  generalize Cj st=live at h ⊢
  have key:∀(n:Nat) (st:St) (k:Ex→St→Prop),Kj (f9 P C X L b) keys live n st k→∃e st',k e st'∧∀k':Ex→St→Prop,k' e st'→Kj (f9 P (Gn P) (Gf P) L b) keys live n st k':=by
   intro n
   induction n with
   |zero=>intro st k h;exact h.elim
   |succ n ihn=>
    intro st k h
    obtain ⟨e,st1,h1,h2⟩:=ih _ _ h
    cases e with
    |normal=>
     obtain ⟨e,st',h3,h4⟩:=ihn _ _ h1
     exact ⟨e,st',h3,fun k' hk=>h2 _ (h4 k' hk)⟩
    |exit i=>exact ⟨.exit i,_,h1,fun k' hk=>h2 _ hk⟩
    |ret=>exact ⟨.ret,_,h1,fun k' hk=>h2 _ hk⟩
  exact key L s0 k h
 |exit id=>intro st k h;exact ⟨.exit id,st,h,fun k' h'=>h'⟩
 |kp keys=>intro st k h;exact ⟨.normal,_,h,fun k' h'=>h'⟩
 |frz ts=>intro st k h;exact ⟨.normal,_,h,fun k' h'=>h'⟩
 |vws ts=>intro st k h;exact ⟨.normal,_,h,fun k' h'=>h'⟩
 |loopU keys b ih=>
  intro st k h
  simp only [f9] at h ⊢
  have key:∀(n:Nat) (st:St) (k:Ex→St→Prop),Amh (f9 P C X L b) keys n st k→∃e st',k e st'∧∀k':Ex→St→Prop,k' e st'→Amh (f9 P (Gn P) (Gf P) L b) keys n st k':=by
   intro n
   induction n with
   |zero=>intro st k h;exact h.elim
   |succ n ihn=>
    intro st k h
    obtain ⟨e,st1,h1,h2⟩:=ih _ _ h
    cases e with
    |normal=>
     obtain ⟨e,st',h3,h4⟩:=ihn _ _ h1
     exact ⟨e,st',h3,fun k' hk=>h2 _ (h4 k' hk)⟩
    |exit i=>exact ⟨.exit i,_,h1,fun k' hk=>h2 _ hk⟩
    |ret=>exact ⟨.ret,_,h1,fun k' hk=>h2 _ hk⟩
  exact key L st k h
 |rng pre m it nx mo pr keys asg b n ih=>
  intro st k h
  simp only [f9] at h ⊢
  obtain ⟨st1,h1,h2⟩:=Afi hC hX _ _ _ _ h
  have hf:∀(st:St) (k:Ex→St→Prop),(Jc P C X asg.length asg st fun st'=>f9 P C X L b st' k)→∃e st',k e st'∧∀k':Ex→St→Prop,k' e st'→
    (Jc P (Gn P) (Gf P) asg.length asg st fun st'=>f9 P (Gn P) (Gf P) L b st' k'):=fun st k h=>by
   obtain ⟨st1,h1,h2⟩:=Afi hC hX _ _ _ _ h
   obtain ⟨e,st',h3,h4⟩:=ih _ _ h1
   exact ⟨e,st',h3,fun k' hk=>h2 _ (h4 k' hk)⟩
  obtain ⟨stF,q1,q2⟩:=A3r (F':=fun(st:St) (k:Ex→St→Prop)=>Jc P (Gn P) (Gf P) asg.length asg st fun st'=>f9 P (Gn P) (Gf P) L b st' k) hf h1
  exact ⟨.normal,stF,q1,fun k' hk'=>h2 _ (q2 _ hk')⟩
 |ret=>intro st k h;exact ⟨.ret,st,h,fun k' h'=>h'⟩
 |stop=>intro st k h;exact h.elim
theorem Ed.star:Ed P (Gn P):=fun _ _ _ h=>h
theorem Mj.star:Mj P (Gf P):=fun _ _ _ _ h=>h
theorem Aku{f:Nat}{args:List PV}{ob:List (Nat×List PV)}{r:PV}(h:Xj P f (args.map (Aej (Db [] ob))) r):L3 P f args ob r.view []:=by
 intro κ H w0 w N M β O D vs hO hD hS hl hr
 have hsr:SR H w0 N 0 { fr:= [],ob:=ob,base:=0 } { tmps:= #[],defers:= [] } w M β :=by
  have e1:O=St.obj { fr:= [],ob:=ob,base:=0 } :=funext hO
  have e2:D=fun d=>A9 d (ob.map Prod.fst):=funext hD
  refine ⟨rfl,rfl,?_⟩
  rw [←e1]
  show SH _ w0 N O (fun d=>A9 d (ob.map Prod.fst)) w M β
  rw [←e2]
  refine hS.hold (fun k=> ?_) (fun k=>match k with| .inl _=>none| .inr i=>some i) (fun k s h1 h2=> ?_) (fun k k' j h1 h2=> ?_)
  ·cases k with
   |inl s=>exact .any _
   |inr i=>exact hS.reg i
  ·cases k with
   |inl s=>cases h1
   |inr i=>exact ⟨i,rfl,h1,rfl⟩
  ·cases k with
   |inl s=>cases h1
   |inr i=>
    cases k' with
    |inl s=>cases h2
    |inr i'=>injection h1 with h1;injection h2 with h2;rw [h1,h2]
 refine Calls.mono (h w M vs (by simp [hl]) (fun i p v hp hv=> ?_) hS.mlt (hS.mN.gl.all hS.bel hS.mN.eq)) ?_
 ·rw [List.getElem?_map] at hp
  cases hx:args[i]? with
  |none=>rw [hx] at hp;cases hp
  |some x=>
   rw [hx] at hp
   simp only [Option.map_some,Option.some.injEq] at hp
   subst hp
   exact Au4 hsr (hr i x v hx hv)
 ·rintro e w' ⟨v,rfl,hv,hb⟩
  have e1:O=Db [] ([]++ob):=funext hO
  have e2:D=fun d=>A9 d (([]++ob).map Prod.fst):=funext hD
  refine ⟨v,M,β,rfl,?_⟩
  rw [←e1,←e2]
  exact (hS.world hb).cons _ v hv.up.view (fun s h1 h2=>by rw [Om h1] at h2;cases h2)
def Ali(P:Program)(f e b:Nat):Prop:=Jb P f=true∧∀(w:World) (m:Nat),m*b≤140737488355328→m≤4611686018427387904→
 Calls P f #[.slice none 0 0,.int .i64 m] w fun en w'=>(en= .returned (.slice none 0 0)∧w'=w)∨
  ∃(w1:World) (cs:Array Value) (c:Nat),en= .returned (.slice (some ⟨w1.heap.size,0,none⟩) 0 c)∧Below w.heap.size w w1∧w'=w1.alloc (.cells cs e)∧(∀x,LX.nil e=some x→cs.size=c*x.sz)∧c≤maxLen
def Ayc(P:Program)(f e:Nat):Prop:=Jb P f=true∧∀(a:Option Addr) (c:Nat) (w:World),
 Calls P f #[.slice a 0 c] w fun en w'=>(en= .returned (.slice none 0 0)∧w'=w)∨(en= .returned (.slice (some ⟨w.heap.size,0,none⟩) 0 0)∧w'=w.alloc (.cells #[] e))
def Ah7(P:Program)(G:Nat→Option (Nat×Nat)):Prop:=∀f e b,G f=some (e,b)→(b=0→Ayc P f e)∧(b≠0→b≠2000000→Ali P f e b)
theorem Atp{f e b:Nat}(hg:Ali P f e b){x:LX}(hx:LX.nil e=some x){m:Int}(h0:0≤m)(hb:m*(b:Int)≤140737488355328)(hm:m≤(4611686018427387904:Int))(ob:List (Nat×List PV)):
  L3 P f [.val (.slice none 0 0),.val (.int .i64 m)] ob (.lst true x) []:=by
 intro κ H w0 w N M β O D vs hO hD hS hl hr
 match vs,hl with
 | [v1,v2],_=>
  have e1:v1= .slice none 0 0:=(hr 0 _ v1 rfl rfl).val_eq
  have e2:v2= .int .i64 m:=(hr 1 _ v2 rfl rfl).val_eq
  subst e1;subst e2
  obtain ⟨n,rfl⟩:=Int.eq_ofNat_of_zero_le h0
  obtain ⟨hxe,hxn⟩:=LX.nil_spec e x hx
  have o1:O=Db [] ([]++ob):=funext hO
  have o2:D=fun d=>A9 d (([]++ob).map Prod.fst):=funext hD
  refine Calls.mono (hg.2 w n (by
   have:((n*b:Nat):Int)≤140737488355328:=by rw [Int.natCast_mul];exact hb
   omega) (by omega)) ?_
  rintro en w' (⟨rfl,rfl⟩|⟨w1,cs,c,rfl,hbel,rfl,hsz,hc⟩)
  ·refine ⟨_,M,β,rfl,?_⟩
   rw [←o1,←o2]
   refine hS.cons (.lst true x) (.slice none 0 0) (B1.le (PV.Le.nil true x hxn) (B1.val _ rfl)) (fun s h1 _=> ?_)
   injection h1 with h1;subst h1
   exact ⟨.inl ⟨_,rfl,hxn⟩,fun key s' v' g _ hg=>absurd hg Ik,fun g d n hg=>absurd hg Ik⟩
  ·have hS1:=hS.world hbel
   obtain ⟨_,hS2,_,hb1,hn1⟩:=hS1.rowNew cs e 0
   have hh:=heap_alloc_new w1 (.cells cs e)
   have hle:¬w0.old w1.heap.size:=hS1.bel.new
   refine ⟨_,(fun b=>if b=w1.heap.size then some 0 else M b),β,rfl,?_⟩
   rw [←o1,←o2]
   refine hS2.cons (.lst true x) _ (Y5 (s:=⟨true,x.e,x.sz,x.len,x.row⟩) rfl hxn.symm hh (Nat.zero_le _) (fun i hi=>by omega) (fun i hi=>by omega) (fun i j q hi=>by omega)) (fun s h1 _=> ?_)
   injection h1 with h1;subst h1
   cases c with
   |zero=>exact ⟨.inl ⟨_,rfl,hxn⟩,fun key s' v' g _ hg=>absurd hg Ik,fun g d n hg=>absurd hg Ik⟩
   |succ c=>
    refine ⟨.inr ⟨w1.heap.size,c,cs,by rw [hxn],hle,by simp [hxn],by rw [hxe];exact hh,by simp [hxn],hc,by rw [hsz x hx]⟩,fun key s' v' g ho' hg=> ?_,fun g d n hg=> ?_⟩
    ·have:w1.heap.size=g:=by simpa [tb] using hg
     rw [←this];exact (hn1 key s' v' ho').2
    ·have:w1.heap.size=g:=by simpa [tb] using hg
     rw [←this];exact hb1 d n
theorem Aqw{f e:Nat}(hg:Ayc P f e){x:LX}(hx:LX.nil e=some x)(o:Bool){z:LX}(hz:Nat.beq z.len 0=true)(ob:List (Nat×List PV)):
  L3 P f [.lst o z] ob (.lst true x) []:=by
 intro κ H w0 w N M β O D vs hO hD hS hl hr
 match vs,hl with
 | [v1],_=>
  have hz0:z.len=0:=Nat.eq_of_beq_eq_true hz
  obtain ⟨a,c,rfl⟩:∃a c,v1= .slice a 0 c:=by
   cases hr 0 _ v1 rfl rfl with
   |row p s hs a c vs _ _ _ _ _=>
    injection hs with hs
    subst hs
    exact ⟨a,c,by show Value.slice a z.len c=_;rw [hz0]⟩
  obtain ⟨hxe,hxn⟩:=LX.nil_spec e x hx
  have o1:O=Db [] ([]++ob):=funext hO
  have o2:D=fun d=>A9 d (([]++ob).map Prod.fst):=funext hD
  refine Calls.mono (hg.2 a c w) ?_
  rintro en w' (⟨rfl,rfl⟩|⟨rfl,rfl⟩)
  ·refine ⟨_,M,β,rfl,?_⟩
   rw [←o1,←o2]
   refine hS.cons (.lst true x) (.slice none 0 0) (B1.le (PV.Le.nil true x hxn) (B1.val _ rfl)) (fun s h1 _=> ?_)
   injection h1 with h1;subst h1
   exact ⟨.inl ⟨_,rfl,hxn⟩,fun key s' v' g _ hg=>absurd hg Ik,fun g d n hg=>absurd hg Ik⟩
  ·obtain ⟨_,hS2,_,hb1,hn1⟩:=hS.rowNew #[] e 0
   have hh:=heap_alloc_new w (.cells #[] e)
   refine ⟨_,(fun b=>if b=w.heap.size then some 0 else M b),β,rfl,?_⟩
   rw [←o1,←o2]
   refine hS2.cons (.lst true x) _ (Y5 (s:=⟨true,x.e,x.sz,x.len,x.row⟩) rfl hxn.symm hh (Nat.zero_le _) (fun i hi=>by omega) (fun i hi=>by omega) (fun i j q hi=>by omega)) (fun s h1 _=> ?_)
   injection h1 with h1;subst h1
   exact ⟨.inl ⟨_,rfl,hxn⟩,fun key s' v' g _ hg=>absurd hg Ik,fun g d n hg=>absurd hg Ik⟩
def Blx(t:Option Nat):R7 (Option ι)→Option (R7 (Nat ⊕ ι))
 | .slot none=>t.map fun s=> .slot (.inl s)
 | .slot (some k)=>some (.slot (.inr k))
 | .cell x i=>some (.cell x i)
def Bok:R7 (Nat ⊕ ι)→R7 (Option ι)
 | .slot (.inl _)=> .slot none
 | .slot (.inr k)=> .slot (some k)
 | .cell x i=> .cell x i
theorem Auv{t:Option Nat}{k:R7 (Option ι)}{j:R7 (Nat ⊕ ι)}(h:Blx t k=some j):k=Bok j:=by
 cases k with
 |slot k=>
  cases k with
  |none=>
   cases t with
   |none=>cases h
   |some s=>injection h with h;subst h;rfl
  |some k=>injection h with h;subst h;rfl
 |cell x i=>injection h with h;subst h;rfl
theorem Bdq(h:SR cx w0 N nt st a w M β){ob:List (Nat×List PV)}{r:PV}{v:Value}(hr:B1 w M β w0.old r v)(ho:(∃t,r=st.get t∧v=a.tmps.getD t undef)∨∀s,r.sv=some s→s.own=false):
  SH (Mt (r,v) cx) w0 N (Db [] (st.ob++ob)) (fun d=>A9 d ((st.ob++ob).map Prod.fst)) w M β :=by
 have hO:∀d x,β d=some x→Db [] (st.ob++ob) d=st.obj d:=fun d x hd=>by
  rw [P6,if_pos]
  ·rfl
  ·cases hn:A9 d (st.ob.map Prod.fst) with
   |true=>have:=h.sh.dom d hn;rw [this] at hd;cases hd
   |false=>
    have:¬A9 d (st.ob.map Prod.fst)=true:=by rw [hn];simp
    rw [Bq] at this
    exact Classical.not_not.1 this
 have key:∀(t:Option Nat),(∀s,r.sv=some s→s.own=true→∃t',t=some t'∧r=st.get t'∧v=a.tmps.getD t' undef)→SH (Mt (r,v) cx) w0 N (Db [] (st.ob++ob)) (fun d=>A9 d ((st.ob++ob).map Prod.fst)) w M β :=by
  intro t ht
  refine h.sh.perm (fun k=> ?_) (fun d b n hd=>by rw [hO d _ hd];exact (h.sh.box d b n hd).2.2) (fun d hd=> ?_) (Blx t) ?_ (fun k k' j h1 h2=>(Auv h1).trans (Auv h2).symm)
  ·cases k with
   |none=>exact hr
   |some k=>exact h.sh.reg (.inr k)
  ·rw [List.map_append,Tq,Bool.and_eq_true] at hd
   exact h.sh.dom d hd.1
  ·intro key s u hk
   cases key with
   |slot k=>
    cases k with
    |none=>
     obtain ⟨q1,q2,q3⟩:=hk
     obtain ⟨t',e1,e2,e3⟩:=ht s q1 q2
     subst e1
     refine ⟨.slot (.inl t'),rfl,?_,q2,?_⟩
     ·show (st.get t').sv=some s
      rw [←e2];exact q1
     ·show a.tmps.getD t' undef=u
      rw [←e3];exact q3
    |some k=>exact ⟨_,rfl,hk⟩
   |cell d i=>
    obtain ⟨b,n,p,q1,q2,q3⟩:=hk
    rw [hO d _ q1] at q2
    exact ⟨.cell d i,rfl,b,n,p,q1,q2,q3⟩
 rcases ho with ⟨t,e1,e2⟩|ho
 ·exact key (some t) (fun s _ _=>⟨t,rfl,e1,e2⟩)
 ·exact key none (fun s h1 h2=>by rw [ho s h1] at h2;cases h2)
theorem Anx{X:Inl}(hC:Ed P C)(ih:Mj P X)(hm:P.follows .mixedOrders=true)(L:Nat){f:Nat}{fn:Func}(hf:P.funcs[f]? =some fn){ec:EC}(hc:cFn P inl fn=some ec){args:List PV}(hn:Nat.ble args.length fn.ntmps=true)(hcall:Jb P f=true)
  {ob:List (Nat×List PV)} {k:PV→List (Nat×List PV)→Prop} (h:f9 P C X L ec { fr:=Yc 0 args,ob:=ob,base:=Adq ob } (Dg P fn.results.toList k)):Gf P f args ob k:=by
 refine ⟨hcall,?_⟩
 unfold cFn at hc
 cases hb:fn.body with
 |none=>rw [hb] at hc;cases hc
 |some c=>
  rw [hb] at hc
  injection hc with hc
  obtain ⟨e,st',h1,h2⟩:=Atc hC ih L ec _ _ h
  have hfin:∃l,Aq5 (Acm st'.ob) k l∧R9 P st' fn.results.toList (fun l'=>l'=l)∧(e= .normal∨e= .ret):=by
   cases e with
   |exit i=>exact h1.elim
   |normal=>obtain ⟨l,q1,q2⟩:=Al6 _ _ h1;exact ⟨l,q1,q2 _ rfl,.inl rfl⟩
   |ret=>obtain ⟨l,q1,q2⟩:=Al6 _ _ h1;exact ⟨l,q1,q2 _ rfl,.inr rfl⟩
  obtain ⟨l,h3,h4,h5⟩:=hfin
  have main:∀(r:PV),(∃t,l= [t]∧r=t)∨(l.length≠1∧r= .tup (l.map PV.view))→L3 P f args ob r st'.ob:=by
   intro r hrl κ H w0 w N M β O D vs hO hD hS hl hr
   refine calls_of_wp hf hb ?_
   have hS':∀k,E8 (fun d=>∃x,β d=some x) (H k).1:=fun k=>(hS.reg k).locs
   have hHas:x9 (fun d=>∃x,β d=some x) { fr:=Yc 0 args,ob:=ob,base:=Adq ob } :=by
    rintro d ⟨x,hx⟩
    have hn:A9 d (ob.map Prod.fst)=false:=by
     cases hn:A9 d (ob.map Prod.fst) with
     |false=>rfl
     |true=>
      have:=hS.dom d (by rw [hD];exact hn)
      rw [this] at hx;cases hx
    exact ⟨hn,Ao7 hn⟩
   refine Aou (cx:=H) (w0:=w0) (N:=N) (Ed.star (P:=P)) (Mj.star (P:=P)) hm hS' _ L c _ _ _ ec hc _ _ w M β (fun e' s'=>e'=e∧s'=st') hHas (Au6 _ hS hO hD args vs hl hr (Nat.le_of_ble_eq_true hn)) (h2 _ ⟨rfl,rfl⟩) _ ?_
   rintro e' s' a' w' M' β' ⟨rfl,rfl⟩ _ hSR
   obtain ⟨ps,us,q1,q2,q3,q4,q5⟩:=Aj9 hSR _ _ h4
   subst q1
   have hrun:=Akg q5
   have fin:a'.defers= []∧∃v,(results fn a'.tmps).run P w'= .ok v w'∧∃v2 M2 β2,Ending.returned v= .returned v2∧SH (Mt (r,v2) H) w0 N (Db [] (s'.ob++ob)) (fun d=>A9 d ((s'.ob++ob).map Prod.fst)) w' M2 β2:=by
    refine ⟨hSR.defs,_,hrun,_,M',β',rfl,?_⟩
    rcases hrl with ⟨t,hl1,rfl⟩|⟨hl1,rfl⟩
    ·subst hl1
     match us,q2,q4 with
     | [u],_,q4=>
      obtain ⟨r1,r2⟩:=q4 0 _ u rfl rfl
      exact Bdq hSR r1 r2
    ·have hne:¬us.length=1:=by rw [q2];exact hl1
     rw [dif_neg hne]
     refine Bdq hSR (.tup _ us (by rw [List.length_map,q2]) (fun i q u hq hu=> ?_)) (.inr (Ju rfl))
     obtain ⟨p,hp,rfl⟩:=Gv hq
     exact (q4 i p u hp hu).1.view
   rcases h5 with rfl|rfl
   ·exact fin
   ·exact fin
  match l,h3,main with
  | [],h3,main=>exact ⟨_,_,L3.norm (main _ (.inr ⟨by simp,rfl⟩)),h3⟩
  | [r],h3,main=>exact ⟨_,_,L3.norm (main _ (.inl ⟨r,rfl,rfl⟩)),h3⟩
  |a::b::l,h3,main=>exact ⟨_,_,L3.norm (main _ (.inr ⟨by simp,rfl⟩)),h3⟩
theorem Aid{X:Inl}(hC:Ed P C)(ih:Mj P X)(hm:P.follows .mixedOrders=true)(L:Nat):Mj P (evJ P inl C L X):=by
  intro f args ob k h
  simp only [evJ] at h
  split at h
  ·split at h
   ·rename_i fn hf
    split at h
    ·rename_i ec hc hn hcall
     exact Anx hC ih hm L hf hc hn hcall h
    ·exact h.elim
   ·exact h.elim
  ·split at h
   ·rename_i hcall
    obtain ⟨r,h1,h2⟩:=hC _ _ _ h
    rw [Es.of (Amd (Db [] ob) (fun x=>x) args)] at h1
    exact ⟨hcall,_,_,Aku h1,h2⟩
   ·exact h.elim
theorem Awg{G:Nat→Option (Nat×Nat)}(hG:Ah7 P G)(hC:Ed P C)(hm:P.follows .mixedOrders=true)(L:Nat):∀n,Mj P (Ate P inl G C L n):=by
 intro n
 induction n with
 |zero=>intro f args ob k h;exact h.elim
 |succ n ih=>
  intro f args ob k h
  simp only [Ate,evB] at h
  cases hGf:G f with
  |some eb=>
   obtain ⟨e,b⟩:=eb
   rw [hGf] at h
   simp only at h
   have hg:=hG f e b hGf
   cases hb:Nat.beq b 0 with
   |true=>
    rw [hb] at h
    simp only [A47] at h
    have hg:=hg.1 (Nat.eq_of_beq_eq_true hb)
    split at h
    ·rename_i o z x hx
     cases hz:Nat.beq z.len 0 with
     |true=>
      rw [hz] at h
      exact ⟨hg.1,_,_,Aqw hg hx o hz ob,h⟩
     |false=>
      rw [hz] at h
      exact Aid hC ih hm L _ _ _ _ h
    ·exact Aid hC ih hm L _ _ _ _ h
   |false=>
    rw [hb] at h
    cases hb2:Nat.beq b 2000000 with
    |true=>
     rw [hb2] at h
     simp only [stK] at h
     split at h
     ·rename_i d ps
      split at h
      ·rename_i g1 g2 g3
       obtain ⟨r,h1,h2⟩:=hC _ _ _ h
       obtain ⟨r0,l,o,rfl,q1,q2,q3,q4⟩:=(h1:Apw P f _ _ r)
       exact ⟨g3,r0,[(d,l)],Awn q1 q2 g2 q3 q4 d ob rfl g1,h2⟩
      ·exact h.elim
     ·exact h.elim
    |false=>
    rw [hb2] at h
    simp only [Bdl,Az] at h
    have hg:=hg.2 (fun e=>by subst e;cases hb) (fun e=>by subst e;cases hb2)
    split at h
    ·rename_i m x hx
     exact ⟨hg.1,_,_,Atp hg hx h.1 h.2.1 h.2.2.1 ob,h.2.2.2⟩
    ·exact h.elim
  |none=>
   rw [hGf] at h
   exact Aid hC ih hm L _ _ _ _ h
theorem Aov{G:Nat→Option (Nat×Nat)}{J:Nat→Bool}(hG:Ah7 P G)(hC:Ed P C)(hm:P.follows .mixedOrders=true)(L:Nat)(n:Nat):Mj P (evI P inl G J C L n):=by
 rw [Awh];exact Awg hG hC hm L n
theorem Akb(hC:Ed P C)(hX:Mj P X)(hm:P.follows .mixedOrders=true)(L:Nat){f:Nat}{fn:Func}(hf:P.funcs[f]? =some fn){ec:EC}(hc:cFn P inl fn=some ec)(args:List PV)(r:PV)
  (hn:Nat.ble args.length fn.ntmps=true) (h:Atd P C X L fn.results.toList ec args (fun p=>p=r)):Xj P f args r:=by
 have h:=(Aic h).2
 unfold cFn at hc
 cases hb:fn.body with
 |none=>rw [hb] at hc;cases hc
 |some c=>
  rw [hb] at hc
  injection hc with hc
  intro w N vs hl hr hN hgl
  refine calls_of_wp hf hb ?_
  have h0:SH (fun(e:Empty)=>(e.elim:PV×Value)) (E9.all w) N (fun _=> []) (fun _=>true) w N (fun _=>none):=
   ⟨Bel.of w _ rfl,⟨fun _ _=>rfl,hgl⟩,hN,(fun d b n h=>by cases h),(fun d d' b n n' h=>by cases h),fun _ _=>rfl,fun k=>k.elim,
    (fun key s v ho=>by cases key with|slot k=>exact k.elim|cell d i=>obtain ⟨b,n,p,h,_⟩:=ho;cases h),
    (fun key key' s s' v v' g ho=>by cases key with|slot k=>exact k.elim|cell d i=>obtain ⟨b,n,p,h,_⟩:=ho;cases h),
    (fun key s v g d n ho=>by cases key with|slot k=>exact k.elim|cell d i=>obtain ⟨b,n,p,h,_⟩:=ho;cases h)⟩
  refine Aou (cx:=fun(e:Empty)=>(e.elim:PV×Value)) (w0:=E9.all w) (N:=N) (S:=fun _=>False) hC hX hm (fun k=>k.elim) _ L c _ _ _ ec hc _ _ w N (fun _=>none) _ (fun d hd=>hd.elim)
   (Au6 (ob:= []) 0 h0 (fun _=>rfl) (fun _=>rfl) args vs hl hr (Nat.le_of_ble_eq_true hn)) h _ ?_
  intro e st' a' w' M' β' hk _ hS
  have fin:R9 P st' fn.results.toList (Adk st'.obj fun p=>p=r)→a'.defers= []∧∃v,(results fn a'.tmps).run P w'= .ok v w'∧∃u,Ending.returned v= .returned u∧B1 w' N (fun _=>none) (fun _=>False) r u∧Below w.heap.size w w':=by
   intro hk
   obtain ⟨ps,us,h1,h2,h3,h4,h5⟩:=Aj9 hS _ _ hk
   have himm:∀x:Addr,imm M' x→imm N x:=fun x hi n hn=>by
    have hx:=hN _ _ hn
    exact hi n (by rw [hS.sh.mN _ hx];exact hn)
   have hmono:∀p v,B1 w' M' β' (E9.all w).old p v→B1 w' N β' (E9.all w).old p v:=fun p v hp=>hp.ext (fun x u hi hc=>⟨himm x hi,hc⟩) (fun _ _=>rfl) (fun _ _ h=>h)
   have hNb:∀x:Addr,¬(E9.all w).old x.block→imm N x:=fun x hx n hn=>absurd (hN _ _ hn) hx
   have hbox:∀d b n,β' d=some (b,n)→¬(E9.all w).old b∧Ky w' N β' (E9.all w).old b n (st'.obj d):=fun d b n hd=>
    ⟨(hS.sh.box d b n hd).1,(hS.sh.box d b n hd).2.2.ext rfl hmono⟩
   have hfin:∀p v,B1 w' M' β' (E9.all w).old p v→B1 w' N (fun _=>none) (fun _=>False) (p.fin st'.obj) v:=fun p v hp=>A9t hNb hbox (hmono p v hp)
   refine ⟨hS.defs,_,Akg h5,_,rfl,?_,hS.sh.bel.below⟩
   match ps,us,h1,h2,h4 with
   | [],[],h1,_,h4=>
    have h1':PV.tup []=r:=h1
    rw [←h1']
    exact .tup [] [] rfl (fun i p v hp=>by simp at hp)
   | [p],[u],h1,_,h4=>
    have h1':p.fin st'.obj=r:=h1
    rw [←h1']
    exact hfin _ _ (h4 0 p u rfl rfl).1
   |p::q::ps,u::u'::us,h1,h2,h4=>
    have h1':PV.tup ((p::q::ps).map (PV.fin st'.obj))=r:=h1
    rw [←h1']
    refine .tup _ _ (by simpa using h2.symm) (fun i x v hx hv=> ?_)
    rw [List.getElem?_map] at hx
    cases hp:(p::q::ps)[i]? with
    |none=>rw [hp] at hx;cases hx
    |some y=>
     rw [hp] at hx
     injection hx with hx
     subst hx
     exact hfin _ _ (h4 i y v hp hv).1
  cases e with
  |normal=>exact fin hk
  |ret=>exact fin hk
  |exit i=>exact hk.elim
end
end Go.Proofs.YthjhkpgonleelaaGreatDoor.Ev
