/-  Code; functions; calls that are carried out in place. -/
import Derived.Test.YtmimkinjcfekmaaGreatFm
namespace Go.Proofs.YtmimkinjcfekmaaGreat.Ev
open Go Go.RowKit
set_option linter.unusedVariables false
set_option linter.unusedSimpArgs false
set_option linter.unnecessarySimpa false
inductive C7 (S:Nat→Prop):PV→Prop
 |any:C7 S .any
 |val (v:Value):C7 S (.val v)
 |lst (own:Bool) (x:LX):C7 S (.lst own x)
 |agg (l:List PV) (h:∀(i:Nat) (p:PV),l[i]? =some p→C7 S p):C7 S (.agg l)
 |tup (l:List PV) (h:∀(i:Nat) (p:PV),l[i]? =some p→C7 S p):C7 S (.tup l)
 |ref (l:List PV) (h:∀(i:Nat) (p:PV),l[i]? =some p→C7 S p):C7 S (.ref l)
 |clo (f n:Nat) (l:List PV) (h:∀(i:Nat) (p:PV),l[i]? =some p→C7 S p):C7 S (.clo f n l)
 |sl (own:Bool) (e sz:Nat) (es:List (List PV)) (h:∀(i j:Nat) (p:PV),i < es.length→(es.getD i [])[j]? =some p→C7 S p):C7 S (.sl own e sz es)
 |loc (d off:Nat) (h:S d):C7 S (.loc d off)
 |el (d sz i off:Nat) (h:S d):C7 S (.el d sz i off)
 |vw (c:Bool) (d e sz n:Nat) (h:S d):C7 S (.vw c d e sz n)
 |mp (d:Nat) (h:S d):C7 S (.mp d)
section
variable {w:World} {M:It} {β :Ha} {B:Nat}
theorem O9{l:List PV}{cs:List Value}(hl:l.length=cs.length){i:Nat}{p:PV}(h:l[i]? =some p):∃v,cs[i]? =some v:=
 ⟨_,List.getElem?_eq_getElem (by have:=(List.getElem?_eq_some_iff.1 h).1;omega)⟩
theorem Al.locs{p:PV}{v:Value}(h:Al w M β B p v):C7 (fun d=>∃x,β d=some x) p:=by
 induction h with
 |any v=>exact .any
 |val v h=>exact .val v
 |agg l cs hl h1 hr ih=>exact .agg l (fun i p hp=>let ⟨v,hv⟩:=O9 hl hp;ih i p v hp hv)
 |tup l cs hl hr ih=>exact .tup l (fun i p hp=>let ⟨v,hv⟩:=O9 hl hp;ih i p v hp hv)
 |row p s hs a c vs hc hsz ha hm hr ih=>
  cases p with
  |sl own e sz es=>
   injection hs with hs;subst hs
   exact .sl own e sz es (fun i j p hi hp=>ih i j p hi hp)
  |lst own x=>exact .lst own x
  |_=>cases hs
 |loc d off b n h=>exact .loc d off ⟨_,h⟩
 |el d sz i off b n h hi=>exact .el d sz i off ⟨_,h⟩
 |vw cf d e sz n b c h hc=>exact .vw cf d e sz n ⟨_,h⟩
 |mp d b n h=>exact .mp d ⟨_,h⟩
 |clo f n l cs hl hr ih=>exact .clo f n l (fun i p hp=>let ⟨v,hv⟩:=O9 hl hp;ih i p v hp hv)
 |ref l ad vs hm hr ih=>exact .ref l (fun i p hp=>ih i p hp)
theorem Al.cutL{S:Nat→Prop}{D:Nat→Bool}(hSD:∀d,S d→D d=false){p:PV}{v:Value}(h:Al w M β B p v)(hl:C7 S p):Al w M (β.cut D) B p v:=by
 induction h with
 |any v=>exact .any v
 |val v h=>exact .val v h
 |agg l cs hl' h1 hr ih=>cases hl with|agg l hq=>exact .agg l cs hl' h1 (fun i p v hp hv=>ih i p v hp hv (hq i p hp))
 |tup l cs hl' hr ih=>cases hl with|tup l hq=>exact .tup l cs hl' (fun i p v hp hv=>ih i p v hp hv (hq i p hp))
 |row p s hs a c vs hc hsz ha hm hr ih=>
  cases hl with
  |sl own e sz es hq=>
   injection hs with hs;subst hs
   exact .row _ _ rfl a c vs hc hsz ha hm (fun i j p hi hp=>ih i j p hi hp (hq i j p hi hp))
  |lst own x=>exact (Al.row (β := β) (B:=B) _ s hs a c vs hc hsz ha hm hr).flat rfl
  |_=>cases hs
 |loc d off b n h=>cases hl with|loc d off hq=>exact .loc d off b n (by rw [Ha.cut_eq (hSD d hq)];exact h)
 |el d sz i off b n h hi=>cases hl with|el d sz i off hq=>exact .el d sz i off b n (by rw [Ha.cut_eq (hSD d hq)];exact h) hi
 |vw cf d e sz n b c h hc=>cases hl with|vw c d e sz n hq=>exact .vw cf d e sz n b _ (by rw [Ha.cut_eq (hSD d hq)];exact h) hc
 |mp d b n h=>cases hl with|mp d hq=>exact .mp d b n (by rw [Ha.cut_eq (hSD d hq)];exact h)
 |clo f n l cs hl' hr ih=>cases hl with|clo f n l hq=>exact .clo f n l cs hl' (fun i p v hp hv=>ih i p v hp hv (hq i p hp))
 |ref l ad vs hm hr ih=>cases hl with|ref l hq=>exact .ref l ad vs hm (fun i p hp=>ih i p hp (hq i p hp))
end
section
variable {ι :Type} {cx: ι→PV×Value} {P:Program} {C:Av} {X:Tc} {inl:Nat→Bool} {w0 w:World} {N M:It} {β :Ha} {nt:Nat} {st:St} {a:Act}
theorem Aab{B b n:Nat}{l:List PV}{D:Nat→Bool}(h:G3 w M β B b n l):G3 w M (β.cut D) B b n (l.map fun p=>p.clean D):=by
 cases h with
 |cells l cs t q1 q2 q3=>
  refine .cells _ cs t q1 (by rw [List.length_map];exact q2) (fun i q v hq hv=> ?_)
  rw [List.getElem?_map] at hq
  cases hp:l[i]? with
  |none=>rw [hp] at hq;cases hq
  |some p=>
   rw [hp] at hq
   injection hq with hq
   subst hq
   exact ⟨(q3 i p v hp hv).1.clean,(q3 i p v hp hv).2⟩
 |arr x cs t q1 q2 q3 q4=>exact .arr x cs t q1 q2 q3 (fun i j p v hi hp hv=>⟨(q4 i j p v hi hp hv).1.flat (LX.row_flat x i p (List.mem_of_getElem? hp)),(q4 i j p v hi hp hv).2⟩)
 |map gk gv ks vs es clock q1 q2 q3 q4=>
  have fl:∀(g:Bool) (x:LX) (i:Nat) (v:Value),Al w M β B (Oq g (x.row i)) v→Al w M (β.cut D) B (Oq g (x.row i)) v:=by
   intro g x i v hr
   cases g with
   |true=>
    have hr':Al w M β B (.agg (x.row i)) v:=hr
    clear hr
    cases hr' with
    |row p s hs=>cases hs
    |agg l cs hl h1 hr=>exact .agg _ cs hl h1 (fun j p u hp hu=>(hr j p u hp hu).flat (LX.row_flat x i p (List.mem_of_getElem? hp)))
   |false=>
    have hf:=LX.row_flat x i
    generalize x.row i=l at hr hf
    match l,hr,hf with
    | [],_,_=>exact .any v
    | [p],hr,hf=>
     have hp:=hf p (by simp)
     have:p.view.flat=true:=by cases p<;>first|rfl|cases hp
     exact Al.flat hr this
    |_::_::_,_,_=>exact .any v
  exact .map gk gv ks vs es clock q1 q2 q3 (fun i e he=>⟨fl _ _ _ _ (q4 i e he).1,fl _ _ _ _ (q4 i e he).2⟩)
theorem Yv(keys live:List Nat):∀key s v,Lb (hold cx (Ev.keep keys live st) a) (Ev.keep keys live st).obj w (β.cut fun d=>Ag d live) key s v→Lb (hold cx st a) st.obj w β key s v:=by
 have hg:∀s,(Ev.keep keys live st).get s=if s∈keys then (st.get s).clean (fun d=>Ag d live) else .any:=fun s=>J8 _ _ _
 have ho:∀d,(Ev.keep keys live st).obj d=if d∈live then (st.obj d).map (fun p=>p.clean fun d=>Ag d live) else []:=fun d=>J8 _ _ _
 intro key s v ho'
 cases key with
 |slot k=>
  cases k with
  |inl t=>
   obtain ⟨h1,h2,h3⟩:=ho'
   simp only [hold] at h1
   rw [hg] at h1
   split at h1
   ·exact ⟨X9 h1,h2,h3⟩
   ·cases h1
  |inr i=>exact ho'
 |cell d i=>
  obtain ⟨b,n,p,h1,h2,h3,h4,h5⟩:=ho'
  obtain ⟨q1,q2⟩:=Ha.cut_some h1
  rw [ho] at h2
  split at h2
  ·rw [List.getElem?_map] at h2
   cases hp:(st.obj d)[i]? with
   |none=>rw [hp] at h2;cases h2
   |some p'=>
    rw [hp] at h2
    injection h2 with h2
    subst h2
    exact ⟨b,n,p',q1,hp,X9 h3,h4,h5⟩
  ·simp at h2
theorem SR.keep{S:Nat→Prop}(hcx:∀i,C7 S (cx i).1)(keys live:List Nat)(hS:∀d,S d→Ag d live=false)(h:SR cx w0 N nt st a w M β):SR cx w0 N nt (keep keys live st) a w M (β.cut fun d=>Ag d live):=by
 have hg:∀s,(Ev.keep keys live st).get s=if s∈keys then (st.get s).clean (fun d=>Ag d live) else .any:=fun s=>J8 _ _ _
 have ho:∀d,(Ev.keep keys live st).obj d=if d∈live then (st.obj d).map (fun p=>p.clean fun d=>Ag d live) else []:=fun d=>J8 _ _ _
 have hk:(Ev.keep keys live st).ob.map Prod.fst=live:=by
  show (live.map fun d=>(d,_)).map Prod.fst=live
  rw [List.map_map]
  exact List.map_id' live
 refine ⟨h.defs,h.nt,?_⟩
 have hown:=Yv (cx:=cx) (w:=w) (β := β) (st:=st) (a:=a) keys live
 have H:=h.sh
 refine ⟨H.bel,H.mN,H.mlt,?_,?_,?_,?_,?_,?_,?_⟩
 ·intro d b n hd
  obtain ⟨q1,q2⟩:=Ha.cut_some hd
  obtain ⟨r1,r2,r3⟩:=H.box d b n q1
  refine ⟨r1,r2,?_⟩
  rw [ho,if_pos (by
   have:¬Ag d live=true:=by rw [q2];simp
   rw [Am] at this
   exact Classical.not_not.1 this)]
  exact Aab r3
 ·intro d d' b n n' hd hd';exact H.inj d d' b n n' (Ha.cut_some hd).1 (Ha.cut_some hd').1
 ·intro d hd
  rw [hk] at hd
  unfold Ha.cut
  simp only [hd,if_true]
 ·intro k
  cases k with
  |inl s=>
   simp only [hold]
   rw [hg]
   split
   ·exact (h.reg s).clean
   ·exact .any _
  |inr i=>exact (H.reg (.inr i)).cutL hS (hcx i)
 ·intro key s v ho';exact H.tok key s v (hown _ _ _ ho')
 ·intro key key' s s' v v' g h1 h2;exact H.tokne key key' s s' v v' g (hown _ _ _ h1) (hown _ _ _ h2)
 ·intro key s v g d n h1 hg' hd;exact H.tokbox key s v g d n (hown _ _ _ h1) hg' (Ha.cut_some hd).1
def Aic:Ex→Exit
 | .normal=> .normal
 | .exit i=> .exit i
 | .ret=> .ret
def Sq(S:Nat→Prop)(st:St):Prop:=∀d,S d→Ag d (st.ob.map Prod.fst)=false∧d < st.base
theorem Tg{S:Nat→Prop}{st:St}(h:Sq S st)(δ :Ap):Sq S (st.app δ):=fun d hd=>⟨by rw [I5,(h d hd).1,Bool.and_false],(h d hd).2⟩
theorem Aei{S:Nat→Prop} :∀(δs:List Ap) (m:Nat→Bool) (st:St),Sq S st→Sq S (Ec δs m st):=by
 intro δs
 induction δs with
 |nil=>intro m st h;exact h
 |cons δ r ih=>
  intro m st h
  simp only [Ec]
  refine ih _ _ ?_
  cases m 0
  ·exact h
  ·exact Tg h δ
theorem Abx{S:Nat→Prop}{l:List B5}{st st':St}(h:Sr P l st st'):Sq S st→Sq S st':=by
 induction h with
 |nil=>exact fun h=>h
 |cons eo l st st' δ _ _ ih=>exact fun h=>ih (Tg h δ)
 |join B r st δs st1 st' pd v _ _ _ _ ih=>exact fun h=>ih (Tg h _)
theorem T7{S:Nat→Prop}{s t:St}(h:Sq S s)(he:Du s t):Sq S t:=fun d hd=>⟨by rw [←he.key];exact (h d hd).1,by rw [←he.base];exact (h d hd).2⟩
theorem Ym(st:St)(live:List Nat):∀(keys:List Nat) (s:Nat),Bp .any (frF st live keys) s=if s∈keys then (st.get s).clean (fun d=>Ag d live) else .any
 | [],s=>by simp [frF,Bp]
 |x::r,s=>by
  have ih:=Ym st live r s
  have go:∀p:PV,(st.get x).clean (fun d=>Ag d live)=p→Bp PV.any ((x,p)::frF st live r) s=if s∈x::r then (st.get s).clean (fun d=>Ag d live) else .any:=by
   intro p hp
   rw [Bi,ih]
   by_cases e:x=s
   ·subst e;simp [hp]
   ·have:¬s=x:=fun h=>e h.symm
    simp [e,this]
  have anyc:(st.get x).clean (fun d=>Ag d live)= .any→Bp .any (frF st live r) s=if s∈x::r then (st.get s).clean (fun d=>Ag d live) else .any:=by
   intro hp
   rw [ih]
   by_cases e:s=x
   ·subst e;simp [hp]
   ·simp [e]
  simp only [frF]
  split
  ·rename_i h;exact anyc h
  ·rename_i h;exact go _ rfl
theorem Lm(keys live:List Nat)(st:St):Du (q7 keys live st) (Ev.keep keys live st):=by
 refine ⟨rfl,fun s=> ?_,fun d=>rfl,fun d=>rfl⟩
 show Bp PV.any (frF st live keys) s=Bp PV.any (keys.map fun s=>(s,(st.get s).clean fun d=>Ag d live)) s
 rw [Ym,J8]
theorem SR.refine(h:SR cx w0 N nt st a w M β)(t:Nat)(p:PV)(hr:Al w M β w0.heap.size p (a.tmps.getD t undef))(hn:∀s,p.sv=some s→s.own=false):SR cx w0 N nt (st.app ⟨[(t,p)],[]⟩) a w M β :=by
 have hg:∀s,(st.app ⟨[(t,p)],[]⟩).get s=if t=s then p else st.get s:=fun s=>Db st t s p
 refine ⟨h.defs,h.nt,h.sh.hold (fun k=> ?_) (fun k=>match k with| .inl s=>if t=s then none else some (.inl s)| .inr i=>some (.inr i)) (fun k s h1 h2=> ?_) (fun k k' j h1 h2=> ?_)⟩
 ·cases k with
  |inl s=>
   simp only [hold]
   rw [hg]
   by_cases e:t=s
   ·rw [if_pos e,←e];exact hr
   ·rw [if_neg e];exact h.sh.reg (.inl s)
  |inr i=>exact h.sh.reg (.inr i)
 ·cases k with
  |inl s'=>
   simp only [hold] at h1
   rw [hg] at h1
   by_cases e:t=s'
   ·rw [if_pos e] at h1;rw [hn _ h1] at h2;cases h2
   ·rw [if_neg e] at h1
    exact ⟨.inl s',by simp only;rw [if_neg e],h1,rfl⟩
  |inr i=>exact ⟨.inr i,rfl,h1,rfl⟩
 ·cases k with
  |inl s=>
   simp only at h1
   by_cases e:t=s
   ·rw [if_pos e] at h1;cases h1
   ·rw [if_neg e] at h1
    injection h1 with h1
    subst h1
    cases k' with
    |inl s'=>
     simp only at h2
     by_cases e:t=s'
     ·rw [if_pos e] at h2;cases h2
     ·rw [if_neg e] at h2;injection h2 with h2;exact h2.symm
    |inr i=>cases h2
  |inr i=>
   injection h1 with h1
   subst h1
   cases k' with
   |inl s'=>
    simp only at h2
    by_cases e:t=s'
    ·rw [if_pos e] at h2;cases h2
    ·rw [if_neg e] at h2;cases h2
   |inr i=>injection h2 with h2;exact h2.symm
theorem Uo(b:Nat):∀(l:List Nat) (d:Nat),d∈Me b l↔d∈l∧d≠b
 | [],d=>by simp [Me]
 |x::r,d=>by
  have ih:=Uo b r d
  unfold Me
  cases hb:Nat.beq x b with
  |true=>
   have e:=Ar hb
   subst e
   simp only [ih,List.mem_cons]
   exact ⟨fun h=>⟨.inr h.1,h.2⟩,fun h=>⟨h.1.resolve_left h.2,h.2⟩⟩
  |false=>
   have e:x≠b:=fun e=>by subst e;simp at hb
   simp only [List.mem_cons,ih]
   exact ⟨fun h=>h.elim (fun h=>⟨.inl h,fun e'=>e (by rw [←h,e'])⟩) (fun h=>⟨.inr h.1,h.2⟩),fun h=>h.1.elim .inl (fun h'=> .inr ⟨h',h.2⟩)⟩
theorem SR.frz1{S:Nat→Prop}(hcx:∀i,C7 S (cx i).1)(h:SR cx w0 N nt st a w M β)(hs:Sq S st)(t:Nat):∃M' β',SR cx w0 N nt (st.frz1 t) a w M' β'∧Sq S (st.frz1 t):=by
 unfold St.frz1
 split
 ·rename_i b e sz n hg
  split
  ·rename_i y ho hb
   have hb:=Nat.le_of_ble_eq_true hb
   have hreg:=h.reg t
   rw [hg] at hreg
   obtain ⟨bb,c,hβ,hc,hv⟩:=w8 hreg
   obtain ⟨hb1,hb2,hb3⟩:=h.sh.box b bb n hβ
   obtain ⟨cs,ty,q1,q2,q3,q4⟩:=Wu hb3 ho
   have hlive:∀d,S d→Ag d (Me b (B1 st))=false:=fun d hd=>by
    obtain ⟨k1,k2⟩:=hs d hd
    cases hn:Ag d (Me b (B1 st)) with
    |false=>rfl
    |true=>
     have h1:=(Am _ _).1 hn
     have h2:Ag d (st.ob.map Prod.fst)=true:=(Am _ _).2 (fun hm=>h1 ((Uo _ _ _).2 ⟨(I2 _ _).2 hm,fun e=>by omega⟩))
     rw [h2] at k1;cases k1
   have hk:=h.keep hcx (st.fr.map Prod.fst) (Me b (B1 st)) hlive
   have hbx:∀x m,(β.cut fun d=>Ag d (Me b (B1 st))) x≠some (bb,m):=fun x m hx=>by
    obtain ⟨h1,h2⟩:=Ha.cut_some hx
    have:=h.sh.inj x b bb m n h1 hβ
    subst this
    have:Ag x (Me x (B1 st))=true:=(Am _ _).2 (fun hm=>((Uo _ _ _).1 hm).2 rfl)
    rw [this] at h2;cases h2
   obtain ⟨hS,hE⟩:=hk.sh.fixed bb (n*y.sz) hb2 hbx (fun key s v ho' hg'=>h.sh.tokbox key s v bb b n (Yv _ _ key s v ho') hg' hβ) hb1
   have hk2:SR cx w0 N nt (Ev.keep (st.fr.map Prod.fst) (Me b (B1 st)) st) a w _ _:=⟨hk.defs,hk.nt,hS⟩
   refine ⟨_,_,(hk2.equiv (Lm _ _ _).symm).refine t (.lst false y) ?_ (fun s hs=>by injection hs with hs;subst hs;rfl),?_⟩
   ·rw [hv]
    refine I4 (s:=⟨false,y.e,y.sz,y.len,y.row⟩) rfl q2.symm q1 hc (fun i _=>LX.row_len _ _) (fun j hj m hm=> ?_) (fun i j q hi hq=> ?_)
    ·simp only [if_true] at hm
     injection hm with hm
     have:j < n*y.sz:=hj
     show j < m
     omega
    ·have hj:j < y.sz:=by have:=(List.getElem?_eq_some_iff.1 hq).1;rw [LX.row_len] at this;exact this
     have hi':i < n:=hi
     have hm:(i+1)*y.sz≤n*y.sz:=Nat.mul_le_mul_right _ hi'
     rw [Nat.add_mul,Nat.one_mul] at hm
     have hv':cs[i*y.sz+j]? =some (cs[i*y.sz+j]'(by omega)):=Array.getElem?_eq_getElem (by omega)
     obtain ⟨r1,r2⟩:=q4 i j q _ hi hq hv'
     have hfl:q.flat=true:=LX.row_flat _ _ _ (List.mem_of_getElem? hq)
     exact ⟨_,hv',hE _ _ (r1.flat hfl),r2⟩
   ·have hk3:Sq S (Ev.keep (st.fr.map Prod.fst) (Me b (B1 st)) st):=by
     intro d hd
     refine ⟨?_,(hs d hd).2⟩
     have e:(Ev.keep (st.fr.map Prod.fst) (Me b (B1 st)) st).ob.map Prod.fst=Me b (B1 st):=by
      show ((Me b (B1 st)).map fun d=>(d,_)).map Prod.fst=Me b (B1 st)
      rw [List.map_map]
      exact List.map_id' _
     rw [e];exact hlive d hd
    exact Tg (T7 hk3 (Lm _ _ _).symm) _
  ·exact ⟨M,β,h,hs⟩
 ·exact ⟨M,β,h,hs⟩
theorem SR.frzL{S:Nat→Prop}(hcx:∀i,C7 S (cx i).1):∀(ts:List Nat) {st:St} {M:It} {β :Ha},SR cx w0 N nt st a w M β→Sq S st→∃M' β',SR cx w0 N nt (st.frzL ts) a w M' β'∧Sq S (st.frzL ts)
 | [],st,M,β,h,hs=>⟨M,β,h,hs⟩
 |t::r,st,M,β,h,hs=>by
  obtain ⟨M',β',h',hs'⟩:=h.frz1 hcx hs t
  exact SR.frzL hcx r h' hs'
theorem Vw(hC:Bu P C)(hX:Gu P X)(hm:P.follows .mixedOrders=true){S:Nat→Prop}(hcx:∀i,C7 S (cx i).1)(once:Nat)(L:Nat):∀(c:Code) (V:List Nat) (out lt:Nat) (ec:EC),Jw P inl once nt V out lt c=ec→
  ∀(st:St) (a:Act) (w:World) (M:It) (β :Ha) (k:Ex→St→Prop),Sq S st→SR cx w0 N nt st a w M β→On P C X L ec st k→
  ∀(Q:Exit→Act→World→Prop),(∀e st' a' w' M' β',k e st'→Sq S st'→SR cx w0 N nt st' a' w' M' β'→Q (Aic e) a' w')→c.wp P Q a w:=by
 intro c
 induction c with
 |skip=>
  intro V out lt ec hc st a w M β k hs h hk Q hQ
  subst hc
  exact wp_skip (hQ .normal st a w M β hk hs h)
 |region id os d=>
  intro V out lt ec hc st a w M β k hs h hk Q hQ
  simp only [Jw] at hc
  cases hco:X3 P inl once os os.toList with
  |none=>rw [hco] at hc;subst hc;exact hk.elim
  |some l=>
   rw [hco] at hc
   simp only at hc
   cases hds:Nf nt l with
   |false=>rw [hds] at hc;subst hc;exact hk.elim
   |true=>
    rw [hds] at hc
    have hsel:∀eo∈l,∀o',eo.k= .scal o'→∀cs b,o'.op≠ .select cs b:=by
     intro eo hm o' hk'
     obtain ⟨i,hi,rfl⟩:=List.getElem_of_mem hm
     obtain ⟨e1,e2⟩:=Re _ _ hco
     obtain ⟨eo',q1,q2,_⟩:=e2 i (os.toList[i]'(by omega)) (List.getElem?_eq_getElem (by omega))
     rw [List.getElem?_eq_getElem hi] at q1
     injection q1 with q1
     rw [q1] at hk'
     exact n3 q2 o' hk'
    cases d with
    |false=>
     obtain ⟨st0,M0,β0,hs0,h0,hk⟩:∃st0 M0 β0,Sq S st0∧SR cx w0 N nt st0 a w M0 β0∧Er P C X l.length l st0 (fun st'=>k .normal st'):=by
      cases hfb:Nat.testBit once 40003 with
      |true=>
       rw [hfb] at hc
       subst hc
       simp only [On,Hk] at hk
       obtain ⟨M0,β0,h0,hs0⟩:=SR.frzL hcx (Abr l.reverse []) h hs
       exact ⟨_,M0,β0,hs0,h0,hk⟩
      |false=>
       rw [hfb] at hc
       subst hc
       simp only [On] at hk
       exact ⟨st,M,β,hs,h,hk⟩
     obtain ⟨st1,st',h1,h2,h3⟩:=Aaf hC hX _ l st0 st0 _ hsel (.refl _) hk
     have hs':Sq S st':=T7 (Abx h1 hs0) h2.symm
     refine wp_region ?_
     obtain ⟨hlen,hsp⟩:=Re _ _ hco
     have:=j8 (Q:=Q) (os:=os) (inl:=inl) (once:=once) (nt:=nt) h1 0 os.size (by omega) (by rw [hlen];simp) (fun j eo hj=>by
      have hjl:j < os.size:=by have:=(List.getElem?_eq_some_iff.1 hj).1;rw [hlen] at this;simpa using this
      have ho:os[j]? =some os[j]:=Array.getElem?_eq_getElem hjl
      obtain ⟨eo',g1,g2,g3,g4⟩:=hsp j os[j] (by simp [ho])
      rw [hj] at g1;injection g1 with g1;subst g1
      exact ⟨os[j],by rw [Nat.zero_add];exact ho,g2,g3,g4,fun x hx=>Sc l hds eo (List.mem_of_getElem? hj) x (by rw [g3];exact hx)⟩) a w M0 β0 h0 (fun a' w' M' β' h'=>by
       rw [hlen]
       simp only [Array.length_toList,Nat.sub_self]
       exact hQ .normal st' a' w' M' β' h3 hs' (h'.equiv h2.symm))
     rw [List.range_eq_range']
     exact this
    |true=>
     simp only at hc
     have key:(∃ap,O1 ap os.toList l=true∧ec= .region (Jr l) ap l)∨ec= .stop:=by
      cases hdr:O1 [] os.toList l with
      |true=>
       rw [hdr] at hc
       exact .inl ⟨[],hdr,hc.symm⟩
      |false=>
       rw [hdr] at hc
       simp only at hc
       cases hdr2:O1 (R8 l l) os.toList l with
       |false=>rw [hdr2] at hc;exact .inr hc.symm
       |true=>
        rw [hdr2] at hc
        exact .inl ⟨_,hdr2,hc.symm⟩
     rcases key with ⟨ap,hdr,rfl⟩|rfl
     rotate_left
     ·exact hk.elim
     simp only [On] at hk
     cases hap:Lx st ap with
     |false=>rw [hap] at hk;exact hk.elim
     |true=>
      rw [hap] at hk
      simp only at hk
      obtain ⟨δs,st1,st',h1,h2,h3⟩:=Vy hC hX l st st _ hsel (.refl _) hk
      have hs':Sq S st':=T7 (by rw [h1.last];exact Aei _ _ _ hs) h2.symm
      refine wp_region_any hm ?_
      have hrep:∀i,(Array.replicate os.size false).getD i false=false:=fun i=>by
       rw [Array.getD_eq_getD_getElem?,Array.getElem?_replicate];split<;>rfl
      refine Z3 (Q:=Q) hap h1 hco hds hdr (fun a' w' M' β' h'=>hQ .normal st' a' w' M' β' h3 hs' (h'.equiv h2.symm)) os.size _ (by simp) ?_ ?_ a _ M β ?_
      ·rw [List.filter_eq_self.2 (fun i _=>by rw [hrep];rfl)];simp
      ·intro j o ho hj;rw [hrep] at hj;cases hj
      ·rw [show Ec δs (D3 (Array.replicate os.size false)) st=st from Nu _ _ _ (fun i _=>hrep i)];exact h.drawn
 |seq x y ihx ihy=>
  intro V out lt ec hc st a w M β k hs h hk Q hQ
  subst hc
  simp only [Jw] at hk
  refine wp_seq (ihx _ _ _ _ rfl st a w M β _ hs h hk _ ?_)
  intro e st' a' w' M' β' hk' hs' h'
  cases e with
  |normal=>
   cases hb:u9 y with
   |true=>
    rw [hb] at hk'
    exact ihy _ _ _ _ rfl st' a' w' M' β' k hs' h' hk' Q hQ
   |false=>
    rw [hb] at hk'
    have hlive:∀d,S d→Ag d (B1 st')=false:=fun d hd=>by
     have:=(hs' d hd).1
     cases hn:Ag d (B1 st') with
     |false=>rfl
     |true=>
      have h1:=(Am _ _).1 hn
      have h2:Ag d (st'.ob.map Prod.fst)=true:=(Am _ _).2 (fun hm=>h1 ((I2 _ _).2 hm))
      rw [h2] at this;cases this
    have hskeep:∀keys,Sq S (keep keys (B1 st') st'):=fun keys d hd=>by
     have e:(keep keys (B1 st') st').ob.map Prod.fst=B1 st':=by
      show ((B1 st').map fun d=>(d,_)).map Prod.fst=B1 st'
      rw [List.map_map]
      exact List.map_id' (B1 st')
     rw [e];exact ⟨hlive d hd,(hs' d hd).2⟩
    exact ihy _ _ _ _ rfl _ a' w' M' _ k (T7 (hskeep _) (Lm _ _ _).symm) ((h'.keep hcx _ (B1 st') hlive).equiv (Lm _ _ _).symm) hk' Q hQ
  |exit i=>exact hQ (.exit i) st' a' w' M' β' hk' hs' h'
  |ret=>exact hQ .ret st' a' w' M' β' hk' hs' h'
 |cond c x y ihx ihy=>
  intro V out lt ec hc st a w M β k hs h hk Q hQ
  subst hc
  simp only [Jw,On] at hk
  have hr:=h.opd c
  split at hk
  ·rename_i t hq
   rw [hq] at hr
   have hv:a.eval c= .bool t:=hr.val_eq
   cases t with
   |true=>exact wp_cond_true hv (ihx _ _ _ _ rfl st a w M β k hs h hk Q hQ)
   |false=>exact wp_cond_false hv (ihy _ _ _ _ rfl st a w M β k hs h hk Q hQ)
  ·exact hk.elim
 |block id b ih=>
  intro V out lt ec hc st a w M β k hs h hk Q hQ
  subst hc
  refine wp_block (ih _ _ _ _ rfl st a w M β _ hs h hk _ ?_)
  intro e st' a' w' M' β' hk' hs' h'
  cases e with
  |normal=>exact hQ .normal st' a' w' M' β' hk' hs' h'
  |ret=>exact hQ .ret st' a' w' M' β' hk' hs' h'
  |exit i=>
   simp only [Aic,Exit.inBlock]
   by_cases e:i=id
   ·subst e
    rw [if_pos rfl]
    simp only [B7,Nat.beq_refl] at hk'
    exact hQ .normal st' a' w' M' β' hk' hs' h'
   ·rw [if_neg e]
    have hb:Nat.beq i id=false:=by
     cases hb:Nat.beq i id with
     |false=>rfl
     |true=>exact absurd (Ar hb) e
    simp only [B7,hb] at hk'
    exact hQ (.exit i) st' a' w' M' β' hk' hs' h'
 |loop b ih=>
  intro V out lt ec hc st a w M β k hs h hk Q hQ
  refine wp_loop_rounds L ?_
  simp only [Jw] at hc
  cases hfl:Nat.testBit once 40004 with
  |true=>
   rw [hfl] at hc
   subst hc
   simp only [On] at hk
   generalize hkeys:Lh nt V out (E8 b)=keys at hk
   have key:∀(n:Nat) (st:St) (a:Act) (w:World) (M:It) (β :Ha),Sq S st→SR cx w0 N nt st a w M β→Uc (On P C X L (Jw P inl once nt (V++keys) out (lt ||| E8 b) b)) keys n st k→Code.rounds P b Q n a w:=by
    intro n
    induction n with
    |zero=>intro st a w M β _ _ hk;exact hk.elim
    |succ n ihn=>
     intro st a w M β hs h hk
     rw [rounds_succ]
     refine ih _ _ _ _ rfl st a w M β _ hs h hk _ ?_
     intro e st' a' w' M' β' hk' hs' h'
     cases e with
     |normal=>
      have hlive:∀d,S d→Ag d (B1 st')=false:=fun d hd=>by
       have:=(hs' d hd).1
       cases hn:Ag d (B1 st') with
       |false=>rfl
       |true=>
        have h1:=(Am _ _).1 hn
        have h2:Ag d (st'.ob.map Prod.fst)=true:=(Am _ _).2 (fun hm=>h1 ((I2 _ _).2 hm))
        rw [h2] at this;cases this
      have hskeep:Sq S (keep keys (B1 st') st'):=fun d hd=>by
       have e:(keep keys (B1 st') st').ob.map Prod.fst=B1 st':=by
        show ((B1 st').map fun d=>(d,_)).map Prod.fst=B1 st'
        rw [List.map_map]
        exact List.map_id' (B1 st')
       rw [e];exact ⟨hlive d hd,(hs' d hd).2⟩
      exact ihn _ a' w' M' _ (T7 hskeep (Lm _ _ _).symm) ((h'.keep hcx _ (B1 st') hlive).equiv (Lm _ _ _).symm) hk'
     |exit i=>exact hQ (.exit i) st' a' w' M' β' hk' hs' h'
     |ret=>exact hQ .ret st' a' w' M' β' hk' hs' h'
   exact key L st a w M β hs h hk
  |false=>
  rw [hfl] at hc
  subst hc
  have hlive:∀d,S d→Ag d (B1 st)=false:=fun d hd=>by
   have:=(hs d hd).1
   cases hn:Ag d (B1 st) with
   |false=>rfl
   |true=>
    have h1:=(Am _ _).1 hn
    have h2:Ag d (st.ob.map Prod.fst)=true:=(Am _ _).2 (fun hm=>h1 ((I2 _ _).2 hm))
    rw [h2] at this;cases this
  simp only [On] at hk
  generalize B1 st=live at hk hlive
  have hskeep:∀keys (s:St),Sq S s→Sq S (keep keys live s):=fun keys s hs d hd=>by
   have e:(keep keys live s).ob.map Prod.fst=live:=by
    show (live.map fun d=>(d,_)).map Prod.fst=live
    rw [List.map_map]
    exact List.map_id' live
   rw [e];exact ⟨hlive d hd,(hs d hd).2⟩
  generalize hkeys:Lh nt V out (E8 b)=keys at hk
  have key:∀(n:Nat) (st:St) (a:Act) (w:World) (M:It) (β :Ha),Sq S st→SR cx w0 N nt st a w M β→Ub (On P C X L (Jw P inl once nt (V++keys) out (lt ||| E8 b) b)) keys live n st k→Code.rounds P b Q n a w:=by
   intro n
   induction n with
   |zero=>intro st a w M β _ _ hk;exact hk.elim
   |succ n ihn=>
    intro st a w M β hs h hk
    rw [rounds_succ]
    refine ih _ _ _ _ rfl st a w M β _ hs h hk _ ?_
    intro e st' a' w' M' β' hk' hs' h'
    cases e with
    |normal=>exact ihn _ a' w' M' _ (hskeep _ _ hs') (h'.keep hcx _ live hlive) hk'
    |exit i=>exact hQ (.exit i) _ a' w' M' _ hk' (hskeep _ _ hs') (h'.keep hcx _ live hlive)
    |ret=>exact hQ .ret _ a' w' M' _ hk' (hskeep _ _ hs') (h'.keep hcx _ live hlive)
  exact key L _ a w M _ (hskeep _ _ hs) (h.keep hcx _ live hlive) hk
 |exit id=>
  intro V out lt ec hc st a w M β k hs h hk Q hQ
  subst hc
  exact wp_exit (hQ (.exit id) st a w M β hk hs h)
 |ret=>
  intro V out lt ec hc st a w M β k hs h hk Q hQ
  subst hc
  exact wp_ret (hQ .ret st a w M β hk hs h)
 |rangeFunc=>intro V out lt ec hc st a w M β k hs h hk;subst hc;exact hk.elim
 |scope=>intro V out lt ec hc st a w M β k hs h hk;subst hc;exact hk.elim
 |label=>intro V out lt ec hc st a w M β k hs h hk;subst hc;exact hk.elim
 |goto=>intro V out lt ec hc st a w M β k hs h hk;subst hc;exact hk.elim
 |refuse=>intro V out lt ec hc st a w M β k hs h hk;subst hc;exact hk.elim
def R1(a:Act):ResultVar→Sem Value
 | .tmp t=>pure (a.tmps.getD t undef)
 | .cell b t=>do loadVar t (←asAddr (a.tmps.getD b undef))
theorem T0:∀(rs:List ResultVar) (k:List PV→Prop),G4 P st rs k→∃l,k l∧∀k':List PV→Prop,k' l→G4 P st rs k':=by
 intro rs
 induction rs with
 |nil=>intro k h;exact ⟨[],h,fun k' h'=>h'⟩
 |cons x rs ih=>
  intro k h
  cases x with
  |tmp t=>
   simp only [G4] at h ⊢
   obtain ⟨l,h1,h2⟩:=ih _ h
   exact ⟨_,h1,fun k' hk=>h2 (fun l=>k' (st.get t::l)) hk⟩
  |cell b t=>
   simp only [G4] at h ⊢
   split at h
   ·split at h
    ·obtain ⟨l,h1,h2⟩:=ih _ h
     exact ⟨_,h1,fun k' hk=>h2 (fun l=>k' (_::l)) hk⟩
    ·obtain ⟨l,h1,h2⟩:=ih _ h
     exact ⟨_,h1,fun k' hk=>h2 (fun l=>k' (_::l)) hk⟩
    ·exact h.elim
   ·exact h.elim
theorem Sg(h:SR cx w0 N nt st a w M β):∀(rs:List ResultVar) (k:List PV→Prop),G4 P st rs k→∃(ps:List PV) (vs:List Value),k ps∧vs.length=ps.length∧ps.length=rs.length∧
  (∀(i:Nat) (p:PV) (v:Value),ps[i]? =some p→vs[i]? =some v→Al w M β w0.heap.size p v∧((∃t,p=st.get t∧v=a.tmps.getD t undef)∨∀s,p.sv=some s→s.own=false))∧
  (rs.mapM (R1 a)).run P w= .ok vs w:=by
 intro rs
 induction rs with
 |nil=>intro k hk;exact ⟨[],[],hk,rfl,rfl,fun i p v hp=>by simp at hp,rfl⟩
 |cons x rs ih=>
  intro k hk
  cases x with
  |tmp t=>
   obtain ⟨ps,vs,h1,h2,h3,h4,h5⟩:=ih _ hk
   refine ⟨_,a.tmps.getD t undef::vs,h1,by simp [h2],by simp [h3],fun i p v hp hv=> ?_,?_⟩
   ·cases i with
    |zero=>
     rw [List.getElem?_cons_zero] at hp hv
     injection hp with hp;injection hv with hv
     subst hp;subst hv;exact ⟨h.reg t,.inl ⟨t,rfl,rfl⟩⟩
    |succ i=>exact h4 i p v (by simpa using hp) (by simpa using hv)
   ·simp only [List.mapM_cons,R1,Sem.run_bind,Sem.run_pure,Result.andThen_ok,h5]
  |cell b t=>
   simp only [G4] at hk
   cases hq:st.get b with
   |loc d off=>
    cases hs:Ow P t with
    |none=>rw [hq,hs] at hk;exact hk.elim
    |some sz=>
     cases hu:P.underlying t with
     |none=>rw [hq,hs,hu] at hk;exact hk.elim
     |some td=>
      rw [hq,hs,hu] at hk
      simp only at hk
      have hreg:=h.reg b
      rw [hq] at hreg
      obtain ⟨bb,n,hb,hv⟩:=Nj hreg
      have fin:∀(pv:PV),(Bz P t=false→sz=1)→(G5 ((st.obj d).drop off) sz && Dg (((st.obj d).drop off).take sz))=true→pv=Oq (Bz P t) (((st.obj d).drop off).take sz)→
        G4 P st rs (fun l=>k (pv::l))→∃(ps:List PV) (vs:List Value),k ps∧vs.length=ps.length∧ps.length=(ResultVar.cell b t::rs).length∧
        (∀(i:Nat) (p:PV) (v:Value),ps[i]? =some p→vs[i]? =some v→Al w M β w0.heap.size p v∧((∃t,p=st.get t∧v=a.tmps.getD t undef)∨∀s,p.sv=some s→s.own=false))∧
        ((ResultVar.cell b t::rs).mapM (R1 a)).run P w= .ok vs w:=by
       intro pv hsz hl hpv hk
       simp only [Bool.and_eq_true] at hl
       obtain ⟨v,hrun,hr⟩:=s9 (B:=w0.heap.size) (l:=((st.obj d).drop off).take sz) hu hs hsz (by rw [List.length_take];have:=(Gd _ _).1 hl.1;omega) (h.cellsAt hb (fun i p hp=>K9 hp) hl.2)
       obtain ⟨ps,vs,h1,h2,h3,h4,h5⟩:=ih _ hk
       refine ⟨_,v::vs,h1,by simp [h2],by simp [h3],fun i p u hp hu=> ?_,?_⟩
       ·cases i with
        |zero=>simp at hp hu;subst hp;subst hu;rw [hpv];exact ⟨hr,.inr (Ma _ _)⟩
        |succ i=>exact h4 i p u (by simpa using hp) (by simpa using hu)
       ·simp only [List.mapM_cons,R1,Sem.run_bind,Sem.run_pure,Result.andThen_ok,hv,asAddr,hrun,h5]
      cases g1:Bz P t<;>cases g2:Nat.beq sz 1<;>cases g3:(G5 ((st.obj d).drop off) sz && Dg (((st.obj d).drop off).take sz))<;>simp only [g1,g2,g3] at hk fin
      ·exact fin _ (fun _=>Ar g2) trivial rfl hk
      ·exact fin _ (fun e=>by cases e) trivial rfl hk
      ·exact fin _ (fun e=>by cases e) trivial rfl hk
   |_=>rw [hq] at hk;exact hk.elim
theorem Sm{fn:Func}{us:List Value}(h5:(fn.results.toList.mapM (R1 a)).run P w= .ok us w):(results fn a.tmps).run P w= .ok (if h:us.length=1 then us[0] else .tuple us.toArray) w:=by
 have e:results fn a.tmps=(do let vs←fn.results.mapM (R1 a);pure (if h:vs.size=1 then vs[0] else .tuple vs)):=rfl
 rw [e,Array.mapM_eq_mapM_toList]
 simp only [Sem.run_bind,Sem.run_map]
 rw [h5]
 simp only [Result.andThen_ok,Sem.run_pure]
 by_cases hu:us.length=1
 ·simp [hu]
 ·simp [hu]
theorem j6(sz:Nat):∀(n:Nat) (l:List PV) (i:Nat),i < n→(R2 sz n l)[i]? =some ((l.drop (i*sz)).take sz):=by
 intro n
 induction n with
 |zero=>intro l i h;omega
 |succ n ih=>
  intro l i h
  simp only [R2]
  cases i with
  |zero=>simp
  |succ i=>
   rw [List.getElem?_cons_succ,ih _ _ (by omega),List.drop_drop]
   congr 3
   rw [Nat.add_mul];omega
theorem j7(sz:Nat):∀(n:Nat) (l:List PV),(R2 sz n l).length=n:=by
 intro n
 induction n with
 |zero=>intro l;rfl
 |succ n ih=>intro l;simp only [R2,List.length_cons,ih]
theorem Abo{w0s:Nat}{O:Nat→List PV}(hN:∀x:Addr,w0s≤x.block→imm N x)(hbox:∀d b n,β d=some (b,n)→w0s≤b∧G3 w N β w0s b n (O d)):∀(m:Nat) {p:PV} {v:Value},Al w N β w0s p v→Al w N (fun _=>none) 0 (p.finN O m) v:=by
 intro m
 induction m with
 |zero=>intro p v h;exact h.pure0
 |succ m ih=>
 intro p v h
 unfold PV.finN
 split
 ·rename_i c d e sz n
  obtain ⟨b,cp,hb,hc,rfl⟩:=w8 h
  obtain ⟨hb1,hob⟩:=hbox d b n hb
  split
  ·rename_i x hO
   split
   ·rename_i g1
    have e:=Ar g1
    subst e
    obtain ⟨cs,t,q1,q2,q3,q4⟩:=Wu hob hO
    refine I4 (s:=⟨false,x.e,x.sz,x.len,x.row⟩) rfl q2.symm q1 hc (fun i _=>LX.row_len _ _) (fun i _=>hN _ hb1) (fun i j q hi hq=> ?_)
    have hj:j < x.sz:=by have:=(List.getElem?_eq_some_iff.1 hq).1;rw [LX.row_len] at this;exact this
    have hm:(i+1)*x.sz≤n*x.sz:=Nat.mul_le_mul_right _ hi
    rw [Nat.add_mul,Nat.one_mul] at hm
    have hv:cs[i*x.sz+j]? =some (cs[i*x.sz+j]'(by omega)):=Array.getElem?_eq_getElem (by omega)
    obtain ⟨r1,r2⟩:=q4 i j q _ hi hq hv
    exact ⟨_,hv,r1.flat (LX.row_flat _ _ _ (List.mem_of_getElem? hq)),r2⟩
   ·exact .any _
  ·split
   ·rename_i x hlit hlen
    split
    ·rename_i g1
     have e1:=Ar g1
     simp only [Bool.and_eq_true] at hlen
     have hlen':=(J7 _ _).1 hlen.1
     obtain ⟨l1,l2,l3⟩:=LX.lit_spec _ _ _ hlit
     rw [j7] at l2
     have hob':∃cs t,w.heap[b]? =some (.cells cs t (0,0))∧(n*sz≤cs.size)∧∀(i:Nat) (p:PV) (v:Value),i < n*sz→(O d)[i]? =some p→cs[i]? =some v→Al w N (fun _=>none) 0 (p.finN O m) v∧v.oneCell'=true:=by
      obtain ⟨cs,t,q1,q2,q3⟩:=Ig hob hlen.2
      exact ⟨cs,t,q1,by omega,fun i p v _ hp hv=>⟨ih (q3 i p v hp hv).1,(q3 i p v hp hv).2⟩⟩
     obtain ⟨cs,t,q1,q2,q3⟩:=hob'
     refine I4 (s:=⟨false,x.e,x.sz,x.len,x.row⟩) rfl l2.symm q1 hc (fun i _=>LX.row_len _ _) (fun i _=>hN _ hb1) (fun i j q hi hq=> ?_)
     have hj:j < x.sz:=by have:=(List.getElem?_eq_some_iff.1 hq).1;rw [LX.row_len] at this;exact this
     have hm:(i+1)*sz≤n*sz:=Nat.mul_le_mul_right _ hi
     rw [Nat.add_mul,Nat.one_mul] at hm
     obtain ⟨p0,hp0,hle⟩:=(l3 i _ (j6 sz n _ i hi)).get.2 j q hq
     have hp1:=K9 hp0
     rw [List.getElem?_map] at hp1
     obtain ⟨p1,hp2,rfl⟩:=Option.map_eq_some_iff.1 hp1
     rw [←e1] at hj ⊢
     have hv:cs[i*sz+j]? =some (cs[i*sz+j]'(by omega)):=Array.getElem?_eq_getElem (by omega)
     obtain ⟨r1,r2⟩:=q3 _ p1 _ (by omega) hp2 hv
     exact ⟨_,hv,r1.le hle,r2⟩
    ·exact .any _
   ·exact .any _
  ·exact .any _
 ·exact h.pure0
theorem T4{w0s:Nat}{O:Nat→List PV}(hN:∀x:Addr,w0s≤x.block→imm N x)(hbox:∀d b n,β d=some (b,n)→w0s≤b∧G3 w N β w0s b n (O d)){p:PV}{v:Value}(h:Al w N β w0s p v):
  Al w N (fun _=>none) 0 (p.fin1 O) v:=Abo hN hbox 3 h
theorem Aee{w0s:Nat}{O:Nat→List PV}(hN:∀x:Addr,w0s≤x.block→imm N x)(hbox:∀d b n,β d=some (b,n)→w0s≤b∧G3 w N β w0s b n (O d)){p:PV}{v:Value}(h:Al w N β w0s p v):
  Al w N (fun _=>none) 0 (p.fin O) v:=by
 cases p with
 |agg l=>
  cases h with
  |row p s hs=>cases hs
  |agg l cs hl h1 hr=>
   refine .agg _ cs (by rw [List.length_map,hl]) h1 (fun i q u hq hu=> ?_)
   rw [List.getElem?_map] at hq
   cases hp:l[i]? with
   |none=>rw [hp] at hq;cases hq
   |some p=>
    rw [hp] at hq
    injection hq with hq
    subst hq
    exact T4 hN hbox (hr i p u hp hu)
 |tup l=>
  cases h with
  |row p s hs=>cases hs
  |tup l cs hl hr=>
   refine .tup _ cs (by rw [List.length_map,hl]) (fun i q u hq hu=> ?_)
   rw [List.getElem?_map] at hq
   cases hp:l[i]? with
   |none=>rw [hp] at hq;cases hq
   |some p=>
    rw [hp] at hq
    injection hq with hq
    subst hq
    exact T4 hN hbox (hr i p u hp hu)
 |sl own e sz es=>
  cases h with
  |row p s hs a c vs hc hsz ha hm hr=>
   injection hs with hs;subst hs
   have hf:∀i,i < es.length→(es.map fun r=>r.map PV.pure0).getD i []=(es.getD i []).map PV.pure0:=fun i hi=>by
    simp [List.getD,hi]
   have:=Al.row (w:=w) (M:=N) (β :=fun _=>none) (B:=0) (.sl false e sz (es.map fun r=>r.map PV.pure0)) ⟨false,e,sz,(es.map fun r=>r.map PV.pure0).length,fun i=>(es.map fun r=>r.map PV.pure0).getD i []⟩ rfl a c vs
    (by simpa using hc) (fun i hi=>by
     simp only [List.length_map] at hi
     show ((es.map fun r=>r.map PV.pure0).getD i []).length=sz
     rw [hf i hi,List.length_map];exact hsz i hi) (fun i hi=>ha i (by simpa using hi))
    (fun ad i j q had hi hq=>by
     simp only [List.length_map] at hi
     have hq':((es.map fun r=>r.map PV.pure0).getD i [])[j]? =some q:=hq
     rw [hf i hi] at hq'
     obtain ⟨p,hp,rfl⟩:=Ds hq'
     exact hm ad i j p had hi hp)
    (fun i j q hi hq=>by
     simp only [List.length_map] at hi
     have hq':((es.map fun r=>r.map PV.pure0).getD i [])[j]? =some q:=hq
     rw [hf i hi] at hq'
     obtain ⟨p,hp,rfl⟩:=Ds hq'
     exact (hr i j p hi hp).pure0)
   simp only [List.length_map] at this
   exact this
 |_=>exact T4 hN hbox h
theorem d5:∀(l:List PV) (i s:Nat),Bp .any (La i l) s=if i≤s then (match l[s - i]? with|some p=>p.view|none=> .any) else .any:=by
 intro l
 induction l with
 |nil=>intro i s;simp [La,Bp]
 |cons p l ih=>
  intro i s
  simp only [La]
  rw [Bi,ih]
  by_cases e:i=s
  ·subst e;simp
  ·rw [if_neg e]
   by_cases h1:i≤s
   ·rw [if_pos (by omega),if_pos h1]
    rw [show s - i=(s - (i+1))+1 by omega]
    simp
   ·rw [if_neg (by omega),if_neg h1]
theorem Zj{κ :Type}{H: κ→PV×Value}{O:Nat→List PV}{D:Nat→Bool}{ob:List (Nat×List PV)}(base:Nat)(h:SH H w0 N O D w M β)(hO:∀d,O d=Bp [] ob d)(hD:∀d,D d=Ag d (ob.map Prod.fst))
  (args:List PV) (vs:List Value) (hl:vs.length=args.length) (hr:∀(i:Nat) (p:PV) (v:Value),args[i]? =some p→vs[i]? =some v→Al w M β w0.heap.size p v) (hn:args.length≤nt):
  SR H w0 N nt { fr:=La 0 args,ob:=ob,base:=base } { tmps:=vs.toArray++Array.replicate (nt - vs.toArray.size) undef,defers:= [] } w M β :=by
 have hg:∀s,St.get { fr:=La 0 args,ob:=ob,base:=base } s=match args[s]? with|some p=>p.view|none=> .any:=fun s=>by
  have:=d5 args 0 s
  rw [if_pos (Nat.zero_le s),Nat.sub_zero] at this
  exact this
 have e1:O=St.obj { fr:=La 0 args,ob:=ob,base:=base } :=funext hO
 have e2:D=fun d=>Ag d (ob.map Prod.fst):=funext hD
 refine ⟨rfl,by simp;omega,?_⟩
 rw [←e1]
 show SH _ w0 N O (fun d=>Ag d (ob.map Prod.fst)) w M β
 rw [←e2]
 refine h.hold (fun k=> ?_) (fun k=>match k with| .inl _=>none| .inr i=>some i) (fun k s h1 h2=> ?_) (fun k k' j h1 h2=> ?_)
 ·cases k with
  |inl s=>
   simp only [hold]
   rw [hg]
   cases hp:args[s]? with
   |none=>exact .any _
   |some p=>
    have hs:s < args.length:=(List.getElem?_eq_some_iff.1 hp).1
    have hv:vs[s]? =some (vs[s]'(by omega)):=List.getElem?_eq_getElem (by omega)
    have:(vs.toArray++Array.replicate (nt - vs.toArray.size) undef).getD s undef=vs[s]'(by omega):=by
     rw [Array.getD_eq_getD_getElem?,Array.getElem?_append_left (by simp;omega)]
     simp [hv]
    simp only []
    rw [this]
    exact (hr s p _ hp hv).view
  |inr i=>exact h.reg i
 ·cases k with
  |inl s=>
   simp only [hold] at h1
   rw [hg] at h1
   cases hp:args[s]? with
   |none=>rw [hp] at h1;cases h1
   |some p=>rw [hp] at h1;rw [Ej h1] at h2;cases h2
  |inr i=>exact ⟨i,rfl,h1,rfl⟩
 ·cases k with
  |inl s=>cases h1
  |inr i=>
   cases k' with
   |inl s=>cases h2
   |inr i'=>injection h1 with h1;injection h2 with h2;rw [h1,h2]
theorem Tz(hC:Bu P C)(hX:Gu P X){ban:List Nat} :∀(l:List B5) (st:St) (k:St→Prop),E7 P C X ban l st k→∃st',k st'∧∀k':St→Prop,k' st'→E7 P (Cv P) (Cs P) ban l st k':=by
 intro l
 induction l with
 |nil=>intro st k h;exact ⟨st,h,fun k' h'=>h'⟩
 |cons eo l ih=>
  intro st k h
  have run1:∀(su:St),Ad P C X ban eo.k eo.dst su (fun δ =>E7 P C X ban l (su.app δ) k)→∃st',k st'∧∀k':St→Prop,k' st'→Ad P (Cv P) (Cs P) ban eo.k eo.dst su (fun δ =>E7 P (Cv P) (Cs P) ban l (su.app δ) k'):=by
   intro su hs
   obtain ⟨δ,h1,h2⟩:=N4 hC hX _ _ _ _ hs
   obtain ⟨st',h3,h4⟩:=ih _ _ h1
   exact ⟨st',h3,fun k' hk=>h2 (fun δ =>E7 P (Cv P) (Cs P) ban l (su.app δ) k') (h4 k' hk)⟩
  simp only [E7] at h ⊢
  cases hg:eo.g with
  |none=>
   rw [hg] at h
   exact run1 st h
  |some sw=>
   obtain ⟨s,want⟩:=sw
   rw [hg] at h
   simp only at h ⊢
   split at h
   ·rename_i t hq
    cases t<;>cases want<;>simp only [br] at h ⊢ <;>first|exact run1 _ h|exact ih _ _ h
   ·exact ih _ _ h
   ·exact h.elim
theorem c9(hC:Bu P C)(hX:Gu P X):∀(n:Nat) (l:List B5) (st:St) (k:St→Prop),Er P C X n l st k→∃st',k st'∧∀k':St→Prop,k' st'→Er P (Cv P) (Cs P) n l st k':=by
 intro n
 induction n with
 |zero=>
  intro l st k h
  cases l with
  |nil=>exact ⟨st,h,fun k' h'=>h'⟩
  |cons _ _=>exact h.elim
 |succ n ih=>
  intro l st k h
  cases l with
  |nil=>exact ⟨st,h,fun k' h'=>h'⟩
  |cons eo l=>
   have run1:∀(su:St),Ad P C X [] eo.k eo.dst su (fun δ =>Er P C X n l (su.app δ) k)→∃st',k st'∧∀k':St→Prop,k' st'→Ad P (Cv P) (Cs P) [] eo.k eo.dst su (fun δ =>Er P (Cv P) (Cs P) n l (su.app δ) k'):=by
    intro su hs
    obtain ⟨δ,h1,h2⟩:=N4 hC hX _ _ _ _ hs
    obtain ⟨st',h3,h4⟩:=ih _ _ _ h1
    exact ⟨st',h3,fun k' hk=>h2 (fun δ =>Er P (Cv P) (Cs P) n l (su.app δ) k') (h4 k' hk)⟩
   simp only [Er] at h ⊢
   cases hg:eo.g with
   |none=>
    rw [hg] at h
    exact run1 st h
   |some sw=>
    obtain ⟨s,want⟩:=sw
    rw [hg] at h
    simp only at h ⊢
    split at h
    ·rename_i t hq
     cases hsp:Pq s (eo::l) with
     |none=>
      rw [hsp] at h
      cases t<;>cases want<;>simp only [br] at h ⊢ <;>first|exact run1 _ h|exact ih _ _ _ h
     |some x=>
      obtain ⟨B,pd,r'⟩:=x
      rw [hsp] at h
      simp only [jn] at h ⊢
      have go:∀su,E7 P C X [] B su (Sj pd (fun b=>Er P C X n r' (stJ st B pd b) k))→∃st',k st'∧∀k':St→Prop,k' st'→E7 P (Cv P) (Cs P) [] B su (Sj pd (fun b=>Er P (Cv P) (Cs P) n r' (stJ st B pd b) k')):=by
       intro su hs
       obtain ⟨sB,h1,h2⟩:=Tz hC hX _ _ _ hs
       unfold Sj at h1
       split at h1
       ·rename_i b hb
        obtain ⟨st',h3,h4⟩:=ih _ _ _ h1
        exact ⟨st',h3,fun k' hk=>h2 _ (by unfold Sj;rw [hb];exact h4 k' hk)⟩
       ·exact h1.elim
      cases t<;>simp only [br] at h ⊢ <;>exact go _ h
    ·exact ih _ _ _ h
    ·exact h.elim
theorem Yg(hC:Bu P C)(hX:Gu P X)(L:Nat):∀(ec:EC) (st:St) (k:Ex→St→Prop),On P C X L ec st k→∃e st',k e st'∧∀k':Ex→St→Prop,k' e st'→On P (Cv P) (Cs P) L ec st k':=by
 intro ec
 induction ec with
 |skip=>intro st k h;exact ⟨.normal,st,h,fun k' h'=>h'⟩
 |region ban ap l=>
  intro st k h
  simp only [On] at h ⊢
  cases hap:Lx st ap with
  |false=>rw [hap] at h;exact h.elim
  |true=>
   rw [hap] at h
   obtain ⟨st',h1,h2⟩:=Tz hC hX _ _ _ h
   exact ⟨.normal,st',h1,fun k' hk=>h2 (fun st'=>k' .normal st') hk⟩
 |regS l=>
  intro st k h
  simp only [On] at h ⊢
  obtain ⟨st',h1,h2⟩:=c9 hC hX _ _ _ _ h
  exact ⟨.normal,st',h1,fun k' hk=>h2 (fun st'=>k' .normal st') hk⟩
 |seq a b iha ihb=>
  intro st k h
  simp only [On] at h ⊢
  obtain ⟨e,st1,h1,h2⟩:=iha _ _ h
  cases e with
  |normal=>
   obtain ⟨e,st',h3,h4⟩:=ihb _ _ h1
   exact ⟨e,st',h3,fun k' hk=>h2 _ (h4 k' hk)⟩
  |exit i=>exact ⟨.exit i,st1,h1,fun k' hk=>h2 _ hk⟩
  |ret=>exact ⟨.ret,st1,h1,fun k' hk=>h2 _ hk⟩
 |cond c a b iha ihb=>
  intro st k h
  simp only [On] at h ⊢
  split at h
  ·rename_i t hq
   cases t with
   |true=>exact iha _ _ h
   |false=>exact ihb _ _ h
  ·exact h.elim
 |block id b ih=>
  intro st k h
  simp only [On] at h ⊢
  obtain ⟨e,st1,h1,h2⟩:=ih _ _ h
  cases e with
  |normal=>exact ⟨.normal,st1,h1,fun k' hk=>h2 _ hk⟩
  |ret=>exact ⟨.ret,st1,h1,fun k' hk=>h2 _ hk⟩
  |exit i=>
   cases hb:Nat.beq i id with
   |true=>
    simp only [B7,hb] at h1
    exact ⟨.normal,st1,h1,fun k' hk=>h2 _ (by simp only [B7,hb];exact hk)⟩
   |false=>
    simp only [B7,hb] at h1
    exact ⟨.exit i,st1,h1,fun k' hk=>h2 _ (by simp only [B7,hb];exact hk)⟩
 |loop keys b ih=>
  intro st k h
  simp only [On] at h ⊢
  generalize keep keys (B1 st) st=s0 at h ⊢
  generalize B1 st=live at h ⊢
  have key:∀(n:Nat) (st:St) (k:Ex→St→Prop),Ub (On P C X L b) keys live n st k→∃e st',k e st'∧∀k':Ex→St→Prop,k' e st'→Ub (On P (Cv P) (Cs P) L b) keys live n st k':=by
   intro n
   induction n with
   |zero=>intro st k h;exact h.elim
   |succ n ihn=>
    intro st k h
    obtain ⟨e,st1,h1,h2⟩:=ih _ _ h
    cases e with
    |normal=>
     obtain ⟨e,st',h3,h4⟩:=ihn _ _ h1
     exact ⟨e,st',h3,fun k' hk=>h2 _ (h4 k' hk)⟩
    |exit i=>exact ⟨.exit i,_,h1,fun k' hk=>h2 _ hk⟩
    |ret=>exact ⟨.ret,_,h1,fun k' hk=>h2 _ hk⟩
  exact key L s0 k h
 |exit id=>intro st k h;exact ⟨.exit id,st,h,fun k' h'=>h'⟩
 |kp keys=>intro st k h;exact ⟨.normal,_,h,fun k' h'=>h'⟩
 |frz ts=>intro st k h;exact ⟨.normal,_,h,fun k' h'=>h'⟩
 |loopU keys b ih=>
  intro st k h
  simp only [On] at h ⊢
  have key:∀(n:Nat) (st:St) (k:Ex→St→Prop),Uc (On P C X L b) keys n st k→∃e st',k e st'∧∀k':Ex→St→Prop,k' e st'→Uc (On P (Cv P) (Cs P) L b) keys n st k':=by
   intro n
   induction n with
   |zero=>intro st k h;exact h.elim
   |succ n ihn=>
    intro st k h
    obtain ⟨e,st1,h1,h2⟩:=ih _ _ h
    cases e with
    |normal=>
     obtain ⟨e,st',h3,h4⟩:=ihn _ _ h1
     exact ⟨e,st',h3,fun k' hk=>h2 _ (h4 k' hk)⟩
    |exit i=>exact ⟨.exit i,_,h1,fun k' hk=>h2 _ hk⟩
    |ret=>exact ⟨.ret,_,h1,fun k' hk=>h2 _ hk⟩
  exact key L st k h
 |ret=>intro st k h;exact ⟨.ret,st,h,fun k' h'=>h'⟩
 |stop=>intro st k h;exact h.elim
theorem Bu.star:Bu P (Cv P):=fun _ _ _ h=>h
theorem Gu.star:Gu P (Cs P):=fun _ _ _ _ h=>h
theorem Sy{f:Nat}{args:List PV}{ob:List (Nat×List PV)}{r:PV}(h:Holds P f (args.map (U0 (Bp [] ob))) r):Hg P f args ob r.view []:=by
 intro κ H w0 w N M β O D vs hO hD hS hl hr
 have hsr:SR H w0 N 0 { fr:= [],ob:=ob,base:=0 } { tmps:= #[],defers:= [] } w M β :=by
  have e1:O=St.obj { fr:= [],ob:=ob,base:=0 } :=funext hO
  have e2:D=fun d=>Ag d (ob.map Prod.fst):=funext hD
  refine ⟨rfl,rfl,?_⟩
  rw [←e1]
  show SH _ w0 N O (fun d=>Ag d (ob.map Prod.fst)) w M β
  rw [←e2]
  refine hS.hold (fun k=> ?_) (fun k=>match k with| .inl _=>none| .inr i=>some i) (fun k s h1 h2=> ?_) (fun k k' j h1 h2=> ?_)
  ·cases k with
   |inl s=>exact .any _
   |inr i=>exact hS.reg i
  ·cases k with
   |inl s=>cases h1
   |inr i=>exact ⟨i,rfl,h1,rfl⟩
  ·cases k with
   |inl s=>cases h1
   |inr i=>
    cases k' with
    |inl s=>cases h2
    |inr i'=>injection h1 with h1;injection h2 with h2;rw [h1,h2]
 refine Calls.mono (h w M vs (by simp [hl]) (fun i p v hp hv=> ?_) hS.mlt) ?_
 ·rw [List.getElem?_map] at hp
  cases hx:args[i]? with
  |none=>rw [hx] at hp;cases hp
  |some x=>
   rw [hx] at hp
   simp only [Option.map_some,Option.some.injEq] at hp
   subst hp
   exact Zh hsr (hr i x v hx hv)
 ·rintro e w' ⟨v,rfl,hv,hb⟩
  have e1:O=Bp [] ([]++ob):=funext hO
  have e2:D=fun d=>Ag d (([]++ob).map Prod.fst):=funext hD
  refine ⟨v,M,β,rfl,?_⟩
  rw [←e1,←e2]
  exact (hS.world hb).cons _ v hv.up.view (fun s h1 h2=>by rw [Ej h1] at h2;cases h2)
def Tk(P:Program)(f e b:Nat):Prop:=Dj P f=true∧∀(w:World) (m:Nat),m*b≤140737488355328→m≤4611686018427387904→
 Calls P f #[.slice none 0 0,.int .i64 m] w fun en w'=>(en= .returned (.slice none 0 0)∧w'=w)∨
  ∃(w1:World) (cs:Array Value) (c:Nat),en= .returned (.slice (some ⟨w1.heap.size,0,none⟩) 0 c)∧Below w.heap.size w w1∧w'=w1.alloc (.cells cs e)∧(∀x,LX.nil e=some x→cs.size=c*x.sz)∧c≤maxLen
def m7(P:Program)(f e:Nat):Prop:=Dj P f=true∧∀(a:Option Addr) (c:Nat) (w:World),
 Calls P f #[.slice a 0 c] w fun en w'=>(en= .returned (.slice none 0 0)∧w'=w)∨(en= .returned (.slice (some ⟨w.heap.size,0,none⟩) 0 0)∧w'=w.alloc (.cells #[] e))
def Rc(P:Program)(G:Nat→Option (Nat×Nat)):Prop:=∀f e b,G f=some (e,b)→(b=0→m7 P f e)∧(b≠0→Tk P f e b)
theorem Ys{f e b:Nat}(hg:Tk P f e b){x:LX}(hx:LX.nil e=some x){m:Int}(h0:0≤m)(hb:m*(b:Int)≤140737488355328)(hm:m≤(4611686018427387904:Int))(ob:List (Nat×List PV)):
  Hg P f [.val (.slice none 0 0),.val (.int .i64 m)] ob (.lst true x) []:=by
 intro κ H w0 w N M β O D vs hO hD hS hl hr
 match vs,hl with
 | [v1,v2],_=>
  have e1:v1= .slice none 0 0:=(hr 0 _ v1 rfl rfl).val_eq
  have e2:v2= .int .i64 m:=(hr 1 _ v2 rfl rfl).val_eq
  subst e1;subst e2
  obtain ⟨n,rfl⟩:=Int.eq_ofNat_of_zero_le h0
  obtain ⟨hxe,hxn⟩:=LX.nil_spec e x hx
  have o1:O=Bp [] ([]++ob):=funext hO
  have o2:D=fun d=>Ag d (([]++ob).map Prod.fst):=funext hD
  refine Calls.mono (hg.2 w n (by
   have:((n*b:Nat):Int)≤140737488355328:=by rw [Int.natCast_mul];exact hb
   omega) (by omega)) ?_
  rintro en w' (⟨rfl,rfl⟩|⟨w1,cs,c,rfl,hbel,rfl,hsz,hc⟩)
  ·refine ⟨_,M,β,rfl,?_⟩
   rw [←o1,←o2]
   refine hS.cons (.lst true x) (.slice none 0 0) (Al.le (PV.Le.nil true x hxn) (Al.val _ rfl)) (fun s h1 _=> ?_)
   injection h1 with h1;subst h1
   exact ⟨.inl ⟨_,rfl,hxn⟩,fun key s' v' g _ hg=>absurd hg Cx,fun g d n hg=>absurd hg Cx⟩
  ·have hS1:=hS.world hbel
   obtain ⟨_,hS2,_,hb1,hn1⟩:=hS1.rowNew cs e 0
   have hh:=heap_alloc_new w1 (.cells cs e)
   have hle:w0.heap.size≤w1.heap.size:=hS1.bel.size
   refine ⟨_,(fun b=>if b=w1.heap.size then some 0 else M b),β,rfl,?_⟩
   rw [←o1,←o2]
   refine hS2.cons (.lst true x) _ (I4 (s:=⟨true,x.e,x.sz,x.len,x.row⟩) rfl hxn.symm hh (Nat.zero_le _) (fun i hi=>by omega) (fun i hi=>by omega) (fun i j q hi=>by omega)) (fun s h1 _=> ?_)
   injection h1 with h1;subst h1
   cases c with
   |zero=>exact ⟨.inl ⟨_,rfl,hxn⟩,fun key s' v' g _ hg=>absurd hg Cx,fun g d n hg=>absurd hg Cx⟩
   |succ c=>
    refine ⟨.inr ⟨w1.heap.size,c,cs,by rw [hxn],hle,by simp [hxn],by rw [hxe];exact hh,by simp [hxn],hc,by rw [hsz x hx]⟩,fun key s' v' g ho' hg=> ?_,fun g d n hg=> ?_⟩
    ·have:w1.heap.size=g:=by simpa [tb] using hg
     rw [←this];exact (hn1 key s' v' ho').2
    ·have:w1.heap.size=g:=by simpa [tb] using hg
     rw [←this];exact hb1 d n
theorem Ww{f e:Nat}(hg:m7 P f e){x:LX}(hx:LX.nil e=some x)(o:Bool){z:LX}(hz:Nat.beq z.len 0=true)(ob:List (Nat×List PV)):
  Hg P f [.lst o z] ob (.lst true x) []:=by
 intro κ H w0 w N M β O D vs hO hD hS hl hr
 match vs,hl with
 | [v1],_=>
  have hz0:z.len=0:=Nat.eq_of_beq_eq_true hz
  obtain ⟨a,c,rfl⟩:∃a c,v1= .slice a 0 c:=by
   cases hr 0 _ v1 rfl rfl with
   |row p s hs a c vs _ _ _ _ _=>
    injection hs with hs
    subst hs
    exact ⟨a,c,by show Value.slice a z.len c=_;rw [hz0]⟩
  obtain ⟨hxe,hxn⟩:=LX.nil_spec e x hx
  have o1:O=Bp [] ([]++ob):=funext hO
  have o2:D=fun d=>Ag d (([]++ob).map Prod.fst):=funext hD
  refine Calls.mono (hg.2 a c w) ?_
  rintro en w' (⟨rfl,rfl⟩|⟨rfl,rfl⟩)
  ·refine ⟨_,M,β,rfl,?_⟩
   rw [←o1,←o2]
   refine hS.cons (.lst true x) (.slice none 0 0) (Al.le (PV.Le.nil true x hxn) (Al.val _ rfl)) (fun s h1 _=> ?_)
   injection h1 with h1;subst h1
   exact ⟨.inl ⟨_,rfl,hxn⟩,fun key s' v' g _ hg=>absurd hg Cx,fun g d n hg=>absurd hg Cx⟩
  ·obtain ⟨_,hS2,_,hb1,hn1⟩:=hS.rowNew #[] e 0
   have hh:=heap_alloc_new w (.cells #[] e)
   refine ⟨_,(fun b=>if b=w.heap.size then some 0 else M b),β,rfl,?_⟩
   rw [←o1,←o2]
   refine hS2.cons (.lst true x) _ (I4 (s:=⟨true,x.e,x.sz,x.len,x.row⟩) rfl hxn.symm hh (Nat.zero_le _) (fun i hi=>by omega) (fun i hi=>by omega) (fun i j q hi=>by omega)) (fun s h1 _=> ?_)
   injection h1 with h1;subst h1
   exact ⟨.inl ⟨_,rfl,hxn⟩,fun key s' v' g _ hg=>absurd hg Cx,fun g d n hg=>absurd hg Cx⟩
def Ai6(t:Option Nat):Hw (Option ι)→Option (Hw (Nat ⊕ ι))
 | .slot none=>t.map fun s=> .slot (.inl s)
 | .slot (some k)=>some (.slot (.inr k))
 | .cell x i=>some (.cell x i)
def Akp:Hw (Nat ⊕ ι)→Hw (Option ι)
 | .slot (.inl _)=> .slot none
 | .slot (.inr k)=> .slot (some k)
 | .cell x i=> .cell x i
theorem Zc{t:Option Nat}{k:Hw (Option ι)}{j:Hw (Nat ⊕ ι)}(h:Ai6 t k=some j):k=Akp j:=by
 cases k with
 |slot k=>
  cases k with
  |none=>
   cases t with
   |none=>cases h
   |some s=>injection h with h;subst h;rfl
  |some k=>injection h with h;subst h;rfl
 |cell x i=>injection h with h;subst h;rfl
theorem Afo(h:SR cx w0 N nt st a w M β){ob:List (Nat×List PV)}{r:PV}{v:Value}(hr:Al w M β w0.heap.size r v)(ho:(∃t,r=st.get t∧v=a.tmps.getD t undef)∨∀s,r.sv=some s→s.own=false):
  SH (Jg (r,v) cx) w0 N (Bp [] (st.ob++ob)) (fun d=>Ag d ((st.ob++ob).map Prod.fst)) w M β :=by
 have hO:∀d x,β d=some x→Bp [] (st.ob++ob) d=st.obj d:=fun d x hd=>by
  rw [Ik,if_pos]
  ·rfl
  ·cases hn:Ag d (st.ob.map Prod.fst) with
   |true=>have:=h.sh.dom d hn;rw [this] at hd;cases hd
   |false=>
    have:¬Ag d (st.ob.map Prod.fst)=true:=by rw [hn];simp
    rw [Am] at this
    exact Classical.not_not.1 this
 have key:∀(t:Option Nat),(∀s,r.sv=some s→s.own=true→∃t',t=some t'∧r=st.get t'∧v=a.tmps.getD t' undef)→SH (Jg (r,v) cx) w0 N (Bp [] (st.ob++ob)) (fun d=>Ag d ((st.ob++ob).map Prod.fst)) w M β :=by
  intro t ht
  refine h.sh.perm (fun k=> ?_) (fun d b n hd=>by rw [hO d _ hd];exact (h.sh.box d b n hd).2.2) (fun d hd=> ?_) (Ai6 t) ?_ (fun k k' j h1 h2=>(Zc h1).trans (Zc h2).symm)
  ·cases k with
   |none=>exact hr
   |some k=>exact h.sh.reg (.inr k)
  ·rw [List.map_append,J9,Bool.and_eq_true] at hd
   exact h.sh.dom d hd.1
  ·intro key s u hk
   cases key with
   |slot k=>
    cases k with
    |none=>
     obtain ⟨q1,q2,q3⟩:=hk
     obtain ⟨t',e1,e2,e3⟩:=ht s q1 q2
     subst e1
     refine ⟨.slot (.inl t'),rfl,?_,q2,?_⟩
     ·show (st.get t').sv=some s
      rw [←e2];exact q1
     ·show a.tmps.getD t' undef=u
      rw [←e3];exact q3
    |some k=>exact ⟨_,rfl,hk⟩
   |cell d i=>
    obtain ⟨b,n,p,q1,q2,q3⟩:=hk
    rw [hO d _ q1] at q2
    exact ⟨.cell d i,rfl,b,n,p,q1,q2,q3⟩
 rcases ho with ⟨t,e1,e2⟩|ho
 ·exact key (some t) (fun s _ _=>⟨t,rfl,e1,e2⟩)
 ·exact key none (fun s h1 h2=>by rw [ho s h1] at h2;cases h2)
theorem V8:∀ {ob:List (Nat×List PV)} {d:Nat},Ag d (ob.map Prod.fst)=false→d < Mb ob
 | [],d,h=>by cases h
 |(x,l)::r,d,h=>by
  simp only [List.map_cons,Ag] at h
  unfold Mb
  cases hb:Nat.beq x d with
  |true=>
   have e:=Ar hb
   subst e
   cases hl:Nat.ble (Mb r) x with
   |true=>simp
   |false=>
    simp only
    rcases Nat.lt_or_ge x (Mb r) with h1|h1
    ·exact h1
    ·rw [Nat.ble_eq_true_of_le h1] at hl;cases hl
  |false=>
   rw [hb] at h
   have ih:=V8 (ob:=r) h
   cases hl:Nat.ble (Mb r) x with
   |true=>have:=Nat.le_of_ble_eq_true hl;simp only;omega
   |false=>exact ih
theorem Ri{X:Tc}(hC:Bu P C)(ih:Gu P X)(hm:P.follows .mixedOrders=true)(L:Nat):Gu P (evJ P inl C L X):=by
  intro f args ob k h
  simp only [evJ] at h
  split at h
  ·split at h
   ·rename_i fn hf
    split at h
    ·rename_i ec hc hn hcall
     refine ⟨hcall,?_⟩
     unfold cFn at hc
     cases hb:fn.body with
     |none=>rw [hb] at hc;cases hc
     |some c=>
      rw [hb] at hc
      injection hc with hc
      obtain ⟨e,st',h1,h2⟩:=Yg hC ih L ec _ _ h
      have hfin:∃l,W3 (Ml st'.ob) k l∧G4 P st' fn.results.toList (fun l'=>l'=l)∧(e= .normal∨e= .ret):=by
       cases e with
       |exit i=>exact h1.elim
       |normal=>obtain ⟨l,q1,q2⟩:=T0 _ _ h1;exact ⟨l,q1,q2 _ rfl,.inl rfl⟩
       |ret=>obtain ⟨l,q1,q2⟩:=T0 _ _ h1;exact ⟨l,q1,q2 _ rfl,.inr rfl⟩
      obtain ⟨l,h3,h4,h5⟩:=hfin
      have main:∀(r:PV),(∃t,l= [t]∧r=t)∨(l.length≠1∧r= .tup (l.map PV.view))→Hg P f args ob r st'.ob:=by
       intro r hrl κ H w0 w N M β O D vs hO hD hS hl hr
       refine calls_of_wp hf hb ?_
       have hS':∀k,C7 (fun d=>∃x,β d=some x) (H k).1:=fun k=>(hS.reg k).locs
       have hHas:Sq (fun d=>∃x,β d=some x) { fr:=La 0 args,ob:=ob,base:=Mb ob } :=by
        rintro d ⟨x,hx⟩
        have hn:Ag d (ob.map Prod.fst)=false:=by
         cases hn:Ag d (ob.map Prod.fst) with
         |false=>rfl
         |true=>
          have:=hS.dom d (by rw [hD];exact hn)
          rw [this] at hx;cases hx
        exact ⟨hn,V8 hn⟩
       refine Vw (cx:=H) (w0:=w0) (N:=N) (Bu.star (P:=P)) (Gu.star (P:=P)) hm hS' _ L c _ _ _ ec hc _ _ w M β (fun e' s'=>e'=e∧s'=st') hHas (Zj _ hS hO hD args vs hl hr (Nat.le_of_ble_eq_true hn)) (h2 _ ⟨rfl,rfl⟩) _ ?_
       rintro e' s' a' w' M' β' ⟨rfl,rfl⟩ _ hSR
       obtain ⟨ps,us,q1,q2,q3,q4,q5⟩:=Sg hSR _ _ h4
       subst q1
       have hrun:=Sm q5
       have fin:a'.defers= []∧∃v,(results fn a'.tmps).run P w'= .ok v w'∧∃v2 M2 β2,Ending.returned v= .returned v2∧SH (Jg (r,v2) H) w0 N (Bp [] (s'.ob++ob)) (fun d=>Ag d ((s'.ob++ob).map Prod.fst)) w' M2 β2:=by
        refine ⟨hSR.defs,_,hrun,_,M',β',rfl,?_⟩
        rcases hrl with ⟨t,hl1,rfl⟩|⟨hl1,rfl⟩
        ·subst hl1
         match us,q2,q4 with
         | [u],_,q4=>
          obtain ⟨r1,r2⟩:=q4 0 _ u rfl rfl
          exact Afo hSR r1 r2
        ·have hne:¬us.length=1:=by rw [q2];exact hl1
         rw [dif_neg hne]
         refine Afo hSR (.tup _ us (by rw [List.length_map,q2]) (fun i q u hq hu=> ?_)) (.inr (Dh rfl))
         obtain ⟨p,hp,rfl⟩:=B3 hq
         exact (q4 i p u hp hu).1.view
       rcases h5 with rfl|rfl
       ·exact fin
       ·exact fin
      match l,h3,main with
      | [],h3,main=>exact ⟨_,_,Hg.norm (main _ (.inr ⟨by simp,rfl⟩)),h3⟩
      | [r],h3,main=>exact ⟨_,_,Hg.norm (main _ (.inl ⟨r,rfl,rfl⟩)),h3⟩
      |a::b::l,h3,main=>exact ⟨_,_,Hg.norm (main _ (.inr ⟨by simp,rfl⟩)),h3⟩
    ·exact h.elim
   ·exact h.elim
  ·split at h
   ·rename_i hcall
    obtain ⟨r,h1,h2⟩:=hC _ _ _ h
    exact ⟨hcall,_,_,Sy h1,h2⟩
   ·exact h.elim
theorem Z9{G:Nat→Option (Nat×Nat)}(hG:Rc P G)(hC:Bu P C)(hm:P.follows .mixedOrders=true)(L:Nat):∀n,Gu P (Yh P inl G C L n):=by
 intro n
 induction n with
 |zero=>intro f args ob k h;exact h.elim
 |succ n ih=>
  intro f args ob k h
  simp only [Yh,evB] at h
  cases hGf:G f with
  |some eb=>
   obtain ⟨e,b⟩:=eb
   rw [hGf] at h
   simp only at h
   have hg:=hG f e b hGf
   cases hb:Nat.beq b 0 with
   |true=>
    rw [hb] at h
    simp only [Abi] at h
    have hg:=hg.1 (Nat.eq_of_beq_eq_true hb)
    split at h
    ·rename_i o z x hx
     cases hz:Nat.beq z.len 0 with
     |true=>
      rw [hz] at h
      exact ⟨hg.1,_,_,Ww hg hx o hz ob,h⟩
     |false=>
      rw [hz] at h
      exact Ri hC ih hm L _ _ _ _ h
    ·exact Ri hC ih hm L _ _ _ _ h
   |false=>
    rw [hb] at h
    simp only [Afh,Ac] at h
    have hg:=hg.2 (fun e=>by subst e;cases hb)
    split at h
    ·rename_i m x hx
     exact ⟨hg.1,_,_,Ys hg hx h.1 h.2.1 h.2.2.1 ob,h.2.2.2⟩
    ·exact h.elim
  |none=>
   rw [hGf] at h
   exact Ri hC ih hm L _ _ _ _ h
theorem Vx{G:Nat→Option (Nat×Nat)}{J:Nat→Bool}(hG:Rc P G)(hC:Bu P C)(hm:P.follows .mixedOrders=true)(L:Nat)(n:Nat):Gu P (evI P inl G J C L n):=by
 rw [b0];exact Z9 hG hC hm L n
theorem Si(hC:Bu P C)(hX:Gu P X)(hm:P.follows .mixedOrders=true)(L:Nat){f:Nat}{fn:Func}(hf:P.funcs[f]? =some fn){ec:EC}(hc:cFn P inl fn=some ec)(args:List PV)(r:PV)
  (hn:Nat.ble args.length fn.ntmps=true) (h:Aed P C X L fn.results.toList ec args (fun p=>p=r)):Holds P f args r:=by
 unfold cFn at hc
 cases hb:fn.body with
 |none=>rw [hb] at hc;cases hc
 |some c=>
  rw [hb] at hc
  injection hc with hc
  intro w N vs hl hr hN
  refine calls_of_wp hf hb ?_
  have h0:SH (fun(e:Empty)=>(e.elim:PV×Value)) w N (fun _=> []) (fun _=>true) w N (fun _=>none):=
   ⟨Below.refl _ _,fun _ _=>rfl,hN,(fun d b n h=>by cases h),(fun d d' b n n' h=>by cases h),fun _ _=>rfl,fun k=>k.elim,
    (fun key s v ho=>by cases key with|slot k=>exact k.elim|cell d i=>obtain ⟨b,n,p,h,_⟩:=ho;cases h),
    (fun key key' s s' v v' g ho=>by cases key with|slot k=>exact k.elim|cell d i=>obtain ⟨b,n,p,h,_⟩:=ho;cases h),
    (fun key s v g d n ho=>by cases key with|slot k=>exact k.elim|cell d i=>obtain ⟨b,n,p,h,_⟩:=ho;cases h)⟩
  refine Vw (cx:=fun(e:Empty)=>(e.elim:PV×Value)) (w0:=w) (N:=N) (S:=fun _=>False) hC hX hm (fun k=>k.elim) _ L c _ _ _ ec hc _ _ w N (fun _=>none) _ (fun d hd=>hd.elim)
   (Zj (ob:= []) 0 h0 (fun _=>rfl) (fun _=>rfl) args vs hl hr (Nat.le_of_ble_eq_true hn)) h _ ?_
  intro e st' a' w' M' β' hk _ hS
  have fin:G4 P st' fn.results.toList (Ni st'.obj fun p=>p=r)→a'.defers= []∧∃v,(results fn a'.tmps).run P w'= .ok v w'∧∃u,Ending.returned v= .returned u∧Al w' N (fun _=>none) 0 r u∧Below w.heap.size w w':=by
   intro hk
   obtain ⟨ps,us,h1,h2,h3,h4,h5⟩:=Sg hS _ _ hk
   have himm:∀x:Addr,imm M' x→imm N x:=fun x hi n hn=>by
    have hx:=hN _ _ hn
    exact hi n (by rw [hS.sh.mN _ hx];exact hn)
   have hmono:∀p v,Al w' M' β' w.heap.size p v→Al w' N β' w.heap.size p v:=fun p v hp=>hp.ext (fun x u hi hc=>⟨himm x hi,hc⟩) (fun _ _=>rfl) (fun _ _ h=>h)
   have hNb:∀x:Addr,w.heap.size≤x.block→imm N x:=fun x hx n hn=>by have:=hN _ _ hn;omega
   have hbox:∀d b n,β' d=some (b,n)→w.heap.size≤b∧G3 w' N β' w.heap.size b n (st'.obj d):=fun d b n hd=>
    ⟨(hS.sh.box d b n hd).1,(hS.sh.box d b n hd).2.2.ext rfl hmono⟩
   have hfin:∀p v,Al w' M' β' w.heap.size p v→Al w' N (fun _=>none) 0 (p.fin st'.obj) v:=fun p v hp=>Aee hNb hbox (hmono p v hp)
   refine ⟨hS.defs,_,Sm h5,_,rfl,?_,hS.sh.bel⟩
   match ps,us,h1,h2,h4 with
   | [],[],h1,_,h4=>
    have h1':PV.tup []=r:=h1
    rw [←h1']
    exact .tup [] [] rfl (fun i p v hp=>by simp at hp)
   | [p],[u],h1,_,h4=>
    have h1':p.fin st'.obj=r:=h1
    rw [←h1']
    exact hfin _ _ (h4 0 p u rfl rfl).1
   |p::q::ps,u::u'::us,h1,h2,h4=>
    have h1':PV.tup ((p::q::ps).map (PV.fin st'.obj))=r:=h1
    rw [←h1']
    refine .tup _ _ (by simpa using h2.symm) (fun i x v hx hv=> ?_)
    rw [List.getElem?_map] at hx
    cases hp:(p::q::ps)[i]? with
    |none=>rw [hp] at hx;cases hx
    |some y=>
     rw [hp] at hx
     injection hx with hx
     subst hx
     exact hfin _ _ (h4 i y v hp hv).1
  cases e with
  |normal=>exact fin hk
  |ret=>exact fin hk
  |exit i=>exact hk.elim
end
end Go.Proofs.YtmimkinjcfekmaaGreat.Ev
