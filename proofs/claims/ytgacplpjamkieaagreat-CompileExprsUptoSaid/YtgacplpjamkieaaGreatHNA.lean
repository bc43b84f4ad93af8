/-  The names of an expression that mentions none: the walk. -/
import Derived.Test.YtgacplpjamkieaaGreatHFE
import Derived.WalkKit
import Derived.Lib.Walk
import Derived.Lib.SliceRun
import Derived.Lib.Hide
import Derived.Deep.LoopGhost
import Derived.Test.YtgacplpjamkieaaGreatHFW
set_option maxRecDepth 100000
set_option linter.unusedVariables false
set_option linter.unusedSimpArgs false
set_option linter.unnecessarySimpa false
namespace Go.Proofs.YtgacplpjamkieaaGreat.Ev
open Go Go.RowKit Go.Lib Go.Proofs
mutual
def nmE:Aa->List Yb
 | .mk op nm _ k=>(if op=3\/(22<=op/\op<=24) then[nm] else[])++nmL k
def nmL:List Aa->List Yb
 | []=> []
 |x::k=>nmE x++nmL k
end
mutual
def ndE:Aa->Nat
 | .mk _ _ _ k=>1+ndL k
def ndL:List Aa->Nat
 | []=>0
 |x::k=>ndE x+ndL k
end
theorem Bc9(x:Aa):1<=ndE x:=by cases x with|mk a b c d=>rw[ndE];omega
theorem Bda(l:List Aa):l.length<=ndL l:=by
 induction l with
 |nil=>rw[ndL];exact Nat.le_refl _
 |cons x l ih=>rw[ndL,List.length_cons];have:=Bc9 x;omega
theorem Bdb{x:Aa}{l:List Aa}(h:x∈l):ndE x<=ndL l:=by
 induction l with
 |nil=>cases h
 |cons y l ih=>
  rw[ndL];rcases List.mem_cons.1 h with rfl|h
  ·omega
  ·have:=ih h;omega
theorem Bc8(x:Aa):x.aQ.length<=ndE x:=by
 cases x with|mk a b c d=>rw[ndE];have:=Bda d;show d.length<=_;omega
theorem Bc7(x:Aa)(k:Nat)(h:k<x.aQ.length):ndE (x.aQ.getD k default)<=ndE x:=by
 have h1:=Bdb (l:=x.aQ) (x:=x.aQ.getD k default) (by rw[Rx _ k h];exact List.getElem_mem h);cases x with|mk a b c d=>rw[ndE];have h2:ndE (d.getD k default)<=ndL d:=h1;show ndE (d.getD k default)<=_;omega
theorem Bjr(x:Aa):nmE x=(if x.Op=3\/(22<=x.Op/\x.Op<=24) then[x.aD] else[])++nmL x.aQ:=by
 cases x with|mk a b c d=>rw[nmE];rfl
theorem Bik(x:Aa)(i:Nat)(h:i<x.aQ.length):SizeOf.sizeOf (x.aQ.getD i default)<SizeOf.sizeOf x:=by
 cases x with
 |mk a b c d=>
  rw[Rx _ i h];have:SizeOf.sizeOf (d[i]'h)<SizeOf.sizeOf d:=List.sizeOf_lt_of_mem (List.getElem_mem h);simp only[Aa.mk.sizeOf_spec];show SizeOf.sizeOf (d[i]'h)<_
  omega
def Aqn(w:World)(N:Jw)(a:Option Addr)(ks:List Aa):Prop:=∀i,i<ks.length->∃(ad:Addr) (v:Nat->Value),a=some ad/\(∀j,j<4->w.cell? (ad.add (i*4+j))=some (v j))/\
 Bk w N (λ_=>none) (λb=>b<w.heap.size) (.agg (Bm (ks.getD i default))) (.agg #[v 0,v 1,v 2,v 3])
theorem At2{w:World}{N:Jw}{x:Aa}{v:Value}(h:Bk w N (λ_=>none) (λb=>b<w.heap.size) (.agg (Bm x)) v):
  ∃a c,v=.agg #[.int .i64 x.Op,.string x.aD,.int .i64 x.N,.slice a x.aQ.length c]/\Aqn w N a x.aQ:=by
 generalize hp:PV.agg (Bm x)=p at h;cases h with
 |agg l cs hl h1 hr=>
  injection hp with hp
  subst hp
  match cs,hl with
  | [c0,c1,c2,c3],_=>
   have e0:c0=.int .i64 x.Op:=(hr 0 _ c0 rfl rfl).val_eq;have e1:c1=.string x.aD:=(hr 1 _ c1 rfl rfl).val_eq;have e2:c2=.int .i64 x.N:=(hr 2 _ c2 rfl rfl).val_eq;have h3:=hr 3 (.aO false (.t53 x.aQ)) c3 rfl rfl;subst e0;subst e1;subst e2
   generalize hq:PV.aO false (.t53 x.aQ)=q at h3;cases h3 with
   |row _ s hs a c vs hc hsz ha hm hrr=>
    subst hq;injection hs with hs
    subst hs;refine⟨a,c,rfl,λi hi=>?_⟩;obtain⟨ad,had⟩:=ha i hi;have hm':=λj p hp=>hm ad i j p had hi hp;have hr':=λj p hp=>hrr i j p hi hp;refine⟨ad,vs i,had,λj hj=>?_,?_⟩
    ·match j,hj with
     |0,_=>exact(hm' 0 _ rfl).2.1
     |1,_=>exact(hm' 1 _ rfl).2.1
     |2,_=>exact(hm' 2 _ rfl).2.1
     |3,_=>exact(hm' 3 _ rfl).2.1
    ·refine .agg (Bm (x.aQ.getD i default)) [vs i 0,vs i 1,vs i 2,vs i 3] rfl (λu hu=>?_) (λj p u hp hu=>?_)
     ·simp only[List.mem_cons,List.not_mem_nil,or_false]at hu;rcases hu with rfl|rfl|rfl|rfl
      ·exact(hm' 0 _ rfl).2.2
      ·exact(hm' 1 _ rfl).2.2
      ·exact(hm' 2 _ rfl).2.2
      ·exact(hm' 3 _ rfl).2.2
     ·match j,hp,hu with
      |0,hp,hu=>injection hu with hu;subst hu;exact hr' 0 p hp
      |1,hp,hu=>injection hu with hu;subst hu;exact hr' 1 p hp
      |2,hp,hu=>injection hu with hu;subst hu;exact hr' 2 p hp
      |3,hp,hu=>injection hu with hu;subst hu;exact hr' 3 p hp
      |j+4,hp,hu=>simp at hu
   |val _ _=>cases hq
   |_=>cases hq
 |row _ s hs=>subst hp;cases hs
 |_=>cases hp
theorem A08(n:Int)(w:World):Calls Tryz.prog 67 #[.int .i64 n] w λe w'=>e=.returned (.bool (decide (22<=n) && decide (n<=24)))/\w'=w:=by
 by_cases h1:22<=n
 ·by_cases h2:n<=24
  ·go_enter Tryz.func67,Tryz.ntmps67
   go_wp2
   go_ret
   simp[h1,h2]
  ·go_enter Tryz.func67,Tryz.ntmps67
   go_wp2
   go_ret
   simp[h1,h2]
 ·go_enter Tryz.func67,Tryz.ntmps67
  go_wp2
  go_ret
  simp[h1];omega
theorem A4p(n:Int)(h:¬(22<=n/\n<=24))(w:World):Calls Tryz.prog 67 #[.int .i64 n] w λe w'=>e=.returned (.bool false)/\w'=w:=
 (A08 n w).mono λe w' ⟨h2,hw⟩=>⟨by
  rw[h2];by_cases h1:22<=n
  ·rw[decide_eq_true h1,decide_eq_false (λh3=>h ⟨h1,h3⟩)];rfl
  ·rw[decide_eq_false h1];rfl,hw⟩
theorem Asu{P:Program}{ops:Array Oper}{rest:List Oper}{op:Oper}{a:Act}{w:World}{Q:Exit->Act->World->Prop}(hgd:op.guard=none)(ty:TypeId)(x:Operand)(ho:op.op=.load ty x)
  (ad:Addr)(hx:a.eval x=.pointer (some ad))(cs:List Value)(d:TypeDesc)(hc:∀j v,cs[j]? =some v->w.cell? (ad.add j)=some v)
  (hu:P.underlying ty=some d)(hd:(match d with| .struct _| .array _ _=>true|_=>false)=true)(hi:(P.info? ty).map (·.size)=some cs.length)
  (h:wpList P ops Q rest (a.put op.dst (.agg cs.toArray)) w):wpList P ops Q (op::rest) a w:=by
 refine wpList_plain hgd λ_ hK=>?_;have hl:(loadCells ad cs.length).run P w=.ok cs.toArray w:=run_loadCells_list (P:=P) w ad cs hc;have hr:(loadVar ty ad).run P w=.ok (.agg cs.toArray) w:=by
  cases hq:P.info? ty with
  |none=>simp[hq]at hi
  |some i=>
   have hs:i.size=cs.length:=by simpa[hq]using hi
   have hagg:(isAgg ty).run P w=.ok true w:=by
    unfold isAgg;rw[Sem.run_bind,run_underlying hu w];cases d<;>simp_all
   simp[loadVar,Sem.run_bind,hagg,Go.sizeOf,typeInfo,hq,hs,hl]
 unfold Oper.wp execOp;simp only[ho,hx,Instr.loadAt,Instr.sureAddr,Sem.run_bind,Sem.run_pure,Result.andThen_ok,hr];exact hK _ _ h
theorem Bk.bm{w:World}{M:Jw}{β :Kh}{B B':Nat->Prop}(hB:∀b,B b->B' b){p:PV}{v:Value}(h:Bk w M β B p v):Bk w M β B' p v:=by
 induction h with
 |any v=>exact .any v
 |val v h=>exact .val v h
 |agg l cs hl h1 _ ih=>exact .agg l cs hl h1 ih
 |aY l cs hl _ ih=>exact .aY l cs hl ih
 |row p s hs a c vs hc hsz ha hm _ ih=>exact .row p s hs a c vs hc hsz ha hm ih
 |loc d off b n h=>exact .loc d off b n h
 |el d sz i off b n h hi=>exact .el d sz i off b n h hi
 |vw cf d e sz n b c h hc hz=>exact .vw cf d e sz n b c h hc hz
 |mp d b n h=>exact .mp d b n h
 |bA f n l cs hl _ ih=>exact .bA f n l cs hl ih
 |ref l ad vs hm _ ih=>exact .ref l ad vs (λi p hp=>let ⟨g1,g2,g3⟩:=hm i p hp;⟨g1.imp (hB _) id,g2,g3⟩) ih
theorem Bk.later{w w':World}{N:Jw}{p:PV}{v:Value}(hb:Below w.heap.size w w')(h:Bk w N (λ_=>none) (λb=>b<w.heap.size) p v):Bk w' N (λ_=>none) (λb=>b<w'.heap.size) p v:=
 (h.ext (M':=N) (w':=w') (β':=λ_=>none) (λa u hi hc=>⟨hi,by rw[hb.cell (Rs hc)];exact hc⟩) (λa ha=>hb.cell ha) (λ_ _ h=>h) (λ_ _ _ h=>by cases h)).bm λb h=>Nat.lt_of_lt_of_le h hb.size
theorem Aqn.later{w w':World}{N:Jw}{a:Option Addr}{ks:List Aa}(hb:Below w.heap.size w w')(h:Aqn w N a ks):Aqn w' N a ks:=λi hi=>by
 obtain⟨ad,v,h1,h2,h3⟩:=h i hi;exact⟨ad,v,h1,λj hj=>by have:=h2 j hj;rw[hb.cell (Rs this)];exact this,h3.later hb⟩
theorem Bdd{l:List Aa}(h:nmL l= []){y:Aa}(hy:y∈l):nmE y= []:=by
 induction l with
 |nil=>cases hy
 |cons x l ih=>
  rw[nmL]at h;obtain⟨h1,h2⟩:=List.append_eq_nil_iff.1 h;rcases List.mem_cons.1 hy with rfl|hy
  ·exact h1
  ·exact ih h2 hy
def M0(W w:World)(ks:List Aa)(l i:Value)(wr:World):Prop:=∃k:Nat,k<=ks.length/\i=.int .i64 k/\l=.slice none 0 0/\Below W.heap.size w wr
theorem Ata(W:World)(N:Jw):∀(m:Nat) (x:Aa),SizeOf.sizeOf x<m->nmE x= []->∀(w:World) (a:Option Addr) (c:Nat),W.heap.size<=w.heap.size->(∀ad v,W.cell? ad=some v->w.cell? ad=some v)->
  Aqn W N a x.aQ->ndE x<=1048576->
  Calls Tryz.prog 41 #[.slice none 0 0,.agg #[.int .i64 x.Op,.string x.aD,.int .i64 x.N,.slice a x.aQ.length c]] w (λe w'=>e=.returned (.slice none 0 0)/\Below W.heap.size w w'):=by
 intro m
 induction m with
 |zero=>intro x h;omega
 |succ m ih=>
  intro x hx hnn w a c hw hcell hK hnd;have hks:x.aQ.length<=1048576:=Nat.le_trans (Bc8 x) hnd;have hkl:∀k,k<x.aQ.length->ndE (x.aQ.getD k default)<=1048576:=λk hk=>Nat.le_trans (Bc7 x k hk) hnd;clear hnd;have mixed: Tryz.prog.follows .mixedOrders=true:=by kernel_rfl
  have t27:= Tryz.underlying31;have t36:= Tryz.underlying51;have t38:= Tryz.underlying53;rw[Bjr]at hnn;obtain⟨h1,h2⟩:=List.append_eq_nil_iff.1 hnn;have hop:¬(x.Op=3\/(22<=x.Op/\x.Op<=24)):=λh=>by rw[if_pos h]at h1;cases h1
  have h3:¬x.Op=3:=λh=>hop (.inl h);have ho:¬(22<=x.Op/\x.Op<=24):=λh=>hop (.inr h);have e3:(x.Op == 3)=false:=by simpa using h3
  have ON:=Lib.hid (A4p x.Op ho);have HM:=Lib.hid (λk (hk:k<x.aQ.length)=>Bdd h2 (show x.aQ.getD k default∈x.aQ by rw[Rx _ k hk];exact List.getElem_mem hk));clear h3 ho hop h1 h2 hnn;have HS:=Lib.hid (λk hk=>(Nat.lt_of_lt_of_le (Bik x k hk) (Nat.le_of_lt_succ hx):SizeOf.sizeOf (x.aQ.getD k default)<m));have HL:=Lib.hid hkl;clear hkl hx;generalize x.aD=nm at*
  generalize x.Op=op at*
  generalize x.aQ=ks at*
  have IH:=Lib.hid ih;have HC:=Lib.hid hcell;have HK:=Lib.hid hK;clear ih hcell hK;have HB:=Lib.hid ((Below.refl W.heap.size w).alloc hw (.cells #[.int .i64 op,.string nm,.int .i64 x.N,.slice a ks.length c] 53))
  go_enter Tryz.func41,Tryz.ntmps41
  go_wp2_with (go_at_call 67;refine(ON.out _).mono ?_;rintro e w' ⟨rfl,rfl⟩)
  go_loopw [0,23] (λl i wr=>M0 W w ks l i wr) (λ_ i _=>ks.length-(RowKit.intOf i).toNat)
  case atStart=>exact⟨0,Nat.zero_le _,rfl,rfl,HB.out⟩
  case round=>
   obtain⟨k,hk,rfl,rfl,hb⟩:=hrel;by_cases hlt:k<ks.length
   ·obtain⟨ad,v,ha,hc,hr⟩:=HK.out k hlt;subst ha;obtain⟨a2,c2,hev,hK2⟩:=At2 hr;have hsz:SizeOf.sizeOf (ks.getD k default)<m:=HS.out k hlt;have hks2:=HL.out k hlt;have hnk:=HM.out k hlt;clear hr;generalize ks.getD k default=y at*
    have h4:∀j u,[Value.int .i64 y.Op,.string y.aD,.int .i64 y.N,.slice a2 y.aQ.length c2][j]? =some u->wr.cell? ((ad.add (k*4)).add j)=some u:=by
     injection hev with hev
     have e: [v 0,v 1,v 2,v 3]= [Value.int .i64 y.Op,.string y.aD,.int .i64 y.N,.slice a2 y.aQ.length c2]:=by simpa using hev
     intro j u hj;rw[<-e]at hj;rw[Ev.add_add];have hh:∀j,j<4->wr.cell? (ad.add (k*4+j))=some (v j):=λj hj=>by
      have:=hc j hj;rw[hb.cell (Rs this)];exact HC.out _ _ this
     match j,hj with
     |0,hj=>injection hj with hj;subst hj;exact hh 0 (by omega)
     |1,hj=>injection hj with hj;subst hj;exact hh 1 (by omega)
     |2,hj=>injection hj with hj;subst hj;exact hh 2 (by omega)
     |3,hj=>injection hj with hj;subst hj;exact hh 3 (by omega)
     |j+4,hj=>simp at hj
    have H4:=Lib.hid h4;have H5:=Lib.hid hK2;have HBk:=Lib.hid hb;clear hev hc h4 hK2 hb;have h6:W.heap.size<=(wr.alloc (.cells #[Value.int .i64 y.Op,.string y.aD,.int .i64 y.N,.slice a2 y.aQ.length c2] 53)).heap.size:=by have:=HBk.out.size;simp;omega
    go_wp2_with (first|(refine Asu rfl 53 _ rfl (ad.add (k*4)) rfl _ _ H4.out t38 rfl (by kernel_rfl) ?_)|(go_at_call 41;refine(IH.out y hsz hnk _ a2 c2 h6 (λq u h=>cell?_alloc_some _ (by rw[HBk.out.cell (Rs h)];exact HC.out _ _ h)) H5.out hks2).mono ?_;rintro e w2 ⟨rfl,hb2⟩;have HB2:=Lib.hid hb2;clear hb2))
    go_roundw
    case rel=>exact⟨k+1,by omega,by go_num,rfl,(HBk.out.alloc (by have:=HBk.out.size;omega) _).trans HB2.out⟩
    case measure=>simp[RowKit.intOf];omega
   ·obtain rfl:k=ks.length:=by omega
    have HBk:=Lib.hid hb;clear hb
    go_wp2
    go_ret
    exact⟨rfl,HBk.out⟩
end Go.Proofs.YtgacplpjamkieaaGreat.Ev
namespace Go.Proofs.YtgacplpjamkieaaGreat.Ev
open Go Go.RowKit Go.Lib Go.Proofs
theorem noG:Afi Tryz.prog (λ_=>none):=λf e b h=>by cases h
theorem Bpf:Ev.HoldsC Tryz.prog 42 [.aO false (.t9 [])] (.aY []):=Alp (inl:=λ_=>false) (nb:=λ_=>false) (base:=orN []) noG (show Tryz.prog.follows .mixedOrders=true by kernel_rfl) (Amt _ (by kernel_rfl)) 100 9 40 (λkk=>by kernel_rfl)
theorem A59:Ev.HoldsC Tryz.prog 43 [.aO false (.t9 [])] (.aO false (.t9 [])):=Alp (inl:=λ_=>false) (nb:=λ_=>false) (base:=orN []) noG (show Tryz.prog.follows .mixedOrders=true by kernel_rfl) (Amt _ (by kernel_rfl)) 100 9 40 (λkk=>by kernel_rfl)
theorem gl0(N:Jw)(B:D7):Ajk N B:=⟨λ_=>some 0,λa h=>by simp[imm]at h,λg x h=>(by cases h),λg vs h=>(by cases h)⟩
def NP(w:World)(N:Jw)(e:Ending)(w':World):Prop:=∃v,e=.returned v/\Bk w' N (λ_=>none) (λ_=>False) (.aO false (.t9 [])) v/\Below w.heap.size w w'
theorem Boj(w:World)(N:Jw)(B:Nat->Prop):∀(i:Nat) (p:PV) (v:Value),[PV.aO false (.t9 [])][i]? =some p-> [Value.slice none 0 0][i]? =some v->Bk w N (λ_=>none) B p v:=λi p v h1 h2=>by
 match i,h1,h2 with
 |0,h1,h2=>injection h1 with h1;injection h2 with h2;subst h1;subst h2;exact Bk.le (PV.Le.nil false _ rfl) (.val _ rfl)
 |i+1,h1,h2=>simp at h1
theorem Ay3(x:Aa)(e:Int)(hck0:Ev.HoldsC Tryz.prog 40 [.agg (Bm x)] (.val (.int .i64 e)))(hnd:ndE x<=1048576)(hn:e≠0\/nmE x= []):
  Ev.Holds Tryz.prog 20 [.agg (Bm x)] (.aO false (.t9 [])):=by
 have hck:Ev.Holds Tryz.prog 40 [.agg (Bm x)] (.val (.int .i64 e)):=hck0;intro w N vs hl hr hN _
 match vs,hl with
 | [v0],_=>
  have h0:=hr 0 _ v0 rfl rfl;obtain⟨a,c,rfl,hKd⟩:=At2 h0;refine Calls.mono (?_:Calls Tryz.prog 20 _ w (NP w N)) (λ_ _ h=>h);have mixed: Tryz.prog.follows .mixedOrders=true:=by kernel_rfl
  have hb1:Below w.heap.size w (w.alloc (.cells #[.int .i64 x.Op,.string x.aD,.int .i64 x.N,.slice a x.aQ.length c] 53)):=(Below.refl _ w).alloc (Nat.le_refl _) _;have hck1:=hck (w.alloc (.cells #[.int .i64 x.Op,.string x.aD,.int .i64 x.N,.slice a x.aQ.length c] 53)) N [.agg #[.int .i64 x.Op,.string x.aD,.int .i64 x.N,.slice a x.aQ.length c]] rfl
   (λi p v h1 h2=>by
    match i,h1,h2 with
    |0,h1,h2=>injection h1 with h1;injection h2 with h2;subst h1;subst h2;exact h0.later hb1
    |i+1,h1,h2=>simp at h1) (λb n hb=>by have:=hN b n hb;simp;omega) (gl0 _ _)
  have HC:=Lib.hid hck1;have HB1:=Lib.hid hb1;have HK:=Lib.hid hKd;have HN:=Lib.hid hN;clear hck1 hb1 hKd hN hr h0 hck hck0;by_cases he:e=0
  ·subst he;have hnn:=hn.resolve_left (λh=>h rfl);clear hn
   go_enter Tryz.func20,Tryz.ntmps20
   go_wp2_with (go_at_call 40;refine HC.out.mono ?_;rintro en w2 ⟨v,rfl,hv,hb2⟩;obtain rfl:=hv.val_eq;have HB2:=Lib.hid hb2;have c0:w2.cell? ⟨w.heap.size,0,none⟩=some (.int .i64 x.Op):=(HB2.out.cell (by simp)).trans (by simp);have c1:w2.cell? ⟨w.heap.size,1,none⟩=some (.string x.aD):=(HB2.out.cell (by simp)).trans (by simp);have c2:w2.cell? ⟨w.heap.size,2,none⟩=some (.int .i64 x.N):=(HB2.out.cell (by simp)).trans (by simp);have c3:w2.cell? ⟨w.heap.size,3,none⟩=some (.slice a x.aQ.length c):=(HB2.out.cell (by simp)).trans (by simp);clear hv hb2)
   refine(Ata w2 N _ x (Nat.lt_succ_self _) hnn w2 a c (Nat.le_refl _) (λ_ _ h=>h) (HK.out.later (HB1.out.trans (HB2.out.mono HB1.out.size))) hnd).mono ?_
   rintro en w3 ⟨rfl,hb3⟩
   have hwz:w.heap.size<=w2.heap.size:=(HB1.out.trans (HB2.out.mono HB1.out.size)).size;have hg3:Below w.heap.size w w3:=(HB1.out.trans (HB2.out.mono HB1.out.size)).trans (hb3.mono hwz);have hN3:∀b n,N b=some n->b<w3.heap.size:=λb n h=>Nat.lt_of_lt_of_le (HN.out b n h) hg3.size;have S0:=Lib.hid (show Calls Tryz.prog 42 #[.slice none 0 0] w3 _ from(show Ev.Holds Tryz.prog 42 [.aO false (.t9 [])] (.aY [])from Bpf) w3 N [.slice none 0 0] rfl (Boj _ _ _) hN3 (gl0 _ _));have K0:=Lib.hid (λ(w4:World) (hb4:Below w3.heap.size w3 w4)=>show Calls Tryz.prog 43 #[.slice none 0 0] w4 _ from(show Ev.Holds Tryz.prog 43 [.aO false (.t9 [])] (.aO false (.t9 []))from A59) w4 N [.slice none 0 0] rfl (Boj _ _ _) (λb n h=>Nat.lt_of_lt_of_le (hN3 b n h) hb4.size) (gl0 _ _));have HG:=Lib.hid hg3;clear hg3 hb3 hN3 hwz hnn
   go_wp2_with (first|(go_at_call 42;refine S0.out.mono ?_;rintro en w4 ⟨v4,rfl,hv4,hb4⟩;have HB4:=Lib.hid hb4;clear hv4 hb4)|(go_at_call 43;refine(K0.out _ HB4.out).mono ?_;rintro en w5 ⟨v5,rfl,hr5,hb5⟩;have HR:=Lib.hid hr5;have H5:=Lib.hid hb5;clear hr5 hb5))
   go_ret
   exact⟨_,rfl,HR.out,HG.out.trans ((HB4.out.trans (H5.out.mono HB4.out.size)).mono HG.out.size)⟩
  ·have e0:(e == 0)=false:=by simpa using he
   have e1:(e != 0)=true:=by simpa using he
   clear he
   go_enter Tryz.func20,Tryz.ntmps20
   go_wp2_with (go_at_call 40;refine HC.out.mono ?_;rintro en w2 ⟨v,rfl,hv,hb2⟩;obtain rfl:=hv.val_eq;have HB2:=Lib.hid hb2;clear hv hb2)
   go_ret
   exact⟨_,rfl,Bk.le (PV.Le.nil false _ rfl) (.val _ rfl),HB1.out.trans (HB2.out.mono HB1.out.size)⟩
end Go.Proofs.YtgacplpjamkieaaGreat.Ev
