/-  The names that an expression mentions: the walk. -/
import Derived.Test.YtmimkinjcfekmaaGreatNa
import Derived.Lib.Hide
namespace Go.Proofs.YtmimkinjcfekmaaGreat.Ev
open Go Go.RowKit Go.Lib Go.Proofs
set_option maxRecDepth 100000
set_option linter.unusedVariables false
set_option linter.unusedSimpArgs false
set_option linter.unnecessarySimpa false
theorem Uh(n:Int)(w:World):Calls Tryz.prog 22 #[.int .i64 n] w fun e w'=>e= .returned (.bool (decide (22≤n) && decide (n≤24)))∧w'=w:=by
 by_cases h1:22≤n
 ·by_cases h2:n≤24
  ·go_enter Tryz.func22,Tryz.ntmps22
   go_wp2
   go_ret
   simp [h1,h2]
  ·go_enter Tryz.func22,Tryz.ntmps22
   go_wp2
   go_ret
   simp [h1,h2]
 ·go_enter Tryz.func22,Tryz.ntmps22
  go_wp2
  go_ret
  simp [h1]
  omega
theorem i5(n:Int)(h1:22≤n)(h2:n≤24)(w:World):Calls Tryz.prog 22 #[.int .i64 n] w fun e w'=>e= .returned (.bool true)∧w'=w:=
 (Uh n w).mono fun e w' ⟨h,hw⟩=>⟨by rw [h,decide_eq_true h1,decide_eq_true h2];rfl,hw⟩
theorem Aap(n:Int)(h:¬(22≤n∧n≤24))(w:World):Calls Tryz.prog 22 #[.int .i64 n] w fun e w'=>e= .returned (.bool false)∧w'=w:=
 (Uh n w).mono fun e w' ⟨h2,hw⟩=>⟨by
  rw [h2]
  by_cases h1:22≤n
  ·rw [decide_eq_true h1,decide_eq_false (fun h3=>h ⟨h1,h3⟩)];rfl
  ·rw [decide_eq_false h1];rfl,hw⟩
theorem Ko{P:Program}{ops:Array Oper}{rest:List Oper}{op:Oper}{a:Act}{w:World}{Q:Exit→Act→World→Prop}(hgd:op.guard=none)(ty:TypeId)(x:Operand)(ho:op.op= .load ty x)
  (ad:Addr) (hx:a.eval x= .pointer (some ad)) (cs:List Value) (d:TypeDesc) (hc:∀j v,cs[j]? =some v→w.cell? (ad.add j)=some v)
  (hu:P.underlying ty=some d) (hd:(match d with| .struct _| .array _ _=>true|_=>false)=true) (hi:(P.info? ty).map (·.size)=some cs.length)
  (h:wpList P ops Q rest (a.put op.dst (.agg cs.toArray)) w):wpList P ops Q (op::rest) a w:=by
 refine wpList_plain hgd fun _ hK=> ?_
 have hl:(loadCells ad cs.length).run P w= .ok cs.toArray w:=run_loadCells_list (P:=P) w ad cs hc
 have hr:(loadVar ty ad).run P w= .ok (.agg cs.toArray) w:=by
  cases hq:P.info? ty with
  |none=>simp [hq] at hi
  |some i=>
   have hs:i.size=cs.length:=by simpa [hq] using hi
   have hagg:(isAgg ty).run P w= .ok true w:=by
    unfold isAgg
    rw [Sem.run_bind,run_underlying hu w]
    cases d<;>simp_all
   simp [loadVar,Sem.run_bind,hagg,Go.sizeOf,typeInfo,hq,hs,hl]
 unfold Oper.wp execOp
 simp only [ho,hx,Instr.loadAt,Instr.sureAddr,Sem.run_bind,Sem.run_pure,Result.andThen_ok,hr]
 exact hK _ _ h
def Ajy(W w:World)(xs:List ByteArray)(e:Ending)(w':World):Prop:=∃v',e= .returned v'∧w'.ownsRow W.heap.size 9 1 v' xs.length (xs.map Value.string)∧Below W.heap.size w w'
def Aga(W w:World)(ks:List Aa)(ys:List ByteArray)(l i:Value)(wr:World):Prop:=
 ∃k:Nat,k≤ks.length∧i= .int .i64 k∧wr.ownsRow W.heap.size 9 1 l (ys++Kk (ks.take k)).length ((ys++Kk (ks.take k)).map Value.string)∧Below W.heap.size w wr
theorem Xa(W:World)(N:It):∀(m:Nat) (x:Aa),SizeOf.sizeOf x < m→∀(w:World) (lv:Value) (xs:List ByteArray) (a:Option Addr) (c:Nat),W.heap.size≤w.heap.size→(∀ad v,W.cell? ad=some v→w.cell? ad=some v)→
  Tl W N a x.Kids→w.ownsRow W.heap.size 9 1 lv xs.length (xs.map Value.string)→xs.length+(Pv x).length≤1048576→V7 x≤1048576→
  Calls Tryz.prog 14 #[lv,.agg #[.int .i64 x.Op,.string x.Name,.int .i64 x.N,.slice a x.Kids.length c]] w (Ajy W w (xs++Pv x)):=by
 intro m
 induction m with
 |zero=>intro x h;omega
 |succ m ih=>
  intro x hx w lv xs a c hw hcell hK hown hlen hnd
  have hks:x.Kids.length≤1048576:=Nat.le_trans (Aer x) hnd
  have hkl:∀k,k < x.Kids.length→V7 (x.Kids.getD k default)≤1048576:=fun k hk=>Nat.le_trans (Aeq x k hk) hnd
  clear hnd
  have mixed: Tryz.prog.follows .mixedOrders=true:=by kernel_rfl
  have t27:= Tryz.underlying27
  have t36:= Tryz.underlying36
  have t38:= Tryz.underlying38
  obtain ⟨i0,hi,hz0,hz1,hz2⟩:=info_parts (show (Tryz.prog.info? 9).map (fun i=>(i.zero,i.size,i.bytes))=some (some (Value.string { data:= #[] }),1,16) by kernel_rfl)
  have hbase:∀k,lv.ownBlock=some k→W.heap.size≤k∧k < w.heap.size:=hown.lt
  by_cases h3:x.Op=3
  ·rw [h3]
   have hnm:Pv x=x.Name::Kk x.Kids:=by rw [g7,if_pos (.inl h3)];rfl
   clear h3
   rw [hnm,List.length_cons] at hlen
   rw [hnm]
   clear hnm
   have HS:=Lib.hid (fun k hk=>(Nat.lt_of_lt_of_le (f0 x k hk) (Nat.le_of_lt_succ hx):SizeOf.sizeOf (x.Kids.getD k default) < m))
   have HL:=Lib.hid hkl
   clear hkl hx
   generalize x.Name=nm at*
   generalize x.Kids=ks at*
   go_enter Tryz.func14,Tryz.ntmps14
   have IH:=Lib.hid ih
   have HC:=Lib.hid hcell
   have HK:=Lib.hid hK
   clear ih hcell hK
   go_wp2_with (at_builtin;go_loud (refine wpList_append_own_at _ rfl _ _ 27 rfl W.heap.size 9 i0 _ 1 16 t27 hi hz0 hz1 hz2 rfl (by decide) lv xs.length _ rfl ((hown.alloc _).alloc _) _ 1 1 [.string nm] rfl rfl (by have h:=cell_one_new (w.alloc (.cells #[.int .i64 3,.string nm,.int .i64 x.N,.slice a ks.length c] 38)) (.string nm) 9;simpa using h) (by intro u hu;simp at hu;subst hu;rfl) (by unfold maxLen;omega) (by omega) (by simp;omega) ?_))
   intro v' w1 hown1 hgrow hnil hblk
   have hg1:w1.heap[w.heap.size]? =_:=hgrow.block w.heap.size (by simp;omega) (by intro e;have:=hbase _ e.symm;omega)
   have hc3:w1.cell? ⟨w.heap.size,3,none⟩=some (.slice a ks.length c):=(World.cell?_of_block (a:=⟨w.heap.size,3,none⟩) hg1).trans (by simp)
   have hbel:Below W.heap.size w w1:=(((Below.refl W.heap.size w).alloc hw _).alloc (by simp;omega) _).grown hgrow (by simp;omega) (by intro k hk;exact (hbase k hk).1)
   have hown2:w1.ownsRow W.heap.size 9 1 v' (xs++ [nm]).length ((xs++ [nm]).map Value.string):=by simpa using hown1
   clear hg1 hnil hblk hgrow hown1 hown
   have HF:=Lib.hid (show xs++nm::Kk ks=(xs++ [nm])++Kk ks by simp)
   have hlen2:(xs++ [nm]).length+(Kk ks).length≤1048576:=by simp;omega
   clear hlen
   generalize xs++ [nm]=ys at hlen2 hown2 HF
   have HO:=Lib.hid hown2
   have HB:=Lib.hid hbel
   clear hown2 hbel
   go_wp2
   go_loopw [0,23] (fun l i wr=>Aga W w ks ys l i wr) (fun _ i _=>ks.length - (RowKit.intOf i).toNat)
   case atStart=>exact ⟨0,Nat.zero_le _,rfl,by simpa [Kk] using HO.out,HB.out⟩
   case round=>
    obtain ⟨k,hk,rfl,ho,hb⟩:=hrel
    by_cases hlt:k < ks.length
    ·obtain ⟨ad,v,ha,hc,hr⟩:=HK.out k hlt
     subst ha
     obtain ⟨a2,c2,hev,hK2⟩:=Nz hr
     have hsz:SizeOf.sizeOf (ks.getD k default) < m:=HS.out k hlt
     have hle:=g8 ks k hlt
     have hks2:=HL.out k hlt
     have HT:=Lib.hid (Qr ks k hlt)
     clear hr
     generalize ks.getD k default=y at*
     have h4:∀j u,[Value.int .i64 y.Op,.string y.Name,.int .i64 y.N,.slice a2 y.Kids.length c2][j]? =some u→wr.cell? ((ad.add (k*4)).add j)=some u:=by
      injection hev with hev
      have e: [v 0,v 1,v 2,v 3]= [Value.int .i64 y.Op,.string y.Name,.int .i64 y.N,.slice a2 y.Kids.length c2]:=by simpa using hev
      intro j u hj
      rw [←e] at hj
      rw [Ev.add_add]
      have hh:∀j,j < 4→wr.cell? (ad.add (k*4+j))=some (v j):=fun j hj=>by
       have:=hc j hj
       rw [hb.cell (Hc this)]
       exact HC.out _ _ this
      match j,hj with
      |0,hj=>injection hj with hj;subst hj;exact hh 0 (by omega)
      |1,hj=>injection hj with hj;subst hj;exact hh 1 (by omega)
      |2,hj=>injection hj with hj;subst hj;exact hh 2 (by omega)
      |3,hj=>injection hj with hj;subst hj;exact hh 3 (by omega)
      |j+4,hj=>simp at hj
     have H4:=Lib.hid h4
     have H5:=Lib.hid hK2
     have HOk:=Lib.hid ho
     have HBk:=Lib.hid hb
     clear hev hc h4 hK2 ho hb
     have hle2:(ys++Kk (ks.take k)).length+(Pv y).length≤1048576:=by rw [List.length_append];omega
     have h6:W.heap.size≤(wr.alloc (.cells #[Value.int .i64 y.Op,.string y.Name,.int .i64 y.N,.slice a2 y.Kids.length c2] 38)).heap.size:=by have:=HBk.out.size;simp;omega
     go_wp2_with (first|(refine Ko rfl 38 _ rfl (ad.add (k*4)) rfl _ _ H4.out t38 rfl (by kernel_rfl) ?_)|(go_at_call 14;refine (IH.out y hsz _ u0 (ys++Kk (ks.take k)) a2 c2 h6 (fun q u h=>cell?_alloc_some _ (by rw [HBk.out.cell (Hc h)];exact HC.out _ _ h)) H5.out (HOk.out.alloc _) hle2 hks2).mono ?_;rintro e w2 ⟨v2,rfl,ho2,hb2⟩;have HO2:=Lib.hid ho2;have HB2:=Lib.hid hb2;clear ho2 hb2))
     go_roundw
     case rel=>exact ⟨k+1,by omega,by go_num,by rw [HT.out,←List.append_assoc];exact HO2.out,(HBk.out.alloc (by have:=HBk.out.size;omega) _).trans HB2.out⟩
     case measure=>simp [RowKit.intOf];omega
    ·obtain rfl:k=ks.length:=by omega
     have HOk:=Lib.hid ho
     have HBk:=Lib.hid hb
     clear ho hb
     go_wp2
     go_ret
     exact ⟨u0,rfl,by have:=HOk.out;rw [List.take_length] at this;rw [HF.out];exact this,HBk.out⟩
  by_cases ho:22≤x.Op∧x.Op≤24
  ·have hnm:Pv x=x.Name::Kk x.Kids:=by rw [g7,if_pos (.inr ho)];rfl
   have e3:(x.Op == 3)=false:=by simpa using h3
   have OY:=Lib.hid (i5 x.Op ho.1 ho.2)
   clear h3 ho
   rw [hnm,List.length_cons] at hlen
   rw [hnm]
   clear hnm
   have HS:=Lib.hid (fun k hk=>(Nat.lt_of_lt_of_le (f0 x k hk) (Nat.le_of_lt_succ hx):SizeOf.sizeOf (x.Kids.getD k default) < m))
   have HL:=Lib.hid hkl
   clear hkl hx
   generalize x.Name=nm at*
   generalize x.Op=op at*
   generalize x.Kids=ks at*
   go_enter Tryz.func14,Tryz.ntmps14
   have IH:=Lib.hid ih
   have HC:=Lib.hid hcell
   have HK:=Lib.hid hK
   clear ih hcell hK
   go_wp2_with (first|(go_at_call 22;refine (OY.out _).mono ?_;rintro e w' ⟨rfl,rfl⟩)|at_builtin;go_loud (refine wpList_append_own_at _ rfl _ _ 27 rfl W.heap.size 9 i0 _ 1 16 t27 hi hz0 hz1 hz2 rfl (by decide) lv xs.length _ rfl ((hown.alloc _).alloc _) _ 1 1 [.string nm] rfl rfl (by have h:=cell_one_new (w.alloc (.cells #[.int .i64 op,.string nm,.int .i64 x.N,.slice a ks.length c] 38)) (.string nm) 9;simpa using h) (by intro u hu;simp at hu;subst hu;rfl) (by unfold maxLen;omega) (by omega) (by simp;omega) ?_))
   intro v' w1 hown1 hgrow hnil hblk
   have hg1:w1.heap[w.heap.size]? =_:=hgrow.block w.heap.size (by simp;omega) (by intro e;have:=hbase _ e.symm;omega)
   have hc3:w1.cell? ⟨w.heap.size,3,none⟩=some (.slice a ks.length c):=(World.cell?_of_block (a:=⟨w.heap.size,3,none⟩) hg1).trans (by simp)
   have hbel:Below W.heap.size w w1:=(((Below.refl W.heap.size w).alloc hw _).alloc (by simp;omega) _).grown hgrow (by simp;omega) (by intro k hk;exact (hbase k hk).1)
   have hown2:w1.ownsRow W.heap.size 9 1 v' (xs++ [nm]).length ((xs++ [nm]).map Value.string):=by simpa using hown1
   clear hg1 hnil hblk hgrow hown1 hown
   have HF:=Lib.hid (show xs++nm::Kk ks=(xs++ [nm])++Kk ks by simp)
   have hlen2:(xs++ [nm]).length+(Kk ks).length≤1048576:=by simp;omega
   clear hlen
   generalize xs++ [nm]=ys at hlen2 hown2 HF
   have HO:=Lib.hid hown2
   have HB:=Lib.hid hbel
   clear hown2 hbel
   go_wp2
   go_loopw [0,23] (fun l i wr=>Aga W w ks ys l i wr) (fun _ i _=>ks.length - (RowKit.intOf i).toNat)
   case atStart=>exact ⟨0,Nat.zero_le _,rfl,by simpa [Kk] using HO.out,HB.out⟩
   case round=>
    obtain ⟨k,hk,rfl,ho,hb⟩:=hrel
    by_cases hlt:k < ks.length
    ·obtain ⟨ad,v,ha,hc,hr⟩:=HK.out k hlt
     subst ha
     obtain ⟨a2,c2,hev,hK2⟩:=Nz hr
     have hsz:SizeOf.sizeOf (ks.getD k default) < m:=HS.out k hlt
     have hle:=g8 ks k hlt
     have hks2:=HL.out k hlt
     have HT:=Lib.hid (Qr ks k hlt)
     clear hr
     generalize ks.getD k default=y at*
     have h4:∀j u,[Value.int .i64 y.Op,.string y.Name,.int .i64 y.N,.slice a2 y.Kids.length c2][j]? =some u→wr.cell? ((ad.add (k*4)).add j)=some u:=by
      injection hev with hev
      have e: [v 0,v 1,v 2,v 3]= [Value.int .i64 y.Op,.string y.Name,.int .i64 y.N,.slice a2 y.Kids.length c2]:=by simpa using hev
      intro j u hj
      rw [←e] at hj
      rw [Ev.add_add]
      have hh:∀j,j < 4→wr.cell? (ad.add (k*4+j))=some (v j):=fun j hj=>by
       have:=hc j hj
       rw [hb.cell (Hc this)]
       exact HC.out _ _ this
      match j,hj with
      |0,hj=>injection hj with hj;subst hj;exact hh 0 (by omega)
      |1,hj=>injection hj with hj;subst hj;exact hh 1 (by omega)
      |2,hj=>injection hj with hj;subst hj;exact hh 2 (by omega)
      |3,hj=>injection hj with hj;subst hj;exact hh 3 (by omega)
      |j+4,hj=>simp at hj
     have H4:=Lib.hid h4
     have H5:=Lib.hid hK2
     have HOk:=Lib.hid ho
     have HBk:=Lib.hid hb
     clear hev hc h4 hK2 ho hb
     have hle2:(ys++Kk (ks.take k)).length+(Pv y).length≤1048576:=by rw [List.length_append];omega
     have h6:W.heap.size≤(wr.alloc (.cells #[Value.int .i64 y.Op,.string y.Name,.int .i64 y.N,.slice a2 y.Kids.length c2] 38)).heap.size:=by have:=HBk.out.size;simp;omega
     go_wp2_with (first|(refine Ko rfl 38 _ rfl (ad.add (k*4)) rfl _ _ H4.out t38 rfl (by kernel_rfl) ?_)|(go_at_call 14;refine (IH.out y hsz _ u0 (ys++Kk (ks.take k)) a2 c2 h6 (fun q u h=>cell?_alloc_some _ (by rw [HBk.out.cell (Hc h)];exact HC.out _ _ h)) H5.out (HOk.out.alloc _) hle2 hks2).mono ?_;rintro e w2 ⟨v2,rfl,ho2,hb2⟩;have HO2:=Lib.hid ho2;have HB2:=Lib.hid hb2;clear ho2 hb2))
     go_roundw
     case rel=>exact ⟨k+1,by omega,by go_num,by rw [HT.out,←List.append_assoc];exact HO2.out,(HBk.out.alloc (by have:=HBk.out.size;omega) _).trans HB2.out⟩
     case measure=>simp [RowKit.intOf];omega
    ·obtain rfl:k=ks.length:=by omega
     have HOk:=Lib.hid ho
     have HBk:=Lib.hid hb
     clear ho hb
     go_wp2
     go_ret
     exact ⟨u0,rfl,by have:=HOk.out;rw [List.take_length] at this;rw [HF.out];exact this,HBk.out⟩
  ·have hnm:Pv x=Kk x.Kids:=by rw [g7,if_neg (fun h=>h.elim h3 ho)];rfl
   have e3:(x.Op == 3)=false:=by simpa using h3
   have ON:=Lib.hid (Aap x.Op ho)
   clear h3 ho
   rw [hnm] at hlen
   rw [hnm]
   clear hnm
   have HS:=Lib.hid (fun k hk=>(Nat.lt_of_lt_of_le (f0 x k hk) (Nat.le_of_lt_succ hx):SizeOf.sizeOf (x.Kids.getD k default) < m))
   have HL:=Lib.hid hkl
   clear hkl hx
   generalize x.Name=nm at*
   generalize x.Op=op at*
   generalize x.Kids=ks at*
   have IH:=Lib.hid ih
   have HC:=Lib.hid hcell
   have HK:=Lib.hid hK
   clear ih hcell hK
   obtain ⟨ys,hys⟩:∃ys,ys=xs:=⟨_,rfl⟩
   have HF:=Lib.hid (show xs++Kk ks=ys++Kk ks by rw [hys])
   have hlen2:ys.length+(Kk ks).length≤1048576:=by rw [hys];exact hlen
   have HO:=Lib.hid (show (w.alloc (.cells #[.int .i64 op,.string nm,.int .i64 x.N,.slice a ks.length c] 38)).ownsRow W.heap.size 9 1 lv ys.length (ys.map Value.string) by rw [hys];exact hown.alloc _)
   have HB:=Lib.hid ((Below.refl W.heap.size w).alloc hw (.cells #[.int .i64 op,.string nm,.int .i64 x.N,.slice a ks.length c] 38))
   clear hown hys hlen
   go_enter Tryz.func14,Tryz.ntmps14
   go_wp2_with (go_at_call 22;refine (ON.out _).mono ?_;rintro e w' ⟨rfl,rfl⟩)
   go_loopw [0,23] (fun l i wr=>Aga W w ks ys l i wr) (fun _ i _=>ks.length - (RowKit.intOf i).toNat)
   case atStart=>exact ⟨0,Nat.zero_le _,rfl,by simpa [Kk] using HO.out,HB.out⟩
   case round=>
    obtain ⟨k,hk,rfl,ho,hb⟩:=hrel
    by_cases hlt:k < ks.length
    ·obtain ⟨ad,v,ha,hc,hr⟩:=HK.out k hlt
     subst ha
     obtain ⟨a2,c2,hev,hK2⟩:=Nz hr
     have hsz:SizeOf.sizeOf (ks.getD k default) < m:=HS.out k hlt
     have hle:=g8 ks k hlt
     have hks2:=HL.out k hlt
     have HT:=Lib.hid (Qr ks k hlt)
     clear hr
     generalize ks.getD k default=y at*
     have h4:∀j u,[Value.int .i64 y.Op,.string y.Name,.int .i64 y.N,.slice a2 y.Kids.length c2][j]? =some u→wr.cell? ((ad.add (k*4)).add j)=some u:=by
      injection hev with hev
      have e: [v 0,v 1,v 2,v 3]= [Value.int .i64 y.Op,.string y.Name,.int .i64 y.N,.slice a2 y.Kids.length c2]:=by simpa using hev
      intro j u hj
      rw [←e] at hj
      rw [Ev.add_add]
      have hh:∀j,j < 4→wr.cell? (ad.add (k*4+j))=some (v j):=fun j hj=>by
       have:=hc j hj
       rw [hb.cell (Hc this)]
       exact HC.out _ _ this
      match j,hj with
      |0,hj=>injection hj with hj;subst hj;exact hh 0 (by omega)
      |1,hj=>injection hj with hj;subst hj;exact hh 1 (by omega)
      |2,hj=>injection hj with hj;subst hj;exact hh 2 (by omega)
      |3,hj=>injection hj with hj;subst hj;exact hh 3 (by omega)
      |j+4,hj=>simp at hj
     have H4:=Lib.hid h4
     have H5:=Lib.hid hK2
     have HOk:=Lib.hid ho
     have HBk:=Lib.hid hb
     clear hev hc h4 hK2 ho hb
     have hle2:(ys++Kk (ks.take k)).length+(Pv y).length≤1048576:=by rw [List.length_append];omega
     have h6:W.heap.size≤(wr.alloc (.cells #[Value.int .i64 y.Op,.string y.Name,.int .i64 y.N,.slice a2 y.Kids.length c2] 38)).heap.size:=by have:=HBk.out.size;simp;omega
     go_wp2_with (first|(refine Ko rfl 38 _ rfl (ad.add (k*4)) rfl _ _ H4.out t38 rfl (by kernel_rfl) ?_)|(go_at_call 14;refine (IH.out y hsz _ u0 (ys++Kk (ks.take k)) a2 c2 h6 (fun q u h=>cell?_alloc_some _ (by rw [HBk.out.cell (Hc h)];exact HC.out _ _ h)) H5.out (HOk.out.alloc _) hle2 hks2).mono ?_;rintro e w2 ⟨v2,rfl,ho2,hb2⟩;have HO2:=Lib.hid ho2;have HB2:=Lib.hid hb2;clear ho2 hb2))
     go_roundw
     case rel=>exact ⟨k+1,by omega,by go_num,by rw [HT.out,←List.append_assoc];exact HO2.out,(HBk.out.alloc (by have:=HBk.out.size;omega) _).trans HB2.out⟩
     case measure=>simp [RowKit.intOf];omega
    ·obtain rfl:k=ks.length:=by omega
     have HOk:=Lib.hid ho
     have HBk:=Lib.hid hb
     clear ho hb
     go_wp2
     go_ret
     exact ⟨u0,rfl,by have:=HOk.out;rw [List.take_length] at this;rw [HF.out];exact this,HBk.out⟩
end Go.Proofs.YtmimkinjcfekmaaGreat.Ev
