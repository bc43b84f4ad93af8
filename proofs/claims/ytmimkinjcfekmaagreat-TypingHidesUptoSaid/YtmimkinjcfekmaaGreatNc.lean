/-  The names that an expression mentions, sorted, each once: Names. -/
import Derived.Test.YtmimkinjcfekmaaGreatNb
import Derived.Test.YtmimkinjcfekmaaGreatNs
import Derived.Sort.OwnSorted
import Derived.Lib.SlicesCompact
import Derived.Lib.RowBridge
namespace Go.Proofs.YtmimkinjcfekmaaGreat.Ev
open Go Go.RowKit Go.Lib Go.Proofs
set_option maxRecDepth 100000
set_option linter.unusedVariables false
set_option linter.unusedSimpArgs false
set_option linter.unnecessarySimpa false
def ssE(x:Aa):List (List UInt8):=(Pv x).map fun s=>s.data.toList
def Vh(x:Aa):List (List UInt8):=(ssE x).mergeSort fun a b=>decide (a≤b)
def Im(x:Aa):List ByteArray:=(Lib.compact (Vh x)).map fun l=>⟨l.toArray⟩
theorem Al.bm{w:World}{M:It}{β :Ha}{B B':Nat}(hB:B≤B'){p:PV}{v:Value}(h:Al w M β B p v):Al w M β B' p v:=by
 induction h with
 |any v=>exact .any v
 |val v h=>exact .val v h
 |agg l cs hl h1 _ ih=>exact .agg l cs hl h1 ih
 |tup l cs hl _ ih=>exact .tup l cs hl ih
 |row p s hs a c vs hc hsz ha hm _ ih=>exact .row p s hs a c vs hc hsz ha hm ih
 |loc d off b n h=>exact .loc d off b n h
 |el d sz i off b n h hi=>exact .el d sz i off b n h hi
 |vw cf d e sz n b c h hc=>exact .vw cf d e sz n b c h hc
 |mp d b n h=>exact .mp d b n h
 |clo f n l cs hl _ ih=>exact .clo f n l cs hl ih
 |ref l ad vs hm _ ih=>exact .ref l ad vs (fun i p hp=>let ⟨g1,g2,g3⟩:=hm i p hp;⟨g1.imp (fun h=>Nat.lt_of_lt_of_le h hB) id,g2,g3⟩) ih
theorem Al.later{w w':World}{N:It}{p:PV}{v:Value}(hb:Below w.heap.size w w')(h:Al w N (fun _=>none) w.heap.size p v):Al w' N (fun _=>none) w'.heap.size p v:=
 (h.ext (M':=N) (w':=w') (β':=fun _=>none) (fun a u hi hc=>⟨hi,by rw [hb.cell (Hc hc)];exact hc⟩) (fun a ha=>hb.cell ha) (fun _ _ h=>h)).bm hb.size
theorem Tl.later{w w':World}{N:It}{a:Option Addr}{ks:List Aa}(hb:Below w.heap.size w w')(h:Tl w N a ks):Tl w' N a ks:=fun i hi=>by
 obtain ⟨ad,v,h1,h2,h3⟩:=h i hi
 exact ⟨ad,v,h1,fun j hj=>by have:=h2 j hj;rw [hb.cell (Hc this)];exact this,h3.later hb⟩
def NP(w:World)(N:It)(l:List ByteArray)(e:Ending)(w':World):Prop:=∃v,e= .returned v∧Al w' N (fun _=>none) 0 (.lst false (.t9 l)) v∧Below w.heap.size w w'
theorem Zd{w:World}{N:It}{g cap:Nat}{cur:Array Value}(hN:N g=none)(l:List (List UInt8))(hb:w.heap[g]? =some (.cells cur 9 (0,0)))(hc:l.length≤cap)(ht:cur.toList.take l.length=l.map Go.Proofs.encStr):
  Al w N (fun _=>none) 0 (.lst false (.t9 (l.map fun x=>(⟨x.toArray⟩:ByteArray)))) (.slice (some ⟨g,0,none⟩) l.length cap):=by
 refine I4 (s:=⟨false,9,1,(l.map fun x=>(⟨x.toArray⟩:ByteArray)).length,LX.row (.t9 (l.map fun x=>(⟨x.toArray⟩:ByteArray)))⟩) rfl (by simp) hb hc (fun i hi=>rfl) (fun i hi n hn=>by simp [hN] at hn) (fun i j q hi hq=> ?_)
 have hj:j=0:=by
  cases j with
  |zero=>rfl
  |succ j=>simp [LX.row,RF.r,CD.o] at hq
 subst hj
 refine ⟨Go.Proofs.encStr (l.getD i []),?_,?_,rfl⟩
 ·have h1:(cur.toList.take l.length)[i]? =(l.map Go.Proofs.encStr)[i]? :=by rw [ht]
  rw [List.getElem?_take_of_lt hi] at h1
  rw [Nat.mul_one,Nat.add_zero,←Array.getElem?_toList,h1]
  simp [List.getD,List.getElem?_eq_getElem hi]
 ·have e:q= .val (.string ⟨(l.getD i []).toArray⟩):=by
   have:(LX.row (.t9 (l.map fun x=>(⟨x.toArray⟩:ByteArray))) i)[0]? =some (.val (.string ((l.map fun x=>(⟨x.toArray⟩:ByteArray)).getD i default))):=rfl
   rw [this] at hq
   injection hq with hq
   rw [←hq]
   simp [List.getD,List.getElem?_eq_getElem hi]
  rw [e];exact .val _ rfl
def Afe(w w4:World)(g cap:Nat)(ts:List (List UInt8)):Prop:=∃cur,w4.heap[g]? =some (.cells cur 9 (0,0))∧cur.toList.take ts.length=ts.map Go.Proofs.encStr∧cur.size=cap*1∧Below w.heap.size w w4
theorem g6
  (hS:∀(g cap:Nat) (ss:List (List UInt8)) (w:World),Go.Sort.Holds Go.Proofs.encStr w g 0 ss.toArray→g < w.heap.size→ss.length < 4611686018427387904→
   Calls Tryz.prog 15 #[.slice (some ⟨g,0,none⟩) ss.length cap] w fun e w'=>e= .returned (.tuple #[])∧∃n os,w'=Go.Sort.grow (Go.Sort.putRow Go.Proofs.encStr (Go.Sort.ahead w n) g 0 (ss.mergeSort fun x y=>decide (x≤y)).toArray) os)
  (hS0:∀(p:Option Addr) (cap:Nat) (w:World),Calls Tryz.prog 15 #[.slice p 0 cap] w fun e w'=>e= .returned (.tuple #[])∧w'=w)
  (hK:∀(g cap:Nat) (zs:List (List UInt8)) (w:World),Go.Sort.Holds Go.Proofs.encStr w g 0 zs.toArray→zs.length≤9223372036854775807→zs.length≤cap→
   Calls Tryz.prog 16 #[.slice (some ⟨g,0,none⟩) zs.length cap] w fun e w'=>e= .returned (.slice (some ⟨g,0,none⟩) (Lib.compact zs).length cap)∧∃q,w'=Go.Sort.putRow Go.Proofs.encStr (Go.Sort.ahead w q) g 0 (Lib.compact zs++List.replicate (zs.length - (Lib.compact zs).length) []).toArray)
  (hK0:∀(p:Option Addr) (cap:Nat) (w:World),Calls Tryz.prog 16 #[.slice p 0 cap] w fun e w'=>e= .returned (.slice p 0 cap)∧w'=w)
  (x:Aa) (e:Int) (hck:Ev.Holds Tryz.prog 13 [.agg (Bf x)] (.val (.int .i64 e))) (hnd:V7 x≤1048576):
  Ev.Holds Tryz.prog 7 [.agg (Bf x)] (.lst false (.t9 (if e=0 then Im x else []))):=by
 intro w N vs hl hr hN
 match vs,hl with
 | [v0],_=>
  have h0:=hr 0 _ v0 rfl rfl
  obtain ⟨a,c,rfl,hKd⟩:=Nz h0
  refine Calls.mono (?_:Calls Tryz.prog 7 _ w (NP w N (if e=0 then Im x else []))) (fun _ _ h=>h)
  have mixed: Tryz.prog.follows .mixedOrders=true:=by kernel_rfl
  have hb1:Below w.heap.size w (w.alloc (.cells #[.int .i64 x.Op,.string x.Name,.int .i64 x.N,.slice a x.Kids.length c] 38)):=(Below.refl _ w).alloc (Nat.le_refl _) _
  have hck1:=hck (w.alloc (.cells #[.int .i64 x.Op,.string x.Name,.int .i64 x.N,.slice a x.Kids.length c] 38)) N [.agg #[.int .i64 x.Op,.string x.Name,.int .i64 x.N,.slice a x.Kids.length c]] rfl
   (fun i p v h1 h2=>by
    match i,h1,h2 with
    |0,h1,h2=>injection h1 with h1;injection h2 with h2;subst h1;subst h2;exact h0.later hb1
    |i+1,h1,h2=>simp at h1) (fun b n hb=>by have:=hN b n hb;simp;omega)
  have HC:=Lib.hid hck1
  have HB1:=Lib.hid hb1
  have HK:=Lib.hid hKd
  have HN:=Lib.hid hN
  clear hck1 hb1 hKd hN hr h0 hck
  by_cases he:e=0
  ·subst he
   rw [if_pos rfl]
   go_enter Tryz.func7,Tryz.ntmps7
   go_wp2_with (go_at_call 13;refine HC.out.mono ?_;rintro en w2 ⟨v,rfl,hv,hb2⟩;obtain rfl:=hv.val_eq;have HB2:=Lib.hid hb2;have c0:w2.cell? ⟨w.heap.size,0,none⟩=some (.int .i64 x.Op):=(HB2.out.cell (by simp)).trans (by simp);have c1:w2.cell? ⟨w.heap.size,1,none⟩=some (.string x.Name):=(HB2.out.cell (by simp)).trans (by simp);have c2:w2.cell? ⟨w.heap.size,2,none⟩=some (.int .i64 x.N):=(HB2.out.cell (by simp)).trans (by simp);have c3:w2.cell? ⟨w.heap.size,3,none⟩=some (.slice a x.Kids.length c):=(HB2.out.cell (by simp)).trans (by simp);clear hv hb2)
   refine (Xa w2 N _ x (Nat.lt_succ_self _) w2 (.slice none 0 0) [] a c (Nat.le_refl _) (fun _ _ h=>h) (HK.out.later (HB1.out.trans (HB2.out.mono HB1.out.size))) (World.ownsRow_nil _ _ _ _) (by have:=u3 x;simp;omega) hnd).mono ?_
   rintro en w3 ⟨v',rfl,ho,hb3⟩
   rw [List.nil_append] at ho
   have hwz:w.heap.size≤w2.heap.size:=(HB1.out.trans (HB2.out.mono HB1.out.size)).size
   have hg3:Below w.heap.size w w3:=(HB1.out.trans (HB2.out.mono HB1.out.size)).trans (hb3.mono hwz)
   have hsl:(ssE x).length=(Pv x).length:=by simp [ssE]
   have htl:(Vh x).length=(Pv x).length:=by rw [Vh,List.length_mergeSort,hsl]
   have hln:(Pv x).length≤1048576:=Nat.le_trans (u3 x) hnd
   rcases ho.2 with ⟨rfl,hn⟩|⟨g,cap,cur,rfl,hbase,hbk,h1,h2,h3,h4⟩
   ·have hne:Im x= []:=by
     have:Vh x= []:=List.eq_nil_of_length_eq_zero (by omega)
     rw [Im,this];rfl
    have HG:=Lib.hid hg3
    have HE:=Lib.hid hne
    have H0:=Lib.hid hS0
    have H1:=Lib.hid hK0
    clear hg3 hne hS0 hK0 hS hK ho hb3 hsl htl hln
    clear hn
    go_wp2_with (first|(go_at_call 15;refine (H0.out none 0 _).mono ?_;rintro en w4 ⟨rfl,rfl⟩)|(go_at_call 16;refine (H1.out none 0 _).mono ?_;rintro en w5 ⟨rfl,rfl⟩))
    go_ret
    exact ⟨_,rfl,by rw [HE.out];exact Al.le (PV.Le.nil false _ rfl) (.val _ rfl),HG.out⟩
   ·have hgw:w.heap.size≤g:=Nat.le_trans hwz hbase
    have hNg:N g=none:=by
     cases hq:N g with
     |none=>rfl
     |some n=>have:=HN.out g n hq;omega
    have t1:Calls Tryz.prog 15 #[.slice (some ⟨g,0,none⟩) (Pv x).length cap] w3 fun e w4=>e= .returned (.tuple #[])∧Afe w w4 g cap (Vh x):=by
     have hs:=hS g cap (ssE x) w3 (holds_of_block hbk (by rw [hsl];simpa [ssE,Function.comp_def] using h4)) ((Array.getElem?_eq_some_iff.1 hbk).1) (by omega)
     rw [hsl] at hs
     refine hs.mono ?_
     rintro en w4 ⟨rfl,n,os,rfl⟩
     refine ⟨rfl,_,heap_sorted _ hbk,?_,by simp [Go.Sort.putCells,h3],hg3.grown (grownBy_sorted _) hg3.size (by intro k hk;injection hk with hk;omega)⟩
     exact take_putCells cur (Vh x) (by rw [htl,h3];omega)
    have t2:∀w4,Afe w w4 g cap (Vh x)→Calls Tryz.prog 16 #[.slice (some ⟨g,0,none⟩) (Pv x).length cap] w4 (NP w N (Im x)):=by
     rintro w4 ⟨cur4,hbk4,ht4,hs4,hb4⟩
     have hs:=hK g cap (Vh x) w4 (holds_of_block hbk4 ht4) (by omega) (by omega)
     rw [htl] at hs
     refine hs.mono ?_
     rintro en w5 ⟨rfl,q,rfl⟩
     have hcl:=compact_length_le (Vh x)
     have hh:=heap_sorted (n:=q) (os:= #[]) (Lib.compact (Vh x)++List.replicate ((Pv x).length - (Lib.compact (Vh x)).length) []).toArray hbk4
     have hg:=grownBy_sorted (w:=w4) (g:=g) (n:=q) (os:= #[]) (Lib.compact (Vh x)++List.replicate ((Pv x).length - (Lib.compact (Vh x)).length) []).toArray
     rw [Go.Sort.grow_empty] at hh hg
     refine ⟨_,rfl,Zd hNg (Lib.compact (Vh x)) hh (by omega) ?_,hb4.grown hg hb4.size (by intro k hk;injection hk with hk;omega)⟩
     have:=take_putCells cur4 (Lib.compact (Vh x)++List.replicate ((Pv x).length - (Lib.compact (Vh x)).length) []) (by rw [List.length_append,List.length_replicate,hs4];omega)
     have h5:=congrArg (List.take (Lib.compact (Vh x)).length) this
     rw [List.take_take,List.map_append,List.take_left' (by simp),Nat.min_eq_left (by simp)] at h5
     exact h5
    have T1:=Lib.hid t1
    have T2:=Lib.hid t2
    clear t1 t2 hg3 hS0 hK0 hS hK ho hb3 hsl htl hln h1 h2 h3 h4 hbk hbase hNg
    go_wp2_with (first|(go_at_call 15;refine T1.out.mono ?_;rintro en w4 ⟨rfl,hw4⟩;have HW:=Lib.hid hw4;clear hw4)|(go_at_call 16;refine (T2.out _ HW.out).mono ?_;rintro en w5 ⟨v5,rfl,hr5,hb5⟩;have HR:=Lib.hid hr5;have H5:=Lib.hid hb5;clear hr5 hb5))
    go_ret
    exact ⟨_,rfl,HR.out,H5.out⟩
  ·have e0:(e == 0)=false:=by simpa using he
   have e1:(e != 0)=true:=by simpa using he
   rw [if_neg he]
   clear he
   go_enter Tryz.func7,Tryz.ntmps7
   go_wp2_with (go_at_call 13;refine HC.out.mono ?_;rintro en w2 ⟨v,rfl,hv,hb2⟩;obtain rfl:=hv.val_eq;have HB2:=Lib.hid hb2;clear hv hb2)
   go_ret
   exact ⟨_,rfl,Al.le (PV.Le.nil false _ rfl) (.val _ rfl),HB1.out.trans (HB2.out.mono HB1.out.size)⟩
theorem Aco(x:Aa)(e:Int)(hck:Ev.Holds Tryz.prog 13 [.agg (Bf x)] (.val (.int .i64 e)))(hnd:V7 x≤1048576):
  Ev.Holds Tryz.prog 7 [.agg (Bf x)] (.lst false (.t9 (if e=0 then Im x else []))):=
 g6 (fun g cap ss w=>Uz g 0 cap ss w) (fun p cap w=>Oc p cap w) (fun g cap zs w=>Q5 g 0 cap zs w) (fun p cap w=>Lo p cap w) x e hck hnd
theorem Y5{α :Type} [Inhabited α] [DecidableEq α](zs:List α)(x: α)(h:x∈zs):x∈Lib.compact zs:=by
 have hf:(zs.findIdx? fun y=>decide (y=x)).isSome:=by
  rw [List.findIdx?_isSome,List.any_eq_true]
  exact ⟨x,h,decide_eq_true rfl⟩
 obtain ⟨j,hj⟩:=Option.isSome_iff_exists.1 hf
 obtain ⟨h1,h2,h3⟩:=List.findIdx?_eq_some_iff_getElem.1 hj
 have h2:=of_decide_eq_true h2
 unfold Lib.compact Lib.compactUpTo
 refine List.mem_map.2 ⟨j,List.mem_filter.2 ⟨List.mem_range.2 h1,?_⟩,by simp [h1,h2]⟩
 unfold Lib.keeps
 cases j with
 |zero=>simp
 |succ j=>
  have:=h3 j (Nat.lt_succ_self j)
  have h4:zs[j]≠x:=by simpa using this
  simp [show j < zs.length by omega,h1,h2]
  exact fun e=>h4 (by first|exact e|exact e.symm)
theorem Aak(x:Aa)(n:ByteArray)(h:n∈Pv x):n∈Im x:=by
 refine List.mem_map.2 ⟨n.data.toList,Y5 _ _ ?_,rfl⟩
 rw [Vh,List.mem_mergeSort]
 exact List.mem_map.2 ⟨n,h,rfl⟩
end Go.Proofs.YtmimkinjcfekmaaGreat.Ev
