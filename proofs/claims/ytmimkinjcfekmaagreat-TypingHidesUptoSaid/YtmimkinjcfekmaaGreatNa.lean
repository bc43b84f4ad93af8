/-  The names that an expression mentions: what the function that gathers them does with a row of the caller's. -/
import Derived.Test.YtmimkinjcfekmaaGreatFe
import Derived.WalkKit
import Derived.Lib.Walk
import Derived.Lib.SliceRun
import Derived.Deep.LoopGhost
import Derived.Maps.AppendAt
namespace Go.Proofs.YtmimkinjcfekmaaGreat.Ev
open Go Go.RowKit Go.Lib Go.Proofs
set_option maxRecDepth 100000
set_option linter.unusedVariables false
set_option linter.unusedSimpArgs false
set_option linter.unnecessarySimpa false
mutual
def Pv:Aa→List ByteArray
 | .mk op nm _ k=>(if op=3∨(22≤op∧op≤24) then [nm] else [])++Kk k
def Kk:List Aa→List ByteArray
 | []=> []
 |x::k=>Pv x++Kk k
end
mutual
def V7:Aa→Nat
 | .mk _ _ _ k=>1+t7 k
def t7:List Aa→Nat
 | []=>0
 |x::k=>V7 x+t7 k
end
theorem Aes(x:Aa):1≤V7 x:=by cases x with|mk a b c d=>rw [V7];omega
theorem Aet(l:List Aa):l.length≤t7 l:=by
 induction l with
 |nil=>rw [t7];exact Nat.le_refl _
 |cons x l ih=>rw [t7,List.length_cons];have:=Aes x;omega
theorem Aeu{x:Aa}{l:List Aa}(h:x∈l):V7 x≤t7 l:=by
 induction l with
 |nil=>cases h
 |cons y l ih=>
  rw [t7]
  rcases List.mem_cons.1 h with rfl|h
  ·omega
  ·have:=ih h;omega
theorem Aer(x:Aa):x.Kids.length≤V7 x:=by
 cases x with|mk a b c d=>rw [V7];have:=Aet d;show d.length≤_;omega
theorem Aeq(x:Aa)(k:Nat)(h:k < x.Kids.length):V7 (x.Kids.getD k default)≤V7 x:=by
 have h1:=Aeu (l:=x.Kids) (x:=x.Kids.getD k default) (by rw [J1 _ k h];exact List.getElem_mem h)
 cases x with|mk a b c d=>rw [V7];have h2:V7 (d.getD k default)≤t7 d:=h1;show V7 (d.getD k default)≤_;omega
mutual
theorem u3:∀x:Aa,(Pv x).length≤V7 x
 | .mk op nm n k=>by
  have:=Acr k
  rw [Pv,V7,List.length_append]
  by_cases h:op=3∨(22≤op∧op≤24)
  ·rw [if_pos h];simp;omega
  ·rw [if_neg h];simp;omega
theorem Acr:∀k:List Aa,(Kk k).length≤t7 k
 | []=>by rw [Kk,t7];exact Nat.le_refl _
 |x::k=>by
  have h1:=u3 x
  have h2:=Acr k
  rw [Kk,t7,List.length_append];omega
end
theorem g7(x:Aa):Pv x=(if x.Op=3∨(22≤x.Op∧x.Op≤24) then [x.Name] else [])++Kk x.Kids:=by
 cases x with|mk a b c d=>rw [Pv];rfl
theorem t8(l k:List Aa):Kk (l++k)=Kk l++Kk k:=by
 induction l with
 |nil=>rw [Kk];rfl
 |cons x l ih=>rw [List.cons_append,Kk,Kk,ih,List.append_assoc]
theorem Qr(l:List Aa)(i:Nat)(h:i < l.length):Kk (l.take (i+1))=Kk (l.take i)++Pv (l.getD i default):=by
 rw [List.take_succ_eq_append_getElem h,t8,Kk,Kk,List.append_nil,J1 l i h]
theorem g8(l:List Aa)(i:Nat)(h:i < l.length):(Kk (l.take i)).length+(Pv (l.getD i default)).length≤(Kk l).length:=by
 have h1:=congrArg List.length (Qr l i h)
 have h2:Kk l=Kk (l.take (i+1))++Kk (l.drop (i+1)):=by rw [←t8,List.take_append_drop]
 rw [h2,List.length_append,h1,List.length_append]
 omega
theorem f0(x:Aa)(i:Nat)(h:i < x.Kids.length):SizeOf.sizeOf (x.Kids.getD i default) < SizeOf.sizeOf x:=by
 cases x with
 |mk a b c d=>
  rw [J1 _ i h]
  have:SizeOf.sizeOf (d[i]'h) < SizeOf.sizeOf d:=List.sizeOf_lt_of_mem (List.getElem_mem h)
  simp only [Aa.mk.sizeOf_spec]
  show SizeOf.sizeOf (d[i]'h) < _
  omega
def Tl(w:World)(N:It)(a:Option Addr)(ks:List Aa):Prop:=∀i,i < ks.length→∃(ad:Addr) (v:Nat→Value),a=some ad∧(∀j,j < 4→w.cell? (ad.add (i*4+j))=some (v j))∧
 Al w N (fun _=>none) w.heap.size (.agg (Bf (ks.getD i default))) (.agg #[v 0,v 1,v 2,v 3])
theorem Nz{w:World}{N:It}{x:Aa}{v:Value}(h:Al w N (fun _=>none) w.heap.size (.agg (Bf x)) v):
  ∃a c,v= .agg #[.int .i64 x.Op,.string x.Name,.int .i64 x.N,.slice a x.Kids.length c]∧Tl w N a x.Kids:=by
 generalize hp:PV.agg (Bf x)=p at h
 cases h with
 |agg l cs hl h1 hr=>
  injection hp with hp
  subst hp
  match cs,hl with
  | [c0,c1,c2,c3],_=>
   have e0:c0= .int .i64 x.Op:=(hr 0 _ c0 rfl rfl).val_eq
   have e1:c1= .string x.Name:=(hr 1 _ c1 rfl rfl).val_eq
   have e2:c2= .int .i64 x.N:=(hr 2 _ c2 rfl rfl).val_eq
   have h3:=hr 3 (.lst false (.t38 x.Kids)) c3 rfl rfl
   subst e0;subst e1;subst e2
   generalize hq:PV.lst false (.t38 x.Kids)=q at h3
   cases h3 with
   |row _ s hs a c vs hc hsz ha hm hrr=>
    subst hq
    injection hs with hs
    subst hs
    refine ⟨a,c,rfl,fun i hi=> ?_⟩
    obtain ⟨ad,had⟩:=ha i hi
    have hm':=fun j p hp=>hm ad i j p had hi hp
    have hr':=fun j p hp=>hrr i j p hi hp
    refine ⟨ad,vs i,had,fun j hj=> ?_,?_⟩
    ·match j,hj with
     |0,_=>exact (hm' 0 _ rfl).2.1
     |1,_=>exact (hm' 1 _ rfl).2.1
     |2,_=>exact (hm' 2 _ rfl).2.1
     |3,_=>exact (hm' 3 _ rfl).2.1
    ·refine .agg (Bf (x.Kids.getD i default)) [vs i 0,vs i 1,vs i 2,vs i 3] rfl (fun u hu=> ?_) (fun j p u hp hu=> ?_)
     ·simp only [List.mem_cons,List.not_mem_nil,or_false] at hu
      rcases hu with rfl|rfl|rfl|rfl
      ·exact (hm' 0 _ rfl).2.2
      ·exact (hm' 1 _ rfl).2.2
      ·exact (hm' 2 _ rfl).2.2
      ·exact (hm' 3 _ rfl).2.2
     ·match j,hp,hu with
      |0,hp,hu=>injection hu with hu;subst hu;exact hr' 0 p hp
      |1,hp,hu=>injection hu with hu;subst hu;exact hr' 1 p hp
      |2,hp,hu=>injection hu with hu;subst hu;exact hr' 2 p hp
      |3,hp,hu=>injection hu with hu;subst hu;exact hr' 3 p hp
      |j+4,hp,hu=>simp at hu
   |val _ _=>cases hq
   |_=>cases hq
 |row _ s hs=>subst hp;cases hs
 |_=>cases hp
end Go.Proofs.YtmimkinjcfekmaaGreat.Ev
