/-  Chapter 44, plainly: the program's pictures. -/
import Derived.Test.YthjhkpgonleelaaGreatDoorBQA
import Derived.Test.YthjhkpgonleelaaGreatDoorBUA
import Derived.Test.YthjhkpgonleelaaGreatDoorBTA
namespace Go.Proofs.YthjhkpgonleelaaGreatDoor.Ev
open Go An
set_option maxRecDepth 100000
set_option linter.unusedVariables false
set_option linter.unusedSimpArgs false
set_option linter.unnecessarySimpa false
def Av7(ks:List Aw)(a b:Int):List Aw:=match ks.findIdx? (fun c=>a == c.u_proc && b == c.u_resource) with
 |some i=>ks.take i++ks.drop (i+1)
 |none=>ks
def Aw7(ks:List Aw)(a b:Int):List Aw:=match ks.findIdx? (fun c=>a == c.u_proc && b == c.u_resource) with
 |some _=>ks
 |none=>ks++ [⟨a,b⟩]
def Ach(a:Int):Nat→Nat→List Aw→List Aw
 |_,0,ks=>ks
 |i,d+1,ks=>Ach a (i+1) d (Av7 ks a (i:Int))
theorem Biv(ks:List Aw)(i:Nat)(h:i < ks.length):(tr ks).take i++(tr ks).drop (i+1)=tr (ks.take i++ks.drop (i+1)):=by
 unfold tr
 rw [List.take_replicate,List.drop_replicate,List.replicate_append_replicate]
 congr 1
 rw [List.length_append,List.length_take,List.length_drop]
theorem Biw(ks:List Aw)(i:Nat):(tr ks).set i true=tr ks:=by
 unfold tr
 apply List.ext_getElem?
 intro j
 rw [List.getElem?_set]
 split
 ·rename_i h
  subst h
  split
  ·rename_i h;rw [List.getElem?_eq_getElem (by simpa using h),List.getElem_replicate]
  ·rename_i h;rw [List.getElem?_eq_none (by simpa using h)]
 ·rfl
theorem Aq6{R:Type}(ks:List Aw)(a b:Int)(F:List Aw→List Bool→Option R):
  Ry (ks.findIdx? fun c=>a == c.u_proc && b == c.u_resource) (fun i=>F ((ks.take i).drop 0++(ks.take ks.length).drop (i+1)) (((tr ks).take i).drop 0++((tr ks).take (tr ks).length).drop (i+1))) (F ks (tr ks))=F (Av7 ks a b) (tr (Av7 ks a b)):=by
 unfold Av7
 cases h:ks.findIdx? fun c=>a == c.u_proc && b == c.u_resource with
 |none=>rfl
 |some i=>
  have hi:=(List.findIdx?_eq_some_iff_getElem.1 h).1
  simp only [Ry,List.drop_zero,List.take_length,Biv ks i hi]
theorem Azd{R:Type}(ks:List Aw)(a b:Int)(F:List Aw→List Bool→Option R):
  Ry (ks.findIdx? fun c=>a == c.u_proc && b == c.u_resource) (fun i=>F ks ((tr ks).set i true)) (F (ks++ [(⟨a,b⟩:Aw)]) (tr ks++ [true]))=F (Aw7 ks a b) (tr (Aw7 ks a b)):=by
 unfold Aw7
 cases h:ks.findIdx? fun c=>a == c.u_proc && b == c.u_resource with
 |none=>simp only [Ry];rw [Ah3]
 |some i=>simp only [Ry,Biw]
theorem A63(L:Nat)(p:Ad)(s:Int)(l:List Bo)(j t:Int)(P H I:List Int)(m:Nat)(hm:(Eb p s).Decl.Resources.length=m)(hl:m≤maxLen):∀(d i n:Nat) (ks:List Aw),i+d=m→d < n→
  Dp L p s l j t P H I n (i:Int) ks (tr ks)=some (0,((m:Int),Ach (l.getD (Int.toNat j) default).Proc i d ks,tr (Ach (l.getD (Int.toNat j) default).Proc i d ks))):=by
 intro d
 induction d with
 |zero=>
  intro i n ks h hn
  obtain ⟨n,rfl⟩:∃k,n=k+1:=⟨n - 1,by omega⟩
  rw [Dp,Lj]
  simp only [aN,aB,show p.Sites.getD (Int.toNat s) default=Eb p s from rfl,toN,hm,Kh (show m≤i by omega),cond_false,Ach]
  rw [show i=m by omega]
 |succ d ih=>
  intro i n ks h hn
  obtain ⟨n,rfl⟩:∃k,n=k+1:=⟨n - 1,by omega⟩
  rw [Dp,Lj]
  simp only [aN,aB,show p.Sites.getD (Int.toNat s) default=Eb p s from rfl,toN,hm,J3 (show i < m by omega),cond_true,B6 (show i < m by omega) hl,Ach]
  rw [Aq6 ks _ (i:Int) (fun a b=>Dp L p s l j t P H I n ((i+1:Nat):Int) a b)]
  exact ih (i+1) n _ (by omega) (by omega)
theorem A64(L:Nat)(p:Ad)(s:Int)(l:List Bo)(j t:Int)(P H I:List Int)(m:Nat)(hm:(Eb p s).Decl.Resources.length=m)(hl:m≤maxLen):∀(d i n:Nat) (ks:List Aw),i+d=m→d < n→
  Dq L p s l j t P H I n (i:Int) ks (tr ks)=some (0,((m:Int),Ach (l.getD (Int.toNat j) default).Proc i d ks,tr (Ach (l.getD (Int.toNat j) default).Proc i d ks))):=by
 intro d
 induction d with
 |zero=>
  intro i n ks h hn
  obtain ⟨n,rfl⟩:∃k,n=k+1:=⟨n - 1,by omega⟩
  rw [Dq,Lk]
  simp only [aN,aB,show p.Sites.getD (Int.toNat s) default=Eb p s from rfl,toN,hm,Kh (show m≤i by omega),cond_false,Ach]
  rw [show i=m by omega]
 |succ d ih=>
  intro i n ks h hn
  obtain ⟨n,rfl⟩:∃k,n=k+1:=⟨n - 1,by omega⟩
  rw [Dq,Lk]
  simp only [aN,aB,show p.Sites.getD (Int.toNat s) default=Eb p s from rfl,toN,hm,J3 (show i < m by omega),cond_true,B6 (show i < m by omega) hl,Ach]
  rw [Aq6 ks _ (i:Int) (fun a b=>Dq L p s l j t P H I n ((i+1:Nat):Int) a b)]
  exact ih (i+1) n _ (by omega) (by omega)
def Ak4(s t:Int)(x:Bo):Bool:=x.Site == s && decide (x.Time≤t)
def Anw(m:Nat)(l:List Int)(ix d:Int):List Int:=if 0≤ix∧ix < (m:Int) then l.set (Int.toNat ix) (Bi (l.getD (Int.toNat ix) default+d)) else l
structure Dim where
 r:Nat
 h:Nat
 i:Nat
def Xl(p:Ad)(s:Int):Dim:=⟨(Eb p s).Routines.length,(Eb p s).Decl.Resources.length,(Eb p s).Decl.Stores.length⟩
def Ax8(n:Int):Bool:=decide (1≤n) && decide (n≤1000)
structure Pic where
 ks:List Aw
 P:List Int
 H:List Int
 I:List Int
def Aay(m:Dim)(x:Bo)(v:Pic):Pic:=
 if x.What=1 then { v with P:=Anw m.r v.P x.Index 1 }
 else if x.What=2 then { v with ks:=Ach x.Proc 0 m.h v.ks,P:=Anw m.r v.P x.Index (-1) }
 else if x.What=8 then { v with I:=Anw m.i v.I x.Index 1 }
 else if x.What=9 then { v with I:=Anw m.i v.I x.Index (-1) }
 else if 0≤x.Index∧x.Index < (m.h:Int) then
  if x.What=5 then { v with ks:=Aw7 v.ks x.Proc x.Index }
  else if Ax8 x.Value=false then v
  else if x.What=4 then { v with ks:=Av7 v.ks x.Proc x.Index,H:=Anw m.h v.H x.Index x.Value }
  else if x.What=6 then { v with H:=Anw m.h v.H x.Index (Bi (0 - x.Value)) }
  else if x.What=7 then { v with ks:=Aw7 v.ks x.Proc x.Index,H:=Anw m.h v.H x.Index (Bi (0 - x.Value)) }
  else v
 else v
def Yx(m:Dim)(s t:Int):List Bo→Pic→Pic
 | [],v=>v
 |x::k,v=>Yx m s t k (bif Ak4 s t x then Aay m x v else v)
theorem A7b(L:Nat)(s t:Int)(l:List Bo)(p:Ad)(hm:(Eb p s).Decl.Resources.length≤maxLen)(hL:(Eb p s).Decl.Resources.length < L)(x:Bo)(k:List Bo)(i:Nat)(hx:l.getD i default=x)(v:Pic):
  Ac L s t l p (x::k) i v.ks (tr v.ks) v.P v.H v.I=Ac L s t l p k (i+1) (bif Ak4 s t x then Aay (Xl p s) x v else v).ks (tr (bif Ak4 s t x then Aay (Xl p s) x v else v).ks)
   (bif Ak4 s t x then Aay (Xl p s) x v else v).P (bif Ak4 s t x then Aay (Xl p s) x v else v).H (bif Ak4 s t x then Aay (Xl p s) x v else v).I:=by
 obtain ⟨ks,P,H,I⟩:=v
 have h2:Dp L p s l (i:Int) t P H I L 0 ks (tr ks)=_:=A63 L p s l (i:Int) t P H I _ rfl hm _ 0 L ks (Nat.zero_add _) hL
 have h3:Dq L p s l (i:Int) t P H I L 0 ks (tr ks)=_:=A64 L p s l (i:Int) t P H I _ rfl hm _ 0 L ks (Nat.zero_add _) hL
 rw [toN,hx] at h2 h3
 rw [Ac]
 simp only [Kz,h2,h3,Option.bind_some,R4,show p.Sites.getD (Int.toNat s) default=Eb p s from rfl,toN]
 generalize Ac L s t l p k (i+1)=G
 show (bif Ak4 s t x then _ else _)=_
 cases Ak4 s t x with
 |false=>rfl
 |true=>
  simp only [cond_true]
  unfold Aay Xl Anw
  simp only
  generalize (Eb p s).Routines.length=nr
  generalize (Eb p s).Decl.Resources.length=nh
  generalize (Eb p s).Decl.Stores.length=ni
  by_cases w1:x.What=1
  ·simp only [w1,show ((1:Int) == 1)=true from rfl,cond_true,if_true]
   by_cases a1:0≤x.Index<;>by_cases a2:x.Index < (nr:Int)<;>simp only [ge_iff_le,a1,a2,decide_true,decide_false,Bool.and_self,Bool.and_false,Bool.false_and,Bool.and_true,Bool.true_and,cond_true,cond_false,if_true,if_false,and_self,and_false,false_and,true_and]
  by_cases w2:x.What=2
  ·simp only [w2,show ((2:Int) == 1)=false from rfl,show ((2:Int) == 2)=true from rfl,show ((2:Int)=1)=False from by simp,cond_true,cond_false,if_true,if_false]
   by_cases a1:0≤x.Index<;>by_cases a2:x.Index < (nr:Int)<;>simp only [ge_iff_le,a1,a2,decide_true,decide_false,Bool.and_self,Bool.and_false,Bool.false_and,Bool.and_true,Bool.true_and,cond_true,cond_false,if_true,if_false,and_self,and_false,false_and,true_and]
  by_cases w8:x.What=8
  ·simp only [w8,show ((8:Int) == 1)=false from rfl,show ((8:Int) == 2)=false from rfl,show ((8:Int) == 8)=true from rfl,show ((8:Int)=1)=False from by simp,show ((8:Int)=2)=False from by simp,cond_true,cond_false,if_true,if_false]
   by_cases a1:0≤x.Index<;>by_cases a2:x.Index < (ni:Int)<;>simp only [ge_iff_le,a1,a2,decide_true,decide_false,Bool.and_self,Bool.and_false,Bool.false_and,Bool.and_true,Bool.true_and,cond_true,cond_false,if_true,if_false,and_self,and_false,false_and,true_and]
  by_cases w9:x.What=9
  ·simp only [w9,show ((9:Int) == 1)=false from rfl,show ((9:Int) == 2)=false from rfl,show ((9:Int) == 8)=false from rfl,show ((9:Int) == 9)=true from rfl,show ((9:Int)=1)=False from by simp,show ((9:Int)=2)=False from by simp,show ((9:Int)=8)=False from by simp,cond_true,cond_false,if_true,if_false]
   by_cases a1:0≤x.Index<;>by_cases a2:x.Index < (ni:Int)<;>simp only [ge_iff_le,a1,a2,decide_true,decide_false,Bool.and_self,Bool.and_false,Bool.false_and,Bool.and_true,Bool.true_and,cond_true,cond_false,if_true,if_false,and_self,and_false,false_and,true_and]
  have n1:(x.What == 1)=false:=beq_eq_false_iff_ne.2 w1
  have n2:(x.What == 2)=false:=beq_eq_false_iff_ne.2 w2
  have n8:(x.What == 8)=false:=beq_eq_false_iff_ne.2 w8
  have n9:(x.What == 9)=false:=beq_eq_false_iff_ne.2 w9
  simp only [n1,n2,n8,n9,w1,w2,w8,w9,cond_false,if_false]
  by_cases hin:0≤x.Index∧x.Index < (nh:Int)
  ·have a1:(0≤x.Index)=True:=eq_true hin.1
   have a2:(x.Index < (nh:Int))=True:=eq_true hin.2
   have a3:(x.Index < 0)=False:=eq_false (by omega)
   have a4:(x.Index≥(nh:Int))=False:=eq_false (by omega)
   have a5:(x.Index≥0)=True:=eq_true (by omega)
   simp only [a1,a2,a3,a4,a5,and_self,if_true,decide_true,decide_false,Bool.and_self,cond_true,cond_false]
   have ub:Ax8 x.Value=(!decide (x.Value < 1) && !decide (x.Value > 1000)):=by
    unfold Ax8
    rw [Bool.eq_iff_iff]
    simp only [Bool.and_eq_true,decide_eq_true_eq,Bool.not_eq_true',decide_eq_false_iff_not]
    omega
   rw [ub]
   by_cases w5:x.What=5
   ·simp only [w5,show ((5:Int) == 4)=false from rfl,show ((5:Int) == 6)=false from rfl,show ((5:Int) == 7)=false from rfl,show ((5:Int) == 5)=true from rfl,show ((5:Int) != 5)=false from rfl,cond_true,cond_false,if_true]
    exact Azd ks x.Proc x.Index fun a b=>G a b P H I
   ·have n5:(x.What == 5)=false:=beq_eq_false_iff_ne.2 w5
    have n5':(x.What != 5)=true:=bne_iff_ne.2 w5
    simp only [n5,n5',w5,cond_true,cond_false,if_false]
    cases hv1:decide (x.Value < 1) with
    |true=>simp only [Bool.not_true,Bool.false_and,cond_true,if_true];cases (x.What == 4)<;>cases (x.What == 6)<;>cases (x.What == 7)<;>rfl
    |false=>
     cases hv2:decide (x.Value > 1000) with
     |true=>simp only [Bool.not_true,Bool.not_false,Bool.and_false,cond_true,cond_false,if_true];cases (x.What == 4)<;>cases (x.What == 6)<;>cases (x.What == 7)<;>rfl
     |false=>
      simp only [Bool.not_false,Bool.and_self,cond_false,Bool.true_eq_false,if_false]
      by_cases w4:x.What=4
      ·simp only [w4,show ((4:Int) == 4)=true from rfl,cond_true,if_true]
       exact Aq6 ks x.Proc x.Index fun a b=>G a b P (H.set (Int.toNat x.Index) (Bi (H.getD (Int.toNat x.Index) default+x.Value))) I
      ·have n4:(x.What == 4)=false:=beq_eq_false_iff_ne.2 w4
       by_cases w6:x.What=6
       ·simp only [w6,show ((6:Int) == 4)=false from rfl,show ((6:Int) == 6)=true from rfl,show ((6:Int)=4)=False from by simp,cond_true,cond_false,if_true,if_false]
       ·have n6:(x.What == 6)=false:=beq_eq_false_iff_ne.2 w6
        by_cases w7:x.What=7
        ·simp only [w7,show ((7:Int) == 4)=false from rfl,show ((7:Int) == 6)=false from rfl,show ((7:Int) == 7)=true from rfl,show ((7:Int)=4)=False from by simp,show ((7:Int)=6)=False from by simp,cond_true,cond_false,if_true,if_false]
         exact Azd ks x.Proc x.Index fun a b=>G a b P (H.set (Int.toNat x.Index) (Bi (H.getD (Int.toNat x.Index) default+Bi (0 - x.Value)))) I
        ·have n7:(x.What == 7)=false:=beq_eq_false_iff_ne.2 w7
         simp only [n4,n6,n7,w4,w6,w7,cond_false,if_false]
  ·have hor:decide (x.Index < 0)=true∨decide (x.Index≥(nh:Int))=true:=by
    by_cases h:x.Index < 0
    ·exact .inl (decide_eq_true h)
    ·exact .inr (decide_eq_true (by omega))
   rw [if_neg hin]
   rcases hor with h|h
   ·simp only [h,cond_true]
    cases (x.What == 4)<;>cases (x.What == 6)<;>cases (x.What == 7)<;>cases (x.What == 5)<;>rfl
   ·simp only [h,cond_true]
    cases decide (x.Index < 0)<;>cases (x.What == 4)<;>cases (x.What == 6)<;>cases (x.What == 7)<;>cases (x.What == 5)<;>rfl
theorem A3p(L:Nat)(s t:Int)(l:List Bo)(p:Ad)(hm:(Eb p s).Decl.Resources.length≤maxLen)(hL:(Eb p s).Decl.Resources.length < L):∀(k:List Bo) (i:Nat) (v:Pic),l.drop i=k→
  Ac L s t l p k i v.ks (tr v.ks) v.P v.H v.I=some (0,(((i+k.length:Nat):Int),(Yx (Xl p s) s t k v).ks,tr (Yx (Xl p s) s t k v).ks,(Yx (Xl p s) s t k v).P,(Yx (Xl p s) s t k v).H,(Yx (Xl p s) s t k v).I)):=by
 intro k
 induction k with
 |nil=>intro i v _;rfl
 |cons x k ih=>
  intro i v hd
  obtain ⟨_,hx,hd'⟩:=Zh hd
  rw [A7b L s t l p hm hL x k i hx v,ih (i+1) _ hd',Yx]
  rw [List.length_cons,show i+1+k.length=i+(k.length+1) by omega]
end Go.Proofs.YthjhkpgonleelaaGreatDoor.Ev
namespace Go.Proofs.YthjhkpgonleelaaGreatDoor.Ev
open Go An
set_option maxRecDepth 100000
set_option linter.unusedVariables false
set_option linter.unusedSimpArgs false
set_option linter.unnecessarySimpa false
def A2f(m:Nat)(ks:List Aw):List Int:=ks.foldl (fun v c=>Alt c.u_resource (m:Int) v) (List.replicate m 0)
theorem Awk{α β :Type} [Inhabited α](l:List α)(g: α→β→β)(F:Nat→β→Option β)(hF:∀i v,F i v=some (g (l.getD i default) v)):∀(k:List α) (i:Nat) (v: β),l.drop i=k→Zy F (List.range' i k.length) v=some (k.foldl (fun v c=>g c v) v):=by
 intro k
 induction k with
 |nil=>intro i v _;rfl
 |cons x k ih=>
  intro i v hd
  obtain ⟨_,hx,hd'⟩:=Zh hd
  rw [List.length_cons,List.range'_succ,Zy,hF,hx,Option.bind_some,ih (i+1) _ hd']
  rfl
def Ars(m:Dim):Pic:=⟨[],List.replicate m.r 0,List.replicate m.h 0,List.replicate m.i 0⟩
def Aze(s t:Int)(m:Dim)(v:Pic):Bc:=⟨t,s,v.P,v.H,A2f m.h v.ks,v.I⟩
def Art(p:Ad)(l:List Bo)(s t:Int):Bc:=Aze s t (Xl p s) (Yx (Xl p s) s t l (Ars (Xl p s)))
def Ay7(m:Dim)(n:Nat):Prop:=m.r≤n∧m.h≤n∧m.i≤n
theorem Ay5(ks:List Aw)(a b:Int):(Av7 ks a b).length≤ks.length:=by
 unfold Av7
 split
 ·rw [List.length_append,List.length_take,List.length_drop];omega
 ·exact Nat.le_refl _
theorem Bb3(ks:List Aw)(a b:Int):(Aw7 ks a b).length≤ks.length+1:=by
 unfold Aw7
 split
 ·omega
 ·rw [List.length_append];simp
theorem As5(a:Int):∀(d i:Nat) (ks:List Aw),(Ach a i d ks).length≤ks.length
 |0,i,ks=>Nat.le_refl _
 |d+1,i,ks=>by rw [Ach];exact Nat.le_trans (As5 a d (i+1) _) (Ay5 ks a _)
theorem Bc4(m:Dim)(x:Bo)(v:Pic):(Aay m x v).ks.length≤v.ks.length+1:=by
 unfold Aay
 have h1:=As5 x.Proc m.h 0 v.ks
 have h2:=Bb3 v.ks x.Proc x.Index
 have h3:=Ay5 v.ks x.Proc x.Index
 repeat' split
 all_goals first|omega|(simp only;omega)
theorem A1h(m:Dim)(s t:Int):∀(k:List Bo) (v:Pic),(Yx m s t k v).ks.length≤v.ks.length+k.length
 | [],v=>Nat.le_refl _
 |x::k,v=>by
  rw [Yx]
  have h1:=A1h m s t k (bif Ak4 s t x then Aay m x v else v)
  have h2:(bif Ak4 s t x then Aay m x v else v).ks.length≤v.ks.length+1:=by
   cases Ak4 s t x with
   |true=>exact Bc4 m x v
   |false=>show v.ks.length≤_;omega
  rw [List.length_cons];omega
theorem Alu(m:Nat)(l:List Int)(a d:Int):(Anw m l a d).length=l.length:=by
 unfold Anw
 split
 ·rw [List.length_set]
 ·rfl
structure Aqf (m:Dim) (v:Pic):Prop where
 p:v.P.length=m.r
 h:v.H.length=m.h
 i:v.I.length=m.i
theorem A8l(m:Dim)(x:Bo)(v:Pic)(h:Aqf m v):Aqf m (Aay m x v):=by
 obtain ⟨h1,h2,h3⟩:=h
 unfold Aay
 repeat' split
 all_goals exact ⟨by simp only [Alu,h1],by simp only [Alu,h2],by simp only [Alu,h3]⟩
theorem Auq(m:Dim)(s t:Int):∀(k:List Bo) (v:Pic),Aqf m v→Aqf m (Yx m s t k v)
 | [],v,h=>h
 |x::k,v,h=>by
  rw [Yx]
  refine Auq m s t k _ ?_
  cases Ak4 s t x with
  |true=>exact A8l m x v h
  |false=>exact h
theorem A8t(m:Nat)(ks:List Aw):(A2f m ks).length=m:=by
 unfold A2f
 have:∀(ks:List Aw) (v:List Int),(ks.foldl (fun v c=>Alt c.u_resource (m:Int) v) v).length=v.length:=by
  intro ks
  induction ks with
  |nil=>intro v;rfl
  |cons c ks ih=>intro v;rw [List.foldl_cons,ih];unfold Alt;split<;>simp
 rw [this,List.length_replicate]
theorem Bb1(p:Ad)(l:List Bo)(s t:Int)(n:Nat)(h:Ay7 (Xl p s) n):Axe (Art p l s t) n:=by
 have h1:=Auq (Xl p s) s t l (Ars (Xl p s)) ⟨by simp [Ars],by simp [Ars],by simp [Ars]⟩
 obtain ⟨a,b,c⟩:=h
 refine ⟨?_,?_,?_,?_⟩
 ·show (Yx _ s t l _).P.length≤n;rw [h1.p];exact a
 ·show (Yx _ s t l _).H.length≤n;rw [h1.h];exact b
 ·show (A2f _ _).length≤n;rw [A8t];exact b
 ·show (Yx _ s t l _).I.length≤n;rw [h1.i];exact c
theorem Z8(L:Nat)(p:Ad)(l:List Bo)(s t:Int)(hs:inP p s)(hd:Ay7 (Xl p s) 1048576)(hl:l.length≤1048576)(hL:maxLen < L):Gp L p l s t=some (Art p l s t):=by
 obtain ⟨d1,d2,d3⟩:=hd
 have d1:(Eb p s).Routines.length≤1048576:=d1
 have d2:(Eb p s).Decl.Resources.length≤1048576:=d2
 have d3:(Eb p s).Decl.Stores.length≤1048576:=d3
 have hmx:1048577 < maxLen:=by unfold maxLen;omega
 have hq:Ac L s t l p l 0 [] [] (List.replicate (Eb p s).Routines.length 0) (List.replicate (Eb p s).Decl.Resources.length 0) (List.replicate (Eb p s).Decl.Stores.length 0)=_:=
  A3p L s t l p (by omega) (by omega) l 0 (Ars (Xl p s)) rfl
 have hk:=A1h (Xl p s) s t l (Ars (Xl p s))
 unfold Gp j8
 simp only [Qg,P9,Qh,Lq,aN,aB,show p.Sites.getD (Int.toNat s) default=Eb p s from rfl,toN]
 rw [if_pos hs.1,if_pos hs.2]
 repeat rw [if_pos (by omega)]
 rw [Acr L s t l p L (by omega) (by omega),hq,Option.bind_some,R4]
 generalize hv:Yx (Xl p s) s t l (Ars (Xl p s))=v
 rw [hv] at hk
 have hk':v.ks.length≤1048576:=by
  have:(Ars (Xl p s)).ks.length=0:=rfl
  omega
 unfold P7
 simp only
 rw [if_pos (show v.ks.length < L by omega)]
 have hf:=Awk v.ks (fun c w=>Alt c.u_resource ((Eb p s).Decl.Resources.length:Int) w) (fun i0 w=>(C7 L p (0,(((0+l.length:Nat):Int),v.ks,tr v.ks,v.P,v.H,v.I)) t s i0 w:Option (List Int))) (fun i w=>by
  rw [A7g]
  simp only [show p.Sites.getD (Int.toNat s) default=Eb p s from rfl,toN]) v.ks 0 (List.replicate (Eb p s).Decl.Resources.length 0) rfl
 rw [List.range_eq_range',hf,Option.bind_some]
 unfold Art Aze
 rw [hv]
 rfl
end Go.Proofs.YthjhkpgonleelaaGreatDoor.Ev
namespace Go.Proofs.YthjhkpgonleelaaGreatDoor.Ev
open Go An
set_option maxRecDepth 100000
set_option linter.unusedVariables false
set_option linter.unusedSimpArgs false
set_option linter.unnecessarySimpa false
def Bed:Bc:=⟨0,0,[],[],[],[]⟩
def Aqn(p:Ad)(s t:Int):Bool:=decide (s < 0) || decide (s≥(p.Sites.length:Int)) || decide (t < 0) || decide (t > 1000000000)
theorem Adr(L:Nat)(p:Ad)(s t:Int):L2 L p s t=some (Aqn p s t):=by
 simp only [s8,L2,aN,aB,Aqn,Rx]
def atF(p:Ad)(l:List Bo)(s t:Int):Bc×Int:=if Ae1 Kr p≠0 then (Bed,Ae1 Kr p) else bif Aqn p s t then (Bed,2) else (Art p l s t,0)
theorem PG.dim{p:Ad}(h:PG p){s:Int}(hs:inP p s):Ay7 (Xl p s) 1048576:=by
 have hm:Eb p s∈p.Sites:=by
  unfold Eb
  have hl:Int.toNat s < p.Sites.length:=by have:=hs.1;have:=hs.2;omega
  rw [Za _ _ hl];exact List.getElem_mem hl
 obtain ⟨hM,_,_⟩:=h.site _ hm
 have hS:SG (Eb p s).Decl:=hM.site _ (by show _∈ [(Eb p s).Decl];simp)
 have hb:=h.bk
 have h1:=Sd (g:=Ef) hm
 have h2:Ef (Eb p s)≤1048576:=by unfold Mm at hb;omega
 have hr:=Ajv (g:=Ng) (fun x=>by unfold Ng;omega) (Eb p s).Routines
 unfold Ef at h2
 have hln:Afn (Eb p s).Decl (Da (Eb p s).Decl):=Auc _
 refine ⟨by show (Eb p s).Routines.length≤_;omega,?_,?_⟩
 ·have:=hln.2.1;show (Eb p s).Decl.Resources.length≤_;omega
 ·have:=hln.2.2.1;show (Eb p s).Decl.Stores.length≤_;omega
theorem Ayz{p:Ad}{s t:Int}(h:Aqn p s t=false):inP p s∧0≤t∧t≤1000000000:=by
 simp only [Aqn,Bool.or_eq_false_iff,decide_eq_false_iff_not] at h
 exact ⟨⟨by omega,by omega⟩,by omega,by omega⟩
theorem An1(L:Nat)(p:Ad)(l:List Bo)(s t:Int)(h:PG p)(hl:l.length≤1048576)(hL:Ts≤L):Qj L p l s t=some (atF p l s t):=by
 have e1:Nk L ⟨p.Name,p.Sites,p.Links⟩=_:=Aez L p h hL
 have e2:L2 L ⟨p.Name,p.Sites,p.Links⟩ s t=_:=Adr L p s t
 simp only [Abg,Qj,aN,aB,e1,e2,Option.bind_some,atF]
 by_cases h0:Ae1 Kr p=0
 ·rw [h0,if_neg (by simp)]
  simp only [bne_self_eq_false,cond_false]
  cases hb:Aqn p s t with
  |true=>rfl
  |false=>
   obtain ⟨hs,_⟩:=Ayz hb
   rw [cond_false,show Gp L ⟨p.Name,p.Sites,p.Links⟩ l s t=_ from Z8 L p l s t hs (h.dim hs) hl (Mb hL)]
   rfl
 ·rw [if_pos h0,g6 h0];rfl
def U2(p:Ad)(l:List Bo)(s f d:Int):Nat→List Bc
 |0=> []
 |n+1=>U2 p l s f d n++ [Art p l s (f+(n:Int)*d)]
theorem Qc(p:Ad)(l:List Bo)(s f d:Int):∀n,(U2 p l s f d n).length=n
 |0=>rfl
 |n+1=>by rw [U2,List.length_append,Qc p l s f d n];rfl
theorem Ang(p:Ad)(l:List Bo)(s f d:Int):∀(n i:Nat),i < n→(U2 p l s f d n).getD i default=Art p l s (f+(i:Int)*d)
 |0,i,h=>absurd h (Nat.not_lt_zero i)
 |n+1,i,h=>by
  rw [U2,List.getD_eq_getElem?_getD]
  by_cases h1:i < n
  ·rw [List.getElem?_append_left (by rw [Qc];exact h1),←List.getD_eq_getElem?_getD]
   exact Ang p l s f d n i h1
  ·have h2:i=n:=by omega
   subst h2
   rw [List.getElem?_append_right (by rw [Qc];exact Nat.le_refl _),Qc,Nat.sub_self]
   rfl
theorem A3f(L:Nat)(p:Ad)(l:List Bo)(s f d n:Int)(m:Nat)(hn:n=(m:Int))(hm:m≤1000)(hs:inP p s)(hD:Ay7 (Xl p s) 1048576)(hl:l.length≤1048576)(hL:maxLen < L)(hf:0≤f∧f≤1000000000)(hd:1≤d∧d≤1000000000):
  ∀(r i k:Nat),i+r=m→r < k→F0 L l s f d n p k (U2 p l s f d i) (i:Int)=some (0,(U2 p l s f d m,(m:Int))):=by
 intro r
 induction r with
 |zero=>
  intro i k h hk
  obtain ⟨k,rfl⟩:∃j,k=j+1:=⟨k - 1,by omega⟩
  rw [F0,Mc]
  simp only [aN,aB,hn,Kh (show m≤i by omega),cond_false]
  rw [show i=m by omega]
 |succ r ih=>
  intro i k h hk
  obtain ⟨k,rfl⟩:∃j,k=j+1:=⟨k - 1,by omega⟩
  have hi:i < m:=by omega
  have hid:0≤(i:Int)*d∧(i:Int)*d≤1000*1000000000:=by
   refine ⟨Int.mul_nonneg (by omega) (by omega),?_⟩
   exact Int.mul_le_mul (by omega) hd.2 (by omega) (by omega)
  rw [F0,Mc]
  simp only [aN,aB,hn,J3 hi,cond_true]
  rw [Nv (n:=(i:Int)*d) (by omega) (by omega),Nv (n:=f+(i:Int)*d) (by omega) (by omega)]
  rw [show Gp L ⟨p.Name,p.Sites,p.Links⟩ l s (f+(i:Int)*d)=_ from Z8 L p l s _ hs hD hl hL,Option.bind_some,Qc]
  rw [if_pos (by simp;omega),if_pos (by simp;unfold maxLen;omega),B6 (n:=m) hi (by unfold maxLen;omega)]
  have:=ih (i+1) k (by omega) (by omega)
  rw [U2] at this
  rw [show n=(m:Int) from hn] at this
  exact this
def A2n(p:Ad)(s f d n:Int):Bool:=Aqn p s f || decide (d < 1) || decide (d > 1000000000) || decide (n < 0) || decide (n > 1000) || decide (Bi (f+Bi (Bi (n - 1)*d)) > 1000000000)
def Aq7(p:Ad)(l:List Bo)(s f d n:Int):List Bc×Int:=if Ae1 Kr p≠0 then ([],Ae1 Kr p) else bif A2n p s f d n then ([],2) else (U2 p l s f d n.toNat,0)
theorem Ay1{p:Ad}{s f d n:Int}(h:A2n p s f d n=false):inP p s∧(0≤f∧f≤1000000000)∧(1≤d∧d≤1000000000)∧(0≤n∧n≤1000)∧f+(n - 1)*d≤1000000000:=by
 simp only [A2n,Bool.or_eq_false_iff,decide_eq_false_iff_not] at h
 obtain ⟨⟨⟨⟨⟨h1,h2⟩,h3⟩,h4⟩,h5⟩,h6⟩:=h
 obtain ⟨hs,ht⟩:=Ayz h1
 have hd:1≤d∧d≤1000000000:=by omega
 have hn:0≤n∧n≤1000:=by omega
 have hm:(n - 1)*d≤1000*1000000000:=by
  by_cases h:n=0
  ·subst h;omega
  ·exact Int.mul_le_mul (by omega) hd.2 (by omega) (by omega)
 have hm': -1000000000≤(n - 1)*d:=by
  by_cases h:n=0
  ·subst h;omega
  ·have:=Int.mul_nonneg (show 0≤n - 1 by omega) (show 0≤d by omega);omega
 rw [Nv (n:=n - 1) (by omega) (by omega),Nv (n:=(n - 1)*d) (by omega) (by omega),Nv (n:=f+(n - 1)*d) (by omega) (by omega)] at h6
 exact ⟨hs,by omega,hd,hn,by omega⟩
theorem Ahk(L:Nat)(p:Ad)(l:List Bo)(s f d n:Int)(h:PG p)(hl:l.length≤1048576)(hL:Ts≤L):Mg L p l s f d n=some (Aq7 p l s f d n):=by
 have e1:Nk L ⟨p.Name,p.Sites,p.Links⟩=_:=Aez L p h hL
 have e2:L2 L ⟨p.Name,p.Sites,p.Links⟩ s f=_:=Adr L p s f
 have hl':=Mb hL
 have hbig:1048576 < maxLen:=by unfold maxLen;omega
 simp only [z6,Me,Je,Mg,Me,Je,aN,aB,e1,e2,Option.bind_some,Aq7]
 by_cases h0:Ae1 Kr p=0
 ·rw [h0,if_neg (by simp)]
  simp only [bne_self_eq_false,cond_false,Rx]
  show (bif A2n p s f d n then _ else _)=_
  cases hb:A2n p s f d n with
  |true=>rfl
  |false=>
   obtain ⟨hs,hf,hd,hn,_⟩:=Ay1 hb
   have:=A3f L p l s f d n n.toNat (by omega) (by omega) hs (h.dim hs) hl hl' hf hd n.toNat 0 L (by omega) (by omega)
   rw [cond_false,show F0 L l s f d n p L [] 0=_ from this,Option.bind_some,R4]
   rfl
 ·rw [if_pos h0,g6 h0];rfl
theorem A9h{c:Kg}(h:Acz c)(hb:Xk c≤1048576):PG c.P∧c.Recs.length≤1048576:=by
 unfold Xk at hb
 have:=Ajv (g:=Zw) (fun x=>by unfold Zw;omega) c.Recs
 exact ⟨⟨h.1,by omega⟩,by omega⟩
theorem A7f(L:Nat)(c:Kg)(hP:PG c.P)(hR:c.Recs.length≤1048576)(hL:Ts≤L)(n:Nat)(hn:n≤1000)(h0:Ae1 Kr c.P=0)(hs:inP c.P c.Site)(hT:0≤c.T∧c.T≤1000000000)(hS:1≤c.Step∧c.Step≤1000000000)(hE:c.T+((n:Int) - 1)*c.Step≤1000000000)(v:Bool):
  ∀(r i k:Nat),i+r=n→r < k→∃j,Ee L (U2 c.P c.Recs c.Site c.T c.Step n,0) c k v (i:Int)=some (1,(v,j)):=by
 intro r
 induction r with
 |zero=>
  intro i k h hk
  obtain ⟨k,rfl⟩:∃j,k=j+1:=⟨k - 1,by omega⟩
  refine ⟨(i:Int),?_⟩
  rw [Ee,Jt]
  simp only [aN,aB,Qc,Kh (show n≤i by omega),cond_false]
 |succ r ih=>
  intro i k h hk
  obtain ⟨k,rfl⟩:∃j,k=j+1:=⟨k - 1,by omega⟩
  have hi:i < n:=by omega
  obtain ⟨j,hj⟩:=ih (i+1) k (by omega) (by omega)
  refine ⟨j,?_⟩
  have hid:0≤(i:Int)*c.Step∧(i:Int)*c.Step≤((n:Int) - 1)*c.Step:=⟨Int.mul_nonneg (by omega) (by omega),Int.mul_le_mul (by omega) (Int.le_refl _) (by omega) (by omega)⟩
  have hb:Aqn c.P c.Site (c.T+(i:Int)*c.Step)=false:=by
   simp only [Aqn,Bool.or_eq_false_iff,decide_eq_false_iff_not]
   have:=hs.1;have:=hs.2
   exact ⟨⟨⟨by omega,by omega⟩,by omega⟩,by omega⟩
  have eA:Qj L ⟨c.P.Name,c.P.Sites,c.P.Links⟩ c.Recs c.Site (c.T+(i:Int)*c.Step)=some (Art c.P c.Recs c.Site (c.T+(i:Int)*c.Step),0):=by
   rw [show Qj L ⟨c.P.Name,c.P.Sites,c.P.Links⟩ c.Recs c.Site (c.T+(i:Int)*c.Step)=_ from An1 L c.P c.Recs c.Site _ hP hR hL,atF,if_neg (by simp [h0]),hb];rfl
  have hm:1048577 < maxLen:=by unfold maxLen;omega
  have hl:=Mb hL
  have hle:=Bb1 c.P c.Recs c.Site (c.T+(i:Int)*c.Step) 1048576 (hP.dim hs)
  have eS:Vg L (Art c.P c.Recs c.Site (c.T+(i:Int)*c.Step)) (Art c.P c.Recs c.Site (c.T+(i:Int)*c.Step))=some true:=by
   rw [Aun L _ _ ⟨by have:=hle.1;omega,by have:=hle.2.1;omega,by have:=hle.2.2.1;omega,by have:=hle.2.2.2;omega⟩ ⟨by have:=hle.1;omega,by have:=hle.2.1;omega,by have:=hle.2.2.1;omega,by have:=hle.2.2.2;omega⟩ (by omega),(A3x _ _).2 rfl]
  rw [Ee,Jt]
  simp only [aN,aB,Qc,J3 hi,cond_true]
  rw [Nv (n:=(i:Int)*c.Step) (by omega) (by omega),Nv (n:=c.T+(i:Int)*c.Step) (by omega) (by omega),eA,Option.bind_some]
  simp only [bne_self_eq_false,cond_false,toN,Ang _ _ _ _ _ n i hi,eS,Option.bind_some,Bool.not_true]
  rw [if_pos (by omega),if_pos (by omega),B6 (n:=n) hi (by omega)]
  exact hj
theorem Ag9(c:Kg)(h:Acz c)(hb:Xk c≤1048576):∃L,R2 L c=some true:=by
 obtain ⟨hP,hR⟩:=A9h h hb
 refine ⟨Ts,?_⟩
 have hw:∀L,Xe L=some true:=fun _=>rfl
 have hl:=Mb (Nat.le_refl Ts)
 have hm:1048577 < maxLen:=by unfold maxLen;omega
 have eF:Mg Ts ⟨c.P.Name,c.P.Sites,c.P.Links⟩ c.Recs c.Site c.T c.Step c.N=_:=Ahk Ts c.P c.Recs c.Site c.T c.Step c.N hP hR (Nat.le_refl _)
 unfold R2 Yt
 simp only [Nw,Jw,aN,aB,hw,eF,Option.bind_some]
 cases (bif decide ((c.Recs.length:Int) > 300) then true else bif decide (c.N > 60) then decide (c.N≤1000) else false) with
 |true=>rfl
 |false=>
  rw [cond_false]
  unfold Aq7
  by_cases h0:Ae1 Kr c.P=0
  ·rw [if_neg (by simp [h0])]
   cases hbs:A2n c.P c.Site c.T c.Step c.N with
   |true=>rfl
   |false=>
    obtain ⟨hs,hT,hS,hN,hE⟩:=Ay1 hbs
    obtain ⟨j,hj⟩:=A7f Ts c hP hR (Nat.le_refl _) c.N.toNat (by omega) h0 hs hT hS (by rw [show ((c.N.toNat:Nat):Int)=c.N by omega];exact hE) false c.N.toNat 0 Ts (by omega) (by omega)
    have hj':Ee Ts (U2 c.P c.Recs c.Site c.T c.Step c.N.toNat,0) c Ts false 0=_:=hj
    simp only [cond_false,bne_self_eq_false,Qc,show ((c.N.toNat:Nat):Int)=c.N by omega,hj',Option.bind_some,x0]
  ·rw [if_pos h0]
   simp only [g6 h0,cond_true]
   rfl
end Go.Proofs.YthjhkpgonleelaaGreatDoor.Ev
