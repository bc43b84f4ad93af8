/-  Chapter 51, plainly: points of a design and their numbers. -/
import Derived.Test.YtfencmicmnhglaaGreatPa
import Derived.Test.YtfencmicmnhglaaGreatQA
import Derived.Lib.Mul64
import Derived.Laws.Bits64b
import Derived.Test.YtfencmicmnhglaaGreatCH
import Derived.Test.YtfencmicmnhglaaGreatPO
namespace Go.Proofs.YtfencmicmnhglaaGreat.Ev
open Go An
set_option maxRecDepth 100000
set_option linter.unusedVariables false
set_option linter.unusedSimpArgs false
set_option linter.unnecessarySimpa false
theorem wuN(a:Nat)(ha:a < 18446744073709551616):IntKind.wrap .u64 (a:Int)=(a:Int):=by rw [IntKind.wrap_u64];omega
theorem wuM(a:Nat):IntKind.wrap .u64 (a:Int)=((a % 18446744073709551616:Nat):Int):=by rw [IntKind.wrap_u64];omega
theorem Cal(a:Nat)(ha:a < 18446744073709551616):IntKind.wrap .u64 (((BitVec.ofInt 64 (a:Int) &&& BitVec.ofInt 64 4294967295).toNat:Nat):Int)=((a % 4294967296:Nat):Int):=by
 have e1:BitVec.ofInt 64 (a:Int)=BitVec.ofNat 64 a:=BitVec.ofInt_natCast ..
 have e2:BitVec.ofInt 64 4294967295=BitVec.ofNat 64 4294967295:=by decide
 have e:a &&& 4294967295=a % 4294967296:=Nat.and_two_pow_sub_one_eq_mod a 32
 rw [e1,e2,BitVec.toNat_and,BitVec.toNat_ofNat,BitVec.toNat_ofNat,Nat.mod_eq_of_lt (by omega:a < 2 ^ 64),Nat.mod_eq_of_lt (by decide),e]
 exact wuN _ (by omega)
theorem fdN(a:Nat):Int.fdiv (a:Int) (2 ^ 32)=((a/4294967296:Nat):Int):=by
 rw [Int.fdiv_eq_ediv_of_nonneg _ (by decide)]
 show (a:Int)/4294967296=_
 omega
theorem B70(a b:Nat):(a:Int)*(b:Int)=((a*b:Nat):Int):=(Int.natCast_mul a b).symm
theorem Ci2(a b:Nat):(a:Int)+(b:Int)=((a+b:Nat):Int):=(Int.natCast_add a b).symm
theorem A88(L x y:Nat)(hx:x < 18446744073709551616)(hy:y < 18446744073709551616):Ail L x y=some (((x*y/18446744073709551616:Nat):Int),((x*y % 18446744073709551616:Nat):Int)):=by
 obtain ⟨bd,bt,bw,hhi⟩:=Lib.mul64_hi x y hx hy
 have ba:=Lib.half_mul_le (a:=x/4294967296) (b:=y/4294967296) (by omega) (by omega)
 have bb:=Lib.half_mul_le (a:=x/4294967296) (b:=y % 4294967296) (by omega) (by omega)
 have bc:=Lib.half_mul_le (a:=x % 4294967296) (b:=y/4294967296) (by omega) (by omega)
 have ba':x/4294967296*(y/4294967296) < 18446744073709551616:=by omega
 have bb':x/4294967296*(y % 4294967296) < 18446744073709551616:=by omega
 have bc':x % 4294967296*(y/4294967296) < 18446744073709551616:=by omega
 have bh1:x/4294967296*(y/4294967296)+(x/4294967296*(y % 4294967296)+x % 4294967296*(y % 4294967296)/4294967296)/4294967296 < 18446744073709551616:=by omega
 have bh:x/4294967296*(y/4294967296)+(x/4294967296*(y % 4294967296)+x % 4294967296*(y % 4294967296)/4294967296)/4294967296+((x/4294967296*(y % 4294967296)+x % 4294967296*(y % 4294967296)/4294967296) % 4294967296+x % 4294967296*(y/4294967296))/4294967296 < 18446744073709551616:=by omega
 simp only [Ao7,Ail,aN,aB,Cal x hx,Cal y hy,fdN,B70,Ci2,wuN _ bd,wuN _ bb',wuN _ bt,Cal _ bt,wuN _ bc',wuN _ bw,wuN _ ba',wuN _ bh1,wuN _ bh,wuM (x*y)]
 rw [hhi]
def mxN:Nat:=1000000000000
theorem Bkh(L a b:Nat)(ha:a≤mxN)(hb:b≤mxN):Am4 L a b=some ((min (a*b) mxN:Nat):Int):=by
 unfold mxN at*
 have e1:∀n:Nat,n≤1000000000000→(if (if (1000000000000:Int) < (n:Int) then (1000000000000:Int) else (n:Int)) > -1000000000000 then (if (1000000000000:Int) < (n:Int) then (1000000000000:Int) else (n:Int)) else -1000000000000)=(n:Int):=fun n h=>by
  have e:(if (1000000000000:Int) < (n:Int) then (1000000000000:Int) else (n:Int))=(n:Int):=if_neg (by omega)
  rw [e,if_pos (by omega)]
 have e2:∀n:Nat,n≤1000000000000→(if Cq (0 - (n:Int)) > (n:Int) then Cq (0 - (n:Int)) else (n:Int))=(n:Int):=fun n h=>by
  rw [S2 (by omega) (by omega),if_neg (by omega)]
 have hle:a*b≤1000000000000*1000000000000:=Nat.mul_le_mul ha hb
 simp only [Ayu,Am4,Au8,Aov,Au9,Aow,aN,aB,e1 a ha,e1 b hb,Option.bind_some,e2 a ha,e2 b hb,wuN a (by omega),wuN b (by omega),A88 L a b (by omega) (by omega),decide_eq_false (show¬(a:Int) < 0 by omega),decide_eq_false (show¬(b:Int) < 0 by omega),beq_self_eq_true,Bool.not_true,cond_false]
 by_cases h:a*b < 1000000000000
 ·have h0:a*b/18446744073709551616=0:=Nat.div_eq_of_lt (by omega)
  have h1:a*b % 18446744073709551616=a*b:=Nat.mod_eq_of_lt (by omega)
  rw [h0,h1,Nat.min_eq_left (by omega),S2 (by omega) (by omega),show decide (((a*b:Nat):Int) < 1000000000000)=true from decide_eq_true (by omega)]
  rfl
 ·rw [Nat.min_eq_right (by omega)]
  have:(bif (((a*b/18446744073709551616:Nat):Int) == 0) then decide (((a*b % 18446744073709551616:Nat):Int) < 1000000000000) else false)=false:=by
   cases hq:(((a*b/18446744073709551616:Nat):Int) == 0) with
   |false=>rfl
   |true=>
    have hq':=eq_of_beq hq
    rw [cond_true]
    exact decide_eq_false (by omega)
  rw [this];rfl
theorem Bkc(L a b:Nat)(ha:a≤mxN)(hb:b≤mxN):Am0 L a b=some ((min (a*b) mxN:Nat):Int):=by
 unfold mxN at*
 have e1:∀n:Nat,n≤1000000000000→decide ((n:Int) > 1000000000000)=false:=fun n h=>decide_eq_false (by omega)
 have e2:∀n:Nat,decide ((n:Int) < -1000000000000)=false:=fun n=>decide_eq_false (by omega)
 have e3:∀n:Nat,decide ((n:Int) < 0)=false:=fun n=>decide_eq_false (by omega)
 have hle:a*b≤1000000000000*1000000000000:=Nat.mul_le_mul ha hb
 simp only [Ayq,Am0,Au0,Aor,Ayp,Ath,aN,aB,e1 a ha,e1 b hb,e2,e3,cond_false,Option.bind_some,beq_self_eq_true,Bool.not_true,Kn]
 by_cases h:a=0
 ·subst h;simp
 by_cases h':b=0
 ·subst h';simp
 have z1:((a:Int) == 0)=false:=by simpa using h
 have z2:((b:Int) == 0)=false:=by simpa using h'
 have z3:decide ((a:Int)=0)=false:=decide_eq_false (by omega)
 have hd:Int.tdiv 1000000000000 (a:Int)=((1000000000000/a:Nat):Int):=by rw [show (1000000000000:Int)=((1000000000000:Nat):Int) from rfl,Int.ofNat_tdiv]
 have hdl:1000000000000/a≤1000000000000:=Nat.div_le_self _ _
 have hiff:b≤1000000000000/a↔a*b≤1000000000000:=by rw [Nat.le_div_iff_mul_le (by omega),Nat.mul_comm]
 rw [z1,z2,z3,hd]
 generalize 1000000000000/a=q at hdl hiff
 rw [S2 (n:=(q:Int)) (by omega) (by omega)]
 simp only [Bool.or_self,cond_false,Bool.not_false,cond_true]
 by_cases hc:b≤q
 ·have h1:=hiff.1 hc
  rw [show decide ((b:Int)≤(q:Int))=true from decide_eq_true (by omega),cond_true,Nat.min_eq_left h1,B70,S2 (by omega) (by omega)]
 ·have h1:¬a*b≤1000000000000:=fun h2=>hc (hiff.2 h2)
  rw [show decide ((b:Int)≤(q:Int))=false from decide_eq_false (by omega),cond_false,Nat.min_eq_right (by omega)]
  rfl
def fL(f:List Ah):List Nat:=f.map fun x=>x.Levels.length
def A75(f:List Ah):Bool:=decide (f.length≤100) && f.all fun x=>decide (x.Levels.length≤300)
theorem A9k(L:Nat)(a:List Ah):∀(k:List Ah) (i:Nat) (v:Bool),∃j,P1 L a k i v=some (bif k.all fun x=>decide (x.Levels.length≤300) then (1,(v,j)) else (0,(false,j))):=by
 intro k
 induction k with
 |nil=>intro i v;exact ⟨i,rfl⟩
 |cons x k ih=>
  intro i v
  obtain ⟨j,hj⟩:=ih (i+1) v
  rw [P1,hj,List.all_cons]
  by_cases h:x.Levels.length≤300
  ·rw [decide_eq_true h,show decide ((x.Levels.length:Int) > 300)=false from decide_eq_false (by omega)];exact ⟨j,rfl⟩
  ·rw [decide_eq_false h,show decide ((x.Levels.length:Int) > 300)=true from decide_eq_true (by omega)];exact ⟨i,rfl⟩
theorem Bdt(L:Nat)(f:List Ah)(hl:f.length≤maxLen)(hL:f.length < L):Aku L f=some (A75 f):=by
 obtain ⟨j,hj⟩:=A9k L f f 0 false
 simp only [A0x,Ac9,Xe,Aku,Ac9,Xe,aN,aB,A2o L f L hl hL,hj,A75]
 by_cases h:f.length≤100
 ·rw [show decide ((f.length:Int) > 100)=false from decide_eq_false (by omega),decide_eq_true h]
  cases f.all fun x=>decide (x.Levels.length≤300)<;>rfl
 ·rw [show decide ((f.length:Int) > 100)=true from decide_eq_true (by omega),decide_eq_false h];rfl
structure SmF (f:List Ah):Prop where
 len:f.length≤100
 lev:∀x∈f,x.Levels.length≤300
theorem smF{f:List Ah}(h:A75 f=true):SmF f:=by
 unfold A75 at h
 rw [Bool.and_eq_true,List.all_eq_true] at h
 exact ⟨of_decide_eq_true h.1,fun x hx=>of_decide_eq_true (h.2 x hx)⟩
def szN:List Nat→Nat→Nat
 | [],n=>n
 |l::ls,n=>szN ls (min (n*l) mxN)
def As7(f:List Ah):Nat:=if f.length=0 then 0 else szN (fL f) 1
theorem A3h(L:Nat)(a:List Ah):∀(k:List Ah) (i n:Nat),n≤mxN→(∀x∈k,x.Levels.length≤300)→∃j,K6 L a k i n=some (0,(((szN (fL k) n:Nat):Int),j)):=by
 intro k
 induction k with
 |nil=>intro i n _ _;exact ⟨i,rfl⟩
 |cons x k ih=>
  intro i n hn h
  have h1:=h x (by simp)
  obtain ⟨j,hj⟩:=ih (i+1) (min (n*x.Levels.length) mxN) (Nat.min_le_right _ _) fun y hy=>h y (by simp [hy])
  exact ⟨j,by rw [K6,Bkh L n _ hn (by unfold mxN;omega),Option.bind_some,hj];rfl⟩
theorem Bes(L:Nat)(a:List Ah):∀(k:List Ah) (i n:Nat),n≤mxN→(∀x∈k,x.Levels.length≤300)→∃j,Sy L a k i n=some (0,(((szN (fL k) n:Nat):Int),j)):=by
 intro k
 induction k with
 |nil=>intro i n _ _;exact ⟨i,rfl⟩
 |cons x k ih=>
  intro i n hn h
  have h1:=h x (by simp)
  obtain ⟨j,hj⟩:=ih (i+1) (min (n*x.Levels.length) mxN) (Nat.min_le_right _ _) fun y hy=>h y (by simp [hy])
  exact ⟨j,by rw [Sy,Bkc L n _ hn (by unfold mxN;omega),Option.bind_some,hj];rfl⟩
theorem Asp(L:Nat)(f:List Ah)(hs:SmF f)(hL:100 < L):j6 L f=some ((As7 f:Nat):Int):=by
 have hM:=Bd
 have:=hs.len
 obtain ⟨j,hj⟩:=A3h L f f 0 1 (by decide) hs.lev
 simp only [At5,Zm,Tv,j6,Zm,Tv,aN,aB,Axk L f L (by omega) (by omega),A6h,As7]
 by_cases h:f.length=0
 ·rw [decide_eq_true h,if_pos h];rfl
 ·rw [decide_eq_false h,if_neg h,cond_false,show (1:Int)=((1:Nat):Int) from rfl,hj];rfl
theorem A1v(L:Nat)(f:List Ah)(hs:SmF f)(hL:100 < L):Ajm L f=some ((As7 f:Nat):Int):=by
 have hM:=Bd
 have:=hs.len
 obtain ⟨j,hj⟩:=Bes L f f 0 1 (by decide) hs.lev
 simp only [A5l,Ags,s7,Ajm,Ags,s7,aN,aB,A6z L f L (by omega) (by omega),A6h,As7]
 by_cases h:f.length=0
 ·rw [decide_eq_true h,if_pos h];rfl
 ·rw [decide_eq_false h,if_neg h,cond_false,show (1:Int)=((1:Nat):Int) from rfl,hj];rfl
def lvE(t:Int)(l:List Int):Nat→List Int→Int
 |_,[]=>0
 |i,n::k=>if Aau t n=false then 2 else if 0 < i∧n≤l.getD (i - 1) default then 12 else lvE t l (i+1) k
def Bxq(t:Int)(l:List Int):Int:=if l.length=0 then 7 else if 10 < l.length then 6 else lvE t l 0 l
def Bjy(m:Ad)(f:List Ah)(i:Nat)(x:Ah):Int:=match m.Params.find? fun p=>decide (p.Name=x.Name) with
 |none=>5
 |some p=>if (f.take i).any (fun y=>decide (y.Name=x.Name)) then 4 else Bxq p.Type_ x.Levels
def Aui(m:Ad)(f:List Ah):Nat→List Ah→Int
 |_,[]=>0
 |i,x::k=>fE (Bjy m f i x) (Aui m f (i+1) k)
def Bta(m:Ad)(f:List Ah)(e:Int):Int:=fE e (if f.length=0 then 7 else if 6 < f.length then 6 else fE (Aui m f 0 f) (if 200 < As7 f then 6 else 0))
theorem A68(L:Nat)(t n:Int):j7 L t n=some (Bm0 t n):=by
 simp only [Al1,j7,aN,aB,Atn,Option.bind_some,Bm0]
 by_cases h2:t=2
 ·simp only [h2,beq_self_eq_true,cond_true,if_true]
  cases (n == 0)<;>rfl
 ·by_cases h3:t=3
  ·subst h3
   rw [beq_false_of_ne h2,cond_false,if_neg h2,beq_self_eq_true,cond_true,if_pos rfl]
   unfold Br
   by_cases h4:0≤n
   ·simp only [decide_eq_true (show n≥0 from h4),decide_eq_true h4,cond_true,Bool.true_and]
   ·simp only [decide_eq_false (show¬n≥0 from h4),decide_eq_false h4,cond_false,Bool.false_and]
  ·rw [beq_false_of_ne h2,beq_false_of_ne h3,cond_false,cond_false,if_neg h2,if_neg h3]
theorem Cnl{β :Type}(l:List Int)(i:Nat)(hi:i < l.length)(hl:l.length≤maxLen)(a:Int)(A B:Option β):
  (Option.bind (bif decide ((i:Int) > 0) then (if (0:Int)≤Cq ((i:Int) - 1) then (if Cq ((i:Int) - 1) < ((l.length:Nat):Int) then some (decide (a≤(l.getD (Int.toNat (Cq ((i:Int) - 1))) default))) else none) else none) else some false) fun b=>bif b then A else B)
   =if 0 < i∧a≤l.getD (i - 1) default then A else B:=by
 have hM:=Bd
 cases i with
 |zero=>rfl
 |succ i=>
  have e:Cq (((i+1:Nat):Int) - 1)=(i:Int):=by rw [Akk (by omega)];omega
  rw [e,decide_eq_true (show ((i+1:Nat):Int) > 0 by omega),cond_true,if_pos (by omega),if_pos (by omega),toN,Option.bind_some,Nat.add_sub_cancel]
  by_cases h:a≤l.getD i default
  ·rw [decide_eq_true h,cond_true,if_pos ⟨by omega,h⟩]
  ·rw [decide_eq_false h,cond_false,if_neg fun hh=>h hh.2]
theorem Aya(L:Nat)(t:Int)(l:List Int)(ht:N0 t=true)(hl:l.length≤maxLen):∀(k:List Int) (i:Nat) (v:Int),l.drop i=k→
  ∃j,Iw L t l k i v=some (if lvE t l i k=0 then (1,(v,j)) else (0,(lvE t l i k,j))):=by
 intro k
 induction k with
 |nil=>intro i v _;exact ⟨i,rfl⟩
 |cons x k ih=>
  intro i v h
  obtain ⟨hi,hx,hk⟩:=Og h
  obtain ⟨j,hj⟩:=ih (i+1) v hk
  rw [Iw,A68,Option.bind_some,Bvl ht,Cnl l i hi hl,hj,lvE]
  cases hf:Aau t x with
  |false=>exact ⟨i,rfl⟩
  |true=>
   by_cases h2:0 < i∧x≤l.getD (i - 1) default
   ·exact ⟨i,by simp only [if_pos h2,Bool.not_true,cond_false,Bool.true_eq_false,if_false];rfl⟩
   ·exact ⟨j,by simp only [if_neg h2,Bool.not_true,cond_false,Bool.true_eq_false,if_false]⟩
theorem Az3(L:Nat)(t:Int)(l:List Int)(ht:N0 t=true)(hl:l.length≤maxLen)(hL:l.length < L):U8 L t l=some (Bxq t l):=by
 obtain ⟨j,hj⟩:=Aya L t l ht hl l 0 0 rfl
 have e10:decide ((l.length:Int) > 10)=decide (10 < l.length):=gtN _ 10
 simp only [Aqa,U4,P9,U8,U4,P9,aN,aB,Atv L t l L hl hL,hj,Bxq,Bhe,e10,Option.bind_some]
 by_cases h0:l.length=0
 ·simp [h0]
 ·by_cases h1:10 < l.length
  ·simp [h0,h1]
  ·by_cases h2:lvE t l 0 l=0
   ·simp [h0,h1,h2,Qo]
   ·simp [h0,h1,h2,Hb]
theorem A0g(L:Nat)(p:List Al)(m:Ad)(w:Ah):∀(k:List Al) (i:Nat) (v:Int),Ju L p m w k i v=some (match k.findIdx? (fun x=>x.Name.toList == w.Name.toList) with|some j=>(0,(((i+j:Nat):Int),((i+j:Nat):Int)))|none=>(1,(v,((i+k.length:Nat):Int)))):=by
 intro k
 induction k with
 |nil=>intro i v;rfl
 |cons x k ih=>
  intro i v
  rw [Ju,ih,List.findIdx?_cons]
  cases hc:(fun x=>x.Name.toList == w.Name.toList) x with
  |true=>simp only [hc,cond_true,if_true];rfl
  |false=>
   simp only [hc,cond_false,if_false,Bool.false_eq_true]
   cases k.findIdx? (fun x=>x.Name.toList == w.Name.toList) with
   |some j=>simp [Nat.add_assoc,Nat.add_comm 1]
   |none=>simp [Nat.add_assoc,Nat.add_comm 1]
theorem Ass(L:Nat)(p:List Al)(m:Ad)(w:Ah)(hl:p.length≤maxLen)(hL:p.length < L):Rq L p m w=some (Ow (p.findIdx? (fun x=>decide (x.Name=w.Name)))):=by
 simp only [Rq,Alb,Wb,aN,aB,Avw _ _ _ _ _ hl hL,A0g,Ea,Option.bind_some]
 cases p.findIdx? (fun x=>decide (x.Name=w.Name)) with
 |none=>rfl
 |some i=>simp [Ow,Hb]
theorem A0h(L:Nat)(p:List Ah)(m:Ad)(w:Ah):∀(k:List Ah) (i:Nat) (v:Int),Jv L p m w k i v=some (match k.findIdx? (fun x=>x.Name.toList == w.Name.toList) with|some j=>(0,(((i+j:Nat):Int),((i+j:Nat):Int)))|none=>(1,(v,((i+k.length:Nat):Int)))):=by
 intro k
 induction k with
 |nil=>intro i v;rfl
 |cons x k ih=>
  intro i v
  rw [Jv,ih,List.findIdx?_cons]
  cases hc:(fun x=>x.Name.toList == w.Name.toList) x with
  |true=>simp only [hc,cond_true,if_true];rfl
  |false=>
   simp only [hc,cond_false,if_false,Bool.false_eq_true]
   cases k.findIdx? (fun x=>x.Name.toList == w.Name.toList) with
   |some j=>simp [Nat.add_assoc,Nat.add_comm 1]
   |none=>simp [Nat.add_assoc,Nat.add_comm 1]
theorem Ast(L:Nat)(p:List Ah)(m:Ad)(w:Ah)(hl:p.length≤maxLen)(hL:p.length < L):Rr L p m w=some (Ow (p.findIdx? (fun x=>decide (x.Name=w.Name)))):=by
 simp only [Rr,Alc,Wd,aN,aB,Avx _ _ _ _ _ hl hL,A0h,Ea,Option.bind_some]
 cases p.findIdx? (fun x=>decide (x.Name=w.Name)) with
 |none=>rfl
 |some i=>simp [Ow,Hb]
theorem A0f(L:Nat)(f:List Ah)(m:Ad)(hp:∀p∈m.Params,N0 p.Type_=true)(hm:m.Params.length≤maxLen)(hs:SmF f)(hL:maxLen < L):∀(k:List Ah) (i:Nat) (v:Int),f.drop i=k→
  ∃j,Jt L f m k i v=some (if Aui m f i k=0 then (1,(v,j)) else (0,(Aui m f i k,j))):=by
 have hM:=Bd
 have hf:=hs.len
 intro k
 induction k with
 |nil=>intro i v _;exact ⟨i,rfl⟩
 |cons x k ih=>
  intro i v h
  obtain ⟨hi,hx,hk⟩:=Og h
  obtain ⟨j,hj⟩:=ih (i+1) v hk
  have ht:(f.take i).length≤maxLen:=by rw [List.length_take];omega
  have hxm:x∈f:=by rw [←hx,Gs _ i hi];exact List.getElem_mem hi
  have hxl:=hs.lev x hxm
  rw [Jt,Ass L m.Params m x hm (by omega),Option.bind_some,Aui,Bjy,Ag5]
  cases hq:m.Params.findIdx? (fun p=>decide (p.Name=x.Name)) with
  |none=>exact ⟨i,rfl⟩
  |some a=>
   have ha:=Amb hq
   have hpa:m.Params.getD a default∈m.Params:=by rw [Gs _ a ha];exact List.getElem_mem ha
   simp only [show Ow (some a)=(a:Int) from rfl,Option.map_some,decide_eq_false (show¬((a:Int) < 0) by omega),cond_false,Int.le_refl,Nat.le_refl,if_true,if_pos (show (i:Int)≤(f.length:Int) by omega),toN,List.drop_zero,Ast L (f.take i) m x ht (by omega),Option.bind_some,nn,Ip ha,Az3 L _ x.Levels (hp _ hpa) (by omega) (by omega),Alf]
   cases (f.take i).any fun y=>decide (y.Name=x.Name) with
   |true=>exact ⟨i,rfl⟩
   |false=>
    by_cases h0:Bxq (m.Params.getD a default).Type_ x.Levels=0
    ·exact ⟨j,by simp only [h0,bne_self_eq_false,cond_false,Bool.false_eq_true,if_false,Rp];exact hj⟩
    ·exact ⟨i,by simp only [Uy h0,cond_true,cond_false,Bool.false_eq_true,if_false,Mf h0,if_neg h0]⟩
theorem A3c(L:Nat)(f:List Ah)(m:Ad)(e:Int)(ht:Tb L m=some e)(hp:e=0→∀p∈m.Params,N0 p.Type_=true)(hm:m.Params.length≤maxLen)(hs:SmF f)(hL:maxLen < L):W1 L m f=some (Bta m f e):=by
 have hM:=Bd
 have hf:=hs.len
 have e200:decide (((As7 f:Nat):Int) > 200)=decide (200 < As7 f):=gtN _ 200
 have e6:decide ((f.length:Int) > 6)=decide (6 < f.length):=gtN _ 6
 simp only [Aro,Wm,R2,W1,Wm,R2,aN,aB,ht,Option.bind_some,Bhe,e6,Avv L f m L (show f.length≤maxLen by omega) (by omega),Bta]
 by_cases h0:e=0
 ·obtain ⟨j,hj⟩:=A0f L f m (hp h0) hm hs hL f 0 0 rfl
  simp only [h0,bne_self_eq_false,cond_false,Rp,hj,Asp L f hs (by omega),Option.bind_some,e200]
  by_cases h1:f.length=0
  ·rw [decide_eq_true h1,if_pos h1];rfl
  ·rw [decide_eq_false h1,if_neg h1,cond_false]
   by_cases h2:6 < f.length
   ·rw [decide_eq_true h2,if_pos h2];rfl
   ·rw [decide_eq_false h2,if_neg h2,cond_false]
    by_cases h3:Aui m f 0 f=0
    ·rw [if_pos h3]
     simp only [h3,Qo,Rp]
     by_cases h4:200 < As7 f
     ·rw [decide_eq_true h4,if_pos h4];rfl
     ·rw [decide_eq_false h4,if_neg h4];rfl
    ·rw [if_neg h3]
     simp only [Hb,Mf h3]
 ·simp only [Uy h0,cond_true,Mf h0]
theorem A93(L:Nat)(n:ByteArray)(m:Ad):∀(k:List Al) (i:Nat) (u:Int) (v:Bool),∃j,P8 L n m k i u v=some (match k.find? (fun p=>decide (p.Name=n)) with|some p=>(0,(p.Type_,true,j))|none=>(1,(u,v,j))):=by
 intro k
 induction k with
 |nil=>intro i u v;exact ⟨i,rfl⟩
 |cons x k ih=>
  intro i u v
  obtain ⟨j,hj⟩:=ih (i+1) u v
  rw [P8,Ea,hj,List.find?_cons]
  cases decide (x.Name=n) with
  |true=>exact ⟨i,rfl⟩
  |false=>exact ⟨j,rfl⟩
theorem Bed(L:Nat)(m:Ad)(n:ByteArray)(hm:m.Params.length≤maxLen)(hL:maxLen < L):Ak4 L m n=some (o2 (A0u m.Params n)):=by
 obtain ⟨j,hj⟩:=A93 L n m m.Params 0 0 false
 simp only [A1e,X4,Ak4,X4,aN,aB,A27 L n m L hm (by omega),hj,Option.bind_some,A0u]
 cases m.Params.find? (fun p=>decide (p.Name=n)) with
 |none=>rfl
 |some p=>rfl
theorem Bia(L:Nat)(f:List Ah)(i:Nat)(r:Int×Bool)(m:Ad)(hi:i < f.length)(hl:f.length≤maxLen):∀(n c:Nat) (v:Int),c≤i→i - c < n→
  ∃j,Uw L f (i:Int) r m n v (c:Int)=some (if (((f.take i).drop c).any fun y=>decide (y.Name=(f.getD i default).Name))=true then (0,(4,j)) else (1,(v,j))):=by
 intro n
 have hM:=Bd
 induction n with
 |zero=>intro c v _ h;omega
 |succ n ih=>
  intro c v hc hn
  by_cases hlt:c < i
  ·have hcl:c < f.length:=by omega
   obtain ⟨j,hj⟩:=ih (c+1) v hlt (by omega)
   have e:(f.take i).drop c=f.getD c default::(f.take i).drop (c+1):=by
    have h1:c < (f.take i).length:=by rw [List.length_take];omega
    rw [List.drop_eq_getElem_cons h1,List.getElem_take,Gs _ c hcl]
   rw [e]
   simp only [Uw,Aiz,aN,aB,nn,Dv hlt,Ip hcl,Ip hi,if_true,toN,cond_true,Ea,A9 hcl hl,hj,List.any_cons]
   by_cases h1:(f.getD c default).Name=(f.getD i default).Name
   ·exact ⟨c,by simp only [decide_eq_true h1,cond_true,Bool.true_or,if_true]⟩
   ·exact ⟨j,by simp only [decide_eq_false h1,cond_false,Bool.false_or]⟩
  ·have e:(f.take i).drop c= []:=List.drop_eq_nil_of_le (by rw [List.length_take];omega)
   rw [e]
   exact ⟨c,by simp only [Uw,Aiz,aN,aB,D1 (show i≤c by omega),cond_false];rfl⟩
theorem Bib(L:Nat)(r:Int×Bool)(f:List Ah)(a:Nat)(m:Ad)(hl:(f.getD a default).Levels.length≤maxLen):∀(k:List Int) (i:Nat) (v:Int),(f.getD a default).Levels.drop i=k→
  ∃j,Rv L r f (a:Int) m k i v=some (if lvE r.1 (f.getD a default).Levels i k=0 then (1,(v,j)) else (0,(lvE r.1 (f.getD a default).Levels i k,j))):=by
 have hM:=Bd
 intro k
 induction k with
 |nil=>intro i v _;exact ⟨i,rfl⟩
 |cons x k ih=>
  intro i v h
  obtain ⟨hi,hx,hk⟩:=Og h
  obtain ⟨j,hj⟩:=ih (i+1) v hk
  rw [Rv,Alm,Option.bind_some,toN,hj,lvE]
  cases hf:Aau r.1 x with
  |false=>exact ⟨i,rfl⟩
  |true=>
   cases i with
   |zero=>exact ⟨j,rfl⟩
   |succ i=>
    have e:Cq (((i+1:Nat):Int) - 1)=(i:Int):=by rw [Akk (by omega)];omega
    rw [e,decide_eq_true (show ((i+1:Nat):Int) > 0 by omega),cond_true,if_pos (show (0:Int)≤(i:Int) by omega),if_pos (show (i:Int) < (((f.getD a default).Levels.length:Nat):Int) by omega),toN,Nat.add_sub_cancel]
    by_cases h2:x≤(f.getD a default).Levels.getD i default
    ·exact ⟨i+1,by simp only [decide_eq_true h2,if_pos (show 0 < i+1∧x≤(f.getD a default).Levels.getD i default from ⟨by omega,h2⟩),Bool.not_true,cond_false,cond_true,Bool.true_eq_false,if_false];rfl⟩
    ·exact ⟨j,by simp only [decide_eq_false h2,if_neg (show¬(0 < i+1∧x≤(f.getD a default).Levels.getD i default) from fun hh=>h2 hh.2),Bool.not_true,cond_false,Bool.true_eq_false,if_false]⟩
theorem Bkf(L:Nat)(m:Ad)(f:List Ah)(i:Nat)(hi:i < f.length)(hm:m.Params.length≤maxLen)(hs:SmF f)(hL:maxLen < L):Am3 L m f (i:Int)=some (Bjy m f i (f.getD i default)):=by
 have hM:=Bd
 have hf:=hs.len
 have hxm:f.getD i default∈f:=by rw [Gs _ i hi];exact List.getElem_mem hi
 have hxl:=hs.lev _ hxm
 simp only [A98,Ai9,Ai5,Aja,Acw,Am3,Ai9,Ai5,Aja,Acw,aN,aB,nn,Ip hi,if_true,toN,Bed L m _ hm hL,Option.bind_some,Bjy,A0u]
 cases hq:m.Params.find? (fun p=>decide (p.Name=(f.getD i default).Name)) with
 |none=>rfl
 |some p=>
  obtain ⟨c,hc⟩:=Bia L f i (p.Type_,true) m hi (by omega) L 0 0 (by omega) (by omega)
  have hc:Uw L f (i:Int) (p.Type_,true) m L 0 0=_:=hc
  rw [List.drop_zero] at hc
  simp only [Option.map_some,o2,Bool.not_true,cond_false,hc,Option.bind_some]
  cases hy:(f.take i).any fun y=>decide (y.Name=(f.getD i default).Name) with
  |true=>rfl
  |false=>
   obtain ⟨j,hj⟩:=Bib L (p.Type_,true) f i m (by omega) (f.getD i default).Levels 0 0 rfl
   have e10:decide (((f.getD i default).Levels.length:Int) > 10)=decide (10 < (f.getD i default).Levels.length):=gtN _ 10
   simp only [Bool.false_eq_true,if_false,Qo,Bhe,e10,Bxq]
   by_cases h0:(f.getD i default).Levels.length=0
   ·rw [decide_eq_true h0,if_pos h0];rfl
   ·by_cases h1:10 < (f.getD i default).Levels.length
    ·rw [decide_eq_false h0,if_neg h0,decide_eq_true h1,if_pos h1];rfl
    ·have e:=A82 L (p.Type_,true) f (i:Int) m L (by rw [toN];omega) (by rw [toN];omega) 0
     rw [toN] at e
     simp only [decide_eq_false h0,decide_eq_false h1,cond_false,e,hj,Option.bind_some,if_neg h0,if_neg h1]
     by_cases h2:lvE p.Type_ (f.getD i default).Levels 0 (f.getD i default).Levels=0
     ·rw [if_pos h2];simp only [Qo,h2]
     ·rw [if_neg h2];simp only [Hb]
theorem A92(L:Nat)(f:List Ah)(m:Ad)(hm:m.Params.length≤maxLen)(hs:SmF f)(hL:maxLen < L):∀(k:List Ah) (i:Nat) (u v:Int),f.drop i=k→
  ∃j w,P7 L f m k i u v=some (if Aui m f i k=0 then (1,(u,w,j)) else (0,(Aui m f i k,w,j))):=by
 intro k
 induction k with
 |nil=>intro i u v _;exact ⟨i,v,rfl⟩
 |cons x k ih=>
  intro i u v h
  obtain ⟨hi,hx,hk⟩:=Og h
  rw [P7,Bkf L m f i hi hm hs hL,Option.bind_some,hx,Aui]
  obtain ⟨j,w,hj⟩:=ih (i+1) u (Bjy m f i x) hk
  by_cases h0:Bjy m f i x=0
  ·rw [h0] at hj ⊢
   exact ⟨j,w,hj⟩
  ·exact ⟨i,Bjy m f i x,by rw [Uy h0,cond_true,Mf h0,if_neg h0]⟩
theorem Bec(L:Nat)(f:List Ah)(m:Ad)(e:Int)(ht:Aap L m=some e)(hm:m.Params.length≤maxLen)(hs:SmF f)(hL:maxLen < L):Agw L m f=some (Bta m f e):=by
 have hM:=Bd
 have hf:=hs.len
 have e200:decide (((As7 f:Nat):Int) > 200)=decide (200 < As7 f):=gtN _ 200
 have e6:decide ((f.length:Int) > 6)=decide (6 < f.length):=gtN _ 6
 simp only [A1d,Adp,X3,Agw,Adp,X3,aN,aB,ht,Option.bind_some,Bhe,e6,A26 L f m L (show f.length≤maxLen by omega) (by omega),Bta]
 obtain ⟨j,w,hj⟩:=A92 L f m hm hs hL f 0 0 e rfl
 by_cases h0:e=0
 ·subst h0
  simp only [bne_self_eq_false,cond_false,Rp,hj,A1v L f hs (by omega),Option.bind_some,e200]
  by_cases h1:f.length=0
  ·rw [decide_eq_true h1,if_pos h1];rfl
  ·rw [decide_eq_false h1,if_neg h1,cond_false]
   by_cases h2:6 < f.length
   ·rw [decide_eq_true h2,if_pos h2];rfl
   ·rw [decide_eq_false h2,if_neg h2,cond_false]
    by_cases h3:Aui m f 0 f=0
    ·rw [if_pos h3]
     simp only [h3,Qo,Rp]
     by_cases h4:200 < As7 f
     ·rw [decide_eq_true h4,if_pos h4];rfl
     ·rw [decide_eq_false h4,if_neg h4];rfl
    ·rw [if_neg h3]
     simp only [Hb,Mf h3]
 ·simp only [Uy h0,cond_true,Mf h0]
theorem Bem(rec:List Ac→Option Int)(L:Nat)(a:List Ac)(c:Int):∀(k:List Ab) (i:Nat) (v:Int),(∀y∈k,∃n,Gx L y=some n)→∃w j,Ss rec L a c k i v=some (0,(w,j)):=by
 intro k
 induction k with
 |nil=>intro i v _;exact ⟨v,i,rfl⟩
 |cons x k ih=>
  intro i v h
  obtain ⟨n,hn⟩:=h x (by simp)
  rw [Ss,hn,Option.bind_some]
  exact ih (i+1) _ fun y hy=>h y (by simp [hy])
theorem Bel(rec:List Ac→Option Int)(L:Nat)(a:List Ac)(ha:a.length≤maxLen):∀(k:List Ac) (i:Nat) (v:Int),a.drop i=k→(∀x∈k,SB L x∧(∃n,rec x.Body=some n)∧∃n,rec x.Else=some n)→∃w j,Sr rec L a k i v=some (0,(w,j)):=by
 intro k
 induction k with
 |nil=>intro i v _ _;exact ⟨v,i,rfl⟩
 |cons x k ih=>
  intro i v hk h
  obtain ⟨hi,hx,hk'⟩:=Og hk
  obtain ⟨hs,⟨b,hb⟩,c,hc⟩:=h x (by simp)
  obtain ⟨d1,d2,d3,d4⟩:=hs.de
  have hM:=Bd
  have hlt:=hs.lt
  obtain ⟨w,j,hq⟩:=Bem rec L a (i:Int) x.Args 0 (Cq ((Cq ((Cq ((Cq ((Cq ((Cq ((Cq (v+1))+Ack x.E))+Ack x.F))+(x.Dist.Values.length:Int)))+(x.Dist.Weights.length:Int)))+b))+c)) fun y hy=>⟨_,Ai4 (hs.args y hy) L (d3 y hy)⟩
  rw [Sr,Ai4 hs.e L d1,Option.bind_some,Ai4 hs.f L d2,Option.bind_some,hb,Option.bind_some,hc,Option.bind_some,A6q rec L a (i:Int) L (by rw [toN,hx];omega) (by rw [toN,hx];omega),toN,hx,hq,Option.bind_some,Hb]
  exact ih (i+1) w hk' fun y hy=>h y (by simp [hy])
theorem Bht{l:List Ac}(hl:∀y∈l,B6 y):∀L,Fu L l→∃n,Sd L l=some n:=by
 refine Ac4 (M:=fun l=>∀L,Fu L l→∃n,Sd L l=some n) ?_ hl
 intro l ih L hF
 obtain ⟨L,rfl⟩:=hF.pos
 obtain ⟨n1,n2,n3⟩:=hF.len
 obtain ⟨w,j,hj⟩:=Bel (Sd L) L l n1 l 0 0 rfl fun x hx=>⟨hF.sb hx (ih x hx).1,(ih x hx).2.1 L (hF.kid hx).1,(ih x hx).2.2 L (hF.kid hx).2⟩
 exact ⟨w,by simp only [A5c,n5,Auv,Sd,n5,aN,aB,A6p _ L l L n1 n2,hj,Option.bind_some,Hb]⟩
theorem Bei(L:Nat)(i:Nat)(m:Ad)(hi:i < m.Sites.length)(hc:∀x∈(m.Sites.getD i default).Routines,∃n,Sd L x.Body=some n)(hl:(m.Sites.getD i default).Routines.length≤maxLen):∀(n j:Nat) (v:Int),j≤(m.Sites.getD i default).Routines.length→(m.Sites.getD i default).Routines.length - j < n→
  ∃w t,N6 L (i:Int) m n v (j:Int)=some (0,(w,t)):=by
 intro n
 induction n with
 |zero=>intro j v _ h;omega
 |succ n ih=>
  intro j v hj h
  by_cases hlt:j < (m.Sites.getD i default).Routines.length
  ·obtain ⟨c,hx⟩:=hc ((m.Sites.getD i default).Routines.getD j default) (by rw [Gs _ j hlt];exact List.getElem_mem hlt)
   simp only [N6,Af2,aN,aB,nn,Ip hi,if_true,toN,Dv hlt,cond_true,Ip hlt,hx,Option.bind_some,A9 hlt hl]
   exact ih (j+1) _ hlt (by omega)
  ·exact ⟨v,j,by simp only [N6,Af2,aN,aB,nn,Ip hi,if_true,toN,D1 (show (m.Sites.getD i default).Routines.length≤j by omega),cond_false]⟩
theorem Beh(L:Nat){m:Ad}(h:MG m)(hL:Uf≤L):∀(k:List Aa) (i:Nat) (v:Int),m.Sites.drop i=k→∃w j,Sp L m k i v=some (0,(w,j)):=by
 have hl:=Rm hL
 intro k
 induction k with
 |nil=>intro i v _;exact ⟨v,i,rfl⟩
 |cons x k ih=>
  intro i v hk
  obtain ⟨hi,hx,hk'⟩:=Og hk
  have hm:x∈m.Sites:=by rw [←hx,Gs _ i hi];exact List.getElem_mem hi
  have hsg:=h.site x hm
  have hlen:=hsg.ln.2.2.2.2.2.2.2.2.2
  obtain ⟨w,t,hw⟩:=Bei L i m hi (by
   rw [hx]
   intro r hr
   have hro:=hsg.routs r hr
   exact Bht (show∀y∈r.Body,B6 y from hro.2.2.2.2) L (Axc hL (Akf (hsg.bkR r hr)).2.2)) (by rw [hx];exact hlen) L 0 v (Nat.zero_le _) (by rw [hx];omega)
  have hw:N6 L (i:Int) m L v 0=_:=hw
  rw [Sp,hw,Option.bind_some,Hb]
  exact ih (i+1) w hk'
theorem Bhq(L:Nat){m:Ad}(h:MG m)(hL:Uf≤L):∃n,Aoq L m=some n:=by
 obtain ⟨w,j,hj⟩:=Beh L h hL m.Sites 0 (Cq ((m.Params.length:Int)+(m.Links.length:Int))) rfl
 exact ⟨w,by simp only [A48,m6,Aoq,m6,aN,aB,A6m L m L h.sites (Nat.lt_of_le_of_lt h.sites (Rm hL)),hj,Option.bind_some,Hb]⟩
theorem Cam(L:Nat):Akt L=some true:=rfl
theorem Bj1:maxLen < Uf:=Rm (Nat.le_refl Uf)
theorem Bqd{m:Ad}(h:MG m):m.Params.length≤maxLen:=h.ok.2.1.1
theorem Bkg{m:Ad}(h:MG m){f:List Ah}(hs:SmF f):W1 Uf m f=some (Bta m f (tmE m))∧Agw Uf m f=some (Bta m f (tmE m)):=by
 refine ⟨A3c Uf f m _ (Cc7 h Uf (Nat.le_refl _)) (fun h0 p hp=> ?_) (Bqd h) hs Bj1,Bec Uf f m _ (Cc8 h Uf (Nat.le_refl _)) (Bqd h) hs Bj1⟩
 unfold tmE at h0
 exact ((Chb (Bgb.1 h0).1).ok p hp).1
theorem Aze(m:Ad)(f:List Ah)(hm:Yj m)(hf:f.length≤maxLen∧∀y∈f,Alx y)(hb:Ih m+(Dl Vu f+1)≤1048576):∃L,Aaa L m f=some true:=by
 have h:MG m:=⟨hm,by omega⟩
 refine ⟨Uf,?_⟩
 have hM:=Bd
 have hl:=Bj1
 obtain ⟨n,hn⟩:=Bhq Uf h (Nat.le_refl _)
 simp only [Aad,Aaa,aN,aB,Bdt Uf f hf.1 (by omega),hn,Cam,Option.bind_some]
 cases hs:A75 f with
 |false=>rfl
 |true=>
  have hs:=smF hs
  obtain ⟨e1,e2⟩:=Bkg h hs
  cases hd:decide (n > 3000) with
  |true=>rfl
  |false=>simp only [Bool.not_true,cond_false,Option.bind_some,e1,e2,Asp Uf f hs (by omega),A1v Uf f hs (by omega),beq_self_eq_true,cond_true]
end Go.Proofs.YtfencmicmnhglaaGreat.Ev
