/-  Chapter 51, plainly: points of a design and their numbers. -/
import Derived.Test.YtfencmicmnhglaaGreatPa
import Derived.Test.YtfencmicmnhglaaGreatQA
import Derived.Lib.Mul64
import Derived.Laws.Bits64b
import Derived.Test.YtfencmicmnhglaaGreatCH
import Derived.Test.YtfencmicmnhglaaGreatPO
namespace Go.Proofs.YtfencmicmnhglaaGreat.Ev
open Go An
set_option maxRecDepth 100000
set_option linter.unusedVariables false
set_option linter.unusedSimpArgs false
set_option linter.unnecessarySimpa false
def Abg:List Nat→Nat
 | []=>1
 |l::ls=>l*Abg ls
def ptN:List Nat→Nat→List Nat×Nat
 | [],i=>([],i)
 |l::ls,i=>((ptN ls i).2 % l::(ptN ls i).1,(ptN ls i).2/l)
def ixN:List Nat→List Nat→Nat→Nat
 |l::ls,x::xs,n=>ixN ls xs (n*l+x)
 |_,_,n=>n
theorem Bmq(ls:List Nat)(i:Nat):(ptN ls i).2=i/Abg ls:=by
 induction ls generalizing i with
 |nil=>simp [ptN,Abg]
 |cons l ls ih=>rw [ptN,ih,Abg,Nat.div_div_eq_div_mul,Nat.mul_comm]
theorem Az8(ls:List Nat)(i:Nat):(ptN ls i).1.length=ls.length:=by
 induction ls with
 |nil=>rfl
 |cons l ls ih=>simp [ptN,ih]
theorem Azr:∀(ls xs:List Nat) (n:Nat),xs.length=ls.length→ixN ls xs n=n*Abg ls+ixN ls xs 0
 | [],[],n,_=>by simp [ixN,Abg]
 | [],x::xs,n,h=>by simp at h
 |l::ls,[],n,h=>by simp at h
 |l::ls,x::xs,n,h=>by
  have h':xs.length=ls.length:=by simpa using h
  rw [ixN,Azr ls xs _ h',ixN,Azr ls xs (0*l+x) h',Abg,Nat.add_mul,Nat.zero_mul,Nat.zero_add,Nat.mul_assoc];omega
theorem By6(ls:List Nat)(i:Nat):ixN ls (ptN ls i).1 0=i % Abg ls:=by
 induction ls with
 |nil=>simp [ixN,ptN,Abg,Nat.mod_one]
 |cons l ls ih=>rw [ptN,ixN,Azr _ _ _ (Az8 ls i),ih,Bmq,Abg,Nat.zero_mul,Nat.zero_add,Nat.mul_comm l,Nat.mod_mul,Nat.add_comm,Nat.mul_comm]
def okN:List Nat→List Nat→Prop
 |l::ls,x::xs=>x < l∧okN ls xs
 | [],[]=>True
 |_,_=>False
theorem Bgw:∀ {ls:List Nat} (i:Nat),(∀l∈ls,0 < l)→okN ls (ptN ls i).1
 | [],_,_=>trivial
 |l::ls,i,h=>⟨Nat.mod_lt _ (h l (by simp)),Bgw i fun l hl=>h l (by simp [hl])⟩
theorem A28:∀ {ls:List Nat},(∀l∈ls,0 < l)→0 < Abg ls
 | [],_=>by simp [Abg]
 |l::ls,h=>Nat.mul_pos (h l (by simp)) (A28 fun l hl=>h l (by simp [hl]))
theorem wuN(a:Nat)(ha:a < 18446744073709551616):IntKind.wrap .u64 (a:Int)=(a:Int):=by rw [IntKind.wrap_u64];omega
theorem wuM(a:Nat):IntKind.wrap .u64 (a:Int)=((a % 18446744073709551616:Nat):Int):=by rw [IntKind.wrap_u64];omega
theorem Bqo(a:Nat)(ha:a < 18446744073709551616):IntKind.wrap .u64 (((BitVec.ofInt 64 (a:Int) &&& BitVec.ofInt 64 4294967295).toNat:Nat):Int)=((a % 4294967296:Nat):Int):=by
 have e1:BitVec.ofInt 64 (a:Int)=BitVec.ofNat 64 a:=BitVec.ofInt_natCast ..
 have e2:BitVec.ofInt 64 4294967295=BitVec.ofNat 64 4294967295:=by decide
 have e:a &&& 4294967295=a % 4294967296:=Nat.and_two_pow_sub_one_eq_mod a 32
 rw [e1,e2,BitVec.toNat_and,BitVec.toNat_ofNat,BitVec.toNat_ofNat,Nat.mod_eq_of_lt (by omega:a < 2 ^ 64),Nat.mod_eq_of_lt (by decide),e]
 exact wuN _ (by omega)
theorem fdN(a:Nat):Int.fdiv (a:Int) (2 ^ 32)=((a/4294967296:Nat):Int):=by
 rw [Int.fdiv_eq_ediv_of_nonneg _ (by decide)]
 show (a:Int)/4294967296=_
 omega
theorem B0g(a b:Nat):(a:Int)*(b:Int)=((a*b:Nat):Int):=(Int.natCast_mul a b).symm
theorem Bw6(a b:Nat):(a:Int)+(b:Int)=((a+b:Nat):Int):=(Int.natCast_add a b).symm
theorem Av5(L x y:Nat)(hx:x < 18446744073709551616)(hy:y < 18446744073709551616):Abj L x y=some (((x*y/18446744073709551616:Nat):Int),((x*y % 18446744073709551616:Nat):Int)):=by
 obtain ⟨bd,bt,bw,hhi⟩:=Lib.mul64_hi x y hx hy
 have ba:=Lib.half_mul_le (a:=x/4294967296) (b:=y/4294967296) (by omega) (by omega)
 have bb:=Lib.half_mul_le (a:=x/4294967296) (b:=y % 4294967296) (by omega) (by omega)
 have bc:=Lib.half_mul_le (a:=x % 4294967296) (b:=y/4294967296) (by omega) (by omega)
 have ba':x/4294967296*(y/4294967296) < 18446744073709551616:=by omega
 have bb':x/4294967296*(y % 4294967296) < 18446744073709551616:=by omega
 have bc':x % 4294967296*(y/4294967296) < 18446744073709551616:=by omega
 have bh1:x/4294967296*(y/4294967296)+(x/4294967296*(y % 4294967296)+x % 4294967296*(y % 4294967296)/4294967296)/4294967296 < 18446744073709551616:=by omega
 have bh:x/4294967296*(y/4294967296)+(x/4294967296*(y % 4294967296)+x % 4294967296*(y % 4294967296)/4294967296)/4294967296+((x/4294967296*(y % 4294967296)+x % 4294967296*(y % 4294967296)/4294967296) % 4294967296+x % 4294967296*(y/4294967296))/4294967296 < 18446744073709551616:=by omega
 simp only [Afw,Abj,aN,aB,Bqo x hx,Bqo y hy,fdN,B0g,Bw6,wuN _ bd,wuN _ bb',wuN _ bt,Bqo _ bt,wuN _ bc',wuN _ bw,wuN _ ba',wuN _ bh1,wuN _ bh,wuM (x*y)]
 rw [hhi]
def mxN:Nat:=1000000000000
theorem A44(L a b:Nat)(ha:a≤mxN)(hb:b≤mxN):Ad6 L a b=some ((min (a*b) mxN:Nat):Int):=by
 unfold mxN at*
 have e1:∀n:Nat,n≤1000000000000→(if (if (1000000000000:Int) < (n:Int) then (1000000000000:Int) else (n:Int)) > -1000000000000 then (if (1000000000000:Int) < (n:Int) then (1000000000000:Int) else (n:Int)) else -1000000000000)=(n:Int):=fun n h=>by
  have e:(if (1000000000000:Int) < (n:Int) then (1000000000000:Int) else (n:Int))=(n:Int):=if_neg (by omega)
  rw [e,if_pos (by omega)]
 have e2:∀n:Nat,n≤1000000000000→(if Dp (0 - (n:Int)) > (n:Int) then Dp (0 - (n:Int)) else (n:Int))=(n:Int):=fun n h=>by
  rw [V6 (by omega) (by omega),if_neg (by omega)]
 have hle:a*b≤1000000000000*1000000000000:=Nat.mul_le_mul ha hb
 simp only [Aoj,Ad6,Ak0,Afs,Ak1,Aft,aN,aB,e1 a ha,e1 b hb,Option.bind_some,e2 a ha,e2 b hb,wuN a (by omega),wuN b (by omega),Av5 L a b (by omega) (by omega),decide_eq_false (show¬(a:Int) < 0 by omega),decide_eq_false (show¬(b:Int) < 0 by omega),beq_self_eq_true,Bool.not_true,cond_false]
 by_cases h:a*b < 1000000000000
 ·have h0:a*b/18446744073709551616=0:=Nat.div_eq_of_lt (by omega)
  have h1:a*b % 18446744073709551616=a*b:=Nat.mod_eq_of_lt (by omega)
  rw [h0,h1,Nat.min_eq_left (by omega),V6 (by omega) (by omega),show decide (((a*b:Nat):Int) < 1000000000000)=true from decide_eq_true (by omega)]
  rfl
 ·rw [Nat.min_eq_right (by omega)]
  have:(bif (((a*b/18446744073709551616:Nat):Int) == 0) then decide (((a*b % 18446744073709551616:Nat):Int) < 1000000000000) else false)=false:=by
   cases hq:(((a*b/18446744073709551616:Nat):Int) == 0) with
   |false=>rfl
   |true=>
    have hq':=eq_of_beq hq
    rw [cond_true]
    exact decide_eq_false (by omega)
  rw [this];rfl
def fL(f:List Af):List Nat:=f.map fun x=>x.Levels.length
def Ava(f:List Af):Bool:=decide (f.length≤100) && f.all fun x=>decide (x.Levels.length≤300)
theorem Awg(L:Nat)(a:List Af):∀(k:List Af) (i:Nat) (v:Bool),∃j,Nd L a k i v=some (bif k.all fun x=>decide (x.Levels.length≤300) then (1,(v,j)) else (0,(false,j))):=by
 intro k
 induction k with
 |nil=>intro i v;exact ⟨i,rfl⟩
 |cons x k ih=>
  intro i v
  obtain ⟨j,hj⟩:=ih (i+1) v
  rw [Nd,hj,List.all_cons]
  by_cases h:x.Levels.length≤300
  ·rw [decide_eq_true h,show decide ((x.Levels.length:Int) > 300)=false from decide_eq_false (by omega)];exact ⟨j,rfl⟩
  ·rw [decide_eq_false h,show decide ((x.Levels.length:Int) > 300)=true from decide_eq_true (by omega)];exact ⟨i,rfl⟩
theorem Az3(L:Nat)(f:List Af)(hl:f.length≤maxLen)(hL:f.length < L):Acy L f=some (Ava f):=by
 obtain ⟨j,hj⟩:=Awg L f f 0 false
 simp only [Aqg,Zg,T6,Acy,Zg,T6,aN,aB,Arq L f L hl hL,hj,Ava]
 by_cases h:f.length≤100
 ·rw [show decide ((f.length:Int) > 100)=false from decide_eq_false (by omega),decide_eq_true h]
  cases f.all fun x=>decide (x.Levels.length≤300)<;>rfl
 ·rw [show decide ((f.length:Int) > 100)=true from decide_eq_true (by omega),decide_eq_false h];rfl
structure SmF (f:List Af):Prop where
 len:f.length≤100
 lev:∀x∈f,x.Levels.length≤300
theorem smF{f:List Af}(h:Ava f=true):SmF f:=by
 unfold Ava at h
 rw [Bool.and_eq_true,List.all_eq_true] at h
 exact ⟨of_decide_eq_true h.1,fun x hx=>of_decide_eq_true (h.2 x hx)⟩
def szN:List Nat→Nat→Nat
 | [],n=>n
 |l::ls,n=>szN ls (min (n*l) mxN)
def Ji(f:List Af):Nat:=if f.length=0 then 0 else szN (fL f) 1
theorem Arz(L:Nat)(a:List Af):∀(k:List Af) (i n:Nat),n≤mxN→(∀x∈k,x.Levels.length≤300)→∃j,J9 L a k i n=some (0,(((szN (fL k) n:Nat):Int),j)):=by
 intro k
 induction k with
 |nil=>intro i n _ _;exact ⟨i,rfl⟩
 |cons x k ih=>
  intro i n hn h
  have h1:=h x (by simp)
  obtain ⟨j,hj⟩:=ih (i+1) (min (n*x.Levels.length) mxN) (Nat.min_le_right _ _) fun y hy=>h y (by simp [hy])
  exact ⟨j,by rw [J9,A44 L n _ hn (by unfold mxN;omega),Option.bind_some,hj];rfl⟩
theorem Y3(L:Nat)(f:List Af)(hs:SmF f)(hL:100 < L):Py L f=some ((Ji f:Nat):Int):=by
 have hM:=B4
 have:=hs.len
 obtain ⟨j,hj⟩:=Arz L f f 0 1 (by decide) hs.lev
 simp only [Aka,Vi,Qq,Py,Vi,Qq,aN,aB,Anc L f L (by omega) (by omega),A4z,Ji]
 by_cases h:f.length=0
 ·rw [decide_eq_true h,if_pos h];rfl
 ·rw [decide_eq_false h,if_neg h,cond_false,show (1:Int)=((1:Nat):Int) from rfl,hj];rfl
theorem Bh3:∀(ls:List Nat) (n:Nat),n≤mxN→(∀l∈ls,0 < l)→n≤szN ls n
 | [],n,_,_=>Nat.le_refl _
 |l::ls,n,h,hp=>by
  have h1:=Bh3 ls (min (n*l) mxN) (Nat.min_le_right _ _) fun l hl=>hp l (by simp [hl])
  have h2:n*1≤n*l:=Nat.mul_le_mul_left _ (hp l (by simp))
  rw [szN];omega
theorem Bh2:∀(ls:List Nat) (n:Nat),(∀l∈ls,0 < l)→szN ls n≤200→szN ls n=n*Abg ls
 | [],n,_,_=>by simp [szN,Abg]
 |l::ls,n,hp,h=>by
  have hp':∀l∈ls,0 < l:=fun l hl=>hp l (by simp [hl])
  have h1:=Bh3 ls (min (n*l) mxN) (Nat.min_le_right _ _) hp'
  rw [szN] at h ⊢
  have h2:min (n*l) mxN=n*l:=by unfold mxN at *;omega
  rw [h2] at h ⊢
  rw [Bh2 ls _ hp' h,Abg,Nat.mul_assoc]
structure UF (f:List Af):Prop where
 pos:∀l∈fL f,0 < l
 len:f.length≤6
 ne:0 < f.length
 size:Ji f=Abg (fL f)
 most:Ji f≤200
def Avk(f:List Af):Int:=if f.length=0∨0∈fL f then 7 else if 6 < f.length∨200 < Ji f then 6 else 0
theorem A59{f:List Af}(h:Avk f=0):UF f:=by
 unfold Avk at h
 split at h
 ·cases h
 split at h
 ·cases h
 rename_i h1 h2
 have hp:∀l∈fL f,0 < l:=fun l hl=>Nat.pos_of_ne_zero fun e=>h1 (.inr (e ▸ hl))
 have hl:f.length≠0:=fun e=>h1 (.inl e)
 have e:Ji f=szN (fL f) 1:=if_neg hl
 have hm:szN (fL f) 1≤200:=by rw [←e];omega
 exact ⟨hp,by omega,by omega,by rw [e,Bh2 _ _ hp hm,Nat.one_mul],by omega⟩
theorem An2(L:Nat)(a:List Af):∀(k:List Af) (i:Nat) (v:Int),∃j:Nat,H2 L a k i v=some (bif decide (0∈fL k) then (0,((j:Int),(j:Int))) else (1,(v,(j:Int)))):=by
 intro k
 induction k with
 |nil=>intro i v;exact ⟨i,rfl⟩
 |cons x k ih=>
  intro i v
  obtain ⟨j,hj⟩:=ih (i+1) v
  rw [H2,hj,A4z]
  by_cases h:x.Levels.length=0
  ·rw [decide_eq_true h,show decide (0∈fL (x::k))=true from decide_eq_true (by simp [fL,h])];exact ⟨i,rfl⟩
  ·have:0∈fL (x::k)↔0∈fL k:=by simp [fL,Ne.symm h,eq_comm (a:=(0:Nat)),h]
   rw [decide_eq_false h,decide_eq_decide.2 this];exact ⟨j,rfl⟩
theorem Ahm(L:Nat)(f:List Af)(hl:f.length≤maxLen)(hL:f.length < L):∃r,Rp L f=some r∧decide (r≥0)=decide (0∈fL f):=by
 obtain ⟨j,hj⟩:=An2 L f f 0 0
 simp only [Rp,Acf,Rv,aN,aB,Ajz L f L hl hL,hj]
 by_cases h:0∈fL f
 ·exact ⟨j,by rw [decide_eq_true h];rfl,by rw [decide_eq_true h];exact decide_eq_true (by omega)⟩
 ·exact ⟨-1,by rw [decide_eq_false h];rfl,by rw [decide_eq_false h];rfl⟩
theorem Ae3(L:Nat)(f:List Af)(hs:SmF f)(hL:100 < L):R8 L f=some (Avk f):=by
 have hM:=B4
 have:=hs.len
 obtain ⟨r,hr1,hr2⟩:=Ahm L f (by omega) (by omega)
 simp only [Agw,R3,Nh,R8,R3,Nh,aN,aB,hr1,hr2,Y3 L f hs hL,A4z,Option.bind_some,Avk]
 by_cases h1:f.length=0
 ·rw [decide_eq_true h1,if_pos (.inl h1)];rfl
 by_cases h2:0∈fL f
 ·rw [decide_eq_false h1,decide_eq_true h2,if_pos (.inr h2)];rfl
 rw [decide_eq_false h1,decide_eq_false h2,if_neg (fun h=>h.elim h1 h2),cond_false,cond_false]
 by_cases h3:6 < f.length
 ·rw [show decide ((f.length:Int) > 6)=true from decide_eq_true (by omega),if_pos (.inl h3)];rfl
 rw [show decide ((f.length:Int) > 6)=false from decide_eq_false (by omega),cond_false,Option.bind_some]
 by_cases h4:200 < Ji f
 ·rw [show decide (((Ji f:Nat):Int) > 200)=true from decide_eq_true (by omega),if_pos (.inr h4)];rfl
 ·rw [show decide (((Ji f:Nat):Int) > 200)=false from decide_eq_false (by omega),if_neg (fun h=>h.elim h3 h4)];rfl
def toI(l:List Nat):List Int:=l.map fun(n:Nat)=>(n:Int)
theorem Bgv(ls:List Nat)(l i:Nat):ptN (ls++ [l]) i=((ptN ls (i/l)).1++ [i % l],(ptN ls (i/l)).2):=by
 induction ls with
 |nil=>rfl
 |cons a ls ih=>rw [List.cons_append,ptN,ih,ptN];rfl
theorem Bc0{α :Type} [Inhabited α](l:List α)(k:Nat)(h:k < l.length):l.take (k+1)=l.take k++ [l.getD k default]:=by
 rw [List.take_succ_eq_append_getElem h,Hm l k h]
theorem Bnq(k x:Nat)(t:List Int):(List.replicate (k+1) (0:Int)++t).set k (x:Int)=List.replicate k 0++((x:Int)::t):=by
 rw [List.replicate_succ',List.append_assoc,List.set_append_right _ _ (by simp)];simp
theorem B18(i l:Nat):Int.tdiv (i:Int) (l:Int)=((i/l:Nat):Int):=(Int.ofNat_tdiv i l).symm
theorem Bpk(i l:Nat):Int.tmod (i:Int) (l:Int)=((i % l:Nat):Int):=(Int.ofNat_tmod i l).symm
theorem Brg(f:List Af)(k:Nat)(h:k < f.length):(fL f).getD k default=(f.getD k default).Levels.length:=by
 unfold fL
 rw [Hm _ k (by simpa using h),Hm f k h,List.getElem_map]
theorem Beg{α :Type} [Inhabited α](l:List α)(i:Nat)(h:i < l.length):l.drop i=l.getD i default::l.drop (i+1):=by
 rw [List.drop_eq_getElem_cons h,Hm l i h]
def okX:List Nat→List Int→Bool
 |l::ls,x::xs=>(decide (0≤x) && decide (x < (l:Int))) && okX ls xs
 | [],[]=>true
 |_,_=>false
def Bvs(x:List Int):List Nat:=x.map Int.toNat
theorem Bgr:∀ {ls xs:List Nat},okN ls xs→okX ls (toI xs)=true
 | [],[],_=>rfl
 | [],_::_,h=>h.elim
 |_::_,[],h=>h.elim
 |l::ls,x::xs,h=>by
  show ((decide (0≤(x:Int)) && decide ((x:Int) < (l:Int))) && okX ls (toI xs))=true
  rw [Bgr h.2,decide_eq_true (by omega),decide_eq_true (by have:=h.1;omega)];rfl
theorem Bbf(xs:List Nat):Bvs (toI xs)=xs:=by
 induction xs with
 |nil=>rfl
 |cons x xs ih=>show Int.toNat (x:Int)::Bvs (toI xs)=_;rw [ih,Int.toNat_natCast]
theorem A7m(f:List Af)(i:Nat)(h:i < f.length):fL (f.drop i)=(f.getD i default).Levels.length::fL (f.drop (i+1)):=by
 rw [Beg f i h];rfl
def A49(f:List Af)(x:List Int):Int:=if Avk f≠0 then Avk f else if x.length≠f.length then 8 else if okX (fL f) x then 0 else 2
theorem Ap4(L:Nat)(f:List Af)(x:List Int):∀(k:List Int) (i:Nat) (v:Int),i+k.length=f.length→∃j,Iy L f x k i v=some (bif okX (fL (f.drop i)) k then (1,(v,j)) else (0,(2,j))):=by
 intro k
 induction k with
 |nil=>
  intro i v h
  refine ⟨i,?_⟩
  have:f.drop i= []:=List.drop_eq_nil_of_le (by simp at h;omega)
  rw [this];rfl
 |cons y k ih=>
  intro i v h
  rw [List.length_cons] at h
  have hlt:i < f.length:=by omega
  obtain ⟨j,hj⟩:=ih (i+1) v (by omega)
  rw [Iy,hj,A7m f i hlt,okX]
  simp only [nn,if_true,Ru hlt,toN]
  by_cases h1:y < 0
  ·rw [decide_eq_true h1,decide_eq_false (show¬0≤y by omega)];exact ⟨i,rfl⟩
  ·rw [decide_eq_false h1,decide_eq_true (show 0≤y by omega)]
   by_cases h2:y < ((f.getD i default).Levels.length:Int)
   ·rw [show decide (y≥((f.getD i default).Levels.length:Int))=false from decide_eq_false (by omega),decide_eq_true h2];exact ⟨j,by simp⟩
   ·rw [show decide (y≥((f.getD i default).Levels.length:Int))=true from decide_eq_true (by omega),decide_eq_false h2];exact ⟨i,by simp⟩
theorem Bzs(a b:Nat):((a:Int) != (b:Int))= !decide (a=b):=by
 by_cases h:a=b
 ·subst h;simp
 ·rw [decide_eq_false h];exact bne_iff_ne.2 (by omega)
theorem Aru(L:Nat)(f:List Af)(x:List Int)(hs:SmF f)(hL:100 < L):Xy L f x=some (A49 f x):=by
 have hM:=B4
 have hlen:=hs.len
 simp only [Ah0,Tm,O3,Xy,Tm,O3,aN,aB,Ae3 L f hs hL,Option.bind_some,Bzs,A49]
 by_cases h1:Avk f=0
 ·by_cases h2:x.length=f.length
  ·obtain ⟨j,hj⟩:=Ap4 L f x x 0 0 (by omega)
   rw [Aln L f x L (by omega) (by omega),hj,List.drop_zero]
   cases okX (fL f) x<;>simp [h1,h2,Lx,n8]
  ·simp [h1,h2]
 ·simp [h1,Zn h1]
theorem Bmo{f:List Af}{x:List Int}(h:A49 f x=0):UF f∧x.length=f.length∧okX (fL f) x=true:=by
 unfold A49 at h
 split at h
 ·rename_i h1;exact absurd h h1
 split at h
 ·cases h
 split at h
 ·rename_i h1 h2 h3
  exact ⟨A59 (Classical.not_not.1 h1),Classical.not_not.1 h2,h3⟩
 ·cases h
theorem A96{f:List Af}{x:List Int}(h1:Avk f=0)(h2:x.length=f.length)(h3:okX (fL f) x=true):A49 f x=0:=by
 unfold A49;rw [if_neg (by simp [h1]),if_neg (by simp [h2]),if_pos h3]
def Ae8:List Af→List Int→List Ag
 |y::f,x::xs=>⟨y.Name,y.Levels.getD x.toNat default⟩::Ae8 f xs
 |_,_=> []
theorem Aj7(L:Nat)(f:List Af)(x:List Int):∀(k:List Int) (i:Nat) (v:List Ag),i+k.length=f.length→okX (fL (f.drop i)) k=true→v.length+k.length≤100→
  ∃j,Ey L f x k i v=some (0,(v++Ae8 (f.drop i) k,j)):=by
 intro k
 induction k with
 |nil=>
  intro i v h _ _
  refine ⟨i,?_⟩
  have:f.drop i= []:=List.drop_eq_nil_of_le (by simp at h;omega)
  rw [this];simp [Ey,Ae8]
 |cons y k ih=>
  intro i v h ho hv
  have hM:=B4
  rw [List.length_cons] at h hv
  have hlt:i < f.length:=by omega
  rw [A7m f i hlt] at ho
  rw [okX,Bool.and_eq_true,Bool.and_eq_true] at ho
  obtain ⟨⟨h1,h2⟩,h3⟩:=ho
  have h1:=of_decide_eq_true h1
  have h2:=of_decide_eq_true h2
  rw [Beg f i hlt,Ey]
  simp only [toN,List.length_cons,List.length_nil]
  rw [ifp (by omega),ifp (by omega),ifp h1,ifp h2,ifp (by omega),ifp (by omega)]
  generalize hy:(⟨(f.getD i default).Name,(f.getD i default).Levels.getD y.toNat default⟩:Ag)=s
  obtain ⟨j,hj⟩:=ih (i+1) (v++ [s]) (by omega) h3 (by simp;omega)
  exact ⟨j,by rw [hj,List.append_assoc,←hy];rfl⟩
theorem Bbx(a b:ByteArray):(a == b)=decide (a=b):=by
 by_cases h:a=b
 ·subst h
  rw [decide_eq_true rfl]
  cases a with|mk x=>show (x == x)=true;exact beq_self_eq_true x
 ·rw [decide_eq_false h]
  cases a with|mk x=>cases b with|mk y=>
   show (x == y)=false
   exact beq_eq_false_iff_ne.2 fun e=>h (by rw [e])
instance decSet:DecidableEq Ag:=fun a b=>decidable_of_iff (a.Name=b.Name∧a.N=b.N) (by cases a;cases b;simp)
theorem Ai3(L:Nat)(a b:List Ag):∀(k:List Ag) (i:Nat) (v:Bool),i+k.length=b.length→∃j,F6 L a b k i v=some (bif decide (k=b.drop i) then (1,(v,j)) else (0,(false,j))):=by
 intro k
 induction k with
 |nil=>
  intro i v h
  have:b.drop i= []:=List.drop_eq_nil_of_le (by simp at h;omega)
  rw [this];exact ⟨i,rfl⟩
 |cons y k ih=>
  intro i v h
  rw [List.length_cons] at h
  have hlt:i < b.length:=by omega
  obtain ⟨j,hj⟩:=ih (i+1) v (by omega)
  rw [F6,ifp (by omega),toN,hj,Beg b i hlt]
  generalize b.getD i default=z
  have he:(y.Name == z.Name && (y.N == z.N && true))=decide (y=z):=by
   cases y;cases z
   rename_i a1 a2 b1 b2
   show (a1 == b1 && (a2 == b2 && true))=_
   rw [Bbx]
   by_cases e1:a1=b1<;>by_cases e2:a2=b2<;>simp [e1,e2]
  rw [he]
  by_cases h1:y=z
  ·rw [decide_eq_true h1,decide_eq_decide.2 (show y::k=z::b.drop (i+1)↔k=b.drop (i+1) by rw [List.cons.injEq];exact and_iff_right h1)];exact ⟨j,rfl⟩
  ·rw [decide_eq_false h1,decide_eq_false (show¬y::k=z::b.drop (i+1) by rw [List.cons.injEq];exact fun h=>h1 h.1)];exact ⟨i,rfl⟩
theorem Aj2(L:Nat)(a b:List Ag)(hl:a.length≤maxLen)(hL:a.length < L):Rl L a b=some (decide (a=b)):=by
 simp only [Ab1,Nr,Jr,Rl,Nr,Jr,aN,aB,Bzs]
 by_cases h:a.length=b.length
 ·obtain ⟨j,hj⟩:=Ai3 L a b a 0 false (by omega)
  rw [decide_eq_true h,Agh L a b L hl hL,hj,List.drop_zero]
  cases decide (a=b)<;>rfl
 ·rw [decide_eq_false h,decide_eq_false (show¬a=b from fun e=>h (by rw [e]))];rfl
def lvE(t:Int)(l:List Int):Nat→List Int→Int
 |_,[]=>0
 |i,n::k=>if y6 t n=false then 2 else if 0 < i∧n≤l.getD (i - 1) default then 12 else lvE t l (i+1) k
def Bgh(t:Int)(l:List Int):Int:=if l.length=0 then 7 else if 10 < l.length then 6 else lvE t l 0 l
def A4s(m:Ad)(f:List Af)(i:Nat)(x:Af):Int:=match m.Params.find? fun p=>decide (p.Name=x.Name) with
 |none=>5
 |some p=>if (f.take i).any (fun y=>decide (y.Name=x.Name)) then 4 else Bgh p.Type_ x.Levels
def Aqt(m:Ad)(f:List Af):Nat→List Af→Int
 |_,[]=>0
 |i,x::k=>fE (A4s m f i x) (Aqt m f (i+1) k)
def Bed(m:Ad)(f:List Af)(e:Int):Int:=fE e (if f.length=0 then 7 else if 6 < f.length then 6 else fE (Aqt m f 0 f) (if 200 < Ji f then 6 else 0))
theorem Aua(L:Nat)(t n:Int):V7 L t n=some (Am4 t n):=by
 simp only [Adn,V7,aN,aB,Ae4,Option.bind_some,Am4]
 by_cases h2:t=2
 ·simp only [h2,beq_self_eq_true,cond_true,if_true]
  cases (n == 0)<;>rfl
 ·by_cases h3:t=3
  ·subst h3
   rw [beq_false_of_ne h2,cond_false,if_neg h2,beq_self_eq_true,cond_true,if_pos rfl]
   unfold Bx
   by_cases h4:0≤n
   ·simp only [decide_eq_true (show n≥0 from h4),decide_eq_true h4,cond_true,Bool.true_and]
   ·simp only [decide_eq_false (show¬n≥0 from h4),decide_eq_false h4,cond_false,Bool.false_and]
  ·rw [beq_false_of_ne h2,beq_false_of_ne h3,cond_false,cond_false,if_neg h2,if_neg h3]
theorem B07{β :Type}(l:List Int)(i:Nat)(hi:i < l.length)(hl:l.length≤maxLen)(a:Int)(A B:Option β):
  (Option.bind (bif decide ((i:Int) > 0) then (if (0:Int)≤Dp ((i:Int) - 1) then (if Dp ((i:Int) - 1) < ((l.length:Nat):Int) then some (decide (a≤(l.getD (Int.toNat (Dp ((i:Int) - 1))) default))) else none) else none) else some false) fun b=>bif b then A else B)
   =if 0 < i∧a≤l.getD (i - 1) default then A else B:=by
 have hM:=B4
 cases i with
 |zero=>rfl
 |succ i=>
  have e:Dp (((i+1:Nat):Int) - 1)=(i:Int):=by rw [Afb (by omega)];omega
  rw [e,decide_eq_true (show ((i+1:Nat):Int) > 0 by omega),cond_true,if_pos (by omega),if_pos (by omega),toN,Option.bind_some,Nat.add_sub_cancel]
  by_cases h:a≤l.getD i default
  ·rw [decide_eq_true h,cond_true,if_pos ⟨by omega,h⟩]
  ·rw [decide_eq_false h,cond_false,if_neg fun hh=>h hh.2]
theorem An1(L:Nat)(t:Int)(l:List Int)(ht:N1 t=true)(hl:l.length≤maxLen):∀(k:List Int) (i:Nat) (v:Int),l.drop i=k→
  ∃j,H1 L t l k i v=some (if lvE t l i k=0 then (1,(v,j)) else (0,(lvE t l i k,j))):=by
 intro k
 induction k with
 |nil=>intro i v _;exact ⟨i,rfl⟩
 |cons x k ih=>
  intro i v h
  obtain ⟨hi,hx,hk⟩:=N4 h
  obtain ⟨j,hj⟩:=ih (i+1) v hk
  rw [H1,Aua,Option.bind_some,A1u ht,B07 l i hi hl,hj,lvE]
  cases hf:y6 t x with
  |false=>exact ⟨i,rfl⟩
  |true=>
   by_cases h2:0 < i∧x≤l.getD (i - 1) default
   ·exact ⟨i,by simp only [if_pos h2,Bool.not_true,cond_false,Bool.true_eq_false,if_false];rfl⟩
   ·exact ⟨j,by simp only [if_neg h2,Bool.not_true,cond_false,Bool.true_eq_false,if_false]⟩
theorem Apt(L:Nat)(t:Int)(l:List Int)(ht:N1 t=true)(hl:l.length≤maxLen)(hL:l.length < L):R7 L t l=some (Bgh t l):=by
 obtain ⟨j,hj⟩:=An1 L t l ht hl l 0 0 rfl
 have e10:decide ((l.length:Int) > 10)=decide (10 < l.length):=gtN _ 10
 simp only [Agv,R2,Ng,R7,R2,Ng,aN,aB,Ajy L t l L hl hL,hj,Bgh,Bgg,e10,Option.bind_some]
 by_cases h0:l.length=0
 ·simp [h0]
 ·by_cases h1:10 < l.length
  ·simp [h0,h1]
  ·by_cases h2:lvE t l 0 l=0
   ·simp [h0,h1,h2,n8]
   ·simp [h0,h1,h2,Lx]
theorem Ap2(L:Nat)(p:List Ah)(m:Ad)(w:Af):∀(k:List Ah) (i:Nat) (v:Int),Iw L p m w k i v=some (match k.findIdx? (fun x=>x.Name.toList == w.Name.toList) with|some j=>(0,(((i+j:Nat):Int),((i+j:Nat):Int)))|none=>(1,(v,((i+k.length:Nat):Int)))):=by
 intro k
 induction k with
 |nil=>intro i v;rfl
 |cons x k ih=>
  intro i v
  rw [Iw,ih,List.findIdx?_cons]
  cases hc:(fun x=>x.Name.toList == w.Name.toList) x with
  |true=>simp only [hc,cond_true,if_true];rfl
  |false=>
   simp only [hc,cond_false,if_false,Bool.false_eq_true]
   cases k.findIdx? (fun x=>x.Name.toList == w.Name.toList) with
   |some j=>simp [Nat.add_assoc,Nat.add_comm 1]
   |none=>simp [Nat.add_assoc,Nat.add_comm 1]
theorem Ai0(L:Nat)(p:List Ah)(m:Ad)(w:Af)(hl:p.length≤maxLen)(hL:p.length < L):Ov L p m w=some (Nz (p.findIdx? (fun x=>decide (x.Name=w.Name)))):=by
 simp only [Ov,Ac6,Tb,aN,aB,All _ _ _ _ _ hl hL,Ap2,I2,Option.bind_some]
 cases p.findIdx? (fun x=>decide (x.Name=w.Name)) with
 |none=>rfl
 |some i=>simp [Nz,Lx]
theorem Ap3(L:Nat)(p:List Af)(m:Ad)(w:Af):∀(k:List Af) (i:Nat) (v:Int),Ix L p m w k i v=some (match k.findIdx? (fun x=>x.Name.toList == w.Name.toList) with|some j=>(0,(((i+j:Nat):Int),((i+j:Nat):Int)))|none=>(1,(v,((i+k.length:Nat):Int)))):=by
 intro k
 induction k with
 |nil=>intro i v;rfl
 |cons x k ih=>
  intro i v
  rw [Ix,ih,List.findIdx?_cons]
  cases hc:(fun x=>x.Name.toList == w.Name.toList) x with
  |true=>simp only [hc,cond_true,if_true];rfl
  |false=>
   simp only [hc,cond_false,if_false,Bool.false_eq_true]
   cases k.findIdx? (fun x=>x.Name.toList == w.Name.toList) with
   |some j=>simp [Nat.add_assoc,Nat.add_comm 1]
   |none=>simp [Nat.add_assoc,Nat.add_comm 1]
theorem Ai1(L:Nat)(p:List Af)(m:Ad)(w:Af)(hl:p.length≤maxLen)(hL:p.length < L):Ow L p m w=some (Nz (p.findIdx? (fun x=>decide (x.Name=w.Name)))):=by
 simp only [Ow,Ac7,Td,aN,aB,Alm _ _ _ _ _ hl hL,Ap3,I2,Option.bind_some]
 cases p.findIdx? (fun x=>decide (x.Name=w.Name)) with
 |none=>rfl
 |some i=>simp [Nz,Lx]
theorem Ap1(L:Nat)(f:List Af)(m:Ad)(hp:∀p∈m.Params,N1 p.Type_=true)(hm:m.Params.length≤maxLen)(hs:SmF f)(hL:maxLen < L):∀(k:List Af) (i:Nat) (v:Int),f.drop i=k→
  ∃j,Iv L f m k i v=some (if Aqt m f i k=0 then (1,(v,j)) else (0,(Aqt m f i k,j))):=by
 have hM:=B4
 have hf:=hs.len
 intro k
 induction k with
 |nil=>intro i v _;exact ⟨i,rfl⟩
 |cons x k ih=>
  intro i v h
  obtain ⟨hi,hx,hk⟩:=N4 h
  obtain ⟨j,hj⟩:=ih (i+1) v hk
  have ht:(f.take i).length≤maxLen:=by rw [List.length_take];omega
  have hxm:x∈f:=by rw [←hx,Hm _ i hi];exact List.getElem_mem hi
  have hxl:=hs.lev x hxm
  rw [Iv,Ai0 L m.Params m x hm (by omega),Option.bind_some,Aqt,A4s,Acd]
  cases hq:m.Params.findIdx? (fun p=>decide (p.Name=x.Name)) with
  |none=>exact ⟨i,rfl⟩
  |some a=>
   have ha:=Ais hq
   have hpa:m.Params.getD a default∈m.Params:=by rw [Hm _ a ha];exact List.getElem_mem ha
   simp only [show Nz (some a)=(a:Int) from rfl,Option.map_some,decide_eq_false (show¬((a:Int) < 0) by omega),cond_false,Int.le_refl,Nat.le_refl,if_true,if_pos (show (i:Int)≤(f.length:Int) by omega),toN,List.drop_zero,Ai1 L (f.take i) m x ht (by omega),Option.bind_some,nn,Ru ha,Apt L _ x.Levels (hp _ hpa) (by omega) (by omega),Agg]
   cases (f.take i).any fun y=>decide (y.Name=x.Name) with
   |true=>exact ⟨i,rfl⟩
   |false=>
    by_cases h0:Bgh (m.Params.getD a default).Type_ x.Levels=0
    ·exact ⟨j,by simp only [h0,bne_self_eq_false,cond_false,Bool.false_eq_true,if_false,Xt];exact hj⟩
    ·exact ⟨i,by simp only [Zn h0,cond_true,cond_false,Bool.false_eq_true,if_false,Ys h0,if_neg h0]⟩
theorem Art(L:Nat)(f:List Af)(m:Ad)(e:Int)(ht:Ks L m=some e)(hp:e=0→∀p∈m.Params,N1 p.Type_=true)(hm:m.Params.length≤maxLen)(hs:SmF f)(hL:maxLen < L):Xx L m f=some (Bed m f e):=by
 have hM:=B4
 have hf:=hs.len
 have e200:decide (((Ji f:Nat):Int) > 200)=decide (200 < Ji f):=gtN _ 200
 have e6:decide ((f.length:Int) > 6)=decide (6 < f.length):=gtN _ 6
 simp only [Ahy,Tk,O1,Xx,Tk,O1,aN,aB,ht,Option.bind_some,Bgg,e6,Alk L f m L (show f.length≤maxLen by omega) (by omega),Bed]
 by_cases h0:e=0
 ·obtain ⟨j,hj⟩:=Ap1 L f m (hp h0) hm hs hL f 0 0 rfl
  simp only [h0,bne_self_eq_false,cond_false,Xt,hj,Y3 L f hs (by omega),Option.bind_some,e200]
  by_cases h1:f.length=0
  ·rw [decide_eq_true h1,if_pos h1];rfl
  ·rw [decide_eq_false h1,if_neg h1,cond_false]
   by_cases h2:6 < f.length
   ·rw [decide_eq_true h2,if_pos h2];rfl
   ·rw [decide_eq_false h2,if_neg h2,cond_false]
    by_cases h3:Aqt m f 0 f=0
    ·rw [if_pos h3]
     simp only [h3,n8,Xt]
     by_cases h4:200 < Ji f
     ·rw [decide_eq_true h4,if_pos h4];rfl
     ·rw [decide_eq_false h4,if_neg h4];rfl
    ·rw [if_neg h3]
     simp only [Lx,Ys h3]
 ·simp only [Zn h0,cond_true,Ys h0]
theorem A0c(rec:List Ac→Option Int)(L:Nat)(a:List Ac)(c:Int):∀(k:List Ab) (i:Nat) (v:Int),(∀y∈k,∃n,Gi L y=some n)→∃w j,P2 rec L a c k i v=some (0,(w,j)):=by
 intro k
 induction k with
 |nil=>intro i v _;exact ⟨v,i,rfl⟩
 |cons x k ih=>
  intro i v h
  obtain ⟨n,hn⟩:=h x (by simp)
  rw [P2,hn,Option.bind_some]
  exact ih (i+1) _ fun y hy=>h y (by simp [hy])
theorem A0b(rec:List Ac→Option Int)(L:Nat)(a:List Ac)(ha:a.length≤maxLen):∀(k:List Ac) (i:Nat) (v:Int),a.drop i=k→(∀x∈k,SB L x∧(∃n,rec x.Body=some n)∧∃n,rec x.Else=some n)→∃w j,P1 rec L a k i v=some (0,(w,j)):=by
 intro k
 induction k with
 |nil=>intro i v _ _;exact ⟨v,i,rfl⟩
 |cons x k ih=>
  intro i v hk h
  obtain ⟨hi,hx,hk'⟩:=N4 hk
  obtain ⟨hs,⟨b,hb⟩,c,hc⟩:=h x (by simp)
  obtain ⟨d1,d2,d3,d4⟩:=hs.de
  have hM:=B4
  have hlt:=hs.lt
  obtain ⟨w,j,hq⟩:=A0c rec L a (i:Int) x.Args 0 (Dp ((Dp ((Dp ((Dp ((Dp ((Dp ((Dp (v+1))+Y2 x.E))+Y2 x.F))+(x.Dist.Values.length:Int)))+(x.Dist.Weights.length:Int)))+b))+c)) fun y hy=>⟨_,Agl (hs.args y hy) L (d3 y hy)⟩
  rw [P1,Agl hs.e L d1,Option.bind_some,Agl hs.f L d2,Option.bind_some,hb,Option.bind_some,hc,Option.bind_some,At5 rec L a (i:Int) L (by rw [toN,hx];omega) (by rw [toN,hx];omega),toN,hx,hq,Option.bind_some,Lx]
  exact ih (i+1) w hk' fun y hy=>h y (by simp [hy])
theorem A24{l:List Ac}(hl:∀y∈l,Cs y):∀L,Fu L l→∃n,Px L l=some n:=by
 refine Ajh (M:=fun l=>∀L,Fu L l→∃n,Px L l=some n) ?_ hl
 intro l ih L hF
 obtain ⟨L,rfl⟩:=hF.pos
 obtain ⟨n1,n2,n3⟩:=hF.len
 obtain ⟨w,j,hj⟩:=A0b (Px L) L l n1 l 0 0 rfl fun x hx=>⟨hF.sb hx (ih x hx).1,(ih x hx).2.1 L (hF.kid hx).1,(ih x hx).2.2 L (hF.kid hx).2⟩
 exact ⟨w,by simp only [As4,Wg,Akx,Px,Wg,aN,aB,At4 _ L l L n1 n2,hj,Option.bind_some,Lx]⟩
theorem A0a(L:Nat)(i:Nat)(m:Ad)(hi:i < m.Sites.length)(hc:∀x∈(m.Sites.getD i default).Routines,∃n,Px L x.Body=some n)(hl:(m.Sites.getD i default).Routines.length≤maxLen):∀(n j:Nat) (v:Int),j≤(m.Sites.getD i default).Routines.length→(m.Sites.getD i default).Routines.length - j < n→
  ∃w t,Mq L (i:Int) m n v (j:Int)=some (0,(w,t)):=by
 intro n
 induction n with
 |zero=>intro j v _ h;omega
 |succ n ih=>
  intro j v hj h
  by_cases hlt:j < (m.Sites.getD i default).Routines.length
  ·obtain ⟨c,hx⟩:=hc ((m.Sites.getD i default).Routines.getD j default) (by rw [Hm _ j hlt];exact List.getElem_mem hlt)
   simp only [Mq,v6,aN,aB,nn,Ru hi,if_true,toN,He hlt,cond_true,Ru hlt,hx,Option.bind_some,Bh hlt hl]
   exact ih (j+1) _ hlt (by omega)
  ·exact ⟨v,j,by simp only [Mq,v6,aN,aB,nn,Ru hi,if_true,toN,Hd (show (m.Sites.getD i default).Routines.length≤j by omega),cond_false]⟩
theorem Az9(L:Nat){m:Ad}(h:MG m)(hL:Xd≤L):∀(k:List Aa) (i:Nat) (v:Int),m.Sites.drop i=k→∃w j,P0 L m k i v=some (0,(w,j)):=by
 have hl:=Yl hL
 intro k
 induction k with
 |nil=>intro i v _;exact ⟨v,i,rfl⟩
 |cons x k ih=>
  intro i v hk
  obtain ⟨hi,hx,hk'⟩:=N4 hk
  have hm:x∈m.Sites:=by rw [←hx,Hm _ i hi];exact List.getElem_mem hi
  have hsg:=h.site x hm
  have hlen:=hsg.ln.2.2.2.2.2.2.2.2.2
  obtain ⟨w,t,hw⟩:=A0a L i m hi (by
   rw [hx]
   intro r hr
   have hro:=hsg.routs r hr
   exact A24 (show∀y∈r.Body,Cs y from hro.2.2.2.2) L (Azq hL (An5 (hsg.bkR r hr)).2.2)) (by rw [hx];exact hlen) L 0 v (Nat.zero_le _) (by rw [hx];omega)
  have hw:Mq L (i:Int) m L v 0=_:=hw
  rw [P0,hw,Option.bind_some,Lx]
  exact ih (i+1) w hk'
theorem A23(L:Nat){m:Ad}(h:MG m)(hL:Xd≤L):∃n,Afr L m=some n:=by
 obtain ⟨w,j,hj⟩:=Az9 L h hL m.Sites 0 (Dp ((m.Params.length:Int)+(m.Links.length:Int))) rfl
 exact ⟨w,by simp only [As3,We,Afr,We,aN,aB,At3 L m L h.sites (Nat.lt_of_le_of_lt h.sites (Yl hL)),hj,Option.bind_some,Lx]⟩
end Go.Proofs.YtfencmicmnhglaaGreat.Ev
