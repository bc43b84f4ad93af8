/-  Numbers: one digit of a long division. -/
import Derived.Test.YtckmlfboedljeaaDoorPa
import Derived.Test.YtckmlfboedljeaaDoorG1
namespace Go.Proofs.YtckmlfboedljeaaDoor.Ev
set_option linter.unusedVariables false
set_option linter.unusedSimpArgs false
theorem Am9{u y1 y0 d q r:Nat}(h:q*y1+r=u):q*(y1*4294967296+y0)≤u*4294967296+d↔q*y0≤4294967296*r+d:=by
 subst h
 rw [Nat.mul_add,Nat.add_mul,←Nat.mul_assoc]
 omega
structure Dg (u y1 y0 d q r:Nat):Prop where
 eq:q*y1+r=u
 hi:q≤4294967297
 ge:(u*4294967296+d)/(y1*4294967296+y0)≤q
theorem Ai7{u y1 y0 d:Nat}(h1:2147483648≤y1)(h1':y1 < 4294967296)(h0:y0 < 4294967296)(hd:d < 4294967296)(hu:u < y1*4294967296+y0):Dg u y1 y0 d (u/y1) (u % y1):=by
 have hp:0 < y1:=by omega
 refine ⟨by rw [Nat.mul_comm];exact Nat.div_add_mod u y1,?_,?_⟩
 ·have:u/y1 < 4294967298:=by
   rw [Nat.div_lt_iff_lt_mul hp]
   omega
  omega
 ·rw [Nat.le_div_iff_mul_le hp]
  have h2:(u*4294967296+d)/(y1*4294967296+y0)*(y1*4294967296+y0)≤u*4294967296+d:=Nat.div_mul_le_self _ _
  generalize (u*4294967296+d)/(y1*4294967296+y0)=Q at h2
  rw [Nat.mul_add,←Nat.mul_assoc] at h2
  omega
theorem Am8{u y1 y0 d:Nat}(hd:d < 4294967296)(hu:u < y1*4294967296+y0):(u*4294967296+d)/(y1*4294967296+y0) < 4294967296:=by
 rw [Nat.div_lt_iff_lt_mul (by omega)]
 omega
theorem Ana{u y1 y0 d q r:Nat}(h:Dg u y1 y0 d q r)(hp:0 < y1*4294967296+y0)(hc:q*y0≤4294967296*r+d):q=(u*4294967296+d)/(y1*4294967296+y0):=by
 have h1:=(Am9 (y0:=y0) (d:=d) h.eq).2 hc
 exact Nat.le_antisymm ((Nat.le_div_iff_mul_le hp).2 h1) h.ge
theorem Anb{u y1 y0 d q r:Nat}(h:Dg u y1 y0 d q r)(hd:d < 4294967296)(hu:u < y1*4294967296+y0)(hc:4294967296≤q∨4294967296*r+d < q*y0):1≤q∧Dg u y1 y0 d (q - 1) (r+y1)∧q - 1≤4294967296:=by
 have hQ:=Am8 (y1:=y1) (y0:=y0) hd hu
 have hlt:(u*4294967296+d)/(y1*4294967296+y0) < q:=by
  rcases hc with hc|hc
  ·exact Nat.lt_of_lt_of_le hQ hc
  ·rw [Nat.div_lt_iff_lt_mul (by omega)]
   have:=(Am9 (y0:=y0) (d:=d) h.eq)
   omega
 have hhi:=h.hi
 have e:=h.eq
 have hge:(u*4294967296+d)/(y1*4294967296+y0)≤q - 1:=by
  generalize (u*4294967296+d)/(y1*4294967296+y0)=Q at hlt
  omega
 have hq1:1≤q:=by
  generalize (u*4294967296+d)/(y1*4294967296+y0)=Q at hlt
  omega
 refine ⟨hq1,⟨?_,by omega,hge⟩,by omega⟩
 obtain ⟨p,rfl⟩:∃p,q=p+1:=⟨q - 1,by omega⟩
 rw [Nat.add_mul,Nat.one_mul] at e
 rw [Nat.add_sub_cancel]
 omega
theorem Am6{u y1 y0 d q r:Nat}(h:Dg u y1 y0 d q r)(hp:0 < y1*4294967296+y0)(h0:y0 < 4294967296)(hq:q≤4294967296)(hr:4294967296≤r):q=(u*4294967296+d)/(y1*4294967296+y0):=by
 refine Ana h hp ?_
 have h1:q*y0≤4294967296*4294967295:=Nat.mul_le_mul hq (by omega)
 omega
theorem Am7{u y1 y0 d q r:Nat}(h:Dg u y1 y0 d q r)(h0:y0 < 4294967296)(hd:d < 4294967296)(hr:r < 4294967296):q*y0 < 18446744073709551616∧4294967296*r+d < 18446744073709551616:=by
 have h1:q*y0≤4294967297*4294967295:=Nat.mul_le_mul h.hi (by omega)
 omega
theorem Ai8{u y d q:Nat}(hp:0 < y)(hq:q=(u*4294967296+d)/y):q*y≤u*4294967296+d∧u*4294967296+d - q*y < y∧u*4294967296+d - q*y=(u*4294967296+d) % y:=by
 subst hq
 have h1:=Nat.div_mul_le_self (u*4294967296+d) y
 have h2:=Nat.mod_lt (u*4294967296+d) hp
 have h3:=Nat.div_add_mod (u*4294967296+d) y
 rw [Nat.mul_comm] at h3
 omega
theorem Aiy{u d1 d0 y q1 q0:Nat}(hp:0 < y)(h1:q1=(u*4294967296+d1)/y)(h0:q0=((u*4294967296+d1) % y*4294967296+d0)/y):
  q1*4294967296+q0=((u*4294967296+d1)*4294967296+d0)/y∧((u*4294967296+d1) % y*4294967296+d0) % y=((u*4294967296+d1)*4294967296+d0) % y:=by
 have e:(u*4294967296+d1)*4294967296+d0=((u*4294967296+d1) % y*4294967296+d0)+y*(q1*4294967296):=by
  have:=Nat.div_add_mod (u*4294967296+d1) y
  rw [←h1] at this
  generalize (u*4294967296+d1) % y=m at*
  rw [←this,Nat.add_mul,Nat.mul_assoc]
  omega
 rw [e,Nat.add_mul_div_left _ _ hp,Nat.add_mul_mod_self_left,←h0]
 exact ⟨Nat.add_comm _ _,rfl⟩
theorem Atl{n y s:Nat}(hp:0 < y):n*2 ^ s/(y*2 ^ s)=n/y∧n*2 ^ s % (y*2 ^ s)/2 ^ s=n % y:=by
 have h2:0 < 2 ^ s:=Nat.two_pow_pos s
 refine ⟨Nat.mul_div_mul_right _ _ h2,?_⟩
 rw [Nat.mul_mod_mul_right,Nat.mul_div_cancel _ h2]
end Go.Proofs.YtckmlfboedljeaaDoor.Ev
namespace Go.Proofs.YtckmlfboedljeaaDoor.Ev
open Go An
set_option maxRecDepth 100000
set_option linter.unusedVariables false
set_option linter.unusedSimpArgs false
set_option linter.unnecessarySimpa false
theorem Qq(a b:Nat):Int.fdiv (a:Int) (b:Int)=((a/b:Nat):Int):=by
 rw [Int.fdiv_eq_ediv_of_nonneg _ (by omega)];rfl
theorem Tc(a:Nat):Int.fdiv (a:Int) (2 ^ 32)=((a/4294967296:Nat):Int):=Qq a 4294967296
theorem Yc(a b:Nat):Int.tdiv (a:Int) (b:Int)=((a/b:Nat):Int):=rfl
theorem Sk(a b:Nat):Int.tmod (a:Int) (b:Int)=((a % b:Nat):Int):=rfl
theorem Ye(a:Nat):IntKind.wrap .u64 (a:Int)=((a % 18446744073709551616:Nat):Int):=by
 rw [IntKind.wrap_u64];omega
theorem Bk{a:Nat}(h:a < 18446744073709551616):IntKind.wrap .u64 (a:Int)=(a:Int):=by
 rw [Ye,Nat.mod_eq_of_lt h]
theorem Aaw(a:Nat):(((BitVec.ofInt 64 (a:Int) &&& BitVec.ofInt 64 4294967295).toNat:Nat):Int)=((a % 4294967296:Nat):Int):=by
 have e:(BitVec.ofInt 64 (4294967295:Int)).toNat=4294967295:=rfl
 rw [BitVec.toNat_and,e]
 have e2:(BitVec.ofInt 64 (a:Int)).toNat=a % 18446744073709551616:=by
  rw [BitVec.toNat_ofInt];omega
 rw [e2,show (4294967295:Nat)=2 ^ 32 - 1 from rfl,Nat.and_two_pow_sub_one_eq_mod]
 congr 1
 omega
theorem Awv{a b s:Nat}(ha:a % 2 ^ s=0)(hb:b < 2 ^ s)(h1:a < 18446744073709551616)(h2:b < 18446744073709551616):
  (((BitVec.ofInt 64 (a:Int) ||| BitVec.ofInt 64 (b:Int)).toNat:Nat):Int)=((a+b:Nat):Int):=by
 have e:∀n:Nat,n < 18446744073709551616→(BitVec.ofInt 64 (n:Int)).toNat=n:=fun n hn=>by
  rw [BitVec.toNat_ofInt];omega
 rw [BitVec.toNat_or,e a h1,e b h2]
 congr 1
 have h3:a=(a/2 ^ s) <<< s:=by
  rw [Nat.shiftLeft_eq,Nat.div_mul_cancel (Nat.dvd_of_mod_eq_zero ha)]
 rw [h3,←Nat.shiftLeft_add_eq_or_of_lt hb]
theorem Awm(a1 a0 b1 b0:Nat):(a1*4294967296+a0)*(b1*4294967296+b0)=(a1*b1)*18446744073709551616+(a1*b0+a0*b1)*4294967296+a0*b0:=by
 rw [Nat.add_mul,Nat.mul_add,Nat.mul_add]
 have e1:a1*4294967296*(b1*4294967296)=a1*b1*18446744073709551616:=by rw [Nat.mul_mul_mul_comm]
 have e2:a1*4294967296*b0=a1*b0*4294967296:=by rw [Nat.mul_right_comm]
 have e3:a0*(b1*4294967296)=a0*b1*4294967296:=by rw [Nat.mul_assoc]
 rw [e1,e2,e3]
 omega
theorem Xu{a b:Nat}(ha:a < 4294967296)(hb:b < 4294967296):a*b≤18446744065119617025:=by
 have:=Nat.mul_le_mul (show a≤4294967295 by omega) (show b≤4294967295 by omega)
 simpa using this
theorem Axq(x y:Nat)(h:y < 4294967296):(x*4294967296+y)/4294967296=x∧(x*4294967296+y) % 4294967296=y:=by omega
theorem Xx(L a b:Nat)(ha:a < 18446744073709551616)(hb:b < 18446744073709551616):Gj L a b=some (((a*b/18446744073709551616:Nat):Int),((a*b % 18446744073709551616:Nat):Int)):=by
 obtain ⟨a1,a0,rfl,h1,h0⟩:∃a1 a0,a=a1*4294967296+a0∧a1 < 4294967296∧a0 < 4294967296:=⟨a/4294967296,a % 4294967296,by omega,by omega,by omega⟩
 obtain ⟨b1,b0,rfl,g1,g0⟩:∃b1 b0,b=b1*4294967296+b0∧b1 < 4294967296∧b0 < 4294967296:=⟨b/4294967296,b % 4294967296,by omega,by omega,by omega⟩
 obtain ⟨q1,q3⟩:=Axq a1 a0 h0
 obtain ⟨q2,q4⟩:=Axq b1 b0 g0
 have q5:a0 % 18446744073709551616=a0:=Nat.mod_eq_of_lt (by omega)
 have q6:b0 % 18446744073709551616=b0:=Nat.mod_eq_of_lt (by omega)
 have m11:=Xu h1 g1
 have m10:=Xu h1 g0
 have m01:=Xu h0 g1
 have m00:=Xu h0 g0
 have hp:=Awm a1 a0 b1 b0
 have hlt:(a1*4294967296+a0)*(b1*4294967296+b0) < 340282366920938463463374607431768211456:=by
  have:=Nat.mul_lt_mul_of_lt_of_lt ha hb
  exact Nat.lt_of_lt_of_eq this (by decide)
 unfold Gj
 simp only [Sv,Gj,aN,aB,Tc,Aaw,q1,q2,q3,q4]
 simp only [←Int.natCast_mul,←Int.natCast_add,Ye,Aaw,Tc,q5,q6]
 rw [hp] at hlt ⊢
 clear hp
 generalize a1*b1=p11 at*
 generalize a1*b0=p10 at*
 generalize a0*b1=p01 at*
 generalize a0*b0=p00 at*
 congr 2<;>(congr 1;omega)
end Go.Proofs.YtckmlfboedljeaaDoor.Ev
namespace Go.Proofs.YtckmlfboedljeaaDoor.Ev
open Go An
set_option maxRecDepth 100000
set_option linter.unusedVariables false
set_option linter.unusedSimpArgs false
set_option linter.unnecessarySimpa false
def Aoz:ByteArray:=(⟨#[0,1,2,2,3,3,3,3,4,4,4,4,4,4,4,4,5,5,5,5,5,5,5,5,5,5,5,5,5,5,5,5,6,6,6,6,6,6,6,6,6,6,6,6,6,6,6,6,6,6,6,6,6,6,6,6,6,6,6,6,6,6,6,6,7,7,7,7,7,7,7,7,7,7,7,7,7,7,7,7,7,7,7,7,7,7,7,7,7,7,7,7,7,7,7,7,7,7,7,7,7,7,7,7,7,7,7,7,7,7,7,7,7,7,7,7,7,7,7,7,7,7,7,7,7,7,7,7,8,8,8,8,8,8,8,8,8,8,8,8,8,8,8,8,8,8,8,8,8,8,8,8,8,8,8,8,8,8,8,8,8,8,8,8,8,8,8,8,8,8,8,8,8,8,8,8,8,8,8,8,8,8,8,8,8,8,8,8,8,8,8,8,8,8,8,8,8,8,8,8,8,8,8,8,8,8,8,8,8,8,8,8,8,8,8,8,8,8,8,8,8,8,8,8,8,8,8,8,8,8,8,8,8,8,8,8,8,8,8,8,8,8,8,8,8,8,8,8,8,8,8,8,8,8,8,8]⟩:ByteArray)
theorem Asm:∀x:Fin 256,1≤x.val→((if 0≤(IntKind.wrap .u8 (x.val:Int)) then Aoz[Int.toNat (IntKind.wrap .u8 (x.val:Int))]? else none).isSome)=true∧
  ∃m:Fin 9,k6 (if 0≤(IntKind.wrap .u8 (x.val:Int)) then Aoz[Int.toNat (IntKind.wrap .u8 (x.val:Int))]? else none)=(m.val:Int)∧x.val < 2 ^ m.val∧2 ^ m.val≤2*x.val:=by decide+kernel
theorem Aj0(L x n:Nat)(h:x < 256)(h1:1≤x)(hn:n≤56):∃m,(I4 L (x:Int) (n:Int):Option Int)=some ((n+m:Nat):Int)∧x < 2 ^ m∧2 ^ m≤2*x∧m≤8:=by
 obtain ⟨q1,m,q2,q3,q4⟩:=Asm ⟨x,h⟩ h1
 refine ⟨m.val,?_,q3,q4,by omega⟩
 simp only [I4,aN,aB]
 unfold Aoz at q1 q2
 have hm:=m.isLt
 dsimp only at q1 q2
 rw [q1,q2]
 generalize m.val=k at hm
 rw [cond_true,Zm (n:=(k:Int)) (by omega) (by omega),Zm (by omega) (by omega)]
 rfl
theorem Ajz(L x n:Nat)(h:x < 65536)(h1:1≤x)(hn:n≤48):∃m,(K5 L (x:Int) (n:Int):Option Int)=some ((n+m:Nat):Int)∧x < 2 ^ m∧2 ^ m≤2*x∧m≤16:=by
 simp only [K5,sx_bits_Len64_2,aN,aB]
 by_cases hc:256≤x
 ·rw [show decide ((x:Int)≥256)=true from decide_eq_true (by omega),cond_true,show Int.fdiv (x:Int) (2 ^ 8)=((x/256:Nat):Int) from Qq x 256,show B1 ((n:Int)+8)=((n+8:Nat):Int) from by rw [Zm (by omega) (by omega)];rfl]
  obtain ⟨m,e,q1,q2,q3⟩:=Aj0 L (x/256) (n+8) (by omega) (by omega) (by omega)
  refine ⟨m+8,by rw [e];congr 2;omega,?_,?_,by omega⟩
  ·rw [Nat.pow_add];omega
  ·rw [Nat.pow_add];omega
 ·rw [show decide ((x:Int)≥256)=false from decide_eq_false (by omega),cond_false]
  obtain ⟨m,e,q1,q2,q3⟩:=Aj0 L x n (by omega) h1 (by omega)
  exact ⟨m,e,q1,q2,by omega⟩
theorem Ajy(L x n:Nat)(h:x < 4294967296)(h1:1≤x)(hn:n≤32):∃m,(K4 L (x:Int) (n:Int):Option Int)=some ((n+m:Nat):Int)∧x < 2 ^ m∧2 ^ m≤2*x∧m≤32:=by
 simp only [K4,sx_bits_Len64_1,aN,aB]
 by_cases hc:65536≤x
 ·rw [show decide ((x:Int)≥65536)=true from decide_eq_true (by omega),cond_true,show Int.fdiv (x:Int) (2 ^ 16)=((x/65536:Nat):Int) from Qq x 65536,show B1 ((n:Int)+16)=((n+16:Nat):Int) from by rw [Zm (by omega) (by omega)];rfl]
  obtain ⟨m,e,q1,q2,q3⟩:=Ajz L (x/65536) (n+16) (by omega) (by omega) (by omega)
  refine ⟨m+16,by rw [e];congr 2;omega,?_,?_,by omega⟩
  ·rw [Nat.pow_add];omega
  ·rw [Nat.pow_add];omega
 ·rw [show decide ((x:Int)≥65536)=false from decide_eq_false (by omega),cond_false]
  obtain ⟨m,e,q1,q2,q3⟩:=Ajz L x n (by omega) h1 (by omega)
  exact ⟨m,e,q1,q2,by omega⟩
theorem Apb(L x:Nat)(h:x < 18446744073709551616)(h1:1≤x):∃m:Nat,Pp L (x:Int)=some (m:Int)∧x < 2 ^ m∧2 ^ m≤2*x∧m≤64:=by
 unfold Pp
 simp only [W5,sx_bits_Len64_0,aN,aB]
 by_cases hc:4294967296≤x
 ·rw [show decide ((x:Int)≥4294967296)=true from decide_eq_true (by omega),cond_true,show Int.fdiv (x:Int) (2 ^ 32)=((x/4294967296:Nat):Int) from Qq x 4294967296]
  obtain ⟨m,e,q1,q2,q3⟩:=Ajy L (x/4294967296) 32 (by omega) (by omega) (by omega)
  refine ⟨32+m,e,?_,?_,by omega⟩
  ·rw [Nat.pow_add];omega
  ·rw [Nat.pow_add];omega
 ·rw [show decide ((x:Int)≥4294967296)=false from decide_eq_false (by omega),cond_false]
  obtain ⟨m,e,q1,q2,q3⟩:=Ajy L x 0 (by omega) h1 (by omega)
  rw [Nat.zero_add] at e
  exact ⟨m,e,q1,q2,by omega⟩
theorem Ax9(L x:Nat)(h:x < 18446744073709551616)(h1:1≤x):∃s:Nat,F1 L (x:Int)=some (s:Int)∧x*2 ^ s < 18446744073709551616∧9223372036854775808≤x*2 ^ s∧s≤63:=by
 obtain ⟨m,e,q1,q2,q3⟩:=Apb L x h h1
 have hm:1≤m:=by
  rcases Nat.eq_zero_or_pos m with e0|e0
  ·subst e0;simp at q1;omega
  ·exact e0
 refine ⟨64 - m,?_,?_,?_,by omega⟩
 ·unfold F1
  simp only [Jb,aN,aB,e,Option.bind_some]
  rw [Zm (by omega) (by omega)]
  congr 1
  omega
 ·have:x*2 ^ (64 - m) < 2 ^ m*2 ^ (64 - m):=Nat.mul_lt_mul_of_pos_right q1 (Nat.two_pow_pos _)
  rw [←Nat.pow_add,show m+(64 - m)=64 by omega] at this
  exact this
 ·have:2 ^ m*2 ^ (64 - m)≤2*x*2 ^ (64 - m):=Nat.mul_le_mul_right _ q2
  rw [←Nat.pow_add,show m+(64 - m)=64 by omega,Nat.mul_assoc] at this
  have e2:(2:Nat) ^ 64=18446744073709551616:=rfl
  omega
end Go.Proofs.YtckmlfboedljeaaDoor.Ev
namespace Go.Proofs.YtckmlfboedljeaaDoor.Ev
open Go An
set_option maxRecDepth 100000
set_option linter.unusedVariables false
set_option linter.unusedSimpArgs false
set_option linter.unnecessarySimpa false
theorem Asz(L:Nat){a2 r1 a0 a1:Int}{y l u y1 y0 d:Nat}(hEY:IntKind.wrap .u64 (a2*2 ^ (min (Int.toNat (IntKind.wrap .u64 (r1))) 64))=(y:Int))(hEL:IntKind.wrap .u64 (a1*2 ^ (min (Int.toNat (IntKind.wrap .u64 (r1))) 64))=(l:Int))
  (hy:y=y1*4294967296+y0) (hy1:2147483648≤y1) (hy1':y1 < 4294967296) (h0:y0 < 4294967296) (hd:d < 4294967296) (hl:l/4294967296=d) (hu:u < y1*4294967296+y0):
  ∀(n q r:Nat),Dg u y1 y0 d q r→r < 4294967296→4294967296≤r+n*2147483648→∃r':Nat,Iy L a2 r1 a0 a1 n (q:Int) (r:Int)=some (0,(((u*4294967296+d)/(y1*4294967296+y0):Nat):Int),(r':Int)):=by
 intro n
 induction n with
 |zero=>intro q r _ hr hn;omega
 |succ n ih=>
  intro q r h hr hn
  have hf:=Am7 h h0 hd hr
  have hq:=h.hi
  have em:y % 4294967296=y0:=by omega
  have ed:y/4294967296=y1:=by omega
  have e1:IntKind.wrap .u64 ((q:Int)*(IntKind.wrap .u64 (((BitVec.ofInt 64 (y:Int) &&& BitVec.ofInt 64 4294967295).toNat:Int))))=((q*y0:Nat):Int):=by
   rw [Aaw,em,Bk (by omega),←Int.natCast_mul,Bk hf.1]
  have e2:IntKind.wrap .u64 ((IntKind.wrap .u64 (4294967296*(r:Int)))+(Int.fdiv (l:Int) (2 ^ 32)))=((4294967296*r+d:Nat):Int):=by
   rw [Tc,hl,show (4294967296:Int)*(r:Int)=((4294967296*r:Nat):Int) by omega,Bk (by omega),←Int.natCast_add,Bk hf.2]
  have e3:IntKind.wrap .u64 ((r:Int)+(Int.fdiv (y:Int) (2 ^ 32)))=((r+y1:Nat):Int):=by
   rw [Tc,ed,←Int.natCast_add,Bk (by omega)]
  rw [Iy]
  simp only [Ph,aN,aB,hEY,hEL,e1,e2,e3]
  by_cases hc:4294967296≤q∨4294967296*r+d < q*y0
  ·have ht:(bif decide ((q:Int)≥4294967296) then true else decide (((q*y0:Nat):Int) > ((4294967296*r+d:Nat):Int)))=true:=by
    rcases hc with hc|hc
    ·rw [decide_eq_true (by omega)];rfl
    ·rw [decide_eq_true (p:=((q*y0:Nat):Int) > ((4294967296*r+d:Nat):Int)) (by omega)];cases decide ((q:Int)≥4294967296)<;>rfl
   obtain ⟨k1,k2,k3⟩:=Anb h hd hu hc
   have e4:IntKind.wrap .u64 ((q:Int) - 1)=((q - 1:Nat):Int):=by
    rw [show (q:Int) - 1=((q - 1:Nat):Int) by omega,Bk (by omega)]
   rw [ht,cond_true,e4]
   by_cases hb:4294967296≤r+y1
   ·rw [decide_eq_true (by omega),cond_true]
    exact ⟨r+y1,by rw [Am6 k2 (by omega) h0 k3 hb]⟩
   ·rw [decide_eq_false (by omega),cond_false]
    exact ih (q - 1) (r+y1) k2 (by omega) (by omega)
  ·have ht:(bif decide ((q:Int)≥4294967296) then true else decide (((q*y0:Nat):Int) > ((4294967296*r+d:Nat):Int)))=false:=by
    rw [decide_eq_false (by omega),cond_false,decide_eq_false (by omega)]
   rw [ht,cond_false]
   exact ⟨r,by rw [Ana h (by omega) (by omega)]⟩
theorem As0(L:Nat){a2 r1 a0 a1:Int}{o3:Nat×Gq}{y l u y1 y0 d:Nat}(hEY:IntKind.wrap .u64 (a2*2 ^ (min (Int.toNat (IntKind.wrap .u64 (r1))) 64))=(y:Int))(hEL:IntKind.wrap .u64 (a1*2 ^ (min (Int.toNat (IntKind.wrap .u64 (r1))) 64))=(l:Int))
  (hy:y=y1*4294967296+y0) (hy1:2147483648≤y1) (hy1':y1 < 4294967296) (h0:y0 < 4294967296) (hd:d < 4294967296) (hl:l % 4294967296=d) (hu:u < y1*4294967296+y0):
  ∀(n q r:Nat),Dg u y1 y0 d q r→r < 4294967296→4294967296≤r+n*2147483648→∃r':Nat,Iz L a2 r1 a1 o3 a0 n (r:Int) (q:Int)=some (0,(r':Int),(((u*4294967296+d)/(y1*4294967296+y0):Nat):Int)):=by
 intro n
 induction n with
 |zero=>intro q r _ hr hn;omega
 |succ n ih=>
  intro q r h hr hn
  have hf:=Am7 h h0 hd hr
  have hq:=h.hi
  have em:y % 4294967296=y0:=by omega
  have ed:y/4294967296=y1:=by omega
  have e1:IntKind.wrap .u64 ((q:Int)*(IntKind.wrap .u64 (((BitVec.ofInt 64 (y:Int) &&& BitVec.ofInt 64 4294967295).toNat:Int))))=((q*y0:Nat):Int):=by
   rw [Aaw,em,Bk (by omega),←Int.natCast_mul,Bk hf.1]
  have e2:IntKind.wrap .u64 ((IntKind.wrap .u64 (4294967296*(r:Int)))+(IntKind.wrap .u64 (((BitVec.ofInt 64 (l:Int) &&& BitVec.ofInt 64 4294967295).toNat:Int))))=((4294967296*r+d:Nat):Int):=by
   rw [Aaw,hl,Bk (by omega),show (4294967296:Int)*(r:Int)=((4294967296*r:Nat):Int) by omega,Bk (by omega),←Int.natCast_add,Bk hf.2]
  have e3:IntKind.wrap .u64 ((r:Int)+(Int.fdiv (y:Int) (2 ^ 32)))=((r+y1:Nat):Int):=by
   rw [Tc,ed,←Int.natCast_add,Bk (by omega)]
  rw [Iz]
  simp only [Pi,aN,aB,hEY,hEL,e1,e2,e3]
  by_cases hc:4294967296≤q∨4294967296*r+d < q*y0
  ·have ht:(bif decide ((q:Int)≥4294967296) then true else decide (((q*y0:Nat):Int) > ((4294967296*r+d:Nat):Int)))=true:=by
    rcases hc with hc|hc
    ·rw [decide_eq_true (by omega)];rfl
    ·rw [decide_eq_true (p:=((q*y0:Nat):Int) > ((4294967296*r+d:Nat):Int)) (by omega)];cases decide ((q:Int)≥4294967296)<;>rfl
   obtain ⟨k1,k2,k3⟩:=Anb h hd hu hc
   have e4:IntKind.wrap .u64 ((q:Int) - 1)=((q - 1:Nat):Int):=by
    rw [show (q:Int) - 1=((q - 1:Nat):Int) by omega,Bk (by omega)]
   rw [ht,cond_true,e4]
   by_cases hb:4294967296≤r+y1
   ·rw [decide_eq_true (by omega),cond_true]
    exact ⟨r+y1,by rw [Am6 k2 (by omega) h0 k3 hb]⟩
   ·rw [decide_eq_false (by omega),cond_false]
    exact ih (q - 1) (r+y1) k2 (by omega) (by omega)
  ·have ht:(bif decide ((q:Int)≥4294967296) then true else decide (((q*y0:Nat):Int) > ((4294967296*r+d:Nat):Int)))=false:=by
    rw [decide_eq_false (by omega),cond_false,decide_eq_false (by omega)]
   rw [ht,cond_false]
   exact ⟨r,by rw [Ana h (by omega) (by omega)]⟩
end Go.Proofs.YtckmlfboedljeaaDoor.Ev
namespace Go.Proofs.YtckmlfboedljeaaDoor.Ev
open Go An
set_option maxRecDepth 100000
set_option linter.unusedVariables false
set_option linter.unusedSimpArgs false
set_option linter.unnecessarySimpa false
theorem Aq2{y s:Nat}(hs:s≤63)(h:y*2 ^ s < 18446744073709551616):IntKind.wrap .u64 ((y:Int)*2 ^ (min (Int.toNat (IntKind.wrap .u64 (s:Int))) 64))=((y*2 ^ s:Nat):Int):=by
 rw [Bk (by omega),Int.toNat_natCast,Nat.min_eq_left (by omega),show ((y:Int)*2 ^ s)=((y*2 ^ s:Nat):Int) by simp,Bk h]
theorem Atm{y s:Nat}(hs:s≤63):IntKind.wrap .u64 ((y:Int)*2 ^ (min (Int.toNat (IntKind.wrap .u64 (s:Int))) 64))=((y*2 ^ s % 18446744073709551616:Nat):Int):=by
 rw [Bk (by omega),Int.toNat_natCast,Nat.min_eq_left (by omega),show ((y:Int)*2 ^ s)=((y*2 ^ s:Nat):Int) by simp,Ye]
theorem Zd{s:Nat}(hs:s≤63):(18446744073709551616:Nat)=2 ^ (64 - s)*2 ^ s:=by
 rw [←Nat.pow_add,show 64 - s+s=64 by omega]
theorem Aq6{lo s:Nat}(hs:s≤63)(h:lo < 18446744073709551616):lo/2 ^ (64 - s) < 2 ^ s:=by
 rw [Nat.div_lt_iff_lt_mul (Nat.two_pow_pos _),Nat.mul_comm,←Zd hs];exact h
theorem Aq1{lo s:Nat}(hs:s≤63):lo*2 ^ s=lo/2 ^ (64 - s)*18446744073709551616+lo*2 ^ s % 18446744073709551616:=by
 have h1:lo*2 ^ s/18446744073709551616=lo/2 ^ (64 - s):=by
  rw [Zd hs];exact Nat.mul_div_mul_right _ _ (Nat.two_pow_pos _)
 have:=Nat.div_add_mod (lo*2 ^ s) 18446744073709551616
 rw [h1,Nat.mul_comm] at this
 omega
theorem Ayd{hi lo s:Nat}(hs:s≤63)(h1:hi*2 ^ s < 18446744073709551616)(h2:lo < 18446744073709551616):
  IntKind.wrap .u64 (((BitVec.ofInt 64 (IntKind.wrap .u64 ((hi:Int)*2 ^ (min (Int.toNat (IntKind.wrap .u64 (s:Int))) 64))) ||| BitVec.ofInt 64 (Int.fdiv (lo:Int) (2 ^ (min (Int.toNat (IntKind.wrap .u64 (64 - (IntKind.wrap .u64 (s:Int))))) 64)))).toNat:Int))=((hi*2 ^ s+lo/2 ^ (64 - s):Nat):Int):=by
 have e1:Int.fdiv (lo:Int) (2 ^ (min (Int.toNat (IntKind.wrap .u64 (64 - (IntKind.wrap .u64 (s:Int))))) 64))=((lo/2 ^ (64 - s):Nat):Int):=by
  rw [Bk (a:=s) (by omega),show (64:Int) - (s:Int)=((64 - s:Nat):Int) by omega,Bk (by omega),Int.toNat_natCast,Nat.min_eq_left (by omega),show ((2:Int) ^ (64 - s))=((2 ^ (64 - s):Nat):Int) by simp,Qq]
 have hb:=Aq6 hs h2
 have hp:2 ^ s≤9223372036854775808:=Nat.pow_le_pow_right (n:=2) (by omega) hs
 have hor:=Awv (a:=hi*2 ^ s) (b:=lo/2 ^ (64 - s)) (s:=s) (Nat.mul_mod_left _ _) hb h1 (by omega)
 rw [Aq2 hs h1,e1,hor,Bk]
 have h3:hi*2 ^ s+2 ^ s≤18446744073709551616:=by
  have e:(18446744073709551616:Nat)=2 ^ (64 - s)*2 ^ s:=Zd hs
  rw [e] at h1 ⊢
  have h4:hi < 2 ^ (64 - s):=Nat.lt_of_mul_lt_mul_right h1
  have:(hi+1)*2 ^ s≤2 ^ (64 - s)*2 ^ s:=Nat.mul_le_mul_right _ h4
  rw [Nat.add_mul,Nat.one_mul] at this
  exact this
 omega
theorem p9{n s:Nat}(hs:s≤63):Int.fdiv (n:Int) (2 ^ (min (Int.toNat (IntKind.wrap .u64 (s:Int))) 64))=((n/2 ^ s:Nat):Int):=by
 rw [Bk (by omega),Int.toNat_natCast,Nat.min_eq_left (by omega),show ((2:Int) ^ s)=((2 ^ s:Nat):Int) by simp,Qq]
theorem v7(L hi lo y:Nat)(hL:2≤L)(hhi:hi < y)(hlo:lo < 18446744073709551616)(hy:y < 18446744073709551616):
  H5 L (hi:Int) (lo:Int) (y:Int)=some ((((hi*18446744073709551616+lo)/y:Nat):Int),(((hi*18446744073709551616+lo) % y:Nat):Int)):=by
 unfold H5
 simp only [W4,K6,K3,K7,I3,H5,K6,K3,K7,I3,aN,aB]
 rw [show ((y:Int) == 0)=false by simp;omega,cond_false,decide_eq_false (p:=(y:Int)≤(hi:Int)) (by omega),cond_false]
 have hy0:(!decide ((y:Int)=0))=true:=by simp;omega
 by_cases hz:hi=0
 ·subst hz
  rw [show (((0:Nat):Int) == 0)=true from rfl,cond_true,hy0,cond_true,cond_true,Yc,Sk,Bk]
  ·rw [Nat.zero_mul,Nat.zero_add]
  ·have:=Nat.div_le_self lo y;omega
 ·rw [show ((hi:Int) == 0)=false by simp;exact hz,cond_false]
  obtain ⟨s,es,hs1,hs2,hs3⟩:=Ax9 L y hy (by omega)
  have hEY:=Aq2 (y:=y) hs3 hs1
  have h1s:hi*2 ^ s < 18446744073709551616:=Nat.lt_of_le_of_lt (Nat.mul_le_mul_right _ (Nat.le_of_lt hhi)) hs1
  have hEO:=Ayd (hi:=hi) (lo:=lo) hs3 h1s hlo
  have hEL:=Atm (y:=lo) hs3
  have hw:(!decide (IntKind.wrap .u64 (s:Int) < 0))=true:=by rw [Bk (by omega)];simp
  have hw2:(!decide (IntKind.wrap .u64 (64 - IntKind.wrap .u64 (s:Int)) < 0))=true:=by
   rw [Bk (a:=s) (by omega),show (64:Int) - (s:Int)=((64 - s:Nat):Int) by omega,Bk (by omega)];simp
  have hsp:=Aq1 (lo:=lo) hs3
  have hU:hi*2 ^ s+lo/2 ^ (64 - s) < y*2 ^ s:=by
   have h2:=Aq6 hs3 hlo
   have:(hi+1)*2 ^ s≤y*2 ^ s:=Nat.mul_le_mul_right _ hhi
   rw [Nat.add_mul,Nat.one_mul] at this
   omega
  have hN:(hi*18446744073709551616+lo)*2 ^ s=(hi*2 ^ s+lo/2 ^ (64 - s))*18446744073709551616+lo*2 ^ s % 18446744073709551616:=by
   rw [Nat.add_mul,Nat.add_mul,Nat.add_assoc,←hsp,Nat.mul_right_comm]
  have hS:=Atl (n:=hi*18446744073709551616+lo) (y:=y) (s:=s) (by omega)
  rw [hN] at hS
  have hlm:lo*2 ^ s % 18446744073709551616 < 18446744073709551616:=Nat.mod_lt _ (by omega)
  simp only [es,Option.bind_some,hw,hw2,cond_true,hEY,hEO,hEL]
  generalize hi*2 ^ s+lo/2 ^ (64 - s)=u at*
  generalize y*2 ^ s=Y at*
  generalize lo*2 ^ s % 18446744073709551616=l at*
  obtain ⟨y1,y0,d1,d0,hy1e,hy0e,hd1e,hd0e⟩:∃y1 y0 d1 d0,Y/4294967296=y1∧Y % 4294967296=y0∧l/4294967296=d1∧l % 4294967296=d0:=⟨_,_,_,_,rfl,rfl,rfl,rfl⟩
  have hY:Y=y1*4294967296+y0:=by omega
  have hl:l=d1*4294967296+d0:=by omega
  have b1:2147483648≤y1:=by omega
  have b2:y1 < 4294967296:=by omega
  have b3:y0 < 4294967296:=by omega
  have b4:d1 < 4294967296:=by omega
  have b5:d0 < 4294967296:=by omega
  have q1:∀v:Nat,v < 18446744073709551616→IntKind.wrap .u64 (Int.tdiv (v:Int) (Int.fdiv (Y:Int) (2 ^ 32)))=((v/y1:Nat):Int):=fun v hv=>by
   rw [Tc,hy1e,Yc,Bk]
   have:=Nat.div_le_self v y1
   omega
  have q2:∀v:Nat,v < 18446744073709551616→IntKind.wrap .u64 ((v:Int) - IntKind.wrap .u64 ((((v/y1:Nat):Int))*(Int.fdiv (Y:Int) (2 ^ 32))))=((v % y1:Nat):Int):=fun v hv=>by
   have h1:=Nat.div_add_mod v y1
   have h2:v/y1*y1≤v:=Nat.div_mul_le_self v y1
   have h3:=Nat.mod_le v y1
   rw [Tc,hy1e,←Int.natCast_mul,Bk (by omega),show ((v:Int) - ((v/y1*y1:Nat):Int))=((v % y1:Nat):Int) by rw [Nat.mul_comm] at h1;omega,Bk (by omega)]
  have hy1p:(!decide (Int.fdiv (Y:Int) (2 ^ 32)=0))=true:=by rw [Tc,hy1e];simp;omega
  have hu64:u < 18446744073709551616:=by omega
  rw [hy1p,cond_true,q1 u hu64,q2 u hu64]
  obtain ⟨r1,e1⟩:=Asz L (a0:=(hi:Int)) (r1:=(s:Int)) hEY hEL hY b1 b2 b3 b4 hd1e (by omega:u < y1*4294967296+y0) L (u/y1) (u % y1) (Ai7 b1 b2 b3 b4 (by omega)) (by have:=Nat.mod_lt u (show 0 < y1 by omega);omega) (by omega)
  rw [e1,Option.bind_some,←hY]
  have g1:=Ai8 (u:=u) (y:=Y) (d:=d1) (by omega) rfl
  have g1':=Am8 (u:=u) (y1:=y1) (y0:=y0) b4 (by omega)
  rw [←hY] at g1'
  obtain ⟨Q1,hQ1⟩:∃Q,(u*4294967296+d1)/Y=Q:=⟨_,rfl⟩
  obtain ⟨R1,hR1⟩:∃R,(u*4294967296+d1) % Y=R:=⟨_,rfl⟩
  rw [hQ1] at g1 g1' ⊢
  rw [hR1] at g1
  have hun:IntKind.wrap .u64 ((IntKind.wrap .u64 ((IntKind.wrap .u64 ((u:Int)*4294967296))+(Int.fdiv (l:Int) (2 ^ 32)))) - (IntKind.wrap .u64 ((Q1:Int)*(Y:Int))))=(R1:Int):=by
   rw [Tc,hd1e,←Int.natCast_mul]
   obtain ⟨k1,k2,k3⟩:=g1
   generalize Q1*Y=p at k1 k2 k3 ⊢
   simp only [IntKind.wrap_u64]
   omega
  rw [Vl,cond_true]
  dsimp only
  rw [hun]
  have hR1l:R1 < 18446744073709551616:=by omega
  rw [q1 R1 hR1l,q2 R1 hR1l]
  obtain ⟨r2,e2⟩:=As0 L (a0:=(hi:Int)) (r1:=(s:Int)) (o3:=(0,(Q1:Int),(r1:Int))) hEY hEL hY b1 b2 b3 b5 hd0e (by omega:R1 < y1*4294967296+y0) L (R1/y1) (R1 % y1) (Ai7 b1 b2 b3 b5 (by omega)) (by have:=Nat.mod_lt R1 (show 0 < y1 by omega);omega) (by omega)
  rw [e2,Option.bind_some,←hY]
  dsimp only
  rw [Vl]
  have g2:=Ai8 (u:=R1) (y:=Y) (d:=d0) (by omega) rfl
  have g2':=Am8 (u:=R1) (y1:=y1) (y0:=y0) b5 (by omega)
  rw [←hY] at g2'
  have g3:=Aiy (u:=u) (d1:=d1) (d0:=d0) (y:=Y) (q1:=Q1) (q0:=(R1*4294967296+d0)/Y) (by omega) hQ1.symm (by rw [hR1])
  rw [hR1,show (u*4294967296+d1)*4294967296+d0=u*18446744073709551616+l by omega] at g3
  obtain ⟨Q0,hQ0⟩:∃Q,(R1*4294967296+d0)/Y=Q:=⟨_,rfl⟩
  obtain ⟨R0,hR0⟩:∃R,(R1*4294967296+d0) % Y=R:=⟨_,rfl⟩
  rw [hQ0] at g2 g2' g3 ⊢
  rw [hR0] at g2 g3
  have hun2:IntKind.wrap .u64 ((IntKind.wrap .u64 ((IntKind.wrap .u64 ((R1:Int)*4294967296))+(IntKind.wrap .u64 (((BitVec.ofInt 64 (l:Int) &&& BitVec.ofInt 64 4294967295).toNat:Int))))) - (IntKind.wrap .u64 ((Q0:Int)*(Y:Int))))=(R0:Int):=by
   rw [Aaw,hd0e,←Int.natCast_mul]
   obtain ⟨k1,k2,k3⟩:=g2
   generalize Q0*Y=p at k1 k2 k3 ⊢
   simp only [IntKind.wrap_u64]
   omega
  rw [hun2,p9 hs3,g3.2,hS.2,←hS.1,←g3.1]
  congr 2
  simp only [IntKind.wrap_u64]
  omega
end Go.Proofs.YtckmlfboedljeaaDoor.Ev
