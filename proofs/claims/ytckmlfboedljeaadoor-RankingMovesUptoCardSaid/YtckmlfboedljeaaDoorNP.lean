/-  Intervals. -/
import Derived.Test.YtckmlfboedljeaaDoorNL
import Derived.Test.YtckmlfboedljeaaDoorQA
import Derived.Test.YtckmlfboedljeaaDoorG10
namespace Go.Proofs.YtckmlfboedljeaaDoor.Ev
open Go An
set_option maxRecDepth 100000
set_option linter.unusedVariables false
set_option linter.unusedSimpArgs false
set_option linter.unnecessarySimpa false
def up(M h:Nat):Prop:=M≤h*h∧∀k,k < h→k*k < M
theorem Atw{M h k:Nat}(h1:up M h)(h2:up M k):h=k:=by
 rcases Nat.lt_trichotomy h k with h3|h3|h3
 ·have:=h2.2 h h3;have:=h1.1;omega
 ·exact h3
 ·have:=h1.2 k h3;have:=h2.1;omega
noncomputable def w8(M:Nat):Nat:=Classical.epsilon (up M)
theorem Afw{M h:Nat}(h1:up M h):w8 M=h:=Atw (Classical.epsilon_spec (p:=up M) ⟨h,h1⟩) h1
theorem Ao4{i j:Nat}(h:i+j≤4000000000000):B1 (Int.fdiv (IntKind.wrap .u64 (B1 ((i:Int)+(j:Int)))) (2 ^ 1))=(((i+j)/2:Nat):Int):=by
 rw [show (i:Int)+(j:Int)=((i+j:Nat):Int) by omega,D4 (n:=((i+j:Nat):Int)) (by unfold Lz;omega),Bk (by omega),show ((2:Int) ^ 1)=((2:Nat):Int) from rfl,Qq,D4 (by unfold Lz;omega)]
theorem Ass{i j:Nat}(h:i+j≤4000000000000):B1 (Int.tdiv (B1 ((i:Int)+(j:Int))) 2)=(((i+j)/2:Nat):Int):=by
 rw [show (i:Int)+(j:Int)=((i+j:Nat):Int) by omega,D4 (n:=((i+j:Nat):Int)) (by unfold Lz;omega),show (2:Int)=((2:Nat):Int) from rfl,Yc,D4 (by unfold Lz;omega)]
theorem Azj{m:Nat}(h:m≤2000000000000):m*m≤4000000000000000000000000:=Nat.mul_le_mul h h
theorem Aj6{a b:Nat}(h:a≤b):a*a≤b*b:=Nat.mul_le_mul h h
structure Yk (M T i j:Nat):Prop where
 le:i≤j
 top:j≤T
 lo:∀k,k < i→k*k < M
 hi:j=T∨M≤j*j
theorem Yk.right{M T i j:Nat}(h:Yk M T i j)(hl:i < j)(hm:¬M≤(i+j)/2*((i+j)/2)):Yk M T ((i+j)/2+1) j:=
 ⟨by omega,h.top,fun k hk=>by have:=Aj6 (show k≤(i+j)/2 by omega);omega,h.hi⟩
theorem Yk.left{M T i j:Nat}(h:Yk M T i j)(hl:i < j)(hm:M≤(i+j)/2*((i+j)/2)):Yk M T i ((i+j)/2):=
 ⟨by omega,by have:=h.top;omega,h.lo,.inr hm⟩
theorem Am4(a b:Nat):(bif decide (((a/18446744073709551616:Nat):Int) > ((b/18446744073709551616:Nat):Int)) then true else bif (((a/18446744073709551616:Nat):Int) == ((b/18446744073709551616:Nat):Int)) then decide (((a % 18446744073709551616:Nat):Int)≥((b % 18446744073709551616:Nat):Int)) else false)=decide (b≤a):=by
 by_cases h1:((a/18446744073709551616:Nat):Int) > ((b/18446744073709551616:Nat):Int)
 ·rw [decide_eq_true h1,cond_true];symm;rw [decide_eq_true_iff];omega
 ·rw [decide_eq_false h1,cond_false]
  by_cases h2:((a/18446744073709551616:Nat):Int)=((b/18446744073709551616:Nat):Int)
  ·rw [beq_iff_eq.2 h2,cond_true]
   apply decide_eq_decide.2
   omega
  ·rw [beq_eq_false_iff_ne.2 h2,cond_false];symm;rw [decide_eq_false_iff_not];omega
theorem Ag8(L:Nat)(a2:Aa)(r1:Gq)(a0:Int)(r2:Gq)(M:Nat)
  (hH:IntKind.wrap .u64 (IntKind.wrap .u64 (Int.tdiv r1.1 (IntKind.wrap .u64 (B1 (a0*a2.D))))+Aak r2.1 1 0)=((M/18446744073709551616:Nat):Int))
  (hO:Acf r2.1 1 0=((M % 18446744073709551616:Nat):Int)):∀(n i j:Nat),j - i < n→Yk M 1000000000001 i j→
  ∃h h2,Dz L a2 r1 a0 r2 n (i:Int) (j:Int)=some (0,(((h:Nat):Int),h2))∧Yk M 1000000000001 h h:=by
 intro n
 induction n with
 |zero=>intro i j h;omega
 |succ n ih=>
  intro i j h hs
  have ht:=hs.top
  have hle:=hs.le
  rw [Dz]
  simp only [Lf,aN,aB]
  by_cases hij:(i:Int) < (j:Int)
  ·rw [decide_eq_true hij,cond_true,Ao4 (by omega),Bk (by omega),Xx L _ _ (by omega) (by omega),Option.bind_some,hH,hO]
   dsimp only
   rw [Am4]
   by_cases hm:M≤(i+j)/2*((i+j)/2)
   ·rw [decide_eq_true hm,Bool.not_true,cond_false]
    exact ih _ _ (by omega) (hs.left (by omega) hm)
   ·rw [decide_eq_false hm,Bool.not_false,cond_true,show B1 ((((i+j)/2:Nat):Int)+1)=(((i+j)/2+1:Nat):Int) by rw [D4 (by unfold Lz;omega)];omega]
    exact ih _ _ (by omega) (hs.right (by omega) hm)
  ·rw [decide_eq_false hij,cond_false]
   obtain rfl:i=j:=by omega
   exact ⟨_,_,rfl,hs⟩
theorem Ag9(L:Nat)(a2:Aa)(r1:Gq)(a0:Int)(r2:Gq)(M:Nat)
  (hH:IntKind.wrap .u64 (Int.tdiv r1.1 (IntKind.wrap .u64 (B1 (a0*a2.D))))=((M/18446744073709551616:Nat):Int))
  (hO:r2.1=((M % 18446744073709551616:Nat):Int)):∀(n i j:Nat),j - i < n→Yk M 1000000000001 i j→
  ∃h h2,D0 L a2 r1 a0 r2 n (i:Int) (j:Int)=some (0,(((h:Nat):Int),h2))∧Yk M 1000000000001 h h:=by
 intro n
 induction n with
 |zero=>intro i j h;omega
 |succ n ih=>
  intro i j h hs
  have ht:=hs.top
  have hle:=hs.le
  rw [D0]
  simp only [Lg,aN,aB]
  by_cases hij:(i:Int) < (j:Int)
  ·rw [decide_eq_true hij,cond_true,Ao4 (by omega),Bk (by omega),Xx L _ _ (by omega) (by omega),Option.bind_some,hH,hO]
   dsimp only
   rw [Am4]
   by_cases hm:M≤(i+j)/2*((i+j)/2)
   ·rw [decide_eq_true hm,Bool.not_true,cond_false]
    exact ih _ _ (by omega) (hs.left (by omega) hm)
   ·rw [decide_eq_false hm,Bool.not_false,cond_true,show B1 ((((i+j)/2:Nat):Int)+1)=(((i+j)/2+1:Nat):Int) by rw [D4 (by unfold Lz;omega)];omega]
    exact ih _ _ (by omega) (hs.right (by omega) hm)
  ·rw [decide_eq_false hij,cond_false]
   obtain rfl:i=j:=by omega
   exact ⟨_,_,rfl,hs⟩
theorem Ahf(L:Nat)(hL:Bc≤L)(M:Nat):∀(n i j:Nat),j - i < n→Yk M 1000000000000 i j→
  ∃h h2,Ht L (rW M) n (i:Int) (j:Int)=some (0,(((h:Nat):Int),h2))∧Yk M 1000000000000 h h:=by
 intro n
 induction n with
 |zero=>intro i j h;omega
 |succ n ih=>
  intro i j h hs
  have ht:=hs.top
  have hle:=hs.le
  rw [Ht]
  simp only [Qv,aN,aB]
  by_cases hij:(i:Int) < (j:Int)
  ·have hsq:=Azj (show (i+j)/2≤2000000000000 by omega)
   rw [decide_eq_true hij,cond_true,Ass (by omega),Bk (by omega),Lx L _ _ hL (by omega) (by omega) (by omega),Option.bind_some,X0,Option.bind_some]
   by_cases hm:M≤(i+j)/2*((i+j)/2)
   ·rw [decide_eq_false (by omega),cond_false]
    exact ih _ _ (by omega) (hs.left (by omega) hm)
   ·rw [decide_eq_true (by omega),cond_true,show B1 ((((i+j)/2:Nat):Int)+1)=(((i+j)/2+1:Nat):Int) by rw [D4 (by unfold Lz;omega)];omega]
    exact ih _ _ (by omega) (hs.right (by omega) hm)
  ·rw [decide_eq_false hij,cond_false]
   obtain rfl:i=j:=by omega
   exact ⟨_,_,rfl,hs⟩
def n5(X d:Nat):Nat:=X/d+if X % d=0 then 0 else 1
def Uo(M:Nat):Bool:=decide (M≤1000000000000000000000000)
theorem Af5{M h:Nat}(hs:Yk M 1000000000001 h h):decide ((h:Int)≤1000000000000)=Uo M∧(Uo M=true→w8 M=h∧h≤1000000000000):=by
 unfold Uo
 have h1:=hs.top
 by_cases hh:h≤1000000000000
 ·have hM:M≤h*h:=by
   rcases hs.hi with e|e
   ·omega
   ·exact e
  have:=Aj6 hh
  rw [decide_eq_true (by omega),decide_eq_true (by omega)]
  exact ⟨rfl,fun _=>⟨Afw ⟨hM,hs.lo⟩,hh⟩⟩
 ·have:=hs.lo 1000000000000 (by omega)
  rw [decide_eq_false (by omega),decide_eq_false (by omega)]
  exact ⟨rfl,fun h=>by cases h⟩
theorem Akw{X d:Nat}(hd:0 < d):X/d=X/18446744073709551616/d*18446744073709551616+(X/18446744073709551616 % d*18446744073709551616+X % 18446744073709551616)/d∧
  X % d=(X/18446744073709551616 % d*18446744073709551616+X % 18446744073709551616) % d∧(X/18446744073709551616 % d*18446744073709551616+X % 18446744073709551616)/d < 18446744073709551616:=by
 obtain ⟨hi,ehi⟩:∃t,X/18446744073709551616=t:=⟨_,rfl⟩
 obtain ⟨lo,elo⟩:∃t,X % 18446744073709551616=t:=⟨_,rfl⟩
 rw [ehi,elo]
 have hlo:lo < 18446744073709551616:=by omega
 have hr:=Nat.mod_lt hi hd
 have hdm:=Nat.div_add_mod hi d
 have hX:X=(hi % d*18446744073709551616+lo)+d*(hi/d*18446744073709551616):=by
  rw [←Nat.mul_assoc]
  obtain ⟨A,eA⟩:∃t,d*(hi/d)=t:=⟨_,rfl⟩
  rw [eA] at hdm ⊢
  omega
 refine ⟨?_,?_,?_⟩
 ·conv=>lhs;rw [hX]
  rw [Nat.add_mul_div_left _ _ hd,Nat.add_comm]
 ·conv=>lhs;rw [hX]
  rw [Nat.add_mul_mod_self_left]
 ·rw [Nat.div_lt_iff_lt_mul hd]
  have:(hi % d+1)*18446744073709551616≤d*18446744073709551616:=Nat.mul_le_mul_right _ hr
  rw [Nat.mul_comm 18446744073709551616]
  omega
theorem As1(L n q:Nat)(v:Aa)(hL:Bc≤L)(hn:0 < n)(hn2:n≤60)(hq:q≤20000)(hv:VF v=true):
  ∃h:Nat,K0 L (n:Int) (q:Int) v=some ((h:Int),Uo (n5 (q*q*(IntKind.wrap .u64 v.N).toNat) (n*v.D.natAbs)))∧
   (Uo (n5 (q*q*(IntKind.wrap .u64 v.N).toNat) (n*v.D.natAbs))=true→w8 (n5 (q*q*(IntKind.wrap .u64 v.N).toNat) (n*v.D.natAbs))=h∧h≤1000000000000):=by
 obtain ⟨v1,v2,v3,v4⟩:=C3.1 hv
 obtain ⟨w,ew,hw⟩:∃w:Nat,IntKind.wrap .u64 v.N=(w:Int)∧w < 18446744073709551616:=by
  refine ⟨(IntKind.wrap .u64 v.N).toNat,?_,?_⟩<;>rw [IntKind.wrap_u64]<;>omega
 obtain ⟨D,eD⟩:∃D:Nat,v.D.natAbs=D:=⟨_,rfl⟩
 have hD:0 < D:=by omega
 have hD2:D≤1000000000000000:=by omega
 have hnD:0 < n*D:=Nat.mul_pos hn hD
 have hnD2:n*D≤60*1000000000000000:=Nat.mul_le_mul hn2 hD2
 have hqq:q*q≤20000*20000:=Nat.mul_le_mul hq hq
 have ed:IntKind.wrap .u64 (B1 ((n:Int)*v.D))=((n*D:Nat):Int):=by
  rw [show v.D=(D:Int) by omega,←Int.natCast_mul,D4 (by unfold Lz;omega),Bk (by omega)]
 have eq:IntKind.wrap .u64 (B1 ((q:Int)*(q:Int)))=((q*q:Nat):Int):=by
  rw [←Int.natCast_mul,D4 (by unfold Lz;omega),Bk (by omega)]
 have hX:q*q*w < 400000001*18446744073709551616:=Nat.lt_of_le_of_lt (Nat.mul_le_mul (show q*q≤400000000 by omega) (Nat.le_of_lt hw)) (by decide)
 rw [ew,eD,Int.toNat_natCast]
 simp only [K0,Tw,Io,E9,Fs,Io,E9,Fs,aN,aB]
 rw [eq,ew,Xx L _ _ (by omega) hw,Option.bind_some]
 dsimp only
 rw [ed,show (!decide (((n*D:Nat):Int)=0))=true by simp;omega,cond_true,cond_true,Sk]
 clear eq ew hv v1 v2 v3 v4
 obtain ⟨X,eX⟩:∃X,q*q*w=X:=⟨_,rfl⟩
 obtain ⟨d,edd⟩:∃d,n*D=d:=⟨_,rfl⟩
 rw [eX] at hX ⊢
 rw [edd] at hnD hnD2 ed ⊢
 have ed':=ed
 clear ed eD
 rw [v7 L _ _ d (Db hL (by decide)) (Nat.mod_lt _ hnD) (Nat.mod_lt _ (by decide)) (by omega),Option.bind_some]
 dsimp only
 have hsp:=Akw (X:=X) hnD
 obtain ⟨hi,ehi⟩:∃t,X/18446744073709551616=t:=⟨_,rfl⟩
 obtain ⟨lo,elo⟩:∃t,X % 18446744073709551616=t:=⟨_,rfl⟩
 rw [ehi,elo] at hsp ⊢
 obtain ⟨Q,eQ⟩:∃t,(hi % d*18446744073709551616+lo)/d=t:=⟨_,rfl⟩
 obtain ⟨R,eR⟩:∃t,(hi % d*18446744073709551616+lo) % d=t:=⟨_,rfl⟩
 rw [eQ,eR] at hsp ⊢
 obtain ⟨s1,s2,s3⟩:=hsp
 have hhd:hi/d≤hi:=Nat.div_le_self ..
 have hhi:hi < 400000001:=by omega
 obtain ⟨P,eP⟩:∃t,hi/d=t:=⟨_,rfl⟩
 rw [eP] at s1 hhd
 unfold n5
 rw [s1,s2]
 have hTd:IntKind.wrap .u64 (Int.tdiv (hi:Int) (d:Int))=(P:Int):=by rw [tm1 (by omega),eP]
 by_cases hR:(R:Int) > 0
 ·have hR0:¬R=0:=by omega
  rw [decide_eq_true hR,cond_true,Gf (by decide),if_neg hR0]
  obtain ⟨h,h2,e,hs⟩:=Ag8 L v ((hi:Int),(lo:Int)) (n:Int) ((Q:Int),(R:Int)) (P*18446744073709551616+Q+1)
   (by
    dsimp only
    rw [ed',hTd,show Aak (Q:Int) 1 0=(((Q+1)/18446744073709551616:Nat):Int) from Aed Q 1 0,←Int.natCast_add,Bk (by omega)]
    omega)
   (by rw [show Acf (Q:Int) 1 0=(((Q+1) % 18446744073709551616:Nat):Int) from m8 Q 1 0];omega)
   L 0 1000000000001 (Nat.lt_of_lt_of_le (by decide:1000000000001 - 0 < 1000000000002) (Db hL (by decide))) ⟨by decide,by decide,fun k hk=>by omega,.inl rfl⟩
  have e':Dz L v ((hi:Int),(lo:Int)) (n:Int) ((Q:Int),(R:Int)) L 0 1000000000001=some (0,((h:Int),h2)):=e
  have hf:=Af5 hs
  rw [e',Option.bind_some,Vl]
  exact ⟨h,by rw [hf.1],hf.2⟩
 ·have hR0:R=0:=by omega
  rw [decide_eq_false hR,cond_false,if_pos hR0,Nat.add_zero]
  obtain ⟨h,h2,e,hs⟩:=Ag9 L v ((hi:Int),(lo:Int)) (n:Int) ((Q:Int),(R:Int)) (P*18446744073709551616+Q)
   (by
    dsimp only
    rw [ed',hTd]
    omega)
   (by dsimp only;omega)
   L 0 1000000000001 (Nat.lt_of_lt_of_le (by decide:1000000000001 - 0 < 1000000000002) (Db hL (by decide))) ⟨by decide,by decide,fun k hk=>by omega,.inl rfl⟩
  have e':D0 L v ((hi:Int),(lo:Int)) (n:Int) ((Q:Int),(R:Int)) L 0 1000000000001=some (0,((h:Int),h2)):=e
  have hf:=Af5 hs
  rw [e',Option.bind_some,Vl]
  exact ⟨h,by rw [hf.1],hf.2⟩
end Go.Proofs.YtckmlfboedljeaaDoor.Ev
namespace Go.Proofs.YtckmlfboedljeaaDoor.Ev
open Go An
set_option maxRecDepth 100000
set_option linter.unusedVariables false
set_option linter.unusedSimpArgs false
set_option linter.unnecessarySimpa false
theorem Afk(L M:Nat)(hL:Bc≤L):∃h:Nat,Oo L (rW M)=some ((h:Int),Uo M)∧(Uo M=true→w8 M=h∧h≤1000000000000):=by
 simp only [Oo,Zs,Mu,J7,Mu,J7,aN,aB]
 have e0:C6 L 1000000000000 1000000000000=some (rW (1000000000000*1000000000000)):=Lx L 1000000000000 1000000000000 hL (by decide) (by decide) (by decide)
 rw [e0,Option.bind_some,X0,Option.bind_some]
 unfold Uo
 by_cases h:M≤1000000000000000000000000
 ·rw [decide_eq_false (by omega),cond_false,decide_eq_true h]
  obtain ⟨k,k2,e,hs⟩:=Ahf L hL M L 0 1000000000000 (Nat.lt_of_lt_of_le (by decide:1000000000000 - 0 < 1000000000002) (Db hL (by decide))) ⟨by decide,by decide,fun k hk=>by omega,.inl rfl⟩
  have e':Ht L (rW M) L 0 1000000000000=some (0,((k:Int),k2)):=e
  rw [e',Option.bind_some,Vl]
  refine ⟨k,rfl,fun _=>⟨Afw ⟨?_,hs.lo⟩,hs.top⟩⟩
  rcases hs.hi with e|e
  ·subst e;omega
  ·exact e
 ·rw [decide_eq_true (by omega),cond_true,decide_eq_false h]
  exact ⟨0,rfl,fun h=>by cases h⟩
def Li(n:Nat):Nat:=if n≤30 then (gl0.getD (n - 1) 0).toNat else if n≤40 then 2021 else 2009
theorem Asg:∀x∈gl0,0≤x∧x≤20000:=by decide
theorem Ag7{i:Nat}(h:i < 30):0≤gl0.getD i 0∧gl0.getD i 0≤20000:=by
 have hl:i < gl0.length:=h
 rw [List.getD_eq_getElem?_getD,List.getElem?_eq_getElem hl]
 exact Asg _ (List.getElem_mem hl)
theorem Afq(n:Nat)(h1:1≤n):Li n≤20000:=by
 unfold Li
 split
 ·have:=Ag7 (i:=n - 1) (by omega);omega
 ·split<;>decide
theorem Afg(L n:Nat)(h1:1≤n)(h2:n≤50):Ee L (n:Int)=some ((Li n:Int),true):=by
 simp only [Ee,Kn,Ee,aN,aB]
 rw [decide_eq_false (by omega:¬(n:Int) < 1),cond_false,decide_eq_false (by omega:¬(n:Int) > 50),cond_false,show ((gl0.length:Nat):Int)=30 from rfl]
 unfold Li
 by_cases h:(n:Int)≤30
 ·have hw:B1 ((n:Int) - 1)=((n - 1:Nat):Int):=by rw [D4 (by unfold Lz;omega)];omega
  have:=Ag7 (i:=n - 1) (by omega)
  rw [decide_eq_true h,cond_true,hw,Gf (by omega),Gf (by omega),toN,if_pos (by omega)]
  refine congrArg some (Prod.ext ?_ rfl)
  show gl0.getD (n - 1) 0=_
  dsimp only
  omega
 ·rw [decide_eq_false h,cond_false,if_neg (by omega)]
  by_cases h:(n:Int)≤40
  ·rw [decide_eq_true h,if_pos (by omega)];rfl
  ·rw [decide_eq_false h,if_neg (by omega)];rfl
theorem Adi(L n:Nat)(h1:1≤n)(h2:n≤50):Jv L (n:Int)=some ((Li n:Int),true):=by
 simp only [Jv,Qi,Jv,aN,aB]
 rw [decide_eq_false (by omega:¬(n:Int) < 1),cond_false,decide_eq_false (by omega:¬(n:Int) > 50),cond_false]
 unfold Li
 by_cases h:(n:Int)≤30
 ·obtain ⟨m,rfl⟩:∃m,n=m+1:=⟨n - 1,by omega⟩
  have:=Ag7 (i:=m) (by omega)
  rw [decide_eq_true h,cond_true,Gf (by omega),Gf (by show ((m+1:Nat):Int) < 31;omega),toN,if_pos (by omega),Nat.add_sub_cancel]
  refine congrArg some (Prod.ext ?_ rfl)
  show gl0.getD m 0=_
  dsimp only
  omega
 ·rw [decide_eq_false h,cond_false,if_neg (by omega)]
  by_cases h:(n:Int)≤40
  ·rw [decide_eq_true h,if_pos (by omega)];rfl
  ·rw [decide_eq_false h,if_neg (by omega)];rfl
theorem Afj(L:Nat)(l:List Aa)(hL:Bc≤L)(hl:l.length≤1000)(h:∀x∈l,Ih x):L5 L l=some (B7 l):=by
 have hM:=Az
 simp only [L5,Su,Ko,Ob,aN,aB]
 rw [Ahs L l hL (by omega) h,Option.bind_some]
 unfold B7
 cases hs:(Di l ⟨0,1⟩).2
 ·rw [Bool.not_false,cond_true,cond_true,Qn _ _ hs,S6 (.inl Ar5)]
 ·rw [Bool.not_true,cond_false]
  by_cases h0:(l.length:Int)=0
  ·rw [beq_iff_eq.2 h0,cond_true,S6 (.inr h0)]
  ·rw [beq_eq_false_iff_ne.2 h0,cond_false,Option.bind_some,Ahq L _ _ hL (R8 l) (by unfold Ih Lz;dsimp only;omega),Option.bind_some]
theorem Apc(L:Nat)(l:List Aa)(hL:Bc≤L)(hl:l.length≤50)(h:∀x∈l,Ih x):Po L l=some (B7 l):=by
 simp only [Po,Ss,aN,aB]
 rw [decide_eq_false (by omega:¬(l.length:Int) > 50),cond_false,Afj L l hL (by omega) h,Option.bind_some]
theorem Afm(L:Nat)(l:List Aa)(hL:Bc≤L)(hl:l.length≤1000)(h:∀x∈l,Ih x):Qc L l=some (B7 l):=by
 have hM:=Az
 simp only [Qc,V4,aN,aB]
 rw [Adj L l hL (by omega) h,Option.bind_some]
 unfold B7
 cases hs:(Di l ⟨0,1⟩).2
 ·rw [Bool.not_false,cond_true,cond_true,Qn _ _ hs,S6 (.inl Ar5)]
 ·rw [Bool.not_true,cond_false]
  by_cases h0:(l.length:Int)=0
  ·rw [beq_iff_eq.2 h0,cond_true,S6 (.inr h0)]
  ·rw [beq_eq_false_iff_ne.2 h0,cond_false,Adh L _ _ hL (R8 l) (by unfold Ih Lz;dsimp only;omega),Option.bind_some]
theorem Aht(L:Nat)(l:List Aa)(hL:Bc≤L)(hl:l.length≤50)(h:∀x∈l,Ih x):Sp L l=some (B7 l):=by
 simp only [Sp,V3,aN,aB]
 rw [decide_eq_false (by omega:¬(l.length:Int) > 50),cond_false,Afm L l hL (by omega) h,Option.bind_some]
def We(m:Aa):List Aa→Option (List Aa)
 | []=>some []
 |x::k=>bif (Bt x m true).2 then (We m k).map ((Bt x m true).1:: ·) else none
def Rn:List Aa→Option (List Aa)
 | []=>some []
 |x::k=>bif (Wr x x).2 then (Rn k).map ((Wr x x).1:: ·) else none
theorem Aju{a b:Aa}(h:(Wr a b).2=true):VF (Wr a b).1=true:=by
 unfold Wr at h ⊢
 cases hc:(VF a && VF b)
 ·rw [hc] at h;cases h
 ·rw [hc,cond_true] at h;rw [cond_true]
  obtain ⟨h1,h2⟩:=Bool.and_eq_true_iff.1 hc
  have h1:=C3.1 h1
  have h2:=C3.1 h2
  exact Ac8 (Nat.mul_pos (by omega) (by omega)) h
theorem Asd(m:Aa):∀(l d:List Aa),We m l=some d→d.length=l.length∧∀x∈d,VF x=true:=by
 intro l
 induction l with
 |nil=>intro d h;cases h;exact ⟨rfl,fun x hx=>by cases hx⟩
 |cons x k ih=>
  intro d h
  rw [We] at h
  cases hc:(Bt x m true).2
  ·rw [hc] at h;cases h
  ·rw [hc,cond_true] at h
   obtain ⟨d',hd,rfl⟩:=Option.map_eq_some_iff.1 h
   obtain ⟨i1,i2⟩:=ih d' hd
   refine ⟨by rw [List.length_cons,List.length_cons,i1],fun y hy=> ?_⟩
   rcases List.mem_cons.1 hy with rfl|hy
   ·exact Jg hc
   ·exact i2 y hy
def Au8(acc:List Aa):Option (List Aa)→List Aa×Bool
 |none=>([],false)
 |some d=>(acc++d,true)
theorem Azf(L:Nat)(hL:Bc≤L)(l:List Aa)(m:Aa×Bool)(hm:Ih m.1):∀(k:List Aa) (i:Nat) (acc:List Aa),acc.length+k.length≤1000→(∀x∈k,Ih x)→
  (Cf L l m k i [] false acc).bind (Dx L)=some (Au8 acc (We m.1 k)):=by
 intro k
 induction k with
 |nil=>intro i acc _ _;show some (acc,true)=some (acc++ [],true);rw [List.append_nil]
 |cons x k ih=>
  intro i acc hl hk
  have hM:=Az
  rw [List.length_cons] at hl
  rw [Cf,Ahr L x m.1 hL (hk x (List.mem_cons_self ..)) hm,Option.bind_some,We]
  cases hc:(Bt x m.1 true).2
  ·rfl
  ·rw [Bool.not_true,cond_false,cond_true,Gf (by simp only [List.length_singleton];omega),Gf (by simp only [List.length_singleton];omega),ih _ _ (by simp only [List.length_append,List.length_singleton];omega) (fun y hy=>hk y (List.mem_cons_of_mem _ hy))]
   cases We m.1 k with
   |none=>rfl
   |some d=>show some (acc++ [(Bt x m.1 true).1]++d,true)=some (acc++((Bt x m.1 true).1::d),true);rw [List.append_assoc];rfl
theorem Awy(L:Nat)(hL:Bc≤L)(l:List Aa)(m:Aa×Bool)(hm:Ih m.1):∀(k:List Aa) (i:Nat) (acc:List Aa),acc.length+k.length≤1000→(∀x∈k,Ih x)→
  (Cu L l m k i [] false acc).bind (Eh L)=some (Au8 acc (We m.1 k)):=by
 intro k
 induction k with
 |nil=>intro i acc _ _;show some (acc,true)=some (acc++ [],true);rw [List.append_nil]
 |cons x k ih=>
  intro i acc hl hk
  have hM:=Az
  rw [List.length_cons] at hl
  rw [Cu,Aj1 L x m.1 hL (hk x (List.mem_cons_self ..)) hm,Option.bind_some,We]
  cases hc:(Bt x m.1 true).2
  ·rfl
  ·rw [Bool.not_true,cond_false,cond_true,Gf (by simp only [List.length_singleton];omega),Gf (by simp only [List.length_singleton];omega),ih _ _ (by simp only [List.length_append,List.length_singleton];omega) (fun y hy=>hk y (List.mem_cons_of_mem _ hy))]
   cases We m.1 k with
   |none=>rfl
   |some d=>show some (acc++ [(Bt x m.1 true).1]++d,true)=some (acc++((Bt x m.1 true).1::d),true);rw [List.append_assoc];rfl
def S4(l:List Aa):List Aa×Bool:=bif (B7 l).2 then Au8 [] (We (B7 l).1 l) else ([],false)
theorem Yu(a b:Aa):Ih (S5 a b).1:=by
 cases h:(S5 a b).2
 ·have:(S5 a b).1=⟨0,0⟩:=by
   unfold S5 at h ⊢
   cases hc:(VF a && VF b && (b.N != 0))
   ·rfl
   ·rw [hc,cond_true] at h;rw [cond_true];exact Ahl h
  rw [this];exact Z5
 ·exact Gu (Se h)
theorem Awt(L:Nat)(l:List Aa)(hL:Bc≤L)(hl:l.length≤1000)(h:∀x∈l,Ih x):H4 L l=some (S4 l):=by
 have hM:=Az
 have hn:l.length < L:=Nat.lt_of_lt_of_le (show l.length < 1001 by omega) (Db hL (by decide))
 have e:=Azf L hL l (B7 l) (Yu _ _) l 0 [] (by simpa using hl) h
 simp only [H4,Qj,Gc,Dx,Gc,aN,aB]
 rw [Afj L l hL hl h,Option.bind_some]
 unfold S4
 cases hm:(B7 l).2
 ·rfl
 ·rw [Bool.not_true,cond_false,cond_true,Tn L l _ L (by omega) hn]
  exact e
theorem As9(L:Nat)(l:List Aa)(hL:Bc≤L)(hl:l.length≤1000)(h:∀x∈l,Ih x):J9 L l=some (S4 l):=by
 have hM:=Az
 have hn:l.length < L:=Nat.lt_of_lt_of_le (show l.length < 1001 by omega) (Db hL (by decide))
 have e:=Awy L hL l (B7 l) (Yu _ _) l 0 [] (by simpa using hl) h
 simp only [J9,R6,Hh,Eh,Hh,aN,aB]
 rw [Afm L l hL hl h,Option.bind_some]
 unfold S4
 cases hm:(B7 l).2
 ·rfl
 ·rw [Bool.not_true,cond_false,cond_true,Uq L l _ L (by omega) hn]
  exact e
theorem Ai6(l:List Aa):(S4 l).1.length≤l.length∧∀x∈(S4 l).1,VF x=true:=by
 unfold S4
 cases (B7 l).2
 ·exact ⟨Nat.zero_le _,fun x hx=>by cases hx⟩
 ·rw [cond_true]
  cases hd:We (B7 l).1 l with
  |none=>exact ⟨Nat.zero_le _,fun x hx=>by cases hx⟩
  |some d=>
   obtain ⟨h1,h2⟩:=Asd _ _ _ hd
   exact ⟨by show ([]++d).length≤_;rw [List.nil_append];omega,fun x hx=>h2 x (by have hx:x∈([]:List Aa)++d:=hx;simpa using hx)⟩
def Vt(acc:List Aa):Option (List Aa)→Aa×Bool
 |none=>(⟨0,0⟩,false)
 |some d=>Di (acc++d) ⟨0,1⟩
theorem Aww(L:Nat)(hL:Bc≤L)(l:List Aa):∀(k:List Aa) (i:Nat) (acc:List Aa),l.drop i=k→acc.length+k.length≤1000→(∀x∈k,Ih x)→(∀x∈acc,Ih x)→
  (Cv L l l k i false acc 0 0).bind (Ei L)=some (Vt acc (Rn k)):=by
 intro k
 induction k with
 |nil=>
  intro i acc _ hl _ ha
  have hM:=Az
  rw [List.length_nil] at hl
  show (Lc L acc).bind (fun r3=>some (r3.1,r3.2))=some (Di (acc++ []) ⟨0,1⟩)
  rw [Ahs L acc hL (by omega) ha,List.append_nil];rfl
 |cons x k ih=>
  intro i acc hd hl hk ha
  have hM:=Az
  obtain ⟨d1,d2,d3⟩:=Dy hd
  have hx:=hk x (List.mem_cons_self ..)
  rw [List.length_cons] at hl
  rw [Cv,Gf (by omega),toN,d2,Awp L x x hL hx hx,Option.bind_some,Rn]
  cases hc:(Wr x x).2
  ·rfl
  ·rw [Bool.not_true,cond_false,cond_true,Gf (by simp only [List.length_singleton];omega),Gf (by simp only [List.length_singleton];omega),
    ih _ _ d3 (by simp only [List.length_append,List.length_singleton];omega) (fun y hy=>hk y (List.mem_cons_of_mem _ hy)) (fun y hy=>by
     rcases List.mem_append.1 hy with hy|hy
     ·exact ha y hy
     ·rw [List.mem_singleton] at hy;subst hy;exact Gu (Aju hc))]
   cases Rn k with
   |none=>rfl
   |some d=>show some (Di (acc++ [(Wr x x).1]++d) ⟨0,1⟩)=some (Di (acc++((Wr x x).1::d)) ⟨0,1⟩);rw [List.append_assoc];rfl
theorem Ate(L:Nat)(hL:Bc≤L)(l:List Aa):∀(k:List Aa) (i:Nat) (acc:List Aa),l.drop i=k→acc.length+k.length≤1000→(∀x∈k,Ih x)→(∀x∈acc,Ih x)→
  (Dp L l l k i false acc 0 0).bind (Gm L)=some (Vt acc (Rn k)):=by
 intro k
 induction k with
 |nil=>
  intro i acc _ hl _ ha
  have hM:=Az
  rw [List.length_nil] at hl
  show (M5 L acc).bind (fun r3=>some (r3.1,r3.2))=some (Di (acc++ []) ⟨0,1⟩)
  rw [Adj L acc hL (by omega) ha,List.append_nil];rfl
 |cons x k ih=>
  intro i acc hd hl hk ha
  have hM:=Az
  obtain ⟨d1,d2,d3⟩:=Dy hd
  have hx:=hk x (List.mem_cons_self ..)
  rw [List.length_cons] at hl
  rw [Dp,Gf (by omega),toN,d2,As6 L x x hL hx hx,Option.bind_some,Rn]
  cases hc:(Wr x x).2
  ·rfl
  ·rw [Bool.not_true,cond_false,cond_true,Gf (by simp only [List.length_singleton];omega),Gf (by simp only [List.length_singleton];omega),
    ih _ _ d3 (by simp only [List.length_append,List.length_singleton];omega) (fun y hy=>hk y (List.mem_cons_of_mem _ hy)) (fun y hy=>by
     rcases List.mem_append.1 hy with hy|hy
     ·exact ha y hy
     ·rw [List.mem_singleton] at hy;subst hy;exact Gu (Aju hc))]
   cases Rn k with
   |none=>rfl
   |some d=>show some (Di (acc++ [(Wr x x).1]++d) ⟨0,1⟩)=some (Di (acc++((Wr x x).1::d)) ⟨0,1⟩);rw [List.append_assoc];rfl
theorem As5(L:Nat)(l:List Aa)(hL:Bc≤L)(hl:l.length≤1000)(h:∀x∈l,Ih x):Kb L l l=some (Vt [] (Rn l)):=by
 have hM:=Az
 have hn:l.length < L:=Nat.lt_of_lt_of_le (show l.length < 1001 by omega) (Db hL (by decide))
 have e:=Aww L hL l l 0 [] rfl (by simpa using hl) h (fun x hx=>by cases hx)
 simp only [Kb,R7,Ei,aN,aB]
 rw [Ur L l l L (by omega) hn]
 exact e
theorem Aph(L:Nat)(l:List Aa)(hL:Bc≤L)(hl:l.length≤1000)(h:∀x∈l,Ih x):L4 L l l=some (Vt [] (Rn l)):=by
 have hM:=Az
 have hn:l.length < L:=Nat.lt_of_lt_of_le (show l.length < 1001 by omega) (Db hL (by decide))
 have e:=Ate L hL l l 0 [] rfl (by simpa using hl) h (fun x hx=>by cases hx)
 simp only [L4,T7,Gm,aN,aB]
 rw [Wn L l l L (by omega) hn]
 exact e
theorem Abu(o:Option (List Aa)):Ih (Vt [] o).1:=by
 cases o with
 |none=>exact Z5
 |some d=>exact R8 _
def Pn(l:List Aa):Aa×Bool:=bif (S4 l).2 && (Vt [] (Rn (S4 l).1)).2 then S5 (Vt [] (Rn (S4 l).1)).1 ⟨(l.length:Int) - 1,1⟩ else (⟨0,0⟩,false)
theorem Aj8{l:List Aa}(h:(Pn l).2=true):VF (Pn l).1=true:=by
 unfold Pn at h ⊢
 cases hc:((S4 l).2 && (Vt [] (Rn (S4 l).1)).2)
 ·rw [hc] at h;cases h
 ·rw [hc,cond_true] at h;rw [cond_true];exact Se h
theorem Aws(L:Nat)(l:List Aa)(hL:Bc≤L)(h2:2≤l.length)(hl:l.length≤50)(h:∀x∈l,Ih x):Ka L l=some (Pn l):=by
 obtain ⟨d1,d2⟩:=Ai6 l
 simp only [Ka,M9,Ko,Ob,aN,aB]
 rw [decide_eq_false (by omega:¬(l.length:Int) < 2),cond_false,decide_eq_false (by omega:¬(l.length:Int) > 50),cond_false,Awt L l hL (by omega) h,Option.bind_some]
 unfold Pn
 cases (S4 l).2
 ·rfl
 ·rw [Bool.not_true,cond_false,As5 L _ hL (by omega) (fun x hx=>Gu (d2 x hx)),Option.bind_some,Bool.true_and]
  cases (Vt [] (Rn (S4 l).1)).2
  ·rfl
  ·rw [Bool.not_true,cond_false,cond_true,D4 (by unfold Lz;omega),Option.bind_some,Ahq L _ _ hL (Abu _) (by unfold Ih Lz;dsimp only;omega),Option.bind_some]
theorem As8(L:Nat)(l:List Aa)(hL:Bc≤L)(h2:2≤l.length)(hl:l.length≤50)(h:∀x∈l,Ih x):L3 L l=some (Pn l):=by
 obtain ⟨d1,d2⟩:=Ai6 l
 simp only [L3,Qh,aN,aB]
 rw [decide_eq_false (by omega:¬(l.length:Int) < 2),cond_false,decide_eq_false (by omega:¬(l.length:Int) > 50),cond_false,As9 L l hL (by omega) h,Option.bind_some,
  Aph L _ hL (by omega) (fun x hx=>Gu (d2 x hx)),Option.bind_some]
 unfold Pn
 cases (S4 l).2
 ·rfl
 ·rw [Bool.not_true,cond_false,Bool.true_and]
  cases (Vt [] (Rn (S4 l).1)).2
  ·rfl
  ·rw [Bool.not_true,cond_false,cond_true,D4 (by unfold Lz;omega),Adh L _ _ hL (Abu _) (by unfold Ih Lz;dsimp only;omega),Option.bind_some]
def B0:Ac:=⟨⟨0,0⟩,⟨0,0⟩⟩
def sqM(l:List Aa):Nat:=n5 (Li (l.length - 1)*Li (l.length - 1)*(IntKind.wrap .u64 (Pn l).1.N).toNat) (l.length*(Pn l).1.D.natAbs)
noncomputable def B9(l:List Aa):Ac×Int:=
 bif decide ((l.length:Int) < 2) then (B0,7) else bif decide ((l.length:Int) > 50) then (B0,6) else bif (B7 l).2 && (Pn l).2 && Uo (sqM l) then (⟨(B7 l).1,(ofF (w8 (sqM l):Int) 1000).1⟩,0) else (B0,2)
theorem Ape(L:Nat)(l:List Aa)(hL:Bc≤L)(h:∀x∈l,Ih x):Kq L l=some (B9 l):=by
 simp only [Kq,Rr,aN,aB]
 unfold B9
 by_cases h1:(l.length:Int) < 2
 ·rw [decide_eq_true h1];rfl
 by_cases h2:(l.length:Int) > 50
 ·rw [decide_eq_false h1,decide_eq_true h2];rfl
 rw [decide_eq_false h1,decide_eq_false h2]
 simp only [cond_false]
 rw [Apc L l hL (by omega) h,Option.bind_some,Aws L l hL (by omega) (by omega) h,Option.bind_some]
 cases (B7 l).2
 ·rfl
 cases hv:(Pn l).2
 ·rfl
 simp only [Bool.not_true,cond_false,Bool.true_and]
 have hV:=Aj8 hv
 have eq:B1 ((l.length:Int) - 1)=((l.length - 1:Nat):Int):=by rw [D4 (by unfold Lz;omega)];omega
 obtain ⟨k,e,hk⟩:=As1 L l.length (Li (l.length - 1)) (Pn l).1 hL (by omega) (by omega) (Afq _ (by omega)) hV
 rw [eq,Afg L _ (by omega) (by omega),Option.bind_some,e,Option.bind_some]
 show (bif !Uo (sqM l) then _ else _)=_
 have hk:Uo (sqM l)=true→w8 (sqM l)=k∧k≤1000000000000:=hk
 cases hlim:Uo (sqM l)
 ·rfl
 ·obtain ⟨hr,hk2⟩:=hk hlim
  rw [Bool.not_true,cond_false,cond_true,Aya L _ _ hL (by unfold Lz;omega) (by unfold Lz;omega),Option.bind_some,hr]
theorem Vb(L:Nat)(l:List Aa)(hL:Bc≤L)(h:∀x∈l,Ih x):Iu L l=some (B9 l):=by
 simp only [Iu,l8,aN,aB,Bool.and_true]
 unfold B9
 by_cases h1:(l.length:Int) < 2
 ·rw [decide_eq_true h1];rfl
 by_cases h2:(l.length:Int) > 50
 ·rw [decide_eq_false h1,decide_eq_true h2];rfl
 rw [decide_eq_false h1,decide_eq_false h2]
 simp only [cond_false]
 rw [Aht L l hL (by omega) h,Option.bind_some,As8 L l hL (by omega) (by omega) h,Option.bind_some]
 cases (B7 l).2
 ·rfl
 cases hv:(Pn l).2
 ·rfl
 simp only [Bool.not_true,cond_false,Bool.true_and]
 have hV:=Aj8 hv
 obtain ⟨v1,v2,v3,v4⟩:=C3.1 hV
 have eq:B1 ((l.length:Int) - 1)=((l.length - 1:Nat):Int):=by rw [D4 (by unfold Lz;omega)];omega
 rw [eq,Adi L _ (by omega) (by omega),Option.bind_some]
 obtain ⟨w,ew,hw⟩:∃w:Nat,IntKind.wrap .u64 (Pn l).1.N=(w:Int)∧w < 18446744073709551616:=by
  refine ⟨(IntKind.wrap .u64 (Pn l).1.N).toNat,?_,?_⟩<;>rw [IntKind.wrap_u64]<;>omega
 have eM:sqM l=n5 (Li (l.length - 1)*Li (l.length - 1)*w) (l.length*(Pn l).1.D.natAbs):=by unfold sqM;rw [ew,Int.toNat_natCast]
 have hq:=Afq (l.length - 1) (by omega)
 have hqq:Li (l.length - 1)*Li (l.length - 1)≤20000*20000:=Nat.mul_le_mul hq hq
 have eD:IntKind.wrap .u64 (Pn l).1.D=(((Pn l).1.D.natAbs:Nat):Int):=P3 (by omega) (by omega)
 have hD1:0 < (Pn l).1.D.natAbs:=by omega
 have hD2:(Pn l).1.D.natAbs≤1000000000000000:=by omega
 rw [eM,ew,eD,Bk (a:=l.length) (by omega),Bk (a:=Li (l.length - 1)) (by omega)]
 obtain ⟨q,eq2⟩:∃q,Li (l.length - 1)=q:=⟨_,rfl⟩
 obtain ⟨D,eD2⟩:∃q,(Pn l).1.D.natAbs=q:=⟨_,rfl⟩
 obtain ⟨n,en⟩:∃q,l.length=q:=⟨_,rfl⟩
 rw [eq2] at hqq hq ⊢
 rw [eD2] at hD1 hD2 ⊢
 rw [en] at h1 h2 ⊢
 clear eq2 eD2 en eM eD ew v1 v2 v3 v4 eq
 have hnD:0 < n*D:=Nat.mul_pos (by omega) hD1
 have hnD2:n*D≤60*1000000000000000:=Nat.mul_le_mul (by omega) hD2
 have hX:q*q*w < 400000001*18446744073709551616:=Nat.lt_of_le_of_lt (Nat.mul_le_mul (show q*q≤400000000 by omega) (Nat.le_of_lt hw)) (by decide)
 rw [Lx L _ _ hL (by omega) (by omega) (by omega),Option.bind_some,Lx L _ _ hL (by omega) (by omega) (by omega),Option.bind_some,Afi L _ _ hL (by omega) (by omega) hw,Option.bind_some,
  Va L _ _ hL (by omega) hnD (by omega),Option.bind_some]
 dsimp only
 rw [Adm]
 have hdl:q*q*w/(n*D)≤q*q*w:=Nat.div_le_self ..
 unfold n5
 by_cases hr:q*q*w % (n*D)=0
 ·rw [decide_eq_true hr,Bool.not_true,cond_false,if_pos hr,Nat.add_zero]
  obtain ⟨k,e,hk⟩:=Afk L (q*q*w/(n*D)) hL
  rw [e,Option.bind_some]
  dsimp only
  cases hlim:Uo (q*q*w/(n*D))
  ·rfl
  ·obtain ⟨hr,hk2⟩:=hk hlim
   rw [Bool.not_true,cond_false,cond_true,Ahu L _ _ hL (by unfold Lz;omega) (by unfold Lz;omega),Option.bind_some,hr]
 ·have e1:(⟨0,1⟩:Ad)=rW 1:=rfl
  rw [decide_eq_false hr,Bool.not_false,cond_true,if_neg hr,e1,Oz L _ _ (by omega),Option.bind_some]
  obtain ⟨k,e,hk⟩:=Afk L (q*q*w/(n*D)+1) hL
  rw [e,Option.bind_some]
  dsimp only
  cases hlim:Uo (q*q*w/(n*D)+1)
  ·rfl
  ·obtain ⟨hr,hk2⟩:=hk hlim
   rw [Bool.not_true,cond_false,cond_true,Ahu L _ _ hL (by unfold Lz;omega) (by unfold Lz;omega),Option.bind_some,hr]
def Ot(a b:Ac):Bool:=(Bt a.Mean a.Half true).2 && (Bt b.Mean b.Half false).2 && decide (Sd (Bt a.Mean a.Half true).1 (Bt b.Mean b.Half false).1 > 0)
def okB(b:Ac):Prop:=Ih b.Mean∧Ih b.Half
theorem W6(a b:Aa)(m:Bool):Ih (Bt a b m).1:=by
 cases h:(Bt a b m).2
 ·have:(Bt a b m).1=⟨0,0⟩:=by
   unfold Bt at h ⊢
   cases hc:(VF a && VF b)
   ·rfl
   ·rw [hc,cond_true] at h;rw [cond_true];exact Ahl h
  rw [this];exact Z5
 ·exact Gu (Jg h)
theorem Apa(L:Nat)(a b:Ac)(hL:Bc≤L)(ha:okB a)(hb:okB b):B3 L a b=some (Ot a b):=by
 simp only [B3,Ny,aN,aB]
 rw [Ahr L _ _ hL ha.1 ha.2,Option.bind_some,Adb L _ _ hL hb.1 hb.2,Option.bind_some]
 unfold Ot
 cases (Bt a.Mean a.Half true).2
 ·rfl
 cases (Bt b.Mean b.Half false).2
 ·rfl
 simp only [cond_true,Bool.true_and]
 rw [Ahp L _ _ hL (W6 _ _ _) (W6 _ _ _),Option.bind_some,Option.bind_some]
theorem Abo(L:Nat)(a b:Ac)(hL:Bc≤L)(ha:okB a)(hb:okB b):D6 L a b=some (Ot a b):=by
 simp only [D6,T8,aN,aB]
 rw [Aj1 L _ _ hL ha.1 ha.2,Option.bind_some,Adg L _ _ hL hb.1 hb.2,Option.bind_some]
 unfold Ot
 cases (Bt a.Mean a.Half true).2
 ·rfl
 cases (Bt b.Mean b.Half false).2
 ·rfl
 simp only [cond_true,Bool.true_and]
 rw [j9 L _ _ hL (W6 _ _ _) (W6 _ _ _),Option.bind_some,Option.bind_some]
theorem Awo:okB B0:=⟨Z5,Z5⟩
theorem Asw(n d:Int):Ih (ofF n d).1:=by
 unfold ofF
 cases hd:(d == 0)
 ·rw [cond_false]
  have hd:=beq_eq_false_iff_ne.1 hd
  cases h:(Yh (sv (!(decide (n < 0) == decide (d < 0))) n.natAbs) d.natAbs).2
  ·rw [Ahl h];exact Z5
  ·exact Gu (Ac8 (by omega) h)
 ·exact Z5
theorem Qt(l:List Aa):okB (B9 l).1:=by
 unfold B9
 cases decide ((l.length:Int) < 2)
 ·cases decide ((l.length:Int) > 50)
  ·cases (B7 l).2 && (Pn l).2 && Uo (sqM l)
   ·exact Awo
   ·exact ⟨Yu _ _,Asw _ _⟩
  ·exact Awo
 ·exact Awo
end Go.Proofs.YtckmlfboedljeaaDoor.Ev
namespace Go.Proofs.YtckmlfboedljeaaDoor.Ev
open Go An
set_option maxRecDepth 100000
set_option linter.unusedVariables false
set_option linter.unusedSimpArgs false
set_option linter.unnecessarySimpa false
def Ej(x:Ab):Bool:=bif x.Out != 0 then true else decide ((x.Seen.length:Int) < 2)
noncomputable def Hz(x:Ab):Option Ac:=bif Ej x then none else some (B9 x.Seen).1
noncomputable def Rv:List Ab→Option Int
 | []=>none
 |x::k=>bif Ej x then Rv k else bif (B9 x.Seen).2 != 0 then some (B9 x.Seen).2 else Rv k
def ltB(a b:Ac):Bool:=decide (Sd a.Mean b.Mean < 0)
theorem Ajf{x:Ab}{b:Ac}(h:Hz x=some b):okB b:=by
 unfold Hz at h
 cases hs:Ej x
 ·rw [hs,cond_false] at h;cases h;exact Qt _
 ·rw [hs] at h;cases h
theorem All(L:Nat)(hL:Bc≤L)(l:List Ab)(s:Int)(hl:∀x∈l,okR x):∀(k:List Ab) (i:Nat) (ks:List Int) (vs:List Ac),l.drop i=k→ks.length≤i→i≤l.length→Ve l Hz i ks vs→(∀b∈vs,okB b)→
  match Rv k with
  |some e=>∃o,Bw L l s k i [] 0 ks vs=some (0,([],e,o))
  |none=>∃o ks' vs',Bw L l s k i [] 0 ks vs=some (1,([],0,o,ks',vs'))∧ks'.length=vs'.length∧ks'.Nodup∧(∀x,Ti ks' vs' x=H0 l Hz x)∧(∀b∈vs',okB b)∧ks'.length≤l.length:=by
 intro k
 induction k with
 |nil=>intro i ks vs hd hi hil hm hb;exact ⟨_,_,_,rfl,hm.len,hm.nd,hm.done hd,hb,by omega⟩
 |cons x k ih=>
  intro i ks vs hd hi hil hm hb
  have hx:x∈l:=List.mem_of_mem_drop (hd ▸ List.mem_cons_self .. :x∈l.drop i)
  obtain ⟨h1,h2⟩:=hl x hx
  obtain ⟨hi2,_,h3⟩:=Dy hd
  rw [Rv,Bw]
  cases hs:Ej x
  ·rw [cond_false]
   have hs':(bif x.Out != 0 then true else decide ((x.Seen.length:Int) < 2))=false:=hs
   rw [hs']
   dsimp only
   rw [cond_false,Ape L x.Seen hL h2,Option.bind_some]
   cases he:(B9 x.Seen).2 != 0
   ·simp only [cond_false]
    rw [Ac4 hm.new]
    dsimp only [fko]
    exact ih _ _ _ h3 (by rw [List.length_append,List.length_singleton];omega) (by omega) (hm.yes hd (by unfold Hz;rw [hs];rfl)) (fun b hb'=>by
     rcases List.mem_append.1 hb' with hb'|hb'
     ·exact hb b hb'
     ·rw [List.mem_singleton] at hb';subst hb';exact Qt _)
   ·simp only [cond_true]
    exact ⟨_,rfl⟩
  ·rw [cond_true]
   have hs':(bif x.Out != 0 then true else decide ((x.Seen.length:Int) < 2))=true:=hs
   rw [hs']
   dsimp only
   rw [cond_true]
   exact ih _ _ _ h3 (by omega) (by omega) (hm.no hd (by unfold Hz;rw [hs];rfl)) hb
theorem Alm(L:Nat)(hL:Bc≤L)(r6:List Int)(o5:Nat×(List Ab×Int×Int×List Int×List Ac))(a0:List Ab)(M:Int→Option Ac)(hM:∀x,Ti o5.2.2.2.2.1 o5.2.2.2.2.2 x=M x)(hok:∀x m,M x=some m→okB m):
  ∀(k:List Int) (i:Nat) (b:Int) (f:Bool) (s:Option (Int×Ac)),StP o5.2.2.2.2.1 o5.2.2.2.2.2 b f s→
  ∃b' f' i',Bf L r6 o5 a0 k i b f=some (0,(b',f',i'))∧StP o5.2.2.2.2.1 o5.2.2.2.2.2 b' f' (Eb M ltB k s):=by
 intro k
 induction k with
 |nil=>intro i b f s h;exact ⟨_,_,_,rfl,h⟩
 |cons x k ih=>
  intro i b f s h
  rw [Bf,Eb]
  cases hx:M x with
  |none=>
   rw [Ac4 (by rw [hM,hx]:Ti o5.2.2.2.2.1 o5.2.2.2.2.2 x=none)]
   exact ih _ _ _ _ h
  |some a=>
   obtain ⟨j,hj,ha⟩:=Up (by rw [hM,hx]:Ti o5.2.2.2.2.1 o5.2.2.2.2.2 x=some a)
   rw [hj]
   dsimp only [fko]
   rw [ha]
   cases s with
   |none=>
    obtain rfl:f=false:=h
    rw [Bool.not_false,cond_true]
    exact ih _ _ _ _ ⟨rfl,rfl,by rw [hM,hx]⟩
   |some p=>
    obtain ⟨c,m⟩:=p
    obtain ⟨rfl,rfl,hm⟩:=h
    obtain ⟨j2,hj2,ha2⟩:=Up hm
    rw [Bool.not_true,cond_false,hj2]
    dsimp only [fko]
    rw [ha2,Ahp L a.Mean m.Mean hL (hok x a hx).1 (hok _ m (by rw [←hM];exact hm)).1,Option.bind_some]
    cases hc2:ltB a m with
    |true=>
     rw [show decide (Sd a.Mean m.Mean < 0)=true from hc2,cond_true]
     exact ih _ _ _ (some (x,a)) ⟨rfl,rfl,by rw [hM,hx]⟩
    |false=>
     rw [show decide (Sd a.Mean m.Mean < 0)=false from hc2,cond_false]
     exact ih _ _ _ (some (b,m)) ⟨rfl,rfl,hm⟩
def upd(s:Int)(B:Ac)(o:Option Ac)(x:Ab):Ab:=match o with
 |none=>x
 |some b=>bif Ot b B then ⟨x.Point,x.Seen,s⟩ else x
structure Axc (l:List Ab) (s:Int) (B:Ac) (ks:List Int) (vs:List Ac) (j:Nat) (v:List Ab):Prop where
 len:v.length=l.length
 at_:∀(n:Nat) (x:Ab),l[n]? =some x→v[n]? =some (upd s B (Ti (ks.take j) (vs.take j) (n:Int)) x)
theorem Ark{α :Type} [Inhabited α]{l:List α}{j:Nat}(h:j < l.length):l.take (j+1)=l.take j++ [l.getD j default]:=by
 rw [List.take_add_one,List.getD_eq_getElem?_getD,List.getElem?_eq_getElem h];rfl
theorem Axr(l:List Ab)(s:Int)(B:Ac)(ks:List Int)(vs:List Ac)(hlen:ks.length=vs.length)(hnd:ks.Nodup)(hin:∀x∈ks,0≤x∧x < (l.length:Int))(F:Nat→List Ab→Option (List Ab))
  (hF:∀j v,j < ks.length→F j v=bif Ot (vs.getD j default) B then Aaa (ks.getD j default) s l.length v else some v):
  ∀(d j:Nat) (v:List Ab),j+d=ks.length→Axc l s B ks vs j v→∃v',Ov F (List.range' j d) v=some v'∧Axc l s B ks vs ks.length v':=by
 intro d
 induction d with
 |zero=>
  intro j v hj hv
  obtain rfl:j=ks.length:=by omega
  exact ⟨v,rfl,hv⟩
 |succ d ih=>
  intro j v hj hv
  have hjl:j < ks.length:=by omega
  rw [List.range'_succ,Ov,hF j v hjl]
  have t1:=Ark hjl
  have t2:=Ark (l:=vs) (j:=j) (by omega)
  have hmem:ks.getD j default∈ks:=by rw [List.getD_eq_getElem?_getD,List.getElem?_eq_getElem hjl];exact List.getElem_mem hjl
  have hnew:ks.getD j default∉ks.take j:=by
   have h1:(ks.take (j+1)).Nodup:=hnd.sublist (List.take_sublist _ _)
   rw [t1,List.nodup_append] at h1
   intro h2
   exact h1.2.2 _ h2 _ (List.mem_singleton.2 rfl) rfl
  obtain ⟨k0,k1⟩:=hin _ hmem
  obtain ⟨key,ek⟩:∃k,ks.getD j default=k:=⟨_,rfl⟩
  obtain ⟨b,eb⟩:∃b,vs.getD j default=b:=⟨_,rfl⟩
  rw [ek] at t1 hnew k0 k1 ⊢
  rw [eb] at t2 ⊢
  have hlk:∀x,Ti (ks.take (j+1)) (vs.take (j+1)) x=if x=key then some b else Ti (ks.take j) (vs.take j) x:=fun x=>by
   rw [t1,t2,Ajm _ _ _ _ _ (by rw [List.length_take,List.length_take,hlen]) hnew]
  have hold:Ti (ks.take j) (vs.take j) key=none:=Xq.2 hnew
  obtain ⟨n0,rfl⟩:∃n:Nat,key=(n:Int):=⟨key.toNat,by omega⟩
  have hn0:n0 < l.length:=by omega
  have hx0:l[n0]? =some l[n0]:=List.getElem?_eq_getElem hn0
  have hv0:=hv.at_ n0 _ hx0
  rw [hold] at hv0
  have hv0:v[n0]? =some l[n0]:=hv0
  cases hab:Ot b B
  ·rw [cond_false,Option.bind_some]
   refine ih (j+1) v (by omega) ⟨hv.len,fun n x hx=> ?_⟩
   rw [hlk]
   by_cases hn:(n:Int)=(n0:Int)
   ·obtain rfl:n=n0:=by omega
    rw [if_pos rfl]
    obtain rfl:l[n]=x:=by rw [hx0] at hx;exact Option.some.inj hx
    rw [hv0];unfold upd;dsimp only;rw [hab];rfl
   ·rw [if_neg hn];exact hv.at_ n x hx
  ·rw [cond_true]
   unfold Aaa
   rw [if_pos k0,if_pos k1,Option.bind_some,toN]
   have eg:v.getD n0 default=l[n0]:=by rw [List.getD_eq_getElem?_getD,hv0];rfl
   rw [eg]
   refine ih (j+1) _ (by omega) ⟨by rw [List.length_set];exact hv.len,fun n x hx=> ?_⟩
   rw [hlk]
   by_cases hn:(n:Int)=(n0:Int)
   ·obtain rfl:n=n0:=by omega
    rw [if_pos rfl]
    obtain rfl:l[n]=x:=by rw [hx0] at hx;exact Option.some.inj hx
    rw [List.getElem?_set_self (by rw [hv.len];exact hn0)];unfold upd;dsimp only;rw [hab];rfl
   ·rw [if_neg hn,List.getElem?_set_ne (by omega)];exact hv.at_ n x hx
noncomputable def I5(s:Int)(o:Option (Int×Ac))(x:Ab):Ab:=match o with
 |none=>x
 |some p=>upd s p.2 (Hz x) x
theorem Al7(s:Int)(l:List Ab):l.map (I5 s none)=l:=by
 induction l with
 |nil=>rfl
 |cons x k ih=>rw [List.map_cons,ih];rfl
noncomputable def Dd(l:List Ab):Option (Int×Ac):=Eb (H0 l Hz) ltB (upto 0 l.length) none
noncomputable def Je(l:List Ab)(s:Int):List Ab×Int:=bif decide (s < 1) then ([],2) else match Rv l with
 |some e=>([],e)
 |none=>(l.map (I5 s (Dd l)),0)
theorem Ae2{l:List Ab}{n:Nat}{x:Ab}(h:l[n]? =some x):H0 l Hz (n:Int)=Hz x:=by
 unfold H0;rw [if_pos (by omega),toN,h];rfl
theorem Aei{l:List Ab}{c:Int}{B:Ac}(h:Dd l=some (c,B)):H0 l Hz c=some B:=Th (H0 l Hz) ltB _ none (fun _ _ h=>by cases h) _ _ h
theorem Xy(L:Nat)(l:List Ab)(s:Int)(hL:Bc≤L)(hl:l.length≤1000000)(h:∀x∈l,okR x):Ea L l s=some (Je l s):=by
 have hM:=Az
 have hn:l.length < L:=Nat.lt_of_lt_of_le (show l.length < 1000001 by omega) (Db hL (by decide))
 simp only [Ea,Tx,Ip,Ii,Iq,Lj,Lk,Ij,Ll,Ik,Lm,Il,Ir,F0,Ip,Ii,Iq,aN,aB]
 unfold Je
 by_cases hs:s < 1
 ·rw [decide_eq_true hs];rfl
 rw [decide_eq_false hs,cond_false,cond_false,Vf L l s L (by omega) hn]
 have e1:=All L hL l s h l 0 [] [] rfl (Nat.le_refl _) (Nat.zero_le _) (Ve.nil l Hz) (fun b hb=>by cases hb)
 cases he:Rv l with
 |some e=>
  rw [he] at e1
  obtain ⟨o,e1⟩:=e1
  rw [e1,Option.bind_some,Vl]
 |none=>
  rw [he] at e1
  obtain ⟨o,ks,vs,e1,k1,k2,k3,k4,hks⟩:=e1
  rw [e1,Option.bind_some]
  dsimp only
  rw [Alw]
  cases l with
  |nil=>
   have e0:Cy L ((([]:List Ab).length:Nat):Int)=some (upto 0 0):=Ws L 0 hL (by decide)
   rw [show Nat.beq ([]:List Ab).length 0=true from rfl,cond_true,e0,Option.bind_some,Zl,Vg L [] _ L (by rw [hM];decide) (by simpa using hn)]
   rfl
  |cons x0 l0=>
   have hb:Nat.beq (x0::l0).length 0=false:=rfl
   have h0:0 < (x0::l0).length:=Nat.succ_pos _
   obtain ⟨l,el⟩:∃l,x0::l0=l:=⟨_,rfl⟩
   rw [el] at hl h hn e1 k3 he hb h0 hks ⊢
   clear el
   obtain ⟨b,f,i,e3,k5⟩:=Alm L hL (upto 0 l.length) (1,([],0,o,ks,vs)) l (H0 l Hz) k3 (fun x m hx=>by
    obtain ⟨r,_,hr⟩:=s8 hx
    exact Ajf hr) (upto 0 l.length) 0 0 false none rfl
   have el:(upto 0 l.length).length≤maxLen:=by rw [U1];omega
   rw [hb,cond_false,Gf h0,cond_false,Gf (by omega),Gf (by omega),Ws L l.length hL hl,Option.bind_some,Vh L _ _ l L el (by rw [U1];exact hn),e3,Option.bind_some]
   simp only [Ij,Ir,F0,aN,aB]
   rw [Vl]
   show _=some (l.map (I5 s (Dd l)),0)
   have k5:StP ks vs b f (Dd l):=k5
   cases hbest:Dd l with
   |none=>
    rw [hbest] at k5
    obtain rfl:f=false:=k5
    rw [Al7];rfl
   |some p=>
    obtain ⟨c,B⟩:=p
    rw [hbest] at k5
    obtain ⟨rfl,rfl,hm⟩:=k5
    obtain ⟨j2,hj2,hB⟩:=Up hm
    rw [Bool.not_true,cond_false]
    have hBok:okB B:=by
     obtain ⟨r,_,hr⟩:=s8 (Aei hbest)
     exact Ajf hr
    have hin:∀x∈ks,0≤x∧x < (l.length:Int):=fun x hx=>by
     cases hg:H0 l Hz x with
     |none=>rw [←k3] at hg;exact absurd hx (Xq.1 hg)
     |some m=>exact Xj hg
    obtain ⟨v,e6,hv⟩:=Axr l s B ks vs k1 k2 hin (fun i0 v=>Bz L s (1,([],0,o,ks,vs)) l (0,(b,true,i)) i0 v) (fun j v hj=>by
     rw [Apv]
     unfold Akf
     dsimp only
     rw [hj2]
     dsimp only
     have hvj:okB (vs.getD j default):=k4 _ (by rw [List.getD_eq_getElem?_getD,List.getElem?_eq_getElem (by omega)];exact List.getElem_mem _)
     rw [hB,Apa L _ _ hL hvj hBok,Option.bind_some]) ks.length 0 l (by omega) ⟨rfl,fun n x hx=>by rw [hx];rfl⟩
    rw [Lh]
    dsimp only
    rw [if_pos (by omega),List.range_eq_range',e6,Option.bind_some]
    congr 2
    refine List.ext_getElem? fun n=> ?_
    rw [List.getElem?_map]
    cases hx:l[n]? with
    |none=>
     have:=List.getElem?_eq_none_iff.1 hx
     rw [List.getElem?_eq_none (by rw [hv.len];exact this)];rfl
    |some x=>
     rw [hv.at_ n x hx,List.take_length,k1,List.take_length,k3,Ae2 hx];rfl
end Go.Proofs.YtckmlfboedljeaaDoor.Ev
namespace Go.Proofs.YtckmlfboedljeaaDoor.Ev
open Go An
set_option maxRecDepth 100000
set_option linter.unusedVariables false
set_option linter.unusedSimpArgs false
set_option linter.unnecessarySimpa false
structure Tab (l:List Ab) (i:Nat) (v:List Ac):Prop where
 len:v.length=l.length
 at_:∀(n:Nat) (x:Ab),n < i→l[n]? =some x→Ej x=false→v[n]? =some (B9 x.Seen).1
def StB(i:Nat)(b:Int)(v:List Ac):Option (Int×Ac)→Prop
 |none=>b < 0
 |some (c,B)=>b=c∧0≤c∧c < (i:Int)∧v[c.toNat]? =some B∧okB B
theorem Acx{v:List Ac}{n:Nat}{B:Ac}(h:v[n]? =some B):v.getD n default=B:=by
 rw [List.getD_eq_getElem?_getD,h];rfl
theorem j6{α :Type}{l:List α}{i:Nat}{r: α}{k:List α}(h:l.drop i=r::k):l[i]? =some r:=by
 have:=congrArg (fun l=>l[0]?) h
 simpa using this
theorem Tab.no{l:List Ab}{i:Nat}{v:List Ac}(h:Tab l i v){x:Ab}(hx:l[i]? =some x)(hs:Ej x=true):Tab l (i+1) v:=⟨h.len,fun n y hn hy hys=>by
 by_cases e:n=i
 ·subst e;rw [hx] at hy;cases hy;rw [hs] at hys;cases hys
 ·exact h.at_ n y (by omega) hy hys⟩
theorem Tab.yes{l:List Ab}{i:Nat}{v:List Ac}(h:Tab l i v){x:Ab}(hx:l[i]? =some x):Tab l (i+1) (v.set i (B9 x.Seen).1):=⟨by rw [List.length_set];exact h.len,fun n y hn hy hys=>by
 by_cases e:n=i
 ·subst e;rw [hx] at hy;cases hy
  rw [List.getElem?_set_self (by rw [h.len];exact (List.getElem?_eq_some_iff.1 hx).1)]
 ·rw [List.getElem?_set_ne (by omega)];exact h.at_ n y (by omega) hy hys⟩
theorem StB.later{i:Nat}{b:Int}{v:List Ac}{s:Option (Int×Ac)}(h:StB i b v s):StB (i+1) b v s:=by
 cases s with
 |none=>exact h
 |some p=>obtain ⟨h1,h2,h3,h4,h5⟩:=h;exact ⟨h1,h2,by omega,h4,h5⟩
theorem Ah4(L:Nat)(hL:Bc≤L)(l:List Ab)(s:Int)(hl:∀x∈l,okR x):∀(k:List Ab) (i:Nat) (b:Int) (v:List Ac) (st:Option (Int×Ac)),l.drop i=k→i+k.length=l.length→Tab l i v→StB i b v st→
  match Rv k with
  |some e=>∃o,Cn L l s k i [] 0 b v=some (0,([],e,o))
  |none=>∃b' o v',Cn L l s k i [] 0 b v=some (1,([],0,b',o,v'))∧Tab l l.length v'∧StB l.length b' v' (Eb (H0 l Hz) ltB (upto i k.length) st):=by
 intro k
 induction k with
 |nil=>
  intro i b v st hd hi ht hs
  rw [List.length_nil] at hi
  obtain rfl:i=l.length:=by omega
  exact ⟨_,_,_,rfl,ht,hs⟩
 |cons x k ih=>
  intro i b v st hd hi ht hst
  have hx:x∈l:=List.mem_of_mem_drop (hd ▸ List.mem_cons_self .. :x∈l.drop i)
  obtain ⟨h1,h2⟩:=hl x hx
  obtain ⟨hi2,_,h3⟩:=Dy hd
  have hat:=j6 hd
  rw [List.length_cons] at hi ⊢
  rw [Rv,Sl,Eb,Te hd,Cn]
  have hsk:(if (0:Int)≤(i:Int) then (if (i:Int) < ((l.length:Nat):Int) then (some (decide ((x.Seen.length:Int) < 2))) else none) else none)=some (decide ((x.Seen.length:Int) < 2)):=by
   rw [if_pos (by omega),if_pos (by omega)]
  rw [hsk]
  have hsk2:(bif x.Out != 0 then some true else some (decide ((x.Seen.length:Int) < 2)))=some (Ej x):=by
   unfold Ej;cases (x.Out != 0)<;>rfl
  rw [hsk2,Option.bind_some]
  unfold Hz
  cases hs:Ej x
  ·simp only [cond_false]
   rw [Vb L x.Seen hL h2,Option.bind_some]
   cases he:(B9 x.Seen).2 != 0
   ·simp only [cond_false,toN]
    rw [Gf (by omega)]
    have hok:=Qt x.Seen
    have ht':=ht.yes hat
    have hself:(v.set i (B9 x.Seen).1)[i]? =some (B9 x.Seen).1:=List.getElem?_set_self (by rw [ht.len];exact hi2)
    cases st with
    |none=>
     have hst:b < 0:=hst
     rw [decide_eq_true hst,cond_true]
     exact ih _ _ _ (some ((i:Int),(B9 x.Seen).1)) h3 (by omega) ht' ⟨rfl,by omega,by omega,hself,hok⟩
    |some p=>
     obtain ⟨c,B⟩:=p
     obtain ⟨rfl,h5,h6,h7,h8⟩:=hst
     have h9:(v.set i (B9 x.Seen).1)[b.toNat]? =some B:=by rw [List.getElem?_set_ne (by omega)];exact h7
     rw [decide_eq_false (by omega:¬b < 0),cond_false,Gf h5,Gf (by omega),Acx h9,j9 L _ _ hL hok.1 h8.1,Option.bind_some]
     dsimp only
     cases hc2:ltB (B9 x.Seen).1 B with
     |true=>
      rw [show decide (Sd (B9 x.Seen).1.Mean B.Mean < 0)=true from hc2,cond_true]
      exact ih _ _ _ (some ((i:Int),(B9 x.Seen).1)) h3 (by omega) ht' ⟨rfl,by omega,by omega,hself,hok⟩
     |false=>
      rw [show decide (Sd (B9 x.Seen).1.Mean B.Mean < 0)=false from hc2,cond_false]
      exact ih _ _ _ (some (b,B)) h3 (by omega) ht' ⟨rfl,h5,by omega,h9,h8⟩
   ·simp only [cond_true]
    exact ⟨_,rfl⟩
  ·simp only [cond_true]
   exact ih _ _ _ _ h3 (by omega) (ht.no hat hs) hst.later
theorem Ae9{α :Type} [Inhabited α](M:Int→Option α)(lt: α→α→Bool):∀(k:List Int) (s:Option (Int×α)),s≠none→Eb M lt k s≠none:=by
 intro k
 induction k with
 |nil=>intro s h;exact h
 |cons x k ih=>
  intro s h
  rw [Eb]
  refine ih _ ?_
  cases M x with
  |none=>exact h
  |some a=>
   cases s with
   |none=>exact absurd rfl h
   |some p=>
    obtain ⟨b,m⟩:=p
    dsimp only
    cases lt a m<;>exact fun h=>by cases h
theorem Ae8{α :Type} [Inhabited α](M:Int→Option α)(lt: α→α→Bool):∀(k:List Int),Eb M lt k none=none→∀x∈k,M x=none:=by
 intro k
 induction k with
 |nil=>intro _ x hx;cases hx
 |cons y k ih=>
  intro h x hx
  rw [Eb] at h
  cases hy:M y with
  |some a=>rw [hy] at h;exact absurd h (Ae9 M lt k _ (fun h=>by cases h))
  |none=>
   rw [hy] at h
   rcases List.mem_cons.1 hx with rfl|hx
   ·exact hy
   ·exact ih h x hx
theorem Aro{i n j:Nat}(h1:i≤j)(h2:j < i+n):(j:Int)∈upto i n:=by
 unfold upto
 exact List.mem_map.2 ⟨j,by rw [List.mem_range'_1];omega,rfl⟩
theorem Af1{x:Ab}(h:Ej x=false):x.Out=0∧2≤x.Seen.length:=by
 unfold Ej at h
 by_cases ho:x.Out=0
 ·rw [bne_eq_false_iff_eq.2 ho,cond_false] at h
  have:=of_decide_eq_false h
  exact ⟨ho,by omega⟩
 ·rw [bne_iff_ne.2 ho] at h;cases h
theorem Ah5(L:Nat)(hL:Bc≤L)(l:List Ab)(s:Int)(o4:Nat×(List Ab×Int×Int×Int×List Ac))(ht:Tab l l.length o4.2.2.2.2.2)(hst:StB l.length o4.2.2.2.1 o4.2.2.2.2.2 (Dd l)):
  ∀(k:List Ab) (i:Nat),l.drop i=k→∃o,Ca L l s o4 k i ((l.take i).map (I5 s (Dd l))++k)=some (0,(o,l.map (I5 s (Dd l)))):=by
 intro k
 induction k with
 |nil=>
  intro i hd
  have:=Uj hd
  exact ⟨_,by rw [List.take_of_length_le this,List.append_nil];rfl⟩
 |cons x k ih=>
  intro i hd
  obtain ⟨hi2,_,h3⟩:=Dy hd
  have hat:=j6 hd
  have e1:(l.take (i+1)).map (I5 s (Dd l))=(l.take i).map (I5 s (Dd l))++ [I5 s (Dd l) x]:=by
   rw [List.take_add_one,hat,List.map_append];rfl
  obtain ⟨o,e⟩:=ih (i+1) h3
  rw [e1,List.append_assoc] at e
  have e:Ca L l s o4 k (i+1) ((l.take i).map (I5 s (Dd l))++I5 s (Dd l) x::k)=_:=e
  have hlen:((l.take i).map (I5 s (Dd l))).length=i:=by rw [List.length_map,List.length_take];omega
  have hgo:Ej x=true→I5 s (Dd l) x=x:=fun hs=>by
   unfold I5
   cases Dd l with
   |none=>rfl
   |some p=>show upd s p.2 (Hz x) x=x;unfold Hz;rw [hs];rfl
  rw [Ca]
  by_cases ho:x.Out=0
  ·rw [beq_iff_eq.2 ho,cond_true]
   by_cases h2:((x.Seen.length:Nat):Int)≥2
   ·have hs:Ej x=false:=by
     unfold Ej;rw [bne_eq_false_iff_eq.2 ho,cond_false];exact decide_eq_false (by omega)
    have hfx:Hz x=some (B9 x.Seen).1:=by unfold Hz;rw [hs];rfl
    rw [decide_eq_true h2,cond_true]
    simp only [toN]
    cases hb:Dd l with
    |none=>
     have:=Ae8 _ _ _ hb (i:Int) (Aro (Nat.zero_le _) (by omega))
     rw [Te hd,hfx] at this;cases this
    |some p=>
     obtain ⟨c,B⟩:=p
     rw [hb] at hst e
     obtain ⟨g1,g2,g3,g4,g5⟩:=hst
     rw [g1,Gf (by omega),Gf g2,Gf g3,Acx (ht.at_ i x hi2 hat hs),Acx g4]
     have hab:D6 L (⟨(B9 x.Seen).1.Mean,(B9 x.Seen).1.Half⟩:Ac) (⟨B.Mean,B.Half⟩:Ac)=some (Ot (B9 x.Seen).1 B):=Abo L _ _ hL (Qt _) g5
     rw [hab,Option.bind_some]
     have hux:I5 s (some (c,B)) x=bif Ot (B9 x.Seen).1 B then ⟨x.Point,x.Seen,s⟩ else x:=by
      show upd s B (Hz x) x=_
      rw [hfx];rfl
     rw [hux] at e
     cases hA:Ot (B9 x.Seen).1 B
     ·rw [hA,cond_false] at e
      rw [cond_false]
      exact ⟨o,e⟩
     ·rw [hA,cond_true] at e
      rw [cond_true]
      have hlen':((l.take i).map (I5 s (some (c,B)))).length=i:=by rw [hb] at hlen;exact hlen
      have e3:((l.take i).map (I5 s (some (c,B)))++x::k).getD i default=x:=by
       rw [List.getD_eq_getElem?_getD,List.getElem?_append_right (by omega),hlen',Nat.sub_self];rfl
      rw [e3,List.set_append_right _ _ (by omega),hlen',Nat.sub_self]
      exact ⟨o,e⟩
   ·have hs:Ej x=true:=by
     unfold Ej;rw [bne_eq_false_iff_eq.2 ho,cond_false];exact decide_eq_true (by omega)
    rw [decide_eq_false h2,cond_false]
    rw [hgo hs] at e
    exact ⟨o,e⟩
  ·have hs:Ej x=true:=by
    unfold Ej;rw [bne_iff_ne.2 ho];rfl
   rw [beq_eq_false_iff_ne.2 ho,cond_false]
   rw [hgo hs] at e
   exact ⟨o,e⟩
theorem Alb(L:Nat)(l:List Ab)(s:Int)(hL:Bc≤L)(hl:l.length≤1000000)(h:∀x∈l,okR x):Rg L l s=some (Je l s):=by
 have hM:=Az
 have hn:l.length < L:=Nat.lt_of_lt_of_le (show l.length < 1000001 by omega) (Db hL (by decide))
 simp only [Rg,Zt,Mv,Mq,Mw,Mr,Ms,Mv,Mq,Mw,aN,aB]
 unfold Je
 by_cases hs:s < 1
 ·rw [decide_eq_true hs];rfl
 rw [decide_eq_false hs,cond_false,cond_false,Gf (by omega),Gf (by omega),Gf (by omega),g6 L l s L (by omega) hn,toN]
 have e1:=Ah4 L hL l s h l 0 (-1) (List.replicate l.length (⟨⟨0,0⟩,⟨0,0⟩⟩:Ac)) none rfl (by omega) ⟨List.length_replicate,fun n x hn=>by omega⟩ (by show (-1:Int) < 0;decide)
 cases he:Rv l with
 |some e=>
  rw [he] at e1
  obtain ⟨o,e1⟩:=e1
  rw [e1,Option.bind_some,Vl]
 |none=>
  rw [he] at e1
  obtain ⟨b,o,v,e1,ht,hst⟩:=e1
  rw [e1,Option.bind_some]
  dsimp only
  rw [Alw]
  cases l with
  |nil=>
   rw [show Nat.beq ([]:List Ab).length 0=true from rfl,cond_true,g7 L [] s _ L (by rw [hM];decide) (by simpa using hn)]
   rfl
  |cons x0 l0=>
   have hb:Nat.beq (x0::l0).length 0=false:=rfl
   obtain ⟨l,el⟩:∃l,x0::l0=l:=⟨_,rfl⟩
   rw [el] at hl h hn e1 he hb ht hst ⊢
   clear el
   obtain ⟨o3,e3⟩:=Ah5 L hL l s (1,([],0,b,o,v)) ht hst l 0 rfl
   rw [hb,cond_false,Gf (by omega),Gf (by omega),g8 L l s _ L (by omega) hn]
   have e3:Ca L l s (1,([],0,b,o,v)) l 0 l=_:=e3
   rw [e3];rfl
theorem Aip{l:List Ab}{s:Int}(hl:l.length≤1000000)(h:∀x∈l,okR x):(Je l s).1.length≤maxLen∧∀y∈(Je l s).1,y.Seen.length≤maxLen:=by
 have hM:=Az
 have h0:(([]:List Ab)).length≤maxLen∧∀y∈([]:List Ab),y.Seen.length≤maxLen:=⟨by rw [hM];decide,fun y hy=>by cases hy⟩
 unfold Je
 cases decide (s < 1)
 ·rw [cond_false]
  cases Rv l with
  |some e=>exact h0
  |none=>
   refine ⟨by dsimp only;rw [List.length_map];omega,fun y hy=> ?_⟩
   obtain ⟨x,hx,rfl⟩:=List.mem_map.1 hy
   have h1:=(h x hx).1
   have e:(I5 s (Dd l) x).Seen=x.Seen:=by
    unfold I5
    cases Dd l with
    |none=>rfl
    |some p=>
     show (upd s p.2 (Hz x) x).Seen=_
     unfold upd
     cases Hz x with
     |none=>rfl
     |some b=>dsimp only;cases Ot b p.2<;>rfl
   rw [e];omega
 ·exact h0
theorem Xo(l:List Ab)(s:Int)(h0:l.length≤maxLen∧∀y∈l,J0 y)(h1:okI .i64 s):∃L,Kl L l s=some true:=by
 refine ⟨Bc,?_⟩
 have hL:Bc≤Bc:=Nat.le_refl _
 have aw:Bs Bc=some true:=rfl
 simp only [Kl,Km,aN,aB]
 rcases Xz Bc l hL with e|⟨e,hl⟩
 ·rw [e,Option.bind_some,Bool.not_false,cond_true,aw];rfl
 ·have hr:=Xp h0.2 hl
  have hle:l.length≤1000000:=by have:=hl.1;omega
  have a1:=Aip (s:=s) hle hr
  rw [e,Option.bind_some,Bool.not_true,cond_false,Xy _ l s hL hle hr,Option.bind_some,Alb _ l s hL hle hr,Option.bind_some,Ade _ _ hL a1.1 a1.2,Option.bind_some,aw]
  simp only [beq_self_eq_true,cond_true,Option.bind_some]
end Go.Proofs.YtckmlfboedljeaaDoor.Ev
