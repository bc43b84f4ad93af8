/-  Numbers of two words in the reference. -/
import Derived.Test.YtckmlfboedljeaaDoorNF
import Derived.Test.YtckmlfboedljeaaDoorG5
import Derived.Test.YtckmlfboedljeaaDoorG9
namespace Go.Proofs.YtckmlfboedljeaaDoor.Ev
open Go An
set_option maxRecDepth 100000
set_option linter.unusedVariables false
set_option linter.unusedSimpArgs false
set_option linter.unnecessarySimpa false
def rW(w:Nat):Ad:=⟨((w/18446744073709551616:Nat):Int),((w % 18446744073709551616:Nat):Int)⟩
theorem rHi(w:Nat):(rW w).Hi=((w/18446744073709551616:Nat):Int):=rfl
theorem rLo(w:Nat):(rW w).Lo=((w % 18446744073709551616:Nat):Int):=rfl
theorem w5{x:Ad}{w:Nat}(h:x.Hi=((w/18446744073709551616:Nat):Int))(k:x.Lo=((w % 18446744073709551616:Nat):Int)):x=rW w:=by
 cases x;cases h;cases k;rfl
theorem Qz{w:Nat}(h:w < 18446744073709551616):(⟨0,(w:Int)⟩:Ad)=rW w:=w5 (by dsimp only;omega) (by dsimp only;omega)
theorem Ah7(w:Nat):(⟨(rW w).Hi,(rW w).Lo⟩:Ad)=rW w:=rfl
theorem I0(L:Nat)(n:Int)(h:Lz n):Cq L n=some (n.natAbs:Int):=by
 obtain ⟨h1,h2⟩:=h
 simp only [Cq,V2,Cq,aN,aB]
 by_cases hn:n < 0
 ·rw [decide_eq_true hn,cond_true]
  congr 1
  simp only [B1,IntKind.wrap_u64,IntKind.wrap_i64];omega
 ·rw [decide_eq_false hn,cond_false]
  congr 1
  simp only [IntKind.wrap_u64];omega
theorem Oz(L a b:Nat)(h:a+b < 340282366920938463463374607431768211456):Eu L (rW a) (rW b)=some (rW (a+b)):=by
 simp only [Eu,V1,Eu,aN,aB]
 have e1:=rHi a
 have e2:=rHi b
 have e3:=rLo a
 have e4:=rLo b
 by_cases hc:IntKind.wrap .u64 ((rW a).Lo+(rW b).Lo) < (rW a).Lo
 ·rw [decide_eq_true hc,cond_true]
  rw [IntKind.wrap_u64] at hc
  refine congrArg some (w5 ?_ ?_)
  ·dsimp only;simp only [IntKind.wrap_u64];omega
  ·dsimp only;simp only [IntKind.wrap_u64];omega
 ·rw [decide_eq_false hc,cond_false]
  rw [IntKind.wrap_u64] at hc
  refine congrArg some (w5 ?_ ?_)
  ·dsimp only;simp only [IntKind.wrap_u64];omega
  ·dsimp only;simp only [IntKind.wrap_u64];omega
theorem Y8(L a b:Nat)(h:b≤a)(ha:a < 340282366920938463463374607431768211456):Jt L (rW a) (rW b)=some (rW (a - b)):=by
 simp only [Jt,T3,Jt,aN,aB]
 have e1:=rHi a
 have e2:=rHi b
 have e3:=rLo a
 have e4:=rLo b
 by_cases hc:(rW a).Lo < (rW b).Lo
 ·rw [decide_eq_true hc,cond_true]
  refine congrArg some (w5 ?_ ?_)
  ·dsimp only;simp only [IntKind.wrap_u64];omega
  ·dsimp only;simp only [IntKind.wrap_u64];omega
 ·rw [decide_eq_false hc,cond_false]
  refine congrArg some (w5 ?_ ?_)
  ·dsimp only;simp only [IntKind.wrap_u64];omega
  ·dsimp only;simp only [IntKind.wrap_u64];omega
theorem X0(L a b:Nat):Jr L (rW a) (rW b)=some (decide (a < b)):=by
 simp only [Jr,Vz,Jr,aN,aB]
 have e1:=rHi a
 have e2:=rHi b
 have e3:=rLo a
 have e4:=rLo b
 by_cases h1:(rW a).Hi < (rW b).Hi
 ·rw [decide_eq_true h1,cond_true,decide_eq_true (p:=a < b) (by omega)]
 ·rw [decide_eq_false h1,cond_false]
  by_cases h2:(rW a).Hi=(rW b).Hi
  ·rw [beq_iff_eq.2 h2,cond_true]
   refine congrArg some (decide_eq_decide.2 ?_)
   omega
  ·rw [beq_eq_false_iff_ne.2 h2,cond_false,decide_eq_false (p:=a < b) (by omega)]
theorem Apd(L w i:Nat)(h:w < 340282366920938463463374607431768211456)(hi:i < 128):P7 L (rW w) (i:Int)=some ((w/2 ^ i % 2:Nat):Int):=by
 simp only [P7,Yr,P7,aN,aB]
 by_cases h1:(i:Int)≥64
 ·rw [decide_eq_true h1,cond_true]
  have e:B1 ((i:Int) - 64)=((i - 64:Nat):Int):=by simp only [B1,IntKind.wrap_i64];omega
  rw [e,show (!decide (IntKind.wrap .u64 ((i - 64:Nat):Int) < 0))=true by rw [Bk (by omega)];simp,cond_true,rHi,p9 (by omega),
   show (2:Int)=((2:Nat):Int) from rfl,Sk,Nat.div_div_eq_div_mul,show (18446744073709551616:Nat)=2 ^ 64 from rfl,←Nat.pow_add,show 64+(i - 64)=i by omega]
 ·rw [decide_eq_false h1,cond_false]
  rw [show (!decide (IntKind.wrap .u64 (i:Int) < 0))=true by rw [Bk (by omega)];simp,cond_true,rLo,p9 (by omega),
   show (2:Int)=((2:Nat):Int) from rfl,Sk]
  rw [show (18446744073709551616:Nat)=2 ^ i*2 ^ (64 - i) by rw [←Nat.pow_add,show i+(64 - i)=64 by omega],Nat.mod_mul_right_div_self]
  rw [Nat.mod_mod_of_dvd _ (show 2 ∣ 2 ^ (64 - i) by rw [show 64 - i=(63 - i)+1 by omega,Nat.pow_succ];exact Nat.dvd_mul_left ..)]
theorem Abc(b c:Nat):b/2 ^ c=2*(b/2 ^ (c+1))+b/2 ^ c % 2:=by
 rw [Nat.pow_succ,←Nat.div_div_eq_div_mul];omega
theorem Ai9(b c:Nat):b/2 ^ c≤b:=Nat.div_le_self ..
theorem Aig(L a b:Nat)(h:a*b < 340282366920938463463374607431768211456)(ha:a < 340282366920938463463374607431768211456)(hb:b < 18446744073709551616):∀c n,c≤64→c < n→
  Ey L b (rW a) n ((c:Int) - 1) (rW (a*(b/2 ^ c))).Hi (rW (a*(b/2 ^ c))).Lo=some (0,(-1,(rW (a*b)).Hi,(rW (a*b)).Lo)):=by
 intro c
 induction c with
 |zero=>
  intro n _ hn
  obtain ⟨n,rfl⟩:∃m,n=m+1:=⟨n - 1,by omega⟩
  rw [Ey]
  simp only [Me,aN,aB]
  rw [show decide ((((0:Nat):Int)) - 1≥0)=false from rfl,cond_false,Nat.pow_zero,Nat.div_one];rfl
 |succ c ih=>
  intro n hc hn
  obtain ⟨n,rfl⟩:∃m,n=m+1:=⟨n - 1,by omega⟩
  rw [Ey]
  simp only [Me,aN,aB,Ah7]
  have e1:(((c+1:Nat):Int)) - 1=(c:Int):=by omega
  have e2:B1 ((c:Int) - 1)=(c:Int) - 1:=by simp only [B1,IntKind.wrap_i64];omega
  have hs:=Abc b c
  have hle:a*(b/2 ^ c)≤a*b:=Nat.mul_le_mul_left _ (Ai9 b c)
  have hbit:b/2 ^ c % 2=0∨b/2 ^ c % 2=1:=by omega
  have hd:a*(2*(b/2 ^ (c+1)))=a*(b/2 ^ (c+1))+a*(b/2 ^ (c+1)):=by rw [Nat.mul_comm 2,←Nat.mul_assoc];omega
  have ih':=ih n (by omega) (by omega)
  rw [e1,decide_eq_true (p:=(c:Int)≥0) (by omega),cond_true,Qz hb,Apd L b c (by omega) (by omega)]
  rcases hbit with hbit|hbit
  ·rw [hbit,Nat.add_zero] at hs
   rw [hs,hd] at hle ih'
   rw [Oz L _ _ (by omega),Option.bind_some,Option.bind_some,hbit,show ((((0:Nat):Int)) == 1)=false from rfl,cond_false,e2]
   exact ih'
  ·rw [hbit] at hs
   rw [hs,Nat.mul_add,hd,Nat.mul_one] at hle ih'
   rw [Oz L _ _ (by omega),Option.bind_some,Option.bind_some,hbit,show ((((1:Nat):Int)) == 1)=true from rfl,cond_true,Oz L _ _ (by omega),Option.bind_some,e2]
   exact ih'
theorem Afi(L a b:Nat)(hL:Bc≤L)(h:a*b < 340282366920938463463374607431768211456)(ha:a < 340282366920938463463374607431768211456)(hb:b < 18446744073709551616):Lq L (rW a) b=some (rW (a*b)):=by
 have e:=Aig L a b h ha hb 64 L (Nat.le_refl _) (Nat.lt_of_lt_of_le (by decide:64 < 65) (Db hL (by decide)))
 have e0:a*(b/2 ^ 64)=0:=by rw [Nat.div_eq_of_lt hb,Nat.mul_zero]
 rw [e0] at e
 have e1:Ey L (b:Int) (rW a) L 63 0 0=some (0,(-1,(rW (a*b)).Hi,(rW (a*b)).Lo)):=e
 simp only [Lq,Zr,J6,Lq,J6,aN,aB]
 rw [e1];rfl
theorem Lx(L a b:Nat)(hL:Bc≤L)(h:a*b < 340282366920938463463374607431768211456)(ha:a < 18446744073709551616)(hb:b < 18446744073709551616):C6 L a b=some (rW (a*b)):=by
 simp only [C6,T4,C6,aN,aB]
 rw [Qz ha,Afi L a b hL h (by omega) hb,Option.bind_some]
theorem Arc{X B t:Nat}(hB:0 < B):(2*X+t)/B=(if 2*(X % B)+t < B then 2*(X/B) else 2*(X/B)+(2*(X % B)+t)/B):=by
 have e:=Nat.div_add_mod X B
 have:2*X+t=2*(X % B)+t+B*(2*(X/B)):=by
  rw [show B*(2*(X/B))=2*(B*(X/B)) by rw [←Nat.mul_assoc,←Nat.mul_assoc,Nat.mul_comm 2]];omega
 rw [this,Nat.add_mul_div_left _ _ hB]
 split
 ·rename_i h;rw [Nat.div_eq_of_lt h];omega
 ·omega
theorem Are{X B t:Nat} :(2*X+t) % B=(2*(X % B)+t) % B:=by
 rw [Nat.add_mod,Nat.mul_mod,Nat.add_mod (2*(X % B)),Nat.mul_mod 2 (X % B),Nat.mod_mod]
theorem Apk{r B:Nat}(hB:0 < B)(h:¬r < B)(h2:r < 2*B):r/B=1∧r % B=r - B:=by
 have e:r=r - B+B*1:=by omega
 constructor
 ·rw [e,Nat.add_mul_div_left _ _ hB,Nat.div_eq_of_lt (by omega)]
 ·conv=>lhs;rw [e]
  rw [Nat.add_mul_mod_self_left,Nat.mod_eq_of_lt (by omega)]
theorem Apu{q:Nat}(h:q % 2=0):(rW (q+1)).Hi=(rW q).Hi∧(rW (q+1)).Lo=IntKind.wrap .u64 ((rW q).Lo+1):=by
 rw [rHi,rHi,rLo,rLo,IntKind.wrap_u64];omega
theorem Anc(L A B:Nat)(hA:A < 340282366920938463463374607431768211456)(hB:0 < B)(hB2:B < 170141183460469231731687303715884105728):∀c n,c≤128→c < n→
  Ec L (rW A) (rW B) n ((c:Int) - 1) (rW (A/2 ^ c/B)).Hi (rW (A/2 ^ c/B)).Lo (rW (A/2 ^ c % B)).Hi (rW (A/2 ^ c % B)).Lo=some (0,(-1,(rW (A/B)).Hi,(rW (A/B)).Lo,(rW (A % B)).Hi,(rW (A % B)).Lo)):=by
 intro c
 induction c with
 |zero=>
  intro n _ hn
  obtain ⟨n,rfl⟩:∃m,n=m+1:=⟨n - 1,by omega⟩
  rw [Ec]
  simp only [K2,aN,aB]
  rw [show decide ((((0:Nat):Int)) - 1≥0)=false from rfl,cond_false,Nat.pow_zero,Nat.div_one];rfl
 |succ c ih=>
  intro n hc hn
  obtain ⟨n,rfl⟩:∃m,n=m+1:=⟨n - 1,by omega⟩
  rw [Ec]
  simp only [K2,aN,aB,Ah7]
  have e1:(((c+1:Nat):Int)) - 1=(c:Int):=by omega
  have e2:B1 ((c:Int) - 1)=(c:Int) - 1:=by simp only [B1,IntKind.wrap_i64];omega
  have hs:=Abc A c
  obtain ⟨t,et⟩:∃t,A/2 ^ c % 2=t:=⟨_,rfl⟩
  have ht:t=0∨t=1:=by omega
  have ih':=ih n (by omega) (by omega)
  have hle:=Ai9 A c
  rw [e1,decide_eq_true (p:=(c:Int)≥0) (by omega),cond_true,Apd L A c hA (by omega),et]
  rw [et] at hs
  rw [hs,Arc hB,Are] at ih'
  obtain ⟨X,eX⟩:∃X,A/2 ^ (c+1)=X:=⟨_,rfl⟩
  rw [eX] at hs ih' ⊢
  have hr:=Nat.mod_lt X hB
  have hq:=Nat.div_le_self X B
  obtain ⟨q,eq⟩:∃q,X/B=q:=⟨_,rfl⟩
  obtain ⟨r,er⟩:∃r,X % B=r:=⟨_,rfl⟩
  rw [eq,er] at ih' ⊢
  rw [er] at hr
  rw [eq] at hq
  have ht2:(⟨0,(t:Int)⟩:Ad)=rW t:=Qz (by omega)
  rw [Oz L q q (by omega),Option.bind_some,Oz L r r (by omega),Option.bind_some,Option.bind_some,ht2,Oz L _ _ (by omega),Option.bind_some,X0,Option.bind_some]
  rw [show 2*r+t=r+r+t by omega] at ih'
  by_cases hlt:r+r+t < B
  ·rw [if_pos hlt,Nat.mod_eq_of_lt hlt,show 2*q=q+q by omega] at ih'
   rw [decide_eq_true hlt,Bool.not_true,cond_false,e2]
   exact ih'
  ·have hom:=Apk (r:=r+r+t) hB hlt (by omega)
   rw [if_neg hlt,hom.1,hom.2,show 2*q=q+q by omega,(Apu (q:=q+q) (by omega)).1,(Apu (q:=q+q) (by omega)).2] at ih'
   rw [decide_eq_false hlt,Bool.not_false,cond_true,Y8 L _ _ (by omega) (by omega),Option.bind_some,e2]
   exact ih'
theorem Va(L A B:Nat)(hL:Bc≤L)(hA:A < 340282366920938463463374607431768211456)(hB:0 < B)(hB2:B < 170141183460469231731687303715884105728):Gi L (rW A) (rW B)=some (rW (A/B),rW (A % B)):=by
 have e:=Anc L A B hA hB hB2 128 L (Nat.le_refl _) (Nat.lt_of_lt_of_le (by decide:128 < 129) (Db hL (by decide)))
 rw [Nat.div_eq_of_lt (show A < 2 ^ 128 from hA),Nat.zero_div,Nat.zero_mod] at e
 have e1:Ec L (rW A) (rW B) L 127 0 0 0 0=_:=e
 simp only [Gi,W2,I1,Gi,I1,aN,aB]
 rw [e1];rfl
theorem Adm(w:Nat):(((rW w).Hi == 0) && ((rW w).Lo == 0))=decide (w=0):=by
 rw [rHi,rLo]
 by_cases h:w=0
 ·subst h;rfl
 ·rw [decide_eq_false h,Bool.and_eq_false_iff,beq_eq_false_iff_ne,beq_eq_false_iff_ne];omega
theorem Ael(L:Nat)(hL:Bc≤L):∀(n b a:Nat),b < n→a < 340282366920938463463374607431768211456→b < 170141183460469231731687303715884105728→∃v,Ix L n (rW a).Hi (rW a).Lo (rW b).Hi (rW b).Lo=some (0,((rW (Nat.gcd a b)).Hi,(rW (Nat.gcd a b)).Lo,v)):=by
 intro n
 induction n with
 |zero=>intro b a h;omega
 |succ n ih=>
  intro b a h ha hb2
  rw [Ix]
  simp only [Pg,aN,aB,Bool.and_true,Adm,Ah7]
  by_cases hb:b=0
  ·subst hb
   exact ⟨_,by rw [decide_eq_true rfl,Bool.not_true,cond_false,Nat.gcd_zero_right]⟩
  ·rw [decide_eq_false hb,Bool.not_false,cond_true,Va L a b hL ha (by omega) hb2,Option.bind_some]
   have:=Nat.mod_lt a (Nat.pos_of_ne_zero hb)
   obtain ⟨v,e⟩:=ih (a % b) b (by omega) (by omega) (by omega)
   exact ⟨v,by rw [e,Nat.gcd_comm a b,Nat.gcd_rec b a,Nat.gcd_comm]⟩
theorem Abl(L a b:Nat)(hL:Bc≤L)(ha:a < 340282366920938463463374607431768211456)(hb:b < 170141183460469231731687303715884105728):J8 L (rW a) (rW b)=some (rW (Nat.gcd a b)):=by
 obtain ⟨v,e⟩:=Ael L hL L b a (Nat.lt_of_lt_of_le hb (Db hL (by decide))) ha hb
 simp only [J8,W3,I2,J8,I2,aN,aB]
 rw [e];rfl
end Go.Proofs.YtckmlfboedljeaaDoor.Ev
namespace Go.Proofs.YtckmlfboedljeaaDoor.Ev
open Go An
set_option maxRecDepth 100000
set_option linter.unusedVariables false
set_option linter.unusedSimpArgs false
set_option linter.unnecessarySimpa false
theorem j8(L:Nat)(m:Bool)(w d:Nat)(hL:Bc≤L)(hw:w < 340282366920938463463374607431768211456)(hd:0 < d)(hd2:d < 170141183460469231731687303715884105728):
  Js L ⟨m,rW w⟩ (rW d)=some (Yh (sv m w) d):=by
 simp only [Js,V0,Js,aN,aB]
 have hg:0 < Nat.gcd w d:=Nat.gcd_pos_of_pos_right _ hd
 have hg2:Nat.gcd w d≤d:=Nat.gcd_le_right _ hd
 rw [Abl L w d hL hw hd2,Option.bind_some,Va L w _ hL hw hg (by omega),Option.bind_some,Va L d _ hL (by omega) hg (by omega),Option.bind_some,←Aum m w d hd]
 obtain ⟨n,en⟩:∃n,w/Nat.gcd w d=n:=⟨_,rfl⟩
 obtain ⟨k,ek⟩:∃n,d/Nat.gcd w d=n:=⟨_,rfl⟩
 have ln:n≤w:=by rw [←en];exact Nat.div_le_self ..
 have lk:k≤d:=by rw [←ek];exact Nat.div_le_self ..
 rw [en,ek]
 dsimp only
 have e1:=rHi n
 have e2:=rHi k
 have e3:=rLo n
 have e4:=rLo k
 by_cases h1:(rW n).Hi=0
 ·by_cases h2:(rW n).Lo > 4611686018427387904
  ·rw [bne_eq_false_iff_eq.2 h1,cond_false,decide_eq_true h2]
   simp only [cond_true]
   rw [Oj (by omega)]
  ·rw [bne_eq_false_iff_eq.2 h1,cond_false,decide_eq_false h2]
   simp only [cond_false]
   by_cases h3:(rW k).Hi=0
   ·by_cases h4:(rW k).Lo > 1000000000000000
    ·rw [bne_eq_false_iff_eq.2 h3,cond_false,decide_eq_true h4]
     simp only [cond_true]
     rw [Oj (by omega)]
    ·rw [bne_eq_false_iff_eq.2 h3,cond_false,decide_eq_false h4]
     simp only [cond_false]
     have f1:(rW n).Lo=(n:Int):=by omega
     have f2:(rW k).Lo=(k:Int):=by omega
     unfold lim
     rw [f1,f2,if_pos (by omega)]
     have g1:B1 (n:Int)=(n:Int):=D4 (by unfold Lz;omega)
     have g2:B1 (k:Int)=(k:Int):=D4 (by unfold Lz;omega)
     have g3:B1 (0 - (n:Int))= -(n:Int):=by rw [D4 (by unfold Lz;omega)];omega
     rw [g1,g2,g3]
     cases m<;>rfl
   ·rw [bne_iff_ne.2 h3]
    simp only [cond_true]
    rw [Oj (by omega)]
 ·rw [bne_iff_ne.2 h1]
  simp only [cond_true]
  rw [Oj (by omega)]
theorem Awz(w:Nat):(((rW w).Hi == 0) && ((rW w).Lo == 1))=decide (w=1):=by
 rw [rHi,rLo]
 by_cases h:w=1
 ·subst h;rfl
 ·rw [decide_eq_false h,Bool.and_eq_false_iff,beq_eq_false_iff_ne,beq_eq_false_iff_ne];omega
theorem Kg(L:Nat)(a:Aa)(hL:Bc≤L)(h:Ih a):Cx L a=some (VF a):=by
 simp only [Cx,T5,Cx,aN,aB,Bool.and_true]
 have bad:¬(1≤a.D∧a.D≤1000000000000000∧a.N.natAbs≤4611686018427387904)→VF a=false:=fun h=>by
  rw [←Bool.not_eq_true,C3];exact fun k=>h ⟨k.1,k.2.1,k.2.2.1⟩
 by_cases h1:a.D < 1
 ·rw [decide_eq_true h1];simp only [cond_true];rw [bad (by omega)]
 by_cases h2:a.D > 1000000000000000
 ·rw [decide_eq_false h1,decide_eq_true h2];simp only [cond_true,cond_false];rw [bad (by omega)]
 by_cases h3:a.N < -4611686018427387904
 ·rw [decide_eq_false h1,decide_eq_false h2,decide_eq_true h3];simp only [cond_true,cond_false];rw [bad (by omega)]
 by_cases h4:a.N > 4611686018427387904
 ·rw [decide_eq_false h1,decide_eq_false h2,decide_eq_false h3,decide_eq_true h4];simp only [cond_true,cond_false];rw [bad (by omega)]
 rw [decide_eq_false h1,decide_eq_false h2,decide_eq_false h3,decide_eq_false h4];simp only [cond_true,cond_false]
 rw [I0 L a.N h.1,I0 L a.D h.2]
 simp only [Option.bind_some]
 rw [Qz (by omega),Qz (by omega),Abl L _ _ hL (by omega) (by omega),Option.bind_some,Awz]
 refine congrArg some (Bool.eq_iff_iff.2 ?_)
 rw [decide_eq_true_iff,C3]
 constructor
 ·intro h;exact ⟨by omega,by omega,by omega,h⟩
 ·intro h;exact h.2.2.2
theorem Lw(L:Nat)(a b:Int)(hL:Bc≤L)(ha:Lz a)(hb:Lz b):De L a b=some ⟨!(decide (a < 0) == decide (b < 0)),rW (a.natAbs*b.natAbs)⟩:=by
 simp only [De,Rp,De,aN,aB]
 rw [I0 L a ha,I0 L b hb,Option.bind_some,Option.bind_some]
 obtain ⟨a1,a2⟩:=ha
 obtain ⟨b1,b2⟩:=hb
 have hm:a.natAbs*b.natAbs≤9223372036854775808*9223372036854775808:=Nat.mul_le_mul (by omega) (by omega)
 rw [Lx L _ _ hL (by omega) (by omega) (by omega),Option.bind_some]
theorem k7(a b:Int):sv (!(decide (a < 0) == decide (b < 0))) (a.natAbs*b.natAbs)=a*b:=by
 have e1:=Ro a
 have e2:=Ro b
 conv=>rhs;rw [←e1,←e2]
 cases decide (a < 0)<;>cases decide (b < 0)<;>simp [sv,Int.neg_mul,Int.mul_neg]
theorem Afl(L:Nat)(m:Bool)(a:Nat)(k:Bool)(b:Nat)(h:a+b < 340282366920938463463374607431768211456):
  ∃s w,Mz L ⟨m,rW a⟩ ⟨k,rW b⟩=some ⟨s,rW w⟩∧sv s w=sv m a+sv k b∧w≤a+b:=by
 simp only [Mz,Vy,Mz,aN,aB]
 by_cases hmk:m=k
 ·subst hmk
  rw [beq_self_eq_true,cond_true,Oz L a b h,Option.bind_some]
  refine ⟨_,_,rfl,?_,Nat.le_refl _⟩
  cases m<;>simp [sv]<;>omega
 ·rw [beq_eq_false_iff_ne.2 hmk,cond_false,X0,Option.bind_some]
  by_cases hab:a < b
  ·rw [decide_eq_true hab,cond_true,Y8 L b a (by omega) (by omega),Option.bind_some]
   refine ⟨_,_,rfl,?_,by omega⟩
   cases m<;>cases k<;>first|exact absurd rfl hmk|(simp [sv];omega)
  ·rw [decide_eq_false hab,cond_false,Y8 L a b (by omega) (by omega),Option.bind_some]
   refine ⟨_,_,rfl,?_,by omega⟩
   cases m<;>cases k<;>first|exact absurd rfl hmk|(simp [sv];omega)
theorem Ajv{a b:Nat}(ha:a≤1000000000000000)(hb:b≤1000000000000000):a*b≤1000000000000000000000000000000:=Nat.mul_le_mul ha hb
theorem Adg(L:Nat)(a b:Aa)(hL:Bc≤L)(ha:Ih a)(hb:Ih b):Lp L a b=some (Bt a b false):=by
 simp only [Lp,Yl,Lp,aN,aB]
 rw [Kg L a hL ha,Option.bind_some]
 unfold Bt
 cases h1:VF a
 ·rfl
 rw [Bool.not_true,cond_false,Kg L b hL hb]
 cases h2:VF b
 ·rfl
 obtain ⟨a1,a2,a3,a4⟩:=C3.1 h1
 obtain ⟨b1,b2,b3,b4⟩:=C3.1 h2
 simp only [Bool.not_true,Bool.and_true,cond_true,cond_false,Option.bind_some]
 have p1:=Ry a3 (show b.D.natAbs≤1000000000000000 by omega)
 have p2:=Ry b3 (show a.D.natAbs≤1000000000000000 by omega)
 have p3:=Ajv (show a.D.natAbs≤1000000000000000 by omega) (show b.D.natAbs≤1000000000000000 by omega)
 have p4:0 < a.D.natAbs*b.D.natAbs:=Nat.mul_pos (by omega) (by omega)
 rw [Lw L a.N b.D hL ha.1 hb.2,Lw L b.N a.D hL hb.1 ha.2]
 simp only [Option.bind_some]
 obtain ⟨s,w,e,hsw,hwl⟩:=Afl L (!(decide (a.N < 0) == decide (b.D < 0))) (a.N.natAbs*b.D.natAbs) (!(decide (b.N < 0) == decide (a.D < 0))) (b.N.natAbs*a.D.natAbs) (by omega)
 rw [e,I0 L a.D ha.2,I0 L b.D hb.2]
 simp only [Option.bind_some]
 rw [Lx L _ _ hL (by omega) (by omega) (by omega),Option.bind_some,j8 L s w _ hL (by omega) p4 (by omega),Option.bind_some,hsw,k7,k7]
 rfl
def Atd(a:Aa):Aa:=⟨-a.N,a.D⟩
theorem Awr(L:Nat)(a:Aa)(h:VF a=true):Ju L a=some (Atd a):=by
 simp only [Ju,Qg,Ju,aN,aB]
 obtain ⟨a1,a2,a3,a4⟩:=C3.1 h
 rw [D4 (by unfold Lz;omega),Int.zero_sub];rfl
theorem Amo(a:Aa):VF (Atd a)=VF a:=by
 unfold VF Atd;simp only [Int.natAbs_neg]
theorem Ar7{a b:Aa} :Bt a (Atd b) false=Bt a b true:=by
 unfold Bt;rw [Amo];rfl
theorem Aj1(L:Nat)(a b:Aa)(hL:Bc≤L)(ha:Ih a)(hb:Ih b):M4 L a b=some (Bt a b true):=by
 simp only [M4,Yq,M4,aN,aB]
 rw [Kg L b hL hb,Option.bind_some]
 cases h2:VF b
 ·rw [Bool.not_false,cond_true];unfold Bt;rw [h2,Bool.and_false];rfl
 ·rw [Bool.not_true,cond_false,Awr L b h2,Option.bind_some,Adg L a _ hL ha (Gu (by rw [Amo];exact h2)),Option.bind_some,Ar7]
theorem As6(L:Nat)(a b:Aa)(hL:Bc≤L)(ha:Ih a)(hb:Ih b):P6 L a b=some (Wr a b):=by
 simp only [P6,Yp,P6,aN,aB]
 rw [Kg L a hL ha,Option.bind_some]
 unfold Wr
 cases h1:VF a
 ·rfl
 rw [Bool.not_true,cond_false,Kg L b hL hb]
 cases h2:VF b
 ·rfl
 obtain ⟨a1,a2,a3,a4⟩:=C3.1 h1
 obtain ⟨b1,b2,b3,b4⟩:=C3.1 h2
 simp only [Bool.not_true,Bool.and_true,cond_true,cond_false,Option.bind_some]
 have p3:=Ajv (show a.D.natAbs≤1000000000000000 by omega) (show b.D.natAbs≤1000000000000000 by omega)
 have p4:0 < a.D.natAbs*b.D.natAbs:=Nat.mul_pos (by omega) (by omega)
 have hm:a.N.natAbs*b.N.natAbs≤4611686018427387904*4611686018427387904:=Nat.mul_le_mul (by omega) (by omega)
 rw [Lw L a.N b.N hL ha.1 hb.1,I0 L a.D ha.2,I0 L b.D hb.2]
 simp only [Option.bind_some]
 rw [Lx L _ _ hL (by omega) (by omega) (by omega),Option.bind_some,j8 L _ _ _ hL (by omega) p4 (by omega),Option.bind_some]
theorem Adh(L:Nat)(a b:Aa)(hL:Bc≤L)(ha:Ih a)(hb:Ih b):M3 L a b=some (S5 a b):=by
 simp only [M3,Yn,M3,aN,aB]
 rw [Kg L a hL ha,Option.bind_some]
 unfold S5
 cases h1:VF a
 ·rfl
 rw [Bool.not_true,cond_false,Kg L b hL hb]
 cases h2:VF b
 ·rfl
 obtain ⟨a1,a2,a3,a4⟩:=C3.1 h1
 obtain ⟨b1,b2,b3,b4⟩:=C3.1 h2
 simp only [Bool.not_true,Bool.and_true,Bool.true_and,cond_true,cond_false,Option.bind_some]
 by_cases h3:b.N=0
 ·rw [beq_iff_eq.2 h3,cond_true,bne_eq_false_iff_eq.2 h3,cond_false]
 rw [beq_eq_false_iff_ne.2 h3,cond_false,bne_iff_ne.2 h3,cond_true]
 have p1:=Ry a3 (show b.D.natAbs≤1000000000000000 by omega)
 have p2:=Ry b3 (show a.D.natAbs≤1000000000000000 by omega)
 rw [Nat.mul_comm] at p2
 have p4:0 < a.D.natAbs*b.N.natAbs:=Nat.mul_pos (by omega) (by omega)
 rw [Lw L a.N b.D hL ha.1 hb.2,I0 L a.D ha.2,I0 L b.N hb.1]
 simp only [Option.bind_some]
 rw [Lx L _ _ hL (by omega) (by omega) (by omega),Option.bind_some,j8 L _ _ _ hL (by omega) p4 (by omega),Option.bind_some]
theorem Ahu(L:Nat)(n d:Int)(hL:Bc≤L)(hn:Lz n)(hd:Lz d):Qb L n d=some (ofF n d):=by
 simp only [Qb,l6,Qb,aN,aB]
 unfold ofF
 by_cases h:d=0
 ·rw [beq_iff_eq.2 h,cond_true,cond_true]
 obtain ⟨n1,n2⟩:=hn
 obtain ⟨d1,d2⟩:=hd
 rw [beq_eq_false_iff_ne.2 h,cond_false,cond_false,I0 L n ⟨n1,n2⟩,I0 L d ⟨d1,d2⟩]
 simp only [Option.bind_some]
 rw [Qz (by omega),Qz (by omega),j8 L _ _ _ hL (by omega) (by omega) (by omega),Option.bind_some]
theorem Afn(L:Nat)(a:Aa)(hL:Bc≤L)(ha:Ih a):Lr L a=some (usF a):=by
 simp only [Lr,T6,Lr,aN,aB]
 rw [Kg L a hL ha,Option.bind_some]
 unfold usF
 cases VF a<;>rfl
theorem j9(L:Nat)(a b:Aa)(hL:Bc≤L)(ha:Ih a)(hb:Ih b):Ge L a b=some (Sd a b):=by
 simp only [Ge,Ym,Ge,aN,aB,Bool.and_true]
 rw [Afn L a hL ha,Option.bind_some,Afn L b hL hb,Option.bind_some]
 unfold Sd
 have ha:=Auw a
 have hb:=Auw b
 obtain ⟨x,ex⟩:∃x,usF a=x:=⟨_,rfl⟩
 obtain ⟨y,ey⟩:∃x,usF b=x:=⟨_,rfl⟩
 rw [ex] at ha ⊢
 rw [ey] at hb ⊢
 have ka:=Gu ha
 have kb:=Gu hb
 obtain ⟨a1,a2,a3,a4⟩:=C3.1 ha
 obtain ⟨b1,b2,b3,b4⟩:=C3.1 hb
 have p1:=Ry a3 (show y.D.natAbs≤1000000000000000 by omega)
 have p2:=Ry b3 (show x.D.natAbs≤1000000000000000 by omega)
 rw [D4 (n:=0 - y.N) (by unfold Lz;omega),Lw L x.N y.D hL ka.1 kb.2,Lw L (0 - y.N) x.D hL (by unfold Lz;omega) ka.2]
 simp only [Option.bind_some]
 obtain ⟨s,w,e,hsw,hwl⟩:=Afl L (!(decide (x.N < 0) == decide (y.D < 0))) (x.N.natAbs*y.D.natAbs) (!(decide (0 - y.N < 0) == decide (x.D < 0))) ((0 - y.N).natAbs*x.D.natAbs) (by rw [show (0 - y.N).natAbs=y.N.natAbs by omega];omega)
 rw [e,Option.bind_some]
 rw [k7,k7,Int.zero_sub,Int.neg_mul,←Int.sub_eq_add_neg] at hsw
 simp only [Adm]
 unfold Aks
 rw [←hsw]
 by_cases hw:w=0
 ·rw [decide_eq_true hw,cond_true,hw];cases s<;>rfl
 ·rw [decide_eq_false hw,cond_false]
  cases s
  ·exact congrArg some (Int.sign_eq_one_of_pos (by simp only [sv,cond_false];omega)).symm
  ·exact congrArg some (Int.sign_eq_neg_one_of_neg (by simp only [sv,cond_true];omega)).symm
end Go.Proofs.YtckmlfboedljeaaDoor.Ev
