/-  Numbers of two words in frac. -/
import Derived.Test.YtckmlfboedljeaaDoorNA
import Derived.Test.YtckmlfboedljeaaDoorG2
import Derived.Test.YtckmlfboedljeaaDoorQA
namespace Go.Proofs.YtckmlfboedljeaaDoor.Ev
open Go An
set_option maxRecDepth 100000
set_option linter.unusedVariables false
set_option linter.unusedSimpArgs false
set_option linter.unnecessarySimpa false
def Bc:Nat:=2 ^ 130
theorem Db{n L:Nat}(h:Bc≤L)(hn:n≤1361129467683753853853498429727072845824):n≤L:=Nat.le_trans hn h
def fW(w:Nat):Ak:=⟨((w/18446744073709551616:Nat):Int),((w % 18446744073709551616:Nat):Int)⟩
def Lz(n:Int):Prop:= -9223372036854775808≤n∧n≤9223372036854775807
theorem Ml(L:Nat)(n:Int)(h:Lz n):Ba L n=some (n.natAbs:Int):=by
 obtain ⟨h1,h2⟩:=h
 simp only [Ba,Ua,Ba,aN,aB]
 by_cases hn:n < 0
 ·rw [decide_eq_true hn,cond_true]
  congr 1
  simp only [IntKind.wrap_u64];omega
 ·rw [decide_eq_false hn,cond_false]
  congr 1
  simp only [IntKind.wrap_u64];omega
theorem P3{n:Int}(h0:0≤n)(h:n≤9223372036854775807):IntKind.wrap .u64 n=((n.natAbs:Nat):Int):=by
 rw [IntKind.wrap_u64];omega
theorem Qy(L a b:Nat)(ha:a < 18446744073709551616)(hb:b < 18446744073709551616):Bh L a b=some (fW (a*b)):=by
 simp only [Bh,Sx,Bh,aN,aB,Xx L a b ha hb,Option.bind_some,fW]
theorem m8(a b c:Nat):Acf a b c=(((a+b+c) % 18446744073709551616:Nat):Int):=rfl
theorem Aed(a b c:Nat):Aak a b c=(((a+b+c)/18446744073709551616:Nat):Int):=rfl
theorem z6(a b c:Nat):Att a b c=(((a+18446744073709551616 - b - c) % 18446744073709551616:Nat):Int):=rfl
theorem Agc(a b c:Nat):Al5 a b c=if a < b+c then 1 else 0:=by
 unfold Al5
 simp only [Int.toNat_natCast]
 by_cases h:a < b+c
 ·rw [show Nat.blt a (b+c)=true by simpa [Nat.blt_eq] using h,if_pos h]
 ·rw [show Nat.blt a (b+c)=false by rw [←Bool.not_eq_true];simpa [Nat.blt_eq] using h,if_neg h]
theorem As4(L a b:Nat)(h:a+b < 340282366920938463463374607431768211456):Hl L (fW a) (fW b)=some (fW (a+b)):=by
 have e0:(0:Int)=((0:Nat):Int):=rfl
 simp only [Hl,Nx,Hl,aN,aB,fW]
 rw [e0,Aed,m8,m8,Gf (by omega),Gf (by omega)]
 congr 2<;>(congr 1;omega)
theorem Am5(a b:Nat):(bif decide ((fW a).u_hi < (fW b).u_hi) then true else bif (fW a).u_hi == (fW b).u_hi then decide ((fW a).u_lo < (fW b).u_lo) else false)=decide (a < b):=by
 have e1:(fW a).u_hi=((a/18446744073709551616:Nat):Int):=rfl
 have e2:(fW b).u_hi=((b/18446744073709551616:Nat):Int):=rfl
 have e3:(fW a).u_lo=((a % 18446744073709551616:Nat):Int):=rfl
 have e4:(fW b).u_lo=((b % 18446744073709551616:Nat):Int):=rfl
 by_cases h1:(fW a).u_hi < (fW b).u_hi
 ·rw [decide_eq_true h1,cond_true];symm;rw [decide_eq_true_iff];omega
 ·rw [decide_eq_false h1,cond_false]
  by_cases h2:(fW a).u_hi=(fW b).u_hi
  ·rw [beq_iff_eq.2 h2,cond_true]
   apply decide_eq_decide.2
   omega
  ·rw [beq_eq_false_iff_ne.2 h2,cond_false];symm;rw [decide_eq_false_iff_not];omega
theorem Ajs{a b c d:Int}{t:Bool}(h:a=c)(k:b=d):some ((⟨a,b⟩:Ak),t)=some ((⟨c,d⟩:Ak),t):=by cases h;cases k;rfl
theorem Abn(L a b:Nat)(h:¬a < b)(ha:a < 340282366920938463463374607431768211456):B5 (L+1) (fW a) (fW b)=some (fW (a - b),false):=by
 have e0:(0:Int)=((0:Nat):Int):=rfl
 rw [B5]
 simp only [Gg,Jf,Gg,B5,aN,aB,Am5,decide_eq_false h,cond_false]
 simp only [fW]
 rw [e0]
 refine Eq.trans (if_pos (by omega)) (Eq.trans (if_pos (by rw [Agc];split<;>omega)) ?_)
 rw [Agc,z6]
 by_cases h2:a % 18446744073709551616 < b % 18446744073709551616+0
 ·rw [if_pos h2,show (1:Int)=((1:Nat):Int) from rfl,z6]
  refine Ajs ?_ ?_<;>omega
 ·rw [if_neg h2,show (0:Int)=((0:Nat):Int) from rfl,z6]
  refine Ajs ?_ ?_<;>omega
theorem Apf(L a b:Nat)(hL:2≤L)(ha:a < 340282366920938463463374607431768211456)(hb:b < 340282366920938463463374607431768211456):B5 L (fW a) (fW b)=some (fW (if a < b then b - a else a - b),decide (a < b)):=by
 obtain ⟨L,rfl⟩:∃l,L=l+2:=⟨L - 2,by omega⟩
 by_cases h:a < b
 ·rw [B5,if_pos h,decide_eq_true h]
  unfold Gg Jf
  simp only [aN,aB,Am5,decide_eq_true h,cond_true]
  rw [Abn L b a (by omega) hb,Option.bind_some]
 ·rw [if_neg h,decide_eq_false h];exact Abn (L+1) a b h ha
def sv(m:Bool)(w:Nat):Int:=bif m then -(w:Int) else (w:Int)
theorem Abp(L:Nat)(m:Bool)(a:Nat)(k:Bool)(b:Nat)(hL:2≤L)(h:a+b < 340282366920938463463374607431768211456):
  ∃s w,Df L m (fW a) k (fW b)=some (s,fW w)∧sv s w=sv m a+sv k b∧w≤a+b:=by
 simp only [Df,Rq,Df,aN,aB]
 by_cases hmk:m=k
 ·subst hmk
  rw [beq_self_eq_true,cond_true,As4 L a b h,Option.bind_some]
  refine ⟨_,_,rfl,?_,Nat.le_refl _⟩
  cases m<;>simp [sv]<;>omega
 ·rw [beq_eq_false_iff_ne.2 hmk,cond_false,Apf L a b hL (by omega) (by omega),Option.bind_some]
  refine ⟨_,_,rfl,?_,by split<;>omega⟩
  by_cases hab:a < b
  ·rw [decide_eq_true hab,if_pos hab]
   cases m<;>cases k<;>first|exact absurd rfl hmk|(simp [sv];omega)
  ·rw [decide_eq_false hab,if_neg hab]
   cases m<;>cases k<;>first|exact absurd rfl hmk|(simp [sv];omega)
theorem Anm(L:Nat):∀(n b a:Nat),b < n→∃v,Kw L n a b=some (0,(((Nat.gcd a b:Nat):Int),v)):=by
 intro n
 induction n with
 |zero=>intro b a h;omega
 |succ n ih=>
  intro b a h
  rw [Kw]
  simp only [Rw,aN,aB]
  by_cases hb:b=0
  ·subst hb
   exact ⟨_,by rw [show ((((0:Nat):Int)) != 0)=false from rfl,cond_false,Nat.gcd_zero_right]⟩
  ·rw [show (((b:Nat):Int) != 0)=true by simp;omega,cond_true,show (!decide (((b:Nat):Int)=0))=true by simp;omega,cond_true,Sk]
   obtain ⟨v,e⟩:=ih (a % b) b (by have:=Nat.mod_lt a (Nat.pos_of_ne_zero hb);omega)
   exact ⟨v,by rw [e,Nat.gcd_comm a b,Nat.gcd_rec b a,Nat.gcd_comm]⟩
theorem Y7(L a b:Nat)(hL:Bc≤L)(hb:b < 18446744073709551616):Gs L a b=some ((Nat.gcd a b:Nat):Int):=by
 obtain ⟨v,e⟩:=Anm L L b a (Nat.lt_of_lt_of_le hb (Db hL (by decide)))
 simp only [Gs,m7,I9,Gs,I9,aN,aB,e,Option.bind_some,I9,Vl]
theorem Ata(L w m:Nat)(hL:2≤L)(hm:0 < m)(hm2:m < 18446744073709551616):Iv L (fW w) m=some ((w % m:Nat):Int):=by
 simp only [Iv,Pe,Iv,aN,aB,fW,Sk]
 rw [show (!decide (((m:Nat):Int)=0))=true by simp;omega,cond_true,v7 L _ _ m hL (Nat.mod_lt _ hm) (Nat.mod_lt _ (by decide)) hm2,Option.bind_some]
 congr 2
 have e:w=w/18446744073709551616*18446744073709551616+w % 18446744073709551616:=by omega
 conv=>rhs;rw [e]
 rw [Nat.add_mod,Nat.mul_mod,Nat.mod_mod,←Nat.mul_mod,←Nat.add_mod]
theorem As3(L w m:Nat)(hL:2≤L)(hm2:m < 18446744073709551616):Hk L (fW w) m=some (if m*18446744073709551616≤w then (0,false) else (((w/m:Nat):Int),true)):=by
 have e1:(fW w).u_hi=((w/18446744073709551616:Nat):Int):=rfl
 have e2:(fW w).u_lo=((w % 18446744073709551616:Nat):Int):=rfl
 simp only [Hk,Nw,Hk,aN,aB]
 by_cases h:(fW w).u_hi≥(m:Int)
 ·rw [decide_eq_true h,cond_true,if_pos (by omega)]
 ·rw [decide_eq_false h,cond_false,e1,e2,v7 L _ _ m hL (by omega) (Nat.mod_lt _ (by decide)) hm2,Option.bind_some,if_neg (by omega),Nat.div_add_mod']
end Go.Proofs.YtckmlfboedljeaaDoor.Ev
namespace Go.Proofs.YtckmlfboedljeaaDoor.Ev
open Go An
set_option maxRecDepth 100000
set_option linter.unusedVariables false
set_option linter.unusedSimpArgs false
set_option linter.unnecessarySimpa false
def VF(a:Aa):Bool:=decide (1≤a.D∧a.D≤1000000000000000∧a.N.natAbs≤4611686018427387904∧Nat.gcd a.N.natAbs a.D.natAbs=1)
theorem C3{a:Aa} :VF a=true↔(1≤a.D∧a.D≤1000000000000000∧a.N.natAbs≤4611686018427387904∧Nat.gcd a.N.natAbs a.D.natAbs=1):=by simp only [VF,decide_eq_true_iff]
def Ih(a:Aa):Prop:=Lz a.N∧Lz a.D
def lim(m:Bool)(n d:Nat):Aa×Bool:=if n≤4611686018427387904∧d≤1000000000000000 then (⟨sv m n,(d:Int)⟩,true) else (⟨0,0⟩,false)
def Yh(s:Int)(d:Nat):Aa×Bool:=lim (decide (s < 0)) (s.natAbs/Nat.gcd s.natAbs d) (d/Nat.gcd s.natAbs d)
theorem Ao0(m k:Bool)(d:Nat):lim m 0 d=lim k 0 d:=by
 cases m<;>cases k<;>rfl
theorem Oj{m:Bool}{n d:Nat}(h:4611686018427387904 < n∨1000000000000000 < d):lim m n d=(⟨0,0⟩,false):=by
 unfold lim;rw [if_neg (by omega)]
theorem Ac9{s:Int}{n d k D:Nat}(hn:s.natAbs=n*k)(hd:D=d*k)(hg:Nat.gcd n d=1)(hk:0 < k):Yh s D=lim (decide (s < 0)) n d:=by
 unfold Yh
 have e:Nat.gcd s.natAbs D=k:=by rw [hn,hd,Nat.gcd_mul_right,hg,Nat.one_mul]
 rw [e,hn,hd,Nat.mul_div_cancel _ hk,Nat.mul_div_cancel _ hk]
theorem z7(m:Bool)(w:Nat):(sv m w).natAbs=w:=by cases m<;>simp [sv]
theorem Ro(n:Int):sv (decide (n < 0)) n.natAbs=n:=by
 by_cases h:n < 0
 ·simp only [sv,h,decide_true,cond_true];omega
 ·simp only [sv,h,decide_false,cond_false];omega
theorem Pl(m:Bool)(a b:Nat):sv m (a*b)=sv m a*(b:Int):=by cases m<;>simp [sv,Int.neg_mul]
theorem Ari{m:Bool}{w:Nat}(h:w≠0):decide (sv m w < 0)=m:=by
 cases m
 ·exact decide_eq_false (by simp only [sv,cond_false];omega)
 ·exact decide_eq_true (by simp only [sv,cond_true];omega)
theorem Arj(m:Bool)(w:Nat):sv (!m) w= -sv m w:=by cases m<;>simp [sv]
theorem Agu{p w:Nat}{m:Bool} :(p:Int) ∣ sv m w↔p ∣ w:=by
 cases m
 ·simp [sv,Int.natCast_dvd_natCast]
 ·simp [sv,Int.natCast_dvd_natCast,Int.dvd_neg]
theorem At0{w an b' bn a':Nat}{s m k:Bool}(h:sv s w=sv m (an*b')+sv k (bn*a'))(h1:Nat.Coprime a' b')(h2:Nat.Coprime an a'):Nat.Coprime w a':=by
 have hp1:Nat.gcd w a' ∣ w:=Nat.gcd_dvd_left ..
 have hp2:Nat.gcd w a' ∣ a':=Nat.gcd_dvd_right ..
 have d1:((Nat.gcd w a':Nat):Int) ∣ sv s w:=Agu.2 hp1
 have d2:((Nat.gcd w a':Nat):Int) ∣ sv k (bn*a'):=Agu.2 (Nat.dvd_trans hp2 (Nat.dvd_mul_left ..))
 have d3:Nat.gcd w a' ∣ an*b':=by
  refine Agu (m:=m).1 ?_
  rw [h] at d1
  exact (Int.dvd_iff_dvd_of_dvd_add d1).2 d2
 have d4:Nat.gcd w a' ∣ an:=Nat.Coprime.dvd_of_dvd_mul_right (Nat.Coprime.coprime_dvd_left hp2 h1) d3
 have:=Nat.dvd_gcd d4 hp2
 rw [h2] at this
 exact Nat.dvd_one.1 this
theorem Atv{an ad bn bd w:Nat}{s m k:Bool}(ha:Nat.gcd an ad=1)(hb:Nat.gcd bn bd=1)(had:0 < ad)(hbd:0 < bd)
  (h:sv s w=sv m (an*(bd/Nat.gcd ad bd))+sv k (bn*(ad/Nat.gcd ad bd))) (hw:w≠0):
  Yh (sv m an*(bd:Int)+sv k bn*(ad:Int)) (ad*bd)=lim s (w/Nat.gcd w (Nat.gcd ad bd)) (ad/Nat.gcd ad bd*(bd/Nat.gcd w (Nat.gcd ad bd))):=by
 have hg:0 < Nat.gcd ad bd:=Nat.gcd_pos_of_pos_left _ had
 obtain ⟨g,eg⟩:∃g,Nat.gcd ad bd=g:=⟨_,rfl⟩
 have h0:Nat.Coprime (ad/g) (bd/g):=by rw [←eg];exact Nat.coprime_div_gcd_div_gcd hg
 have g1:g ∣ ad:=by rw [←eg];exact Nat.gcd_dvd_left ..
 have g2:g ∣ bd:=by rw [←eg];exact Nat.gcd_dvd_right ..
 rw [eg] at h hg ⊢
 obtain ⟨a',ea⟩:∃a',ad/g=a':=⟨_,rfl⟩
 obtain ⟨b',eb⟩:∃b',bd/g=b':=⟨_,rfl⟩
 have da:ad=a'*g:=by rw [←ea,Nat.div_mul_cancel g1]
 have db:bd=b'*g:=by rw [←eb,Nat.div_mul_cancel g2]
 rw [ea,eb] at h h0
 rw [ea]
 have c1:Nat.Coprime w a':=At0 h h0 (Nat.Coprime.coprime_dvd_right (by rw [da];exact Nat.dvd_mul_right ..) ha)
 have c2:Nat.Coprime w b':=At0 (by rw [h,Int.add_comm]) h0.symm (Nat.Coprime.coprime_dvd_right (by rw [db];exact Nat.dvd_mul_right ..) hb)
 have ht:0 < Nat.gcd w g:=Nat.gcd_pos_of_pos_right _ hg
 have c3:Nat.Coprime (w/Nat.gcd w g) (g/Nat.gcd w g):=Nat.coprime_div_gcd_div_gcd ht
 have t1:Nat.gcd w g ∣ w:=Nat.gcd_dvd_left ..
 have t2:Nat.gcd w g ∣ g:=Nat.gcd_dvd_right ..
 obtain ⟨t,et⟩:∃t,Nat.gcd w g=t:=⟨_,rfl⟩
 rw [et] at c3 t1 t2 ht ⊢
 have hbt:bd/t=b'*(g/t):=by rw [db,Nat.mul_div_assoc _ t2]
 have hS:sv m an*(bd:Int)+sv k bn*(ad:Int)=sv s w*(g:Int):=by
  rw [h,Int.add_mul,←Pl,←Pl,←Pl,←Pl,db,da,Nat.mul_assoc,Nat.mul_assoc]
 have e2:=Ac9 (s:=sv s w*(g:Int)) (n:=w/t) (d:=a'*(bd/t)) (k:=g*t) (D:=ad*bd)
  (by
   rw [Int.natAbs_mul,z7,Int.natAbs_natCast]
   rw [Nat.mul_comm g t,←Nat.mul_assoc,Nat.div_mul_cancel t1])
  (by
   rw [hbt]
   rw [show a'*(b'*(g/t))*(g*t)=a'*b'*((g/t)*t)*g by ac_rfl,Nat.div_mul_cancel t2,da,db]
   ac_rfl)
  (by
   rw [hbt]
   refine Nat.Coprime.mul_right (Nat.Coprime.coprime_dvd_left (Nat.div_dvd_of_dvd t1) c1) (Nat.Coprime.mul_right (Nat.Coprime.coprime_dvd_left (Nat.div_dvd_of_dvd t1) c2) c3))
  (Nat.mul_pos hg ht)
 rw [hS,e2]
 congr 1
 rw [←Pl,Ari (Nat.mul_ne_zero hw (by omega))]
theorem Asu{an ad bn bd:Nat}{m:Bool}(ha:Nat.gcd an ad=1)(hb:Nat.gcd bn bd=1)(had:0 < ad)(hbd:0 < bd):
  Yh (sv m (an*bn)) (ad*bd)=lim (decide (sv m (an*bn) < 0)) (an/Nat.gcd an bd*(bn/Nat.gcd bn ad)) (ad/Nat.gcd bn ad*(bd/Nat.gcd an bd)):=by
 have hx:0 < Nat.gcd an bd:=Nat.gcd_pos_of_pos_right _ hbd
 have hy:0 < Nat.gcd bn ad:=Nat.gcd_pos_of_pos_right _ had
 have c1:=Nat.coprime_div_gcd_div_gcd hx
 have c2:=Nat.coprime_div_gcd_div_gcd hy
 have x1:Nat.gcd an bd ∣ an:=Nat.gcd_dvd_left ..
 have x2:Nat.gcd an bd ∣ bd:=Nat.gcd_dvd_right ..
 have y1:Nat.gcd bn ad ∣ bn:=Nat.gcd_dvd_left ..
 have y2:Nat.gcd bn ad ∣ ad:=Nat.gcd_dvd_right ..
 have c3:Nat.Coprime (an/Nat.gcd an bd) (ad/Nat.gcd bn ad):=Nat.Coprime.coprime_dvd_left (Nat.div_dvd_of_dvd x1) (Nat.Coprime.coprime_dvd_right (Nat.div_dvd_of_dvd y2) ha)
 have c4:Nat.Coprime (bn/Nat.gcd bn ad) (bd/Nat.gcd an bd):=Nat.Coprime.coprime_dvd_left (Nat.div_dvd_of_dvd y1) (Nat.Coprime.coprime_dvd_right (Nat.div_dvd_of_dvd x2) hb)
 refine Ac9 (k:=Nat.gcd an bd*Nat.gcd bn ad) ?_ ?_ ?_ (Nat.mul_pos hx hy)
 ·rw [z7]
  rw [Nat.mul_mul_mul_comm,Nat.div_mul_cancel x1,Nat.div_mul_cancel y1]
 ·rw [Nat.mul_comm (Nat.gcd an bd),Nat.mul_mul_mul_comm,Nat.div_mul_cancel y2,Nat.div_mul_cancel x2]
 ·exact Nat.Coprime.mul_left (Nat.Coprime.mul_right c3 c1) (Nat.Coprime.mul_right c2 c4)
theorem Awk{m:Bool}{n d:Nat}(hg:Nat.gcd n d=1)(hd:0 < d):(lim m n d).2=true→VF (lim m n d).1=true:=by
 unfold lim
 split
 ·rename_i h
  intro _
  rw [C3]
  dsimp only
  rw [z7,Int.natAbs_natCast]
  omega
 ·intro h;cases h
theorem Ac8{s:Int}{d:Nat}(hd:0 < d):(Yh s d).2=true→VF (Yh s d).1=true:=by
 have hg:0 < Nat.gcd s.natAbs d:=Nat.gcd_pos_of_pos_right _ hd
 exact Awk (Nat.coprime_div_gcd_div_gcd hg) (Nat.div_pos (Nat.le_of_dvd hd (Nat.gcd_dvd_right ..)) hg)
theorem Ahl{s:Int}{d:Nat} :(Yh s d).2=false→(Yh s d).1=⟨0,0⟩:=by
 unfold Yh lim;split<;>intro h
 ·cases h
 ·rfl
theorem Gu{a:Aa}(h:VF a=true):Ih a:=by
 rw [C3] at h;unfold Ih Lz;omega
end Go.Proofs.YtckmlfboedljeaaDoor.Ev
namespace Go.Proofs.YtckmlfboedljeaaDoor.Ev
open Go An
set_option maxRecDepth 100000
set_option linter.unusedVariables false
set_option linter.unusedSimpArgs false
set_option linter.unnecessarySimpa false
theorem Mk(L:Nat)(a:Aa)(hL:Bc≤L)(h:Ih a):Cg L a=some (VF a):=by
 simp only [Cg,Sw,Cg,aN,aB]
 by_cases h1:a.D≥1
 ·by_cases h2:a.D≤1000000000000000
  ·rw [decide_eq_true h1,cond_true,decide_eq_true h2,cond_true,Ml L a.N h.1,Option.bind_some]
   by_cases h3:((a.N.natAbs:Nat):Int)≤4611686018427387904
   ·rw [decide_eq_true h3,cond_true,Option.bind_some,P3 (by omega) (by omega),Y7 L _ _ hL (by omega),Option.bind_some]
    congr 1
    apply Bool.eq_iff_iff.2
    rw [beq_iff_eq,C3]
    constructor
    ·intro h;exact ⟨h1,h2,by omega,by omega⟩
    ·intro h;have:=h.2.2.2;omega
   ·rw [decide_eq_false h3,cond_false];unfold VF;rw [decide_eq_false (by omega)]
  ·rw [decide_eq_true h1,cond_true,decide_eq_false h2,cond_false];unfold VF;rw [decide_eq_false (fun h=>h2 h.2.1)]
 ·rw [decide_eq_false h1,cond_false];unfold VF;rw [decide_eq_false (fun h=>h1 h.1)]
theorem D4{n:Int}(h:Lz n):B1 n=n:=by
 obtain ⟨h1,h2⟩:=h
 unfold B1;rw [IntKind.wrap_i64];omega
theorem Adf(L:Nat)(m:Bool)(n d:Nat):Jx L m n d=some (lim m n d):=by
 simp only [Jx,T9,Jx,aN,aB]
 by_cases h1:(n:Int) > 4611686018427387904
 ·rw [decide_eq_true h1,cond_true,cond_true,Oj (by omega)]
 ·by_cases h2:(d:Int) > 1000000000000000
  ·rw [decide_eq_false h1,decide_eq_true h2,cond_false,cond_true,Oj (by omega)]
  ·rw [decide_eq_false h1,decide_eq_false h2,cond_false,cond_false]
   have e1:B1 (n:Int)=(n:Int):=D4 (by unfold Lz;omega)
   have e2:B1 (d:Int)=(d:Int):=D4 (by unfold Lz;omega)
   have e3:B1 (0 - (n:Int))= -(n:Int):=by rw [D4 (by unfold Lz;omega)];omega
   unfold lim
   rw [e1,e2,e3,if_pos (by omega)]
   cases m<;>rfl
theorem Ajd(w:Nat):(((fW w).u_hi == 0) && ((fW w).u_lo == 0))=decide (w=0):=by
 have e1:(fW w).u_hi=((w/18446744073709551616:Nat):Int):=rfl
 have e2:(fW w).u_lo=((w % 18446744073709551616:Nat):Int):=rfl
 rw [e1,e2]
 by_cases h:w=0
 ·subst h;rfl
 ·rw [decide_eq_false h,Bool.and_eq_false_iff,beq_eq_false_iff_ne,beq_eq_false_iff_ne];omega
theorem At5(w:Nat):((fW w).u_hi != 0)=decide (18446744073709551616≤w):=by
 have e1:(fW w).u_hi=((w/18446744073709551616:Nat):Int):=rfl
 rw [e1]
 by_cases h:18446744073709551616≤w
 ·rw [decide_eq_true h,bne_iff_ne];omega
 ·rw [decide_eq_false h,bne_eq_false_iff_eq];omega
theorem Ao2{w:Nat}(h:¬18446744073709551616≤w):(fW w).u_lo=(w:Int):=by
 show ((w % 18446744073709551616:Nat):Int)=_
 omega
theorem tm0(a b:Nat):IntKind.wrap .u64 (Int.tdiv (a:Int) (b:Int))=(((a/b) % 18446744073709551616:Nat):Int):=by rw [Yc,Ye]
theorem S7(a b:Nat):a/b≤a:=Nat.div_le_self a b
theorem tm1{a b:Nat}(h:a < 18446744073709551616):IntKind.wrap .u64 (Int.tdiv (a:Int) (b:Int))=((a/b:Nat):Int):=by
 rw [tm0,Nat.mod_eq_of_lt (Nat.lt_of_le_of_lt (Nat.div_le_self ..) h)]
theorem Ry{a b:Nat}(ha:a≤4611686018427387904)(hb:b≤1000000000000000):a*b≤4611686018427387904000000000000000:=Nat.mul_le_mul ha hb
def Al6(a b:Aa)(m:Bool):Int:=a.N*b.D+(bif m then -b.N else b.N)*a.D
def Bt(a b:Aa)(m:Bool):Aa×Bool:=bif VF a && VF b then Yh (Al6 a b m) (a.D.natAbs*b.D.natAbs) else (⟨0,0⟩,false)
theorem Api(L:Nat)(a b:Aa)(m:Bool)(hL:Bc≤L)(ha:Ih a)(hb:Ih b):M8 L a b m=some (Bt a b m):=by
 have hL2:2≤L:=Db hL (by decide)
 simp only [M8,Wb,M8,aN,aB]
 rw [Mk L a hL ha,Option.bind_some]
 unfold Bt
 cases h1:VF a
 ·rfl
 rw [Bool.not_true,cond_false,Mk L b hL hb]
 cases h2:VF b
 ·rfl
 obtain ⟨a1,a2,a3,a4⟩:=C3.1 h1
 obtain ⟨b1,b2,b3,b4⟩:=C3.1 h2
 simp only [Bool.not_true,Bool.and_true,cond_true,cond_false,Option.bind_some]
 have eS:Al6 a b m=sv (decide (a.N < 0)) a.N.natAbs*((b.D.natAbs:Nat):Int)+sv (!(decide (b.N < 0) == m)) b.N.natAbs*((a.D.natAbs:Nat):Int):=by
  have e1:sv (!(decide (b.N < 0) == m)) b.N.natAbs=bif m then -b.N else b.N:=by
   have:=Ro b.N
   cases m
   ·rw [cond_false]
    conv=>rhs;rw [←this]
    cases decide (b.N < 0)<;>rfl
   ·rw [cond_true]
    conv=>rhs;rw [←this,←Arj]
    cases decide (b.N < 0)<;>rfl
  rw [e1,Ro,show ((b.D.natAbs:Nat):Int)=b.D by omega,show ((a.D.natAbs:Nat):Int)=a.D by omega];rfl
 rw [eS,Ml L a.N ha.1,Ml L b.N hb.1,P3 (n:=a.D) (by omega) (by omega),P3 (n:=b.D) (by omega) (by omega)]
 obtain ⟨s1,es1⟩:∃s,decide (a.N < 0)=s:=⟨_,rfl⟩
 obtain ⟨s2,es2⟩:∃s,(!(decide (b.N < 0) == m))=s:=⟨_,rfl⟩
 rw [es1,es2]
 clear es1 es2 eS
 obtain ⟨ad,ead⟩:∃n,a.D.natAbs=n:=⟨_,rfl⟩
 obtain ⟨bd,ebd⟩:∃n,b.D.natAbs=n:=⟨_,rfl⟩
 obtain ⟨an,ean⟩:∃n,a.N.natAbs=n:=⟨_,rfl⟩
 obtain ⟨bn,ebn⟩:∃n,b.N.natAbs=n:=⟨_,rfl⟩
 have had:0 < ad:=by omega
 have hbd:0 < bd:=by omega
 have had2:ad≤1000000000000000:=by omega
 have hbd2:bd≤1000000000000000:=by omega
 rw [ean] at a3 a4 ⊢
 rw [ebn] at b3 b4 ⊢
 rw [ead] at a4 ⊢
 rw [ebd] at b4 ⊢
 clear ean ebn ead ebd a1 a2 b1 b2 ha hb h1 h2
 have hg:0 < Nat.gcd ad bd:=Nat.gcd_pos_of_pos_left _ had
 have hgl:Nat.gcd ad bd≤ad:=Nat.gcd_le_left _ had
 rw [Y7 L ad bd hL (by omega)]
 simp only [Option.bind_some]
 rw [show (!decide (((Nat.gcd ad bd:Nat):Int)=0))=true by simp;omega,cond_true,tm1 (by omega),tm1 (by omega)]
 have l1:=S7 bd (Nat.gcd ad bd)
 have l2:=S7 ad (Nat.gcd ad bd)
 rw [Qy L _ _ (by omega) (by omega),Option.bind_some,cond_true,Qy L _ _ (by omega) (by omega),Option.bind_some]
 have p1:=Ry a3 (show bd/Nat.gcd ad bd≤1000000000000000 by omega)
 have p2:=Ry b3 (show ad/Nat.gcd ad bd≤1000000000000000 by omega)
 obtain ⟨s,w,e,hsw,hwl⟩:=Abp L s1 (an*(bd/Nat.gcd ad bd)) s2 (bn*(ad/Nat.gcd ad bd)) hL2 (by omega)
 rw [e,Option.bind_some]
 simp only [Ajd,Bool.and_true]
 by_cases hw:w=0
 ·rw [decide_eq_true hw,cond_true]
  subst hw
  have e0:sv s1 an*((bd:Nat):Int)+sv s2 bn*((ad:Nat):Int)=0:=by
   have h3:sv s 0=0:=by cases s<;>rfl
   rw [h3] at hsw
   have q1:bd=bd/Nat.gcd ad bd*Nat.gcd ad bd:=(Nat.div_mul_cancel (Nat.gcd_dvd_right ..)).symm
   have q2:ad=ad/Nat.gcd ad bd*Nat.gcd ad bd:=(Nat.div_mul_cancel (Nat.gcd_dvd_left ..)).symm
   rw [←Pl,←Pl]
   conv=>lhs;lhs;rw [q1]
   conv=>lhs;rhs;rw [q2]
   rw [←Nat.mul_assoc,←Nat.mul_assoc,Pl s1,Pl s2,←Int.add_mul,←hsw,Int.zero_mul]
  rw [e0]
  have:=Ac9 (s:=0) (n:=0) (d:=1) (k:=ad*bd) (D:=ad*bd) (by omega) (by omega) (by decide) (Nat.mul_pos had hbd)
  rw [this];rfl
 ·rw [decide_eq_false hw,cond_false,Atv a4 b4 had hbd hsw hw,Ata L w _ hL2 hg (by omega),Option.bind_some,Y7 L _ _ hL (by omega),Option.bind_some]
  rw [show Nat.gcd (w % Nat.gcd ad bd) (Nat.gcd ad bd)=Nat.gcd w (Nat.gcd ad bd) by rw [Nat.gcd_comm w,←Nat.gcd_rec]]
  have ht:0 < Nat.gcd w (Nat.gcd ad bd):=Nat.gcd_pos_of_pos_right _ hg
  have ht2:Nat.gcd w (Nat.gcd ad bd)≤Nat.gcd ad bd:=Nat.gcd_le_right _ hg
  obtain ⟨t,et⟩:∃t,Nat.gcd w (Nat.gcd ad bd)=t:=⟨_,rfl⟩
  rw [et] at ht ht2 ⊢
  rw [As3 L w t hL2 (by omega),Option.bind_some,cond_true,show (!decide (((t:Nat):Int)=0))=true by simp;omega,cond_true,tm1 (by omega)]
  have l3:=S7 bd t
  rw [Qy L _ _ (by omega) (by omega),Option.bind_some]
  by_cases hov:t*18446744073709551616≤w
  ·rw [if_pos hov]
   simp only [Bool.not_false,cond_true]
   rw [Oj]
   left
   have:18446744073709551616≤w/t:=(Nat.le_div_iff_mul_le ht).2 (by rw [Nat.mul_comm];exact hov)
   omega
  ·rw [if_neg hov]
   simp only [Bool.not_true,cond_false,At5]
   by_cases hd:18446744073709551616≤ad/Nat.gcd ad bd*(bd/t)
   ·rw [decide_eq_true hd,cond_true,Oj (by omega)]
   ·rw [decide_eq_false hd,cond_false,Ao2 hd,Adf,Option.bind_some]
theorem Adb(L:Nat)(a b:Aa)(hL:Bc≤L)(ha:Ih a)(hb:Ih b):Gr L a b=some (Bt a b false):=by
 simp only [Gr,V6,Gr,aN,aB,Api L a b _ hL ha hb,Option.bind_some]
theorem Ahr(L:Nat)(a b:Aa)(hL:Bc≤L)(ha:Ih a)(hb:Ih b):Jw L a b=some (Bt a b true):=by
 simp only [Jw,Wa,Jw,aN,aB,Api L a b _ hL ha hb,Option.bind_some]
end Go.Proofs.YtckmlfboedljeaaDoor.Ev
namespace Go.Proofs.YtckmlfboedljeaaDoor.Ev
open Go An
set_option maxRecDepth 100000
set_option linter.unusedVariables false
set_option linter.unusedSimpArgs false
set_option linter.unnecessarySimpa false
theorem v8(L:Nat)(m:Bool)(an ad bn bd:Nat)(hL:Bc≤L)(ha:Nat.gcd an ad=1)(hb:Nat.gcd bn bd=1)(had:0 < ad)(hbd:0 < bd)
  (l1:an < 18446744073709551616) (l2:bn < 18446744073709551616) (l3:ad < 18446744073709551616) (l4:bd < 18446744073709551616):
  Hj L m an ad bn bd=some (Yh (sv m (an*bn)) (ad*bd)):=by
 simp only [Hj,Qk,Hj,aN,aB]
 rw [Y7 L an bd hL l4,Option.bind_some,Y7 L bn ad hL l3,Option.bind_some,Asu ha hb had hbd]
 have hx:0 < Nat.gcd an bd:=Nat.gcd_pos_of_pos_right _ hbd
 have hy:0 < Nat.gcd bn ad:=Nat.gcd_pos_of_pos_right _ had
 have hs:an*bn=an/Nat.gcd an bd*(bn/Nat.gcd bn ad)*(Nat.gcd an bd*Nat.gcd bn ad):=by
  rw [Nat.mul_mul_mul_comm,Nat.div_mul_cancel (Nat.gcd_dvd_left ..),Nat.div_mul_cancel (Nat.gcd_dvd_left ..)]
 obtain ⟨x,ex⟩:∃t,Nat.gcd an bd=t:=⟨_,rfl⟩
 obtain ⟨y,ey⟩:∃t,Nat.gcd bn ad=t:=⟨_,rfl⟩
 rw [ex] at hx hs ⊢
 rw [ey] at hy hs ⊢
 have q1:=S7 an x
 have q2:=S7 bn y
 have q3:=S7 ad y
 have q4:=S7 bd x
 rw [show (!decide (((x:Nat):Int)=0))=true by simp;omega,cond_true,show (!decide (((y:Nat):Int)=0))=true by simp;omega,cond_true,
  tm1 l1,tm1 l2,tm1 l3,tm1 l4,Qy L _ _ (by omega) (by omega),Qy L _ _ (by omega) (by omega),Option.bind_some,cond_true,cond_true,Option.bind_some]
 simp only [At5]
 by_cases h1:18446744073709551616≤an/x*(bn/y)
 ·rw [decide_eq_true h1,cond_true,cond_true,Oj (by omega)]
 ·rw [decide_eq_false h1,cond_false,Ao2 h1]
  by_cases h2:18446744073709551616≤ad/y*(bd/x)
  ·rw [decide_eq_true h2,cond_true,Oj (by omega)]
  ·rw [decide_eq_false h2,cond_false,Ao2 h2,Adf,Option.bind_some]
   have e2:an*bn=0↔an/x*(bn/y)=0:=by
    constructor
    ·intro h;rw [h] at hs
     have:0 < x*y:=Nat.mul_pos hx hy
     rcases Nat.mul_eq_zero.1 hs.symm with h|h
     ·exact h
     ·omega
    ·intro h;rw [hs,h,Nat.zero_mul]
   have e:(bif m then ((an/x*(bn/y):Nat):Int) != 0 else false)=decide (sv m (an*bn) < 0):=by
    cases m
    ·exact (decide_eq_false (by simp only [sv,cond_false];omega)).symm
    ·rw [cond_true]
     apply Bool.eq_iff_iff.2
     rw [bne_iff_ne,decide_eq_true_iff]
     simp only [sv,cond_true]
     omega
   rw [e]
def Wr(a b:Aa):Aa×Bool:=bif VF a && VF b then Yh (sv (!(decide (a.N < 0) == decide (b.N < 0))) (a.N.natAbs*b.N.natAbs)) (a.D.natAbs*b.D.natAbs) else (⟨0,0⟩,false)
def S5(a b:Aa):Aa×Bool:=bif VF a && VF b && (b.N != 0) then Yh (sv (!(decide (a.N < 0) == decide (b.N < 0))) (a.N.natAbs*b.D.natAbs)) (a.D.natAbs*b.N.natAbs) else (⟨0,0⟩,false)
theorem Awp(L:Nat)(a b:Aa)(hL:Bc≤L)(ha:Ih a)(hb:Ih b):M7 L a b=some (Wr a b):=by
 simp only [M7,V9,M7,aN,aB]
 rw [Mk L a hL ha,Option.bind_some]
 unfold Wr
 cases h1:VF a
 ·rfl
 rw [Bool.not_true,cond_false,Mk L b hL hb]
 cases h2:VF b
 ·rfl
 obtain ⟨a1,a2,a3,a4⟩:=C3.1 h1
 obtain ⟨b1,b2,b3,b4⟩:=C3.1 h2
 simp only [Bool.not_true,Bool.and_true,cond_true,cond_false,Option.bind_some]
 rw [Ml L a.N ha.1,Ml L b.N hb.1,P3 (n:=a.D) (by omega) (by omega),P3 (n:=b.D) (by omega) (by omega)]
 simp only [Option.bind_some]
 rw [v8 L _ _ _ _ _ hL a4 b4 (by omega) (by omega) (by omega) (by omega) (by omega) (by omega),Option.bind_some]
theorem Ahq(L:Nat)(a b:Aa)(hL:Bc≤L)(ha:Ih a)(hb:Ih b):Lb L a b=some (S5 a b):=by
 simp only [Lb,V8,Lb,aN,aB]
 rw [Mk L a hL ha,Option.bind_some]
 unfold S5
 cases h1:VF a
 ·rfl
 rw [Bool.not_true,cond_false,Mk L b hL hb]
 cases h2:VF b
 ·rfl
 obtain ⟨a1,a2,a3,a4⟩:=C3.1 h1
 obtain ⟨b1,b2,b3,b4⟩:=C3.1 h2
 simp only [Bool.not_true,Bool.and_true,Bool.true_and,cond_true,cond_false,Option.bind_some]
 by_cases h3:b.N=0
 ·rw [beq_iff_eq.2 h3,cond_true,bne_eq_false_iff_eq.2 h3,cond_false]
 rw [beq_eq_false_iff_ne.2 h3,cond_false,bne_iff_ne.2 h3,cond_true]
 rw [Ml L a.N ha.1,Ml L b.N hb.1,P3 (n:=a.D) (by omega) (by omega),P3 (n:=b.D) (by omega) (by omega)]
 simp only [Option.bind_some]
 rw [v8 L _ _ _ _ _ hL a4 (by rw [Nat.gcd_comm];exact b4) (by omega) (by omega) (by omega) (by omega) (by omega) (by omega),Option.bind_some]
def ofF(n d:Int):Aa×Bool:=bif d == 0 then (⟨0,0⟩,false) else Yh (sv (!(decide (n < 0) == decide (d < 0))) n.natAbs) d.natAbs
theorem Aum(m:Bool)(n d:Nat)(hd:0 < d):lim m (n/Nat.gcd n d) (d/Nat.gcd n d)=Yh (sv m n) d:=by
 unfold Yh
 rw [z7]
 by_cases h:n=0
 ·subst h;rw [Nat.zero_div];exact Ao0 _ _ _
 ·rw [Ari h]
theorem Aya(L:Nat)(n d:Int)(hL:Bc≤L)(hn:Lz n)(hd:Lz d):R4 L n d=some (ofF n d):=by
 simp only [R4,Ys,R4,aN,aB]
 unfold ofF
 by_cases h:d=0
 ·rw [beq_iff_eq.2 h,cond_true,cond_true]
 obtain ⟨n1,n2⟩:=hn
 obtain ⟨d1,d2⟩:=hd
 rw [beq_eq_false_iff_ne.2 h,cond_false,cond_false,Ml L n ⟨n1,n2⟩,Ml L d ⟨d1,d2⟩]
 simp only [Option.bind_some]
 rw [Y7 L _ _ hL (by omega)]
 simp only [Option.bind_some]
 have hg:0 < Nat.gcd n.natAbs d.natAbs:=Nat.gcd_pos_of_pos_right _ (by omega)
 rw [show (!decide (((Nat.gcd n.natAbs d.natAbs:Nat):Int)=0))=true by simp;omega,cond_true,cond_true,tm1 (by omega),tm1 (by omega),Adf,Option.bind_some,Aum _ _ _ (by omega)]
def usF(a:Aa):Aa:=bif VF a then a else ⟨0,1⟩
def Aks(a b:Aa):Int:=Int.sign (a.N*b.D - b.N*a.D)
def Sd(a b:Aa):Int:=Aks (usF a) (usF b)
theorem Agi:VF ⟨0,1⟩=true:=by decide
theorem Auw(a:Aa):VF (usF a)=true:=by
 unfold usF
 cases h:VF a
 ·exact Agi
 ·exact h
theorem Xc(L:Nat)(a b:Aa)(hL:Bc≤L)(ha:VF a=true)(hb:VF b=true)(da db:Int)(s1 s2:Bool)(es1:s1=decide (a.N < 0))(es2:s2=decide (b.N≥0))(eda:da=a.D)(edb:db=b.D)(na nb:Int)(ena:na=a.N)(enb:nb=b.N):
  ((Ba L na).bind fun r3=>(Bh L r3 db).bind fun r4=>(Ba L nb).bind fun r5=>(Bh L r5 da).bind fun r6=>
   (Df L s1 r4 s2 r6).bind fun r7=>bif ((r7.2.u_hi == 0) && (r7.2.u_lo == 0)) then some (0:Int) else bif r7.1 then some (-1) else some 1)=some (Aks a b):=by
 subst es1 es2 eda edb ena enb
 have ha':=Gu ha
 have hb':=Gu hb
 obtain ⟨a1,a2,a3,a4⟩:=C3.1 ha
 obtain ⟨b1,b2,b3,b4⟩:=C3.1 hb
 rw [Ml L a.N ha'.1,Ml L b.N hb'.1]
 simp only [Option.bind_some]
 have eS:Aks a b=Int.sign (sv (decide (a.N < 0)) (a.N.natAbs*b.D.natAbs)+sv (decide (b.N≥0)) (b.N.natAbs*a.D.natAbs)):=by
  have e1:sv (decide (b.N≥0)) b.N.natAbs= -b.N:=by
   have e0:decide (b.N≥0)= !decide (b.N < 0):=by
    by_cases h:b.N < 0
    ·rw [decide_eq_true h,decide_eq_false (by omega)];rfl
    ·rw [decide_eq_false h,decide_eq_true (by omega)];rfl
   rw [e0,Arj,Ro]
  rw [Pl,Pl,Ro,e1,show ((b.D.natAbs:Nat):Int)=b.D by omega,show ((a.D.natAbs:Nat):Int)=a.D by omega,Int.neg_mul,←Int.sub_eq_add_neg];rfl
 rw [eS,show a.D=((a.D.natAbs:Nat):Int) by omega,show b.D=((b.D.natAbs:Nat):Int) by omega]
 rw [show (a.D.natAbs:Int).natAbs=a.D.natAbs from rfl,show (b.D.natAbs:Int).natAbs=b.D.natAbs from rfl]
 have p1:=Ry a3 (show b.D.natAbs≤1000000000000000 by omega)
 have p2:=Ry b3 (show a.D.natAbs≤1000000000000000 by omega)
 rw [Qy L _ _ (by omega) (by omega),Option.bind_some,Qy L _ _ (by omega) (by omega),Option.bind_some]
 obtain ⟨s,w,e,hsw,hwl⟩:=Abp L (decide (a.N < 0)) (a.N.natAbs*b.D.natAbs) (decide (b.N≥0)) (b.N.natAbs*a.D.natAbs) (Db hL (by decide)) (by omega)
 rw [e,Option.bind_some,←hsw]
 simp only [Ajd]
 by_cases hw:w=0
 ·rw [decide_eq_true hw,cond_true,hw];cases s<;>rfl
 ·rw [decide_eq_false hw,cond_false]
  cases s
  ·exact congrArg some (Int.sign_eq_one_of_pos (by simp only [sv,cond_false];omega)).symm
  ·exact congrArg some (Int.sign_eq_neg_one_of_neg (by simp only [sv,cond_true];omega)).symm
theorem Ahp(L:Nat)(a b:Aa)(hL:Bc≤L)(ha:Ih a)(hb:Ih b):Cl L a b=some (Sd a b):=by
 simp only [Cl,V7,Cl,aN,aB,Bool.and_true]
 rw [Mk L a hL ha,Option.bind_some,Mk L b hL hb]
 simp only [Option.bind_some]
 unfold Sd usF
 have wd:∀ {x:Aa},VF x=true→IntKind.wrap .u64 x.D=x.D:=fun {x} h=>by
  obtain ⟨a1,a2,a3,a4⟩:=C3.1 h
  rw [P3 (by omega) (by omega)];omega
 cases h1:VF a<;>cases h2:VF b<;>simp only [Bool.not_true,Bool.not_false,cond_true,cond_false]
 ·exact Xc L ⟨0,1⟩ ⟨0,1⟩ hL Agi Agi _ _ _ _ rfl rfl rfl rfl _ _ rfl rfl
 ·exact Xc L ⟨0,1⟩ b hL Agi h2 _ _ _ _ rfl rfl rfl (wd h2) _ _ rfl rfl
 ·exact Xc L a ⟨0,1⟩ hL h1 Agi _ _ _ _ rfl rfl (wd h1) rfl _ _ rfl rfl
 ·exact Xc L a b hL h1 h2 _ _ _ _ rfl rfl (wd h1) (wd h2) _ _ rfl rfl
end Go.Proofs.YtckmlfboedljeaaDoor.Ev
