/-  The order of fractions; the law RankingKeeps. -/
import Derived.Test.YtckmlfboedljeaaDoorNP
namespace Go.Proofs.YtckmlfboedljeaaDoor.Ev
open Go An
set_option maxRecDepth 100000
set_option linter.unusedVariables false
set_option linter.unusedSimpArgs false
set_option linter.unnecessarySimpa false
theorem Ajt{s:Int}{d:Nat}(hd:0 < d)(h:(Yh s d).2=true):(Yh s d).1.N*(d:Int)=s*(Yh s d).1.D:=by
 have hg:0 < Nat.gcd s.natAbs d:=Nat.gcd_pos_of_pos_right _ hd
 have e1:s.natAbs/Nat.gcd s.natAbs d*Nat.gcd s.natAbs d=s.natAbs:=Nat.div_mul_cancel (Nat.gcd_dvd_left ..)
 have e2:d/Nat.gcd s.natAbs d*Nat.gcd s.natAbs d=d:=Nat.div_mul_cancel (Nat.gcd_dvd_right ..)
 have e3:=Ro s
 unfold Yh lim at h ⊢
 obtain ⟨g,eg⟩:∃g,Nat.gcd s.natAbs d=g:=⟨_,rfl⟩
 rw [eg] at e1 e2 hg h ⊢
 obtain ⟨n,en⟩:∃n,s.natAbs/g=n:=⟨_,rfl⟩
 obtain ⟨k,ek⟩:∃n,d/g=n:=⟨_,rfl⟩
 rw [en] at e1 h ⊢
 rw [ek] at e2 h ⊢
 split at h
 ·rename_i hc
  rw [if_pos hc]
  dsimp only
  conv=>rhs;rw [←e3,←e1,Pl]
  conv=>lhs;rw [←e2]
  rw [Int.natCast_mul,Int.mul_assoc,Int.mul_comm (g:Int)]
 ·cases h
def leF(a b:Aa):Prop:=a.N*b.D≤b.N*a.D
def ltQ(a b:Aa):Prop:=a.N*b.D < b.N*a.D
theorem Kk{a:Aa}(h:VF a=true):0 < a.D:=by have:=C3.1 h;omega
theorem Ax4{a b c:Aa}(ha:0 < a.D)(hb:0 < b.D)(hc:0 < c.D)(h1:leF a b)(h2:ltQ b c):ltQ a c:=by
 unfold leF at h1
 unfold ltQ at h2 ⊢
 have h3:a.N*b.D*c.D≤b.N*a.D*c.D:=Int.mul_le_mul_of_nonneg_right h1 (by omega)
 have h4:b.N*c.D*a.D < c.N*b.D*a.D:=Int.mul_lt_mul_of_pos_right h2 ha
 refine Int.lt_of_mul_lt_mul_right (a:=b.D) ?_ (by omega)
 rw [show a.N*c.D*b.D=a.N*b.D*c.D by rw [Int.mul_assoc,Int.mul_comm c.D,←Int.mul_assoc],show c.N*a.D*b.D=c.N*b.D*a.D by rw [Int.mul_assoc,Int.mul_comm a.D,←Int.mul_assoc]]
 rw [show b.N*a.D*c.D=b.N*c.D*a.D by rw [Int.mul_assoc,Int.mul_comm a.D,←Int.mul_assoc]] at h3
 omega
theorem Ax6{a b c:Aa}(ha:0 < a.D)(hb:0 < b.D)(hc:0 < c.D)(h1:ltQ a b)(h2:leF b c):ltQ a c:=by
 unfold ltQ at h1 ⊢
 unfold leF at h2
 have h3:a.N*b.D*c.D < b.N*a.D*c.D:=Int.mul_lt_mul_of_pos_right h1 hc
 have h4:b.N*c.D*a.D≤c.N*b.D*a.D:=Int.mul_le_mul_of_nonneg_right h2 (by omega)
 refine Int.lt_of_mul_lt_mul_right (a:=b.D) ?_ (by omega)
 rw [show a.N*c.D*b.D=a.N*b.D*c.D by rw [Int.mul_assoc,Int.mul_comm c.D,←Int.mul_assoc],show c.N*a.D*b.D=c.N*b.D*a.D by rw [Int.mul_assoc,Int.mul_comm a.D,←Int.mul_assoc]]
 rw [show b.N*a.D*c.D=b.N*c.D*a.D by rw [Int.mul_assoc,Int.mul_comm a.D,←Int.mul_assoc]] at h3
 omega
theorem n6{a b:Aa}(ha:VF a=true)(hb:VF b=true):Sd a b > 0↔ltQ b a:=by
 unfold Sd usF
 rw [ha,hb,cond_true,cond_true]
 unfold Aks ltQ
 rw [gt_iff_lt,Int.sign_pos_iff]
 omega
theorem L8{a b:Aa}{m:Bool}(h:(Bt a b m).2=true):VF a=true∧VF b=true:=by
 unfold Bt at h
 cases hc:(VF a && VF b)
 ·rw [hc] at h;cases h
 ·exact Bool.and_eq_true_iff.1 hc
theorem Qm{a b:Aa}{m:Bool}(h:(Bt a b m).2=true):(Bt a b m).1.N*(a.D*b.D)=Al6 a b m*(Bt a b m).1.D:=by
 obtain ⟨h1,h2⟩:=L8 h
 unfold Bt at h ⊢
 rw [h1,h2,Bool.and_self,cond_true] at h ⊢
 have d1:=Kk h1
 have d2:=Kk h2
 have e:=Ajt (Nat.mul_pos (by omega) (by omega)) h
 rw [Int.natCast_mul,show ((a.D.natAbs:Nat):Int)=a.D by omega,show ((b.D.natAbs:Nat):Int)=b.D by omega] at e
 exact e
theorem Aw3{a b:Aa}(hb:0≤b.N)(h:(Bt a b true).2=true):leF (Bt a b true).1 a:=by
 obtain ⟨h1,h2⟩:=L8 h
 have e:=Qm h
 have d1:=Kk h1
 have d2:=Kk h2
 have d3:=Kk (Jg h)
 obtain ⟨r,er⟩:∃r,(Bt a b true).1=r:=⟨_,rfl⟩
 rw [er] at e d3 ⊢
 unfold leF
 refine Int.le_of_mul_le_mul_right (a:=b.D) ?_ d2
 rw [Int.mul_assoc,e,show Al6 a b true=a.N*b.D - b.N*a.D by show a.N*b.D+ -b.N*a.D=_;rw [Int.neg_mul,←Int.sub_eq_add_neg],Int.sub_mul]
 have:0≤b.N*a.D*r.D:=Int.mul_nonneg (Int.mul_nonneg hb (by omega)) (by omega)
 rw [show a.N*r.D*b.D=a.N*b.D*r.D by rw [Int.mul_assoc,Int.mul_comm r.D,←Int.mul_assoc]]
 omega
theorem Awj{a b:Aa}(hb:0≤b.N)(h:(Bt a b false).2=true):leF a (Bt a b false).1:=by
 obtain ⟨h1,h2⟩:=L8 h
 have e:=Qm h
 have d1:=Kk h1
 have d2:=Kk h2
 have d3:=Kk (Jg h)
 obtain ⟨r,er⟩:∃r,(Bt a b false).1=r:=⟨_,rfl⟩
 rw [er] at e d3 ⊢
 unfold leF
 refine Int.le_of_mul_le_mul_right (a:=b.D) ?_ d2
 rw [Int.mul_assoc r.N,e,show Al6 a b false=a.N*b.D+b.N*a.D from rfl,Int.add_mul]
 have:0≤b.N*a.D*r.D:=Int.mul_nonneg (Int.mul_nonneg hb (by omega)) (by omega)
 rw [show a.N*r.D*b.D=a.N*b.D*r.D by rw [Int.mul_assoc,Int.mul_comm r.D,←Int.mul_assoc]]
 omega
theorem Awn{n:Nat} :0≤(ofF (n:Int) 1000).1.N:=by
 unfold ofF
 rw [show ((1000:Int) == 0)=false from rfl,cond_false,show (!(decide ((n:Int) < 0) == decide ((1000:Int) < 0)))=false by rw [decide_eq_false (by omega:¬(n:Int) < 0)];rfl]
 unfold Yh lim
 split
 ·show 0≤sv (decide (sv false (n:Int).natAbs < 0)) _
  rw [show decide (sv false (n:Int).natAbs < 0)=false from decide_eq_false (by show¬(((n:Int).natAbs:Nat):Int) < 0;omega)]
  exact Int.natCast_nonneg _
 ·exact Int.le_refl _
theorem Acy(l:List Aa):0≤(B9 l).1.Half.N:=by
 unfold B9
 cases decide ((l.length:Int) < 2)
 ·cases decide ((l.length:Int) > 50)
  ·cases (B7 l).2 && (Pn l).2 && Uo (sqM l)
   ·exact Int.le_refl _
   ·exact Awn
  ·exact Int.le_refl _
 ·exact Int.le_refl _
theorem Aec{a b:Ac}(ha:0≤a.Half.N)(hb:0≤b.Half.N)(h:Ot a b=true):Sd a.Mean b.Mean > 0:=by
 unfold Ot at h
 obtain ⟨h1,h3⟩:=Bool.and_eq_true_iff.1 h
 obtain ⟨h1,h2⟩:=Bool.and_eq_true_iff.1 h1
 have h3:=of_decide_eq_true h3
 have v1:=Jg h1
 have v2:=Jg h2
 have w1:=(L8 h1).1
 have w2:=(L8 h2).1
 have l1:=Aw3 ha h1
 have l2:=Awj hb h2
 rw [n6 v1 v2] at h3
 rw [n6 w1 w2]
 exact Ax4 (Kk w2) (Kk v2) (Kk w1) l2 (Ax6 (Kk v2) (Kk v1) (Kk w1) h3 l1)
theorem Ahk(a:Aa):¬ltQ a a:=by unfold ltQ;omega
theorem Amq{b:Ac}(hb:0≤b.Half.N):Ot b b=false:=by
 cases h:Ot b b
 ·rfl
 ·have h1:=Aec hb hb h
  unfold Ot at h
  have h2:=(L8 (Bool.and_eq_true_iff.1 (Bool.and_eq_true_iff.1 h).1).1).1
  rw [n6 h2 h2] at h1
  exact absurd h1 (Ahk _)
noncomputable def Ae3(a:List Ab)(X:Ac)(n:Nat)(y:Ab):Bool:=(B9 y.Seen).2 == 0 && (a.getD n default).Out == 0 && Ot X (B9 y.Seen).1 && decide (Sd X.Mean (B9 y.Seen).1.Mean > 0)
theorem Alh(L:Nat)(hL:Bc≤L)(l:List Ab)(s:Int)(v:Bool)(r3:List Ab×Int)(q:Int)(r7:Ac×Int)(hr3:r3.1.length=l.length)(hl:∀x∈l,okR x)(h7:okB r7.1):∀(k:List Ab) (i:Nat) (w:Bool),l.drop i=k→
  ∃o w',Ce L l s v r3 q r7 k i w=some (0,(w',o))∧(w=true→w'=true)∧∀n y,i≤n→l[n]? =some y→Ae3 r3.1 r7.1 n y=true→w'=true:=by
 intro k
 induction k with
 |nil=>
  intro i w hd
  refine ⟨_,_,rfl,id,fun n y hn hy _=> ?_⟩
  have:=Uj hd
  rw [List.getElem?_eq_none (by omega)] at hy;cases hy
 |cons x k ih=>
  intro i w hd
  have hx:x∈l:=List.mem_of_mem_drop (hd ▸ List.mem_cons_self .. :x∈l.drop i)
  obtain ⟨h1,h2⟩:=hl x hx
  obtain ⟨hi2,_,h3⟩:=Dy hd
  have hat:=j6 hd
  rw [Ce,Vb L x.Seen hL h2,Option.bind_some,toN]
  have hB:=Qt x.Seen
  have hb9:(bif w then (some true) else (bif ((B9 x.Seen).2 == 0) then (if ((0:Int)≤(i:Int)) then (if ((i:Int) < ((r3.1.length:Nat):Int)) then (bif ((r3.1.getD i default).Out == 0) then (Option.bind (D6 L r7.1 (B9 x.Seen).1) fun r10=>
   (bif r10 then (Option.bind (Ge L r7.1.Mean (B9 x.Seen).1.Mean) fun r11=>(some (decide (r11 > 0)))) else (some false))) else (some false)) else none) else none) else (some false)))=some (w || Ae3 r3.1 r7.1 i x):=by
   unfold Ae3
   cases w
   ·rw [cond_false,Bool.false_or]
    cases ((B9 x.Seen).2 == 0)
    ·rfl
    ·rw [cond_true,if_pos (by omega),if_pos (by omega),Bool.true_and]
     cases ((r3.1.getD i default).Out == 0)
     ·rfl
     ·rw [cond_true,Bool.true_and,Abo L _ _ hL h7 hB,Option.bind_some]
      cases Ot r7.1 (B9 x.Seen).1
      ·rfl
      ·rw [cond_true,Bool.true_and,j9 L _ _ hL h7.1 hB.1,Option.bind_some]
   ·rfl
  rw [hb9,Option.bind_some]
  obtain ⟨o,w',e,g1,g2⟩:=ih (i+1) (w || Ae3 r3.1 r7.1 i x) h3
  refine ⟨o,w',e,fun hw=>g1 (by rw [hw];rfl),fun n y hn hy hg=> ?_⟩
  by_cases hni:n=i
  ·subst hni
   rw [hat] at hy
   cases hy
   exact g1 (by rw [hg,Bool.or_true])
  ·exact g2 n y (by omega) hy hg
theorem Aa3:∀(k:List Ab),Rv k=none→∀x∈k,Ej x=false→(B9 x.Seen).2=0:=by
 intro k
 induction k with
 |nil=>intro _ x hx;cases hx
 |cons y k ih=>
  intro h x hx hs
  rw [Rv] at h
  have hk:Rv k=none∧(Ej y=false→(B9 y.Seen).2=0):=by
   cases hy:Ej y
   ·rw [hy,cond_false] at h
    cases he:(B9 y.Seen).2 != 0
    ·rw [he,cond_false] at h;exact ⟨h,fun _=>bne_eq_false_iff_eq.1 he⟩
    ·rw [he] at h;cases h
   ·rw [hy,cond_true] at h;exact ⟨h,fun h=>by cases h⟩
  rcases List.mem_cons.1 hx with rfl|hx
  ·exact hk.2 hs
  ·exact ih hk.1 x hx hs
theorem Acs:∀(k:List Ab) (e:Int),Rv k=some e→e≠0:=by
 intro k
 induction k with
 |nil=>intro e h;cases h
 |cons y k ih=>
  intro e h
  rw [Rv] at h
  cases hy:Ej y
  ·rw [hy,cond_false] at h
   cases he:(B9 y.Seen).2 != 0
   ·rw [he,cond_false] at h;exact ih e h
   ·rw [he,cond_true] at h
    cases h
    exact bne_iff_ne.1 he
  ·rw [hy,cond_true] at h;exact ih e h
theorem Al8(s:Int)(o:Option (Int×Ac))(x:Ab):(I5 s o x).Seen=x.Seen∧(I5 s o x).Point=x.Point:=by
 unfold I5
 cases o with
 |none=>exact ⟨rfl,rfl⟩
 |some p=>
  show (upd s p.2 (Hz x) x).Seen=_∧(upd s p.2 (Hz x) x).Point=_
  unfold upd
  cases Hz x with
  |none=>exact ⟨rfl,rfl⟩
  |some b=>dsimp only;cases Ot b p.2<;>exact ⟨rfl,rfl⟩
theorem Arn{s:Int}{o:Option (Int×Ac)}{x:Ab}(h:(I5 s o x).Out≠x.Out):∃c B,o=some (c,B)∧Ej x=false∧Ot (B9 x.Seen).1 B=true∧(I5 s o x).Out=s:=by
 unfold I5 at h ⊢
 cases o with
 |none=>exact absurd rfl h
 |some p=>
  obtain ⟨c,B⟩:=p
  have h:(upd s B (Hz x) x).Out≠x.Out:=h
  show∃c' B',some (c,B)=some (c',B')∧_∧_∧(upd s B (Hz x) x).Out=s
  unfold upd Hz at h ⊢
  cases hs:Ej x
  ·rw [hs,cond_false] at h
   rw [cond_false]
   dsimp only at h ⊢
   cases ha:Ot (B9 x.Seen).1 B
   ·rw [ha] at h;exact absurd rfl h
   ·exact ⟨c,B,rfl,rfl,ha,rfl⟩
  ·rw [hs] at h;exact absurd rfl h
theorem Agm{s:Int}{l:List Ab}{c:Int}{B:Ac}(h:Dd l=some (c,B)):∃(n:Nat) (y:Ab),l[n]? =some y∧Ej y=false∧(B9 y.Seen).1=B∧(I5 s (Dd l) y).Out=y.Out:=by
 have hg:=Aei h
 have h0:=Xj hg
 obtain ⟨n,rfl⟩:∃n:Nat,c=(n:Int):=⟨c.toNat,by omega⟩
 have hn:n < l.length:=by omega
 have hy:l[n]? =some l[n]:=List.getElem?_eq_getElem hn
 rw [Ae2 hy] at hg
 have hs:Ej l[n]=false∧(B9 l[n].Seen).1=B:=by
  unfold Hz at hg
  cases hs:Ej l[n]
  ·rw [hs,cond_false] at hg;exact ⟨rfl,Option.some.inj hg⟩
  ·rw [hs] at hg;cases hg
 refine ⟨n,l[n],hy,hs.1,hs.2,?_⟩
 rw [h]
 show (upd s B (Hz l[n]) l[n]).Out=_
 rw [hg]
 unfold upd
 dsimp only
 rw [Amq (by rw [←hs.2];exact Acy _)];rfl
theorem Alg(L:Nat)(hL:Bc≤L)(l:List Ab)(s:Int)(hs1:1≤s)(hll:l.length≤1000000)(he:Rv l=none)(hl:∀x∈l,okR x):∀(k:List Ab) (i:Nat) (v:Bool),l.drop i=k→
  ∃o,Be L l s (l.map (I5 s (Dd l)),0) k i v=some (1,(v,o)):=by
 have hM:=Az
 have hn:l.length < L:=Nat.lt_of_lt_of_le (show l.length < 1000001 by omega) (Db hL (by decide))
 intro k
 induction k with
 |nil=>intro i v _;exact ⟨_,rfl⟩
 |cons x k ih=>
  intro i v hd
  have hx:x∈l:=List.mem_of_mem_drop (hd ▸ List.mem_cons_self .. :x∈l.drop i)
  obtain ⟨h1,h2⟩:=hl x hx
  obtain ⟨hi2,_,h3⟩:=Dy hd
  have hat:=j6 hd
  have hlen:(l.map (I5 s (Dd l))).length=l.length:=List.length_map ..
  have hg:(l.map (I5 s (Dd l))).getD i default=I5 s (Dd l) x:=by
   rw [List.getD_eq_getElem?_getD,List.getElem?_map,hat];rfl
  obtain ⟨us,up⟩:=Al8 s (Dd l) x
  obtain ⟨o,e⟩:=ih (i+1) v h3
  rw [Be]
  simp only [toN]
  rw [hg,up,us,bne_self_eq_false',cond_false,hlen,Gf (by omega),Gf (by omega),Afh L _ hL (by omega),Option.bind_some,Bool.not_true,cond_false,Gf (by omega)]
  by_cases hout:(I5 s (Dd l) x).Out=x.Out
  ·rw [bne_eq_false_iff_eq.2 hout,cond_false,Gf (by omega),beq_iff_eq.2 hout,cond_true]
   exact ⟨o,e⟩
  ·obtain ⟨c,B,hbest,hsk,hab,hos⟩:=Arn hout
   obtain ⟨ho0,ho2⟩:=Af1 hsk
   rw [bne_iff_ne.2 hout,cond_true,bne_eq_false_iff_eq.2 ho0,cond_false,Gf (by omega),bne_eq_false_iff_eq.2 hos,cond_false,decide_eq_false (by omega:¬(x.Seen.length:Int) < 2),cond_false,Gf (by omega),
    beq_eq_false_iff_ne.2 hout,cond_false,Vb L x.Seen hL h2,Option.bind_some]
   have hc:∃o w',Bb L l s v (l.map (I5 s (Dd l)),0) (i:Int) (B9 x.Seen) L false 0=some (0,(w',o))∧w'=true:=by
    obtain ⟨o,w',e2,_,g2⟩:=Alh L hL l s v (l.map (I5 s (Dd l)),0) (i:Int) (B9 x.Seen) hlen hl (Qt _) l 0 false rfl
    refine ⟨o,w',?_,?_⟩
    ·rw [Tk L l s v _ _ _ L (by omega) hn];exact e2
    ·obtain ⟨n,y,hy,ys,yb,yo⟩:=Agm (s:=s) hbest
     have hym:y∈l:=List.mem_of_getElem? hy
     refine g2 n y (Nat.zero_le _) hy ?_
     unfold Ae3
     have hgn:((l.map (I5 s (Dd l))).getD n default)=I5 s (Dd l) y:=by
      rw [List.getD_eq_getElem?_getD,List.getElem?_map,hy];rfl
     have hab2:Ot (B9 x.Seen).1 (B9 y.Seen).1=true:=by rw [yb];exact hab
     rw [Aa3 l he y hym ys,hgn,yo,(Af1 ys).1,hab2,decide_eq_true (Aec (Acy _) (Acy _) hab2)];rfl
   obtain ⟨o2,w',e2,hw⟩:=hc
   subst hw
   rw [e2,Option.bind_some,Vl,Bool.not_true,cond_false]
   exact ⟨o,e⟩
theorem Y0(l:List Ab)(s:Int)(h0:l.length≤maxLen∧∀y∈l,J0 y)(h1:okI .i64 s):∃L,K8 L l s=some true:=by
 refine ⟨Bc,?_⟩
 have hL:Bc≤Bc:=Nat.le_refl _
 have hM:=Az
 have aw:Bs Bc=some true:=rfl
 simp only [K8,Qe,F8,Du,F8,Du,aN,aB]
 rcases Xz Bc l hL with e|⟨e,hl⟩
 ·rw [e,Option.bind_some,Bool.not_false,cond_true,aw];rfl
 ·have hr:=Xp h0.2 hl
  have hle:l.length≤1000000:=by have:=hl.1;omega
  have hn:l.length < Bc:=Nat.lt_of_lt_of_le (show l.length < 1000001 by omega) (by decide)
  rw [e,Option.bind_some,Bool.not_true,cond_false,Xy _ l s hL hle hr,Option.bind_some]
  unfold Je
  by_cases hs:s < 1
  ·rw [decide_eq_true hs];rfl
  rw [decide_eq_false hs,cond_false]
  cases he:Rv l with
  |some e=>
   dsimp only
   have hne:=Acs l _ he
   rw [bne_iff_ne.2 hne,cond_true];rfl
  |none=>
   dsimp only
   obtain ⟨o,e2⟩:=Alg Bc hL l s (by omega) hle he hr l 0 false rfl
   rw [bne_self_eq_false',cond_false,List.length_map,bne_self_eq_false',cond_false,Tj Bc l s _ Bc (by omega) hn,e2,Option.bind_some,Alw,aw,Option.bind_some]
end Go.Proofs.YtckmlfboedljeaaDoor.Ev
namespace Go.Proofs.YtckmlfboedljeaaDoor.Ev
open Go An
set_option maxRecDepth 100000
set_option linter.unusedVariables false
set_option linter.unusedSimpArgs false
set_option linter.unnecessarySimpa false
theorem Abi{s:Int}{d t:Nat}(ht:0 < t):Yh (s*(t:Int)) (d*t)=Yh s d:=by
 unfold Yh
 rw [Int.natAbs_mul,Int.natAbs_natCast,Nat.gcd_mul_right,Nat.mul_div_mul_right _ _ ht,Nat.mul_div_mul_right _ _ ht]
 congr 1
 apply decide_eq_decide.2
 constructor
 ·intro h
  by_cases hs:s < 0
  ·exact hs
  ·have:=Int.mul_nonneg (show 0≤s by omega) (show 0≤(t:Int) by omega);omega
 ·intro h;exact Int.mul_neg_of_neg_of_pos h (by omega)
theorem Awl{s s':Int}{d d':Nat}(hd:0 < d)(hd':0 < d')(h:s*(d':Int)=s'*(d:Int)):Yh s d=Yh s' d':=by
 rw [←Abi (s:=s) (d:=d) hd',←Abi (s:=s') (d:=d') hd,h,Nat.mul_comm d d']
def Sh(c:Int)(a b:Aa):Prop:=b.N*a.D=(a.N+c*a.D)*b.D
theorem Arg(yN yD y'N y'D mN mD m'N m'D k:Int)(h1:y'N*yD=(yN+k*yD)*y'D)(h2:m'N*mD=(mN+k*mD)*m'D):
  (y'N*m'D+ -m'N*y'D)*(yD*mD)=(yN*mD+ -mN*yD)*(y'D*m'D):=by grind
theorem Ao6{a:Aa}(h:VF a=true):((a.D.natAbs:Nat):Int)=a.D:=by have:=Kk h;omega
theorem Arh{k:Int}{y y' m m':Aa}(vy:VF y=true)(vy':VF y'=true)(vm:VF m=true)(vm':VF m'=true)(h1:Sh k y y')(h2:Sh k m m'):Bt y' m' true=Bt y m true:=by
 unfold Bt
 rw [vy,vy',vm,vm',Bool.and_self,cond_true,cond_true]
 have d1:=Kk vy
 have d2:=Kk vy'
 have d3:=Kk vm
 have d4:=Kk vm'
 refine Awl (Nat.mul_pos (by omega) (by omega)) (Nat.mul_pos (by omega) (by omega)) ?_
 rw [Int.natCast_mul,Int.natCast_mul,Ao6 vy,Ao6 vy',Ao6 vm,Ao6 vm']
 exact Arg _ _ _ _ _ _ _ _ k h1 h2
theorem Amt(tN tD t'N t'D xN xD x'N x'D rN rD r'N r'D c k:Int)(h1:t'N*tD=(tN+c*tD)*t'D)(h2:x'N*xD=(xN+k*xD)*x'D)
  (h3:rN*(tD*xD)=(tN*xD+xN*tD)*rD) (h4:r'N*(t'D*x'D)=(t'N*x'D+x'N*t'D)*r'D):
  r'N*rD*(tD*xD*(t'D*x'D))=(rN+(c+k)*rD)*r'D*(tD*xD*(t'D*x'D)):=by
 have e1:r'N*rD*(tD*xD*(t'D*x'D))=(r'N*(t'D*x'D))*(tD*xD*rD):=by grind
 have e2:(rN+(c+k)*rD)*r'D*(tD*xD*(t'D*x'D))=(rN*(tD*xD))*(r'D*(t'D*x'D))+(c+k)*rD*r'D*(tD*xD*(t'D*x'D)):=by grind
 rw [e1,e2,h3,h4]
 have e3:(t'N*x'D+x'N*t'D)*(tD*xD)=(tN*xD+xN*tD)*(t'D*x'D)+(c+k)*(tD*xD*(t'D*x'D)):=by grind
 have e4:(t'N*x'D+x'N*t'D)*r'D*(tD*xD*rD)=((t'N*x'D+x'N*t'D)*(tD*xD))*(r'D*rD):=by grind
 rw [e4,e3]
 grind
theorem Au5{c k:Int}{t t' x x':Aa}(h1:Sh c t t')(h2:Sh k x x')(h3:(Bt t x false).2=true)(h4:(Bt t' x' false).2=true):Sh (c+k) (Bt t x false).1 (Bt t' x' false).1:=by
 have e3:=Qm h3
 have e4:=Qm h4
 obtain ⟨v1,v2⟩:=L8 h3
 obtain ⟨v3,v4⟩:=L8 h4
 have d1:=Kk v1
 have d2:=Kk v2
 have d3:=Kk v3
 have d4:=Kk v4
 unfold Sh
 have hP:t.D*x.D*(t'.D*x'.D)≠0:=by
  have:=Int.mul_pos (Int.mul_pos d1 d2) (Int.mul_pos d3 d4);omega
 exact Int.eq_of_mul_eq_mul_right hP (Amt _ _ _ _ _ _ _ _ _ _ _ _ c k h1 h2 e3 e4)
theorem Akz(tN tD t'N t'D xN xD rN rD r'N r'D c:Int)(h1:t'N*tD=(tN+c*tD)*t'D)
  (h3:rN*(tD*xD)=(tN*xD+xN*tD)*rD) (h4:r'N*(t'D*xD)=(t'N*xD+xN*t'D)*r'D):
  r'N*rD*(tD*xD*(t'D*xD))=(rN+c*rD)*r'D*(tD*xD*(t'D*xD)):=by
 have e1:r'N*rD*(tD*xD*(t'D*xD))=(r'N*(t'D*xD))*(tD*xD*rD):=by grind
 have e2:(rN+c*rD)*r'D*(tD*xD*(t'D*xD))=(rN*(tD*xD))*(r'D*(t'D*xD))+c*rD*r'D*(tD*xD*(t'D*xD)):=by grind
 rw [e1,e2,h3,h4]
 have e3:(t'N*xD+xN*t'D)*(tD*xD)=(tN*xD+xN*tD)*(t'D*xD)+c*(tD*xD*(t'D*xD)):=by grind
 have e4:(t'N*xD+xN*t'D)*r'D*(tD*xD*rD)=((t'N*xD+xN*t'D)*(tD*xD))*(r'D*rD):=by grind
 rw [e4,e3]
 grind
theorem Ajg{c:Int}{m:Bool}{t t' x:Aa}(h1:Sh c t t')(h3:(Bt t x m).2=true)(h4:(Bt t' x m).2=true):Sh c (Bt t x m).1 (Bt t' x m).1:=by
 have e3:=Qm h3
 have e4:=Qm h4
 obtain ⟨v1,v2⟩:=L8 h3
 obtain ⟨v3,_⟩:=L8 h4
 have d1:=Kk v1
 have d2:=Kk v2
 have d3:=Kk v3
 unfold Sh
 have hP:t.D*x.D*(t'.D*x.D)≠0:=by
  have:=Int.mul_pos (Int.mul_pos d1 d2) (Int.mul_pos d3 d2);omega
 exact Int.eq_of_mul_eq_mul_right hP (Akz _ _ _ _ (bif m then -x.N else x.N) x.D _ _ _ _ c h1 e3 e4)
def Rz(k:Int)(y:Aa):Aa:=(Bt y ⟨k,1⟩ false).1
theorem Aih{k:Int}{y:Aa}(h:(Bt y ⟨k,1⟩ false).2=true):Sh k y (Rz k y)∧VF y=true∧VF (Rz k y)=true:=by
 have e:=Qm h
 refine ⟨?_,(L8 h).1,Jg h⟩
 unfold Sh Rz
 rw [show Al6 y ⟨k,1⟩ false=y.N*1+k*y.D from rfl,Int.mul_one,Int.mul_one] at e
 exact e
theorem Aw4{k:Int} :∀(l:List Aa) (c:Int) (t t':Aa),(∀y∈l,(Bt y ⟨k,1⟩ false).2=true)→Sh c t t'→(Di l t).2=true→(Di (l.map (Rz k)) t').2=true→Sh (c+(l.length:Int)*k) (Di l t).1 (Di (l.map (Rz k)) t').1:=by
 intro l
 induction l with
 |nil=>intro c t t' _ h _ _;show Sh (c+((0:Nat):Int)*k) t t';rw [show c+((0:Nat):Int)*k=c by simp];exact h
 |cons y l ih=>
  intro c t t' hy h h1 h2
  rw [List.map_cons] at h2 ⊢
  rw [Di] at h1 h2 ⊢
  rw [Di]
  cases c1:(Bt t y false).2
  ·rw [c1] at h1;cases h1
  cases c2:(Bt t' (Rz k y) false).2
  ·rw [c2] at h2;cases h2
  rw [c1,cond_true] at h1
  rw [c2,cond_true] at h2
  rw [cond_true,cond_true]
  have hs:=Aih (hy y (List.mem_cons_self ..))
  have:=ih (c+k) _ _ (fun z hz=>hy z (List.mem_cons_of_mem _ hz)) (Au5 h hs.1 c1 c2) h1 h2
  rw [List.length_cons,show c+((l.length+1:Nat):Int)*k=c+k+(l.length:Int)*k by rw [Int.natCast_add,Int.add_mul];omega]
  exact this
theorem Aja{a:Aa}{n:Nat}(h:(S5 a ⟨(n:Int),1⟩).2=true):VF a=true∧0 < n∧(S5 a ⟨(n:Int),1⟩).1.N*(a.D*(n:Int))=a.N*(S5 a ⟨(n:Int),1⟩).1.D:=by
 unfold S5 at h ⊢
 cases hc:(VF a && VF ⟨(n:Int),1⟩ && ((n:Int) != 0))
 ·rw [hc] at h;cases h
 ·rw [hc,cond_true] at h
  obtain ⟨h1,h3⟩:=Bool.and_eq_true_iff.1 hc
  obtain ⟨h1,h2⟩:=Bool.and_eq_true_iff.1 h1
  have h3:=bne_iff_ne.1 h3
  have hn:0 < n:=by omega
  have d1:=Kk h1
  rw [cond_true]
  have e:=Ajt (Nat.mul_pos (by omega) (by show 0 < ((n:Int)).natAbs;omega)) h
  refine ⟨h1,hn,?_⟩
  rw [Int.natCast_mul,Ao6 h1,show (((⟨(n:Int),1⟩:Aa).N.natAbs:Nat):Int)=(n:Int) from rfl] at e
  rw [show (⟨(n:Int),1⟩:Aa).D.natAbs=1 from rfl,Nat.mul_one,show decide ((⟨(n:Int),1⟩:Aa).N < 0)=false from decide_eq_false (by show¬(n:Int) < 0;omega)] at e ⊢
  rw [show (!(decide (a.N < 0) == false))=decide (a.N < 0) by cases decide (a.N < 0)<;>rfl,Ro] at e ⊢
  exact e
theorem Ak4(TN TD T'N T'D mN mD m'N m'D n k:Int)(h:T'N*TD=(TN+n*k*TD)*T'D)(h1:mN*(TD*n)=TN*mD)(h2:m'N*(T'D*n)=T'N*m'D):
  m'N*mD*(TD*T'D*n)=(mN+k*mD)*m'D*(TD*T'D*n):=by
 have e1:m'N*mD*(TD*T'D*n)=(m'N*(T'D*n))*(mD*TD):=by grind
 have e2:(mN+k*mD)*m'D*(TD*T'D*n)=(mN*(TD*n))*(m'D*T'D)+k*mD*m'D*(TD*T'D*n):=by grind
 rw [e1,e2,h1,h2]
 have e3:T'N*m'D*(mD*TD)=(T'N*TD)*(m'D*mD):=by grind
 rw [e3,h]
 grind
theorem Ajr{k:Int}{l:List Aa}(hy:∀y∈l,(Bt y ⟨k,1⟩ false).2=true)(h1:(B7 l).2=true)(h2:(B7 (l.map (Rz k))).2=true):Sh k (B7 l).1 (B7 (l.map (Rz k))).1∧VF (B7 l).1=true∧VF (B7 (l.map (Rz k))).1=true:=by
 refine ⟨?_,Se h1,Se h2⟩
 unfold B7 at h1 h2 ⊢
 rw [List.length_map] at h2 ⊢
 obtain ⟨v1,n1,e1⟩:=Aja h1
 obtain ⟨v2,n2,e2⟩:=Aja h2
 have s1:(Di l ⟨0,1⟩).2=true:=by
  cases h:(Di l ⟨0,1⟩).2
  ·rw [Qn _ _ h] at v1;cases v1
  ·rfl
 have s2:(Di (l.map (Rz k)) ⟨0,1⟩).2=true:=by
  cases h:(Di (l.map (Rz k)) ⟨0,1⟩).2
  ·rw [Qn _ _ h] at v2;cases v2
  ·rfl
 have hs:=Aw4 l 0 ⟨0,1⟩ ⟨0,1⟩ hy (by unfold Sh;decide) s1 s2
 rw [Int.zero_add] at hs
 have d1:=Kk v1
 have d2:=Kk v2
 unfold Sh at hs ⊢
 have hP:(Di l ⟨0,1⟩).1.D*(Di (l.map (Rz k)) ⟨0,1⟩).1.D*(l.length:Int)≠0:=by
  have:=Int.mul_pos (Int.mul_pos d1 d2) (show 0 < (l.length:Int) by omega);omega
 exact Int.eq_of_mul_eq_mul_right hP (Ak4 _ _ _ _ _ _ _ _ (l.length:Int) k hs e1 e2)
theorem Akt(aN aD a'N a'D bN bD b'N b'D c:Int)(h1:a'N*aD=(aN+c*aD)*a'D)(h2:b'N*bD=(bN+c*bD)*b'D):
  (a'N*b'D - b'N*a'D)*(aD*bD)=(aN*bD - bN*aD)*(a'D*b'D):=by grind
theorem Af0{x y p q:Int}(h:x*p=y*q)(hp:0 < p)(hq:0 < q):x.sign=y.sign:=by
 have e:=congrArg Int.sign h
 rw [Int.sign_mul,Int.sign_mul,Int.sign_eq_one_of_pos hp,Int.sign_eq_one_of_pos hq,Int.mul_one,Int.mul_one] at e
 exact e
theorem Agq{c:Int}{a a' b b':Aa}(va:VF a=true)(va':VF a'=true)(vb:VF b=true)(vb':VF b'=true)(h1:Sh c a a')(h2:Sh c b b'):Sd a' b'=Sd a b:=by
 unfold Sd usF
 rw [va,va',vb,vb',cond_true,cond_true,cond_true,cond_true]
 unfold Aks
 exact Af0 (Akt _ _ _ _ _ _ _ _ c h1 h2) (Int.mul_pos (Kk va) (Kk vb)) (Int.mul_pos (Kk va') (Kk vb'))
end Go.Proofs.YtckmlfboedljeaaDoor.Ev
namespace Go.Proofs.YtckmlfboedljeaaDoor.Ev
open Go An
set_option maxRecDepth 100000
set_option linter.unusedVariables false
set_option linter.unusedSimpArgs false
set_option linter.unnecessarySimpa false
def Z4(k:Int)(x:Ab):Ab:=⟨x.Point,x.Seen.map (Rz k),x.Out⟩
def exI(b:Ac×Int):P5:=⟨b.2 == 0,(Bt b.1.Mean b.1.Half true).2,(Bt b.1.Mean b.1.Half false).2⟩
structure Zp (k:Int) (x:Ab):Prop where
 ok:∀y∈x.Seen,(Bt y ⟨k,1⟩ false).2=true
 mean:(B7 x.Seen).2=(B7 (x.Seen.map (Rz k))).2
 e0:((B9 x.Seen).2 == 0)=((B9 (x.Seen.map (Rz k))).2 == 0)
 e1:(Bt (B9 x.Seen).1.Mean (B9 x.Seen).1.Half true).2=(Bt (B9 (x.Seen.map (Rz k))).1.Mean (B9 (x.Seen.map (Rz k))).1.Half true).2
 e2:(Bt (B9 x.Seen).1.Mean (B9 x.Seen).1.Half false).2=(Bt (B9 (x.Seen.map (Rz k))).1.Mean (B9 (x.Seen.map (Rz k))).1.Half false).2
theorem Abm(L:Nat)(x:Ab)(hL:Bc≤L)(h:∀y∈x.Seen,Ih y):Gh L x=some (exI (B9 x.Seen)):=by
 have hB:=Qt x.Seen
 simp only [Gh,Sr,aN,aB]
 rw [Vb L _ hL h,Option.bind_some,Ahr L _ _ hL hB.1 hB.2,Option.bind_some,Adb L _ _ hL hB.1 hB.2,Option.bind_some];rfl
theorem N0(L:Nat):Bs L=some true:=rfl
theorem Alj(L:Nat)(hL:Bc≤L)(l:List Ab)(k:Int)(hk:Lz k)(m:List Ab)(q:Int):∀(ys:List Aa) (i:Nat) (v:Bool) (acc:List Aa),acc.length+ys.length≤1000→(∀y∈ys,Ih y)→
  (∃o,Br L l k m q ys i v acc=some (0,(true,o)))∨(∃i',Br L l k m q ys i v acc=some (1,(v,i',acc++ys.map (Rz k)))∧∀y∈ys,(Bt y ⟨k,1⟩ false).2=true):=by
 intro ys
 induction ys with
 |nil=>intro i v acc _ _;exact .inr ⟨_,by rw [List.map_nil,List.append_nil];rfl,fun y hy=>by cases hy⟩
 |cons y ys ih=>
  intro i v acc hl hy
  have hM:=Az
  rw [List.length_cons] at hl
  rw [Br,Adb L y _ hL (hy y (List.mem_cons_self ..)) ⟨hk,by show Lz 1;unfold Lz;decide⟩,Option.bind_some]
  cases hc:(Bt y ⟨k,1⟩ false).2
  ·exact .inl ⟨_,rfl⟩
  ·rw [Bool.not_true,cond_false,Gf (by simp only [List.length_singleton];omega),Gf (by simp only [List.length_singleton];omega)]
   rcases ih (i+1) v (acc++ [(Bt y ⟨k,1⟩ false).1]) (by simp only [List.length_append,List.length_singleton];omega) (fun z hz=>hy z (List.mem_cons_of_mem _ hz)) with ⟨o,e⟩|⟨i',e,h⟩
   ·exact .inl ⟨o,e⟩
   ·refine .inr ⟨i',?_,fun z hz=> ?_⟩
    ·rw [e,List.append_assoc];rfl
    ·rcases List.mem_cons.1 hz with rfl|hz
     ·exact hc
     ·exact h z hz
theorem Ao5{k:Int}{l:List Aa}(h:∀y∈l,(Bt y ⟨k,1⟩ false).2=true):∀y∈l.map (Rz k),Ih y:=fun y hy=>by
 obtain ⟨z,hz,rfl⟩:=List.mem_map.1 hy
 exact Gu (Aih (h z hz)).2.2
theorem Ali(L:Nat)(hL:Bc≤L)(l:List Ab)(k:Int)(hk:Lz k)(hl:∀x∈l,okR x):∀(xs:List Ab) (i:Nat) (v:Bool) (acc:List Ab),l.drop i=xs→acc.length+xs.length≤1000→
  (∃o,Bq L l k xs i v acc=some (0,(true,o)))∨(∃v' i',Bq L l k xs i v acc=some (1,(v',acc++xs.map (Z4 k),i'))∧∀x∈xs,Zp k x):=by
 intro xs
 induction xs with
 |nil=>intro i v acc _ _;exact .inr ⟨_,_,by rw [List.map_nil,List.append_nil];rfl,fun y hy=>by cases hy⟩
 |cons x xs ih=>
  intro i v acc hd hle
  have hM:=Az
  have hx:x∈l:=List.mem_of_mem_drop (hd ▸ List.mem_cons_self .. :x∈l.drop i)
  obtain ⟨s1,s2⟩:=hl x hx
  obtain ⟨hi,hg,h3⟩:=Dy hd
  rw [List.length_cons] at hle
  have hn:x.Seen.length < L:=Nat.lt_of_lt_of_le (show x.Seen.length < 1001 by omega) (Db hL (by decide))
  have hlp:Bp L l k acc (i:Int) L v 0 []=Br L l k acc (i:Int) x.Seen 0 v []:=by
   rw [Tm L l k acc (i:Int) L (by rw [toN,hg];omega) (by rw [toN,hg];exact hn),toN,hg]
  rw [Bq,hlp]
  rcases Alj L hL l k hk acc (i:Int) x.Seen 0 v [] (by simp only [List.length_nil];omega) s2 with ⟨o,e⟩|⟨i',e,hok⟩
  ·rw [e,Option.bind_some];exact .inl ⟨_,rfl⟩
  ·rw [e,Option.bind_some]
   dsimp only
   rw [Alw,List.nil_append]
   have hok':=Ao5 hok
   have hr1:=v9 L x hL (by omega) s2
   have hr2:=v9 L (Z4 k x) hL (by show (x.Seen.map (Rz k)).length≤_;rw [List.length_map];omega) hok'
   have hr2:Ew L (⟨x.Point,x.Seen.map (Rz k),x.Out⟩:Ab)=some (B7 (x.Seen.map (Rz k))):=hr2
   rw [hr1,Option.bind_some,hr2,Option.bind_some]
   cases hm:((B7 x.Seen).2 == (B7 (x.Seen.map (Rz k))).2)
   ·rw [Bool.not_false,cond_true,N0];exact .inl ⟨_,rfl⟩
   ·have he2:Gh L (⟨x.Point,x.Seen.map (Rz k),x.Out⟩:Ab)=some (exI (B9 (x.Seen.map (Rz k)))):=Abm L (Z4 k x) hL hok'
    rw [Bool.not_true,cond_false,Abm L x hL s2,Option.bind_some,he2,Option.bind_some]
    cases hex:(((exI (B9 x.Seen)).a0 == (exI (B9 (x.Seen.map (Rz k)))).a0) && (((exI (B9 x.Seen)).a1 == (exI (B9 (x.Seen.map (Rz k)))).a1) && (((exI (B9 x.Seen)).a2 == (exI (B9 (x.Seen.map (Rz k)))).a2) && true)))
    ·rw [Bool.not_false,cond_true,N0];exact .inl ⟨_,rfl⟩
    ·rw [Bool.not_true,cond_false,Gf (by simp only [List.length_singleton];omega),Gf (by simp only [List.length_singleton];omega)]
     rw [Bool.and_true,Bool.and_eq_true_iff,Bool.and_eq_true_iff,beq_iff_eq,beq_iff_eq,beq_iff_eq] at hex
     have hgood:Zp k x:=⟨hok,beq_iff_eq.1 hm,hex.1,hex.2.1,hex.2.2⟩
     rcases ih (i+1) v (acc++ [Z4 k x]) h3 (by simp only [List.length_append,List.length_singleton];omega) with ⟨o,e⟩|⟨v',i',e,h⟩
     ·exact .inl ⟨o,e⟩
     ·refine .inr ⟨v',i',?_,fun z hz=> ?_⟩
      ·have e:Bq L l k xs (i+1) v (acc++ [(⟨x.Point,x.Seen.map (Rz k),x.Out⟩:Ab)])=_:=e
       rw [e,List.append_assoc];rfl
      ·rcases List.mem_cons.1 hz with rfl|hz
       ·exact hgood
       ·exact h z hz
theorem Z2{α :Type} [Inhabited α]{M M':Int→Option α}{lt: α→α→Bool}{R: α→α→Prop}(hlt:∀a a' b b',R a a'→R b b'→lt a' b'=lt a b)
  (hM:∀x,(M x=none∧M' x=none)∨∃a a',M x=some a∧M' x=some a'∧R a a'):∀(k:List Int) (s s':Option (Int×α)),
  ((s=none∧s'=none)∨∃c a a',s=some (c,a)∧s'=some (c,a')∧R a a')→
  ((Eb M lt k s=none∧Eb M' lt k s'=none)∨∃c a a',Eb M lt k s=some (c,a)∧Eb M' lt k s'=some (c,a')∧R a a'):=by
 intro k
 induction k with
 |nil=>intro s s' h;exact h
 |cons x k ih=>
  intro s s' h
  rw [Eb,Eb]
  refine ih _ _ ?_
  rcases hM x with ⟨e1,e2⟩|⟨a,a',e1,e2,hr⟩
  ·rw [e1,e2];exact h
  ·rw [e1,e2]
   rcases h with ⟨rfl,rfl⟩|⟨c,b,b',rfl,rfl,hb⟩
   ·exact .inr ⟨x,a,a',rfl,rfl,hr⟩
   ·dsimp only
    rw [hlt a a' b b' hr hb]
    cases lt a b with
    |true=>exact .inr ⟨x,a,a',rfl,rfl,hr⟩
    |false=>exact .inr ⟨c,b,b',rfl,rfl,hb⟩
theorem Abb{α β :Type} [Inhabited α]{l:List β}{g: β→β}{f: β→Option α}{R: α→α→Prop}(h:∀x∈l,(f x=none∧f (g x)=none)∨∃a a',f x=some a∧f (g x)=some a'∧R a a')(x:Int):
  (H0 l f x=none∧H0 (l.map g) f x=none)∨∃a a',H0 l f x=some a∧H0 (l.map g) f x=some a'∧R a a':=by
 unfold H0
 by_cases h0:0≤x
 ·rw [if_pos h0,if_pos h0,List.getElem?_map]
  cases he:l[x.toNat]? with
  |none=>exact .inl ⟨rfl,rfl⟩
  |some r=>exact h r (List.mem_of_getElem? he)
 ·rw [if_neg h0,if_neg h0];exact .inl ⟨rfl,rfl⟩
structure RM (k:Int) (a a':Aa):Prop where
 sh:Sh k a a'
 v:VF a=true
 v':VF a'=true
theorem Aki{k:Int}{x:Ab}(h:Zp k x):(Jh x=none∧Jh (Z4 k x)=none)∨∃a a',Jh x=some a∧Jh (Z4 k x)=some a'∧RM k a a':=by
 unfold Jh Sf
 show ((bif x.Out == 0 then _ else none)=none∧(bif x.Out == 0 then (bif (B7 (x.Seen.map (Rz k))).2 then some (B7 (x.Seen.map (Rz k))).1 else none) else none)=none)∨∃a a',(bif x.Out == 0 then _ else none)=some a∧(bif x.Out == 0 then (bif (B7 (x.Seen.map (Rz k))).2 then some (B7 (x.Seen.map (Rz k))).1 else none) else none)=some a'∧_
 cases x.Out == 0
 ·exact .inl ⟨rfl,rfl⟩
 ·rw [cond_true,cond_true]
  have hm:=h.mean
  cases h1:(B7 x.Seen).2
  ·rw [h1] at hm;rw [←hm];exact .inl ⟨rfl,rfl⟩
  ·rw [h1] at hm
   rw [←hm]
   obtain ⟨g1,g2,g3⟩:=Ajr h.ok h1 hm.symm
   exact .inr ⟨_,_,rfl,rfl,g1,g2,g3⟩
theorem Agl{k:Int}{l:List Ab}(h:∀x∈l,Zp k x):n3 (l.map (Z4 k))=n3 l:=by
 unfold n3
 rw [List.length_map]
 rcases Z2 (lt:=ltF) (R:=RM k) (fun a a' b b' ha hb=>by unfold ltF;rw [Agq ha.v ha.v' hb.v hb.v' ha.sh hb.sh]) (Abb (f:=Jh) (fun x hx=>Aki (h x hx))) (upto 0 l.length) none none (.inl ⟨rfl,rfl⟩) with ⟨e1,e2⟩|⟨c,a,a',e1,e2,_⟩
 ·rw [e1,e2];rfl
 ·rw [e1,e2]
  have hb:=Xj (Th (H0 l Jh) ltF _ none (fun _ _ h=>by cases h) _ _ e1)
  show ((l.map (Z4 k)).getD c.toNat default |>.Point,true)=((l.getD c.toNat default).Point,true)
  rw [List.getD_eq_getElem?_getD,List.getD_eq_getElem?_getD,List.getElem?_map,List.getElem?_eq_getElem (by omega)];rfl
structure RB (k:Int) (b b':Ac):Prop where
 mean:RM k b.Mean b'.Mean
 half:b'.Half=b.Half
 lo:(Bt b.Mean b.Half true).2=(Bt b'.Mean b.Half true).2
 hi:(Bt b.Mean b.Half false).2=(Bt b'.Mean b.Half false).2
theorem Akv{k:Int}{m m':Aa}(hm:RM k m m'):∀(l:List Aa),(∀y∈l,(Bt y ⟨k,1⟩ false).2=true)→We m' (l.map (Rz k))=We m l:=by
 intro l
 induction l with
 |nil=>intro _;rfl
 |cons y l ih=>
  intro h
  obtain ⟨g1,g2,g3⟩:=Aih (h y (List.mem_cons_self ..))
  rw [List.map_cons,We,We,Arh g2 g3 hm.v hm.v' g1 hm.sh,ih fun z hz=>h z (List.mem_cons_of_mem _ hz)]
theorem Abd{l:List Aa}(h:(B9 l).2=0):(B7 l).2=true∧(B9 l).1=⟨(B7 l).1,(ofF (w8 (sqM l):Int) 1000).1⟩:=by
 unfold B9 at h ⊢
 cases h1:decide ((l.length:Int) < 2)
 ·rw [h1,cond_false] at h
  cases h2:decide ((l.length:Int) > 50)
  ·rw [h2,cond_false] at h
   cases h3:(B7 l).2 && (Pn l).2 && Uo (sqM l)
   ·rw [h3] at h;cases h
   ·exact ⟨(Bool.and_eq_true_iff.1 (Bool.and_eq_true_iff.1 h3).1).1,rfl⟩
  ·rw [h2] at h;cases h
 ·rw [h1] at h;cases h
theorem Anu{k:Int}{x:Ab}(h:Zp k x)(h0:(B9 x.Seen).2=0):RB k (B9 x.Seen).1 (B9 (x.Seen.map (Rz k))).1:=by
 have h0':(B9 (x.Seen.map (Rz k))).2=0:=by
  have:=h.e0;rw [h0] at this
  exact beq_iff_eq.1 this.symm
 have e1:=h.e1
 have e2:=h.e2
 obtain ⟨m1,p1⟩:=Abd h0
 obtain ⟨m2,p2⟩:=Abd h0'
 obtain ⟨g1,g2,g3⟩:=Ajr h.ok m1 m2
 have hdev:S4 (x.Seen.map (Rz k))=S4 x.Seen:=by
  unfold S4;rw [m1,m2,cond_true,cond_true,Akv ⟨g1,g2,g3⟩ _ h.ok]
 have hsq:sqM (x.Seen.map (Rz k))=sqM x.Seen:=by
  unfold sqM Pn;rw [hdev,List.length_map]
 have hH:(B9 (x.Seen.map (Rz k))).1.Half=(B9 x.Seen).1.Half:=by rw [p1,p2,hsq]
 rw [hH] at e1 e2
 refine ⟨?_,hH,e1,e2⟩
 rw [p1,p2];exact ⟨g1,g2,g3⟩
theorem Amp{k:Int}{a a' b b':Ac}(ha:RB k a a')(hb:RB k b b'):Ot a' b'=Ot a b:=by
 unfold Ot
 rw [ha.half,hb.half,←ha.lo,←hb.hi]
 cases h1:(Bt a.Mean a.Half true).2
 ·rfl
 cases h2:(Bt b.Mean b.Half false).2
 ·rfl
 have h1':(Bt a'.Mean a.Half true).2=true:=by rw [←ha.lo];exact h1
 have h2':(Bt b'.Mean b.Half false).2=true:=by rw [←hb.hi];exact h2
 rw [Agq (Jg h1) (Jg h1') (Jg h2) (Jg h2') (Ajg ha.mean.sh h1 h1') (Ajg hb.mean.sh h2 h2')]
theorem Al0(k:Int)(x:Ab):Ej (Z4 k x)=Ej x:=by
 show (bif x.Out != 0 then true else decide (((x.Seen.map (Rz k)).length:Int) < 2))=_
 rw [List.length_map];rfl
theorem Aa8{k:Int}{x:Ab}(h:Zp k x)(h0:Ej x=false→(B9 x.Seen).2=0):(Hz x=none∧Hz (Z4 k x)=none)∨∃a a',Hz x=some a∧Hz (Z4 k x)=some a'∧RB k a a':=by
 unfold Hz
 rw [Al0]
 cases hs:Ej x
 ·exact .inr ⟨_,_,rfl,rfl,Anu h (h0 hs)⟩
 ·exact .inl ⟨rfl,rfl⟩
theorem Agk{k:Int}{l:List Ab}(h:∀x∈l,Zp k x)(h0:∀x∈l,Ej x=false→(B9 x.Seen).2=0):(Dd l=none∧Dd (l.map (Z4 k))=none)∨∃c a a',Dd l=some (c,a)∧Dd (l.map (Z4 k))=some (c,a')∧RB k a a':=by
 unfold Dd
 rw [List.length_map]
 exact Z2 (lt:=ltB) (R:=RB k) (fun a a' b b' ha hb=>by unfold ltB;rw [Agq ha.mean.v ha.mean.v' hb.mean.v hb.mean.v' ha.mean.sh hb.mean.sh]) (Abb (f:=Hz) (fun x hx=>Aa8 (h x hx) (h0 x hx))) (upto 0 l.length) none none (.inl ⟨rfl,rfl⟩)
theorem Apm{k s:Int}{l:List Ab}(h:∀x∈l,Zp k x)(h0:∀x∈l,Ej x=false→(B9 x.Seen).2=0){x:Ab}(hx:x∈l):(I5 s (Dd (l.map (Z4 k))) (Z4 k x)).Out=(I5 s (Dd l) x).Out:=by
 rcases Agk h h0 with ⟨e1,e2⟩|⟨c,B,B',e1,e2,hB⟩
 ·rw [e1,e2];rfl
 ·rw [e1,e2]
  show (upd s B' (Hz (Z4 k x)) (Z4 k x)).Out=(upd s B (Hz x) x).Out
  rcases Aa8 (h x hx) (h0 x hx) with ⟨f1,f2⟩|⟨a,a',f1,f2,ha⟩
  ·rw [f1,f2];rfl
  ·rw [f1,f2]
   unfold upd
   dsimp only
   rw [Amp ha hB]
   cases Ot a B<;>rfl
theorem Ahm(L:Nat)(l:List Ab)(r15 r16:List Ab×Int)(hl:l.length≤1000000)(h:r15.2=0→r16.2=0→r15.1.length=l.length∧r16.1.length=l.length∧∀i,i < l.length→(r15.1.getD i default).Out=(r16.1.getD i default).Out):∀(d i n:Nat) (v:Bool),i+d=l.length→d < n→
  ∃o,Cb L l r15 r16 n v (i:Int)=some (1,(v,o)):=by
 intro d
 induction d with
 |zero=>
  intro i n v h1 h2
  obtain ⟨n,rfl⟩:∃m,n=m+1:=⟨n - 1,by omega⟩
  rw [Cb]
  simp only [F4,aN,aB]
  rw [decide_eq_false (by omega:¬(i:Int) < (l.length:Int))]
  exact ⟨_,rfl⟩
 |succ d ih=>
  intro i n v h1 h2
  obtain ⟨n,rfl⟩:∃m,n=m+1:=⟨n - 1,by omega⟩
  rw [Cb]
  simp only [F4,aN,aB]
  rw [decide_eq_true (by omega:(i:Int) < (l.length:Int)),cond_true]
  by_cases c1:r15.2=0
  ·by_cases c2:r16.2=0
   ·obtain ⟨g1,g2,g3⟩:=h c1 c2
    rw [beq_iff_eq.2 c1,cond_true,beq_iff_eq.2 c2,cond_true,g1,g2,bne_self_eq_false',cond_false,cond_false,Gf (by omega),Gf (by omega),Gf (by omega),Gf (by omega),toN,bne_eq_false_iff_eq.2 (g3 i (by omega)),cond_false,
     show B1 ((i:Int)+1)=((i+1:Nat):Int) by rw [D4 (by unfold Lz;omega)];omega]
    exact ih (i+1) n v (by omega) (by omega)
   ·rw [beq_iff_eq.2 c1,cond_true,beq_eq_false_iff_ne.2 c2];exact ⟨_,rfl⟩
  ·rw [beq_eq_false_iff_ne.2 c1];exact ⟨_,rfl⟩
theorem Y1(l:List Ab)(k:Int)(h0:l.length≤maxLen∧∀y∈l,J0 y)(h1:okI .i64 k):∃L,K9 L l k=some true:=by
 refine ⟨Bc,?_⟩
 have hL:Bc≤Bc:=Nat.le_refl _
 have hM:=Az
 simp only [K9,Qf,Ga,F6,Gb,Dw,Ga,F6,Gb,Dw,aN,aB]
 rcases Xz Bc l hL with e|⟨e,hl⟩
 ·rw [e,Option.bind_some,N0];rfl
 have hr:=Xp h0.2 hl
 have hle:l.length≤30:=hl.1
 have hn:l.length < Bc:=Nat.lt_of_lt_of_le (show l.length < 1000001 by omega) (by decide)
 rw [e,Option.bind_some,Bool.not_true,cond_false]
 by_cases hk1:k < -1000
 ·rw [decide_eq_true hk1,N0];rfl
 by_cases hk2:k > 1000
 ·rw [decide_eq_false hk1,decide_eq_true hk2,N0];rfl
 rw [decide_eq_false hk1,decide_eq_false hk2,cond_false,cond_false,Tl Bc l k Bc (by omega) hn]
 rcases Ali Bc hL l k (by unfold Lz;omega) hr l 0 false [] rfl (by simp only [List.length_nil];omega) with ⟨o,e1⟩|⟨v',i',e1,hg⟩
 ·rw [e1,Option.bind_some,Vl]
 rw [e1,Option.bind_some]
 dsimp only
 rw [Alw,List.nil_append]
 have hr':∀x∈l.map (Z4 k),okR x:=fun x hx=>by
  obtain ⟨z,hz,rfl⟩:=List.mem_map.1 hx
  refine ⟨?_,Ao5 (hg z hz).ok⟩
  show (z.Seen.map (Rz k)).length≤60
  rw [List.length_map];exact (hr z hz).1
 have hle':(l.map (Z4 k)).length≤1000000:=by rw [List.length_map];omega
 rw [Xy _ l 3 hL (by omega) hr,Option.bind_some,Xy _ _ 3 hL hle' hr',Option.bind_some,Adc _ l hL (by omega) hr,Option.bind_some,Adc _ _ hL hle' hr',Option.bind_some,Agl hg]
 rw [bne_self_eq_false',cond_false,beq_self_eq_true,Bool.not_true,cond_false]
 obtain ⟨o,e2⟩:=Ahm Bc l (Je l 3) (Je (l.map (Z4 k)) 3) (by omega) (fun c1 c2=>by
  have q1:Rv l=none:=by
   unfold Je at c1
   rw [show decide ((3:Int) < 1)=false from rfl,cond_false] at c1
   cases he:Rv l with
   |none=>rfl
   |some e=>rw [he] at c1;exact absurd c1 (Acs l _ he)
  have q2:Rv (l.map (Z4 k))=none:=by
   unfold Je at c2
   rw [show decide ((3:Int) < 1)=false from rfl,cond_false] at c2
   cases he:Rv (l.map (Z4 k)) with
   |none=>rfl
   |some e=>rw [he] at c2;exact absurd c2 (Acs _ _ he)
  have s1:Je l 3=(l.map (I5 3 (Dd l)),0):=by
   unfold Je;rw [show decide ((3:Int) < 1)=false from rfl,cond_false,q1]
  have s2:Je (l.map (Z4 k)) 3=((l.map (Z4 k)).map (I5 3 (Dd (l.map (Z4 k)))),0):=by
   unfold Je;rw [show decide ((3:Int) < 1)=false from rfl,cond_false,q2]
  rw [s1,s2]
  refine ⟨by simp only [List.length_map],by simp only [List.length_map],fun i hi=> ?_⟩
  have hx:l[i]? =some l[i]:=List.getElem?_eq_getElem hi
  simp only [List.getD_eq_getElem?_getD,List.getElem?_map,hx,Option.map_some,Option.getD_some]
  exact (Apm hg (Aa3 l q1) (List.getElem_mem hi)).symm) l.length 0 Bc v' (by omega) hn
 have e2:Cb Bc l (Je l 3) (Je (l.map (Z4 k)) 3) Bc v' 0=_:=e2
 rw [e2,Option.bind_some,Alw,N0,Option.bind_some]
end Go.Proofs.YtckmlfboedljeaaDoor.Ev
