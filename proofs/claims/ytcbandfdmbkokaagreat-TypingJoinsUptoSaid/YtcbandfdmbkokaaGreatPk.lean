/-  Chapter 10, plainly: what Check of statements says. -/
import Derived.Test.YtcbandfdmbkokaaGreatQ2
import Derived.Test.YtcbandfdmbkokaaGreatQ4
import Derived.Test.YtcbandfdmbkokaaGreatPj
import Derived.Test.YtcbandfdmbkokaaGreatPd
namespace Go.Proofs.YtcbandfdmbkokaaGreat.Ev
open Go
set_option maxRecDepth 100000
set_option linter.unusedVariables false
set_option linter.unusedSimpArgs false
set_option linter.unnecessarySimpa false
theorem ww1:F9 1=1:=by kernel_rfl
theorem ww2:F9 2=2:=by kernel_rfl
def Aig(e:Aa):Bool:=e.Op == 0 && decide (e.Name=⟨#[]⟩) && e.N == 0 && decide (e.Kids.length=0)
theorem Awy(L:Nat)(e:Aa):Nq L e=some (Aig e):=by
 simp only [n5,Nq,Ao,Au,Al,Am,Ar,Ap,Ak,Av,Aw,Aq,Ax,G8,Awm,Dz,Aig]
theorem Ac1(L:Nat)(e:Aa)(hL:1 < L):K1 L e (.mk 0 ⟨#[]⟩ 0 [])=some (Aig e):=by
 obtain ⟨L,rfl⟩:∃k,L=k+1:=⟨L - 1,by omega⟩
 cases e with
 |mk a b c k=>
  simp only [Wo,Wa,K1,Ao,Au,Al,Am,Ar,Ap,Ak,Av,Aw,Aq,Ax,Aa.cp_eq,Aa.Op,Aa.Name,Aa.N,Aa.Kids,Aa.eta,G8,Dz,O8,List.length_nil,Aig]
  by_cases h:k.length=0
  ·have hk:k= []:=List.length_eq_zero_iff.1 h
   subst hk
   rw [Ai8 _ L (.mk a b c []) _ L (Nat.zero_le _) (by simp only [Aa.cp_eq,Aa.Op,Aa.Name,Aa.N,Aa.Kids,Aa.eta,List.length_nil];omega)]
   simp only [Aa.cp_eq,Aa.Op,Aa.Name,Aa.N,Aa.Kids,Aa.eta,Qp,Option.bind_some,f6,List.length_nil]
   by_cases h1:a=0
   ·by_cases h2:b=⟨#[]⟩
    ·by_cases h3:c=0
     ·simp [h1,h2,h3]
     ·simp [h1,h2,h3,x0 h3]
    ·simp [h1,h2]
   ·simp [x0 h1,h1]
  ·have:((k.length:Int) != ((0:Nat):Int))=true:=x0 (by omega)
   simp only [this,Bool.or_true,cond_true,h,decide_false,Bool.and_false]
theorem Abx(op:Int):op=1∨op=2∨op=3∨op=4∨op=5∨op=6∨op=7∨op=8∨op=9∨op=10∨op=11∨op=12∨op=13∨op=14∨op=15∨op=16∨op=17∨op=18∨op < 1∨18 < op:=by omega
def m3(op:Int):Bn×Bool:=
 if op=1∨op=7∨op=8∨op=12∨op=15∨op=16∨op=17 then (⟨true,false,true,false,false,false,false,false,false⟩,true)
 else if op=2 then (⟨true,true,false,false,false,true,false,false,false⟩,true)
 else if op=3 then (⟨false,false,true,false,false,false,false,true,true⟩,true)
 else if op=4 then (⟨false,false,true,false,false,false,false,true,false⟩,true)
 else if op=5 then (⟨false,false,true,false,false,false,false,false,false⟩,true)
 else if op=6 then (⟨true,false,true,true,false,false,true,false,false⟩,true)
 else if op=9 then (⟨true,true,false,false,false,false,false,false,false⟩,true)
 else if op=10∨op=11 then (⟨true,false,false,false,false,false,false,false,false⟩,true)
 else if op=13 then (⟨true,true,true,false,true,false,false,false,false⟩,true)
 else if op=14 then (⟨true,false,true,false,true,false,false,false,false⟩,true)
 else if op=18 then (⟨false,false,false,false,false,false,false,false,false⟩,true)
 else (⟨false,false,false,false,false,false,false,false,false⟩,false)
def Aba(u:Bn):B4:=⟨u.u_name,u.u_of,u.u_e,u.u_f,u.u_args,u.u_dist,u.u_flag,u.u_body,u.u_other⟩
theorem Bd{op:Int}(h:op < 1∨18 < op)(n:Int)(h1:1≤n)(h2:n≤18):(op == n)=false:=beq_false_of_ne (by omega)
theorem Af6{op:Int}(h:op < 1∨18 < op):m3 op=(⟨false,false,false,false,false,false,false,false,false⟩,false):=by
 unfold m3
 repeat rw [if_neg (by omega)]
theorem Atu(L:Nat)(op:Int):O3 L op=some (m3 op):=by
 simp only [Oc,Qz,L1,Qy,Lz,Qx,Aar,O3,Ao,Au,Al,Am,Ar,Ap,Ak,Av,Aw,Aq,Ax]
 have key:op < 1∨18 < op→_:=fun h=>h
 rcases Abx op with rfl|rfl|rfl|rfl|rfl|rfl|rfl|rfl|rfl|rfl|rfl|rfl|rfl|rfl|rfl|rfl|rfl|rfl|h|h
 case inr.inr.inr.inr.inr.inr.inr.inr.inr.inr.inr.inr.inr.inr.inr.inr.inr.inr.inl=>
  have h':op < 1∨18 < op:= .inl h
  simp only [Af6 h',Bd h',show (1:Int)≤1 by decide,cond_false,Bd h' 1 (by decide) (by decide),Bd h' 2 (by decide) (by decide),Bd h' 3 (by decide) (by decide),Bd h' 4 (by decide) (by decide),Bd h' 5 (by decide) (by decide),Bd h' 6 (by decide) (by decide),Bd h' 7 (by decide) (by decide),Bd h' 8 (by decide) (by decide),Bd h' 9 (by decide) (by decide),Bd h' 10 (by decide) (by decide),Bd h' 11 (by decide) (by decide),Bd h' 12 (by decide) (by decide),Bd h' 13 (by decide) (by decide),Bd h' 14 (by decide) (by decide),Bd h' 15 (by decide) (by decide),Bd h' 16 (by decide) (by decide),Bd h' 17 (by decide) (by decide),Bd h' 18 (by decide) (by decide)]
 case inr.inr.inr.inr.inr.inr.inr.inr.inr.inr.inr.inr.inr.inr.inr.inr.inr.inr.inr=>
  have h':op < 1∨18 < op:= .inr h
  simp only [Af6 h',cond_false,Bd h' 1 (by decide) (by decide),Bd h' 2 (by decide) (by decide),Bd h' 3 (by decide) (by decide),Bd h' 4 (by decide) (by decide),Bd h' 5 (by decide) (by decide),Bd h' 6 (by decide) (by decide),Bd h' 7 (by decide) (by decide),Bd h' 8 (by decide) (by decide),Bd h' 9 (by decide) (by decide),Bd h' 10 (by decide) (by decide),Bd h' 11 (by decide) (by decide),Bd h' 12 (by decide) (by decide),Bd h' 13 (by decide) (by decide),Bd h' 14 (by decide) (by decide),Bd h' 15 (by decide) (by decide),Bd h' 16 (by decide) (by decide),Bd h' 17 (by decide) (by decide),Bd h' 18 (by decide) (by decide)]
 all_goals rfl
theorem Aqb(L:Nat)(op:Int):Tk L op=some (Aba (m3 op).1,(m3 op).2):=by
 simp only [S7,T9,Rk,T8,Rj,T7,Ak0,Tk,Ao,Au,Al,Am,Ar,Ap,Ak,Av,Aw,Aq,Ax]
 rcases Abx op with rfl|rfl|rfl|rfl|rfl|rfl|rfl|rfl|rfl|rfl|rfl|rfl|rfl|rfl|rfl|rfl|rfl|rfl|h|h
 case inr.inr.inr.inr.inr.inr.inr.inr.inr.inr.inr.inr.inr.inr.inr.inr.inr.inr.inl=>
  have h':op < 1∨18 < op:= .inl h
  simp only [Af6 h',cond_false,Aba,Bd h' 1 (by decide) (by decide),Bd h' 2 (by decide) (by decide),Bd h' 3 (by decide) (by decide),Bd h' 4 (by decide) (by decide),Bd h' 5 (by decide) (by decide),Bd h' 6 (by decide) (by decide),Bd h' 7 (by decide) (by decide),Bd h' 8 (by decide) (by decide),Bd h' 9 (by decide) (by decide),Bd h' 10 (by decide) (by decide),Bd h' 11 (by decide) (by decide),Bd h' 12 (by decide) (by decide),Bd h' 13 (by decide) (by decide),Bd h' 14 (by decide) (by decide),Bd h' 15 (by decide) (by decide),Bd h' 16 (by decide) (by decide),Bd h' 17 (by decide) (by decide),Bd h' 18 (by decide) (by decide)]
 case inr.inr.inr.inr.inr.inr.inr.inr.inr.inr.inr.inr.inr.inr.inr.inr.inr.inr.inr=>
  have h':op < 1∨18 < op:= .inr h
  simp only [Af6 h',cond_false,Aba,Bd h' 1 (by decide) (by decide),Bd h' 2 (by decide) (by decide),Bd h' 3 (by decide) (by decide),Bd h' 4 (by decide) (by decide),Bd h' 5 (by decide) (by decide),Bd h' 6 (by decide) (by decide),Bd h' 7 (by decide) (by decide),Bd h' 8 (by decide) (by decide),Bd h' 9 (by decide) (by decide),Bd h' 10 (by decide) (by decide),Bd h' 11 (by decide) (by decide),Bd h' 12 (by decide) (by decide),Bd h' 13 (by decide) (by decide),Bd h' 14 (by decide) (by decide),Bd h' 15 (by decide) (by decide),Bd h' 16 (by decide) (by decide),Bd h' 17 (by decide) (by decide),Bd h' 18 (by decide) (by decide)]
 all_goals rfl
def An6:Bo:=⟨0,0,0,0,[],[]⟩
def Ah0(s:Ab)(u:Bn):Bool:=
 (u.u_name || decide (s.Name=⟨#[]⟩)) && (u.u_of || decide (s.Of=⟨#[]⟩)) && (u.u_e || Aig s.E) && (u.u_f || Aig s.F) && (u.u_args || decide (s.Args.length=0)) && (u.u_dist || Axg s.Dist An6) && (u.u_flag || !s.Flag) && (u.u_body || decide (s.Body.length=0)) && (u.u_other || decide (s.Else.length=0))
structure SB (L:Nat) (s:Ab):Prop where
 fuel:9223372036855824383 < L
 nm:okS s.Name
 of:okS s.Of
 e:Ce s.E
 f:Ce s.F
 args:∀y∈s.Args,Ce y
 bk:Cv s≤1048576
theorem SB.lt{L:Nat}{s:Ab}(h:SB L s):maxLen < L:=by
 have h1:=h.fuel
 have hM:=Cf
 omega
theorem SB.dist{L:Nat}{s:Ab}(h:SB L s):okD s.Dist:=by
 have h1:=h.bk
 rw [←Ar5] at h1
 unfold K4 at h1
 have h2:s.Dist.Values.length≤Da (fun z:Int=>1) s.Dist.Values:=Mr fun _=>Nat.le_refl _
 have h3:s.Dist.Weights.length≤Da (fun z:Int=>1) s.Dist.Weights:=Mr fun _=>Nat.le_refl _
 exact ⟨by omega,by omega⟩
theorem SB.de{L:Nat}{s:Ab}(h:SB L s):maxLen+dE s.E < L∧maxLen+dE s.F < L∧(∀y∈s.Args,maxLen+dE y < L)∧s.Args.length≤1048576:=by
 have h1:=h.bk
 rw [←Ar5] at h1
 have h2:=h.fuel
 have hM:=Cf
 have h3:=Aza s.E
 have h4:=Aza s.F
 have h5:=A2z s.Args
 refine ⟨by omega,by omega,fun y hy=> ?_,by omega⟩
 have h6:=Aza y
 have h7:Cn y≤Da Cn s.Args:=Af5 hy
 omega
theorem Att(L:Nat)(s:Ab)(u:Bn)(h:SB L s):M6 L s u=some (Ah0 s u):=by
 have hL:=h.fuel
 have hM:=Cf
 have e0:=Ac1 L s.E (by omega)
 have f0:=Ac1 L s.F (by omega)
 have d0:=Ats L s.Dist An6 h.dist h.lt
 unfold An6 at d0
 simp only [Zm,M6,Ao,Au,Al,Am,Ar,Ap,Ak,Av,Aw,Aq,Ax,Aa.cp_eq,e0,f0,d0,G8,Awm,Option.bind_some,D7,Dz,O8,Ah0,An6]
 congr 1
 cases u.u_e<;>cases u.u_f<;>cases u.u_dist<;>cases Aig s.E<;>cases Aig s.F<;>simp only [Bool.true_or,Bool.false_or,Bool.and_true,Bool.and_false,Bool.false_and,Bool.true_and,cond_true,cond_false,Bool.and_assoc]
theorem Aon(L:Nat)(s:Ab)(h:SB L s):Oz L s=some ((m3 s.Op).2 && Ah0 s (m3 s.Op).1):=by
 have hL:=h.fuel
 have hM:=Cf
 have d0:=Awu L s.Dist An6 h.dist h.lt
 unfold An6 at d0
 simp only [Xl,Oz,Ao,Au,Al,Am,Ar,Ap,Ak,Av,Aw,Aq,Ax,Aa.cp_eq,Awy,Aqb,d0,G8,Awm,Option.bind_some,D7,Dz,O8,Ah0,Aba,An6]
 congr 1
 generalize (m3 s.Op).2=ok
 generalize (m3 s.Op).1=u
 cases u.u_dist<;>simp only [cond_true,cond_false,Bool.true_or,Bool.false_or,Bool.and_true,Bool.true_and]<;>ac_rfl
def Zp:List Aa→Int
 | []=>0
 |x::k=>if E1 false x≠0 then E1 false x else Zp k
def Ahf(s:Ab)(u:Bn):Int:=
 if (u.u_name && S6 s.Name != 0)=true then S6 s.Name
 else if (u.u_of && S6 s.Of != 0)=true then S6 s.Of
 else if (u.u_e && E1 false s.E != 0)=true then E1 false s.E
 else if (u.u_f && E1 false s.F != 0)=true then E1 false s.F
 else if 6 < s.Args.length then 6
 else if Zp s.Args≠0 then Zp s.Args
 else if u.u_dist then Avz s.Dist else 0
theorem Amt(L:Nat)(s:Ab)(u:Bn):∀(k:List Aa) (i:Nat) (v:Int),(∀x∈k,Gw L x=some (E1 false x))→∃j,Jk L s u k i v=some (bif Zp k != 0 then (0,(Zp k,j)) else (1,(v,j))):=by
 intro k
 induction k with
 |nil=>intro i v _;exact ⟨i,rfl⟩
 |cons x k ih=>
  intro i v h
  obtain ⟨j,hj⟩:=ih (i+1) v fun y hy=>h y (by simp [hy])
  by_cases hx:E1 false x=0
  ·exact ⟨j,by simp [Jk,h x (by simp),hj,Zp,hx]⟩
  ·exact ⟨i,by simp [Jk,h x (by simp),Zp,hx,i4 hx]⟩
theorem Aox(L:Nat)(s:Ab)(u:Bn)(h:SB L s):Mw L s u=some (Ahf s u):=by
 have hL:=h.fuel
 have hM:=Cf
 obtain ⟨b1,b2,b3,b4⟩:=h.de
 have n1:s.Name.size≤maxLen:=h.nm
 have n2:s.Of.size≤maxLen:=h.of
 have c1:=Yu L s.Name h.nm (by omega)
 have c2:=Yu L s.Of h.of (by omega)
 have c3:=V3 h.e L b1
 have c4:=V3 h.f L b2
 have c5:=Aop L s.Dist h.dist h.lt
 obtain ⟨j,hj⟩:=Amt L s u s.Args 0 0 fun x hx=>V3 (h.args x hx) L (b3 x hx)
 have p1:∃j,Jf L u s L 0 0=some (bif u.u_name && S6 s.Name != 0 then (0,(S6 s.Name,j)) else bif u.u_of && S6 s.Of != 0 then (0,(S6 s.Of,j)) else (1,(0,j))):=by
  obtain ⟨k,hk⟩:∃k,L=k+3:=⟨L - 3,by omega⟩
  have l1:Jf L u s L 0 0=Jf L u s (k+3) 0 0:=by rw [←hk]
  rw [l1]
  simp only [Jf,Om,Ao,Au,Al,Am,Ar,Ap,Ak,Av,Aw,Aq,Ax,List.length_cons,List.length_nil]
  cases hn:(u.u_name && S6 s.Name != 0) with
  |true=>exact ⟨0,by simp [c1,hn,Dz]⟩
  |false=>
   cases ho:(u.u_of && S6 s.Of != 0) with
   |true=>exact ⟨1,by simp [c1,c2,hn,ho,Dz,ww1,ww2]⟩
   |false=>exact ⟨2,by simp [c1,c2,hn,ho,Dz,ww1,ww2]⟩
 have p2:∃j,Jg L u s L 0 0=some (bif u.u_e && E1 false s.E != 0 then (0,(E1 false s.E,j)) else bif u.u_f && E1 false s.F != 0 then (0,(E1 false s.F,j)) else (1,(0,j))):=by
  obtain ⟨k,hk⟩:∃k,L=k+3:=⟨L - 3,by omega⟩
  have l1:Jg L u s L 0 0=Jg L u s (k+3) 0 0:=by rw [←hk]
  rw [l1]
  simp only [Jg,On,Ao,Au,Al,Am,Ar,Ap,Ak,Av,Aw,Aq,Ax,List.length_cons,List.length_nil,Aa.cp_eq]
  cases he:u.u_e<;>cases hf:u.u_f<;>by_cases ze:E1 false s.E=0<;>by_cases zf:E1 false s.F=0
  all_goals first
   |(refine ⟨0,?_⟩;simp [c3,c4,he,hf,ze,zf,i4,ww1,ww2];done)
   |(refine ⟨1,?_⟩;simp [c3,c4,he,hf,ze,zf,i4,ww1,ww2];done)
   |(refine ⟨2,?_⟩;simp [c3,c4,he,hf,ze,zf,i4,ww1,ww2];done)
 obtain ⟨j1,p1⟩:=p1
 obtain ⟨j2,p2⟩:=p2
 simp only [U0,Mw,Ao,Au,Al,Am,Ar,Ap,Ak,Av,Aw,Aq,Ax,p1,Option.bind_some,Ahf]
 cases hn:(u.u_name && S6 s.Name != 0) with
 |true=>simp [P9]
 |false=>
  cases ho:(u.u_of && S6 s.Of != 0) with
  |true=>simp [P9]
  |false=>
   simp only [cond_false,f6,p2,Option.bind_some,Bool.false_eq_true,if_false]
   cases he:(u.u_e && E1 false s.E != 0) with
   |true=>simp [P9]
   |false=>
    cases hf:(u.u_f && E1 false s.F != 0) with
    |true=>simp [P9]
    |false=>
     simp only [cond_false,f6,Bool.false_eq_true,if_false,Agy L s u L (by omega) (by omega),hj,Option.bind_some,c5]
     by_cases hl:6 < s.Args.length
     ·have:(6:Int) < (s.Args.length:Int):=by omega
      simp [hl,this]
     ·have:¬(6:Int) < (s.Args.length:Int):=by omega
      by_cases ha:Zp s.Args=0
      ·cases hd:u.u_dist<;>simp [hl,this,ha,hd,f6]
      ·simp [hl,this,ha,i4 ha,P9]
end Go.Proofs.YtcbandfdmbkokaaGreat.Ev
