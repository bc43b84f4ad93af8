/-  Chapter 10, plainly: what Check of statements says. -/
import Derived.Test.YtfencmicmnhglaaGreatQA
import Derived.Test.YtfencmicmnhglaaGreatPI
import Derived.Test.YtfencmicmnhglaaGreatPB
namespace Go.Proofs.YtfencmicmnhglaaGreat.Ev
open Go An
set_option maxRecDepth 100000
set_option linter.unusedVariables false
set_option linter.unusedSimpArgs false
set_option linter.unnecessarySimpa false
theorem ww1:Dp 1=1:=by kernel_rfl
theorem ww2:Dp 2=2:=by kernel_rfl
def Aya(e:Ab):Bool:=e.Op == 0 && decide (e.Name=⟨#[]⟩) && e.N == 0 && decide (e.Kids.length=0)
theorem Ako(L:Nat)(e:Ab)(hL:1 < L):Ok L e (.mk 0 ⟨#[]⟩ 0 [])=some (Aya e):=by
 obtain ⟨L,rfl⟩:∃k,L=k+1:=⟨L - 1,by omega⟩
 cases e with
 |mk a b c k=>
  simp only [Aqi,Zh,T8,Ahu,Ok,Zh,T8,aN,aB,Ab.cp_eq,Ab.Op,Ab.Name,Ab.N,Ab.Kids,Ab.eta,I2,Nx,Xo,List.length_nil,Aya]
  by_cases h:k.length=0
  ·have hk:k= []:=List.length_eq_zero_iff.1 h
   subst hk
   rw [Ars _ L (.mk a b c []) _ L (Nat.zero_le _) (by simp only [Ab.cp_eq,Ab.Op,Ab.Name,Ab.N,Ab.Kids,Ab.eta,List.length_nil];omega)]
   simp only [Ab.cp_eq,Ab.Op,Ab.Name,Ab.N,Ab.Kids,Ab.eta,Qk,Option.bind_some,n8,List.length_nil]
   by_cases h1:a=0
   ·by_cases h2:b=⟨#[]⟩
    ·by_cases h3:c=0
     ·simp [h1,h2,h3]
     ·simp [h1,h2,h3,Axk h3]
    ·simp [h1,h2]
   ·simp [Axk h1,h1]
  ·have:((k.length:Int) != ((0:Nat):Int))=true:=Axk (by omega)
   simp only [this,Bool.or_true,cond_true,h,decide_false,Bool.and_false]
theorem A3i(op:Int):op=1∨op=2∨op=3∨op=4∨op=5∨op=6∨op=7∨op=8∨op=9∨op=10∨op=11∨op=12∨op=13∨op=14∨op=15∨op=16∨op=17∨op=18∨op < 1∨18 < op:=by omega
def Asc(op:Int):Bm×Bool:=
 if op=1∨op=7∨op=8∨op=12∨op=15∨op=16∨op=17 then (⟨true,false,true,false,false,false,false,false,false⟩,true)
 else if op=2 then (⟨true,true,false,false,false,true,false,false,false⟩,true)
 else if op=3 then (⟨false,false,true,false,false,false,false,true,true⟩,true)
 else if op=4 then (⟨false,false,true,false,false,false,false,true,false⟩,true)
 else if op=5 then (⟨false,false,true,false,false,false,false,false,false⟩,true)
 else if op=6 then (⟨true,false,true,true,false,false,true,false,false⟩,true)
 else if op=9 then (⟨true,true,false,false,false,false,false,false,false⟩,true)
 else if op=10∨op=11 then (⟨true,false,false,false,false,false,false,false,false⟩,true)
 else if op=13 then (⟨true,true,true,false,true,false,false,false,false⟩,true)
 else if op=14 then (⟨true,false,true,false,true,false,false,false,false⟩,true)
 else if op=18 then (⟨false,false,false,false,false,false,false,false,false⟩,true)
 else (⟨false,false,false,false,false,false,false,false,false⟩,false)
theorem B5{op:Int}(h:op < 1∨18 < op)(n:Int)(h1:1≤n)(h2:n≤18):(op == n)=false:=beq_false_of_ne (by omega)
theorem A3t{op:Int}(h:op < 1∨18 < op):Asc op=(⟨false,false,false,false,false,false,false,false,false⟩,false):=by
 unfold Asc
 repeat rw [if_neg (by omega)]
theorem Az6(L:Nat)(op:Int):w6 L op=some (Asc op):=by
 simp only [Ze,sx_stmt_uses_3,Acp,sx_stmt_uses_2,Aco,sx_stmt_uses_0,Aqj,w6,aN,aB]
 have key:op < 1∨18 < op→_:=fun h=>h
 rcases A3i op with rfl|rfl|rfl|rfl|rfl|rfl|rfl|rfl|rfl|rfl|rfl|rfl|rfl|rfl|rfl|rfl|rfl|rfl|h|h
 case inr.inr.inr.inr.inr.inr.inr.inr.inr.inr.inr.inr.inr.inr.inr.inr.inr.inr.inl=>
  have h':op < 1∨18 < op:= .inl h
  simp only [A3t h',B5 h',show (1:Int)≤1 by decide,cond_false,B5 h' 1 (by decide) (by decide),B5 h' 2 (by decide) (by decide),B5 h' 3 (by decide) (by decide),B5 h' 4 (by decide) (by decide),B5 h' 5 (by decide) (by decide),B5 h' 6 (by decide) (by decide),B5 h' 7 (by decide) (by decide),B5 h' 8 (by decide) (by decide),B5 h' 9 (by decide) (by decide),B5 h' 10 (by decide) (by decide),B5 h' 11 (by decide) (by decide),B5 h' 12 (by decide) (by decide),B5 h' 13 (by decide) (by decide),B5 h' 14 (by decide) (by decide),B5 h' 15 (by decide) (by decide),B5 h' 16 (by decide) (by decide),B5 h' 17 (by decide) (by decide),B5 h' 18 (by decide) (by decide)]
 case inr.inr.inr.inr.inr.inr.inr.inr.inr.inr.inr.inr.inr.inr.inr.inr.inr.inr.inr=>
  have h':op < 1∨18 < op:= .inr h
  simp only [A3t h',cond_false,B5 h' 1 (by decide) (by decide),B5 h' 2 (by decide) (by decide),B5 h' 3 (by decide) (by decide),B5 h' 4 (by decide) (by decide),B5 h' 5 (by decide) (by decide),B5 h' 6 (by decide) (by decide),B5 h' 7 (by decide) (by decide),B5 h' 8 (by decide) (by decide),B5 h' 9 (by decide) (by decide),B5 h' 10 (by decide) (by decide),B5 h' 11 (by decide) (by decide),B5 h' 12 (by decide) (by decide),B5 h' 13 (by decide) (by decide),B5 h' 14 (by decide) (by decide),B5 h' 15 (by decide) (by decide),B5 h' 16 (by decide) (by decide),B5 h' 17 (by decide) (by decide),B5 h' 18 (by decide) (by decide)]
 all_goals rfl
def Ajm:Bv:=⟨0,0,0,0,[],[]⟩
def A1w(s:Ac)(u:Bm):Bool:=
 (u.u_name || decide (s.Name=⟨#[]⟩)) && (u.u_of || decide (s.Of=⟨#[]⟩)) && (u.u_e || Aya s.E) && (u.u_f || Aya s.F) && (u.u_args || decide (s.Args.length=0)) && (u.u_dist || An6 s.Dist Ajm) && (u.u_flag || !s.Flag) && (u.u_body || decide (s.Body.length=0)) && (u.u_other || decide (s.Else.length=0))
structure SB (L:Nat) (s:Ac):Prop where
 fuel:9223372036855824383 < L
 nm:okS s.Name
 of:okS s.Of
 e:B9 s.E
 f:B9 s.F
 args:∀y∈s.Args,B9 y
 bk:C4 s≤1048576
theorem SB.lt{L:Nat}{s:Ac}(h:SB L s):maxLen < L:=by
 have h1:=h.fuel
 have hM:=B4
 omega
theorem SB.dist{L:Nat}{s:Ac}(h:SB L s):okD s.Dist:=by
 have h1:=h.bk
 rw [←Ay2] at h1
 unfold H5 at h1
 have h2:s.Dist.Values.length≤C3 (fun z:Int=>1) s.Dist.Values:=Hj fun _=>Nat.le_refl _
 have h3:s.Dist.Weights.length≤C3 (fun z:Int=>1) s.Dist.Weights:=Hj fun _=>Nat.le_refl _
 exact ⟨by omega,by omega⟩
theorem SB.de{L:Nat}{s:Ac}(h:SB L s):maxLen+dE s.E < L∧maxLen+dE s.F < L∧(∀y∈s.Args,maxLen+dE y < L)∧s.Args.length≤1048576:=by
 have h1:=h.bk
 rw [←Ay2] at h1
 have h2:=h.fuel
 have hM:=B4
 have h3:=A62 s.E
 have h4:=A62 s.F
 have h5:=Bd1 s.Args
 refine ⟨by omega,by omega,fun y hy=> ?_,by omega⟩
 have h6:=A62 y
 have h7:Cm y≤C3 Cm s.Args:=Ae9 hy
 omega
theorem Az5(L:Nat)(s:Ac)(u:Bm)(h:SB L s):w5 L s u=some (A1w s u):=by
 have hL:=h.fuel
 have hM:=B4
 have e0:=Ako L s.E (by omega)
 have f0:=Ako L s.F (by omega)
 have d0:=Agm L s.Dist Ajm h.dist h.lt
 unfold Ajm at d0
 simp only [Ah3,w5,aN,aB,Ab.cp_eq,e0,f0,d0,I2,A4z,Option.bind_some,Ot,Nx,Xo,A1w,Ajm]
 congr 1
 cases u.u_e<;>cases u.u_f<;>cases u.u_dist<;>cases Aya s.E<;>cases Aya s.F<;>simp only [Bool.true_or,Bool.false_or,Bool.and_true,Bool.and_false,Bool.false_and,Bool.true_and,cond_true,cond_false,Bool.and_assoc]
def Aqk:List Ab→Int
 | []=>0
 |x::k=>if M8 false x≠0 then M8 false x else Aqk k
def Auk(s:Ac)(u:Bm):Int:=
 if (u.u_name && V1 s.Name != 0)=true then V1 s.Name
 else if (u.u_of && V1 s.Of != 0)=true then V1 s.Of
 else if (u.u_e && M8 false s.E != 0)=true then M8 false s.E
 else if (u.u_f && M8 false s.F != 0)=true then M8 false s.F
 else if 6 < s.Args.length then 6
 else if Aqk s.Args≠0 then Aqk s.Args
 else if u.u_dist then Aqo s.Dist else 0
theorem Auw(L:Nat)(s:Ac)(u:Bm):∀(k:List Ab) (i:Nat) (v:Int),(∀x∈k,Oj L x=some (M8 false x))→∃j,Jh L s u k i v=some (bif Aqk k != 0 then (0,(Aqk k,j)) else (1,(v,j))):=by
 intro k
 induction k with
 |nil=>intro i v _;exact ⟨i,rfl⟩
 |cons x k ih=>
  intro i v h
  obtain ⟨j,hj⟩:=ih (i+1) v fun y hy=>h y (by simp [hy])
  by_cases hx:M8 false x=0
  ·exact ⟨j,by simp [Jh,h x (by simp),hj,Aqk,hx]⟩
  ·exact ⟨i,by simp [Jh,h x (by simp),Aqk,hx,Zn hx]⟩
theorem Awf(L:Nat)(s:Ac)(u:Bm)(h:SB L s):X2 L s u=some (Auk s u):=by
 have hL:=h.fuel
 have hM:=B4
 obtain ⟨b1,b2,b3,b4⟩:=h.de
 have n1:s.Name.size≤maxLen:=h.nm
 have n2:s.Of.size≤maxLen:=h.of
 have c1:=T5 L s.Name h.nm (by omega)
 have c2:=T5 L s.Of h.of (by omega)
 have c3:=v8 h.e L b1
 have c4:=v8 h.f L b2
 have c5:=Ad0 L s.Dist h.dist h.lt
 obtain ⟨j,hj⟩:=Auw L s u s.Args 0 0 fun x hx=>v8 (h.args x hx) L (b3 x hx)
 have p1:∃j,Ll L u s L 0 0=some (bif u.u_name && V1 s.Name != 0 then (0,(V1 s.Name,j)) else bif u.u_of && V1 s.Of != 0 then (0,(V1 s.Of,j)) else (1,(0,j))):=by
  obtain ⟨k,hk⟩:∃k,L=k+3:=⟨L - 3,by omega⟩
  have l1:Ll L u s L 0 0=Ll L u s (k+3) 0 0:=by rw [←hk]
  rw [l1]
  simp only [Ll,Aa1,aN,aB,List.length_cons,List.length_nil]
  cases hn:(u.u_name && V1 s.Name != 0) with
  |true=>exact ⟨0,by simp [c1,hn,Nx]⟩
  |false=>
   cases ho:(u.u_of && V1 s.Of != 0) with
   |true=>exact ⟨1,by simp [c1,c2,hn,ho,Nx,ww1,ww2]⟩
   |false=>exact ⟨2,by simp [c1,c2,hn,ho,Nx,ww1,ww2]⟩
 have p2:∃j,Lm L u s L 0 0=some (bif u.u_e && M8 false s.E != 0 then (0,(M8 false s.E,j)) else bif u.u_f && M8 false s.F != 0 then (0,(M8 false s.F,j)) else (1,(0,j))):=by
  obtain ⟨k,hk⟩:∃k,L=k+3:=⟨L - 3,by omega⟩
  have l1:Lm L u s L 0 0=Lm L u s (k+3) 0 0:=by rw [←hk]
  rw [l1]
  simp only [Lm,Aa2,aN,aB,List.length_cons,List.length_nil,Ab.cp_eq]
  cases he:u.u_e<;>cases hf:u.u_f<;>by_cases ze:M8 false s.E=0<;>by_cases zf:M8 false s.F=0
  all_goals first
   |(refine ⟨0,?_⟩;simp [c3,c4,he,hf,ze,zf,Zn,ww1,ww2];done)
   |(refine ⟨1,?_⟩;simp [c3,c4,he,hf,ze,zf,Zn,ww1,ww2];done)
   |(refine ⟨2,?_⟩;simp [c3,c4,he,hf,ze,zf,Zn,ww1,ww2];done)
 obtain ⟨j1,p1⟩:=p1
 obtain ⟨j2,p2⟩:=p2
 simp only [Amo,W6,Xa,W7,Xb,Ss,X2,W6,Xa,W7,Xb,Ss,aN,aB,p1,Option.bind_some,Auk]
 cases hn:(u.u_name && V1 s.Name != 0) with
 |true=>simp [Lx]
 |false=>
  cases ho:(u.u_of && V1 s.Of != 0) with
  |true=>simp [Lx]
  |false=>
   simp only [cond_false,n8,p2,Option.bind_some,Bool.false_eq_true,if_false]
   cases he:(u.u_e && M8 false s.E != 0) with
   |true=>simp [Lx]
   |false=>
    cases hf:(u.u_f && M8 false s.F != 0) with
    |true=>simp [Lx]
    |false=>
     simp only [cond_false,n8,Bool.false_eq_true,if_false,Apn L s u L (by omega) (by omega),hj,Option.bind_some,c5]
     by_cases hl:6 < s.Args.length
     ·have:(6:Int) < (s.Args.length:Int):=by omega
      simp [hl,this]
     ·have:¬(6:Int) < (s.Args.length:Int):=by omega
      by_cases ha:Aqk s.Args=0
      ·cases hd:u.u_dist<;>simp [hl,this,ha,hd,n8]
      ·simp [hl,this,ha,Zn ha,Lx]
def A26(s:Ac):Int:=bif !(Asc s.Op).2 || !A1w s (Asc s.Op).1 then 1 else Auk s (Asc s.Op).1
mutual
def Bi9:Ac→Int
 | .mk a b c d e f g h i j=>if A26 (.mk a b c d e f g h i j)≠0 then A26 (.mk a b c d e f g h i j) else if Zs i≠0 then Zs i else Zs j
def Zs:List Ac→Int
 | []=>0
 |x::k=>if Bi9 x≠0 then Bi9 x else Zs k
end
theorem Bja(s:Ac):Bi9 s=if A26 s≠0 then A26 s else if Zs s.Body≠0 then Zs s.Body else Zs s.Else:=by cases s;rw [Bi9];rfl
def Al8(l:List Ac):Int:=if 200 < Xe l then 6 else if 12 < dSs l then 11 else Zs l
theorem Fu.sb{L:Nat}{l:List Ac}(h:Fu (L+1) l){x:Ac}(hx:x∈l)(ho:Cs x):SB L x:=by
 obtain ⟨h1,h2⟩:=h
 have hM:=B4
 have h3:=A63 hx
 have h4:=A00 hx
 obtain ⟨o1,o2,o3,o4,o5,o6,_,_⟩:=B4a ho
 exact ⟨by omega,o1,o2,o3,o4,o5,by omega⟩
theorem Bvn{β :Type}(x:Ac)(rest:Option β)(g:Int→β):(Option.bind (bif !(Asc x.Op).2 then some true else some (!A1w x (Asc x.Op).1)) fun b2=>bif b2 then some (g 1) else bif Auk x (Asc x.Op).1 != 0 then some (g (Auk x (Asc x.Op).1)) else rest)=bif A26 x != 0 then some (g (A26 x)) else rest:=by
 unfold A26
 cases (Asc x.Op).2 with
 |false=>rfl
 |true=>cases A1w x (Asc x.Op).1<;>rfl
theorem Auv(rec:List Ac→Option Int)(L:Nat)(a0:List Ac):∀(k:List Ac) (i:Nat) (v:Int),(∀x∈k,SB L x∧rec x.Body=some (Zs x.Body)∧rec x.Else=some (Zs x.Else))→∃j,Lv rec L a0 k i v=some (bif Zs k != 0 then (0,(Zs k,j)) else (1,(v,j))):=by
 intro k
 induction k with
 |nil=>intro i v _;exact ⟨i,rfl⟩
 |cons x k ih=>
  intro i v h
  obtain ⟨h0,h1,h2⟩:=h x (by simp)
  obtain ⟨j,hj⟩:=ih (i+1) v fun y hy=>h y (by simp [hy])
  rw [Lv]
  simp only [Az6,Az5 L x _ h0,Awf L x _ h0,h1,h2,hj,Option.bind_some,Zs,Bja]
  rw [Bvn x _ fun e=>(0,(e,(i:Int)))]
  by_cases e1:A26 x=0
  ·by_cases e2:Zs x.Body=0
   ·by_cases e3:Zs x.Else=0
    ·exact ⟨j,by simp [e1,e2,e3]⟩
    ·exact ⟨i,by simp [e1,e2,e3,Zn e3]⟩
   ·exact ⟨i,by simp [e1,e2,Zn e2]⟩
  ·exact ⟨i,by simp [e1,Zn e1]⟩
theorem Awe{l:List Ac}(hl:∀y∈l,Cs y):∀L,Fu L l→Mi L l=some (Zs l):=by
 refine Ajh (M:=fun l=>∀L,Fu L l→Mi L l=some (Zs l)) ?_ hl
 intro l ih L hF
 obtain ⟨L,rfl⟩:=hF.pos
 obtain ⟨n1,n2,n3⟩:=hF.len
 obtain ⟨j,hj⟩:=Auv (Mi L) L l l 0 0 fun x hx=>⟨hF.sb hx (ih x hx).1,(ih x hx).2.1 L (hF.kid hx).1,(ih x hx).2.2 L (hF.kid hx).2⟩
 simp only [Amn,Sr,Afq,Mi,Sr,aN,aB,Apm _ L l L n1 n2,hj,Option.bind_some]
 by_cases h:Zs l=0
 ·simp [h,n8]
 ·simp [Zn h,Lx]
theorem Akr{l:List Ac}(hl:∀y∈l,Cs y)(L:Nat)(hF:Fu L l):X1 L l=some (Al8 l):=by
 have e1:decide ((Xe l:Int) > 200)=decide (200 < Xe l):=decide_eq_decide.2 (by omega)
 have e2:decide ((dSs l:Int) > 12)=decide (12 < dSs l):=decide_eq_decide.2 (by omega)
 simp only [Af1,X1,aN,aB,Awc hl L hF,Awd hl L hF,Awe hl L hF,Option.bind_some,Ot,e1,e2,Al8]
 congr 1
 by_cases h1:200 < Xe l<;>by_cases h2:12 < dSs l<;>simp [h1,h2]
end Go.Proofs.YtfencmicmnhglaaGreat.Ev
