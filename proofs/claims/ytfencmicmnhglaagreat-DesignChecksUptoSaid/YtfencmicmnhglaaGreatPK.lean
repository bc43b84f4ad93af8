/-  Chapter 10, plainly: what Check of statements says. -/
import Derived.Test.YtfencmicmnhglaaGreatQA
import Derived.Test.YtfencmicmnhglaaGreatPI
import Derived.Test.YtfencmicmnhglaaGreatPB
namespace Go.Proofs.YtfencmicmnhglaaGreat.Ev
open Go An
set_option maxRecDepth 100000
set_option linter.unusedVariables false
set_option linter.unusedSimpArgs false
set_option linter.unnecessarySimpa false
theorem ww1:Cq 1=1:=by kernel_rfl
theorem ww2:Cq 2=2:=by kernel_rfl
def A15(e:Ab):Bool:=e.Op == 0 && decide (e.Name=⟨#[]⟩) && e.N == 0 && decide (e.Kids.length=0)
theorem Bhv(L:Nat)(e:Ab):Ajh L e=some (A15 e):=by
 simp only [Au3,Ajh,aN,aB,Ea,A6h,D3,A15]
theorem Aul(L:Nat)(e:Ab)(hL:1 < L):Rk L e (.mk 0 ⟨#[]⟩ 0 [])=some (A15 e):=by
 obtain ⟨L,rfl⟩:∃k,L=k+1:=⟨L - 1,by omega⟩
 cases e with
 |mk a b c k=>
  simp only [A1f,Adq,Ya,Aq4,Rk,Adq,Ya,aN,aB,Ab.cp_eq,Ab.Op,Ab.Name,Ab.N,Ab.Kids,Ab.eta,Ea,D3,Kn,List.length_nil,A15]
  by_cases h:k.length=0
  ·have hk:k= []:=List.length_eq_zero_iff.1 h
   subst hk
   rw [A28 _ L (.mk a b c []) _ L (Nat.zero_le _) (by simp only [Ab.cp_eq,Ab.Op,Ab.Name,Ab.N,Ab.Kids,Ab.eta,List.length_nil];omega)]
   simp only [Ab.cp_eq,Ab.Op,Ab.Name,Ab.N,Ab.Kids,Ab.eta,Tn,Option.bind_some,Qo,List.length_nil]
   by_cases h1:a=0
   ·by_cases h2:b=⟨#[]⟩
    ·by_cases h3:c=0
     ·simp [h1,h2,h3]
     ·simp [h1,h2,h3,Aqk h3]
    ·simp [h1,h2]
   ·simp [Aqk h1,h1]
  ·have:((k.length:Int) != ((0:Nat):Int))=true:=Aqk (by omega)
   simp only [this,Bool.or_true,cond_true,h,decide_false,Bool.and_false]
theorem As9(op:Int):op=1∨op=2∨op=3∨op=4∨op=5∨op=6∨op=7∨op=8∨op=9∨op=10∨op=11∨op=12∨op=13∨op=14∨op=15∨op=16∨op=17∨op=18∨op < 1∨18 < op:=by omega
def Aob(op:Int):Bs×Bool:=
 if op=1∨op=7∨op=8∨op=12∨op=15∨op=16∨op=17 then (⟨true,false,true,false,false,false,false,false,false⟩,true)
 else if op=2 then (⟨true,true,false,false,false,true,false,false,false⟩,true)
 else if op=3 then (⟨false,false,true,false,false,false,false,true,true⟩,true)
 else if op=4 then (⟨false,false,true,false,false,false,false,true,false⟩,true)
 else if op=5 then (⟨false,false,true,false,false,false,false,false,false⟩,true)
 else if op=6 then (⟨true,false,true,true,false,false,true,false,false⟩,true)
 else if op=9 then (⟨true,true,false,false,false,false,false,false,false⟩,true)
 else if op=10∨op=11 then (⟨true,false,false,false,false,false,false,false,false⟩,true)
 else if op=13 then (⟨true,true,true,false,true,false,false,false,false⟩,true)
 else if op=14 then (⟨true,false,true,false,true,false,false,false,false⟩,true)
 else if op=18 then (⟨false,false,false,false,false,false,false,false,false⟩,true)
 else (⟨false,false,false,false,false,false,false,false,false⟩,false)
def Ash(u:Bs):Cn:=⟨u.u_name,u.u_of,u.u_e,u.u_f,u.u_args,u.u_dist,u.u_flag,u.u_body,u.u_other⟩
theorem Ay{op:Int}(h:op < 1∨18 < op)(n:Int)(h1:1≤n)(h2:n≤18):(op == n)=false:=beq_false_of_ne (by omega)
theorem Ayk{op:Int}(h:op < 1∨18 < op):Aob op=(⟨false,false,false,false,false,false,false,false,false⟩,false):=by
 unfold Aob
 repeat rw [if_neg (by omega)]
theorem Bef(L:Nat)(op:Int):Agz L op=some (Aob op):=by
 simp only [Ac8,sx_stmt_uses_3,Aki,sx_stmt_uses_2,Akh,sx_stmt_uses_0,A1g,Agz,aN,aB]
 have key:op < 1∨18 < op→_:=fun h=>h
 rcases As9 op with rfl|rfl|rfl|rfl|rfl|rfl|rfl|rfl|rfl|rfl|rfl|rfl|rfl|rfl|rfl|rfl|rfl|rfl|h|h
 case inr.inr.inr.inr.inr.inr.inr.inr.inr.inr.inr.inr.inr.inr.inr.inr.inr.inr.inl=>
  have h':op < 1∨18 < op:= .inl h
  simp only [Ayk h',Ay h',show (1:Int)≤1 by decide,cond_false,Ay h' 1 (by decide) (by decide),Ay h' 2 (by decide) (by decide),Ay h' 3 (by decide) (by decide),Ay h' 4 (by decide) (by decide),Ay h' 5 (by decide) (by decide),Ay h' 6 (by decide) (by decide),Ay h' 7 (by decide) (by decide),Ay h' 8 (by decide) (by decide),Ay h' 9 (by decide) (by decide),Ay h' 10 (by decide) (by decide),Ay h' 11 (by decide) (by decide),Ay h' 12 (by decide) (by decide),Ay h' 13 (by decide) (by decide),Ay h' 14 (by decide) (by decide),Ay h' 15 (by decide) (by decide),Ay h' 16 (by decide) (by decide),Ay h' 17 (by decide) (by decide),Ay h' 18 (by decide) (by decide)]
 case inr.inr.inr.inr.inr.inr.inr.inr.inr.inr.inr.inr.inr.inr.inr.inr.inr.inr.inr=>
  have h':op < 1∨18 < op:= .inr h
  simp only [Ayk h',cond_false,Ay h' 1 (by decide) (by decide),Ay h' 2 (by decide) (by decide),Ay h' 3 (by decide) (by decide),Ay h' 4 (by decide) (by decide),Ay h' 5 (by decide) (by decide),Ay h' 6 (by decide) (by decide),Ay h' 7 (by decide) (by decide),Ay h' 8 (by decide) (by decide),Ay h' 9 (by decide) (by decide),Ay h' 10 (by decide) (by decide),Ay h' 11 (by decide) (by decide),Ay h' 12 (by decide) (by decide),Ay h' 13 (by decide) (by decide),Ay h' 14 (by decide) (by decide),Ay h' 15 (by decide) (by decide),Ay h' 16 (by decide) (by decide),Ay h' 17 (by decide) (by decide),Ay h' 18 (by decide) (by decide)]
 all_goals rfl
theorem Bbc(L:Nat)(op:Int):Aq5 L op=some (Ash (Aob op).1,(Aob op).2):=by
 simp only [Alp,sx_R10_Of_3,Ate,sx_R10_Of_2,Atd,sx_R10_Of_0,Bfc,Aq5,aN,aB]
 rcases As9 op with rfl|rfl|rfl|rfl|rfl|rfl|rfl|rfl|rfl|rfl|rfl|rfl|rfl|rfl|rfl|rfl|rfl|rfl|h|h
 case inr.inr.inr.inr.inr.inr.inr.inr.inr.inr.inr.inr.inr.inr.inr.inr.inr.inr.inl=>
  have h':op < 1∨18 < op:= .inl h
  simp only [Ayk h',cond_false,Ash,Ay h' 1 (by decide) (by decide),Ay h' 2 (by decide) (by decide),Ay h' 3 (by decide) (by decide),Ay h' 4 (by decide) (by decide),Ay h' 5 (by decide) (by decide),Ay h' 6 (by decide) (by decide),Ay h' 7 (by decide) (by decide),Ay h' 8 (by decide) (by decide),Ay h' 9 (by decide) (by decide),Ay h' 10 (by decide) (by decide),Ay h' 11 (by decide) (by decide),Ay h' 12 (by decide) (by decide),Ay h' 13 (by decide) (by decide),Ay h' 14 (by decide) (by decide),Ay h' 15 (by decide) (by decide),Ay h' 16 (by decide) (by decide),Ay h' 17 (by decide) (by decide),Ay h' 18 (by decide) (by decide)]
 case inr.inr.inr.inr.inr.inr.inr.inr.inr.inr.inr.inr.inr.inr.inr.inr.inr.inr.inr=>
  have h':op < 1∨18 < op:= .inr h
  simp only [Ayk h',cond_false,Ash,Ay h' 1 (by decide) (by decide),Ay h' 2 (by decide) (by decide),Ay h' 3 (by decide) (by decide),Ay h' 4 (by decide) (by decide),Ay h' 5 (by decide) (by decide),Ay h' 6 (by decide) (by decide),Ay h' 7 (by decide) (by decide),Ay h' 8 (by decide) (by decide),Ay h' 9 (by decide) (by decide),Ay h' 10 (by decide) (by decide),Ay h' 11 (by decide) (by decide),Ay h' 12 (by decide) (by decide),Ay h' 13 (by decide) (by decide),Ay h' 14 (by decide) (by decide),Ay h' 15 (by decide) (by decide),Ay h' 16 (by decide) (by decide),Ay h' 17 (by decide) (by decide),Ay h' 18 (by decide) (by decide)]
 all_goals rfl
def Ahm:Bj:=⟨0,0,0,0,[],[]⟩
def A1p(s:Ac)(u:Bs):Bool:=
 (u.u_name || decide (s.Name=⟨#[]⟩)) && (u.u_of || decide (s.Of=⟨#[]⟩)) && (u.u_e || A15 s.E) && (u.u_f || A15 s.F) && (u.u_args || decide (s.Args.length=0)) && (u.u_dist || An8 s.Dist Ahm) && (u.u_flag || !s.Flag) && (u.u_body || decide (s.Body.length=0)) && (u.u_other || decide (s.Else.length=0))
structure SB (L:Nat) (s:Ac):Prop where
 fuel:9223372036855824383 < L
 nm:okS s.Name
 of:okS s.Of
 e:B1 s.E
 f:B1 s.F
 args:∀y∈s.Args,B1 y
 bk:Dk s≤1048576
theorem SB.lt{L:Nat}{s:Ac}(h:SB L s):maxLen < L:=by
 have h1:=h.fuel
 have hM:=Bd
 omega
theorem SB.dist{L:Nat}{s:Ac}(h:SB L s):okD s.Dist:=by
 have h1:=h.bk
 rw [←Bct] at h1
 unfold I0 at h1
 have h2:s.Dist.Values.length≤Dl (fun z:Int=>1) s.Dist.Values:=Jb fun _=>Nat.le_refl _
 have h3:s.Dist.Weights.length≤Dl (fun z:Int=>1) s.Dist.Weights:=Jb fun _=>Nat.le_refl _
 exact ⟨by omega,by omega⟩
theorem SB.de{L:Nat}{s:Ac}(h:SB L s):maxLen+dE s.E < L∧maxLen+dE s.F < L∧(∀y∈s.Args,maxLen+dE y < L)∧s.Args.length≤1048576:=by
 have h1:=h.bk
 rw [←Bct] at h1
 have h2:=h.fuel
 have hM:=Bd
 have h3:=Bmc s.E
 have h4:=Bmc s.F
 have h5:=Bu6 s.Args
 refine ⟨by omega,by omega,fun y hy=> ?_,by omega⟩
 have h6:=Bmc y
 have h7:Cs y≤Dl Cs s.Args:=An9 hy
 omega
theorem Bee(L:Nat)(s:Ac)(u:Bs)(h:SB L s):Agy L s u=some (A1p s u):=by
 have hL:=h.fuel
 have hM:=Bd
 have e0:=Aul L s.E (by omega)
 have f0:=Aul L s.F (by omega)
 have d0:=Ap2 L s.Dist Ahm h.dist h.lt
 unfold Ahm at d0
 simp only [Arr,Agy,aN,aB,Ab.cp_eq,e0,f0,d0,Ea,A6h,Option.bind_some,D5,D3,Kn,A1p,Ahm]
 congr 1
 cases u.u_e<;>cases u.u_f<;>cases u.u_dist<;>cases A15 s.E<;>cases A15 s.F<;>simp only [Bool.true_or,Bool.false_or,Bool.and_true,Bool.and_false,Bool.false_and,Bool.true_and,cond_true,cond_false,Bool.and_assoc]
theorem A86(L:Nat)(s:Ac)(h:SB L s):Aii L s=some ((Aob s.Op).2 && A1p s (Aob s.Op).1):=by
 have hL:=h.fuel
 have hM:=Bd
 have d0:=Asn L s.Dist Ahm h.dist h.lt
 unfold Ahm at d0
 simp only [Ao3,Aii,aN,aB,Ab.cp_eq,Bhv,Bbc,d0,Ea,A6h,Option.bind_some,D5,D3,Kn,A1p,Ash,Ahm]
 congr 1
 generalize (Aob s.Op).2=ok
 generalize (Aob s.Op).1=u
 cases u.u_dist<;>simp only [cond_true,cond_false,Bool.true_or,Bool.false_or,Bool.and_true,Bool.true_and]<;>ac_rfl
def Ak9:List Ab→Int
 | []=>0
 |x::k=>if F9 false x≠0 then F9 false x else Ak9 k
def A0b(s:Ac)(u:Bs):Int:=
 if (u.u_name && Rw s.Name != 0)=true then Rw s.Name
 else if (u.u_of && Rw s.Of != 0)=true then Rw s.Of
 else if (u.u_e && F9 false s.E != 0)=true then F9 false s.E
 else if (u.u_f && F9 false s.F != 0)=true then F9 false s.F
 else if 6 < s.Args.length then 6
 else if Ak9 s.Args≠0 then Ak9 s.Args
 else if u.u_dist then Auf s.Dist else 0
theorem A7s(L:Nat)(s:Ac)(u:Bs):∀(k:List Ab) (i:Nat) (v:Int),(∀x∈k,Rj L x=some (F9 false x))→∃j,Kd L s u k i v=some (bif Ak9 k != 0 then (0,(Ak9 k,j)) else (1,(v,j))):=by
 intro k
 induction k with
 |nil=>intro i v _;exact ⟨i,rfl⟩
 |cons x k ih=>
  intro i v h
  obtain ⟨j,hj⟩:=ih (i+1) v fun y hy=>h y (by simp [hy])
  by_cases hx:F9 false x=0
  ·exact ⟨j,by simp [Kd,h x (by simp),hj,Ak9,hx]⟩
  ·exact ⟨i,by simp [Kd,h x (by simp),Ak9,hx,Uy hx]⟩
theorem A9i(L:Nat)(s:Ac)(u:Bs)(h:SB L s):Aa6 L s u=some (A0b s u):=by
 have hL:=h.fuel
 have hM:=Bd
 obtain ⟨b1,b2,b3,b4⟩:=h.de
 have n1:s.Name.size≤maxLen:=h.nm
 have n2:s.Of.size≤maxLen:=h.of
 have c1:=Xd L s.Name h.nm (by omega)
 have c2:=Xd L s.Of h.of (by omega)
 have c3:=Agf h.e L b1
 have c4:=Agf h.f L b2
 have c5:=Amj L s.Dist h.dist h.lt
 obtain ⟨j,hj⟩:=A7s L s u s.Args 0 0 fun x hx=>Agf (h.args x hx) L (b3 x hx)
 have p1:∃j,Mz L u s L 0 0=some (bif u.u_name && Rw s.Name != 0 then (0,(Rw s.Name,j)) else bif u.u_of && Rw s.Of != 0 then (0,(Rw s.Of,j)) else (1,(0,j))):=by
  obtain ⟨k,hk⟩:∃k,L=k+3:=⟨L - 3,by omega⟩
  have l1:Mz L u s L 0 0=Mz L u s (k+3) 0 0:=by rw [←hk]
  rw [l1]
  simp only [Mz,Ah1,aN,aB,List.length_cons,List.length_nil]
  cases hn:(u.u_name && Rw s.Name != 0) with
  |true=>exact ⟨0,by simp [c1,hn,D3]⟩
  |false=>
   cases ho:(u.u_of && Rw s.Of != 0) with
   |true=>exact ⟨1,by simp [c1,c2,hn,ho,D3,ww1,ww2]⟩
   |false=>exact ⟨2,by simp [c1,c2,hn,ho,D3,ww1,ww2]⟩
 have p2:∃j,M3 L u s L 0 0=some (bif u.u_e && F9 false s.E != 0 then (0,(F9 false s.E,j)) else bif u.u_f && F9 false s.F != 0 then (0,(F9 false s.F,j)) else (1,(0,j))):=by
  obtain ⟨k,hk⟩:∃k,L=k+3:=⟨L - 3,by omega⟩
  have l1:M3 L u s L 0 0=M3 L u s (k+3) 0 0:=by rw [←hk]
  rw [l1]
  simp only [M3,Ah2,aN,aB,List.length_cons,List.length_nil,Ab.cp_eq]
  cases he:u.u_e<;>cases hf:u.u_f<;>by_cases ze:F9 false s.E=0<;>by_cases zf:F9 false s.F=0
  all_goals first
   |(refine ⟨0,?_⟩;simp [c3,c4,he,hf,ze,zf,Uy,ww1,ww2];done)
   |(refine ⟨1,?_⟩;simp [c3,c4,he,hf,ze,zf,Uy,ww1,ww2];done)
   |(refine ⟨2,?_⟩;simp [c3,c4,he,hf,ze,zf,Uy,ww1,ww2];done)
 obtain ⟨j1,p1⟩:=p1
 obtain ⟨j2,p2⟩:=p2
 simp only [Awu,x0,y8,y5,y9,Vq,Aa6,x0,y8,y5,y9,Vq,aN,aB,p1,Option.bind_some,A0b]
 cases hn:(u.u_name && Rw s.Name != 0) with
 |true=>simp [Hb]
 |false=>
  cases ho:(u.u_of && Rw s.Of != 0) with
  |true=>simp [Hb]
  |false=>
   simp only [cond_false,Qo,p2,Option.bind_some,Bool.false_eq_true,if_false]
   cases he:(u.u_e && F9 false s.E != 0) with
   |true=>simp [Hb]
   |false=>
    cases hf:(u.u_f && F9 false s.F != 0) with
    |true=>simp [Hb]
    |false=>
     simp only [cond_false,Qo,Bool.false_eq_true,if_false,Azx L s u L (by omega) (by omega),hj,Option.bind_some,c5]
     by_cases hl:6 < s.Args.length
     ·have:(6:Int) < (s.Args.length:Int):=by omega
      simp [hl,this]
     ·have:¬(6:Int) < (s.Args.length:Int):=by omega
      by_cases ha:Ak9 s.Args=0
      ·cases hd:u.u_dist<;>simp [hl,this,ha,hd,Qo]
      ·simp [hl,this,ha,Uy ha,Hb]
theorem A66(L:Nat)(s:Ac)(f:Cn)(hc:∀x∈s.Args,Ra L x=some (F9 false x))(hl:s.Args.length≤1048576):∀(m i n:Nat) (v:Int),i+m=s.Args.length→m < n→
  ∃j,Dw L s f n v (i:Int)=some (0,(if v≠0 then v else Ak9 (s.Args.drop i),j)):=by
 intro m
 induction m with
 |zero=>
  intro i n v hi hn
  obtain ⟨n,rfl⟩:∃k,n=k+1:=⟨n - 1,by omega⟩
  refine ⟨i,?_⟩
  simp only [Dw,Xa,aN,aB,D1 (show s.Args.length≤i by omega),D3,Bool.and_false,cond_false]
  rw [List.drop_eq_nil_of_le (by omega),Ak9]
  by_cases hv:v=0<;>simp [hv]
 |succ m ih=>
  intro i n v hi hn
  obtain ⟨n,rfl⟩:∃k,n=k+1:=⟨n - 1,by omega⟩
  have hlt:i < s.Args.length:=by omega
  have hM:=Bd
  by_cases hv:v=0
  ·subst hv
   have hx:s.Args.getD i default∈s.Args:=by rw [Gs s.Args i hlt];exact List.getElem_mem hlt
   obtain ⟨j,hj⟩:=ih (i+1) n (F9 false (s.Args.getD i default)) (by omega) (by omega)
   refine ⟨j,?_⟩
   simp only [Dw,Xa,aN,aB,Dv hlt,nn,Ip hlt,toN,if_true,D3,beq_self_eq_true,Bool.true_and,cond_true,Ab.cp_eq,hc _ hx,Option.bind_some,A9 hlt (show s.Args.length≤maxLen by omega),hj]
   rw [Af1 s.Args i hlt,Ak9]
   by_cases hz:F9 false (s.Args.getD i default)=0<;>simp [hz]
  ·refine ⟨i,?_⟩
   simp only [Dw,Xa,aN,aB,D3,beq_false_of_ne hv,Bool.false_and,cond_false]
   simp [hv]
def Bjx(s:Ac)(u:Bs):Int:=
 if (u.u_e && F9 false s.E != 0)=true then F9 false s.E
 else if (u.u_f && F9 false s.F != 0)=true then F9 false s.F
 else if 6 < s.Args.length then 6 else Ak9 s.Args
theorem Bd0(L:Nat)(s:Ac)(u:Bs)(h:SB L s):Aky L s (Ash u)=some (Bjx s u):=by
 have hL:=h.fuel
 have hM:=Bd
 obtain ⟨b1,b2,b3,b4⟩:=h.de
 have c3:=Ai3 h.e L b1
 have c4:=Ai3 h.f L b2
 have lpz:∀v:Int,(Option.bind (Dw L s (Ash u) L v 0) fun o=>As6 o.1 [some o.2.1])=some (if v≠0 then v else Ak9 s.Args):=by
  intro v
  obtain ⟨j,hj⟩:=A66 L s (Ash u) (fun x hx=>Ai3 (h.args x hx) L (b3 x hx)) b4 s.Args.length 0 L v (by omega) (by omega)
  have hj:Dw L s (Ash u) L v 0=_:=hj
  rw [hj,List.drop_zero]
  simp only [Option.bind_some,Hb]
 have fE:(Ash u).E=u.u_e:=rfl
 have fF:(Ash u).F=u.u_f:=rfl
 simp only [A04,Adc,Xl,Xm,Xn,Xo,Xp,Xq,Xr,Xs,Aky,Adc,Xl,Xm,Xn,Xo,Xp,Xq,Xr,Xs,aN,aB,Ab.cp_eq,c3,c4,lpz,Option.bind_some,fE,fF,Bjx,D3]
 have hd:decide ((s.Args.length:Int) > 6)=decide (6 < s.Args.length):=decide_eq_decide.2 (by omega)
 simp only [hd]
 cases u.u_e<;>cases u.u_f<;>by_cases h1:F9 false s.E=0<;>by_cases h2:F9 false s.F=0<;>by_cases h3:6 < s.Args.length<;>simp [h1,h2,h3,Uy,beq_false_of_ne]
def A7h(s:Ac):Int:=bif !(Aob s.Op).2 || !A1p s (Aob s.Op).1 then 1 else A0b s (Aob s.Op).1
theorem A1t(s:ByteArray):Rw s=0∨Rw s=3:=by
 unfold Rw
 cases Amg s
 ·exact .inr rfl
 ·exact .inl rfl
theorem Bkd(L:Nat)(s:Ac)(h:SB L s):Am1 L s=some (A7h s):=by
 have hL:=h.fuel
 have hM:=Bd
 have n1:s.Name.size≤maxLen:=h.nm
 have n2:s.Of.size≤maxLen:=h.of
 have c1:=Acl L s.Name h.nm (by omega) (by omega)
 have c2:=Acl L s.Of h.of (by omega) (by omega)
 have c5:=Apy L s.Dist h.dist h.lt
 simp only [Ayr,Am1,aN,aB,Ac.cp_eq,Bbc,A86 L s h,c1,c2,c5,Bd0 L s _ h,Option.bind_some,D5,D3,Kn]
 congr 1
 unfold A7h A0b Bjx
 generalize (Aob s.Op).2=ok
 generalize (Aob s.Op).1=u
 simp only [Ash]
 cases ok with
 |false=>simp
 |true=>
  cases A1p s u with
  |false=>simp
  |true=>
   simp only [Bool.and_self,Bool.not_true,cond_false,Bool.or_self,Bool.false_eq_true,if_false]
   cases u.u_name<;>cases u.u_of<;>rcases A1t s.Name with e1|e1<;>rcases A1t s.Of with e2|e2<;>simp only [e1,e2]<;>first|(simp;done)|skip
   all_goals (cases u.u_e<;>cases u.u_f<;>cases u.u_dist<;>by_cases h1:F9 false s.E=0<;>by_cases h2:F9 false s.F=0<;>by_cases h3:6 < s.Args.length<;>by_cases h4:Ak9 s.Args=0<;>simp [h1,h2,h3,h4,Uy,beq_false_of_ne])
mutual
def B0n:Ac→Int
 | .mk a b c d e f g h i j=>if A7h (.mk a b c d e f g h i j)≠0 then A7h (.mk a b c d e f g h i j) else if S4 i≠0 then S4 i else S4 j
def S4:List Ac→Int
 | []=>0
 |x::k=>if B0n x≠0 then B0n x else S4 k
end
theorem Bmb(s:Ac):B0n s=if A7h s≠0 then A7h s else if S4 s.Body≠0 then S4 s.Body else S4 s.Else:=by cases s;rw [B0n];rfl
def Amo(l:List Ac):Int:=if 200 < Nf l then 6 else if 12 < dSs l then 11 else S4 l
theorem Fu.sb{L:Nat}{l:List Ac}(h:Fu (L+1) l){x:Ac}(hx:x∈l)(ho:B6 x):SB L x:=by
 obtain ⟨h1,h2⟩:=h
 have hM:=Bd
 have h3:=Bmd hx
 have h4:=Bfh hx
 obtain ⟨o1,o2,o3,o4,o5,o6,_,_⟩:=Cqo ho
 exact ⟨by omega,o1,o2,o3,o4,o5,by omega⟩
theorem Cgl{β :Type}(x:Ac)(rest:Option β)(g:Int→β):(Option.bind (bif !(Aob x.Op).2 then some true else some (!A1p x (Aob x.Op).1)) fun b2=>bif b2 then some (g 1) else bif A0b x (Aob x.Op).1 != 0 then some (g (A0b x (Aob x.Op).1)) else rest)=bif A7h x != 0 then some (g (A7h x)) else rest:=by
 unfold A7h
 cases (Aob x.Op).2 with
 |false=>rfl
 |true=>cases A1p x (Aob x.Op).1<;>rfl
theorem A7r(rec:List Ac→Option Int)(L:Nat)(a0:List Ac):∀(k:List Ac) (i:Nat) (v:Int),(∀x∈k,SB L x∧rec x.Body=some (S4 x.Body)∧rec x.Else=some (S4 x.Else))→∃j,Nb rec L a0 k i v=some (bif S4 k != 0 then (0,(S4 k,j)) else (1,(v,j))):=by
 intro k
 induction k with
 |nil=>intro i v _;exact ⟨i,rfl⟩
 |cons x k ih=>
  intro i v h
  obtain ⟨h0,h1,h2⟩:=h x (by simp)
  obtain ⟨j,hj⟩:=ih (i+1) v fun y hy=>h y (by simp [hy])
  rw [Nb]
  simp only [Bef,Bee L x _ h0,A9i L x _ h0,h1,h2,hj,Option.bind_some,S4,Bmb]
  rw [Cgl x _ fun e=>(0,(e,(i:Int)))]
  by_cases e1:A7h x=0
  ·by_cases e2:S4 x.Body=0
   ·by_cases e3:S4 x.Else=0
    ·exact ⟨j,by simp [e1,e2,e3]⟩
    ·exact ⟨i,by simp [e1,e2,e3,Uy e3]⟩
   ·exact ⟨i,by simp [e1,e2,Uy e2]⟩
  ·exact ⟨i,by simp [e1,Uy e1]⟩
theorem A9h{l:List Ac}(hl:∀y∈l,B6 y):∀L,Fu L l→Nv L l=some (S4 l):=by
 refine Ac4 (M:=fun l=>∀L,Fu L l→Nv L l=some (S4 l)) ?_ hl
 intro l ih L hF
 obtain ⟨L,rfl⟩:=hF.pos
 obtain ⟨n1,n2,n3⟩:=hF.len
 obtain ⟨j,hj⟩:=A7r (Nv L) L l l 0 0 fun x hx=>⟨hF.sb hx (ih x hx).1,(ih x hx).2.1 L (hF.kid hx).1,(ih x hx).2.2 L (hF.kid hx).2⟩
 simp only [Awt,Vp,Aop,Nv,Vp,aN,aB,Azw _ L l L n1 n2,hj,Option.bind_some]
 by_cases h:S4 l=0
 ·simp [h,Qo]
 ·simp [Uy h,Hb]
theorem Auo{l:List Ac}(hl:∀y∈l,B6 y)(L:Nat)(hF:Fu L l):Aa5 L l=some (Amo l):=by
 have e1:decide ((Nf l:Int) > 200)=decide (200 < Nf l):=decide_eq_decide.2 (by omega)
 have e2:decide ((dSs l:Int) > 12)=decide (12 < dSs l):=decide_eq_decide.2 (by omega)
 simp only [Apc,Aa5,aN,aB,A9f hl L hF,A9g hl L hF,A9h hl L hF,Option.bind_some,D5,e1,e2,Amo]
 congr 1
 by_cases h1:200 < Nf l<;>by_cases h2:12 < dSs l<;>simp [h1,h2]
theorem Ben(rec:List Ac→Option Int)(L:Nat)(a0:List Ac):∀(k:List Ac) (i:Nat) (v:Int),(∀x∈k,SB L x∧rec x.Body=some (S4 x.Body)∧rec x.Else=some (S4 x.Else))→∃j,Jf rec L a0 k i v=some (bif S4 k != 0 then (0,(S4 k,j)) else (1,(v,j))):=by
 intro k
 induction k with
 |nil=>intro i v _;exact ⟨i,rfl⟩
 |cons x k ih=>
  intro i v h
  obtain ⟨h0,h1,h2⟩:=h x (by simp)
  obtain ⟨j,hj⟩:=ih (i+1) v fun y hy=>h y (by simp [hy])
  rw [Jf]
  simp only [Bkd L x h0,h1,h2,hj,Option.bind_some,S4,Bmb]
  by_cases e1:A7h x=0
  ·by_cases e2:S4 x.Body=0
   ·by_cases e3:S4 x.Else=0
    ·exact ⟨j,by simp [e1,e2,e3]⟩
    ·exact ⟨i,by simp [e1,e2,e3,Uy e3]⟩
   ·exact ⟨i,by simp [e1,e2,Uy e2,beq_false_of_ne e2]⟩
  ·exact ⟨i,by simp [e1,Uy e1,beq_false_of_ne e1]⟩
theorem Bhu{l:List Ac}(hl:∀y∈l,B6 y):∀L,Fu L l→Uk L l=some (S4 l):=by
 refine Ac4 (M:=fun l=>∀L,Fu L l→Uk L l=some (S4 l)) ?_ hl
 intro l ih L hF
 obtain ⟨L,rfl⟩:=hF.pos
 obtain ⟨n1,n2,n3⟩:=hF.len
 obtain ⟨j,hj⟩:=Ben (Uk L) L l l 0 0 fun x hx=>⟨hF.sb hx (ih x hx).1,(ih x hx).2.1 L (hF.kid hx).1,(ih x hx).2.2 L (hF.kid hx).2⟩
 simp only [A5d,n6,Auw,Uk,n6,aN,aB,A6r _ L l L n1 n2,hj,Option.bind_some]
 by_cases h:S4 l=0
 ·simp [h,Qo]
 ·simp [Uy h,Hb]
theorem Ax2{l:List Ac}(hl:∀y∈l,B6 y)(L:Nat)(hF:Fu L l):Agt L l=some (Amo l):=by
 have e1:decide ((Nf l:Int) > 200)=decide (200 < Nf l):=decide_eq_decide.2 (by omega)
 have e2:decide ((dSs l:Int) > 12)=decide (12 < dSs l):=decide_eq_decide.2 (by omega)
 simp only [Are,Agt,aN,aB,Bdy hl L hF,Bdz hl L hF,Bhu hl L hF,Option.bind_some,D5,e1,e2,Amo]
 congr 1
 by_cases h1:200 < Nf l<;>by_cases h2:12 < dSs l<;>simp [h1,h2]
end Go.Proofs.YtfencmicmnhglaaGreat.Ev
