/-  Chapter 10, plainly: what Check of statements says. -/
import Derived.Test.YtogleahbpobaiaaGreatQA
import Derived.Test.YtogleahbpobaiaaGreatPI
import Derived.Test.YtogleahbpobaiaaGreatPB
namespace Go.Proofs.YtogleahbpobaiaaGreat.Ev
open Go An
set_option maxRecDepth 100000
set_option linter.unusedVariables false
set_option linter.unusedSimpArgs false
set_option linter.unnecessarySimpa false
theorem ww1:Da 1=1:=by kernel_rfl
theorem ww2:Da 2=2:=by kernel_rfl
def Azv(e:Ab):Bool:=e.Op == 0 && decide (e.Name=⟨#[]⟩) && e.N == 0 && decide (e.Kids.length=0)
theorem Bem(L:Nat)(e:Ab):Ahy L e=some (Azv e):=by
 simp only [As5,Ahy,aN,aB,Em,Bd8,Di,Azv]
theorem Asr(L:Nat)(e:Ab)(hL:1 < L):P8 L e (.mk 0 ⟨#[]⟩ 0 [])=some (Azv e):=by
 obtain ⟨L,rfl⟩:∃k,L=k+1:=⟨L - 1,by omega⟩
 cases e with
 |mk a b c k=>
  simp only [Ay4,Ab2,Wf,Apc,P8,Ab2,Wf,aN,aB,Ab.cp_eq,Ab.Op,Ab.Name,Ab.N,Ab.Kids,Ab.eta,Em,Di,Kq,List.length_nil,Azv]
  by_cases h:k.length=0
  ·have hk:k= []:=List.length_eq_zero_iff.1 h
   subst hk
   rw [A0v _ L (.mk a b c []) _ L (Nat.zero_le _) (by simp only [Ab.cp_eq,Ab.Op,Ab.Name,Ab.N,Ab.Kids,Ab.eta,List.length_nil];omega)]
   simp only [Ab.cp_eq,Ab.Op,Ab.Name,Ab.N,Ab.Kids,Ab.eta,R9,Option.bind_some,S0,List.length_nil]
   by_cases h1:a=0
   ·by_cases h2:b=⟨#[]⟩
    ·by_cases h3:c=0
     ·simp [h1,h2,h3]
     ·simp [h1,h2,h3,Aos h3]
    ·simp [h1,h2]
   ·simp [Aos h1,h1]
  ·have:((k.length:Int) != ((0:Nat):Int))=true:=Aos (by omega)
   simp only [this,Bool.or_true,cond_true,h,decide_false,Bool.and_false]
theorem Arh(op:Int):op=1∨op=2∨op=3∨op=4∨op=5∨op=6∨op=7∨op=8∨op=9∨op=10∨op=11∨op=12∨op=13∨op=14∨op=15∨op=16∨op=17∨op=18∨op < 1∨18 < op:=by omega
def Amk(op:Int):Bn×Bool:=
 if op=1∨op=7∨op=8∨op=12∨op=15∨op=16∨op=17 then (⟨true,false,true,false,false,false,false,false,false⟩,true)
 else if op=2 then (⟨true,true,false,false,false,true,false,false,false⟩,true)
 else if op=3 then (⟨false,false,true,false,false,false,false,true,true⟩,true)
 else if op=4 then (⟨false,false,true,false,false,false,false,true,false⟩,true)
 else if op=5 then (⟨false,false,true,false,false,false,false,false,false⟩,true)
 else if op=6 then (⟨true,false,true,true,false,false,true,false,false⟩,true)
 else if op=9 then (⟨true,true,false,false,false,false,false,false,false⟩,true)
 else if op=10∨op=11 then (⟨true,false,false,false,false,false,false,false,false⟩,true)
 else if op=13 then (⟨true,true,true,false,true,false,false,false,false⟩,true)
 else if op=14 then (⟨true,false,true,false,true,false,false,false,false⟩,true)
 else if op=18 then (⟨false,false,false,false,false,false,false,false,false⟩,true)
 else (⟨false,false,false,false,false,false,false,false,false⟩,false)
def Aqr(u:Bn):B9:=⟨u.u_name,u.u_of,u.u_e,u.u_f,u.u_args,u.u_dist,u.u_flag,u.u_body,u.u_other⟩
theorem Av{op:Int}(h:op < 1∨18 < op)(n:Int)(h1:1≤n)(h2:n≤18):(op == n)=false:=beq_false_of_ne (by omega)
theorem Awk{op:Int}(h:op < 1∨18 < op):Amk op=(⟨false,false,false,false,false,false,false,false,false⟩,false):=by
 unfold Amk
 repeat rw [if_neg (by omega)]
theorem Bbb(L:Nat)(op:Int):Afn L op=some (Amk op):=by
 simp only [Abf,sx_stmt_uses_3,Ai5,sx_stmt_uses_2,Ai4,sx_stmt_uses_0,Ay5,Afn,aN,aB]
 have key:op < 1∨18 < op→_:=fun h=>h
 rcases Arh op with rfl|rfl|rfl|rfl|rfl|rfl|rfl|rfl|rfl|rfl|rfl|rfl|rfl|rfl|rfl|rfl|rfl|rfl|h|h
 case inr.inr.inr.inr.inr.inr.inr.inr.inr.inr.inr.inr.inr.inr.inr.inr.inr.inr.inl=>
  have h':op < 1∨18 < op:= .inl h
  simp only [Awk h',Av h',show (1:Int)≤1 by decide,cond_false,Av h' 1 (by decide) (by decide),Av h' 2 (by decide) (by decide),Av h' 3 (by decide) (by decide),Av h' 4 (by decide) (by decide),Av h' 5 (by decide) (by decide),Av h' 6 (by decide) (by decide),Av h' 7 (by decide) (by decide),Av h' 8 (by decide) (by decide),Av h' 9 (by decide) (by decide),Av h' 10 (by decide) (by decide),Av h' 11 (by decide) (by decide),Av h' 12 (by decide) (by decide),Av h' 13 (by decide) (by decide),Av h' 14 (by decide) (by decide),Av h' 15 (by decide) (by decide),Av h' 16 (by decide) (by decide),Av h' 17 (by decide) (by decide),Av h' 18 (by decide) (by decide)]
 case inr.inr.inr.inr.inr.inr.inr.inr.inr.inr.inr.inr.inr.inr.inr.inr.inr.inr.inr=>
  have h':op < 1∨18 < op:= .inr h
  simp only [Awk h',cond_false,Av h' 1 (by decide) (by decide),Av h' 2 (by decide) (by decide),Av h' 3 (by decide) (by decide),Av h' 4 (by decide) (by decide),Av h' 5 (by decide) (by decide),Av h' 6 (by decide) (by decide),Av h' 7 (by decide) (by decide),Av h' 8 (by decide) (by decide),Av h' 9 (by decide) (by decide),Av h' 10 (by decide) (by decide),Av h' 11 (by decide) (by decide),Av h' 12 (by decide) (by decide),Av h' 13 (by decide) (by decide),Av h' 14 (by decide) (by decide),Av h' 15 (by decide) (by decide),Av h' 16 (by decide) (by decide),Av h' 17 (by decide) (by decide),Av h' 18 (by decide) (by decide)]
 all_goals rfl
theorem A74(L:Nat)(op:Int):Apd L op=some (Aqr (Amk op).1,(Amk op).2):=by
 simp only [Aj7,sx_R10_Of_3,Arm,sx_R10_Of_2,Arl,sx_R10_Of_0,Bca,Apd,aN,aB]
 rcases Arh op with rfl|rfl|rfl|rfl|rfl|rfl|rfl|rfl|rfl|rfl|rfl|rfl|rfl|rfl|rfl|rfl|rfl|rfl|h|h
 case inr.inr.inr.inr.inr.inr.inr.inr.inr.inr.inr.inr.inr.inr.inr.inr.inr.inr.inl=>
  have h':op < 1∨18 < op:= .inl h
  simp only [Awk h',cond_false,Aqr,Av h' 1 (by decide) (by decide),Av h' 2 (by decide) (by decide),Av h' 3 (by decide) (by decide),Av h' 4 (by decide) (by decide),Av h' 5 (by decide) (by decide),Av h' 6 (by decide) (by decide),Av h' 7 (by decide) (by decide),Av h' 8 (by decide) (by decide),Av h' 9 (by decide) (by decide),Av h' 10 (by decide) (by decide),Av h' 11 (by decide) (by decide),Av h' 12 (by decide) (by decide),Av h' 13 (by decide) (by decide),Av h' 14 (by decide) (by decide),Av h' 15 (by decide) (by decide),Av h' 16 (by decide) (by decide),Av h' 17 (by decide) (by decide),Av h' 18 (by decide) (by decide)]
 case inr.inr.inr.inr.inr.inr.inr.inr.inr.inr.inr.inr.inr.inr.inr.inr.inr.inr.inr=>
  have h':op < 1∨18 < op:= .inr h
  simp only [Awk h',cond_false,Aqr,Av h' 1 (by decide) (by decide),Av h' 2 (by decide) (by decide),Av h' 3 (by decide) (by decide),Av h' 4 (by decide) (by decide),Av h' 5 (by decide) (by decide),Av h' 6 (by decide) (by decide),Av h' 7 (by decide) (by decide),Av h' 8 (by decide) (by decide),Av h' 9 (by decide) (by decide),Av h' 10 (by decide) (by decide),Av h' 11 (by decide) (by decide),Av h' 12 (by decide) (by decide),Av h' 13 (by decide) (by decide),Av h' 14 (by decide) (by decide),Av h' 15 (by decide) (by decide),Av h' 16 (by decide) (by decide),Av h' 17 (by decide) (by decide),Av h' 18 (by decide) (by decide)]
 all_goals rfl
def Af4:Bf:=⟨0,0,0,0,[],[]⟩
def Aze(s:Ac)(u:Bn):Bool:=
 (u.u_name || decide (s.Name=⟨#[]⟩)) && (u.u_of || decide (s.Of=⟨#[]⟩)) && (u.u_e || Azv s.E) && (u.u_f || Azv s.F) && (u.u_args || decide (s.Args.length=0)) && (u.u_dist || Ami s.Dist Af4) && (u.u_flag || !s.Flag) && (u.u_body || decide (s.Body.length=0)) && (u.u_other || decide (s.Else.length=0))
structure SB (L:Nat) (s:Ac):Prop where
 fuel:9223372036855824383 < L
 nm:okS s.Name
 of:okS s.Of
 e:Bv s.E
 f:Bv s.F
 args:∀y∈s.Args,Bv y
 bk:C9 s≤1048576
theorem SB.lt{L:Nat}{s:Ac}(h:SB L s):maxLen < L:=by
 have h1:=h.fuel
 have hM:=Bd
 omega
theorem SB.dist{L:Nat}{s:Ac}(h:SB L s):okD s.Dist:=by
 have h1:=h.bk
 rw [←A9h] at h1
 unfold Ik at h1
 have h2:s.Dist.Values.length≤Db (fun z:Int=>1) s.Dist.Values:=Iw fun _=>Nat.le_refl _
 have h3:s.Dist.Weights.length≤Db (fun z:Int=>1) s.Dist.Weights:=Iw fun _=>Nat.le_refl _
 exact ⟨by omega,by omega⟩
theorem SB.de{L:Nat}{s:Ac}(h:SB L s):maxLen+dE s.E < L∧maxLen+dE s.F < L∧(∀y∈s.Args,maxLen+dE y < L)∧s.Args.length≤1048576:=by
 have h1:=h.bk
 rw [←A9h] at h1
 have h2:=h.fuel
 have hM:=Bd
 have h3:=Bil s.E
 have h4:=Bil s.F
 have h5:=Bpr s.Args
 refine ⟨by omega,by omega,fun y hy=> ?_,by omega⟩
 have h6:=Bil y
 have h7:Co y≤Db Co s.Args:=Ai3 hy
 omega
theorem Bba(L:Nat)(s:Ac)(u:Bn)(h:SB L s):Afm L s u=some (Aze s u):=by
 have hL:=h.fuel
 have hM:=Bd
 have e0:=Asr L s.E (by omega)
 have f0:=Asr L s.F (by omega)
 have d0:=Aoa L s.Dist Af4 h.dist h.lt
 unfold Af4 at d0
 simp only [Ap0,Afm,aN,aB,Ab.cp_eq,e0,f0,d0,Em,Bd8,Option.bind_some,Du,Di,Kq,Aze,Af4]
 congr 1
 cases u.u_e<;>cases u.u_f<;>cases u.u_dist<;>cases Azv s.E<;>cases Azv s.F<;>simp only [Bool.true_or,Bool.false_or,Bool.and_true,Bool.and_false,Bool.false_and,Bool.true_and,cond_true,cond_false,Bool.and_assoc]
theorem A52(L:Nat)(s:Ac)(h:SB L s):Ag5 L s=some ((Amk s.Op).2 && Aze s (Amk s.Op).1):=by
 have hL:=h.fuel
 have hM:=Bd
 have d0:=Aqz L s.Dist Af4 h.dist h.lt
 unfold Af4 at d0
 simp only [Am7,Ag5,aN,aB,Ab.cp_eq,Bem,A74,d0,Em,Bd8,Option.bind_some,Du,Di,Kq,Aze,Aqr,Af4]
 congr 1
 generalize (Amk s.Op).2=ok
 generalize (Amk s.Op).1=u
 cases u.u_dist<;>simp only [cond_true,cond_false,Bool.true_or,Bool.false_or,Bool.and_true,Bool.true_and]<;>ac_rfl
def Ajs:List Ab→Int
 | []=>0
 |x::k=>if E6 false x≠0 then E6 false x else Ajs k
def Ax8(s:Ac)(u:Bn):Int:=
 if (u.u_name && Qg s.Name != 0)=true then Qg s.Name
 else if (u.u_of && Qg s.Of != 0)=true then Qg s.Of
 else if (u.u_e && E6 false s.E != 0)=true then E6 false s.E
 else if (u.u_f && E6 false s.F != 0)=true then E6 false s.F
 else if 6 < s.Args.length then 6
 else if Ajs s.Args≠0 then Ajs s.Args
 else if u.u_dist then Asn s.Dist else 0
theorem A4q(L:Nat)(s:Ac)(u:Bn):∀(k:List Ab) (i:Nat) (v:Int),(∀x∈k,P7 L x=some (E6 false x))→∃j,Jw L s u k i v=some (bif Ajs k != 0 then (0,(Ajs k,j)) else (1,(v,j))):=by
 intro k
 induction k with
 |nil=>intro i v _;exact ⟨i,rfl⟩
 |cons x k ih=>
  intro i v h
  obtain ⟨j,hj⟩:=ih (i+1) v fun y hy=>h y (by simp [hy])
  by_cases hx:E6 false x=0
  ·exact ⟨j,by simp [Jw,h x (by simp),hj,Ajs,hx]⟩
  ·exact ⟨i,by simp [Jw,h x (by simp),Ajs,hx,Um hx]⟩
theorem A6d(L:Nat)(s:Ac)(u:Bn)(h:SB L s):s8 L s u=some (Ax8 s u):=by
 have hL:=h.fuel
 have hM:=Bd
 obtain ⟨b1,b2,b3,b4⟩:=h.de
 have n1:s.Name.size≤maxLen:=h.nm
 have n2:s.Of.size≤maxLen:=h.of
 have c1:=Vq L s.Name h.nm (by omega)
 have c2:=Vq L s.Of h.of (by omega)
 have c3:=Ae3 h.e L b1
 have c4:=Ae3 h.f L b2
 have c5:=Akv L s.Dist h.dist h.lt
 obtain ⟨j,hj⟩:=A4q L s u s.Args 0 0 fun x hx=>Ae3 (h.args x hx) L (b3 x hx)
 have p1:∃j,Mg L u s L 0 0=some (bif u.u_name && Qg s.Name != 0 then (0,(Qg s.Name,j)) else bif u.u_of && Qg s.Of != 0 then (0,(Qg s.Of,j)) else (1,(0,j))):=by
  obtain ⟨k,hk⟩:∃k,L=k+3:=⟨L - 3,by omega⟩
  have l1:Mg L u s L 0 0=Mg L u s (k+3) 0 0:=by rw [←hk]
  rw [l1]
  simp only [Mg,Agj,aN,aB,List.length_cons,List.length_nil]
  cases hn:(u.u_name && Qg s.Name != 0) with
  |true=>exact ⟨0,by simp [c1,hn,Di]⟩
  |false=>
   cases ho:(u.u_of && Qg s.Of != 0) with
   |true=>exact ⟨1,by simp [c1,c2,hn,ho,Di,ww1,ww2]⟩
   |false=>exact ⟨2,by simp [c1,c2,hn,ho,Di,ww1,ww2]⟩
 have p2:∃j,Mh L u s L 0 0=some (bif u.u_e && E6 false s.E != 0 then (0,(E6 false s.E,j)) else bif u.u_f && E6 false s.F != 0 then (0,(E6 false s.F,j)) else (1,(0,j))):=by
  obtain ⟨k,hk⟩:∃k,L=k+3:=⟨L - 3,by omega⟩
  have l1:Mh L u s L 0 0=Mh L u s (k+3) 0 0:=by rw [←hk]
  rw [l1]
  simp only [Mh,Agk,aN,aB,List.length_cons,List.length_nil,Ab.cp_eq]
  cases he:u.u_e<;>cases hf:u.u_f<;>by_cases ze:E6 false s.E=0<;>by_cases zf:E6 false s.F=0
  all_goals first
   |(refine ⟨0,?_⟩;simp [c3,c4,he,hf,ze,zf,Um,ww1,ww2];done)
   |(refine ⟨1,?_⟩;simp [c3,c4,he,hf,ze,zf,Um,ww1,ww2];done)
   |(refine ⟨2,?_⟩;simp [c3,c4,he,hf,ze,zf,Um,ww1,ww2];done)
 obtain ⟨j1,p1⟩:=p1
 obtain ⟨j2,p2⟩:=p2
 simp only [Auv,Z2,Zq,Z3,Zr,Z4,Ua,s8,Z2,Zq,Z3,Zr,Z4,Ua,aN,aB,p1,Option.bind_some,Ax8]
 cases hn:(u.u_name && Qg s.Name != 0) with
 |true=>simp [H2]
 |false=>
  cases ho:(u.u_of && Qg s.Of != 0) with
  |true=>simp [H2]
  |false=>
   simp only [cond_false,S0,p2,Option.bind_some,Bool.false_eq_true,if_false]
   cases he:(u.u_e && E6 false s.E != 0) with
   |true=>simp [H2]
   |false=>
    cases hf:(u.u_f && E6 false s.F != 0) with
    |true=>simp [H2]
    |false=>
     simp only [cond_false,S0,Bool.false_eq_true,if_false,Axu L s u L (by omega) (by omega),hj,Option.bind_some,c5]
     by_cases hl:6 < s.Args.length
     ·have:(6:Int) < (s.Args.length:Int):=by omega
      simp [hl,this]
     ·have:¬(6:Int) < (s.Args.length:Int):=by omega
      by_cases ha:Ajs s.Args=0
      ·cases hd:u.u_dist<;>simp [hl,this,ha,hd,S0]
      ·simp [hl,this,ha,Um ha,H2]
end Go.Proofs.YtogleahbpobaiaaGreat.Ev
namespace Go.Proofs.YtogleahbpobaiaaGreat.Ev
open Go An
set_option maxRecDepth 100000
set_option linter.unusedVariables false
set_option linter.unusedSimpArgs false
set_option linter.unnecessarySimpa false
theorem A35(L:Nat)(s:Ac)(f:B9)(hc:∀x∈s.Args,Pz L x=some (E6 false x))(hl:s.Args.length≤1048576):∀(m i n:Nat) (v:Int),i+m=s.Args.length→m < n→
  ∃j,Dk L s f n v (i:Int)=some (0,(if v≠0 then v else Ajs (s.Args.drop i),j)):=by
 intro m
 induction m with
 |zero=>
  intro i n v hi hn
  obtain ⟨n,rfl⟩:∃k,n=k+1:=⟨n - 1,by omega⟩
  refine ⟨i,?_⟩
  simp only [Dk,Vn,aN,aB,Eo (show s.Args.length≤i by omega),Di,Bool.and_false,cond_false]
  rw [List.drop_eq_nil_of_le (by omega),Ajs]
  by_cases hv:v=0<;>simp [hv]
 |succ m ih=>
  intro i n v hi hn
  obtain ⟨n,rfl⟩:∃k,n=k+1:=⟨n - 1,by omega⟩
  have hlt:i < s.Args.length:=by omega
  have hM:=Bd
  by_cases hv:v=0
  ·subst hv
   have hx:s.Args.getD i default∈s.Args:=by rw [Hk s.Args i hlt];exact List.getElem_mem hlt
   obtain ⟨j,hj⟩:=ih (i+1) n (E6 false (s.Args.getD i default)) (by omega) (by omega)
   refine ⟨j,?_⟩
   simp only [Dk,Vn,aN,aB,Ed hlt,nn,Ky hlt,Ix,if_true,Di,beq_self_eq_true,Bool.true_and,cond_true,Ab.cp_eq,hc _ hx,Option.bind_some,Bb hlt (show s.Args.length≤maxLen by omega),hj]
   rw [Y8 s.Args i hlt,Ajs]
   by_cases hz:E6 false (s.Args.getD i default)=0<;>simp [hz]
  ·refine ⟨i,?_⟩
   simp only [Dk,Vn,aN,aB,Di,beq_false_of_ne hv,Bool.false_and,cond_false]
   simp [hv]
def Bgo(s:Ac)(u:Bn):Int:=
 if (u.u_e && E6 false s.E != 0)=true then E6 false s.E
 else if (u.u_f && E6 false s.F != 0)=true then E6 false s.F
 else if 6 < s.Args.length then 6 else Ajs s.Args
theorem Bay(L:Nat)(s:Ac)(u:Bn)(h:SB L s):Ajh L s (Aqr u)=some (Bgo s u):=by
 have hL:=h.fuel
 have hM:=Bd
 obtain ⟨b1,b2,b3,b4⟩:=h.de
 have c3:=Ahm h.e L b1
 have c4:=Ahm h.f L b2
 have lpz:∀v:Int,(Option.bind (Dk L s (Aqr u) L v 0) fun o=>Arf o.1 [some o.2.1])=some (if v≠0 then v else Ajs s.Args):=by
  intro v
  obtain ⟨j,hj⟩:=A35 L s (Aqr u) (fun x hx=>Ahm (h.args x hx) L (b3 x hx)) b4 s.Args.length 0 L v (by omega) (by omega)
  have hj:Dk L s (Aqr u) L v 0=_:=hj
  rw [hj,List.drop_zero]
  simp only [Option.bind_some,H2]
 have fE:(Aqr u).E=u.u_e:=rfl
 have fF:(Aqr u).F=u.u_f:=rfl
 simp only [Ayv,Abm,Vx,Vy,Vz,V0,V1,V2,V3,V4,Ajh,Abm,Vx,Vy,Vz,V0,V1,V2,V3,V4,aN,aB,Ab.cp_eq,c3,c4,lpz,Option.bind_some,fE,fF,Bgo,Di]
 have hd:decide ((s.Args.length:Int) > 6)=decide (6 < s.Args.length):=decide_eq_decide.2 (by omega)
 simp only [hd]
 cases u.u_e<;>cases u.u_f<;>by_cases h1:E6 false s.E=0<;>by_cases h2:E6 false s.F=0<;>by_cases h3:6 < s.Args.length<;>simp [h1,h2,h3,Um,beq_false_of_ne]
def A4f(s:Ac):Int:=bif !(Amk s.Op).2 || !Aze s (Amk s.Op).1 then 1 else Ax8 s (Amk s.Op).1
theorem Azk(s:ByteArray):Qg s=0∨Qg s=3:=by
 unfold Qg
 cases Aks s
 ·exact .inr rfl
 ·exact .inl rfl
theorem Bg2(L:Nat)(s:Ac)(h:SB L s):Ald L s=some (A4f s):=by
 have hL:=h.fuel
 have hM:=Bd
 have n1:s.Name.size≤maxLen:=h.nm
 have n2:s.Of.size≤maxLen:=h.of
 have c1:=Aas L s.Name h.nm (by omega) (by omega)
 have c2:=Aas L s.Of h.of (by omega) (by omega)
 have c5:=An6 L s.Dist h.dist h.lt
 simp only [Awq,Ald,aN,aB,Ac.cp_eq,A74,A52 L s h,c1,c2,c5,Bay L s _ h,Option.bind_some,Du,Di,Kq]
 congr 1
 unfold A4f Ax8 Bgo
 generalize (Amk s.Op).2=ok
 generalize (Amk s.Op).1=u
 simp only [Aqr]
 cases ok with
 |false=>simp
 |true=>
  cases Aze s u with
  |false=>simp
  |true=>
   simp only [Bool.and_self,Bool.not_true,cond_false,Bool.or_self,Bool.false_eq_true,if_false]
   cases u.u_name<;>cases u.u_of<;>rcases Azk s.Name with e1|e1<;>rcases Azk s.Of with e2|e2<;>simp only [e1,e2]<;>first|(simp;done)|skip
   all_goals (cases u.u_e<;>cases u.u_f<;>cases u.u_dist<;>by_cases h1:E6 false s.E=0<;>by_cases h2:E6 false s.F=0<;>by_cases h3:6 < s.Args.length<;>by_cases h4:Ajs s.Args=0<;>simp [h1,h2,h3,h4,Um,beq_false_of_ne])
mutual
def Bv5:Ac→Int
 | .mk a b c d e f g h i j=>if A4f (.mk a b c d e f g h i j)≠0 then A4f (.mk a b c d e f g h i j) else if Rp i≠0 then Rp i else Rp j
def Rp:List Ac→Int
 | []=>0
 |x::k=>if Bv5 x≠0 then Bv5 x else Rp k
end
theorem Bik(s:Ac):Bv5 s=if A4f s≠0 then A4f s else if Rp s.Body≠0 then Rp s.Body else Rp s.Else:=by cases s;rw [Bv5];rfl
def Ak1(l:List Ac):Int:=if 200 < Mt l then 6 else if 12 < dSs l then 11 else Rp l
theorem Fu.sb{L:Nat}{l:List Ac}(h:Fu (L+1) l){x:Ac}(hx:x∈l)(ho:B4 x):SB L x:=by
 obtain ⟨h1,h2⟩:=h
 have hM:=Bd
 have h3:=Bim hx
 have h4:=Bcg hx
 obtain ⟨o1,o2,o3,o4,o5,o6,_,_⟩:=Ckx ho
 exact ⟨by omega,o1,o2,o3,o4,o5,by omega⟩
theorem Cab{β :Type}(x:Ac)(rest:Option β)(g:Int→β):(Option.bind (bif !(Amk x.Op).2 then some true else some (!Aze x (Amk x.Op).1)) fun b2=>bif b2 then some (g 1) else bif Ax8 x (Amk x.Op).1 != 0 then some (g (Ax8 x (Amk x.Op).1)) else rest)=bif A4f x != 0 then some (g (A4f x)) else rest:=by
 unfold A4f
 cases (Amk x.Op).2 with
 |false=>rfl
 |true=>cases Aze x (Amk x.Op).1<;>rfl
theorem A4p(rec:List Ac→Option Int)(L:Nat)(a0:List Ac):∀(k:List Ac) (i:Nat) (v:Int),(∀x∈k,SB L x∧rec x.Body=some (Rp x.Body)∧rec x.Else=some (Rp x.Else))→∃j,Mp rec L a0 k i v=some (bif Rp k != 0 then (0,(Rp k,j)) else (1,(v,j))):=by
 intro k
 induction k with
 |nil=>intro i v _;exact ⟨i,rfl⟩
 |cons x k ih=>
  intro i v h
  obtain ⟨h0,h1,h2⟩:=h x (by simp)
  obtain ⟨j,hj⟩:=ih (i+1) v fun y hy=>h y (by simp [hy])
  rw [Mp]
  simp only [Bbb,Bba L x _ h0,A6d L x _ h0,h1,h2,hj,Option.bind_some,Rp,Bik]
  rw [Cab x _ fun e=>(0,(e,(i:Int)))]
  by_cases e1:A4f x=0
  ·by_cases e2:Rp x.Body=0
   ·by_cases e3:Rp x.Else=0
    ·exact ⟨j,by simp [e1,e2,e3]⟩
    ·exact ⟨i,by simp [e1,e2,e3,Um e3]⟩
   ·exact ⟨i,by simp [e1,e2,Um e2]⟩
  ·exact ⟨i,by simp [e1,Um e1]⟩
theorem A6c{l:List Ac}(hl:∀y∈l,B4 y):∀L,Fu L l→Nc L l=some (Rp l):=by
 refine Af2 (M:=fun l=>∀L,Fu L l→Nc L l=some (Rp l)) ?_ hl
 intro l ih L hF
 obtain ⟨L,rfl⟩:=hF.pos
 obtain ⟨n1,n2,n3⟩:=hF.len
 obtain ⟨j,hj⟩:=A4p (Nc L) L l l 0 0 fun x hx=>⟨hF.sb hx (ih x hx).1,(ih x hx).2.1 L (hF.kid hx).1,(ih x hx).2.2 L (hF.kid hx).2⟩
 simp only [Auu,Z1,T9,Amy,Nc,Z1,T9,aN,aB,Axt _ L l L n1 n2,hj,Option.bind_some]
 by_cases h:Rp l=0
 ·simp [h,S0]
 ·simp [Um h,H2]
theorem Asu{l:List Ac}(hl:∀y∈l,B4 y)(L:Nat)(hF:Fu L l):s7 L l=some (Ak1 l):=by
 have e1:decide ((Mt l:Int) > 200)=decide (200 < Mt l):=decide_eq_decide.2 (by omega)
 have e2:decide ((dSs l:Int) > 12)=decide (12 < dSs l):=decide_eq_decide.2 (by omega)
 simp only [Ang,s7,aN,aB,A6a hl L hF,A6b hl L hF,A6c hl L hF,Option.bind_some,Du,e1,e2,Ak1]
 congr 1
 by_cases h1:200 < Mt l<;>by_cases h2:12 < dSs l<;>simp [h1,h2]
theorem Bbf(rec:List Ac→Option Int)(L:Nat)(a0:List Ac):∀(k:List Ac) (i:Nat) (v:Int),(∀x∈k,SB L x∧rec x.Body=some (Rp x.Body)∧rec x.Else=some (Rp x.Else))→∃j,I1 rec L a0 k i v=some (bif Rp k != 0 then (0,(Rp k,j)) else (1,(v,j))):=by
 intro k
 induction k with
 |nil=>intro i v _;exact ⟨i,rfl⟩
 |cons x k ih=>
  intro i v h
  obtain ⟨h0,h1,h2⟩:=h x (by simp)
  obtain ⟨j,hj⟩:=ih (i+1) v fun y hy=>h y (by simp [hy])
  rw [I1]
  simp only [Bg2 L x h0,h1,h2,hj,Option.bind_some,Rp,Bik]
  by_cases e1:A4f x=0
  ·by_cases e2:Rp x.Body=0
   ·by_cases e3:Rp x.Else=0
    ·exact ⟨j,by simp [e1,e2,e3]⟩
    ·exact ⟨i,by simp [e1,e2,e3,Um e3]⟩
   ·exact ⟨i,by simp [e1,e2,Um e2,beq_false_of_ne e2]⟩
  ·exact ⟨i,by simp [e1,Um e1,beq_false_of_ne e1]⟩
theorem Bel{l:List Ac}(hl:∀y∈l,B4 y):∀L,Fu L l→S6 L l=some (Rp l):=by
 refine Af2 (M:=fun l=>∀L,Fu L l→S6 L l=some (Rp l)) ?_ hl
 intro l ih L hF
 obtain ⟨L,rfl⟩:=hF.pos
 obtain ⟨n1,n2,n3⟩:=hF.len
 obtain ⟨j,hj⟩:=Bbf (S6 L) L l l 0 0 fun x hx=>⟨hF.sb hx (ih x hx).1,(ih x hx).2.1 L (hF.kid hx).1,(ih x hx).2.2 L (hF.kid hx).2⟩
 simp only [A2i,Ae9,Yw,As0,S6,Ae9,Yw,aN,aB,A3r _ L l L n1 n2,hj,Option.bind_some]
 by_cases h:Rp l=0
 ·simp [h,S0]
 ·simp [Um h,H2]
theorem Av2{l:List Ac}(hl:∀y∈l,B4 y)(L:Nat)(hF:Fu L l):Afj L l=some (Ak1 l):=by
 have e1:decide ((Mt l:Int) > 200)=decide (200 < Mt l):=decide_eq_decide.2 (by omega)
 have e2:decide ((dSs l:Int) > 12)=decide (12 < dSs l):=decide_eq_decide.2 (by omega)
 simp only [Apn,Afj,aN,aB,Av3 hl L hF,Bax hl L hF,Bel hl L hF,Option.bind_some,Du,e1,e2,Ak1]
 congr 1
 by_cases h1:200 < Mt l<;>by_cases h2:12 < dSs l<;>simp [h1,h2]
end Go.Proofs.YtogleahbpobaiaaGreat.Ev
