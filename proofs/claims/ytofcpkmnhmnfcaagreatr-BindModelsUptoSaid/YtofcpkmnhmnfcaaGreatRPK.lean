/-  Chapter 10, plainly: what Check of statements says. -/
import Derived.Test.YtofcpkmnhmnfcaaGreatRQA
import Derived.Test.YtofcpkmnhmnfcaaGreatRPI
import Derived.Test.YtofcpkmnhmnfcaaGreatRPB
namespace Go.Proofs.YtofcpkmnhmnfcaaGreatR.Ev
open Go An
set_option maxRecDepth 100000
set_option linter.unusedVariables false
set_option linter.unusedSimpArgs false
set_option linter.unnecessarySimpa false
theorem ww1:B7 1=1:=by kernel_rfl
theorem ww2:B7 2=2:=by kernel_rfl
def A3q(e:Ab):Bool:=e.Op == 0 && decide (e.Name=⟨#[]⟩) && e.N == 0 && decide (e.Kids.length=0)
theorem Bhr(L:Nat)(e:Ab):Alu L e=some (A3q e):=by
 simp only [Awx,Alu,aN,aB,D0,Bg8,Dq,A3q]
theorem Awc(L:Nat)(e:Ab)(hL:1 < L):Sn L e (.mk 0 ⟨#[]⟩ 0 [])=some (A3q e):=by
 obtain ⟨L,rfl⟩:∃k,L=k+1:=⟨L - 1,by omega⟩
 cases e with
 |mk a b c k=>
  simp only [A22,Afn,Z6,As8,Sn,Afn,Z6,aN,aB,Ab.cp_eq,Ab.Op,Ab.Name,Ab.N,Ab.Kids,Ab.eta,D0,Dq,Ly,List.length_nil,A3q]
  by_cases h:k.length=0
  ·have hk:k= []:=List.length_eq_zero_iff.1 h
   subst hk
   rw [A4n _ L (.mk a b c []) _ L (Nat.zero_le _) (by simp only [Ab.cp_eq,Ab.Op,Ab.Name,Ab.N,Ab.Kids,Ab.eta,List.length_nil];omega)]
   simp only [Ab.cp_eq,Ab.Op,Ab.Name,Ab.N,Ab.Kids,Ab.eta,Uy,Option.bind_some,Kx,List.length_nil]
   by_cases h1:a=0
   ·by_cases h2:b=⟨#[]⟩
    ·by_cases h3:c=0
     ·simp [h1,h2,h3]
     ·simp [h1,h2,h3,Asp h3]
    ·simp [h1,h2]
   ·simp [Asp h1,h1]
  ·have:((k.length:Int) != ((0:Nat):Int))=true:=Asp (by omega)
   simp only [this,Bool.or_true,cond_true,h,decide_false,Bool.and_false]
theorem Auw(op:Int):op=1∨op=2∨op=3∨op=4∨op=5∨op=6∨op=7∨op=8∨op=9∨op=10∨op=11∨op=12∨op=13∨op=14∨op=15∨op=16∨op=17∨op=18∨op < 1∨18 < op:=by omega
def Aqg(op:Int):Bp×Bool:=
 if op=1∨op=7∨op=8∨op=12∨op=15∨op=16∨op=17 then (⟨true,false,true,false,false,false,false,false,false⟩,true)
 else if op=2 then (⟨true,true,false,false,false,true,false,false,false⟩,true)
 else if op=3 then (⟨false,false,true,false,false,false,false,true,true⟩,true)
 else if op=4 then (⟨false,false,true,false,false,false,false,true,false⟩,true)
 else if op=5 then (⟨false,false,true,false,false,false,false,false,false⟩,true)
 else if op=6 then (⟨true,false,true,true,false,false,true,false,false⟩,true)
 else if op=9 then (⟨true,true,false,false,false,false,false,false,false⟩,true)
 else if op=10∨op=11 then (⟨true,false,false,false,false,false,false,false,false⟩,true)
 else if op=13 then (⟨true,true,true,false,true,false,false,false,false⟩,true)
 else if op=14 then (⟨true,false,true,false,true,false,false,false,false⟩,true)
 else if op=18 then (⟨false,false,false,false,false,false,false,false,false⟩,true)
 else (⟨false,false,false,false,false,false,false,false,false⟩,false)
def Auf(u:Bp):Cr:=⟨u.u_name,u.u_of,u.u_e,u.u_f,u.u_args,u.u_dist,u.u_flag,u.u_body,u.u_other⟩
theorem Az{op:Int}(h:op < 1∨18 < op)(n:Int)(h1:1≤n)(h2:n≤18):(op == n)=false:=beq_false_of_ne (by omega)
theorem A0d{op:Int}(h:op < 1∨18 < op):Aqg op=(⟨false,false,false,false,false,false,false,false,false⟩,false):=by
 unfold Aqg
 repeat rw [if_neg (by omega)]
theorem Bem(L:Nat)(op:Int):Ai6 L op=some (Aqg op):=by
 simp only [Ae6,sx_stmt_uses_3,Am0,sx_stmt_uses_2,Amz,sx_stmt_uses_0,A23,Ai6,aN,aB]
 have key:op < 1∨18 < op→_:=fun h=>h
 rcases Auw op with rfl|rfl|rfl|rfl|rfl|rfl|rfl|rfl|rfl|rfl|rfl|rfl|rfl|rfl|rfl|rfl|rfl|rfl|h|h
 case inr.inr.inr.inr.inr.inr.inr.inr.inr.inr.inr.inr.inr.inr.inr.inr.inr.inr.inl=>
  have h':op < 1∨18 < op:= .inl h
  simp only [A0d h',Az h',show (1:Int)≤1 by decide,cond_false,Az h' 1 (by decide) (by decide),Az h' 2 (by decide) (by decide),Az h' 3 (by decide) (by decide),Az h' 4 (by decide) (by decide),Az h' 5 (by decide) (by decide),Az h' 6 (by decide) (by decide),Az h' 7 (by decide) (by decide),Az h' 8 (by decide) (by decide),Az h' 9 (by decide) (by decide),Az h' 10 (by decide) (by decide),Az h' 11 (by decide) (by decide),Az h' 12 (by decide) (by decide),Az h' 13 (by decide) (by decide),Az h' 14 (by decide) (by decide),Az h' 15 (by decide) (by decide),Az h' 16 (by decide) (by decide),Az h' 17 (by decide) (by decide),Az h' 18 (by decide) (by decide)]
 case inr.inr.inr.inr.inr.inr.inr.inr.inr.inr.inr.inr.inr.inr.inr.inr.inr.inr.inr=>
  have h':op < 1∨18 < op:= .inr h
  simp only [A0d h',cond_false,Az h' 1 (by decide) (by decide),Az h' 2 (by decide) (by decide),Az h' 3 (by decide) (by decide),Az h' 4 (by decide) (by decide),Az h' 5 (by decide) (by decide),Az h' 6 (by decide) (by decide),Az h' 7 (by decide) (by decide),Az h' 8 (by decide) (by decide),Az h' 9 (by decide) (by decide),Az h' 10 (by decide) (by decide),Az h' 11 (by decide) (by decide),Az h' 12 (by decide) (by decide),Az h' 13 (by decide) (by decide),Az h' 14 (by decide) (by decide),Az h' 15 (by decide) (by decide),Az h' 16 (by decide) (by decide),Az h' 17 (by decide) (by decide),Az h' 18 (by decide) (by decide)]
 all_goals rfl
theorem Bb3(L:Nat)(op:Int):As9 L op=some (Auf (Aqg op).1,(Aqg op).2):=by
 simp only [An0,sx_R10_Of_3,Au1,sx_R10_Of_2,Au0,sx_R10_Of_0,Bfn,As9,aN,aB]
 rcases Auw op with rfl|rfl|rfl|rfl|rfl|rfl|rfl|rfl|rfl|rfl|rfl|rfl|rfl|rfl|rfl|rfl|rfl|rfl|h|h
 case inr.inr.inr.inr.inr.inr.inr.inr.inr.inr.inr.inr.inr.inr.inr.inr.inr.inr.inl=>
  have h':op < 1∨18 < op:= .inl h
  simp only [A0d h',cond_false,Auf,Az h' 1 (by decide) (by decide),Az h' 2 (by decide) (by decide),Az h' 3 (by decide) (by decide),Az h' 4 (by decide) (by decide),Az h' 5 (by decide) (by decide),Az h' 6 (by decide) (by decide),Az h' 7 (by decide) (by decide),Az h' 8 (by decide) (by decide),Az h' 9 (by decide) (by decide),Az h' 10 (by decide) (by decide),Az h' 11 (by decide) (by decide),Az h' 12 (by decide) (by decide),Az h' 13 (by decide) (by decide),Az h' 14 (by decide) (by decide),Az h' 15 (by decide) (by decide),Az h' 16 (by decide) (by decide),Az h' 17 (by decide) (by decide),Az h' 18 (by decide) (by decide)]
 case inr.inr.inr.inr.inr.inr.inr.inr.inr.inr.inr.inr.inr.inr.inr.inr.inr.inr.inr=>
  have h':op < 1∨18 < op:= .inr h
  simp only [A0d h',cond_false,Auf,Az h' 1 (by decide) (by decide),Az h' 2 (by decide) (by decide),Az h' 3 (by decide) (by decide),Az h' 4 (by decide) (by decide),Az h' 5 (by decide) (by decide),Az h' 6 (by decide) (by decide),Az h' 7 (by decide) (by decide),Az h' 8 (by decide) (by decide),Az h' 9 (by decide) (by decide),Az h' 10 (by decide) (by decide),Az h' 11 (by decide) (by decide),Az h' 12 (by decide) (by decide),Az h' 13 (by decide) (by decide),Az h' 14 (by decide) (by decide),Az h' 15 (by decide) (by decide),Az h' 16 (by decide) (by decide),Az h' 17 (by decide) (by decide),Az h' 18 (by decide) (by decide)]
 all_goals rfl
def Ajt:Bn:=⟨0,0,0,0,[],[]⟩
def A3e(s:Ad)(u:Bp):Bool:=
 (u.u_name || decide (s.Name=⟨#[]⟩)) && (u.u_of || decide (s.Of=⟨#[]⟩)) && (u.u_e || A3q s.E) && (u.u_f || A3q s.F) && (u.u_args || decide (s.Args.length=0)) && (u.u_dist || Amw s.Dist Ajt) && (u.u_flag || !s.Flag) && (u.u_body || decide (s.Body.length=0)) && (u.u_other || decide (s.Else.length=0))
structure SB (L:Nat) (s:Ad):Prop where
 fuel:9223372036855824383 < L
 nm:okS s.Name
 of:okS s.Of
 e:Bv s.E
 f:Bv s.F
 args:∀y∈s.Args,Bv y
 bk:Ge s≤1048576
theorem SB.lt{L:Nat}{s:Ad}(h:SB L s):maxLen < L:=by
 have h1:=h.fuel
 have hM:=Bb
 omega
theorem SB.dist{L:Nat}{s:Ad}(h:SB L s):okD s.Dist:=by
 have h1:=h.bk
 rw [←A67] at h1
 unfold Sp at h1
 have h2:s.Dist.Values.length≤Hd (fun z:Int=>1) s.Dist.Values:=Io fun _=>Nat.le_refl _
 have h3:s.Dist.Weights.length≤Hd (fun z:Int=>1) s.Dist.Weights:=Io fun _=>Nat.le_refl _
 exact ⟨by omega,by omega⟩
theorem SB.de{L:Nat}{s:Ad}(h:SB L s):maxLen+dE s.E < L∧maxLen+dE s.F < L∧(∀y∈s.Args,maxLen+dE y < L)∧s.Args.length≤1048576:=by
 have h1:=h.bk
 rw [←A67] at h1
 have h2:=h.fuel
 have hM:=Bb
 have h3:=A7f s.E
 have h4:=A7f s.F
 have h5:=Bus s.Args
 refine ⟨by omega,by omega,fun y hy=> ?_,by omega⟩
 have h6:=A7f y
 have h7:C0 y≤Hd C0 s.Args:=Amy hy
 omega
theorem Bel(L:Nat)(s:Ad)(u:Bp)(h:SB L s):Ai5 L s u=some (A3e s u):=by
 have hL:=h.fuel
 have hM:=Bb
 have e0:=Awc L s.E (by omega)
 have f0:=Awc L s.F (by omega)
 have d0:=Arz L s.Dist Ajt h.dist h.lt
 unfold Ajt at d0
 simp only [At0,Ai5,aN,aB,Ab.cp_eq,e0,f0,d0,D0,Bg8,Option.bind_some,Dt,Dq,Ly,A3e,Ajt]
 congr 1
 cases u.u_e<;>cases u.u_f<;>cases u.u_dist<;>cases A3q s.E<;>cases A3q s.F<;>simp only [Bool.true_or,Bool.false_or,Bool.and_true,Bool.and_false,Bool.false_and,Bool.true_and,cond_true,cond_false,Bool.and_assoc]
theorem A98(L:Nat)(s:Ad)(h:SB L s):Akw L s=some ((Aqg s.Op).2 && A3e s (Aqg s.Op).1):=by
 have hL:=h.fuel
 have hM:=Bb
 have d0:=Acw L s.Dist Ajt h.dist h.lt
 unfold Ajt at d0
 simp only [Aq5,Akw,aN,aB,Ab.cp_eq,Bhr,Bb3,d0,D0,Bg8,Option.bind_some,Dt,Dq,Ly,A3e,Auf,Ajt]
 congr 1
 generalize (Aqg s.Op).2=ok
 generalize (Aqg s.Op).1=u
 cases u.u_dist<;>simp only [cond_true,cond_false,Bool.true_or,Bool.false_or,Bool.and_true,Bool.true_and]<;>ac_rfl
def Anl:List Ab→Int
 | []=>0
 |x::k=>if F8 false x≠0 then F8 false x else Anl k
def A13(s:Ad)(u:Bp):Int:=
 if (u.u_name && Sy s.Name != 0)=true then Sy s.Name
 else if (u.u_of && Sy s.Of != 0)=true then Sy s.Of
 else if (u.u_e && F8 false s.E != 0)=true then F8 false s.E
 else if (u.u_f && F8 false s.F != 0)=true then F8 false s.F
 else if 6 < s.Args.length then 6
 else if Anl s.Args≠0 then Anl s.Args
 else if u.u_dist then Av8 s.Dist else 0
theorem A89(L:Nat)(s:Ad)(u:Bp):∀(k:List Ab) (i:Nat) (v:Int),(∀x∈k,Sm L x=some (F8 false x))→∃j,Kv L s u k i v=some (bif Anl k != 0 then (0,(Anl k,j)) else (1,(v,j))):=by
 intro k
 induction k with
 |nil=>intro i v _;exact ⟨i,rfl⟩
 |cons x k ih=>
  intro i v h
  obtain ⟨j,hj⟩:=ih (i+1) v fun y hy=>h y (by simp [hy])
  by_cases hx:F8 false x=0
  ·exact ⟨j,by simp [Kv,h x (by simp),hj,Anl,hx]⟩
  ·exact ⟨i,by simp [Kv,h x (by simp),Anl,hx,Wl hx]⟩
theorem Bak(L:Nat)(s:Ad)(u:Bp)(h:SB L s):Ada L s u=some (A13 s u):=by
 have hL:=h.fuel
 have hM:=Bb
 obtain ⟨b1,b2,b3,b4⟩:=h.de
 have n1:s.Name.size≤maxLen:=h.nm
 have n2:s.Of.size≤maxLen:=h.of
 have c1:=Zd L s.Name h.nm (by omega)
 have c2:=Zd L s.Of h.of (by omega)
 have c3:=Aih h.e L b1
 have c4:=Aih h.f L b2
 have c5:=Aos L s.Dist h.dist h.lt
 obtain ⟨j,hj⟩:=A89 L s u s.Args 0 0 fun x hx=>Aih (h.args x hx) L (b3 x hx)
 have p1:∃j,Ns L u s L 0 0=some (bif u.u_name && Sy s.Name != 0 then (0,(Sy s.Name,j)) else bif u.u_of && Sy s.Of != 0 then (0,(Sy s.Of,j)) else (1,(0,j))):=by
  obtain ⟨k,hk⟩:∃k,L=k+3:=⟨L - 3,by omega⟩
  have l1:Ns L u s L 0 0=Ns L u s (k+3) 0 0:=by rw [←hk]
  rw [l1]
  simp only [Ns,Akc,aN,aB,List.length_cons,List.length_nil]
  cases hn:(u.u_name && Sy s.Name != 0) with
  |true=>exact ⟨0,by simp [c1,hn,Dq]⟩
  |false=>
   cases ho:(u.u_of && Sy s.Of != 0) with
   |true=>exact ⟨1,by simp [c1,c2,hn,ho,Dq,ww1,ww2]⟩
   |false=>exact ⟨2,by simp [c1,c2,hn,ho,Dq,ww1,ww2]⟩
 have p2:∃j,Nt L u s L 0 0=some (bif u.u_e && F8 false s.E != 0 then (0,(F8 false s.E,j)) else bif u.u_f && F8 false s.F != 0 then (0,(F8 false s.F,j)) else (1,(0,j))):=by
  obtain ⟨k,hk⟩:∃k,L=k+3:=⟨L - 3,by omega⟩
  have l1:Nt L u s L 0 0=Nt L u s (k+3) 0 0:=by rw [←hk]
  rw [l1]
  simp only [Nt,Akd,aN,aB,List.length_cons,List.length_nil,Ab.cp_eq]
  cases he:u.u_e<;>cases hf:u.u_f<;>by_cases ze:F8 false s.E=0<;>by_cases zf:F8 false s.F=0
  all_goals first
   |(refine ⟨0,?_⟩;simp [c3,c4,he,hf,ze,zf,Wl,ww1,ww2];done)
   |(refine ⟨1,?_⟩;simp [c3,c4,he,hf,ze,zf,Wl,ww1,ww2];done)
   |(refine ⟨2,?_⟩;simp [c3,c4,he,hf,ze,zf,Wl,ww1,ww2];done)
 obtain ⟨j1,p1⟩:=p1
 obtain ⟨j2,p2⟩:=p2
 simp only [Ayr,Ab1,Ab7,Ab2,Ab8,W3,Ada,Ab1,Ab7,Ab2,Ab8,W3,aN,aB,p1,Option.bind_some,A13]
 cases hn:(u.u_name && Sy s.Name != 0) with
 |true=>simp [Gm]
 |false=>
  cases ho:(u.u_of && Sy s.Of != 0) with
  |true=>simp [Gm]
  |false=>
   simp only [cond_false,Kx,p2,Option.bind_some,Bool.false_eq_true,if_false]
   cases he:(u.u_e && F8 false s.E != 0) with
   |true=>simp [Gm]
   |false=>
    cases hf:(u.u_f && F8 false s.F != 0) with
    |true=>simp [Gm]
    |false=>
     simp only [cond_false,Kx,Bool.false_eq_true,if_false,A1n L s u L (by omega) (by omega),hj,Option.bind_some,c5]
     by_cases hl:6 < s.Args.length
     ·have:(6:Int) < (s.Args.length:Int):=by omega
      simp [hl,this]
     ·have:¬(6:Int) < (s.Args.length:Int):=by omega
      by_cases ha:Anl s.Args=0
      ·cases hd:u.u_dist<;>simp [hl,this,ha,hd,Kx]
      ·simp [hl,this,ha,Wl ha,Gm]
theorem A8l(L:Nat)(s:Ad)(f:Cr)(hc:∀x∈s.Args,R9 L x=some (F8 false x))(hl:s.Args.length≤1048576):∀(m i n:Nat) (v:Int),i+m=s.Args.length→m < n→
  ∃j,Dj L s f n v (i:Int)=some (0,(if v≠0 then v else Anl (s.Args.drop i),j)):=by
 intro m
 induction m with
 |zero=>
  intro i n v hi hn
  obtain ⟨n,rfl⟩:∃k,n=k+1:=⟨n - 1,by omega⟩
  refine ⟨i,?_⟩
  simp only [Dj,Za,aN,aB,C4 (show s.Args.length≤i by omega),Dq,Bool.and_false,cond_false]
  rw [List.drop_eq_nil_of_le (by omega),Anl]
  by_cases hv:v=0<;>simp [hv]
 |succ m ih=>
  intro i n v hi hn
  obtain ⟨n,rfl⟩:∃k,n=k+1:=⟨n - 1,by omega⟩
  have hlt:i < s.Args.length:=by omega
  have hM:=Bb
  by_cases hv:v=0
  ·subst hv
   have hx:s.Args.getD i default∈s.Args:=by rw [Hb s.Args i hlt];exact List.getElem_mem hlt
   obtain ⟨j,hj⟩:=ih (i+1) n (F8 false (s.Args.getD i default)) (by omega) (by omega)
   refine ⟨j,?_⟩
   simp only [Dj,Za,aN,aB,C5 hlt,nn,Hp hlt,Z8,if_true,Dq,beq_self_eq_true,Bool.true_and,cond_true,Ab.cp_eq,hc _ hx,Option.bind_some,Aw hlt (show s.Args.length≤maxLen by omega),hj]
   rw [Abd s.Args i hlt,Anl]
   by_cases hz:F8 false (s.Args.getD i default)=0<;>simp [hz]
  ·refine ⟨i,?_⟩
   simp only [Dj,Za,aN,aB,Dq,beq_false_of_ne hv,Bool.false_and,cond_false]
   simp [hv]
def Bj0(s:Ad)(u:Bp):Int:=
 if (u.u_e && F8 false s.E != 0)=true then F8 false s.E
 else if (u.u_f && F8 false s.F != 0)=true then F8 false s.F
 else if 6 < s.Args.length then 6 else Anl s.Args
theorem Bd7(L:Nat)(s:Ad)(u:Bp)(h:SB L s):Ana L s (Auf u)=some (Bj0 s u):=by
 have hL:=h.fuel
 have hM:=Bb
 obtain ⟨b1,b2,b3,b4⟩:=h.de
 have c3:=Alh h.e L b1
 have c4:=Alh h.f L b2
 have lpz:∀v:Int,(Option.bind (Dj L s (Auf u) L v 0) fun o=>As0 o.1 [some o.2.1])=some (if v≠0 then v else Anl s.Args):=by
  intro v
  obtain ⟨j,hj⟩:=A8l L s (Auf u) (fun x hx=>Alh (h.args x hx) L (b3 x hx)) b4 s.Args.length 0 L v (by omega) (by omega)
  have hj:Dj L s (Auf u) L v 0=_:=hj
  rw [hj,List.drop_zero]
  simp only [Option.bind_some,Gm]
 have fE:(Auf u).E=u.u_e:=rfl
 have fF:(Auf u).F=u.u_f:=rfl
 simp only [A2s,Ae9,Zl,Zm,Zn,Zo,Zp,Zq,Zr,Zs,Ana,Ae9,Zl,Zm,Zn,Zo,Zp,Zq,Zr,Zs,aN,aB,Ab.cp_eq,c3,c4,lpz,Option.bind_some,fE,fF,Bj0,Dq]
 have hd:decide ((s.Args.length:Int) > 6)=decide (6 < s.Args.length):=decide_eq_decide.2 (by omega)
 simp only [hd]
 cases u.u_e<;>cases u.u_f<;>by_cases h1:F8 false s.E=0<;>by_cases h2:F8 false s.F=0<;>by_cases h3:6 < s.Args.length<;>simp [h1,h2,h3,Wl,beq_false_of_ne]
def A8v(s:Ad):Int:=bif !(Aqg s.Op).2 || !A3e s (Aqg s.Op).1 then 1 else A13 s (Aqg s.Op).1
theorem A3i(s:ByteArray):Sy s=0∨Sy s=3:=by
 unfold Sy
 cases Aop s
 ·exact .inr rfl
 ·exact .inl rfl
theorem Bkg(L:Nat)(s:Ad)(h:SB L s):Ao9 L s=some (A8v s):=by
 have hL:=h.fuel
 have hM:=Bb
 have n1:s.Name.size≤maxLen:=h.nm
 have n2:s.Of.size≤maxLen:=h.of
 have c1:=Aei L s.Name h.nm (by omega) (by omega)
 have c2:=Aei L s.Of h.of (by omega) (by omega)
 have c5:=Arv L s.Dist h.dist h.lt
 simp only [A0j,Ao9,aN,aB,Ad.cp_eq,Bb3,A98 L s h,c1,c2,c5,Bd7 L s _ h,Option.bind_some,Dt,Dq,Ly]
 congr 1
 unfold A8v A13 Bj0
 generalize (Aqg s.Op).2=ok
 generalize (Aqg s.Op).1=u
 simp only [Auf]
 cases ok with
 |false=>simp
 |true=>
  cases A3e s u with
  |false=>simp
  |true=>
   simp only [Bool.and_self,Bool.not_true,cond_false,Bool.or_self,Bool.false_eq_true,if_false]
   cases u.u_name<;>cases u.u_of<;>rcases A3i s.Name with e1|e1<;>rcases A3i s.Of with e2|e2<;>simp only [e1,e2]<;>first|(simp;done)|skip
   all_goals (cases u.u_e<;>cases u.u_f<;>cases u.u_dist<;>by_cases h1:F8 false s.E=0<;>by_cases h2:F8 false s.F=0<;>by_cases h3:6 < s.Args.length<;>by_cases h4:Anl s.Args=0<;>simp [h1,h2,h3,h4,Wl,beq_false_of_ne])
mutual
def B1a:Ad→Int
 | .mk a b c d e f g h i j=>if A8v (.mk a b c d e f g h i j)≠0 then A8v (.mk a b c d e f g h i j) else if Ua i≠0 then Ua i else Ua j
def Ua:List Ad→Int
 | []=>0
 |x::k=>if B1a x≠0 then B1a x else Ua k
end
theorem Bmc(s:Ad):B1a s=if A8v s≠0 then A8v s else if Ua s.Body≠0 then Ua s.Body else Ua s.Else:=by cases s;rw [B1a];rfl
def Aox(l:List Ad):Int:=if 200 < N6 l then 6 else if 12 < dSs l then 11 else Ua l
theorem Fu.sb{L:Nat}{l:List Ad}(h:Fu (L+1) l){x:Ad}(hx:x∈l)(ho:B2 x):SB L x:=by
 obtain ⟨h1,h2⟩:=h
 have hM:=Bb
 have h3:=Bdi hx
 have h4:=Bfs hx
 obtain ⟨o1,o2,o3,o4,o5,o6,_,_⟩:=Cqp ho
 exact ⟨by omega,o1,o2,o3,o4,o5,by omega⟩
theorem Cg4{β :Type}(x:Ad)(rest:Option β)(g:Int→β):(Option.bind (bif !(Aqg x.Op).2 then some true else some (!A3e x (Aqg x.Op).1)) fun b2=>bif b2 then some (g 1) else bif A13 x (Aqg x.Op).1 != 0 then some (g (A13 x (Aqg x.Op).1)) else rest)=bif A8v x != 0 then some (g (A8v x)) else rest:=by
 unfold A8v
 cases (Aqg x.Op).2 with
 |false=>rfl
 |true=>cases A3e x (Aqg x.Op).1<;>rfl
theorem A88(rec:List Ad→Option Int)(L:Nat)(a0:List Ad):∀(k:List Ad) (i:Nat) (v:Int),(∀x∈k,SB L x∧rec x.Body=some (Ua x.Body)∧rec x.Else=some (Ua x.Else))→∃j,N3 rec L a0 k i v=some (bif Ua k != 0 then (0,(Ua k,j)) else (1,(v,j))):=by
 intro k
 induction k with
 |nil=>intro i v _;exact ⟨i,rfl⟩
 |cons x k ih=>
  intro i v h
  obtain ⟨h0,h1,h2⟩:=h x (by simp)
  obtain ⟨j,hj⟩:=ih (i+1) v fun y hy=>h y (by simp [hy])
  rw [N3]
  simp only [Bem,Bel L x _ h0,Bak L x _ h0,h1,h2,hj,Option.bind_some,Ua,Bmc]
  rw [Cg4 x _ fun e=>(0,(e,(i:Int)))]
  by_cases e1:A8v x=0
  ·by_cases e2:Ua x.Body=0
   ·by_cases e3:Ua x.Else=0
    ·exact ⟨j,by simp [e1,e2,e3]⟩
    ·exact ⟨i,by simp [e1,e2,e3,Wl e3]⟩
   ·exact ⟨i,by simp [e1,e2,Wl e2]⟩
  ·exact ⟨i,by simp [e1,Wl e1]⟩
theorem Baj{l:List Ad}(hl:∀y∈l,B2 y):∀L,Fu L l→Ot L l=some (Ua l):=by
 refine Aa7 (M:=fun l=>∀L,Fu L l→Ot L l=some (Ua l)) ?_ hl
 intro l ih L hF
 obtain ⟨L,rfl⟩:=hF.pos
 obtain ⟨n1,n2,n3⟩:=hF.len
 obtain ⟨j,hj⟩:=A88 (Ot L) L l l 0 0 fun x hx=>⟨hF.sb hx (ih x hx).1,(ih x hx).2.1 L (hF.kid hx).1,(ih x hx).2.2 L (hF.kid hx).2⟩
 simp only [Ayq,W2,Aqv,Ot,W2,aN,aB,A1m _ L l L n1 n2,hj,Option.bind_some]
 by_cases h:Ua l=0
 ·simp [h,Kx]
 ·simp [Wl h,Gm]
theorem Awf{l:List Ad}(hl:∀y∈l,B2 y)(L:Nat)(hF:Fu L l):Ac9 L l=some (Aox l):=by
 have e1:decide ((N6 l:Int) > 200)=decide (200 < N6 l):=decide_eq_decide.2 (by omega)
 have e2:decide ((dSs l:Int) > 12)=decide (12 < dSs l):=decide_eq_decide.2 (by omega)
 simp only [Ard,Ac9,aN,aB,Bah hl L hF,Bai hl L hF,Baj hl L hF,Option.bind_some,Dt,e1,e2,Aox]
 congr 1
 by_cases h1:200 < N6 l<;>by_cases h2:12 < dSs l<;>simp [h1,h2]
theorem Beu(rec:List Ad→Option Int)(L:Nat)(a0:List Ad):∀(k:List Ad) (i:Nat) (v:Int),(∀x∈k,SB L x∧rec x.Body=some (Ua x.Body)∧rec x.Else=some (Ua x.Else))→∃j,Jm rec L a0 k i v=some (bif Ua k != 0 then (0,(Ua k,j)) else (1,(v,j))):=by
 intro k
 induction k with
 |nil=>intro i v _;exact ⟨i,rfl⟩
 |cons x k ih=>
  intro i v h
  obtain ⟨h0,h1,h2⟩:=h x (by simp)
  obtain ⟨j,hj⟩:=ih (i+1) v fun y hy=>h y (by simp [hy])
  rw [Jm]
  simp only [Bkg L x h0,h1,h2,hj,Option.bind_some,Ua,Bmc]
  by_cases e1:A8v x=0
  ·by_cases e2:Ua x.Body=0
   ·by_cases e3:Ua x.Else=0
    ·exact ⟨j,by simp [e1,e2,e3]⟩
    ·exact ⟨i,by simp [e1,e2,e3,Wl e3]⟩
   ·exact ⟨i,by simp [e1,e2,Wl e2,beq_false_of_ne e2]⟩
  ·exact ⟨i,by simp [e1,Wl e1,beq_false_of_ne e1]⟩
theorem Bhq{l:List Ad}(hl:∀y∈l,B2 y):∀L,Fu L l→Vr L l=some (Ua l):=by
 refine Aa7 (M:=fun l=>∀L,Fu L l→Vr L l=some (Ua l)) ?_ hl
 intro l ih L hF
 obtain ⟨L,rfl⟩:=hF.pos
 obtain ⟨n1,n2,n3⟩:=hF.len
 obtain ⟨j,hj⟩:=Beu (Vr L) L l l 0 0 fun x hx=>⟨hF.sb hx (ih x hx).1,(ih x hx).2.1 L (hF.kid hx).1,(ih x hx).2.2 L (hF.kid hx).2⟩
 simp only [A6u,Aaz,Awp,Vr,Aaz,aN,aB,A75 _ L l L n1 n2,hj,Option.bind_some]
 by_cases h:Ua l=0
 ·simp [h,Kx]
 ·simp [Wl h,Gm]
theorem Azt{l:List Ad}(hl:∀y∈l,B2 y)(L:Nat)(hF:Fu L l):Ai1 L l=some (Aox l):=by
 have e1:decide ((N6 l:Int) > 200)=decide (200 < N6 l):=decide_eq_decide.2 (by omega)
 have e2:decide ((dSs l:Int) > 12)=decide (12 < dSs l):=decide_eq_decide.2 (by omega)
 simp only [Atk,Ai1,aN,aB,Bd4 hl L hF,Bd5 hl L hF,Bhq hl L hF,Option.bind_some,Dt,e1,e2,Aox]
 congr 1
 by_cases h1:200 < N6 l<;>by_cases h2:12 < dSs l<;>simp [h1,h2]
end Go.Proofs.YtofcpkmnhmnfcaaGreatR.Ev
