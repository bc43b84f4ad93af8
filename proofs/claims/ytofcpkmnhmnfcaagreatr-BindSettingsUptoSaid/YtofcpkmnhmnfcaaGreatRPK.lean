/-  Chapter 10, plainly: what Check of statements says. -/
import Derived.Test.YtofcpkmnhmnfcaaGreatRQA
import Derived.Test.YtofcpkmnhmnfcaaGreatRPI
import Derived.Test.YtofcpkmnhmnfcaaGreatRPB
namespace Go.Proofs.YtofcpkmnhmnfcaaGreatR.Ev
open Go An
set_option maxRecDepth 100000
set_option linter.unusedVariables false
set_option linter.unusedSimpArgs false
set_option linter.unnecessarySimpa false
theorem ww1:B6 1=1:=by kernel_rfl
theorem ww2:B6 2=2:=by kernel_rfl
def A6s(e:Ab):Bool:=e.Op == 0 && decide (e.Name=⟨#[]⟩) && e.N == 0 && decide (e.Kids.length=0)
theorem Aqt(L:Nat)(e:Ab)(hL:1 < L):Pt L e (.mk 0 ⟨#[]⟩ 0 [])=some (A6s e):=by
 obtain ⟨L,rfl⟩:∃k,L=k+1:=⟨L - 1,by omega⟩
 cases e with
 |mk a b c k=>
  simp only [Aye,q7,Vn,Ama,Pt,q7,Vn,aN,aB,Ab.cp_eq,Ab.Op,Ab.Name,Ab.N,Ab.Kids,Ab.eta,Jo,Ny,Zl,List.length_nil,A6s]
  by_cases h:k.length=0
  ·have hk:k= []:=List.length_eq_zero_iff.1 h
   subst hk
   rw [Azj _ L (.mk a b c []) _ L (Nat.zero_le _) (by simp only [Ab.cp_eq,Ab.Op,Ab.Name,Ab.N,Ab.Kids,Ab.eta,List.length_nil];omega)]
   simp only [Ab.cp_eq,Ab.Op,Ab.Name,Ab.N,Ab.Kids,Ab.eta,Ro,Option.bind_some,Sr,List.length_nil]
   by_cases h1:a=0
   ·by_cases h2:b=⟨#[]⟩
    ·by_cases h3:c=0
     ·simp [h1,h2,h3]
     ·simp [h1,h2,h3,Ayu h3]
    ·simp [h1,h2]
   ·simp [Ayu h1,h1]
  ·have:((k.length:Int) != ((0:Nat):Int))=true:=Ayu (by omega)
   simp only [this,Bool.or_true,cond_true,h,decide_false,Bool.and_false]
theorem Bbz(op:Int):op=1∨op=2∨op=3∨op=4∨op=5∨op=6∨op=7∨op=8∨op=9∨op=10∨op=11∨op=12∨op=13∨op=14∨op=15∨op=16∨op=17∨op=18∨op < 1∨18 < op:=by omega
def Az2(op:Int):Bn×Bool:=
 if op=1∨op=7∨op=8∨op=12∨op=15∨op=16∨op=17 then (⟨true,false,true,false,false,false,false,false,false⟩,true)
 else if op=2 then (⟨true,true,false,false,false,true,false,false,false⟩,true)
 else if op=3 then (⟨false,false,true,false,false,false,false,true,true⟩,true)
 else if op=4 then (⟨false,false,true,false,false,false,false,true,false⟩,true)
 else if op=5 then (⟨false,false,true,false,false,false,false,false,false⟩,true)
 else if op=6 then (⟨true,false,true,true,false,false,true,false,false⟩,true)
 else if op=9 then (⟨true,true,false,false,false,false,false,false,false⟩,true)
 else if op=10∨op=11 then (⟨true,false,false,false,false,false,false,false,false⟩,true)
 else if op=13 then (⟨true,true,true,false,true,false,false,false,false⟩,true)
 else if op=14 then (⟨true,false,true,false,true,false,false,false,false⟩,true)
 else if op=18 then (⟨false,false,false,false,false,false,false,false,false⟩,true)
 else (⟨false,false,false,false,false,false,false,false,false⟩,false)
theorem B3{op:Int}(h:op < 1∨18 < op)(n:Int)(h1:1≤n)(h2:n≤18):(op == n)=false:=beq_false_of_ne (by omega)
theorem Bcb{op:Int}(h:op < 1∨18 < op):Az2 op=(⟨false,false,false,false,false,false,false,false,false⟩,false):=by
 unfold Az2
 repeat rw [if_neg (by omega)]
theorem A8e(L:Nat)(op:Int):Ab7 L op=some (Az2 op):=by
 simp only [p9,sx_stmt_uses_3,Agk,sx_stmt_uses_2,Agj,sx_stmt_uses_0,Ayf,Ab7,aN,aB]
 have key:op < 1∨18 < op→_:=fun h=>h
 rcases Bbz op with rfl|rfl|rfl|rfl|rfl|rfl|rfl|rfl|rfl|rfl|rfl|rfl|rfl|rfl|rfl|rfl|rfl|rfl|h|h
 case inr.inr.inr.inr.inr.inr.inr.inr.inr.inr.inr.inr.inr.inr.inr.inr.inr.inr.inl=>
  have h':op < 1∨18 < op:= .inl h
  simp only [Bcb h',B3 h',show (1:Int)≤1 by decide,cond_false,B3 h' 1 (by decide) (by decide),B3 h' 2 (by decide) (by decide),B3 h' 3 (by decide) (by decide),B3 h' 4 (by decide) (by decide),B3 h' 5 (by decide) (by decide),B3 h' 6 (by decide) (by decide),B3 h' 7 (by decide) (by decide),B3 h' 8 (by decide) (by decide),B3 h' 9 (by decide) (by decide),B3 h' 10 (by decide) (by decide),B3 h' 11 (by decide) (by decide),B3 h' 12 (by decide) (by decide),B3 h' 13 (by decide) (by decide),B3 h' 14 (by decide) (by decide),B3 h' 15 (by decide) (by decide),B3 h' 16 (by decide) (by decide),B3 h' 17 (by decide) (by decide),B3 h' 18 (by decide) (by decide)]
 case inr.inr.inr.inr.inr.inr.inr.inr.inr.inr.inr.inr.inr.inr.inr.inr.inr.inr.inr=>
  have h':op < 1∨18 < op:= .inr h
  simp only [Bcb h',cond_false,B3 h' 1 (by decide) (by decide),B3 h' 2 (by decide) (by decide),B3 h' 3 (by decide) (by decide),B3 h' 4 (by decide) (by decide),B3 h' 5 (by decide) (by decide),B3 h' 6 (by decide) (by decide),B3 h' 7 (by decide) (by decide),B3 h' 8 (by decide) (by decide),B3 h' 9 (by decide) (by decide),B3 h' 10 (by decide) (by decide),B3 h' 11 (by decide) (by decide),B3 h' 12 (by decide) (by decide),B3 h' 13 (by decide) (by decide),B3 h' 14 (by decide) (by decide),B3 h' 15 (by decide) (by decide),B3 h' 16 (by decide) (by decide),B3 h' 17 (by decide) (by decide),B3 h' 18 (by decide) (by decide)]
 all_goals rfl
def Ao6:Bm:=⟨0,0,0,0,[],[]⟩
def Bac(s:Ad)(u:Bn):Bool:=
 (u.u_name || decide (s.Name=⟨#[]⟩)) && (u.u_of || decide (s.Of=⟨#[]⟩)) && (u.u_e || A6s s.E) && (u.u_f || A6s s.F) && (u.u_args || decide (s.Args.length=0)) && (u.u_dist || Ajt s.Dist Ao6) && (u.u_flag || !s.Flag) && (u.u_body || decide (s.Body.length=0)) && (u.u_other || decide (s.Else.length=0))
structure SB (L:Nat) (s:Ad):Prop where
 fuel:9223372036855824383 < L
 nm:okS s.Name
 of:okS s.Of
 e:Cn s.E
 f:Cn s.F
 args:∀y∈s.Args,Cn y
 bk:E6 s≤1048576
theorem SB.lt{L:Nat}{s:Ad}(h:SB L s):maxLen < L:=by
 have h1:=h.fuel
 have hM:=Bx
 omega
theorem SB.dist{L:Nat}{s:Ad}(h:SB L s):okD s.Dist:=by
 have h1:=h.bk
 rw [←A19] at h1
 unfold Pw at h1
 have h2:s.Dist.Values.length≤Gh (fun z:Int=>1) s.Dist.Values:=Hv fun _=>Nat.le_refl _
 have h3:s.Dist.Weights.length≤Gh (fun z:Int=>1) s.Dist.Weights:=Hv fun _=>Nat.le_refl _
 exact ⟨by omega,by omega⟩
theorem SB.de{L:Nat}{s:Ad}(h:SB L s):maxLen+dE s.E < L∧maxLen+dE s.F < L∧(∀y∈s.Args,maxLen+dE y < L)∧s.Args.length≤1048576:=by
 have h1:=h.bk
 rw [←A19] at h1
 have h2:=h.fuel
 have hM:=Bx
 have h3:=A2g s.E
 have h4:=A2g s.F
 have h5:=Bod s.Args
 refine ⟨by omega,by omega,fun y hy=> ?_,by omega⟩
 have h6:=A2g y
 have h7:C0 y≤Gh C0 s.Args:=Agi hy
 omega
theorem A8d(L:Nat)(s:Ad)(u:Bn)(h:SB L s):Ab6 L s u=some (Bac s u):=by
 have hL:=h.fuel
 have hM:=Bx
 have e0:=Aqt L s.E (by omega)
 have f0:=Aqt L s.F (by omega)
 have d0:=Ak6 L s.Dist Ao6 h.dist h.lt
 unfold Ao6 at d0
 simp only [Amw,Ab6,aN,aB,Ab.cp_eq,e0,f0,d0,Jo,B7n,Option.bind_some,Oe,Ny,Zl,Bac,Ao6]
 congr 1
 cases u.u_e<;>cases u.u_f<;>cases u.u_dist<;>cases A6s s.E<;>cases A6s s.F<;>simp only [Bool.true_or,Bool.false_or,Bool.and_true,Bool.and_false,Bool.false_and,Bool.true_and,cond_true,cond_false,Bool.and_assoc]
def Ayh:List Ab→Int
 | []=>0
 |x::k=>if Nz false x≠0 then Nz false x else Ayh k
def A3p(s:Ad)(u:Bn):Int:=
 if (u.u_name && Ue s.Name != 0)=true then Ue s.Name
 else if (u.u_of && Ue s.Of != 0)=true then Ue s.Of
 else if (u.u_e && Nz false s.E != 0)=true then Nz false s.E
 else if (u.u_f && Nz false s.F != 0)=true then Nz false s.F
 else if 6 < s.Args.length then 6
 else if Ayh s.Args≠0 then Ayh s.Args
 else if u.u_dist then Aym s.Dist else 0
theorem A31(L:Nat)(s:Ad)(u:Bn):∀(k:List Ab) (i:Nat) (v:Int),(∀x∈k,Ps L x=some (Nz false x))→∃j,J3 L s u k i v=some (bif Ayh k != 0 then (0,(Ayh k,j)) else (1,(v,j))):=by
 intro k
 induction k with
 |nil=>intro i v _;exact ⟨i,rfl⟩
 |cons x k ih=>
  intro i v h
  obtain ⟨j,hj⟩:=ih (i+1) v fun y hy=>h y (by simp [hy])
  by_cases hx:Nz false x=0
  ·exact ⟨j,by simp [J3,h x (by simp),hj,Ayh,hx]⟩
  ·exact ⟨i,by simp [J3,h x (by simp),Ayh,hx,ne0 hx]⟩
theorem A49(L:Nat)(s:Ad)(u:Bn)(h:SB L s):Zx L s u=some (A3p s u):=by
 have hL:=h.fuel
 have hM:=Bx
 obtain ⟨b1,b2,b3,b4⟩:=h.de
 have n1:s.Name.size≤maxLen:=h.nm
 have n2:s.Of.size≤maxLen:=h.of
 have c1:=Vk L s.Name h.nm (by omega)
 have c2:=Vk L s.Of h.of (by omega)
 have c3:=Abp h.e L b1
 have c4:=Abp h.f L b2
 have c5:=Aia L s.Dist h.dist h.lt
 obtain ⟨j,hj⟩:=A31 L s u s.Args 0 0 fun x hx=>Abp (h.args x hx) L (b3 x hx)
 have p1:∃j,Mb L u s L 0 0=some (bif u.u_name && Ue s.Name != 0 then (0,(Ue s.Name,j)) else bif u.u_of && Ue s.Of != 0 then (0,(Ue s.Of,j)) else (1,(0,j))):=by
  obtain ⟨k,hk⟩:∃k,L=k+3:=⟨L - 3,by omega⟩
  have l1:Mb L u s L 0 0=Mb L u s (k+3) 0 0:=by rw [←hk]
  rw [l1]
  simp only [Mb,Ada,aN,aB,List.length_cons,List.length_nil]
  cases hn:(u.u_name && Ue s.Name != 0) with
  |true=>exact ⟨0,by simp [c1,hn,Ny]⟩
  |false=>
   cases ho:(u.u_of && Ue s.Of != 0) with
   |true=>exact ⟨1,by simp [c1,c2,hn,ho,Ny,ww1,ww2]⟩
   |false=>exact ⟨2,by simp [c1,c2,hn,ho,Ny,ww1,ww2]⟩
 have p2:∃j,Mc L u s L 0 0=some (bif u.u_e && Nz false s.E != 0 then (0,(Nz false s.E,j)) else bif u.u_f && Nz false s.F != 0 then (0,(Nz false s.F,j)) else (1,(0,j))):=by
  obtain ⟨k,hk⟩:∃k,L=k+3:=⟨L - 3,by omega⟩
  have l1:Mc L u s L 0 0=Mc L u s (k+3) 0 0:=by rw [←hk]
  rw [l1]
  simp only [Mc,Adb,aN,aB,List.length_cons,List.length_nil,Ab.cp_eq]
  cases he:u.u_e<;>cases hf:u.u_f<;>by_cases ze:Nz false s.E=0<;>by_cases zf:Nz false s.F=0
  all_goals first
   |(refine ⟨0,?_⟩;simp [c3,c4,he,hf,ze,zf,ne0,ww1,ww2];done)
   |(refine ⟨1,?_⟩;simp [c3,c4,he,hf,ze,zf,ne0,ww1,ww2];done)
   |(refine ⟨2,?_⟩;simp [c3,c4,he,hf,ze,zf,ne0,ww1,ww2];done)
 obtain ⟨j1,p1⟩:=p1
 obtain ⟨j2,p2⟩:=p2
 simp only [Atq,Yz,Y4,Y0,Y5,Tn,Zx,Yz,Y4,Y0,Y5,Tn,aN,aB,p1,Option.bind_some,A3p]
 cases hn:(u.u_name && Ue s.Name != 0) with
 |true=>simp [Nb]
 |false=>
  cases ho:(u.u_of && Ue s.Of != 0) with
  |true=>simp [Nb]
  |false=>
   simp only [cond_false,Sr,p2,Option.bind_some,Bool.false_eq_true,if_false]
   cases he:(u.u_e && Nz false s.E != 0) with
   |true=>simp [Nb]
   |false=>
    cases hf:(u.u_f && Nz false s.F != 0) with
    |true=>simp [Nb]
    |false=>
     simp only [cond_false,Sr,Bool.false_eq_true,if_false,Awn L s u L (by omega) (by omega),hj,Option.bind_some,c5]
     by_cases hl:6 < s.Args.length
     ·have:(6:Int) < (s.Args.length:Int):=by omega
      simp [hl,this]
     ·have:¬(6:Int) < (s.Args.length:Int):=by omega
      by_cases ha:Ayh s.Args=0
      ·cases hd:u.u_dist<;>simp [hl,this,ha,hd,Sr]
      ·simp [hl,this,ha,ne0 ha,Nb]
def Bbj(s:Ad):Int:=bif !(Az2 s.Op).2 || !Bac s (Az2 s.Op).1 then 1 else A3p s (Az2 s.Op).1
mutual
def Buy:Ad→Int
 | .mk a b c d e f g h i j=>if Bbj (.mk a b c d e f g h i j)≠0 then Bbj (.mk a b c d e f g h i j) else if t7 i≠0 then t7 i else t7 j
def t7:List Ad→Int
 | []=>0
 |x::k=>if Buy x≠0 then Buy x else t7 k
end
theorem Buz(s:Ad):Buy s=if Bbj s≠0 then Bbj s else if t7 s.Body≠0 then t7 s.Body else t7 s.Else:=by cases s;rw [Buy];rfl
def Asy(l:List Ad):Int:=if 200 < Zb l then 6 else if 12 < dSs l then 11 else t7 l
theorem Fu.sb{L:Nat}{l:List Ad}(h:Fu (L+1) l){x:Ad}(hx:x∈l)(ho:Ct x):SB L x:=by
 obtain ⟨h1,h2⟩:=h
 have hM:=Bx
 have h3:=A7q hx
 have h4:=A9s hx
 obtain ⟨o1,o2,o3,o4,o5,o6,_,_⟩:=Ckm ho
 exact ⟨by omega,o1,o2,o3,o4,o5,by omega⟩
theorem Cat{β :Type}(x:Ad)(rest:Option β)(g:Int→β):(Option.bind (bif !(Az2 x.Op).2 then some true else some (!Bac x (Az2 x.Op).1)) fun b2=>bif b2 then some (g 1) else bif A3p x (Az2 x.Op).1 != 0 then some (g (A3p x (Az2 x.Op).1)) else rest)=bif Bbj x != 0 then some (g (Bbj x)) else rest:=by
 unfold Bbj
 cases (Az2 x.Op).2 with
 |false=>rfl
 |true=>cases Bac x (Az2 x.Op).1<;>rfl
theorem A30(rec:List Ad→Option Int)(L:Nat)(a0:List Ad):∀(k:List Ad) (i:Nat) (v:Int),(∀x∈k,SB L x∧rec x.Body=some (t7 x.Body)∧rec x.Else=some (t7 x.Else))→∃j,Ml rec L a0 k i v=some (bif t7 k != 0 then (0,(t7 k,j)) else (1,(v,j))):=by
 intro k
 induction k with
 |nil=>intro i v _;exact ⟨i,rfl⟩
 |cons x k ih=>
  intro i v h
  obtain ⟨h0,h1,h2⟩:=h x (by simp)
  obtain ⟨j,hj⟩:=ih (i+1) v fun y hy=>h y (by simp [hy])
  rw [Ml]
  simp only [A8e,A8d L x _ h0,A49 L x _ h0,h1,h2,hj,Option.bind_some,t7,Buz]
  rw [Cat x _ fun e=>(0,(e,(i:Int)))]
  by_cases e1:Bbj x=0
  ·by_cases e2:t7 x.Body=0
   ·by_cases e3:t7 x.Else=0
    ·exact ⟨j,by simp [e1,e2,e3]⟩
    ·exact ⟨i,by simp [e1,e2,e3,ne0 e3]⟩
   ·exact ⟨i,by simp [e1,e2,ne0 e2]⟩
  ·exact ⟨i,by simp [e1,ne0 e1]⟩
theorem A48{l:List Ad}(hl:∀y∈l,Ct y):∀L,Fu L l→M9 L l=some (t7 l):=by
 refine Aju (M:=fun l=>∀L,Fu L l→M9 L l=some (t7 l)) ?_ hl
 intro l ih L hF
 obtain ⟨L,rfl⟩:=hF.pos
 obtain ⟨n1,n2,n3⟩:=hF.len
 obtain ⟨j,hj⟩:=A30 (M9 L) L l l 0 0 fun x hx=>⟨hF.sb hx (ih x hx).1,(ih x hx).2.1 L (hF.kid hx).1,(ih x hx).2.2 L (hF.kid hx).2⟩
 simp only [Atp,Tm,Akb,M9,Tm,aN,aB,Awm _ L l L n1 n2,hj,Option.bind_some]
 by_cases h:t7 l=0
 ·simp [h,Sr]
 ·simp [ne0 h,Nb]
theorem Aqw{l:List Ad}(hl:∀y∈l,Ct y)(L:Nat)(hF:Fu L l):Zw L l=some (Asy l):=by
 have e1:decide ((Zb l:Int) > 200)=decide (200 < Zb l):=decide_eq_decide.2 (by omega)
 have e2:decide ((dSs l:Int) > 12)=decide (12 < dSs l):=decide_eq_decide.2 (by omega)
 simp only [Akm,Zw,aN,aB,A46 hl L hF,A47 hl L hF,A48 hl L hF,Option.bind_some,Oe,e1,e2,Asy]
 congr 1
 by_cases h1:200 < Zb l<;>by_cases h2:12 < dSs l<;>simp [h1,h2]
end Go.Proofs.YtofcpkmnhmnfcaaGreatR.Ev
