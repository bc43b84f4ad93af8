/-  Chapter 10, plainly: Check, in the program and in the reference. -/
import Derived.Test.YtcbandfdmbkokaaGreatQ2
import Derived.Test.YtcbandfdmbkokaaGreatQ4
import Derived.Test.YtcbandfdmbkokaaGreatPk
namespace Go.Proofs.YtcbandfdmbkokaaGreat.Ev
open Go
set_option maxRecDepth 100000
set_option linter.unusedVariables false
set_option linter.unusedSimpArgs false
set_option linter.unnecessarySimpa false
theorem Amc(L:Nat)(s:Ab)(f:B4)(hc:∀x∈s.Args,E3 L x=some (E1 false x))(hl:s.Args.length≤1048576):∀(m i n:Nat) (v:Int),i+m=s.Args.length→m < n→
  ∃j,Dc L s f n v (i:Int)=some (0,(if v≠0 then v else Zp (s.Args.drop i),j)):=by
 intro m
 induction m with
 |zero=>
  intro i n v hi hn
  obtain ⟨n,rfl⟩:∃k,n=k+1:=⟨n - 1,by omega⟩
  refine ⟨i,?_⟩
  simp only [Dc,K6,Ao,Au,Al,Am,Ar,Ap,Ak,Av,Aw,Aq,Ax,L2 (show s.Args.length≤i by omega),Dz,Bool.and_false,cond_false]
  rw [List.drop_eq_nil_of_le (by omega),Zp]
  by_cases hv:v=0<;>simp [hv]
 |succ m ih=>
  intro i n v hi hn
  obtain ⟨n,rfl⟩:∃k,n=k+1:=⟨n - 1,by omega⟩
  have hlt:i < s.Args.length:=by omega
  have hM:=Cf
  by_cases hv:v=0
  ·subst hv
   have hx:s.Args.getD i default∈s.Args:=by rw [Ro s.Args i hlt];exact List.getElem_mem hlt
   obtain ⟨j,hj⟩:=ih (i+1) n (E1 false (s.Args.getD i default)) (by omega) (by omega)
   refine ⟨j,?_⟩
   simp only [Dc,K6,Ao,Au,Al,Am,Ar,Ap,Ak,Av,Aw,Aq,Ax,Kq hlt,nn,Ub hlt,Sr,if_true,Dz,beq_self_eq_true,Bool.true_and,cond_true,Aa.cp_eq,hc _ hx,Option.bind_some,Ch hlt (show s.Args.length≤maxLen by omega),hj]
   rw [Zu s.Args i hlt,Zp]
   by_cases hz:E1 false (s.Args.getD i default)=0<;>simp [hz]
  ·refine ⟨i,?_⟩
   simp only [Dc,K6,Ao,Au,Al,Am,Ar,Ap,Ak,Av,Aw,Aq,Ax,Dz,beq_false_of_ne hv,Bool.false_and,cond_false]
   simp [hv]
def Ax7(s:Ab)(u:Bn):Int:=
 if (u.u_e && E1 false s.E != 0)=true then E1 false s.E
 else if (u.u_f && E1 false s.F != 0)=true then E1 false s.F
 else if 6 < s.Args.length then 6 else Zp s.Args
theorem Atl(L:Nat)(s:Ab)(u:Bn)(h:SB L s):Ra L s (Aba u)=some (Ax7 s u):=by
 have hL:=h.fuel
 have hM:=Cf
 obtain ⟨b1,b2,b3,b4⟩:=h.de
 have c3:=Xy h.e L b1
 have c4:=Xy h.f L b2
 have lpz:∀v:Int,(Option.bind (Dc L s (Aba u) L v 0) fun o=>Acv o.1 [some o.2.1])=some (if v≠0 then v else Zp s.Args):=by
  intro v
  obtain ⟨j,hj⟩:=Amc L s (Aba u) (fun x hx=>Xy (h.args x hx) L (b3 x hx)) b4 s.Args.length 0 L v (by omega) (by omega)
  have hj:Dc L s (Aba u) L v 0=_:=hj
  rw [hj,List.drop_zero]
  simp only [Option.bind_some,P9]
 have fE:(Aba u).E=u.u_e:=rfl
 have fF:(Aba u).F=u.u_f:=rfl
 simp only [Wj,Ra,Ao,Au,Al,Am,Ar,Ap,Ak,Av,Aw,Aq,Ax,Aa.cp_eq,c3,c4,lpz,Option.bind_some,fE,fF,Ax7,Dz]
 have hd:decide ((s.Args.length:Int) > 6)=decide (6 < s.Args.length):=decide_eq_decide.2 (by omega)
 simp only [hd]
 cases u.u_e<;>cases u.u_f<;>by_cases h1:E1 false s.E=0<;>by_cases h2:E1 false s.F=0<;>by_cases h3:6 < s.Args.length<;>simp [h1,h2,h3,i4,beq_false_of_ne]
def Ami(s:Ab):Int:=bif !(m3 s.Op).2 || !Ah0 s (m3 s.Op).1 then 1 else Ahf s (m3 s.Op).1
theorem Ah4(s:ByteArray):S6 s=0∨S6 s=3:=by
 unfold S6
 cases Z6 s
 ·exact .inr rfl
 ·exact .inl rfl
theorem Ayj(L:Nat)(s:Ab)(h:SB L s):S8 L s=some (Ami s):=by
 have hL:=h.fuel
 have hM:=Cf
 have n1:s.Name.size≤maxLen:=h.nm
 have n2:s.Of.size≤maxLen:=h.of
 have c1:=v6 L s.Name h.nm (by omega) (by omega)
 have c2:=v6 L s.Of h.of (by omega) (by omega)
 have c5:=Atd L s.Dist h.dist h.lt
 simp only [Ab6,S8,Ao,Au,Al,Am,Ar,Ap,Ak,Av,Aw,Aq,Ax,Ab.cp_eq,Aqb,Aon L s h,c1,c2,c5,Atl L s _ h,Option.bind_some,D7,Dz,O8]
 congr 1
 unfold Ami Ahf Ax7
 generalize (m3 s.Op).2=ok
 generalize (m3 s.Op).1=u
 simp only [Aba]
 cases ok with
 |false=>simp
 |true=>
  cases Ah0 s u with
  |false=>simp
  |true=>
   simp only [Bool.and_self,Bool.not_true,cond_false,Bool.or_self,Bool.false_eq_true,if_false]
   cases u.u_name<;>cases u.u_of<;>rcases Ah4 s.Name with e1|e1<;>rcases Ah4 s.Of with e2|e2<;>simp only [e1,e2]<;>first|(simp;done)|skip
   all_goals (cases u.u_e<;>cases u.u_f<;>cases u.u_dist<;>by_cases h1:E1 false s.E=0<;>by_cases h2:E1 false s.F=0<;>by_cases h3:6 < s.Args.length<;>by_cases h4:Zp s.Args=0<;>simp [h1,h2,h3,h4,i4,beq_false_of_ne])
mutual
def A27:Ab→Int
 | .mk a b c d e f g h i j=>if Ami (.mk a b c d e f g h i j)≠0 then Ami (.mk a b c d e f g h i j) else if Kl i≠0 then Kl i else Kl j
def Kl:List Ab→Int
 | []=>0
 |x::k=>if A27 x≠0 then A27 x else Kl k
end
theorem Ay9(s:Ab):A27 s=if Ami s≠0 then Ami s else if Kl s.Body≠0 then Kl s.Body else Kl s.Else:=by cases s;rw [A27];rfl
def Vg(l:List Ab):Int:=if 200 < I3 l then 6 else if 12 < Vl l then 11 else Kl l
theorem Fu.sb{L:Nat}{l:List Ab}(h:Fu (L+1) l){x:Ab}(hx:x∈l)(ho:Cj x):SB L x:=by
 obtain ⟨h1,h2⟩:=h
 have hM:=Cf
 have h3:=Azc hx
 have h4:=Avj hx
 obtain ⟨o1,o2,o3,o4,o5,o6,_,_⟩:=Btl ho
 exact ⟨by omega,o1,o2,o3,o4,o5,by omega⟩
theorem Bhu{β :Type}(x:Ab)(rest:Option β)(g:Int→β):(Option.bind (bif !(m3 x.Op).2 then some true else some (!Ah0 x (m3 x.Op).1)) fun b2=>bif b2 then some (g 1) else bif Ahf x (m3 x.Op).1 != 0 then some (g (Ahf x (m3 x.Op).1)) else rest)=bif Ami x != 0 then some (g (Ami x)) else rest:=by
 unfold Ami
 cases (m3 x.Op).2 with
 |false=>rfl
 |true=>cases Ah0 x (m3 x.Op).1<;>rfl
theorem Ams(rec:List Ab→Option Int)(L:Nat)(a0:List Ab):∀(k:List Ab) (i:Nat) (v:Int),(∀x∈k,SB L x∧rec x.Body=some (Kl x.Body)∧rec x.Else=some (Kl x.Else))→∃j,Mn rec L a0 k i v=some (bif Kl k != 0 then (0,(Kl k,j)) else (1,(v,j))):=by
 intro k
 induction k with
 |nil=>intro i v _;exact ⟨i,rfl⟩
 |cons x k ih=>
  intro i v h
  obtain ⟨h0,h1,h2⟩:=h x (by simp)
  obtain ⟨j,hj⟩:=ih (i+1) v fun y hy=>h y (by simp [hy])
  rw [Mn]
  simp only [Atu,Att L x _ h0,Aox L x _ h0,h1,h2,hj,Option.bind_some,Kl,Ay9]
  rw [Bhu x _ fun e=>(0,(e,(i:Int)))]
  by_cases e1:Ami x=0
  ·by_cases e2:Kl x.Body=0
   ·by_cases e3:Kl x.Else=0
    ·exact ⟨j,by simp [e1,e2,e3]⟩
    ·exact ⟨i,by simp [e1,e2,e3,i4 e3]⟩
   ·exact ⟨i,by simp [e1,e2,i4 e2]⟩
  ·exact ⟨i,by simp [e1,i4 e1]⟩
theorem Aow{l:List Ab}(hl:∀y∈l,Cj y):∀L,Fu L l→Iq L l=some (Kl l):=by
 refine W0 (M:=fun l=>∀L,Fu L l→Iq L l=some (Kl l)) ?_ hl
 intro l ih L hF
 obtain ⟨L,rfl⟩:=hF.pos
 obtain ⟨n1,n2,n3⟩:=hF.len
 obtain ⟨j,hj⟩:=Ams (Iq L) L l l 0 0 fun x hx=>⟨hF.sb hx (ih x hx).1,(ih x hx).2.1 L (hF.kid hx).1,(ih x hx).2.2 L (hF.kid hx).2⟩
 simp only [Uz,Ug,Iq,Ao,Au,Al,Am,Ar,Ap,Ak,Av,Aw,Aq,Ax,Agx _ L l L n1 n2,hj,Option.bind_some]
 by_cases h:Kl l=0
 ·simp [h,f6]
 ·simp [i4 h,P9]
theorem Ac3{l:List Ab}(hl:∀y∈l,Cj y)(L:Nat)(hF:Fu L l):Kn L l=some (Vg l):=by
 have e1:decide ((I3 l:Int) > 200)=decide (200 < I3 l):=decide_eq_decide.2 (by omega)
 have e2:decide ((Vl l:Int) > 12)=decide (12 < Vl l):=decide_eq_decide.2 (by omega)
 simp only [Xp,Kn,Ao,Au,Al,Am,Ar,Ap,Ak,Av,Aw,Aq,Ax,Aou hl L hF,Aov hl L hF,Aow hl L hF,Option.bind_some,D7,e1,e2,Vg]
 congr 1
 by_cases h1:200 < I3 l<;>by_cases h2:12 < Vl l<;>simp [h1,h2]
theorem Atz(rec:List Ab→Option Int)(L:Nat)(a0:List Ab):∀(k:List Ab) (i:Nat) (v:Int),(∀x∈k,SB L x∧rec x.Body=some (Kl x.Body)∧rec x.Else=some (Kl x.Else))→∃j,Ig rec L a0 k i v=some (bif Kl k != 0 then (0,(Kl k,j)) else (1,(v,j))):=by
 intro k
 induction k with
 |nil=>intro i v _;exact ⟨i,rfl⟩
 |cons x k ih=>
  intro i v h
  obtain ⟨h0,h1,h2⟩:=h x (by simp)
  obtain ⟨j,hj⟩:=ih (i+1) v fun y hy=>h y (by simp [hy])
  rw [Ig]
  simp only [Ayj L x h0,h1,h2,hj,Option.bind_some,Kl,Ay9]
  by_cases e1:Ami x=0
  ·by_cases e2:Kl x.Body=0
   ·by_cases e3:Kl x.Else=0
    ·exact ⟨j,by simp [e1,e2,e3]⟩
    ·exact ⟨i,by simp [e1,e2,e3,i4 e3]⟩
   ·exact ⟨i,by simp [e1,e2,i4 e2,beq_false_of_ne e2]⟩
  ·exact ⟨i,by simp [e1,i4 e1,beq_false_of_ne e1]⟩
theorem Awx{l:List Ab}(hl:∀y∈l,Cj y):∀L,Fu L l→Np L l=some (Kl l):=by
 refine W0 (M:=fun l=>∀L,Fu L l→Np L l=some (Kl l)) ?_ hl
 intro l ih L hF
 obtain ⟨L,rfl⟩:=hF.pos
 obtain ⟨n1,n2,n3⟩:=hF.len
 obtain ⟨j,hj⟩:=Atz (Np L) L l l 0 0 fun x hx=>⟨hF.sb hx (ih x hx).1,(ih x hx).2.1 L (hF.kid hx).1,(ih x hx).2.2 L (hF.kid hx).2⟩
 simp only [X7,X4,Np,Ao,Au,Al,Am,Ar,Ap,Ak,Av,Aw,Aq,Ax,Alt _ L l L n1 n2,hj,Option.bind_some]
 by_cases h:Kl l=0
 ·simp [h,f6]
 ·simp [i4 h,P9]
theorem Atj{l:List Ab}(hl:∀y∈l,Cj y)(L:Nat)(hF:Fu L l):Q9 L l=some (Vg l):=by
 have e1:decide ((I3 l:Int) > 200)=decide (200 < I3 l):=decide_eq_decide.2 (by omega)
 have e2:decide ((Vl l:Int) > 12)=decide (12 < Vl l):=decide_eq_decide.2 (by omega)
 simp only [Zg,Q9,Ao,Au,Al,Am,Ar,Ap,Ak,Av,Aw,Aq,Ax,Afg hl L hF,Atk hl L hF,Awx hl L hF,Option.bind_some,D7,e1,e2,Vg]
 congr 1
 by_cases h1:200 < I3 l<;>by_cases h2:12 < Vl l<;>simp [h1,h2]
end Go.Proofs.YtcbandfdmbkokaaGreat.Ev
