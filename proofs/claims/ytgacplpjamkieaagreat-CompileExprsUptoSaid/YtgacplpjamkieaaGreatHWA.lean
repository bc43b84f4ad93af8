/-  Chapter 18, plainly: slots, variables and numbers of objects, in compile and in the reference. -/
import Derived.Test.YtgacplpjamkieaaGreatHQA
import Derived.Test.YtgacplpjamkieaaGreatHPA
import Derived.Test.YtgacplpjamkieaaGreatHNA
import Derived.Test.YtgacplpjamkieaaGreatHG12
set_option maxRecDepth 100000
set_option linter.unusedVariables false
set_option linter.unusedSimpArgs false
set_option linter.unnecessarySimpa false
namespace Go.Proofs.YtgacplpjamkieaaGreat.Ev
open Go An
theorem A4c(m:Al):(⟨m.aD,m.aK,m.aU,m.bJ⟩:Al)=m:=Eq.refl _
theorem A6e(m:Ab):(⟨m.aD,m.aX,m.aI,m.aJ,m.aZ,m.aV,m.aR,m.aS,m.aW,m.aT,m.aG,m.bB,m.Laws⟩:Ab)=m:=Eq.refl _
theorem Bax(m:Ao):(⟨m.aK,m.aP,m.aF⟩:Ao)=m:=Eq.refl _
theorem A4d(m:Ac):(⟨m.bK,m.aA,m.bQ⟩:Ac)=m:=Eq.refl _
structure EB (L:Nat) (v:Ao):Prop where
 fuel:maxLen<L
 loc:v.aP.length<=maxLen
 st:Aan v.aF maxLen
theorem EB.mono{L L':Nat}{v:Ao}(h:EB L v)(hl:maxLen<L'):EB L' v:=⟨hl,h.loc,h.st⟩
theorem Ar4(L:Nat)(s:Ab)(n:Yb)(h:Aan s maxLen)(hL:maxLen<L):T8 L s n=some (Tt s n).2:=by
 simp only[f8,T8,aN,aB,Agp L s n h hL,Option.bind_some]
theorem Ar6{L:Nat}{c:Ac}(h:EB L c.aA)(n:Yb):Ch L c n=some (Tt c.aA.aF n).2:=by
 simp only[Mc,Ch,aN,aB,Ar4 L _ n h.st h.fuel,Option.bind_some]
theorem Xw(L:Nat)(l:List Ag)(n:Yb):∀(k:List Ag) (i:Nat) (v:Int),Co L l n k i v=some (match k.findIdx? (λx=>x.aD.toList == n.toList) with|some j=>(0,(((i+j:Nat):Int),((i+j:Nat):Int)))|none=>(1,(v,((i+k.length:Nat):Int)))):=by
 intro k
 induction k with
 |nil=>intro i v;rfl
 |cons x k ih=>
  intro i v;rw[Co,ih,List.findIdx?_cons];cases hc:(λx=>x.aD.toList == n.toList) x with
  |true=>simp only[hc,cond_true,if_true];rfl
  |false=>
   simp only[hc,cond_false,if_false,Bool.false_eq_true];cases k.findIdx? (λx=>x.aD.toList == n.toList) with
   |some j=>simp[Nat.add_assoc,Nat.add_comm 1]
   |none=>simp[Nat.add_assoc,Nat.add_comm 1]
theorem Ts(L:Nat)(l:List Ag)(n:Yb)(hl:l.length<=maxLen)(hL:l.length<L):E6 L l n=some (Lr (l.findIdx? (λx=>decide (x.aD=n)))):=by
 simp only[E6,Mg,Iw,aN,aB,V1 _ _ _ _ hl hL,Xw,He,Option.bind_some];cases l.findIdx? (λx=>decide (x.aD=n)) with
 |none=>rfl
 |some i=>simp[Lr,Adl]
theorem Aks{L:Nat}{c:Ac}(h:EB L c.aA)(n:Yb):Du L c n=some (Lr (c.aA.aF.aX.findIdx? λx=>decide (x.aD=n))):=by
 have h1:=h.st.1;have h2:=h.fuel;simp only[O1,E8,Du,E8,aN,aB,Ts L _ n h1 (by omega),Option.bind_some]
def bO(b:Bool)(z:Int):Int:=bif b then 5 else z
theorem Bmk(a b:Bool)(z:Int):bO b (bO a z)=bO (a || b) z:=by cases a<;>cases b<;>rfl
def ScV{α :Type}(m:Al)(v:Ao)(F:Ac->Option (α×Ac))(a: α)(b:Bool):Prop:=∀z:Int,F ⟨m,v,z⟩=some (a,⟨m,v,bO b z⟩)
def U8(l:List Aw)(s:Yb):Nat->Int
 |0=> -1
 |j+1=>bif decide ((l.getD j default).aD=s) then(j:Int)else U8 l s j
theorem Aur(l:List Aw)(s:Yb):∀j:Nat,-1<=U8 l s j/\U8 l s j<=(j:Int)
 |0=>by unfold U8;omega
 |j+1=>by
  have ih:=Aur l s j;unfold U8;cases decide ((l.getD j default).aD=s) with
  |true=>rw[cond_true];omega
  |false=>rw[cond_false];omega
theorem Atp(L:Nat)(m:Al)(v:Ao)(s:Yb)(hl:v.aP.length<=maxLen)(z:Int):∀(j n:Nat),j<=v.aP.length->j<n->∃(t:Nat) (o:Int×Int),((t=0/\o.1=U8 v.aP s j)\/(t=1/\U8 v.aP s j= -1))/\Dh L ⟨m,v,z⟩ s n 0 ((j:Int)-1)=some (t,o):=by
 intro j
 induction j with
 |zero=>
  intro n _ hn;obtain⟨n,rfl⟩:∃k,n=k+1:=⟨n-1,by omega⟩;exact⟨1,_,.inr ⟨rfl,rfl⟩,by simp only[Dh,Ez,aN];rfl⟩
 |succ j ih=>
  intro n hj hn;obtain⟨n,rfl⟩:∃k,n=k+1:=⟨n-1,by omega⟩;have hlt:j<v.aP.length:=by omega
  have e0:((j+1:Nat):Int)-1=(j:Int):=by omega
  have e1:decide ((j:Int)>=0)=true:=decide_eq_true (by omega);obtain⟨t,o,ht,hi⟩:=ih n (by omega) (by omega);cases hb:decide ((v.aP.getD j default).aD=s) with
  |true=>exact⟨0,((j:Int),(j:Int)),.inl ⟨rfl,by rw[U8,hb];rfl⟩,by simp only[Dh,Ez,aN,gD,He,e0,e1,nn,ltI hlt,toN,hb,cond_true,if_true,decide_true]⟩
  |false=>exact⟨t,o,by rw[U8,hb];exact ht,by simp only[Dh,Ez,aN,gD,He,e0,e1,nn,ltI hlt,toN,hb,cond_true,cond_false,if_true,decide_true,Vb (show j<=maxLen by omega),hi]⟩
theorem Az6(L:Nat)(l:List Aw)(s:Yb)(hl:l.length<=maxLen):∀(j n:Nat),j<=l.length->j<n->∃(t:Nat) (o:Int×Int),((t=0/\o.1=U8 l s j)\/(t=1/\U8 l s j= -1))/\Ka L l s n 0 ((j:Int)-1)=some (t,o):=by
 intro j
 induction j with
 |zero=>
  intro n _ hn;obtain⟨n,rfl⟩:∃k,n=k+1:=⟨n-1,by omega⟩;exact⟨1,_,.inr ⟨rfl,rfl⟩,by simp only[Ka,O8,aN];rfl⟩
 |succ j ih=>
  intro n hj hn;obtain⟨n,rfl⟩:∃k,n=k+1:=⟨n-1,by omega⟩;have hlt:j<l.length:=by omega
  have e0:((j+1:Nat):Int)-1=(j:Int):=by omega
  have e1:decide ((j:Int)>=0)=true:=decide_eq_true (by omega);obtain⟨t,o,ht,hi⟩:=ih n (by omega) (by omega);cases hb:decide ((l.getD j default).aD=s) with
  |true=>exact⟨0,((j:Int),(j:Int)),.inl ⟨rfl,by rw[U8,hb];rfl⟩,by simp only[Ka,O8,aN,gD,He,e0,e1,nn,ltI hlt,toN,hb,cond_true,if_true,decide_true]⟩
  |false=>exact⟨t,o,by rw[U8,hb];exact ht,by simp only[Ka,O8,aN,gD,He,e0,e1,nn,ltI hlt,toN,hb,cond_true,cond_false,if_true,decide_true,Vb (show j<=maxLen by omega),hi]⟩
theorem Axd{L:Nat}(m:Al){v:Ao}(h:EB L v)(s:Yb)(z:Int):Dl L ⟨m,v,z⟩ s=some (U8 v.aP s v.aP.length):=by
 have h1:=h.loc;have h2:=h.fuel;obtain⟨t,o,ht,hi⟩:=Atp L m v s h1 z v.aP.length L (Nat.le_refl _) (by omega);simp only[U0,H9,Dl,H9,aN,aB,Vb h1,hi,Option.bind_some];rcases ht with⟨rfl,ho⟩|⟨rfl,ho⟩
 ·rw[<-ho];rfl
 ·rw[ho];rfl
theorem A19{L:Nat}{l:List Aw}(h1:l.length<=maxLen)(h2:maxLen<L)(s:Yb):Acp L l s=some (U8 l s l.length):=by
 obtain⟨t,o,ht,hi⟩:=Az6 L l s h1 l.length L (Nat.le_refl _) (by omega);simp only[Aqv,Um,Acp,Um,aN,aB,Vb h1,hi,Option.bind_some];rcases ht with⟨rfl,ho⟩|⟨rfl,ho⟩
 ·rw[<-ho];rfl
 ·rw[ho];rfl
theorem Amw(L:Nat)(a1:Yb)(a0:Ab):∀(k:List Ag) (i:Nat) (v:Int),F7 L a1 a0 k i v=some (match k.findIdx? (λx=>x.aD.toList == a1.toList) with|some j=>(0,(((i+j:Nat):Int),((i+j:Nat):Int)))|none=>(1,(v,((i+k.length:Nat):Int)))):=by
 intro k
 induction k with
 |nil=>intro i v;rfl
 |cons x k ih=>
  intro i v;rw[F7,ih,List.findIdx?_cons];cases hc:(λx=>x.aD.toList == a1.toList) x with
  |true=>simp only[hc,cond_true,if_true];rfl
  |false=>
   simp only[hc,cond_false,if_false,Bool.false_eq_true];cases k.findIdx? (λx=>x.aD.toList == a1.toList) with
   |some j=>simp[Nat.add_assoc,Nat.add_comm 1]
   |none=>simp[Nat.add_assoc,Nat.add_comm 1]
theorem Ast(L:Nat)(s:Ab)(n:Yb)(hl:s.aX.length<=maxLen)(hL:s.aX.length<L):Ra L s n=some (Lr (s.aX.findIdx? λx=>decide (x.aD=n))):=by
 simp only[Afp,Mm,Ra,Mm,aN,aB,Aiu _ _ _ _ hl hL,Amw,He,Option.bind_some];cases s.aX.findIdx? λx=>decide (x.aD=n) with
 |none=>rfl
 |some i=>simp[Lr,Adl]
theorem A6h{α :Type}(l:List α)(f: α->Yb)(n:Yb):Are (l.map f) n=Lr (l.findIdx? λx=>decide (f x=n)):=by
 unfold Are;rw[List.findIdx?_map];rfl
theorem Az4(L:Nat)(s:Ab)(n:Yb)(h:Aan s 1099511627776)(hL:maxLen<L):Y1 L s n=some (Tt s n).2:=by
 have hM:=Di;have hh:=h;obtain⟨h0,h1,h2,h3,h4,h5,h6,h7,h8,h9⟩:=hh;have hn:=Akp L s h hL;have hf:∀l:List Yb,l.length<=1099511627776->Ib L l n=some (Are l n):=λl hl=>Agm L l n (by omega) (by omega);have e:∀ {α :Type} (l:List α) (f: α->Yb),l.length<=1099511627776->Ib L (l.map f) n=some (Are (l.map f) n):=λl f hl=>hf _ (by rw[List.length_map];exact hl);simp only[Anp,Sr,Sh,Y1,Sr,Sh,aN,aB,hn,Option.bind_some,Apc L n (Adf s) s L (by simp only[Adf,List.length_cons,List.length_nil];omega) (by simp only[Adf,List.length_cons,List.length_nil];omega)];simp only[Adf,Kv,e _ _ h0,e _ _ h1,e _ _ h2,e _ _ h3,hf _ h4,hf _ h5,hf _ h6,hf _ h7,hf _ h8,e _ _ h9,Option.bind_some,Aya,List.any_map,List.length_cons,List.length_nil,Int.toNat_natCast,A6h];simp only[Are,Aj9,Tt,Gg,Option.bind_some,Function.comp_def];have e2:∀l:List Yb,(l.any λx=>decide (x=n))=l.any λx=>decide (n=x):=λl=>by simp only[eq_comm]
 have e3:∀l:List Yb,(l.findIdx? λx=>decide (x=n))=l.findIdx? λx=>decide (n=x):=λl=>by simp only[eq_comm]
 simp only[e2,e3];cases s.aX.any (λx=>decide (x.aD=n)) with|true=>rfl|false=>?_
 cases s.aI.any (λx=>decide (x.aD=n)) with|true=>rfl|false=>?_
 cases s.aJ.any (λx=>decide (x.aD=n)) with|true=>rfl|false=>?_
 cases s.aZ.any (λx=>decide (x.aD=n)) with|true=>rfl|false=>?_
 cases s.aV.any (λx=>decide (n=x)) with|true=>rfl|false=>?_
 cases s.aR.any (λx=>decide (n=x)) with|true=>rfl|false=>?_
 cases s.aS.any (λx=>decide (n=x)) with|true=>rfl|false=>?_
 cases s.aW.any (λx=>decide (n=x)) with|true=>rfl|false=>?_
 cases s.aT.any (λx=>decide (n=x)) with|true=>rfl|false=>?_
 cases s.aG.any (λx=>decide (x.aD=n))<;>rfl
theorem Ayl{α :Type}(l:List α)(p: α->Bool): -1<=Lr (l.findIdx? p)/\Lr (l.findIdx? p)<=(l.length:Int):=by
 cases h:l.findIdx? p with
 |none=>show -1<=(-1:Int)/\(-1:Int)<=_;omega
 |some i=>
  have:=(List.findIdx?_eq_some_iff_findIdx_eq.1 h).1;show -1<=(i:Int)/\(i:Int)<=_
  omega
theorem A1d{s:Ab}{k:Nat}(n:Yb)(h:Aan s k): -1<=(Tt s n).2/\(Tt s n).2<=(k:Int):=by
 obtain⟨h0,h1,h2,h3,h4,h5,h6,h7,h8,h9⟩:=h;have g:∀ {α :Type} (l:List α) (p: α->Bool),l.length<=k-> -1<=Lr (l.findIdx? p)/\Lr (l.findIdx? p)<=(k:Int):=λl p hl=>by
  have:=Ayl l p;omega
 unfold Tt;cases s.aX.any (λx=>decide (x.aD=n)) with|true=>exact g _ _ h0|false=>?_
 cases s.aI.any (λx=>decide (x.aD=n)) with|true=>exact g _ _ h1|false=>?_
 cases s.aJ.any (λx=>decide (x.aD=n)) with|true=>exact g _ _ h2|false=>?_
 cases s.aZ.any (λx=>decide (x.aD=n)) with|true=>exact g _ _ h3|false=>?_
 cases s.aV.any (λx=>decide (n=x)) with|true=>exact g _ _ h4|false=>?_
 cases s.aR.any (λx=>decide (n=x)) with|true=>exact g _ _ h5|false=>?_
 cases s.aS.any (λx=>decide (n=x)) with|true=>exact g _ _ h6|false=>?_
 cases s.aW.any (λx=>decide (n=x)) with|true=>exact g _ _ h7|false=>?_
 cases s.aT.any (λx=>decide (n=x)) with|true=>exact g _ _ h8|false=>?_
 cases s.aG.any (λx=>decide (x.aD=n)) with|true=>exact g _ _ h9|false=>?_
 show -1<=(-1:Int)/\(-1:Int)<=_
 omega
theorem Agk{n:Int}(h1: -9223372036854775808<=n)(h2:n<=9223372036854775807):okI .i64 n:=by
 unfold okI;simp[Lit.wf,IntKind.min,IntKind.max,IntKind.signed,IntKind.bits];omega
theorem Bdg(n:Int):okI .i64 (Cp n):=by
 refine Agk ?_ ?_
 ·unfold Cp IntKind.wrap;simp[IntKind.signed,IntKind.bits];split<;>omega
 ·unfold Cp IntKind.wrap;simp[IntKind.signed,IntKind.bits];split<;>omega
end Go.Proofs.YtgacplpjamkieaaGreat.Ev
namespace Go.Proofs.YtgacplpjamkieaaGreat.Ev
open Go An
inductive NN:Aa->Prop
 |mk (a0:Int) (a1:Yb) (a2:Int) (a3:List Aa) (h:a0≠3) (h2:22<=a0/\a0<=24->a1=⟨#[]⟩) (hk:∀x∈a3,NN x):NN (.mk a0 a1 a2 a3)
structure CG (d:Nat) (e a:Aa):Prop where
 ok:Bw a
 d:dE a<=d
 nodes:Ox a=Ox e
 depth:Lc a=Lc e
 nn:NN a
 nd:ndE a=ndE e
def zE:Aa:=.mk 0 ⟨#[]⟩ 0 []
def XV(m:Al)(v:Ao)(F:Ac->Option (Aa×Ac))(R:Option (Aa×Int))(e:Aa)(d:Nat)(a:Aa)(b:Bool):Prop:=
 ScV m v F a b/\R=some (bif b then(zE,5) else(a,0))/\(b=false->CG d e a)
theorem A27{op:Int}{q:Int}(h:okI .i64 op)(hq:okI .i64 q):Bw (.mk op ⟨#[]⟩ q []):=.mk op ⟨#[]⟩ q [] h (Nat.zero_le _) hq (Nat.zero_le _) λy hy=>by cases hy
theorem Bde{op:Int}{q:Int}(h:op≠3):NN (.mk op ⟨#[]⟩ q []):=.mk op ⟨#[]⟩ q [] h (λ_=>rfl) λy hy=>by cases hy
theorem Ag5{op:Int}{q:Int}{d:Nat}{a0 a2:Int}{a1:Yb}(h:okI .i64 op)(hq:okI .i64 q)(h3:op≠3):CG (d+1) (.mk a0 a1 a2 []) (.mk op ⟨#[]⟩ q []):=
 ⟨A27 h hq,by rw[dE,dEs];omega,rfl,rfl,Bde h3,rfl⟩
theorem Bld{L L':Nat}(m:Al){v:Ao}(h:EB L v)(hL:maxLen<L')(n:Yb)(q:Int)(d:Nat):∃a b,XV m v (λc=>Hn L c n) (Acq L' v n) (.mk 3 n q []) (d+1) a b:=by
 have hM:=Di;have hs:=Aur v.aP n v.aP.length;have hl:=h.loc;have hi:=Ayl v.aF.aX (λx=>decide (x.aD=n));have hlv:=h.st.1;have h1:∀z,Dl L ⟨m,v,z⟩ n=some (U8 v.aP n v.aP.length):=Axd m h n;have h2:∀z,Du L ⟨m,v,z⟩ n=some (Lr (v.aF.aX.findIdx? λx=>decide (x.aD=n))):=λz=>Aks (c:=⟨m,v,z⟩) h n;have h3:=A19 (l:=v.aP) hl hL n;have h4:=Ast L' v.aF n hlv (by omega);generalize U8 v.aP n v.aP.length=s at*
 generalize Lr (v.aF.aX.findIdx? λx=>decide (x.aD=n))=i at*
 unfold XV ScV;simp only[Mx,Hn,Aii,Acq,aN,aB,h1,h2,h3,h4,Option.bind_some];by_cases c1:s>=0
 ·rw[decide_eq_true c1];exact⟨_,false,λz=>rfl,rfl,λ_=>Ag5 (Agk (by decide) (by decide)) (Agk (by omega) (by omega)) (by decide)⟩
 ·rw[decide_eq_false c1];by_cases c2:i<0
  ·rw[decide_eq_true c2];exact⟨_,true,λz=>rfl,rfl,λh=>by cases h⟩
  ·rw[decide_eq_false c2];exact⟨_,false,λz=>rfl,rfl,λ_=>Ag5 (Agk (by decide) (by decide)) (Agk (by omega) (by omega)) (by decide)⟩
theorem Bez(A7p:Ac->Aa->Option (Aa×Ac))(Box:Ac->List Aa->Option (List Aa×Ac))(Dj:Ao->Aa->Option (Aa×Int))(L L':Nat)(a1:List Aa)(e1:Aa)(m:Al)(v:Ao)(d:Nat):
  ∀(k:List Aa),(∀x∈k,∃a b,XV m v (λc=>A7p c x) (Dj v x) x d a b)->∃(w:List Aa) (b:Bool),w.length=k.length/\
  (∀(i:Nat) (u:List Aa) (z:Int),u.length+k.length<=1099511627776->∃j:Int,C9 A7p Box L a1 k i u m.aD m.aK m.aU m.bJ v.aK v.aP v.aF.aD v.aF.aX v.aF.aI v.aF.aJ v.aF.aZ v.aF.aV v.aF.aR v.aF.aS v.aF.aW v.aF.aT v.aF.aG v.aF.bB v.aF.Laws z=some (0,(u++w,j,m.aD,m.aK,m.aU,m.bJ,v.aK,v.aP,v.aF.aD,v.aF.aX,v.aF.aI,v.aF.aJ,v.aF.aZ,v.aF.aV,v.aF.aR,v.aF.aS,v.aF.aW,v.aF.aT,v.aF.aG,v.aF.bB,v.aF.Laws,bO b z)))/\
  (∀(i:Nat) (u:List Aa) (v0 c1 c3:Int) (c2:Yb),u.length+k.length<=1099511627776->(b=true->∃(j:Int) (u':List Aa),Ct Dj L' v e1 k i v0 c1 c2 c3 u=some (0,(5,j,0,⟨#[]⟩,0,u')))/\(b=false->∃j:Int,Ct Dj L' v e1 k i v0 c1 c2 c3 u=some (1,(v0,j,c1,c2,c3,u++w))))/\
  (b=false->(∀y∈w,Bw y/\dE y<=d/\NN y)/\(∀n,j7 w n=j7 k n)/\(∀n,i8 w n=i8 k n)/\ndL w=ndL k):=by
 have hM:=Di;intro k
 induction k with
 |nil=>
  intro _;exact⟨[],false,rfl,λi u z _=>⟨i,by rw[List.append_nil];rfl⟩,λi u v0 c1 c3 c2 _=>⟨λh=>(by cases h),λ_=>⟨i,by rw[List.append_nil];rfl⟩⟩,λ_=>⟨λy hy=>(by cases hy),λ_=>rfl,λ_=>rfl,rfl⟩⟩
 |cons x k ih=>
  intro h;obtain⟨a,b,hx,hr,hg⟩:=h x (by simp);have hx:∀z:Int,A7p ⟨m,v,z⟩ x=some (a,⟨m,v,bO b z⟩):=hx;obtain⟨w,b',h1,h2,h3,h4⟩:=ih λy hy=>h y (by simp[hy]);refine⟨a::w,b || b',by rw[List.length_cons,List.length_cons,h1],λi u z hb=>?_,λi u v0 c1 c3 c2 hb=>?_,λhb=>?_⟩
  ·rw[List.length_cons]at hb;obtain⟨j,hj⟩:=h2 (i+1) (u++ [a]) (bO b z) (by simp only[List.length_append,List.length_cons,List.length_nil];omega);refine⟨j,?_⟩;rw[C9];simp only[A4c,A6e,Bax,A4d,hx,Option.bind_some,List.length_cons,List.length_nil];rw[ifp (by omega),ifp (by omega),hj,Bmk,List.append_assoc];rfl
  ·rw[List.length_cons]at hb;cases b with
   |true=>
    refine⟨λ_=>⟨(i:Int),u,?_⟩,λh=>by cases h⟩;rw[Ct,hr];rfl
   |false=>
    obtain⟨g1,g2⟩:=h3 (i+1) (u++ [a]) v0 c1 c3 c2 (by simp only[List.length_append,List.length_cons,List.length_nil];omega);have key:Ct Dj L' v e1 (x::k) i v0 c1 c2 c3 u=Ct Dj L' v e1 k (i+1) v0 c1 c2 c3 (u++ [a]):=by
     rw[Ct,hr];simp only[cond_false,Option.bind_some,bne_self_eq_false,List.length_cons,List.length_nil];rw[ifp (by omega),ifp (by omega)]
    rw[key];refine⟨λh=>g1 h,λh=>?_⟩;obtain⟨j,hj⟩:=g2 h;exact⟨j,by rw[hj,List.append_assoc];rfl⟩
  ·cases b with
   |true=>cases hb
   |false=>
    obtain⟨k1,k2,k3,k4⟩:=h4 hb;have g:=hg rfl;refine⟨λy hy=>?_,λn=>?_,λn=>?_,by rw[ndL,ndL,g.nd,k4]⟩
    ·rcases List.mem_cons.1 hy with rfl|hy
     ·exact⟨g.ok,g.d,g.nn⟩
     ·exact k1 y hy
    ·rw[j7,j7,g.nodes,k2]
    ·rw[i8,i8,g.depth,k3]
theorem A37{op:Int}{nm:Yb}{n:Int}{k:List Aa}(h:Aap false (.mk op nm n k)=0)(h3:op≠3)(h2:¬(22<=op/\op<=24)):nm=⟨#[]⟩:=by
 unfold Aap at h;by_cases hb:Za false (.mk op nm n k)=true
 ·rw[if_pos hb]at h;cases h
 ·have e1:Mk false op=false:=by
   unfold Mk Agj;rw[beq_false_of_ne h3];simp;omega
  have h5:Za false (.mk op nm n k)=false:=by simpa using hb
  have h6:(!Zh false op || decide ((k.length:Int)≠O3 op) || (!decide (nm=⟨#[]⟩) && !Mk false op))=false:=h5;rw[e1]at h6;simp at h6;exact h6.2
theorem Ax0{op:Int}{nm:Yb}{n:Int}{k:List Aa}(h:Aap false (.mk op nm n k)=0)(ho:op=3\/(22<=op/\op<=24)):k= []:=by
 obtain⟨h1,_,_⟩:=Ar1 h;have:O3 op=0:=by unfold O3;grind
 exact List.length_eq_zero_iff.1 (by omega)
theorem Blc(m:Al){v:Ao}(hv:Aan v.aF 1099511627776){e:Aa}(he:Bw e)(hb:Bx e<=1048576):∀(L L':Nat),EB L v->maxLen+2*dE e<L->maxLen+dE e<L'->Yu false e=0->∃a b,XV m v (λc=>Bf L c e) (Ci L' v e) e (dE e) a b:=by
 induction he with
 |mk a0 a1 a2 a3 h0 h1 h2 h3 h4 ih=>
  intro L L' hc hL hL' hck;have hM:=Di;obtain⟨hn,hkc⟩:=Aj0 hck;obtain⟨L,rfl⟩:∃k,L=k+1+1:=⟨L-2,by omega⟩;obtain⟨L',rfl⟩:∃k,L'=k+1:=⟨L'-1,by omega⟩;rw[dE]at hL hL' ⊢;have hc1:EB (L+1) v:=hc.mono (by omega);have hi:∀z,Ch (L+1) ⟨m,v,z⟩ a1=some (Tt v.aF a1).2:=λz=>Ar6 (c:=⟨m,v,z⟩) hc1 a1;have hr:=A1d a1 hv;by_cases c3:a0=3
  ·subst c3;have hk:=Ax0 hn (.inl rfl);subst hk;obtain⟨a,b,x1,x2,x3⟩:=Bld (L:=L+1) (L':=L') m hc1 (by omega) a1 a2 (dEs []);have x1:∀z:Int,Hn (L+1) ⟨m,v,z⟩ a1=some (a,⟨m,v,bO b z⟩):=x1;refine⟨a,b,λz=>?_,?_,x3⟩
   ·simp only[D9,D6,Bf,aN,aB,Aa.cp_eq,Aa.Op,Aa.aD,Aa.N,Aa.aQ,Aa.eta,x1,Option.bind_some,beq_self_eq_true,cond_true]
   ·simp only[Kn,Cx,Cu,Cv,Cw,I9,Ci,Cx,Cu,Cv,Cw,aN,aB,Aa.cp_eq,Aa.Op,Aa.aD,Aa.N,Aa.aQ,Aa.eta,x2,Option.bind_some,beq_self_eq_true,cond_true]
  have e3:(a0 == 3)=false:=beq_false_of_ne c3;by_cases c4:22<=a0/\a0<=24
  ·have hk:=Ax0 hn (.inr c4);subst hk;have q1:=Az4 L' v.aF a1 hv (by omega);have q2:=Aob L' v.aF a1 hv (by omega);have q3:=Ah4 (L+1) v.aF a1 hc1.st hc1.fuel;generalize (Tt v.aF a1).2=p at*
   have hp:okI .i64 p:=Agk (by omega) (by omega);unfold XV ScV;have cs:a0=22\/a0=23\/a0=24:=by omega
   rcases cs with rfl|rfl|rfl
   ·simp only[D9,D6,Bf,Kn,Cx,Cu,Cv,Cw,I9,Ci,Cx,Cu,Cv,Cw,Uy,Ms,aN,aB,Aa.cp_eq,Aa.Op,Aa.aD,Aa.N,Aa.aQ,Aa.eta,hi,q1,q2,Option.bind_some,Int.reduceBEq,cond_true,cond_false];exact⟨_,false,λz=>rfl,rfl,λ_=>Ag5 h0 hp (by decide)⟩
   ·simp only[D9,D6,Bf,Kn,Cx,Cu,Cv,Cw,I9,Ci,Cx,Cu,Cv,Cw,Uy,Ms,aN,aB,Aa.cp_eq,Aa.Op,Aa.aD,Aa.N,Aa.aQ,Aa.eta,hi,q1,q2,Option.bind_some,Int.reduceBEq,cond_true,cond_false];exact⟨_,false,λz=>rfl,rfl,λ_=>Ag5 h0 hp (by decide)⟩
   ·simp only[D9,D6,Bf,Kn,Cx,Cu,Cv,Cw,I9,Ci,Cx,Cu,Cv,Cw,Uy,Ms,aN,aB,Aa.cp_eq,Aa.Op,Aa.aD,Aa.N,Aa.aQ,Aa.eta,hi,q1,q2,q3,Option.bind_some,Int.reduceBEq,cond_true,cond_false,He];cases decide (Agb v.aF a1=⟨#[113,117,101,117,101]⟩) with
    |true=>
     rw[Int.add_comm (v.aF.aI.length:Int) p];exact⟨_,false,λz=>rfl,rfl,λ_=>Ag5 h0 (Bdg _) (by decide)⟩
    |false=>exact⟨_,false,λz=>rfl,rfl,λ_=>Ag5 h0 hp (by decide)⟩
  have hnm:=A37 hn c3 c4;subst hnm;have e22:(a0 == 22)=false:=beq_false_of_ne (by omega);have e23:(a0 == 23)=false:=beq_false_of_ne (by omega);have e24:(a0 == 24)=false:=beq_false_of_ne (by omega);have hk:∀x∈a3,∃a b,XV m v (λc=>Bf L c x) (Ci L' v x) x (dEs a3) a b:=by
   intro x hx;have hd:dE x<=dEs a3:=Rt hx;have hbx:Bx x<=1048576:=by
    have e1:Ds a3<=Bx (.mk a0 ⟨#[]⟩ a2 a3):=by rw[Bx];omega
    have e2:Bx x<=Ds a3:=by
     clear ih hL hL' hb e1 hd hkc hck hn
     induction a3 with
     |nil=>cases hx
     |cons y k ihk=>
      rw[Ds];rcases List.mem_cons.1 hx with rfl|hx
      ·omega
      ·have:=ihk (by rw[List.length_cons]at h3;omega) (λy hy=>h4 y (by simp[hy])) hx;omega
    omega
   obtain⟨a,b,g1,g2,g3⟩:=ih x hx hbx L L' (hc.mono (by omega)) (by omega) (by omega) (Ajz hkc x hx);exact⟨a,b,g1,g2,λh=>let g:=g3 h;⟨g.ok,Nat.le_trans g.d hd,g.nodes,g.depth,g.nn,g.nd⟩⟩
  have hlen:a3.length<=1048576:=by
   have e1:Ds a3<=Bx (.mk a0 ⟨#[]⟩ a2 a3):=by rw[Bx];omega
   have e2:a3.length<=Ds a3:=by
    clear ih hL hL' hb e1 hk h3 h4 hkc hck hn
    induction a3 with
    |nil=>exact Nat.le_refl _
    |cons y k ihk=>
     rw[Ds,List.length_cons];have:1<=Bx y:=by cases y;rw[Bx];omega
     omega
   omega
  obtain⟨w,b,w1,w2,w3,w4⟩:=Bez (Bf L) (Ca L) (Ci L') L L' a3 (.mk a0 ⟨#[]⟩ a2 a3) m v (dEs a3) a3 hk;have hp:∀z:Int,Ca (L+1) ⟨m,v,z⟩ a3=some (w,⟨m,v,bO b z⟩):=λz=>by
   obtain⟨j,hj⟩:=w2 0 [] z (by simp only[List.length_nil];omega);simp only[S3,Hk,L9,Ca,Hk,aN,aB,Yv _ _ L a3 L (show a3.length<=maxLen by omega) (by omega),hj,Option.bind_some];rfl
  refine⟨.mk a0 ⟨#[]⟩ a2 w,b,λz=>?_,?_,λhbf=>?_⟩
  ·simp only[D9,D6,Bf,aN,aB,Aa.cp_eq,Aa.Op,Aa.aD,Aa.N,Aa.aQ,Aa.eta,hp,e3,e22,e23,e24,Option.bind_some,cond_false]
  ·obtain⟨r1,r2⟩:=w3 0 [] 0 0 0 ⟨#[]⟩ (by simp only[List.length_nil];omega);have hq:=Ait (Ci L') L' v (.mk a0 ⟨#[]⟩ a2 a3) L' (show a3.length<=maxLen by omega) (show a3.length<L' by omega) 0 0 ⟨#[]⟩ 0 [];have hq:Dk (Ci L') L' v (.mk a0 ⟨#[]⟩ a2 a3) L' 0 0 0 ⟨#[]⟩ 0 []=Ct (Ci L') L' v (.mk a0 ⟨#[]⟩ a2 a3) a3 0 0 0 ⟨#[]⟩ 0 []:=hq;simp only[Kn,Cx,Cu,Cv,Cw,I9,Ci,Cx,Cu,Cv,Cw,aN,aB,Aa.cp_eq,Aa.Op,Aa.aD,Aa.N,Aa.aQ,Aa.eta,e3,e22,e23,e24,cond_false,hq];cases b with
   |true=>
    obtain⟨j,u',hj⟩:=r1 rfl;rw[hj];rfl
   |false=>
    obtain⟨j,hj⟩:=r2 rfl;rw[hj];rfl
  ·obtain⟨g1,g2,g3,g4⟩:=w4 hbf;refine⟨.mk a0 ⟨#[]⟩ a2 w h0 h1 h2 (by omega) λy hy=>(g1 y hy).1,?_,?_,?_,.mk a0 ⟨#[]⟩ a2 w c3 (λ_=>rfl) λy hy=>(g1 y hy).2.2,by rw[ndE,ndE,g4]⟩
   ·rw[dE];have:∀l:List Aa,(∀y∈l,dE y<=dEs a3)->dEs l<=dEs a3:=λl=>by
     induction l with
     |nil=>intro _;rw[dEs];omega
     |cons y l ihl=>
      intro h;rw[dEs];have h1:=h y (by simp);have h2:=ihl λz hz=>h z (by simp[hz]);omega
    have:=this w λy hy=>(g1 y hy).2.1;omega
   ·rw[Ox,Ox,g2]
   ·rw[Lc,Lc,g3]
theorem A7h{a:Aa}(h:NN a):Yu false a=0->nmE a= []:=by
 induction h with
 |mk a0 a1 a2 a3 h h2 hk ih=>
  intro hc;obtain⟨hn,hkc⟩:=Aj0 hc;have hL:∀l:List Aa,(∀y∈l,y∈a3)->nmL l= []:=λl=>by
   induction l with
   |nil=>intro _;rw[nmL]
   |cons y l ihl=>
    intro hl;have hy:=hl y (by simp);rw[nmL,ih y hy (Ajz hkc y hy),ihl λz hz=>hl z (by simp[hz])];rfl
  rw[nmE,hL a3 λy hy=>hy];by_cases ho:22<=a0/\a0<=24
  ·exfalso;have h1:=h2 ho;subst h1;have hnm:Akn (⟨#[]⟩:Yb)≠0:=by decide
   unfold Aap at hn;split at hn
   ·cases hn
   ·split at hn
    ·rename_i h9;have h9:a0=1:=h9;omega
    ·have e1:Agh false a0=none:=by
      unfold Agh;rw[if_neg (by omega),if_neg (by omega),if_neg (by omega)];simp
     have e2:Mk false a0=true:=by
      unfold Mk Agj;rw[decide_eq_true ho.1,decide_eq_true ho.2];simp
     have e3:Agh false (Aa.mk a0 ⟨#[]⟩ a2 a3).Op=none:=e1;have e4:Mk false (Aa.mk a0 ⟨#[]⟩ a2 a3).Op=true:=e2;rw[e3,e4]at hn;simp only[if_true]at hn;split at hn
     ·cases hn
     ·exact hnm hn
  ·rw[if_neg (λh'=>h'.elim h ho)];rfl
end Go.Proofs.YtgacplpjamkieaaGreat.Ev
namespace Go.Proofs.YtgacplpjamkieaaGreat.Ev
open Go An
theorem Av8(rec:Aa->Int->Option Int)(L:Nat)(e:Aa)(hl:e.aQ.length<=maxLen)(h:∀x∈e.aQ,∀n,∃r,rec x n=some r):∀(n i:Nat) (v:Int),e.aQ.length-i<n->i<=e.aQ.length->∃o,M8 rec L e n v (i:Int)=some (0,o):=by
 have hM:=Di;intro n
 induction n with
 |zero=>intro i v h1 _;omega
 |succ n ih=>
  intro i v h1 h2;simp only[M8,Xq,aN,aB,gD,toN];by_cases hi:i<e.aQ.length
  ·rw[decide_eq_true (show(i:Int)<(e.aQ.length:Int) by omega)];simp only[cond_true];cases decide (v>=0) with
   |false=>exact⟨_,rfl⟩
   |true=>
    obtain⟨r,hr⟩:=h (e.aQ.getD i default) (by rw[Rx _ i hi];exact List.getElem_mem hi) v;simp only[cond_true];rw[ifp (by omega),ifp (by omega),Aa.cp_eq,hr,Option.bind_some,A18 (n:=(i:Int)+1) (by omega) (by omega)];exact ih (i+1) r (by omega) (by omega)
  ·rw[decide_eq_false (show¬(i:Int)<(e.aQ.length:Int) by omega)];exact⟨_,rfl⟩
theorem Awe{e:Aa}(h:Bw e):∀(L:Nat) (n:Int),maxLen+dE e<L->∃r,K4 L e n=some r:=by
 induction h with
 |mk a0 a1 a2 a3 h0 h1 h2 h3 h4 ih=>
  intro L n hL;obtain⟨L,rfl⟩:∃k,L=k+1:=⟨L-1,by omega⟩;rw[dE]at hL;obtain⟨o,ho⟩:=Av8 (K4 L) L (.mk a0 a1 a2 a3) h3 (λx hx n=>ih x hx L n (by have hd:dE x<=dEs a3:=Rt hx;omega)) L 0 (Cp (n-1)) (show a3.length-0<L by omega) (Nat.zero_le _);simp only[Anl,Sd,Afa,K4,Sd,aN,aB];rw[show(0:Int)=((0:Nat):Int)from rfl,ho];exact⟨_,rfl⟩
theorem Awd{e:Aa}(h:Bw e)(L:Nat)(hL:maxLen+dE e<L):∃b,Yx L e=some b:=by
 obtain⟨r,hr⟩:=Awe h L 60 hL;simp only[Afj,Yx,aN,aB,Aa.cp_eq,hr,Option.bind_some];exact⟨_,rfl⟩
theorem Amx(Qt:Aa->Aa->Option Bool)(Bow:(List Aa)->(List Aa)->Option Bool)(L:Nat)(l:List Aa)(hl:∀x∈l,Qt x x=some true):∀(k:List Aa) (i:Nat) (v:Bool),l.drop i=k->∃j,Gw Qt Bow L l l k i v=some (1,(v,j)):=by
 intro k
 induction k with
 |nil=>intro i v _;exact⟨i,rfl⟩
 |cons x k ih=>
  intro i v h;obtain⟨h1,h2,h3⟩:=Atx h;obtain⟨j,hj⟩:=ih (i+1) v h3;have hx:x∈l:=List.mem_of_mem_drop (by rw[h];simp);refine⟨j,?_⟩;rw[Gw,if_pos (by omega),toN,h2,hl x hx];exact hj
theorem Aoa{e:Aa}(h:Bw e):∀L,maxLen+2*dE e<L->F1 L e e=some true:=by
 induction h with
 |mk a0 a1 a2 a3 h0 h1 h2 h3 h4 ih=>
  intro L hL;have hM:=Di;obtain⟨L,rfl⟩:∃k,L=k+2:=⟨L-2,by omega⟩;rw[dE]at hL;have hr:∀x∈a3,F1 L x x=some true:=λx hx=>ih x hx L (by have:=Rt hx;omega);obtain⟨j,hj⟩:=Amx (F1 L) (F0 L) L a3 hr a3 0 false rfl;have hA:F0 (L+1) a3 a3=some true:=by
   show T6 (F1 L) (F0 L) L a3 a3=some true
   simp only[T6,Ahs,T5,Tu,aN,aB,Akf (F1 L) (F0 L) L a3 a3 L h3 (by omega),hj,Option.bind_some,A1p];simp
  show Acj (F1 (L+1)) (F0 (L+1)) (L+1) (.mk a0 a1 a2 a3) (.mk a0 a1 a2 a3)=some true
  simp only[Acj,Aic,aN,aB,Aa.cp_eq,Aa.Op,Aa.aD,Aa.N,Aa.aQ,Aa.eta,hA,Option.bind_some];simp
mutual
theorem A7e:∀x:Aa,ndE x<=Bx x
 | .mk a b c d=>by
  have:=A7f d;rw[ndE,Bx];omega
theorem A7f:∀k:List Aa,ndL k<=Ds k
 | []=>by rw[ndL];exact Nat.zero_le _
 |x::k=>by
  have h1:=A7e x;have h2:=A7f k;rw[ndL,Ds];omega
end
theorem Bdi(L:Nat)(v:Ao):∃b,Acm L v=some b:=by
 simp only[Aib,Acm,aN,aB];exact⟨_,rfl⟩
theorem Al9(v:Ao)(e:Aa)(hv:La v)(he:Bw e)(hb:Xg v+Bx e<=1048576):∃L,P2 L v e=some true:=by
 have hM:=Di;refine⟨maxLen+16777216,?_⟩;generalize hLd:maxLen+16777216=L;have hb':Xg v<=1048576:=by omega
 unfold Xg at hb';have hS:Aan v.aF 1099511627776:=(A7a v.aF).mono (by omega);have hbe:Bx e<=1048576:=by omega
 have hd:=Be4 e;have hE:EB L v:=⟨by omega,hv.2.1.1,hS.mono (by omega)⟩;obtain⟨bs,h1⟩:=Bdi L v;obtain⟨bl,h2⟩:=Awd he L (by omega);have hz:F1 L (Aa.mk 0 ⟨#[]⟩ 0 []) (Aa.mk 0 ⟨#[]⟩ 0 [])=some true:=Aoa (A27 (Agk (by decide) (by decide)) (Agk (by decide) (by decide))) L (by rw[dE,dEs];omega);have ht1:=Ar7 he v hv L (by omega);have ht2:=Ay9 he v hv hS L (by omega);simp only[P6,P2,aN,aB,Aa.cp_eq,h1,h2,Option.bind_some,Us];cases bs with
 |false=>rfl
 |true=>
  cases bl with
  |false=>rfl
  |true=>
   simp only[Bool.not_true,cond_false,Option.bind_some,Xc,W6,Aih,Ah8,aN,aB,Aa.cp_eq,ht1,ht2];by_cases ht:(Ard v e).2=0
   ·have hck:Ou false e=0:=by
     unfold Ard at ht;by_cases hc:Ou false e=0
     ·exact hc
     ·rw[if_pos hc]at ht;exact ht
    obtain⟨a,b,x1,x2,x3⟩:=Blc ⟨⟨#[]⟩,[],[],[]⟩ hS he hbe L L hE (by omega) (by omega) (Ali hck);have x1:Bf L ⟨⟨⟨#[]⟩,[],[],[]⟩,v,0⟩ e=some (a,⟨⟨⟨#[]⟩,[],[],[]⟩,v,bO b 0⟩):=x1 0;simp only[ht,bne_self_eq_false,cond_false,x1,x2,Option.bind_some];cases b with
    |true=>
     simp only[bO,cond_true,zE,show((5:Int) != 0)=true from rfl,Option.bind_some,bne_self_eq_false,cond_false,hz,Bool.not_true]
    |false=>
     have g:=x3 rfl;have hda:=g.d;have s1:=Aoa g.ok L (by omega);have s2:=Ah3 g.ok L (by omega);have s3:=k6 g.ok L (by omega);have s4:=k6 he L (by omega);have s5:=j9 g.ok L (by omega);have s6:=j9 he L (by omega);have s7:Rb L a=some []:=by
      unfold Rb;rw[s2,Option.bind_some,if_pos];refine⟨by rw[g.nd];exact Nat.le_trans (A7e e) hbe,?_⟩;by_cases hc:Ou false a=0
      ·exact .inr (A7h g.nn (Ali hc))
      ·exact .inl hc
     simp only[bO,cond_false,bne_self_eq_false,s1,s3,s4,s5,s6,s7,g.nodes,g.depth,Option.bind_some,Bool.not_true,beq_self_eq_true,cond_true,List.length_nil];rfl
   ·have hn:((Ard v e).2 != 0)=true:=ne0 ht;simp only[hn,cond_true,Option.bind_some,bne_self_eq_false,cond_false,hz,Bool.not_true]
end Go.Proofs.YtgacplpjamkieaaGreat.Ev
