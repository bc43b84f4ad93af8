/-  Chapter 18, plainly: what compile makes of names and expressions is there. -/
import Derived.Test.YtgacplpjamkieaaGreatZQA
import Derived.Test.YtgacplpjamkieaaGreatZPA
import Derived.Test.YtgacplpjamkieaaGreatZCA
set_option maxRecDepth 100000
set_option linter.unusedVariables false
set_option linter.unusedSimpArgs false
set_option linter.unnecessarySimpa false
namespace Go.Proofs.YtgacplpjamkieaaGreat.Ev
open Go An
def scE(c c':Ab):Prop:=c'.bM=c.bM/\c'.aF=c.aF
theorem scE.rfl{c:Ab} :scE c c:=⟨Eq.refl _,Eq.refl _⟩
theorem scE.trans{a b c:Ab}(h:scE a b)(h':scE b c):scE a c:=⟨h'.1.trans h.1,h'.2.trans h.2⟩
theorem Sr(m:Ag):(⟨m.aG,m.aJ,m.aD,m.bC⟩:Ag)=m:=Eq.refl _
theorem Wg(m:Ac):(⟨m.aG,m.bG,m.aM,m.aO,m.bH,m.aX,m.aR,m.aT,m.bA,m.aU,m.aA,m.aZ,m.Laws⟩:Ac)=m:=Eq.refl _
theorem Aag(m:Az):(⟨m.aJ,m.aL,m.aI⟩:Az)=m:=Eq.refl _
theorem Ss(m:Ab):(⟨m.bM,m.aF,m.aW⟩:Ab)=m:=Eq.refl _
structure EB (L:Nat) (v:Az):Prop where
 fuel:maxLen<L
 loc:v.aL.length<=maxLen
 st:Aeb v.aI maxLen
theorem EB.mono{L L':Nat}{v:Az}(h:EB L v)(hl:maxLen<L'):EB L' v:=⟨hl,h.loc,h.st⟩
theorem Avt(L:Nat)(s:Ac)(n:Yb)(h:Aeb s maxLen)(hL:maxLen<L):Aaa L s n=some (Anf s n).2:=by
 simp only[Afa,Aaa,aN,aB,Ak0 L s n h hL,Option.bind_some]
theorem Lu{L:Nat}{c:Ab}(h:EB L c.aF)(n:Yb):Db L c n=some (Anf c.aF.aI n).2:=by
 simp only[S3,Db,aN,aB,Avt L _ n h.st h.fuel,Option.bind_some]
theorem Axb(L:Nat)(c:Ab)(s:Yb)(hl:c.aF.aL.length<=maxLen):∀(j n:Nat),j<=c.aF.aL.length->j<n->∃(t:Nat) (o:Int×Int),(t=0\/t=1)/\C2 L c s n 0 ((j:Int)-1)=some (t,o):=by
 intro j
 induction j with
 |zero=>
  intro n _ hn;obtain⟨n,rfl⟩:∃k,n=k+1:=⟨n-1,by omega⟩;exact⟨1,_,.inr (Eq.refl _),by simp only[C2,D2,aN];rfl⟩
 |succ j ih=>
  intro n hj hn;obtain⟨n,rfl⟩:∃k,n=k+1:=⟨n-1,by omega⟩;have hlt:j<c.aF.aL.length:=by omega
  have e0:((j+1:Nat):Int)-1=(j:Int):=by omega
  have e1:decide ((j:Int)>=0)=true:=decide_eq_true (by omega);obtain⟨t,o,ht,hi⟩:=ih n (by omega) (by omega);cases hb:decide ((c.aF.aL.getD j default).aG=s) with
  |true=>exact⟨0,((j:Int),(j:Int)),.inl (Eq.refl _),by simp only[C2,D2,aN,gD,Ib,e0,e1,nn,Ua hlt,toN,hb,cond_true,if_true,decide_true]⟩
  |false=>exact⟨t,o,ht,by simp only[C2,D2,aN,gD,Ib,e0,e1,nn,Ua hlt,toN,hb,cond_true,cond_false,if_true,decide_true,Abd (show j<=maxLen by omega),hi]⟩
theorem Afo{L:Nat}{c:Ab}(h:EB L c.aF)(s:Yb):∃r,Du L c s=some r:=by
 have h1:=h.loc;have h2:=h.fuel;obtain⟨t,o,ht,hi⟩:=Axb L c s h1 c.aF.aL.length L (Nat.le_refl _) (by omega);simp only[O8,D3,Du,D3,aN,aB,Abd h1,hi,Option.bind_some];rcases ht with rfl|rfl
 ·exact⟨_,rfl⟩
 ·exact⟨_,rfl⟩
theorem Ad3(L:Nat)(l:List Ai)(n:Yb):∀(k:List Ai) (i:Nat) (v:Int),Dt L l n k i v=some (match k.findIdx? (λx=>x.aG.toList == n.toList) with|some j=>(0,(((i+j:Nat):Int),((i+j:Nat):Int)))|none=>(1,(v,((i+k.length:Nat):Int)))):=by
 intro k
 induction k with
 |nil=>intro i v;rfl
 |cons x k ih=>
  intro i v;rw[Dt,ih,List.findIdx?_cons];cases hc:(λx=>x.aG.toList == n.toList) x with
  |true=>simp only[hc,cond_true,if_true];rfl
  |false=>
   simp only[hc,cond_false,if_false,Bool.false_eq_true];cases k.findIdx? (λx=>x.aG.toList == n.toList) with
   |some j=>simp[Nat.add_assoc,Nat.add_comm 1]
   |none=>simp[Nat.add_assoc,Nat.add_comm 1]
theorem m7(L:Nat)(l:List Ai)(n:Yb)(hl:l.length<=maxLen)(hL:l.length<L):I0 L l n=some (P7 (l.findIdx? (λx=>decide (x.aG=n)))):=by
 simp only[I0,Te,Nj,aN,aB,Abx _ _ _ _ hl hL,Ad3,Ib,Option.bind_some];cases l.findIdx? (λx=>decide (x.aG=n)) with
 |none=>rfl
 |some i=>simp[P7,Sc]
theorem Ti{L:Nat}{c:Ab}(h:EB L c.aF)(n:Yb):Eo L c n=some (P7 (c.aF.aI.bG.findIdx? λx=>decide (x.aG=n))):=by
 have h1:=h.st.1;have h2:=h.fuel;simp only[We,I2,Eo,I2,aN,aB,m7 L _ n h1 (by omega),Option.bind_some]
theorem Axl{L:Nat}{c:Ab}(h:EB L c.aF)(n:Yb):∃r,Gw L c n=some r/\scE c r.2:=by
 obtain⟨s,hs⟩:=Afo h n;simp only[O5,Gw,aN,aB,hs,Ti h n,Option.bind_some];cases decide (s>=0)
 ·cases decide ((P7 (c.aF.aI.bG.findIdx? λx=>decide (x.aG=n)))<0)
  ·exact⟨_,rfl,.rfl⟩
  ·exact⟨_,rfl,Eq.refl _,Eq.refl _⟩
 ·exact⟨_,rfl,.rfl⟩
theorem Axr(Ayu:Ab->Aa->Option (Aa×Ab))(Bca:Ab->List Aa->Option (List Aa×Ab))(L:Nat)(a1:List Aa)(c0:Ab):
  ∀(k:List Aa) (i:Nat) (v:List Aa) (c:Ab),scE c0 c->v.length+k.length<=1099511627776->(∀x∈k,∀c',scE c0 c'->∃r,Ayu c' x=some r/\scE c' r.2)->
  ∃(w:List Aa) (j:Int) (c':Ab),w.length=v.length+k.length/\scE c c'/\Dh Ayu Bca L a1 k i v c.bM.aG c.bM.aJ c.bM.aD c.bM.bC c.aF.aJ c.aF.aL c.aF.aI.aG c.aF.aI.bG c.aF.aI.aM c.aF.aI.aO c.aF.aI.bH c.aF.aI.aX c.aF.aI.aR c.aF.aI.aT c.aF.aI.bA c.aF.aI.aU c.aF.aI.aA c.aF.aI.aZ c.aF.aI.Laws c.aW=some (0,(w,j,c'.bM.aG,c'.bM.aJ,c'.bM.aD,c'.bM.bC,c'.aF.aJ,c'.aF.aL,c'.aF.aI.aG,c'.aF.aI.bG,c'.aF.aI.aM,c'.aF.aI.aO,c'.aF.aI.bH,c'.aF.aI.aX,c'.aF.aI.aR,c'.aF.aI.aT,c'.aF.aI.bA,c'.aF.aI.aU,c'.aF.aI.aA,c'.aF.aI.aZ,c'.aF.aI.Laws,c'.aW)):=by
 have hM:=Bp;intro k
 induction k with
 |nil=>intro i v c _ _ _;exact⟨v,i,c,Eq.refl _,.rfl,rfl⟩
 |cons x k ih=>
  intro i v c hc hb h;rw[List.length_cons]at hb;obtain⟨r,hr,hr2⟩:=h x (by simp) c hc;obtain⟨w,j,c',h1,h2,h3⟩:=ih (i+1) (v++ [r.1]) r.2 (hc.trans hr2) (by simp only[List.length_append,List.length_cons,List.length_nil];omega) λy hy=>h y (by simp[hy]);refine⟨w,j,c',by simp only[List.length_append,List.length_cons,List.length_nil]at h1 ⊢;omega,hr2.trans h2,?_⟩;rw[Dh];simp only[Sr,Wg,Aag,Ss,hr,Option.bind_some,List.length_cons,List.length_nil];rw[Jh (by omega),Jh (by omega),h3]
theorem Ak1{L:Nat}{l:List Aa}{c:Ab}(hl:l.length<=1048576)(h:EB (L+1) c.aF)(hr:∀x∈l,∀c',scE c c'->∃r,Ba L c' x=some r/\scE c' r.2)(hL:maxLen<L):∃r,Bw (L+1) c l=some r/\scE c r.2:=by
 have hM:=Bp;obtain⟨w,j,c',h1,h2,h3⟩:=Axr (Ba L) (Bw L) L l c l 0 [] c .rfl (by simp only[List.length_nil];omega) hr;simp only[S2,Gd,N9,Bw,Gd,aN,aB,V6 _ _ L l L (show l.length<=maxLen by omega) (by omega),h3,Option.bind_some];exact⟨_,rfl,h2⟩
theorem Aam{e:Aa}(he:Co e)(hb:Bq e<=1048576):∀(L:Nat) (c:Ab),EB L c.aF->maxLen+2*dE e<L->∃r,Ba L c e=some r/\scE c r.2:=by
 induction he with
 |mk a0 a1 a2 a3 h0 h1 h2 h3 h4 ih=>
  intro L c hc hL;have hM:=Bp;obtain⟨L,rfl⟩:∃k,L=k+1+1:=⟨L-2,by omega⟩;rw[dE]at hL;have hk:∀x∈a3,∀c',scE c c'->∃r,Ba L c' x=some r/\scE c' r.2:=by
   intro x hx c' hc';have:=Ah9 hx;have hbx:Bq x<=1048576:=by
    have e1:Dr a3<=Bq (.mk a0 a1 a2 a3):=by rw[Bq];omega
    have e2:Bq x<=Dr a3:=by
     clear ih hL hb e1 this
     induction a3 with
     |nil=>cases hx
     |cons y k ihk=>
      rw[Dr];rcases List.mem_cons.1 hx with rfl|hx
      ·omega
      ·have:=ihk (by rw[List.length_cons]at h3;omega) (λy hy=>h4 y (by simp[hy])) hx;omega
    omega
   exact ih x hx hbx L c' (by rw[hc'.2];exact hc.mono (by omega)) (by omega)
  have hlen:a3.length<=1048576:=by
   have e1:Dr a3<=Bq (.mk a0 a1 a2 a3):=by rw[Bq];omega
   have e2:a3.length<=Dr a3:=by
    clear ih hL hb e1 hk h3 h4
    induction a3 with
    |nil=>exact Nat.le_refl _
    |cons y k ihk=>
     rw[Dr,List.length_cons];have:1<=Bq y:=by cases y;rw[Bq];omega
     omega
   omega
  have hc1:EB (L+1) c.aF:=hc.mono (by omega);obtain⟨rx,hx,hx2⟩:=Ak1 hlen hc1 hk (by omega);obtain⟨rn,hn,hn2⟩:=Axl hc1 a1;simp only[O4,Ox,Ba,aN,aB,Aa.cp_eq,Aa.Op,Aa.aG,Aa.N,Aa.bJ,Aa.eta,hn,hx,Lu hc1,Aak (L+1) _ a1 hc1.st hc1.fuel,Option.bind_some,Ib];cases (a0 == 3)
  ·cases (a0 == 22)
   ·cases (a0 == 23)
    ·cases (a0 == 24)
     ·exact⟨_,rfl,hx2⟩
     ·cases decide (Ago c.aF.aI a1=⟨#[113,117,101,117,101]⟩)
      ·exact⟨_,rfl,.rfl⟩
      ·exact⟨_,rfl,.rfl⟩
    ·exact⟨_,rfl,.rfl⟩
   ·exact⟨_,rfl,.rfl⟩
  ·exact⟨_,rfl,hn2⟩
end Go.Proofs.YtgacplpjamkieaaGreat.Ev
namespace Go.Proofs.YtgacplpjamkieaaGreat.Ev
open Go An
def more(a:Int)(j:List Ad):Nat:=bif a == 4 || (a == 3 && decide (0<j.length))then 1 else 0
mutual
def whS:Ad->Nat
 | .mk a b c d e f g h i j=>more a j+Qa i+Qa j
def Qa:List Ad->Nat
 | []=>0
 |x::k=>whS x+Qa k
end
theorem A6j(s:Ad):whS s=more s.Op s.aY+Qa s.aK+Qa s.aY:=by cases s;rw[whS];simp only[Ad.cp_eq,Ad.eta,Ad.Op,Ad.aG,Ad.Of,Ad.E,Ad.F,Ad.aS,Ad.bR,Ad.bZ,Ad.aK,Ad.aY]
theorem Bhb(a:Int)(j:List Ad):more a j<=1:=by unfold more;cases (a == 4 || (a == 3 && decide (0<j.length)))<;>simp
mutual
theorem Bp5:∀s:Ad,whS s<=ctS s
 | .mk a b c d e f g h i j=>by
  have h1:=Apw i;have h2:=Apw j;have h3:=Bhb a j;rw[whS,ctS];omega
theorem Apw:∀k:List Ad,Qa k<=Gq k
 | []=>Nat.le_refl _
 |x::k=>by
  have h1:=Bp5 x;have h2:=Apw k;rw[Qa,Gq];omega
end
def N8(l:List Ad):Nat:=Gq l+Qa l
def szS(s:Ad):Nat:=ctS s+whS s
theorem Ak6(s:Ad):szS s=1+more s.Op s.aY+N8 s.aK+N8 s.aY:=by unfold szS N8;rw[Aus,A6j];omega
theorem Ac4(x:Ad)(k:List Ad):N8 (x::k)=szS x+N8 k:=by unfold szS N8;rw[Gq,Qa];omega
theorem Zg(k:List Ad):N8 k<=2*Cv k:=by
 have h1:=Apw k;have h2:=Ale k;unfold N8;omega
theorem Av5(rec:List Ad->Option Int)(L:Nat)(a0:List Ad):∀(k:List Ad) (i:Nat) (v:Nat),i+k.length<=a0.length->v+Qa k<=2097152->(∀x∈k,rec x.aK=some (Qa x.aK:Int)/\rec x.aY=some (Qa x.aY:Int))->∃j,Ii rec L a0 k i (v:Int)=some (0,(((v+Qa k:Nat):Int),j)):=by
 intro k
 induction k with
 |nil=>intro i v _ _ _;exact⟨i,by rw[Ii,Qa];rfl⟩
 |cons x k ih=>
  intro i v hi hb h;rw[List.length_cons]at hi;rw[Qa,A6j]at hb;obtain⟨h1,h2⟩:=h x (by simp);obtain⟨j,hj⟩:=ih (i+1) (v+more x.Op x.aY+Qa x.aK+Qa x.aY) (by omega) (by omega) λy hy=>h y (by simp[hy]);refine⟨j,?_⟩;rw[Ii,h1,h2,Qa,A6j];have e:(bif (x.Op == 4) then(some true) else(if((0:Int)<=(i:Int)) then(if((i:Int)<((a0.length:Nat):Int)) then(bif (x.Op == 3) then(if((0:Int)<=(i:Int)) then(if((i:Int)<((a0.length:Nat):Int)) then(some (decide (((x.aY).length:Int)>0)))else none)else none) else(some false))else none)else none))=some (x.Op == 4 || (x.Op == 3 && decide (0<x.aY.length))):=by
   rw[Jh (by omega),Jh (by omega),Jh (by omega),Jh (by omega)];have e1:decide ((x.aY.length:Int)>0)=decide (0<x.aY.length):=decide_eq_decide.2 (by omega);rw[e1];cases (x.Op == 4)<;>cases (x.Op == 3)<;>rfl
  rw[e];simp only[Option.bind_some];unfold more at hj hb ⊢;cases hq:(x.Op == 4 || (x.Op == 3 && decide (0<x.aY.length)))
  ·simp only[hq,cond_false]at hj hb ⊢;rw[Iu (n:=(v:Int)+(Qa x.aK:Int)) (by omega) (by omega),Iu (by omega) (by omega)];rw[show(v:Int)+(Qa x.aK:Int)+(Qa x.aY:Int)=((v+0+Qa x.aK+Qa x.aY:Nat):Int) by omega,hj]
   congr 3
   omega
  ·simp only[hq,cond_true]at hj hb ⊢;rw[Iu (n:=(v:Int)+1) (by omega) (by omega),Iu (n:=(v:Int)+1+(Qa x.aK:Int)) (by omega) (by omega),Iu (by omega) (by omega)];rw[show(v:Int)+1+(Qa x.aK:Int)+(Qa x.aY:Int)=((v+1+Qa x.aK+Qa x.aY:Nat):Int) by omega,hj]
   congr 3
   omega
theorem Axe{l:List Ad}(hl:∀y∈l,B3 y):∀L,Fu L l->Na L l=some (Qa l:Int):=by
 refine Zf (M:=λl=>∀L,Fu L l->Na L l=some (Qa l:Int)) ?_ hl;intro l ih L hF;obtain⟨L,rfl⟩:=hF.pos;obtain⟨n1,n2,n3⟩:=hF.len;have hb:=hF.2;have h1:=Apw l;have h2:=Ale l;obtain⟨j,hj⟩:=Av5 (Na L) L l l 0 0 (by omega) (by omega) λx hx=>⟨(ih x hx).2.1 L (hF.kid hx).1,(ih x hx).2.2 L (hF.kid hx).2⟩;rw[Nat.zero_add]at hj;simp only[Anv,W6,Ahp,Na,W6,aN,aB,Aqw _ L l L n1 n2];rw[show(0:Int)=((0:Nat):Int)from rfl,hj];rfl
theorem Apf(L:Nat)(a1:Int)(a0:List Ae):∀(k:List Ae) (i:Nat) (v:List Ae),i+k.length<=a0.length->∃j w,Eu L a1 a0 k i v=some (0,(j,w))/\w.length=v.length:=by
 intro k
 induction k with
 |nil=>intro i v _;exact⟨_,_,rfl,rfl⟩
 |cons x k ih=>
  intro i v hi;rw[List.length_cons]at hi;rw[Eu,Jh (by omega),Jh (by omega)];have e:(bif ((v.getD (Int.toNat (i:Int)) default).Op == 4)then some true else some ((v.getD (Int.toNat (i:Int)) default).Op == 5))=some ((v.getD (Int.toNat (i:Int)) default).Op == 4 || (v.getD (Int.toNat (i:Int)) default).Op == 5):=by
   cases ((v.getD (Int.toNat (i:Int)) default).Op == 4)<;>rfl
  rw[e,Option.bind_some];cases ((v.getD (Int.toNat (i:Int)) default).Op == 4 || (v.getD (Int.toNat (i:Int)) default).Op == 5)
  ·exact ih (i+1) v (by omega)
  ·obtain⟨j,w,h1,h2⟩:=ih (i+1) (v.set (Int.toNat (i:Int)) (⟨(v.getD (Int.toNat (i:Int)) default).Op,(Bb ((v.getD (Int.toNat (i:Int)) default).A+a1)),(v.getD (Int.toNat (i:Int)) default).B,(v.getD (Int.toNat (i:Int)) default).C,((v.getD (Int.toNat (i:Int)) default).E),((v.getD (Int.toNat (i:Int)) default).F),(v.getD (Int.toNat (i:Int)) default).aS,((v.getD (Int.toNat (i:Int)) default).bR),(v.getD (Int.toNat (i:Int)) default).bZ⟩:Ae)) (by omega);exact⟨j,w,h1,by rw[h2,List.length_set]⟩
theorem m6(L:Nat)(a:List Ae)(n:Int)(ha:a.length<=8388608)(hL:maxLen<L):∃w,F2 L a n=some w/\w.length=a.length:=by
 have hM:=Bp;obtain⟨j,w,h1,h2⟩:=Apf L n a a 0 a (by omega);obtain⟨k,rfl⟩:∃k,L=k+1:=⟨L-1,by omega⟩;cases hz:Nat.beq a.length 0 with
 |true=>
  have h0:a.length=0:=Nat.eq_of_beq_eq_true hz;refine⟨[],?_,by rw[h0];rfl⟩;simp only[Sk,E9,E6,E7,E8,F2,E9,E6,E7,E8,aN,aB,hz,cond_true,Km,R4];rfl
 |false=>
  have h0:a.length≠0:=λh=>by rw[h]at hz;cases hz
  refine⟨w,?_,h2⟩;simp only[Sk,E9,E6,E7,E8,F2,E9,E6,E7,E8,aN,aB,hz,cond_false,Ace (k+1) n a (k+1) (show a.length<=maxLen by omega) (by omega),h1,Option.bind_some];rw[Jh (by omega),Jh (by omega),Jh (by omega)];rfl
end Go.Proofs.YtgacplpjamkieaaGreat.Ev
namespace Go.Proofs.YtgacplpjamkieaaGreat.Ev
open Go An
theorem MB.eb{L L':Nat}{m:Ag}{v:Az}(h:MB L m v)(hl:maxLen<L'):EB L' v:=⟨hl,h.ev.2.1.1,h.st.max⟩
theorem fuM{L:Nat}(h:9223372036858970110<L):maxLen<L:=by rw[Bp];omega
theorem fuE{L d:Nat}(h:9223372036858970110<L)(hd:d<=1048577):maxLen+2*d<L:=by rw[Bp];omega
structure SC (L:Nat) (s:Ad):Prop where
 fuel:9223372036858970111<L
 ok:B3 s
 bk:F0 s<=1048576
theorem SC.bs{L:Nat}{s:Ad}(h:SC L s):Bq s.E<=1048576/\Bq s.F<=1048576/\s.aS.length<=1048576/\(∀y∈s.aS,Bq y<=1048576):=by
 have h1:=h.bk;rw[<-Abi]at h1;have h5:=A15 s.aS;refine⟨by omega,by omega,by omega,λy hy=>?_⟩;have h7:Bq y<=Ic Bq s.aS:=Ad5 hy;omega
theorem SC.expr{L:Nat}{s:Ad}(h:SC L s){c:Ab}(hc:EB L c.aF):(∃r,Ba L c s.E=some r/\scE c r.2)/\(∃r,Ba L c s.F=some r/\scE c r.2)/\(∃r,Bw L c s.aS=some r/\scE c r.2):=by
 obtain⟨b1,b2,b3,b4⟩:=h.bs;obtain⟨_,_,o3,o4,o5,_⟩:=A5f h.ok;have hf:=h.fuel;have d1:=Af2 s.E;have d2:=Af2 s.F;obtain⟨L,rfl⟩:∃k,L=k+1:=⟨L-1,by omega⟩;refine⟨Aam o3 b1 _ c hc (fuE (by omega) (by omega)),Aam o4 b2 _ c hc (fuE (by omega) (by omega)),Ak1 b3 hc (λx hx c' hc'=>?_) (fuM (by omega))⟩;have d3:=Af2 x;have d4:=b4 x hx;exact Aam (o5 x hx) d4 L c' (by rw[hc'.2];exact hc.mono (fuM (by omega))) (fuE (by omega) (by omega))
theorem A3t{m:Ag}{n:Yb}(h:m.aD.find? (λx=>decide (x.aG=n))≠none):(0:Int)<=Ajd m n/\Ajd m n<((m.aD.length:Nat):Int):=by
 unfold Ajd;cases hf:m.aD.findIdx? (λx=>decide (x.aG=n)) with
 |none=>
  exfalso;apply h;rw[List.findIdx?_eq_none_iff]at hf;rw[List.find?_eq_none];intro x hx;simpa using hf x hx
 |some i=>
  rw[List.findIdx?_eq_some_iff_getElem]at hf;obtain⟨h1,_⟩:=hf;show(0:Int)<=(i:Int)/\(i:Int)<((m.aD.length:Nat):Int)
  exact⟨by omega,by omega⟩
theorem Axm{L:Nat}{c:Ab}{s:Ad}(hs:SC L s)(hm:MB (maxLen+1) c.bM c.aF)(ht:Apm c.bM c.aF s=0):∃r,Gx L c s=some r/\scE c r.2:=by
 have hf:=hs.fuel;have hM:=Bp;have hc:EB L c.aF:=hm.eb (fuM (by omega));obtain⟨⟨re,e1,e2⟩,_,_⟩:=hs.expr hc;obtain⟨_,_,ra,a1,a2⟩:=hs.expr (c:=re.2) (by rw[e2.2];exact hc);have hS:c.bM.aD.length<=maxLen:=by have:=hm.sites;omega
 have hK:c.bM.bC.length<=maxLen:=by have:=hm.links;omega
 have hne:c.bM.aD.find? (λx=>decide (x.aG=s.Of))≠none:=by
  intro h;unfold Apm at ht;rw[h]at ht;have h5:(5:Int)=0:=ht;omega
 obtain⟨q1,q2⟩:=A3t hne;have hd:c.bM.aD.getD (Ajd c.bM s.Of).toNat default∈c.bM.aD:=by
  rw[Hj _ _ (show(Ajd c.bM s.Of).toNat<c.bM.aD.length by omega)];exact List.getElem_mem _
 have hr:=(hm.each _ hd).max.2.2.2.2.2.2.2.2.2;simp only[O7,Gx,aN,aB,gD,Aal L _ s.Of hS hc.fuel,Afm L _ _ s.Of hK hc.fuel,Option.bind_some];rw[Jh q1,Jh q2];simp only[Hk L _ s.aG hr (by have:=hc.fuel;omega),Aa.cp_eq,e1,a1,Option.bind_some];exact⟨_,rfl,e2.trans a2⟩
theorem Atj{L:Nat}{c:Ab}{s:Ad}(hs:SC (L+1) s)(hm:MB (maxLen+1) c.bM c.aF)(ho:s.Op=3\/s.Op=4/\s.aY= [])
  (hB:∀c',scE c c'->∃r,Au L c' s.aK=some r/\r.1.length=N8 s.aK/\scE c' r.2)
  (hE:∀c',scE c c'->∃r,Au L c' s.aY=some r/\r.1.length=N8 s.aY/\scE c' r.2):
  ∃r,Bo (L+1) c s=some r/\r.1.length=szS s/\scE c r.2:=by
 have hf:=hs.fuel;have hM:=Bp;have hc:EB L c.aF:=hm.eb (fuM (by omega));have hbk:=hs.bk;have hbs:=Abi s;have z1:=Zg s.aK;have z2:=Zg s.aY;obtain⟨o1,o2,o3,o4,o5,o6,_,_⟩:=A5f hs.ok;have d1:=Af2 s.E;obtain⟨re,e1,e2⟩:=Aam o3 (by omega) L c hc (fuE (by omega) (by omega));obtain⟨rb,b1,b2,b3⟩:=hB re.2 e2;obtain⟨rl,l1,l2,l3⟩:=hE rb.2 (e2.trans b3);obtain⟨mb,m1,m2⟩:=m6 L rb.1 1 (by omega) (fuM (by omega));simp only[Hh,Hg,Bo,aN,aB,Aa.cp_eq,e1,b1,m1,Option.bind_some,List.length_cons,List.length_nil];rw[Jh (by omega),Jh (by omega)];rcases ho with h3|⟨h4,hn⟩
 ·rw[show(s.Op == 4)=false by rw[h3];rfl,cond_false];by_cases hz:s.aY.length=0
  ·have hz':((s.aY.length:Int) == 0)=true:=by rw[hz];rfl
   have hz2:s.aY= []:=List.length_eq_zero_iff.1 hz;simp only[l1,Option.bind_some,hz',cond_true,List.length_append,List.length_cons,List.length_nil];rw[Jh (by omega),Jh (by omega)];refine⟨_,rfl,?_,(e2.trans b3).trans l3⟩;simp only[List.length_set,List.length_append,List.length_cons,List.length_nil];rw[Ak6,m2,b2,hz2,h3];have:N8 ([]:List Ad)=0:=by unfold N8;rw[Gq,Qa]
   rw[this];have:more 3 ([]:List Ad)=0:=by decide
   omega
  ·have hz':((s.aY.length:Int) == 0)=false:=beq_false_of_ne (by omega);simp only[l1,Option.bind_some,hz',cond_false,List.length_append,List.length_cons,List.length_nil];rw[Jh (by omega),Jh (by omega),Jh (by omega),Jh (by omega)];obtain⟨ml,n1,n2⟩:=m6 L rl.1 (Bb (((0+1+mb.length:Nat):Int)+1)) (by omega) (fuM (by omega));simp only[n1,Option.bind_some,List.length_set,List.length_append,List.length_cons,List.length_nil];rw[Jh (by omega),Jh (by omega)];refine⟨_,rfl,?_,(e2.trans b3).trans l3⟩;simp only[List.length_set,List.length_append,List.length_cons,List.length_nil];rw[Ak6,m2,b2,n2,l2,h3];have:more 3 s.aY=1:=by
    unfold more;rw[decide_eq_true (show 0<s.aY.length by omega)];rfl
   omega
 ·rw[show(s.Op == 4)=true by rw[h4];rfl,cond_true];simp only[List.length_append,List.length_cons,List.length_nil];rw[Jh (by omega),Jh (by omega),Jh (by omega),Jh (by omega)];refine⟨_,rfl,?_,e2.trans b3⟩;simp only[List.length_set,List.length_append,List.length_cons,List.length_nil];rw[Ak6,m2,b2,hn,h4];have:N8 ([]:List Ad)=0:=by unfold N8;rw[Gq,Qa]
  rw[this];have:more 4 ([]:List Ad)=1:=by decide
  omega
end Go.Proofs.YtgacplpjamkieaaGreat.Ev
namespace Go.Proofs.YtgacplpjamkieaaGreat.Ev
open Go An
theorem Axn{L:Nat}{c:Ab}{s:Ad}(hs:SC L s)(hm:MB (maxLen+1) c.bM c.aF)
  (hch:s.Op=3\/s.Op=4->∃r,Bo L c s=some r/\r.1.length=szS s/\scE c r.2)
  (hz:s.Op≠3->s.Op≠4->szS s=1)(h13:s.Op=13->Apm c.bM c.aF s=0):
  ∃r,Bd (L+1) c s=some r/\r.1.length=szS s/\scE c r.2:=by
 have hf:=hs.fuel;have hc:EB L c.aF:=hm.eb (fuM (by omega));obtain⟨⟨re,e1,e2⟩,⟨rf,f1,f2⟩,_⟩:=hs.expr hc;obtain⟨_,_,ra,a1,a2⟩:=hs.expr (c:=re.2) (by rw[e2.2];exact hc);obtain⟨⟨rg,g1,g2⟩,_,_⟩:=hs.expr (c:=rf.2) (by rw[f2.2];exact hc);obtain⟨s1,t1⟩:=Afo hc s.aG;obtain⟨s2,t2⟩:=Afo hc s.Of;have hr:=hc.st.2.2.2.2.2.2.2.2.2;have hM:=hc.fuel;by_cases hx:s.Op=3\/s.Op=4
 ·obtain⟨r,c1,c2,c3⟩:=hch hx;simp only[Bm,sx_compile_scope_stmt_3,Bn,sx_compile_scope_stmt_2,Be,sx_compile_scope_stmt_0,Di,C8,Bd,sx_compile_scope_stmt_0,Be,sx_compile_scope_stmt_2,aN,aB,Ad.cp_eq,Lu hc,c1,Option.bind_some];rcases hx with h|h
  ·exact⟨r,by rw[h];rfl,c2,c3⟩
  ·exact⟨r,by rw[h];rfl,c2,c3⟩
 ·have hz1:=hz (λh=>hx (.inl h)) (λh=>hx (.inr h));rw[hz1];by_cases hy:s.Op=13
  ·obtain⟨r,c1,c2⟩:=Axm hs hm (h13 hy);simp only[Bm,sx_compile_scope_stmt_3,Bn,sx_compile_scope_stmt_2,Be,sx_compile_scope_stmt_0,Di,C8,Bd,sx_compile_scope_stmt_0,Be,sx_compile_scope_stmt_2,Bn,sx_compile_scope_stmt_3,aN,aB,Ad.cp_eq,Lu hc,c1,Option.bind_some,hy,Int.reduceBEq,cond_true,cond_false];exact⟨_,rfl,rfl,c2⟩
  ·rcases Apr s.Op with h|h|h|h|h|h|h|h|h|h|h|h|h|h|h|h|h|h|h|h
   case inr.inr.inl=>exact absurd (.inl h) hx
   case inr.inr.inr.inl=>exact absurd (.inr h) hx
   case inr.inr.inr.inr.inr.inr.inr.inr.inr.inr.inr.inr.inl=>exact absurd h hy
   case inr.inr.inr.inr.inr.inr.inr.inr.inr.inr.inr.inr.inr.inr.inr.inr.inr.inr.inl=>
    have h':s.Op<1\/18<s.Op:=.inl h;simp only[Bm,sx_compile_scope_stmt_3,Bn,sx_compile_scope_stmt_2,Be,sx_compile_scope_stmt_0,Di,C8,Bd,sx_compile_scope_stmt_0,Bm,Be,sx_compile_scope_stmt_2,Bn,sx_compile_scope_stmt_3,aN,aB,Ad.cp_eq,Aa.cp_eq,Lu hc,e1,Option.bind_some,Sr,Wg,Aag,Ss,cond_false,A9 h' 1 (by decide) (by decide),A9 h' 2 (by decide) (by decide),A9 h' 3 (by decide) (by decide),A9 h' 4 (by decide) (by decide),A9 h' 5 (by decide) (by decide),A9 h' 6 (by decide) (by decide),A9 h' 7 (by decide) (by decide),A9 h' 8 (by decide) (by decide),A9 h' 9 (by decide) (by decide),A9 h' 10 (by decide) (by decide),A9 h' 11 (by decide) (by decide),A9 h' 12 (by decide) (by decide),A9 h' 13 (by decide) (by decide),A9 h' 14 (by decide) (by decide),A9 h' 15 (by decide) (by decide),A9 h' 16 (by decide) (by decide),A9 h' 17 (by decide) (by decide),A9 h' 18 (by decide) (by decide)];exact⟨_,rfl,rfl,e2⟩
   case inr.inr.inr.inr.inr.inr.inr.inr.inr.inr.inr.inr.inr.inr.inr.inr.inr.inr.inr=>
    have h':s.Op<1\/18<s.Op:=.inr h;simp only[Bm,sx_compile_scope_stmt_3,Bn,sx_compile_scope_stmt_2,Be,sx_compile_scope_stmt_0,Di,C8,Bd,sx_compile_scope_stmt_0,Bm,Be,sx_compile_scope_stmt_2,Bn,sx_compile_scope_stmt_3,aN,aB,Ad.cp_eq,Aa.cp_eq,Lu hc,e1,Option.bind_some,Sr,Wg,Aag,Ss,cond_false,A9 h' 1 (by decide) (by decide),A9 h' 2 (by decide) (by decide),A9 h' 3 (by decide) (by decide),A9 h' 4 (by decide) (by decide),A9 h' 5 (by decide) (by decide),A9 h' 6 (by decide) (by decide),A9 h' 7 (by decide) (by decide),A9 h' 8 (by decide) (by decide),A9 h' 9 (by decide) (by decide),A9 h' 10 (by decide) (by decide),A9 h' 11 (by decide) (by decide),A9 h' 12 (by decide) (by decide),A9 h' 13 (by decide) (by decide),A9 h' 14 (by decide) (by decide),A9 h' 15 (by decide) (by decide),A9 h' 16 (by decide) (by decide),A9 h' 17 (by decide) (by decide),A9 h' 18 (by decide) (by decide)];exact⟨_,rfl,rfl,e2⟩
   all_goals
    simp only[Bm,sx_compile_scope_stmt_3,Bn,sx_compile_scope_stmt_2,Be,sx_compile_scope_stmt_0,Di,C8,Bd,sx_compile_scope_stmt_0,Bm,Be,sx_compile_scope_stmt_2,Bn,sx_compile_scope_stmt_3,aN,aB,Ad.cp_eq,Aa.cp_eq,Lu hc,Ti hc,Hk L _ s.aG hr (Nat.lt_of_le_of_lt hr hM),e1,f1,g1,a1,t1,t2,Option.bind_some,h,Int.reduceBEq,cond_true,cond_false,Sr,Wg,Aag,Ss]
   all_goals first
    |exact⟨_,rfl,rfl,.rfl⟩
    |exact⟨_,rfl,rfl,e2⟩
    |exact⟨_,rfl,rfl,e2.trans a2⟩
    |exact⟨_,rfl,rfl,f2.trans g2⟩
    |(cases decide (s1<0);exact⟨_,rfl,rfl,e2⟩;exact⟨_,rfl,rfl,e2⟩)
theorem A0v(D6:Ab->List Ad->Option (List Ae×Ab))(Zz:Ab->Ad->Option (List Ae×Ab))(m8:Ab->Ad->Option (List Ae×Ab))(L:Nat)(hL:maxLen<L)(a1:List Ad)(c0:Ab):
  ∀(k:List Ad) (i:Nat) (v:List Ae) (c:Ab),scE c0 c->v.length+N8 k<=4194304->(∀x∈k,∀c',scE c0 c'->∃r,Zz c' x=some r/\r.1.length=szS x/\scE c' r.2)->
  ∃(w:List Ae) (j:Int) (c':Ab),w.length=v.length+N8 k/\scE c c'/\Da D6 Zz m8 L a1 k i v c.bM.aG c.bM.aJ c.bM.aD c.bM.bC c.aF.aJ c.aF.aL c.aF.aI.aG c.aF.aI.bG c.aF.aI.aM c.aF.aI.aO c.aF.aI.bH c.aF.aI.aX c.aF.aI.aR c.aF.aI.aT c.aF.aI.bA c.aF.aI.aU c.aF.aI.aA c.aF.aI.aZ c.aF.aI.Laws c.aW=some (0,(w,j,c'.bM.aG,c'.bM.aJ,c'.bM.aD,c'.bM.bC,c'.aF.aJ,c'.aF.aL,c'.aF.aI.aG,c'.aF.aI.bG,c'.aF.aI.aM,c'.aF.aI.aO,c'.aF.aI.bH,c'.aF.aI.aX,c'.aF.aI.aR,c'.aF.aI.aT,c'.aF.aI.bA,c'.aF.aI.aU,c'.aF.aI.aA,c'.aF.aI.aZ,c'.aF.aI.Laws,c'.aW)):=by
 have hM:=Bp;intro k
 induction k with
 |nil=>intro i v c _ _ _;exact⟨v,i,c,by unfold N8;rw[Gq,Qa];omega,.rfl,rfl⟩
 |cons x k ih=>
  intro i v c hc hb h;rw[Ac4]at hb;obtain⟨r,hr,hr1,hr2⟩:=h x (by simp) c hc;obtain⟨m,m1,m2⟩:=m6 L r.1 (v.length:Int) (by omega) hL;obtain⟨w,j,c',h1,h2,h3⟩:=ih (i+1) (v++m) r.2 (hc.trans hr2) (by simp only[List.length_append];omega) λy hy=>h y (by simp[hy]);refine⟨w,j,c',by rw[Ac4];simp only[List.length_append]at h1 ⊢;omega,hr2.trans h2,?_⟩;rw[Da];simp only[Sr,Wg,Aag,Ss,hr,m1,Option.bind_some];rw[Jh (by omega),Jh (by omega),h3]
theorem Ax3{x:Ad}{l:List Ad}(h:H9 l=0)(hx:x∈l):Atm x=0/\H9 x.aK=0/\H9 x.aY=0:=by
 induction l with
 |nil=>cases hx
 |cons y k ih=>
  rw[H9]at h;by_cases h0:A8h y=0
  ·rw[if_neg (by simp[h0])]at h;rcases List.mem_cons.1 hx with rfl|hx
   ·rw[A6r]at h0;by_cases h1:Atm x=0
    ·rw[if_neg (by simp[h1])]at h0;by_cases h2:H9 x.aK=0
     ·rw[if_neg (by simp[h2])]at h0;exact⟨h1,h2,h0⟩
     ·rw[if_pos h2]at h0;exact absurd h0 h2
    ·rw[if_pos h1]at h0;exact absurd h0 h1
   ·exact ih h hx
  ·rw[if_pos h0]at h;exact absurd h h0
theorem A36{m:Ag}{v:Az}{x:Ad}{l:List Ad}(h:P9 m v l=0)(hx:x∈l):Av1 m v x=0/\P9 m v x.aK=0/\P9 m v x.aY=0:=by
 induction l with
 |nil=>cases hx
 |cons y k ih=>
  rw[P9]at h;by_cases h0:tyS m v y=0
  ·rw[if_neg (by simp[h0])]at h;rcases List.mem_cons.1 hx with rfl|hx
   ·rw[Bc8]at h0;by_cases h1:Av1 m v x=0
    ·rw[if_neg (by simp[h1])]at h0;by_cases h2:P9 m v x.aK=0
     ·rw[if_neg (by simp[h2])]at h0;exact⟨h1,h2,h0⟩
     ·rw[if_pos h2]at h0;exact absurd h0 h2
    ·rw[if_pos h1]at h0;exact absurd h0 h1
   ·exact ih h hx
  ·rw[if_pos h0]at h;exact absurd h h0
theorem A38{s:Ad}(h:Atm s=0):(s.Op≠3->s.Op≠4->s.aK= []/\s.aY= [])/\(s.Op=4->s.aY= []):=by
 unfold Atm at h;cases h1:(Ajm s.Op).2 with
 |false=>rw[h1]at h;have h':(1:Int)=0:=h;omega
 |true=>
  cases h2:Asp s (Ajm s.Op).1 with
  |false=>rw[h1,h2]at h;have h':(1:Int)=0:=h;omega
  |true=>
   have hb:(Ajm s.Op).1.dV=false->s.aK= []:=λe=>by
    unfold Asp at h2;simp only[e,Bool.false_or,Bool.and_eq_true,decide_eq_true_eq]at h2;exact List.length_eq_zero_iff.1 h2.1.2
   have he:(Ajm s.Op).1.dO=false->s.aY= []:=λe=>by
    unfold Asp at h2;simp only[e,Bool.false_or,Bool.and_eq_true,decide_eq_true_eq]at h2;exact List.length_eq_zero_iff.1 h2.2
   refine⟨λn3 n4=>⟨hb ?_,he ?_⟩,λe4=>he ?_⟩
   ·unfold Ajm
    repeat' split
    all_goals first|rfl|(exfalso;omega)
   ·unfold Ajm
    repeat' split
    all_goals first|rfl|(exfalso;omega)
   ·rw[e4];decide
theorem Ajc{L:Nat}{l:List Ad}{c c':Ab}{w:List Ae}{j:Int}(n1:l.length<=maxLen)(n2:l.length<L)(h:Da (Au L) (Bd L) (Bo L) L l l 0 [] c.bM.aG c.bM.aJ c.bM.aD c.bM.bC c.aF.aJ c.aF.aL c.aF.aI.aG c.aF.aI.bG c.aF.aI.aM c.aF.aI.aO c.aF.aI.bH c.aF.aI.aX c.aF.aI.aR c.aF.aI.aT c.aF.aI.bA c.aF.aI.aU c.aF.aI.aA c.aF.aI.aZ c.aF.aI.Laws c.aW=some (0,(w,j,c'.bM.aG,c'.bM.aJ,c'.bM.aD,c'.bM.bC,c'.aF.aJ,c'.aF.aL,c'.aF.aI.aG,c'.aF.aI.bG,c'.aF.aI.aM,c'.aF.aI.aO,c'.aF.aI.bH,c'.aF.aI.aX,c'.aF.aI.aR,c'.aF.aI.aT,c'.aF.aI.bA,c'.aF.aI.aU,c'.aF.aI.aA,c'.aF.aI.aZ,c'.aF.aI.Laws,c'.aW))):Au (L+1) c l=some (w,c'):=by
 simp only[Aat,L8,T1,Au,L8,aN,aB,Afi _ _ _ L l L n1 n2,h,Option.bind_some];rfl
def Fc(L:Nat)(l:List Ad):Prop:=9223372036858970111+3*dSs l<L/\Cv l<=1048576
theorem Axk{m:Ag}{v:Az}(hm:MB (maxLen+1) m v){l:List Ad}(hl:∀y∈l,B3 y):∀(L:Nat) (c:Ab),c.bM=m->c.aF=v->Fc L l->H9 l=0->P9 m v l=0->∃r,Au L c l=some r/\r.1.length=N8 l/\scE c r.2:=by
 refine Zf (M:=λl=>∀(L:Nat) (c:Ab),c.bM=m->c.aF=v->Fc L l->H9 l=0->P9 m v l=0->∃r,Au L c l=some r/\r.1.length=N8 l/\scE c r.2) ?_ hl;intro l ih L c hcm hcv hF hch hty;obtain⟨f1,f2⟩:=hF;have hlen:=Adk l;have hsz:=Zg l;obtain⟨L,rfl⟩:∃k,L=k+1+1+1:=⟨L-3,by omega⟩;have hone:∀x∈l,∀c',scE c c'->∃r,Bd (L+1+1) c' x=some r/\r.1.length=szS x/\scE c' r.2:=by
  intro x hx c' hc';have d1:=Alf hx;have d2:=Afy hx;have d3:=Abi x;obtain⟨ox,ib,ie⟩:=ih x hx;obtain⟨k1,k2,k3⟩:=Ax3 hch hx;obtain⟨t1,t2,t3⟩:=A36 hty hx;obtain⟨u1,u2⟩:=A38 k1;have hsc:SC (L+1) x:=⟨by omega,ox,by omega⟩;have em:c'.bM=m:=hc'.1.trans hcm;have ev:c'.aF=v:=hc'.2.trans hcv;refine Axn hsc (by rw[em,ev];exact hm) (λhop=>Atj hsc (by rw[em,ev];exact hm) (hop.imp id λh=>⟨h,u2 h⟩) (λc'' h''=>?_) (λc'' h''=>?_)) (λh3 h4=>?_) (λh=>?_)
  ·exact ib L c'' (h''.1.trans em) (h''.2.trans ev) ⟨by omega,by omega⟩ k2 t2
  ·exact ie L c'' (h''.1.trans em) (h''.2.trans ev) ⟨by omega,by omega⟩ k3 t3
  ·obtain⟨e1,e2⟩:=u1 h3 h4;rw[Ak6,e1,e2];have:N8 ([]:List Ad)=0:=by unfold N8;rw[Gq,Qa]
   rw[this];have:more x.Op ([]:List Ad)=0:=by unfold more;rw[beq_false_of_ne h3,beq_false_of_ne h4];rfl
   rw[this]
  ·rw[em,ev];unfold Av1 at t1;rw[h]at t1;exact t1
 obtain⟨w,j,c',h1,h2,h3⟩:=A0v (Au (L+1+1)) (Bd (L+1+1)) (Bo (L+1+1)) (L+1+1) (fuM (by omega)) l c l 0 [] c .rfl (by simp only[List.length_nil];omega) hone;have hM:=Bp;rw[List.length_nil,Nat.zero_add]at h1;exact⟨(w,c'),Ajc (by rw[hM];omega) (by omega) h3,h1,h2⟩
end Go.Proofs.YtgacplpjamkieaaGreat.Ev
namespace Go.Proofs.YtgacplpjamkieaaGreat.Ev
open Go An
theorem A0f(rec:Aa->Int->Option Int)(L:Nat)(e:Aa)(hl:e.bJ.length<=maxLen)(h:∀x∈e.bJ,∀n,∃r,rec x n=some r):∀(n i:Nat) (v:Int),e.bJ.length-i<n->i<=e.bJ.length->∃o,T9 rec L e n v (i:Int)=some (0,o):=by
 have hM:=Bp;intro n
 induction n with
 |zero=>intro i v h1 _;omega
 |succ n ih=>
  intro i v h1 h2;simp only[T9,Adv,aN,aB,gD,toN];by_cases hi:i<e.bJ.length
  ·rw[decide_eq_true (show(i:Int)<(e.bJ.length:Int) by omega)];simp only[cond_true];cases decide (v>=0) with
   |false=>exact⟨_,rfl⟩
   |true=>
    obtain⟨r,hr⟩:=h (e.bJ.getD i default) (by rw[Hj _ i hi];exact List.getElem_mem hi) v;simp only[cond_true];rw[Jh (by omega),Jh (by omega),Aa.cp_eq,hr,Option.bind_some,Iu (n:=(i:Int)+1) (by omega) (by omega)];exact ih (i+1) r (by omega) (by omega)
  ·rw[decide_eq_false (show¬(i:Int)<(e.bJ.length:Int) by omega)];exact⟨_,rfl⟩
theorem A0p{e:Aa}(h:Co e):∀(L:Nat) (n:Int),maxLen+dE e<L->∃r,Rr L e n=some r:=by
 induction h with
 |mk a0 a1 a2 a3 h0 h1 h2 h3 h4 ih=>
  intro L n hL;obtain⟨L,rfl⟩:∃k,L=k+1:=⟨L-1,by omega⟩;rw[dE]at hL;obtain⟨o,ho⟩:=A0f (Rr L) L (.mk a0 a1 a2 a3) h3 (λx hx n=>ih x hx L n (by have hd:dE x<=dEs a3:=Ah9 hx;omega)) L 0 (Bb (n-1)) (show a3.length-0<L by omega) (Nat.zero_le _);simp only[Ar9,Y7,Ajt,Rr,Y7,aN,aB];rw[show(0:Int)=((0:Nat):Int)from rfl,ho];exact⟨_,rfl⟩
theorem A0o{e:Aa}(h:Co e)(L:Nat)(hL:maxLen+dE e<L):∃b,Nm L e=some b:=by
 obtain⟨r,hr⟩:=A0p h L 60 hL;simp only[Aj0,Nm,aN,aB,Aa.cp_eq,hr,Option.bind_some];exact⟨_,rfl⟩
theorem SC.lights{L:Nat}{s:Ad}(h:SC L s):(∃b,Nm L s.E=some b)/\(∃b,Nm L s.F=some b)/\∀x∈s.aS,∃b,Nm L x=some b:=by
 obtain⟨b1,b2,b3,b4⟩:=h.bs;obtain⟨_,_,o3,o4,o5,_⟩:=A5f h.ok;have hf:=h.fuel;have key:∀ {e:Aa},Co e->Bq e<=1048576->∃b,Nm L e=some b:=by
  intro e ho hb;have d:=Af2 e;exact A0o ho L (by rw[Bp];omega)
 exact⟨key o3 b1,key o4 b2,λx hx=>key (o5 x hx) (b4 x hx)⟩
theorem A0e(rec:List Ad->Int->Option Int)(L:Nat)(a0:List Ad)(v1:Int)(c:Nat)(hc:c<a0.length)(hs:SC L (a0.getD c default)):∀(n i:Nat) (v:Int),(a0.getD c default).aS.length-i<n->i<=(a0.getD c default).aS.length->∃t o,(t=0\/t=1)/\P3 rec L a0 v1 (c:Int) n v (i:Int)=some (t,o):=by
 have hM:=Bp;obtain⟨_,_,b3,_⟩:=hs.bs;obtain⟨_,_,hA⟩:=hs.lights;intro n
 induction n with
 |zero=>intro i v h1 _;omega
 |succ n ih=>
  intro i v h1 h2;simp only[P3,Aai,aN,aB,gD,toN];rw[Jh (by omega),Jh (by omega)];by_cases hi:i<(a0.getD c default).aS.length
  ·rw[decide_eq_true (show(i:Int)<((a0.getD c default).aS.length:Int) by omega)];simp only[cond_true];cases decide ((Bb ((Bb (v1-1))-((a0.getD c default).aS.length:Int)))>=0) with
   |false=>exact⟨_,_,.inr rfl,rfl⟩
   |true=>
    obtain⟨b,hb⟩:=hA ((a0.getD c default).aS.getD i default) (by rw[Hj _ i hi];exact List.getElem_mem hi);simp only[cond_true];rw[Jh (by omega),Jh (by omega),Jh (by omega),Jh (by omega),Aa.cp_eq,hb,Option.bind_some,Iu (n:=(i:Int)+1) (by omega) (by omega)];cases b with
    |false=>exact⟨_,_,.inl rfl,rfl⟩
    |true=>exact ih (i+1) v (by omega) (by omega)
  ·rw[decide_eq_false (show¬(i:Int)<((a0.getD c default).aS.length:Int) by omega)];exact⟨_,_,.inr rfl,rfl⟩
theorem A0d(rec:List Ad->Int->Option Int)(L:Nat)(a0:List Ad)(ha:a0.length<=1048576)(h:∀x∈a0,SC L x/\(∀n,∃r,rec x.aK n=some r)/\∀n,∃r,rec x.aY n=some r):∀(n i:Nat) (v w:Int),a0.length-i<n->i<=a0.length->∃t o,(t=0\/t=1)/\Li rec L a0 n v w (i:Int)=some (t,o):=by
 have hM:=Bp;intro n
 induction n with
 |zero=>intro i v w h1 _;omega
 |succ n ih=>
  intro i v w h1 h2;simp only[Li,Afh,Sy,Sv,Sy,Sv,aN,aB,gD,toN];by_cases hi:i<a0.length
  ·rw[decide_eq_true (show(i:Int)<(a0.length:Int) by omega)];simp only[cond_true];cases decide (v>=0) with
   |false=>exact⟨_,_,.inr rfl,rfl⟩
   |true=>
    have hm:a0.getD i default∈a0:=by rw[Hj _ i hi];exact List.getElem_mem hi
    obtain⟨hs,hB,hE⟩:=h _ hm;obtain⟨⟨bE,l1⟩,⟨bF,l2⟩,_⟩:=hs.lights;obtain⟨_,_,b3,_⟩:=hs.bs;have hf:=hs.fuel;have q:=A0e rec L a0 v i hi hs L 0 w (by omega) (Nat.zero_le _);obtain⟨t,o,ht,hq⟩:=q;rw[show((0:Nat):Int)=(0:Int)from rfl]at hq;simp only[cond_true,Aa.cp_eq,l1,l2,Option.bind_some,hq]
    repeat rw[Jh (by omega)]
    generalize Bb (Bb (v-1)-((a0.getD i default).aS.length:Int))=z;have hi1:Bb ((i:Int)+1)=((i+1:Nat):Int):=by rw[Iu (by omega) (by omega)];omega
    have hk:∀a b,∃t o,(t=0\/t=1)/\Li rec L a0 n a b ((i+1:Nat):Int)=some (t,o):=λa b=>ih (i+1) a b (by omega) (by omega);rw[hi1];cases bE with
    |false=>exact⟨_,_,.inl rfl,rfl⟩
    |true=>
     cases bF with
     |false=>exact⟨_,_,.inl rfl,rfl⟩
     |true=>
      rcases ht with rfl|rfl
      ·exact⟨_,_,.inl rfl,rfl⟩
      ·simp only[Bool.not_true,cond_false,Option.bind_some,Ze];cases hz:decide (z>=0) with
       |false=>
        simp only[cond_false];exact hk _ _
       |true=>
        obtain⟨r8,h8⟩:=hB z;simp only[cond_true,h8,Option.bind_some];cases decide (r8>=0) with
        |false=>exact hk _ _
        |true=>
         obtain⟨r9,h9⟩:=hE r8;simp only[cond_true];rw[Jh (by omega),Jh (by omega),h9];exact hk _ _
  ·rw[decide_eq_false (show¬(i:Int)<(a0.length:Int) by omega)];exact⟨_,_,.inr rfl,rfl⟩
theorem A3d{l:List Ad}(hl:∀y∈l,B3 y):∀(L:Nat) (n:Int),Fc L l->∃r,Kh L l n=some r:=by
 refine Zf (M:=λl=>∀(L:Nat) (n:Int),Fc L l->∃r,Kh L l n=some r) ?_ hl;intro l ih L n hF;obtain⟨f1,f2⟩:=hF;have hlen:=Adk l;obtain⟨L,rfl⟩:∃k,L=k+1:=⟨L-1,by omega⟩;obtain⟨t,o,ht,h⟩:=A0d (Kh L) L l (by omega) (λx hx=>by
  have d1:=Alf hx;have d2:=Afy hx;have d3:=Abi x;obtain⟨ox,ib,ie⟩:=ih x hx;exact⟨⟨by omega,ox,by omega⟩,λn=>ib L n ⟨by omega,by omega⟩,λn=>ie L n ⟨by omega,by omega⟩⟩) L 0 n 0 (by omega) (Nat.zero_le _)
 rw[show((0:Nat):Int)=(0:Int)from rfl]at h;simp only[Amn,Sw,Aho,Kh,Sw,aN,aB,h,Option.bind_some];rcases ht with rfl|rfl
 ·exact⟨_,rfl⟩
 ·exact⟨_,rfl⟩
theorem A0q{l:List Ad}(hl:∀y∈l,B3 y)(L:Nat)(n:Int)(hF:Fc L l):∃r,T2 L l n=some r:=by
 obtain⟨r,hr⟩:=A3d hl L n hF;simp only[Aeg,T2,aN,aB,hr,Option.bind_some];exact⟨_,rfl⟩
end Go.Proofs.YtgacplpjamkieaaGreat.Ev
namespace Go.Proofs.YtgacplpjamkieaaGreat.Ev
open Go An
def P1:Nat:=maxLen+16777216
theorem Alc:maxLen<P1:=Nat.lt_add_of_pos_right (by decide)
theorem Ah5:Amq<=P1:=Nat.add_le_add_left (by decide) _
theorem Bae:9223372036858970111+3*1048577<P1:=by unfold P1;rw[Bp];decide
theorem Fc.of{l:List Ad}(hb:Cv l<=1048576):Fc P1 l:=by
 have h1:=Ap7 l;have h2:=Bae;exact⟨by omega,hb⟩
theorem A3i(i:Int)(m:Ag):∀(k:List Al) (c:Nat) (v:Bool),(∀r∈k,H7 r/\Dw r<=1048576)->∃t o,(t=0\/t=1)/\Nh P1 i m k c v=some (t,o):=by
 intro k
 induction k with
 |nil=>intro c v _;exact⟨1,_,.inr rfl,rfl⟩
 |cons x k ih=>
  intro c v h;obtain⟨o1,o2⟩:=h x (by simp);obtain⟨_,_,b3⟩:=Aa7 o2;obtain⟨b,hb⟩:=A0q (show∀y∈x.aK,B3 y from o1.2.2.2.2) P1 60 (Fc.of b3);rw[Nh,hb,Option.bind_some];cases b with
  |false=>exact⟨0,_,.inl rfl,rfl⟩
  |true=>exact ih (c+1) v λr hr=>h r (by simp[hr])
theorem A3h{m:Ag}(h:MG m):∀(k:List Ac) (i:Nat) (v:Bool),m.aD.drop i=k->∃t o,(t=0\/t=1)/\Ng P1 m k i v=some (t,o):=by
 intro k
 induction k with
 |nil=>intro i v _;exact⟨1,_,.inr rfl,rfl⟩
 |cons x k ih=>
  intro i v hk;obtain⟨hi,hx,hk'⟩:=X3 hk;have hm:x∈m.aD:=by rw[<-hx,Hj _ i hi];exact List.getElem_mem hi
  have hlen:=(h.site x hm).ln.2.2.2.2.2.2.2.2.2;obtain⟨t,o,ht,hq⟩:=A3i (i:Int) m x.aA 0 v (h.routs hm);rw[Ng,Ame P1 (i:Int) m P1 (by rw[toN,hx];exact hlen) (by rw[toN,hx];exact Nat.lt_of_le_of_lt hlen Alc),toN,hx,hq];dsimp only[Option.bind_some];generalize (bif (bif (bif (bif (bif (bif (bif (decide (((x.bG).length:Int)>10))then true else(decide (((x.aM).length:Int)>10)))then true else(decide (((x.aO).length:Int)>10)))then true else(decide (((x.aA).length:Int)>6)))then true else(decide (((x.aZ).length:Int)>10)))then true else(decide (((x.Laws).length:Int)>10)))then true else(decide (((x.aX).length:Int)>10)))then true else(decide (((x.aR).length:Int)>10)))=b;cases b with
  |true=>exact⟨0,_,.inl rfl,rfl⟩
  |false=>
   rcases ht with rfl|rfl
   ·exact⟨0,_,.inl rfl,rfl⟩
   ·exact ih (i+1) o.1 hk'
theorem A5g{m:Ag}(h:MG m):∃b,Z0 P1 m=some b:=by
 obtain⟨t,o,ht,hq⟩:=A3h h m.aD 0 false rfl;simp only[Ap4,Vo,U4,Z0,Vo,U4,aN,aB,Amd P1 m P1 h.sites (Nat.lt_of_le_of_lt h.sites Alc),hq,Option.bind_some,Tc];generalize (decide ((m.aJ.length:Int)>10) || decide ((m.aD.length:Int)>4) || decide ((m.bC.length:Int)>10))=b;cases b with
 |true=>exact⟨_,rfl⟩
 |false=>
  rcases ht with rfl|rfl
  ·exact⟨_,rfl⟩
  ·exact⟨_,rfl⟩
def endI:Ae:=⟨19,0,0,0,.mk 0 ⟨#[]⟩ 0 [],.mk 0 ⟨#[]⟩ 0 [],[],⟨0,0,0,0,[],[]⟩,false⟩
theorem Aws{m:Ag}{s:Int}{lc:List Ap}{l:List Ad}(h:Xv m s lc l=0):H9 l=0/\P9 m ⟨m.aJ,lc,m.aD.getD s.toNat default⟩ l=0:=by
 unfold Xv at h;by_cases h0:Afr l=0
 ·rw[if_neg (by simp[h0])]at h;refine⟨?_,?_⟩
  ·unfold Afr at h0;split at h0
   ·omega
   ·split at h0
    ·omega
    ·exact h0
  ·split at h
   ·omega
   ·exact h
 ·rw[if_pos h0]at h;exact absurd h h0
theorem Am6{m:Ag}(h:MG m)(i k:Nat)(hi:i<m.aD.length)(hk:k<(m.aD.getD i default).aA.length):
  ∃r,S8 P1 m (i:Int) (k:Int)=some r/\((r.2≠0/\r.1.eP= [])\/(r.2=0/\∃l n p q,r.1=⟨n,p,q,l++ [endI]⟩/\l.length=N8 ((m.aD.getD i default).aA.getD k default).aK/\p=(((m.aD.getD i default).aA.getD k default).aJ.length:Int)/\q=(((m.aD.getD i default).aA.getD k default).aJ.length+((m.aD.getD i default).aA.getD k default).aL.length:Int))):=by
 have hM:=Bp;have hm:m.aD.getD i default∈m.aD:=by rw[Hj _ i hi];exact List.getElem_mem hi
 have hr:(m.aD.getD i default).aA.getD k default∈(m.aD.getD i default).aA:=by rw[Hj _ k hk];exact List.getElem_mem hk
 obtain⟨o1,o2⟩:=h.routs hm _ hr;have ht:=Atk h P1 Ah5;generalize fE (Avl Wj m) (Anm m 0 m.aD)=te at ht;generalize hrt:(m.aD.getD i default).aA.getD k default=rt at*
 obtain⟨b1,b2,b3⟩:=Aa7 o2;have hlc:(rt.aJ++rt.aL).length<=maxLen/\∀y∈rt.aJ++rt.aL,I8 y:=⟨by rw[List.length_append,hM];omega,λy hy=>by
  rcases List.mem_append.1 hy with h|h
  ·exact o1.2.1.2 y h
  ·exact o1.2.2.1.2 y h⟩
 have hty:=Ayy h i rt o1 o2 P1 Ah5;have hcc:=Av4 P1 rt.aJ rt.aL b1 b2 Alc;have hz:=Zg rt.aK;simp only[Yj,S8,aN,aB,gD,ht,Option.bind_some,toN,Tc];by_cases h0:te=0
 ·subst h0;rw[show((0:Int) != 0)=false from rfl,decide_eq_false (show¬(i:Int)<0 by omega),decide_eq_false (show¬(i:Int)>=(m.aD.length:Int) by omega),decide_eq_false (show¬(k:Int)<0 by omega)];simp only[cond_false,Bool.or_false];rw[Jh (by omega),Jh (by omega),decide_eq_false (show¬(k:Int)>=((m.aD.getD i default).aA.length:Int) by omega)];simp only[cond_false,Option.bind_some];rw[Jh (by omega),Jh (by omega),Jh (by omega),Jh (by omega),hrt,hcc];simp only[Option.bind_some,hty];by_cases h1:rtT m i rt=0
  ·obtain⟨c1,c2⟩:=Aws h1;rw[show Int.toNat (i:Int)=i from toN i]at c2;obtain⟨r,e1,e2,e3⟩:=Axk (Ao4 h.ok h.bk hlc hi) (show∀y∈rt.aK,B3 y from o1.2.2.2.2) P1 ⟨m,⟨m.aJ,rt.aJ++rt.aL,m.aD.getD i default⟩,0⟩ rfl rfl (Fc.of b3) c1 c2;rw[h1,show((0:Int) != 0)=false from rfl];simp only[cond_false];rw[Jh (by omega),Jh (by omega)];simp only[e1,Option.bind_some,List.length_cons,List.length_nil,List.length_append];by_cases h2:r.2.aW=0
   ·rw[h2,show((0:Int) != 0)=false from rfl];simp only[cond_false];rw[Jh (by omega),Jh (by omega)];cases decide (((r.1.length+(0+1):Nat):Int)>1000) with
    |true=>exact⟨_,rfl,.inl ⟨by decide,rfl⟩⟩
    |false=>exact⟨_,rfl,.inr ⟨rfl,r.1,_,_,_,rfl,e2,rfl,by omega⟩⟩
   ·rw[Zs h2];exact⟨_,rfl,.inl ⟨h2,rfl⟩⟩
  ·rw[Zs h1];exact⟨_,rfl,.inl ⟨h1,rfl⟩⟩
 ·rw[Zs h0];exact⟨_,rfl,.inl ⟨h0,rfl⟩⟩
end Go.Proofs.YtgacplpjamkieaaGreat.Ev
