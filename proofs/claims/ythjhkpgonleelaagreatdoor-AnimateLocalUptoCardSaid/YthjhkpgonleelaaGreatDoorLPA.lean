/-  Chapter 7, plainly: names. -/
import Derived.Test.YthjhkpgonleelaaGreatDoorLQA
import Derived.Test.YthjhkpgonleelaaGreatDoorLRA
set_option maxRecDepth 100000
set_option linter.unusedVariables false
set_option linter.unusedSimpArgs false
set_option linter.unnecessarySimpa false
namespace Go.Proofs.YthjhkpgonleelaaGreatDoor.Ev
open Go An
def Apo(z:Int):Bool:=decide (97<=z) && decide (z<=122)
def okZ(z:Int):Bool:=Apo z || z == 95 || (decide (48<=z) && decide (z<=57))
def Ao3(a:Yb)(i:Nat):Int:=D1 a[i]?
def Qx(a:Yb):Nat->Nat->Bool
 |_,0=>true
 |i,m+1=>okZ (Ao3 a i) && Qx a (i+1) m
def kws:List Yb:= [(⟨#[97,100,100]⟩:Yb),(⟨#[97,102,116,101,114]⟩:Yb),(⟨#[97,110,100]⟩:Yb),(⟨#[97,116]⟩:Yb),(⟨#[98,101,108,116]⟩:Yb),(⟨#[98,111,111,108]⟩:Yb),(⟨#[99,111,110,115,101,114,118,101]⟩:Yb),(⟨#[99,111,110,115,116]⟩:Yb),(⟨#[99,111,117,110,116]⟩:Yb),(⟨#[99,121,99,108,101]⟩:Yb),(⟨#[100,111,119,110]⟩:Yb),(⟨#[100,114,97,119]⟩:Yb),(⟨#[100,117,114]⟩:Yb),(⟨#[101,108,115,101]⟩:Yb),(⟨#[101,110,100]⟩:Yb),(⟨#[101,118,101,114,121]⟩:Yb),(⟨#[102,97,108,115,101]⟩:Yb),(⟨#[102,97,117,108,116]⟩:Yb),(⟨#[102,105,102,111]⟩:Yb),(⟨#[102,114,101,101]⟩:Yb),(⟨#[102,114,111,109]⟩:Yb),(⟨#[103,101,111,109]⟩:Yb),(⟨#[103,101,116]⟩:Yb),(⟨#[104,111,108,100]⟩:Yb),(⟨#[105,102]⟩:Yb),(⟨#[105,110,116]⟩:Yb),(⟨#[105,110,116,111]⟩:Yb),(⟨#[108,101,97,115,116]⟩:Yb),(⟨#[108,101,118,101,108]⟩:Yb),(⟨#[108,105,102,111]⟩:Yb),(⟨#[108,105,110,107]⟩:Yb),(⟨#[108,111,99,97,108]⟩:Yb),(⟨#[109,97,120]⟩:Yb),(⟨#[109,105,110]⟩:Yb),(⟨#[109,111,100,101,108]⟩:Yb),(⟨#[110,111,116]⟩:Yb),(⟨#[110,111,119]⟩:Yb),(⟨#[111,98,115,101,114,118,101]⟩:Yb),(⟨#[111,114]⟩:Yb),(⟨#[112,97,114,97,109]⟩:Yb),(⟨#[112,114,101,101,109,112,116]⟩:Yb),(⟨#[112,114,105,111]⟩:Yb),(⟨#[112,117,116]⟩:Yb),(⟨#[113,117,101,117,101]⟩:Yb),(⟨#[114,101,108,101,97,115,101]⟩:Yb),(⟨#[114,101,115,111,117,114,99,101]⟩:Yb),(⟨#[114,105,100,101]⟩:Yb),(⟨#[114,111,117,116,105,110,101]⟩:Yb),(⟨#[115,101,105,122,101]⟩:Yb),(⟨#[115,101,110,100]⟩:Yb),(⟨#[115,101,116]⟩:Yb),(⟨#[115,104,105,102,116]⟩:Yb),(⟨#[115,105,103,110,97,108]⟩:Yb),(⟨#[115,105,116,101]⟩:Yb),(⟨#[115,105,122,101]⟩:Yb),(⟨#[115,112,97,119,110]⟩:Yb),(⟨#[115,116,97,114,116]⟩:Yb),(⟨#[115,116,111,112]⟩:Yb),(⟨#[115,116,111,114,101]⟩:Yb),(⟨#[115,116,114,101,97,109]⟩:Yb),(⟨#[115,117,109]⟩:Yb),(⟨#[116,97,98,108,101]⟩:Yb),(⟨#[116,97,108,108,121]⟩:Yb),(⟨#[116,105,99,107,115]⟩:Yb),(⟨#[116,105,109,101]⟩:Yb),(⟨#[116,114,117,101]⟩:Yb),(⟨#[117,110,105,102,111,114,109]⟩:Yb),(⟨#[117,110,116,105,108]⟩:Yb),(⟨#[117,112]⟩:Yb),(⟨#[118,97,114]⟩:Yb),(⟨#[119,97,105,116]⟩:Yb),(⟨#[119,97,105,116,105,110,103]⟩:Yb),(⟨#[119,104,105,108,101]⟩:Yb)]
def Agq(s:Yb):Bool:=kws.any λw=>decide (s=w)
def Akq(s:Yb):Bool:=decide (1<=s.size) && decide (s.size<=24) && Apo (Ao3 s 0) && !Agq s && Qx s 0 s.size
def Jd(s:Yb):Int:=bif Akq s then 0 else 3
theorem Afw(L:Nat)(z:Int):Us L z=some (Apo z):=by
 simp only[Ahm,Us,aN,aB,Apo,Ds]
theorem Bxa{c b:Bool}{X:Option Bool}(h:X=some b):(bif c then(bif c then some true else some false)else X)=some (c || b):=by cases c<;>simp[h]
theorem B0h{c b:Bool}{X:Option Bool}(h:X=some b):(bif c then some true else X)=some (c || b):=by cases c<;>simp[h]
set_option maxRecDepth 10000 in
theorem Ayu(L:Nat)(s:Yb):Xb L s=some (Agq s):=by
 simp only[Afc,Xb,aN,aB,Ie,Agq,kws,List.any_cons,List.any_nil]
 repeat (first|exact Bxa rfl|refine Bxa ?_|refine B0h ?_)
 rfl
theorem B7c(L:Nat)(a:Yb)(hs:a.size<=maxLen):∀(m i n:Nat) (v:Int),i+m=a.size->m<n->
  ∃j,I7 L a n v i=some (bif Qx a i m then(1,(v,j)) else(0,(3,j))):=by
 intro m
 induction m with
 |zero=>
  intro i n v hi hn;obtain⟨n,rfl⟩:∃k,n=k+1:=⟨n-1,by omega⟩;exact⟨i,by simp only[I7,Qs,aN,aB,Qx,D3 (show a.size<=i by omega),cond_true,cond_false]⟩
 |succ m ih=>
  intro i n v hi hn;obtain⟨n,rfl⟩:∃k,n=k+1:=⟨n-1,by omega⟩;have hlt:i<a.size:=by omega
  obtain⟨j,hj⟩:=ih (i+1) n v (by omega) (by omega);have hb:=Br9 hlt;cases hc:okZ (Ao3 a i) with
  |true=>
   refine⟨j,?_⟩;have e:Qx a i (m+1)=Qx a (i+1) m:=by simp only[Qx,hc,Bool.true_and]
   simp only[I7,Qs,aN,aB,Dx hlt,nn,toN,if_true,hb,cond_true,Afw,Cr,Bb hlt hs,hj,e,Ds,H3];rw[show((!Apo (D1 a[i]?) && (decide (D1 a[i]? < 48) || decide (D1 a[i]? > 57))) && D1 a[i]? != 95)=false from ?_]
   ·rfl
   ·revert hc;unfold okZ Ao3
    generalize D1 a[i]? =z;cases Apo z<;>simp<;>omega
  |false=>
   refine⟨i,?_⟩;have e:Qx a i (m+1)=false:=by simp only[Qx,hc,Bool.false_and]
   simp only[I7,Qs,aN,aB,Dx hlt,nn,toN,if_true,hb,cond_true,Afw,Cr,Bb hlt hs,hj,e,Ds,H3];rw[show((!Apo (D1 a[i]?) && (decide (D1 a[i]? < 48) || decide (D1 a[i]? > 57))) && D1 a[i]? != 95)=true from ?_]
   ·rfl
   ·revert hc;unfold okZ Ao3
    generalize D1 a[i]? =z;cases Apo z<;>simp<;>omega
theorem M9(L:Nat)(s:Yb)(hs:okS s)(hL:s.size<L):Cu L s=some (Jd s):=by
 obtain⟨j,hj⟩:=B7c L s hs s.size 0 L 0 (by omega) hL;have e0:decide ((s.size:Int)>24)= !decide (s.size<=24):=by
  by_cases h:s.size<=24
  ·rw[decide_eq_false (by omega),decide_eq_true h];rfl
  ·rw[decide_eq_true (by omega),decide_eq_false h];rfl
 simp only[Asu,Wn,V9,Cu,Wn,V9,aN,aB,Ie,A2i,Afw,Ayu,Cr,F6,H3,e0];by_cases h0:s.size=0
 ·have:Akq s=false:=by unfold Akq;rw[decide_eq_false (show¬1<=s.size by omega)];rfl
  simp[h0,Jd,this]
 ·have hb:=Br9 (show 0<s.size by omega);have e1:Akq s=(decide (s.size<=24) && Apo (Ao3 s 0) && !Agq s && Qx s 0 s.size):=by unfold Akq;rw[decide_eq_true (show 1<=s.size by omega)];rfl
  simp only[Int.ofNat_zero,Int.natCast_zero]at hj;simp only[h0,decide_false,Bool.false_or,Int.le_refl,Nat.le_refl,if_true,Int.toNat_zero,hb,cond_true,hj,Cr,Jd,e1,Ao3];cases decide (s.size<=24)<;>cases Apo (D1 s[0]?)<;>cases Agq s<;>cases Qx s 0 s.size<;>rfl
mutual
def dE:Ab->Nat
 | .mk _ _ _ k=>dEs k+1
def dEs:List Ab->Nat
 | []=>0
 |x::k=>max (dE x) (dEs k)
end
theorem Ai7{x:Ab}{k:List Ab}(h:x∈k):dE x<=dEs k:=by
 induction k with
 |nil=>cases h
 |cons a k ih=>
  rw[dEs];rcases List.mem_cons.1 h with rfl|h
  ·omega
  ·have:=ih h;omega
mutual
def Afu:Ab->Int
 | .mk _ _ _ k=>Ayo k 1
def Ayo:List Ab->Int->Int
 | [],n=>n
 |x::k,n=>Ayo k (Bu (n+Afu x))
end
mutual
def Yt:Ab->Int
 | .mk _ _ _ k=>Bu (Axc k 0+1)
def Axc:List Ab->Int->Int
 | [],n=>n
 |x::k,n=>Axc k (if Yt x>n then Yt x else n)
end
def Avf(op:Int):Int:=
 if op=1\/op=2\/op=3\/op=4 then 0 else if 5<=op/\op<=8 then 1 else if 9<=op/\op<=21 then 2 else if 22<=op/\op<=26 then 0 else -1
def Av7(op:Int):Bool:=decide (22<=op) && decide (op<=24)
def inZ(n:Int):Bool:=decide (-1000000000000<=n) && decide (n<=1000000000000)
def Ar8(c:Bool)(op:Int):Bool:=if op=3 then !c else if op=25\/op=26 then c else decide (0<=Avf op)
def Agt(c:Bool)(op:Int):Bool:=op == 3 || (Av7 op && !c)
def Ayl(c:Bool)(op:Int):Option Int:=if op=2 then some 1 else if op=25 then some 15 else if op=26 then some 31 else if Av7 op && c then some 63 else none
def A9a(c:Bool)(e:Ab):Bool:= !Ar8 c e.Op || decide ((e.aY.length:Int)≠Avf e.Op) || (!decide (e.aF=⟨#[]⟩) && !Agt c e.Op)
def Av5(c:Bool)(e:Ab):Int:=
 if A9a c e=true then 1
 else if e.Op=1 then(if inZ e.N then 0 else 2)
 else match Ayl c e.Op with
  |none=>if e.N≠0 then 1 else if Agt c e.Op then Jd e.aF else 0
  |some hi=>if e.N<0\/hi<e.N then 2 else if Agt c e.Op then Jd e.aF else 0
mutual
def Aq3(c:Bool):Ab->Int
 | .mk op nm n k=>if Av5 c (.mk op nm n k)≠0 then Av5 c (.mk op nm n k)else Aq4 c k
def Aq4(c:Bool):List Ab->Int
 | []=>0
 |x::k=>if Aq3 c x≠0 then Aq3 c x else Aq4 c k
end
def D2(c:Bool)(e:Ab):Int:=if Afu e>60 then 6 else if Yt e>12 then 11 else Aq3 c e
theorem Bu3(op:Int):op=1\/op=2\/op=3\/op=4\/op=5\/op=6\/op=7\/op=8\/op=9\/op=10\/op=11\/op=12\/op=13\/op=14\/op=15\/op=16\/op=17\/op=18\/op=19\/op=20\/op=21\/op=22\/op=23\/op=24\/op=25\/op=26\/op<1\/26<op:=by omega
theorem Awd(L:Nat)(op:Int):Y4 L op=some (Avf op):=by
 simp only[Aqu,Y4,aN,aB,Avf,Ds,H3,F6]
 congr 1
 grind
theorem Arn(L:Nat)(op:Int):W1 L op=some (Av7 op):=by
 simp only[Akf,W1,aN,aB,Av7,Ds]
theorem At8(L:Nat)(k:Bl)(op:Int):Ti L k op=some (Ar8 k.bT op):=by
 simp only[Zr,Ti,aN,aB,Ar8,Awd,Cr,F6]
 congr 1
 grind
theorem At9(L:Nat)(k:Bl)(op:Int):J2 L k op=some (Agt k.bT op):=by
 simp only[Zs,J2,aN,aB,Agt,Arn,Cr,F6,H3,Ds]
theorem Ayv(L:Nat)(n:Int):Ahd L n=some (inZ n):=by
 simp only[A27,Ahd,aN,aB,inZ,Ds]
theorem Arm(L:Nat)(k:Bl)(op:Int):K3 L k op=some (match Ayl k.bT op with|some hi=>(0,hi,true)|none=>(0,0,false)):=by
 simp only[Wv,K3,aN,aB,Ayl,Arn,Cr,F6,Ds]
 congr 1
 grind
theorem Awe(L:Nat)(k:Bl)(e:Ab)(hn:okS e.aF)(hL:e.aF.size<L):U8 L k e=some (Av5 k.bT e):=by
 simp only[Abl,U8,aN,aB,At8,Awd,At9,Ayv,Arm,Cr,M9 L e.aF hn hL,F6,Ie,Ds,H3,Av5,A9a]
 congr 1
 cases Ayl k.bT e.Op<;>grind
theorem A49(Bee:Ab->Option Int)(L:Nat)(a0:Ab):∀(k:List Ab) (i:Nat) (v:Int),(∀x∈k,Bee x=some (Afu x))->∃j,Ky Bee L a0 k i v=some (0,(Ayo k v,j)):=by
 intro k
 induction k with
 |nil=>intro i v _;exact⟨_,rfl⟩
 |cons x k ih=>
  intro i v h;obtain⟨j,hj⟩:=ih (i+1) (Bu (v+Afu x)) λy hy=>h y (by simp[hy]);exact⟨j,by simp only[Ky,h x (by simp),Cr,hj,Ayo]⟩
theorem A6i{e:Ab}(h:B1 e):∀L,maxLen+dE e<L->Lb L e=some (Afu e):=by
 induction h with
 |mk a0 a1 a2 a3 h0 h1 h2 h3 h4 ih=>
  intro L hL;obtain⟨L,rfl⟩:∃k,L=k+1:=⟨L-1,by omega⟩;rw[dE]at hL;have hr:∀x∈a3,Lb L x=some (Afu x):=λx hx=>ih x hx L (by have:=Ai7 hx;omega);obtain⟨j,hj⟩:=A49 (Lb L) L (.mk a0 a1 a2 a3) a3 0 1 hr;simp only[Au0,Xw,Ang,Lb,Xw,aN,aB,Ab.cp_eq,Ab.Op,Ab.aF,Ab.N,Ab.aY,Ab.eta,Ax4 _ _ (.mk a0 a1 a2 a3) _ h3 (show a3.length<L by omega),hj,Cr,Ip,Afu]
theorem A48(Bef:Ab->Option Int)(L:Nat)(a0:Ab):∀(k:List Ab) (i:Nat) (v:Int),(∀x∈k,Bef x=some (Yt x))->∃j,Kx Bef L a0 k i v=some (0,(Axc k v,j)):=by
 intro k
 induction k with
 |nil=>intro i v _;exact⟨_,rfl⟩
 |cons x k ih=>
  intro i v h;obtain⟨j,hj⟩:=ih (i+1) (if Yt x>v then Yt x else v) λy hy=>h y (by simp[hy]);exact⟨j,by simp only[Kx,h x (by simp),Cr,hj,Axc]⟩
theorem A6h{e:Ab}(h:B1 e):∀L,maxLen+dE e<L->La L e=some (Yt e):=by
 induction h with
 |mk a0 a1 a2 a3 h0 h1 h2 h3 h4 ih=>
  intro L hL;obtain⟨L,rfl⟩:∃k,L=k+1:=⟨L-1,by omega⟩;rw[dE]at hL;have hr:∀x∈a3,La L x=some (Yt x):=λx hx=>ih x hx L (by have:=Ai7 hx;omega);obtain⟨j,hj⟩:=A48 (La L) L (.mk a0 a1 a2 a3) a3 0 0 hr;simp only[Auz,Xv,Anf,La,Xv,aN,aB,Ab.cp_eq,Ab.Op,Ab.aF,Ab.N,Ab.aY,Ab.eta,Ax3 _ _ (.mk a0 a1 a2 a3) _ h3 (show a3.length<L by omega),hj,Cr,Ip,Yt]
theorem Asj(Beg:Bl->Ab->Option Int)(L:Nat)(a1:Ab)(c:Bl):∀(k:List Ab) (i:Nat) (v:Int),(∀x∈k,Beg c x=some (Aq3 c.bT x))->∃j,El Beg L a1 c k i v=some (bif Aq4 c.bT k != 0 then(0,(Aq4 c.bT k,j)) else(1,(v,j))):=by
 intro k
 induction k with
 |nil=>intro i v _;exact⟨i,rfl⟩
 |cons x k ih=>
  intro i v h;obtain⟨j,hj⟩:=ih (i+1) v λy hy=>h y (by simp[hy]);by_cases hx:Aq3 c.bT x=0
  ·exact⟨j,by simp[El,h x (by simp),hj,Aq4,hx]⟩
  ·exact⟨(i:Int),by simp[El,h x (by simp),hj,Aq4,hx,W8 hx]⟩
theorem Aua{e:Ab}(h:B1 e)(c:Bl):∀L,maxLen+dE e<L->F5 L c e=some (Aq3 c.bT e):=by
 induction h with
 |mk a0 a1 a2 a3 h0 h1 h2 h3 h4 ih=>
  intro L hL;obtain⟨L,rfl⟩:∃k,L=k+1:=⟨L-1,by omega⟩;rw[dE]at hL;have hr:∀x∈a3,F5 L c x=some (Aq3 c.bT x):=λx hx=>ih x hx L (by have:=Ai7 hx;omega);obtain⟨j,hj⟩:=Asj (F5 L) L (.mk a0 a1 a2 a3) c a3 0 0 hr;have h1':a1.size<=maxLen:=h1;simp only[Ai3,O5,Ox,Ze,F5,O5,Ox,aN,aB,Ab.cp_eq,Ab.Op,Ab.aF,Ab.N,Ab.aY,Ab.eta,Awe L c (.mk a0 a1 a2 a3) h1 (show a1.size<L by omega),Aps _ _ (.mk a0 a1 a2 a3) _ _ h3 (show a3.length<L by omega),hj,Cr,Aq3];by_cases h:Av5 c.bT (.mk a0 a1 a2 a3)=0
  ·by_cases h':Aq4 c.bT a3=0
   ·simp[h,h',Ip,Sr]
   ·simp[h,h',Ip,Sr,W8 h']
  ·simp[h,W8 h]
theorem Ah6{e:Ab}(h:B1 e)(c:Bl)(L:Nat)(hL:maxLen+dE e<L):N5 L c e=some (D2 c.bT e):=by
 simp only[Zq,N5,aN,aB,Ab.cp_eq,A6i h L hL,A6h h L hL,Aua h c L hL,Cr,F6,D2]
 congr 1
 grind
theorem Aks{e:Ab}(h:B1 e)(L:Nat)(hL:maxLen+dE e<L):Rv L e=some (D2 false e):=by
 simp only[An0,Rv,aN,aB,Ab.cp_eq,Ah6 h _ L hL,Cr]
def A56(l:List Yb)(s:Yb):Int:=Zc (l.findIdx? λx=>decide (x=s))
theorem Avr{α :Type}(l:List α)(p: α->Bool):decide (Zc (l.findIdx? p)>=0)=l.any p:=by
 have h:=List.findIdx?_isSome (xs:=l) (p:=p);rw[<-h];cases l.findIdx? p with
 |none=>rfl
 |some i=>simp[Zc]
theorem Akr(L:Nat)(z:Int):Zg L z=some (Apo z):=by
 simp only[Anp,Zg,aN,aB,Apo,Ds]
theorem A1l(L:Nat):Ag6 L=some kws:=rfl
theorem Bau(L:Nat)(a0:List Yb)(a1:Yb):∀(k:List Yb) (i:Nat) (v:Int),P1 L a0 a1 k i v=some (match k.findIdx? (λx=>x.toList == a1.toList) with|some j=>(0,(((i+j:Nat):Int),((i+j:Nat):Int)))|none=>(1,(v,((i+k.length:Nat):Int)))):=by
 intro k
 induction k with
 |nil=>intro i v;rfl
 |cons x k ih=>
  intro i v;rw[P1,ih,List.findIdx?_cons];cases hc:(λx=>x.toList == a1.toList) x with
  |true=>simp only[hc,cond_true,if_true];rfl
  |false=>
   simp only[hc,cond_false,if_false,Bool.false_eq_true];cases k.findIdx? (λx=>x.toList == a1.toList) with
   |some j=>simp[Nat.add_assoc,Nat.add_comm 1]
   |none=>simp[Nat.add_assoc,Nat.add_comm 1]
theorem Aeu(L:Nat)(l:List Yb)(s:Yb)(hl:l.length<=maxLen)(hL:l.length<L):J7 L l s=some (A56 l s):=by
 simp only[A2t,Ads,J7,Ads,aN,aB,A39 _ _ _ _ hl hL,Bau,Ie,Cr,A56];cases l.findIdx? λx=>decide (x=s) with
 |none=>rfl
 |some i=>simp[Zc,Ip]
theorem A4p(L:Nat)(s:Yb)(hL:80<L):Ac6 L s=some (Agq s):=by
 simp only[Aka,Ac6,aN,aB,A1l,Aeu L kws s (by decide) (show kws.length<L from Nat.lt_trans (by decide) hL),Cr,A56,Avr];simp only[Agq,eq_comm]
theorem B7j(L:Nat)(a:Yb)(hs:a.size<=maxLen):∀(m i n:Nat) (v:Int),i+m=a.size->m<n->
  ∃j,Mh L a n v i=some (bif Qx a i m then(1,(v,j)) else(0,(3,j))):=by
 intro m
 induction m with
 |zero=>
  intro i n v hi hn;obtain⟨n,rfl⟩:∃k,n=k+1:=⟨n-1,by omega⟩;exact⟨i,by simp only[Mh,Uy,aN,aB,Qx,D3 (show a.size<=i by omega),cond_true,cond_false]⟩
 |succ m ih=>
  intro i n v hi hn;obtain⟨n,rfl⟩:∃k,n=k+1:=⟨n-1,by omega⟩;have hlt:i<a.size:=by omega
  obtain⟨j,hj⟩:=ih (i+1) n v (by omega) (by omega);have hb:=Br9 hlt;cases hc:okZ (Ao3 a i) with
  |true=>
   refine⟨j,?_⟩;have e:Qx a i (m+1)=Qx a (i+1) m:=by simp only[Qx,hc,Bool.true_and]
   simp only[Mh,Uy,aN,aB,Dx hlt,nn,toN,if_true,hb,cond_true,Akr,Cr,Bb hlt hs,hj,e,F6,Ds,H3];rw[show((!Apo (D1 a[i]?) && D1 a[i]? != 95) && (decide (D1 a[i]? < 48) || decide (D1 a[i]? > 57)))=false from ?_]
   ·rfl
   ·revert hc;unfold okZ Ao3
    generalize D1 a[i]? =z;cases Apo z<;>simp<;>omega
  |false=>
   refine⟨i,?_⟩;have e:Qx a i (m+1)=false:=by simp only[Qx,hc,Bool.false_and]
   simp only[Mh,Uy,aN,aB,Dx hlt,nn,toN,if_true,hb,cond_true,Akr,Cr,Bb hlt hs,hj,e,F6,Ds,H3];rw[show((!Apo (D1 a[i]?) && D1 a[i]? != 95) && (decide (D1 a[i]? < 48) || decide (D1 a[i]? > 57)))=true from ?_]
   ·rfl
   ·revert hc;unfold okZ Ao3
    generalize D1 a[i]? =z;cases Apo z<;>simp<;>omega
theorem Sa(L:Nat)(s:Yb)(hs:okS s)(hL:s.size<L)(hL':80<L):Jk L s=some (Jd s):=by
 obtain⟨j,hj⟩:=B7j L s hs s.size 0 L 0 (by omega) hL;have e0:decide ((s.size:Int)>24)= !decide (s.size<=24):=by
  by_cases h:s.size<=24
  ·rw[decide_eq_false (by omega),decide_eq_true h];rfl
  ·rw[decide_eq_true (by omega),decide_eq_false h];rfl
 have e2:decide ((s.size:Int)<1)=decide (s.size=0):=decide_eq_decide.2 (by omega);simp only[Azk,Aap,q8,Jk,Aap,q8,aN,aB,Akr,A4p L s hL',Cr,F6,H3,e0,e2];by_cases h0:s.size=0
 ·have:Akq s=false:=by unfold Akq;rw[decide_eq_false (show¬1<=s.size by omega)];rfl
  simp[h0,Jd,this]
 ·have hb:=Br9 (show 0<s.size by omega);have e1:Akq s=(decide (s.size<=24) && Apo (Ao3 s 0) && !Agq s && Qx s 0 s.size):=by unfold Akq;rw[decide_eq_true (show 1<=s.size by omega)];rfl
  simp only[Int.ofNat_zero,Int.natCast_zero]at hj;simp only[h0,decide_false,Bool.false_or,Int.le_refl,Nat.le_refl,if_true,Int.toNat_zero,hb,cond_true,hj,Cr,Jd,e1,Ao3];cases decide (s.size<=24)<;>cases Apo (D1 s[0]?)<;>cases Agq s<;>cases Qx s 0 s.size<;>rfl
theorem A6u(Bee:Ab->Option Int)(L:Nat)(a0:Ab):∀(k:List Ab) (i:Nat) (v:Int),(∀x∈k,Bee x=some (Afu x))->∃j,M5 Bee L a0 k i v=some (0,(Ayo k v,j)):=by
 intro k
 induction k with
 |nil=>intro i v _;exact⟨_,rfl⟩
 |cons x k ih=>
  intro i v h;obtain⟨j,hj⟩:=ih (i+1) (Bu (v+Afu x)) λy hy=>h y (by simp[hy]);exact⟨j,by simp only[M5,h x (by simp),Cr,hj,Ayo]⟩
theorem A97{e:Ab}(h:B1 e):∀L,maxLen+dE e<L->N2 L e=some (Afu e):=by
 induction h with
 |mk a0 a1 a2 a3 h0 h1 h2 h3 h4 ih=>
  intro L hL;obtain⟨L,rfl⟩:∃k,L=k+1:=⟨L-1,by omega⟩;rw[dE]at hL;have hr:∀x∈a3,N2 L x=some (Afu x):=λx hx=>ih x hx L (by have:=Ai7 hx;omega);obtain⟨j,hj⟩:=A6u (N2 L) L (.mk a0 a1 a2 a3) a3 0 1 hr;simp only[Azm,s7,Apx,N2,s7,aN,aB,Ab.cp_eq,Ab.Op,Ab.aF,Ab.N,Ab.aY,Ab.eta,A04 _ _ (.mk a0 a1 a2 a3) _ h3 (show a3.length<L by omega),hj,Cr,Ip,Afu]
theorem A6t(Bef:Ab->Option Int)(L:Nat)(a0:Ab):∀(k:List Ab) (i:Nat) (v:Int),(∀x∈k,Bef x=some (Yt x))->∃j,M4 Bef L a0 k i v=some (0,(Axc k v,j)):=by
 intro k
 induction k with
 |nil=>intro i v _;exact⟨_,rfl⟩
 |cons x k ih=>
  intro i v h;obtain⟨j,hj⟩:=ih (i+1) (if Yt x>v then Yt x else v) λy hy=>h y (by simp[hy]);exact⟨j,by simp only[M4,h x (by simp),Cr,hj,Axc]⟩
theorem A96{e:Ab}(h:B1 e):∀L,maxLen+dE e<L->N1 L e=some (Yt e):=by
 induction h with
 |mk a0 a1 a2 a3 h0 h1 h2 h3 h4 ih=>
  intro L hL;obtain⟨L,rfl⟩:∃k,L=k+1:=⟨L-1,by omega⟩;rw[dE]at hL;have hr:∀x∈a3,N1 L x=some (Yt x):=λx hx=>ih x hx L (by have:=Ai7 hx;omega);obtain⟨j,hj⟩:=A6t (N1 L) L (.mk a0 a1 a2 a3) a3 0 0 hr;simp only[Azl,q9,Apw,N1,q9,aN,aB,Ab.cp_eq,Ab.Op,Ab.aF,Ab.N,Ab.aY,Ab.eta,A03 _ _ (.mk a0 a1 a2 a3) _ h3 (show a3.length<L by omega),hj,Cr,Ip,Yt]
theorem A95(L:Nat)(op:Int):Aiu L op=some (Avf op):=by
 simp only[Aqb,Aiu,aN,aB,Avf,Ds,H3,F6]
 congr 1
 grind
theorem A6d(L:Nat)(op:Int):Zh L op=some (Av7 op):=by
 simp only[Anq,Zh,aN,aB,Av7,Ds]
theorem Ayq(L:Nat)(n:Int):Ale L n=some (inZ n):=by
 simp only[A2r,Ale,aN,aB,inZ,Ds]
theorem Bdo(L:Nat)(op:Int):Rs L op=some (if op=25 then 15 else if op=26 then 31 else 63):=by
 simp only[Atj,Rs,aN,aB,F6]
 congr 1
 grind
theorem Bav(Beg:Ab->Bool->Option Int)(L:Nat)(a1:Ab)(c:Bool):∀(k:List Ab) (i:Nat) (v:Int),(∀x∈k,Beg x c=some (Aq3 c x))->∃j,Lv Beg L c a1 k i v=some (bif Aq4 c k != 0 then(0,(Aq4 c k,j)) else(1,(v,j))):=by
 intro k
 induction k with
 |nil=>intro i v _;exact⟨i,rfl⟩
 |cons x k ih=>
  intro i v h;obtain⟨j,hj⟩:=ih (i+1) v λy hy=>h y (by simp[hy]);by_cases hx:Aq3 c x=0
  ·exact⟨j,by simp[Lv,h x (by simp),hj,Aq4,hx]⟩
  ·exact⟨(i:Int),by simp[Lv,h x (by simp),hj,Aq4,hx,W8 hx]⟩
theorem Bdp{e:Ab}(h:B1 e)(c:Bool):∀L,maxLen+dE e<L->O7 L e c=some (Aq3 c e):=by
 induction h with
 |mk a0 a1 a2 a3 h0 h1 h2 h3 h4 ih=>
  intro L hL;obtain⟨L,rfl⟩:∃k,L=k+1:=⟨L-1,by omega⟩;rw[dE]at hL;have hr:∀x∈a3,O7 L x c=some (Aq3 c x):=λx hx=>ih x hx L (by have:=Ai7 hx;omega);obtain⟨j,hj⟩:=Bav (O7 L) L (.mk a0 a1 a2 a3) c a3 0 0 hr;have h1':a1.size<=maxLen:=h1;have hm:(80:Nat)<maxLen:=by decide
  have hloop:(Option.bind (Ls (O7 L) L c (.mk a0 a1 a2 a3) L 0 0) λo=>Aov o.1 [some o.2.1,some 0])=some (Aq4 c a3):=by
   rw[A4a _ _ _ (.mk a0 a1 a2 a3) _ h3 (show a3.length<L by omega)];simp only[Ab.cp_eq,Ab.Op,Ab.aF,Ab.N,Ab.aY,Ab.eta,hj,Cr];by_cases h':Aq4 c a3=0
   ·simp[h',Sr]
   ·simp[Ip,W8 h']
  simp only[Ak7,Ad2,Adt,sx_R09_node_3,Ak6,sx_R09_node_2,Ak5,sx_R09_node_1,Ak4,sx_R09_node_0,A2u,As9,O7,Ad2,Adt,aN,aB,Ab.cp_eq,Ab.Op,Ab.aF,Ab.N,Ab.aY,Ab.eta,hloop,A95,A6d,Ayq,Bdo,Sa L a1 h1 (show a1.size<L by omega) (show 80<L by omega),Ie,Ds,H3,F6,Cr,Aq3]
  congr 1
  generalize Aq4 c a3=rest;unfold Av5 A9a Ayl;simp only[Ab.cp_eq,Ab.Op,Ab.aF,Ab.N,Ab.aY,Ab.eta];clear hj hloop hr ih h4 h0 h1 h2 h3 h1' hL hm;have hop:=Bu3 a0;rcases hop with rfl|rfl|rfl|rfl|rfl|rfl|rfl|rfl|rfl|rfl|rfl|rfl|rfl|rfl|rfl|rfl|rfl|rfl|rfl|rfl|rfl|rfl|rfl|rfl|rfl|rfl|hop|hop<;>cases c
  all_goals first|(simp[Agt,Ar8,Av7,Avf];done)|(simp[Agt,Ar8,Av7,Avf];grind)|grind [Agt,Ar8,Av7,Avf]
theorem Av9{e:Ab}(h:B1 e)(c:Bool)(L:Nat)(hL:maxLen+dE e<L):Aea L e c=some (D2 c e):=by
 simp only[Aqd,Aea,aN,aB,Ab.cp_eq,A97 h L hL,A96 h L hL,Bdp h c L hL,Cr,F6,D2]
 congr 1
 grind
theorem Aok{e:Ab}(h:B1 e)(L:Nat)(hL:maxLen+dE e<L):Rm L e=some (D2 false e):=by
 simp only[Aqc,Rm,aN,aB,Ab.cp_eq,Av9 h _ L hL,Cr]
def B0i:Yb:=⟨#[118,97,114]⟩
def Bc9:Yb:=⟨#[114,101,115,111,117,114,99,101]⟩
def Are:Yb:=⟨#[115,116,111,114,101]⟩
def Btp:Yb:=⟨#[98,101,108,116]⟩
def Bni:Yb:=⟨#[113,117,101,117,101]⟩
def Bke:Yb:=⟨#[115,116,114,101,97,109]⟩
def Bnj:Yb:=⟨#[116,97,108,108,121]⟩
def Bnh:Yb:=⟨#[108,101,118,101,108]⟩
def Ard:Yb:=⟨#[99,111,117,110,116]⟩
def Ah0:Yb:=⟨#[114,111,117,116,105,110,101]⟩
theorem Awk(L:Nat)(l:List Al)(s:Aa)(n:Yb):∀(k:List Al) (i:Nat) (v:Int),Hq L l s n k i v=some (match k.findIdx? (λx=>x.aF.toList == n.toList) with|some j=>(0,(((i+j:Nat):Int),((i+j:Nat):Int)))|none=>(1,(v,((i+k.length:Nat):Int)))):=by
 intro k
 induction k with
 |nil=>intro i v;rfl
 |cons x k ih=>
  intro i v;rw[Hq,ih,List.findIdx?_cons];cases hc:(λx=>x.aF.toList == n.toList) x with
  |true=>simp only[hc,cond_true,if_true];rfl
  |false=>
   simp only[hc,cond_false,if_false,Bool.false_eq_true];cases k.findIdx? (λx=>x.aF.toList == n.toList) with
   |some j=>simp[Nat.add_assoc,Nat.add_comm 1]
   |none=>simp[Nat.add_assoc,Nat.add_comm 1]
theorem Apt(L:Nat)(l:List Al)(s:Aa)(n:Yb)(hl:l.length<=maxLen)(hL:l.length<L):R3 L l s n=some (Zc (l.findIdx? (λx=>decide (x.aF=n)))):=by
 simp only[R3,Ahx,Yy,aN,aB,Asg _ _ _ _ _ hl hL,Awk,Ie,Cr];cases l.findIdx? (λx=>decide (x.aF=n)) with
 |none=>rfl
 |some i=>simp[Zc,Ip]
theorem Amd(L:Nat)(l:List Yb)(n:Yb):∀(k:List Yb) (i:Nat) (v:Int),D6 L l n k i v=some (match k.findIdx? (λx=>n.toList == x.toList) with|some j=>(0,(((i+j:Nat):Int),((i+j:Nat):Int)))|none=>(1,(v,((i+k.length:Nat):Int)))):=by
 intro k
 induction k with
 |nil=>intro i v;rfl
 |cons x k ih=>
  intro i v;rw[D6,ih,List.findIdx?_cons];cases hc:(λx=>n.toList == x.toList) x with
  |true=>simp only[hc,cond_true,if_true];rfl
  |false=>
   simp only[hc,cond_false,if_false,Bool.false_eq_true];cases k.findIdx? (λx=>n.toList == x.toList) with
   |some j=>simp[Nat.add_assoc,Nat.add_comm 1]
   |none=>simp[Nat.add_assoc,Nat.add_comm 1]
theorem Aoo(L:Nat)(l:List Yb)(n:Yb)(hl:l.length<=maxLen)(hL:l.length<L):Na L l n=some (Zc (l.findIdx? (λx=>decide (n=x)))):=by
 simp only[Na,Abb,P7,aN,aB,Air _ _ _ _ hl hL,Amd,Ie,Cr];cases l.findIdx? (λx=>decide (n=x)) with
 |none=>rfl
 |some i=>simp[Zc,Ip]
def Ae1(s:Aa)(n:Yb):Int:=Zc (s.aD.findIdx? λx=>decide (x.aF=n))
theorem Amc(L:Nat)(s:Aa)(n:Yb)(hl:s.aD.length<=maxLen)(hL:s.aD.length<L):J8 L s n=some (Ae1 s n):=by
 simp only[Ao0,Sb,J8,Sb,aN,aB,Apt L _ s n hl hL,Cr,Ae1]
def Bnw(s:Aa)(n:Yb):Yb×Int:=
 bif s.bX.any (λx=>decide (x.aF=n)) then(B0i,Zc (s.bX.findIdx? λx=>decide (x.aF=n)))
 else bif s.aG.any (λx=>decide (x.aF=n)) then(Bc9,Zc (s.aG.findIdx? λx=>decide (x.aF=n)))
 else bif s.aL.any (λx=>decide (x.aF=n)) then(Are,Zc (s.aL.findIdx? λx=>decide (x.aF=n)))
 else bif s.bN.any (λx=>decide (x.aF=n)) then(Btp,Zc (s.bN.findIdx? λx=>decide (x.aF=n)))
 else bif s.bH.any (λx=>decide (n=x)) then(Bni,Zc (s.bH.findIdx? λx=>decide (n=x)))
 else bif s.bB.any (λx=>decide (n=x)) then(Bke,Zc (s.bB.findIdx? λx=>decide (n=x)))
 else bif s.bG.any (λx=>decide (n=x)) then(Bnj,Zc (s.bG.findIdx? λx=>decide (n=x)))
 else bif s.bP.any (λx=>decide (n=x)) then(Bnh,Zc (s.bP.findIdx? λx=>decide (n=x)))
 else bif s.bF.any (λx=>decide (n=x)) then(Ard,Zc (s.bF.findIdx? λx=>decide (n=x)))
 else bif s.aD.any (λx=>decide (x.aF=n)) then(Ah0,Ae1 s n)
 else(⟨#[]⟩,-1)
def A0f(s:Aa)(n:Yb):Yb:=(Bnw s n).1
def Ah4(s:Aa)(m:Nat):Prop:=s.bX.length<=m/\s.aG.length<=m/\s.aL.length<=m/\s.bN.length<=m/\s.bH.length<=m/\s.bB.length<=m/\s.bG.length<=m/\s.bP.length<=m/\s.bF.length<=m/\s.aD.length<=m
theorem B8.len{s:Aa}(h:B8 s):Ah4 s maxLen:=by
 unfold B8 at h;unfold Ah4;simp only[h,and_self]
theorem A6x(L:Nat)(s:Aa):∀(k:List Aw) (i:Nat) (v:List Yb),v.length+k.length<=1099511627776->∃j,Js L s k i v=some (0,(j,v++k.map (λx=>x.aF))):=by
 intro k
 induction k with
 |nil=>intro i v _;exact⟨_,by rw[Js,List.map_nil,List.append_nil]⟩
 |cons x k ih=>
  intro i v h;rw[List.length_cons]at h;obtain⟨j,hj⟩:=ih (i+1) (v++ [(λx=>x.aF) x]) (by simp only[List.length_append,List.length_cons,List.length_nil];omega);refine⟨j,?_⟩;rw[Js];have hM:=Br;simp only[List.length_cons,List.length_nil]
  repeat rw[ifp (by omega)]
  rw[hj,List.append_assoc];rfl
theorem A6y(L:Nat)(s:Aa)(o1:Nat×(Int×List Yb)):∀(k:List Aj) (i:Nat) (v:List Yb),v.length+k.length<=1099511627776->∃j,Jt L s o1 k i v=some (0,(j,v++k.map (λx=>x.aF))):=by
 intro k
 induction k with
 |nil=>intro i v _;exact⟨_,by rw[Jt,List.map_nil,List.append_nil]⟩
 |cons x k ih=>
  intro i v h;rw[List.length_cons]at h;obtain⟨j,hj⟩:=ih (i+1) (v++ [(λx=>x.aF) x]) (by simp only[List.length_append,List.length_cons,List.length_nil];omega);refine⟨j,?_⟩;rw[Jt];have hM:=Br;simp only[List.length_cons,List.length_nil]
  repeat rw[ifp (by omega)]
  rw[hj,List.append_assoc];rfl
theorem A6z(L:Nat)(s:Aa)(o1 o2:Nat×(Int×List Yb)):∀(k:List Ar) (i:Nat) (v:List Yb),v.length+k.length<=1099511627776->∃j,Ju L s o1 o2 k i v=some (0,(j,v++k.map (λx=>x.aF))):=by
 intro k
 induction k with
 |nil=>intro i v _;exact⟨_,by rw[Ju,List.map_nil,List.append_nil]⟩
 |cons x k ih=>
  intro i v h;rw[List.length_cons]at h;obtain⟨j,hj⟩:=ih (i+1) (v++ [(λx=>x.aF) x]) (by simp only[List.length_append,List.length_cons,List.length_nil];omega);refine⟨j,?_⟩;rw[Ju];have hM:=Br;simp only[List.length_cons,List.length_nil]
  repeat rw[ifp (by omega)]
  rw[hj,List.append_assoc];rfl
theorem A60(L:Nat)(s:Aa)(o1 o2 o3:Nat×(Int×List Yb)):∀(k:List Bg) (i:Nat) (v:List Yb),v.length+k.length<=1099511627776->∃j,Jv L s o1 o2 o3 k i v=some (0,(j,v++k.map (λx=>x.aF))):=by
 intro k
 induction k with
 |nil=>intro i v _;exact⟨_,by rw[Jv,List.map_nil,List.append_nil]⟩
 |cons x k ih=>
  intro i v h;rw[List.length_cons]at h;obtain⟨j,hj⟩:=ih (i+1) (v++ [(λx=>x.aF) x]) (by simp only[List.length_append,List.length_cons,List.length_nil];omega);refine⟨j,?_⟩;rw[Jv];have hM:=Br;simp only[List.length_cons,List.length_nil]
  repeat rw[ifp (by omega)]
  rw[hj,List.append_assoc];rfl
theorem A61(L:Nat)(s:Aa)(o1 o2 o3 o4:Nat×(Int×List Yb)):∀(k:List Al) (i:Nat) (v:List Yb),v.length+k.length<=1099511627776->∃j,Jw L s o1 o2 o3 o4 k i v=some (0,(j,v++k.map (λx=>x.aF))):=by
 intro k
 induction k with
 |nil=>intro i v _;exact⟨_,by rw[Jw,List.map_nil,List.append_nil]⟩
 |cons x k ih=>
  intro i v h;rw[List.length_cons]at h;obtain⟨j,hj⟩:=ih (i+1) (v++ [(λx=>x.aF) x]) (by simp only[List.length_append,List.length_cons,List.length_nil];omega);refine⟨j,?_⟩;rw[Jw];have hM:=Br;simp only[List.length_cons,List.length_nil]
  repeat rw[ifp (by omega)]
  rw[hj,List.append_assoc];rfl
def Hv(s:Aa):List (List Yb):= [s.bX.map λx=>x.aF,s.aG.map λx=>x.aF,s.aL.map λx=>x.aF,s.bN.map λx=>x.aF,s.bH,s.bB,s.bG,s.bP,s.bF,s.aD.map λx=>x.aF]
theorem Aol(L:Nat)(s:Aa)(h:Ah4 s 1099511627776)(hL:maxLen<L):Y0 L s=some (Hv s):=by
 obtain⟨h0,h1,h2,h3,h4,h5,h6,h7,h8,h9⟩:=h;rw[Br]at hL;obtain⟨j1,e1⟩:=A6x L s s.bX 0 [] (by simpa using h0);obtain⟨j2,e2⟩:=A6y L s (0,(j1,[]++s.bX.map λx=>x.aF)) s.aG 0 [] (by simpa using h1);obtain⟨j3,e3⟩:=A6z L s (0,(j1,[]++s.bX.map λx=>x.aF)) (0,(j2,[]++s.aG.map λx=>x.aF)) s.aL 0 [] (by simpa using h2);obtain⟨j4,e4⟩:=A60 L s (0,(j1,[]++s.bX.map λx=>x.aF)) (0,(j2,[]++s.aG.map λx=>x.aF)) (0,(j3,[]++s.aL.map λx=>x.aF)) s.bN 0 [] (by simpa using h3);obtain⟨j5,e5⟩:=A61 L s (0,(j1,[]++s.bX.map λx=>x.aF)) (0,(j2,[]++s.aG.map λx=>x.aF)) (0,(j3,[]++s.aL.map λx=>x.aF)) (0,(j4,[]++s.bN.map λx=>x.aF)) s.aD 0 [] (by simpa using h9);simp only[Azr,Aia,Aat,Aib,Aau,x0,Aav,Aic,Aaw,x9,Y0,Aia,Aat,Aib,Aau,x0,Aav,Aic,Aaw,x9,aN,aB,A09 L s L (by rw[Br];omega) (by omega),e1,Cr,Ip,A1a L s _ L (by rw[Br];omega) (by omega),e2,A1b L s _ _ L (by rw[Br];omega) (by omega),e3,A1c L s _ _ _ L (by rw[Br];omega) (by omega),e4,A1d L s _ _ _ _ L (by rw[Br];omega) (by omega),e5]
 repeat rw[ifp (by omega)]
 rfl
theorem Bmi(l:List Yb)(s:Yb):decide (A56 l s>=0)=l.any (λx=>decide (x=s)):=Avr _ _
theorem Bds(L:Nat)(s:Aa)(n:Yb)(h:Ah4 s 1099511627776)(hL:maxLen<L):Ank L s n=some (A0f s n):=by
 have hM:=Br;have hh:=h;obtain⟨h0,h1,h2,h3,h4,h5,h6,h7,h8,h9⟩:=hh;have hn:=Aol L s h hL;have hf:∀l:List Yb,l.length<=1099511627776->J7 L l n=some (A56 l n):=λl hl=>Aeu L l n (by omega) (by omega);have e:∀ {α :Type} (l:List α) (f: α->Yb),l.length<=1099511627776->J7 L (l.map f) n=some (A56 (l.map f) n):=λl f hl=>hf _ (by rw[List.length_map];exact hl);simp only[A2w,Ad3,Adv,Ank,Ad3,Adv,aN,aB,hn,Cr,A4c L n (Hv s) s L (by simp only[Hv,List.length_cons,List.length_nil];omega) (by simp only[Hv,List.length_cons,List.length_nil];omega)];simp only[Hv,S4,e _ _ h0,e _ _ h1,e _ _ h2,e _ _ h3,hf _ h4,hf _ h5,hf _ h6,hf _ h7,hf _ h8,e _ _ h9,Cr,Bmi,List.any_map,List.length_cons,List.length_nil,Int.toNat_natCast]
 repeat rw[ifp (by omega)]
 simp only[A0f,Bnw,F6,Cr,Function.comp_def];have e2:∀l:List Yb,(l.any λx=>decide (x=n))=l.any λx=>decide (n=x):=λl=>by simp only[eq_comm]
 simp only[e2];cases s.bX.any (λx=>decide (x.aF=n)) with|true=>rfl|false=>?_
 cases s.aG.any (λx=>decide (x.aF=n)) with|true=>rfl|false=>?_
 cases s.aL.any (λx=>decide (x.aF=n)) with|true=>rfl|false=>?_
 cases s.bN.any (λx=>decide (x.aF=n)) with|true=>rfl|false=>?_
 cases s.bH.any (λx=>decide (n=x)) with|true=>rfl|false=>?_
 cases s.bB.any (λx=>decide (n=x)) with|true=>rfl|false=>?_
 cases s.bG.any (λx=>decide (n=x)) with|true=>rfl|false=>?_
 cases s.bP.any (λx=>decide (n=x)) with|true=>rfl|false=>?_
 cases s.bF.any (λx=>decide (n=x)) with|true=>rfl|false=>?_
 cases s.aD.any (λx=>decide (x.aF=n))<;>rfl
def o2:Option Int->Int×Bool
 |some t=>(t,true)
 |none=>(0,false)
theorem A35(s:Aa):Ah4 s (Dm s):=by
 unfold Ah4 Dm;have h0:s.bX.length<=F7 Vd s.bX:=Iq λx=>by unfold Vd;omega
 have h1:s.aG.length<=F7 Ey s.aG:=Iq λx=>by unfold Ey;omega
 have h2:s.aL.length<=F7 Qo s.aL:=Iq λx=>by unfold Qo;omega
 have h3:s.bN.length<=F7 Sm s.bN:=Iq λx=>by unfold Sm;omega
 have h4:s.bH.length<=F7 (λz:Yb=>z.size+1) s.bH:=Iq λx=>by omega
 have h5:s.bB.length<=F7 (λz:Yb=>z.size+1) s.bB:=Iq λx=>by omega
 have h6:s.bG.length<=F7 (λz:Yb=>z.size+1) s.bG:=Iq λx=>by omega
 have h7:s.bP.length<=F7 (λz:Yb=>z.size+1) s.bP:=Iq λx=>by omega
 have h8:s.bF.length<=F7 (λz:Yb=>z.size+1) s.bF:=Iq λx=>by omega
 have h9:s.aD.length<=F7 Gg s.aD:=Iq λx=>by unfold Gg;omega
 refine⟨?_,?_,?_,?_,?_,?_,?_,?_,?_,?_⟩<;>omega
theorem Ah4.mono{s:Aa}{m n:Nat}(h:Ah4 s m)(hm:m<=n):Ah4 s n:=by
 obtain⟨h0,h1,h2,h3,h4,h5,h6,h7,h8,h9⟩:=h;exact⟨by omega,by omega,by omega,by omega,by omega,by omega,by omega,by omega,by omega,by omega⟩
mutual
theorem A3o:∀e:Ab,dE e<=B5 e
 | .mk a b c k=>by
  rw[dE,B5];have:=Bl9 k;omega
theorem Bl9:∀k:List Ab,dEs k<=Rx k
 | []=>by simp[dEs]
 |x::k=>by
  rw[dEs,Rx];have:=A3o x;have:=Bl9 k;omega
end
theorem Ari{a b:Int}(h:¬a=b):(a != b)=true:=bne_iff_ne.2 h
theorem Aoa{α :Type} [Inhabited α](l:List α)(i:Nat)(h:i<l.length):l.drop i=l.getD i default::l.drop (i+1):=by
 rw[List.drop_eq_getElem_cons h,J4 l i h]
theorem Arp(L:Nat)(a0 a1:List Int):∀(k:List Int) (i:Nat) (v:Bool),i+k.length=a1.length->∃j,F0 L a0 a1 k i v=some (bif decide (k=a1.drop i) then(1,(v,j)) else(0,(false,j))):=by
 intro k
 induction k with
 |nil=>
  intro i v h;refine⟨i,?_⟩;have:a1.drop i= []:=List.drop_eq_nil_of_le (by simp at h;omega);rw[this];rfl
 |cons x k ih=>
  intro i v h;rw[List.length_cons]at h;obtain⟨j,hj⟩:=ih (i+1) v (by omega);have hi:i<a1.length:=by omega
  rw[F0,Aoa a1 i hi,ifp (show(i:Int)<(a1.length:Int) by omega),hj,toN];generalize a1.getD i default=y;by_cases hx:x=y
  ·refine⟨j,?_⟩;subst hx;simp
  ·exact⟨i,by simp[hx,Ari hx]⟩
theorem Af8(L:Nat)(a b:List Int)(ha:a.length<=maxLen)(hL:maxLen<L):Ep L a b=some (decide (a=b)):=by
 simp only[Ahn,Nk,Ni,Ep,Nk,Ni,aN,aB,Aoi L a b L ha (by omega)];by_cases h:(a.length:Int)=(b.length:Int)
 ·obtain⟨j,hj⟩:=Arp L a b a 0 false (by omega);rw[hj,List.drop_zero];by_cases hab:a=b
  ·simp[hab,Sr]
  ·simp[hab,h,Ip]
 ·have:a≠b:=by rintro rfl;exact h rfl
  simp[this,Ari h]
theorem Ay0(L:Nat)(a0 a1:List Int):∀(k:List Int) (i:Nat) (v:Bool),i+k.length=a1.length->∃j,H9 L a0 a1 k i v=some (bif decide (k=a1.drop i) then(1,(v,j)) else(0,(false,j))):=by
 intro k
 induction k with
 |nil=>
  intro i v h;refine⟨i,?_⟩;have:a1.drop i= []:=List.drop_eq_nil_of_le (by simp at h;omega);rw[this];rfl
 |cons x k ih=>
  intro i v h;rw[List.length_cons]at h;obtain⟨j,hj⟩:=ih (i+1) v (by omega);have hi:i<a1.length:=by omega
  rw[H9,Aoa a1 i hi,ifp (show(i:Int)<(a1.length:Int) by omega),hj,toN];generalize a1.getD i default=y;by_cases hx:x=y
  ·refine⟨j,?_⟩;subst hx;simp
  ·exact⟨i,by simp[hx,Ari hx]⟩
theorem Ape(L:Nat)(a b:List Int)(ha:a.length<=maxLen)(hL:maxLen<L):T9 L a b=some (decide (a=b)):=by
 simp only[Ap9,Tx,Tp,T9,Tx,Tp,aN,aB,At1 L a b L ha (by omega)];by_cases h:(a.length:Int)=(b.length:Int)
 ·obtain⟨j,hj⟩:=Ay0 L a b a 0 false (by omega);rw[hj,List.drop_zero];by_cases hab:a=b
  ·simp[hab,Sr]
  ·simp[hab,h,Ip]
 ·have:a≠b:=by rintro rfl;exact h rfl
  simp[this,Ari h]
def Aga(a b:Bk):Bool:=a.Op == b.Op && a.A == b.A && a.B == b.B && a.N == b.N && decide (a.aW=b.aW) && decide (a.aU=b.aU)
def okD(d:Bk):Prop:=d.aW.length<=1099511627776/\d.aU.length<=1099511627776
theorem Agv(L:Nat)(a b:Bk)(ha:okD a)(hL:maxLen<L):Lm L a b=some (Aga a b):=by
 have hM:=Br;obtain⟨h1,h2⟩:=ha;simp only[Aqt,Lm,aN,aB,Af8 L a.aW b.aW (by omega) hL,Af8 L a.aU b.aU (by omega) hL,Cr,F6,Ds,Aga]
theorem Ajj(L:Nat)(a b:Bk)(ha:okD a)(hL:maxLen<L):Yl L a b=some (Aga a b):=by
 have hM:=Br;obtain⟨h1,h2⟩:=ha;simp only[Ath,Yl,aN,aB,Ape L a.aW b.aW (by omega) hL,Ape L a.aU b.aU (by omega) hL,Cr,F6,Ds,Aga]
def Bn(lo hi x:Int):Bool:=decide (lo<=x) && decide (x<=hi)
def Axd(d:Bk):Bool:=decide (d.aW.length=0) && decide (d.aU.length=0)
def Ag0(d:Bk):Bool:=
 if d.Op=1 then Axd d && d.B == 0 && d.N == 0
 else if d.Op=2\/d.Op=5 then Axd d && d.N == 0
 else if d.Op=4 then Axd d
 else if d.Op=3 then d.A == 0 && d.B == 0 && d.N == 0
 else false
def Bbh(d:Bk):Int:=
 if d.aW.length≠d.aU.length then 8 else if d.aW.length=0 then 7 else if 20<d.aW.length then 6
 else if d.aW.all (Bn 0 1000000000) && d.aU.all (Bn 1 1000)then 0 else 2
def Ao5(d:Bk):Int:=
 if Ag0 d=false then 1
 else if d.Op=1 then(if Bn 0 1000000000 d.A then 0 else 2)
 else if d.Op=2 then(if Bn 0 1000000000 d.A && Bn 0 1000000000 d.B && decide (d.A<=d.B)then 0 else 2)
 else if d.Op=3 then Bbh d
 else if d.Op=4 then(if Bn 1 20 d.N && Bn 0 1000000 d.A && Bn 0 1000000 d.B && decide (d.A<=d.B)then 0 else 2)
 else(if Bn 1 1000 d.A && Bn 1 1000 d.B then 0 else 2)
theorem Bdb(n:Nat):((n:Int) == 0)=decide (n=0):=by
 cases h:((n:Int) == 0) with
 |true=>have:=eq_of_beq h;exact(decide_eq_true (by omega)).symm
 |false=>symm;apply decide_eq_false;rintro rfl;cases h
theorem Bmf{d:Bk}(h:okD d):(Bu ((d.aW.length:Int)+(d.aU.length:Int)) == 0)=Axd d:=by
 obtain⟨h1,h2⟩:=h;rw[No (by omega) (by omega),show(d.aW.length:Int)+(d.aU.length:Int)=((d.aW.length+d.aU.length:Nat):Int) by omega,Bdb];unfold Axd;rw[<-Bool.decide_and];exact decide_eq_decide.2 (by omega)
theorem A4x(L:Nat)(d:Bk)(h:okD d):Ac9 L d=some (Ag0 d):=by
 simp only[Ake,Ac9,aN,aB,Bmf h,F6,Ds,H3,Ag0]
 congr 1
 by_cases h1:d.Op=1
 ·simp[h1]
 by_cases h2:d.Op=2
 ·simp[h2]
 by_cases h3:d.Op=3
 ·simp[h3]
 by_cases h4:d.Op=4
 ·simp[h4]
 by_cases h5:d.Op=5
 ·simp[h5]
 simp[h1,h2,h3,h4,h5,beq_false_of_ne h1,beq_false_of_ne h2,beq_false_of_ne h3,beq_false_of_ne h4,beq_false_of_ne h5]
theorem A6c(L:Nat)(d:Bk):Age L d=some (Ag0 d):=by
 simp only[Ano,Age,aN,aB,Bdb,F6,Ds,H3,Ag0,Axd]
 congr 1
 by_cases h1:d.Op=1
 ·simp[h1,Bool.and_comm,Bool.and_left_comm]
 by_cases h2:d.Op=2
 ·simp[h2,Bool.and_comm]
 by_cases h3:d.Op=3
 ·simp[h3]
 by_cases h4:d.Op=4
 ·simp[h4]
 by_cases h5:d.Op=5
 ·simp[h5,Bool.and_comm]
 simp[h1,h2,h3,h4,h5,beq_false_of_ne h1,beq_false_of_ne h2,beq_false_of_ne h3,beq_false_of_ne h4,beq_false_of_ne h5]
theorem A1q(L:Nat)(p:List Int)(lo hi:Int):∀(k:List Int) (i:Nat) (v:Int),∃j:Nat,Jb L p lo hi k i v=some (bif k.all (Bn lo hi) then(1,(v,(j:Int))) else(0,((j:Int),(j:Int)))):=by
 intro k
 induction k with
 |nil=>intro i v;exact⟨i,rfl⟩
 |cons x k ih=>
  intro i v;obtain⟨j,hj⟩:=ih (i+1) v;rw[Jb,hj,List.all_cons];by_cases h1:x<lo
  ·refine⟨i,?_⟩;have:Bn lo hi x=false:=by unfold Bn;simp;omega
   simp[h1,this]
  ·by_cases h2:x>hi
   ·refine⟨i,?_⟩;have:Bn lo hi x=false:=by unfold Bn;simp;omega
    simp[h1,h2,this]
   ·refine⟨j,?_⟩;have:Bn lo hi x=true:=by unfold Bn;simp;omega
    simp[h1,h2,this]
theorem m7(L:Nat)(lo hi:Int)(l:List Int)(hl:l.length<=1099511627776)(hL:maxLen<L):Gn L lo hi l=some (l.all (Bn lo hi)):=by
 have hM:=Br;obtain⟨j,hj⟩:=A1q L l lo hi l 0 0;simp only[Asq,Vv,Gn,Vv,Abt,Alr,Aci,aN,aB,Av0 L l lo hi L (by omega) (by omega),hj,Cr];cases l.all (Bn lo hi) with
 |true=>rfl
 |false=>simp[Ip]
theorem Adp(L:Nat)(d:Bk)(h:okD d)(hL:maxLen<L):F4 L d=some (Ao5 d):=by
 have hh:=h;obtain⟨h1,h2⟩:=hh;have w1:∀lo hi a,Gn L lo hi [a]=some (Bn lo hi a):=λlo hi a=>by rw[m7 L lo hi [a] (by simp) hL];simp
 have w2:∀lo hi a b,Gn L lo hi [a,b]=some (Bn lo hi a && Bn lo hi b):=λlo hi a b=>by rw[m7 L lo hi [a,b] (by simp) hL];simp
 simp only[Anz,F4,aN,aB,A4x L d h,w1,w2,m7 L _ _ _ h1 hL,m7 L _ _ _ h2 hL,Cr,F6,Ds,Ao5,Bbh]
 congr 1
 cases hu:Ag0 d with
 |false=>simp
 |true=>
  simp only[Bool.not_true,cond_false,if_false,Bool.true_eq_false];unfold Ag0 at hu;by_cases e1:d.Op=1
  ·simp[e1]<;>grind
  by_cases e2:d.Op=2
  ·simp[e2]<;>grind
  by_cases e3:d.Op=3
  ·have q1:((d.aW.length:Int) != (d.aU.length:Int))=decide (d.aW.length≠d.aU.length):=by
    rw[Bool.eq_iff_iff];simp;omega
   have q2:decide ((d.aW.length:Int)>20)=decide (20<d.aW.length):=decide_eq_decide.2 (by omega);simp only[e3,q1,q2,Bdb];clear h h1 h2 w1 w2 q1 q2 hu e1 e2 e3;generalize d.aW.length=nv;generalize d.aU.length=nw;generalize d.aW.all (Bn 0 1000000000)=x;generalize d.aU.all (Bn 1 1000)=y;by_cases c1:nv=nw
   ·subst c1;by_cases c2:nv=0<;>by_cases c3:20<nv<;>cases x<;>cases y<;>simp[c2,c3]
   ·simp[c1]
  by_cases e4:d.Op=4
  ·simp[e4]<;>grind
  by_cases e5:d.Op=5
  ·simp[e5]<;>grind
  simp[e1,e2,e3,e4,e5]at hu
theorem Ark(L:Nat)(x lo hi:Int):Ew L x lo hi=some (Bn lo hi x):=by
 simp only[Aj9,Ew,aN,aB,Ds,Bn]
theorem A6s(L:Nat)(d:Bk):∀(k:List Int) (i:Nat) (v:Int),i+k.length=d.aU.length->∃j,M3 L d k i v=some (bif k.all (Bn 0 1000000000) && (d.aU.drop i).all (Bn 1 1000) then(1,(v,j)) else(0,(2,j))):=by
 intro k
 induction k with
 |nil=>
  intro i v h;refine⟨i,?_⟩;have:d.aU.drop i= []:=List.drop_eq_nil_of_le (by simp at h;omega);rw[this];rfl
 |cons x k ih=>
  intro i v h;rw[List.length_cons]at h;obtain⟨j,hj⟩:=ih (i+1) v (by omega);have hi:i<d.aU.length:=by omega
  rw[M3,Aoa d.aU i hi,hj,List.all_cons,List.all_cons];simp only[Ark,Cr];rw[ifp (show(0:Int)<=(i:Int) by omega),ifp (show(i:Int)<(d.aU.length:Int) by omega),toN];cases h1:Bn 0 1000000000 x with
  |false=>exact⟨i,by simp⟩
  |true=>
   cases h2:Bn 1 1000 (d.aU.getD i default) with
   |false=>exact⟨i,by simp⟩
   |true=>exact⟨j,by simp⟩
theorem A94(L:Nat)(d:Bk)(h:okD d)(hL:maxLen<L):Ait L d=some (Bbh d):=by
 have hM:=Br;obtain⟨h1,h2⟩:=h;simp only[Azj,Aao,q7,Ait,Aao,q7,aN,aB,A02 L d L (by omega) (by omega),Bbh];by_cases e1:d.aW.length=d.aU.length
 ·obtain⟨j,hj⟩:=A6s L d d.aW 0 0 (by omega);rw[hj,List.drop_zero];by_cases e2:d.aW.length=0
  ·simp[e2,<-e1]
  ·by_cases e3:20<d.aW.length
   ·have q:(20:Int)<(d.aW.length:Int):=by omega
    have q2:((d.aW.length:Int) == 0)=false:=by rw[Bdb];exact decide_eq_false e2
    rw[e1]at q q2 e2 e3 ⊢;simp[q,q2,e2,e3]
   ·have q:¬(20:Int)<(d.aW.length:Int):=by omega
    have q2:((d.aW.length:Int) == 0)=false:=by rw[Bdb];exact decide_eq_false e2
    rw[e1]at q q2 e2 e3 ⊢;simp only[bne_self_eq_false,cond_false,q2,gt_iff_lt,q,decide_false,ne_eq,not_true_eq_false,if_false,e2,e3,Cr];cases d.aW.all (Bn 0 1000000000) && d.aU.all (Bn 1 1000)<;>rfl
 ·have:((d.aW.length:Int) != (d.aU.length:Int))=true:=Ari (by omega);simp[this,e1]
theorem Agu(L:Nat)(d:Bk)(h:okD d)(hL:maxLen<L):Rl L d=some (Ao5 d):=by
 simp only[Ap8,Rl,aN,aB,A6c,Ark,A94 L d h hL,Cr,F6,Ds,Ao5]
 congr 1
 cases hu:Ag0 d with
 |false=>simp
 |true=>
  simp only[Bool.not_true,cond_false,if_false,Bool.true_eq_false];unfold Ag0 at hu;by_cases e1:d.Op=1
  ·simp[e1]<;>grind
  by_cases e2:d.Op=2
  ·simp[e2]<;>unfold Bn<;>grind
  by_cases e3:d.Op=3
  ·simp[e3]
  by_cases e4:d.Op=4
  ·simp[e4]<;>unfold Bn<;>grind
  by_cases e5:d.Op=5
  ·simp[e5]<;>grind
  simp[e1,e2,e3,e4,e5]at hu
mutual
def dS:Ad->Nat
 | .mk _ _ _ _ _ _ _ _ b e=>max (dSs b) (dSs e)+1
def dSs:List Ad->Nat
 | []=>0
 |x::k=>max (dS x) (dSs k)
end
mutual
def ctS:Ad->Nat
 | .mk _ _ _ _ _ _ _ _ b e=>K7 b+K7 e+1
def K7:List Ad->Nat
 | []=>0
 |x::k=>ctS x+K7 k
end
theorem Bcg(s:Ad):dS s=max (dSs s.bD) (dSs s.bL)+1:=by cases s;rw[dS];simp only[Ad.cp_eq,Ad.eta,Ad.Op,Ad.aF,Ad.Of,Ad.E,Ad.F,Ad.aM,Ad.bE,Ad.bU,Ad.bD,Ad.bL]
theorem A3m(s:Ad):ctS s=K7 s.bD+K7 s.bL+1:=by cases s;rw[ctS];simp only[Ad.cp_eq,Ad.eta,Ad.Op,Ad.aF,Ad.Of,Ad.E,Ad.F,Ad.aM,Ad.bE,Ad.bU,Ad.bD,Ad.bL]
theorem Bia{x:Ad}{k:List Ad}(h:x∈k):dSs x.bD<dSs k/\dSs x.bL<dSs k:=by
 induction k with
 |nil=>cases h
 |cons a k ih=>
  rw[dSs];rcases List.mem_cons.1 h with rfl|h
  ·rw[Bcg];omega
  ·have:=ih h;omega
theorem A9b(s:Ad):1+(s.aF.size+1)+(s.Of.size+1)+B5 s.E+B5 s.F+(F7 B5 s.aM+1)+Lq s.bE+1+(Dw s.bD+1)+(Dw s.bL+1)+1=Eh s:=by
 rw[Aqz,Nq,Nq]<;>omega
theorem Bca{x:Ad}{k:List Ad}(h:x∈k):Eh x<=Dw k:=by
 rw[Nq];exact W9 h
theorem Blv(k:List Ad):k.length<=Dw k:=by
 rw[Nq];exact Iq λx=>by rw[<-A9b];omega
theorem Blu(k:List Ab):k.length<=F7 B5 k:=
 Iq λx=>by cases x;rw[B5];omega
mutual
theorem B6w:∀s:Ad,dS s<=Eh s
 | .mk a b c d e f g h i j=>by
  rw[dS,Eh];have:=Axa i;have:=Axa j;omega
theorem Axa:∀k:List Ad,dSs k<=Dw k
 | []=>by simp[dSs]
 |x::k=>by
  rw[dSs,Dw];have:=B6w x;have:=Axa k;omega
end
mutual
theorem Bzo:∀s:Ad,ctS s<=Eh s
 | .mk a b c d e f g h i j=>by
  rw[ctS,Eh];have:=Avj i;have:=Avj j;omega
theorem Avj:∀k:List Ad,K7 k<=Dw k
 | []=>by simp[K7]
 |x::k=>by
  rw[K7,Dw];have:=Bzo x;have:=Avj k;omega
end
theorem Amw{M:List Ad->Prop}(h:∀l:List Ad,(∀y∈l,Cx y/\M y.bD/\M y.bL)->M l){l:List Ad}(hl:∀y∈l,Cx y):M l:=by
 have key:∀s,Cx s->M s.bD/\M s.bL:=by
  intro s hs
  induction hs with
  |mk a0 a1 a2 a3 a4 a5 a6 a7 a8 a9 h0 h1 h2 h3 h4 h5 h5' h6 h7 h8 h8' h9 h9' ih8 ih9=>
   exact⟨h a8 λy hy=>⟨h8' y hy,ih8 y hy⟩,h a9 λy hy=>⟨h9' y hy,ih9 y hy⟩⟩
 exact h l λy hy=>⟨hl y hy,key y (hl y hy)⟩
theorem Cbb{s:Ad}(h:Cx s):okS s.aF/\okS s.Of/\B1 s.E/\B1 s.F/\(∀y∈s.aM,B1 y)/\Y5 s.bE/\(∀y∈s.bD,Cx y)/\(∀y∈s.bL,Cx y):=by
 cases h with
 |mk a0 a1 a2 a3 a4 a5 a6 a7 a8 a9 h0 h1 h2 h3 h4 h5 h5' h6 h7 h8 h8' h9 h9'=>exact⟨h1,h2,h3,h4,h5',h6,h8',h9'⟩
def Fu(L:Nat)(l:List Ad):Prop:=maxLen+1048576+dSs l<L/\Dw l<=1048576
theorem Fu.kid{L:Nat}{l:List Ad}(h:Fu (L+1) l){x:Ad}(hx:x∈l):Fu L x.bD/\Fu L x.bL:=by
 obtain⟨h1,h2⟩:=h;have:=Bia hx;have:=Bca hx;have:=A9b x;exact⟨⟨by omega,by omega⟩,⟨by omega,by omega⟩⟩
theorem Fu.len{L:Nat}{l:List Ad}(h:Fu (L+1) l):l.length<=maxLen/\l.length<L/\l.length<=1048576:=by
 obtain⟨h1,h2⟩:=h;have:=Blv l;have:=Br;exact⟨by omega,by omega,by omega⟩
theorem Fu.one{L:Nat}{l:List Ad}(h:Fu (L+1) l):∃k,L=k+1:=by
 obtain⟨h1,h2⟩:=h;have:=Br;exact⟨L-1,by omega⟩
theorem Fu.pos{L:Nat}{l:List Ad}(h:Fu L l):∃k,L=k+1:=by
 obtain⟨h1,h2⟩:=h;exact⟨L-1,by omega⟩
theorem A5c(rec:List Ad->Option Int)(L:Nat)(a0:List Ad):∀(k:List Ad) (i:Nat) (v:Nat),v+K7 k<=1048576+1048576->(∀x∈k,rec x.bD=some (K7 x.bD:Int)/\rec x.bL=some (K7 x.bL:Int))->∃j,Ii rec L a0 k i ((v+k.length:Nat):Int)=some (0,(((v+K7 k:Nat):Int),j)):=by
 intro k
 induction k with
 |nil=>intro i v _ _;exact⟨i,by rw[Ii,K7];rfl⟩
 |cons x k ih=>
  intro i v hb h;rw[K7,A3m]at hb;have hlen:k.length<=K7 k:=by
   clear ih h hb
   induction k with
   |nil=>simp
   |cons y k ih=>rw[K7,A3m,List.length_cons];omega
  obtain⟨h1,h2⟩:=h x (by simp);obtain⟨j,hj⟩:=ih (i+1) (v+1+K7 x.bD+K7 x.bL) (by omega) λy hy=>h y (by simp[hy]);refine⟨j,?_⟩;rw[Ii,h1,Cr,h2,Cr,List.length_cons,K7,A3m];rw[No (n:=(K7 x.bD:Int)+(K7 x.bL:Int)) (by omega) (by omega),No (by omega) (by omega)];rw[show((v+(k.length+1):Nat):Int)+((K7 x.bD:Int)+(K7 x.bL:Int))=((v+1+K7 x.bD+K7 x.bL+k.length:Nat):Int) by omega,hj]
  congr 3
  omega
theorem A6o{l:List Ad}(hl:∀y∈l,Cx y):∀L,Fu L l->Lc L l=some (K7 l:Int):=by
 refine Amw (M:=λl=>∀L,Fu L l->Lc L l=some (K7 l:Int)) ?_ hl;intro l ih L hF;obtain⟨L,rfl⟩:=hF.pos;obtain⟨n1,n2,n3⟩:=hF.len;have hc:=Avj l;obtain⟨j,hj⟩:=A5c (Lc L) L l l 0 0 (by have:=hF.2;omega) λx hx=>⟨(ih x hx).2.1 L (hF.kid hx).1,(ih x hx).2.2 L (hF.kid hx).2⟩;rw[Nat.zero_add,Nat.zero_add]at hj;simp only[Au5,X5,Anh,Lc,X5,aN,aB,Ayg _ L l L n1 n2,hj,Cr,Ip]
theorem A6v(rec:List Ad->Option Int)(L:Nat)(a0:List Ad):∀(k:List Ad) (i:Nat) (v:Nat),v+K7 k<=1048576+1048576->(∀x∈k,rec x.bD=some (K7 x.bD:Int)/\rec x.bL=some (K7 x.bL:Int))->∃j,Jq rec L a0 k i (v:Int)=some (0,(((v+K7 k:Nat):Int),j)):=by
 intro k
 induction k with
 |nil=>intro i v _ _;exact⟨i,by rw[Jq,K7];rfl⟩
 |cons x k ih=>
  intro i v hb h;rw[K7,A3m]at hb;obtain⟨h1,h2⟩:=h x (by simp);obtain⟨j,hj⟩:=ih (i+1) (v+1+K7 x.bD+K7 x.bL) (by omega) λy hy=>h y (by simp[hy]);refine⟨j,?_⟩;rw[Jq,h1,Cr,h2,Cr,K7,A3m];rw[No (n:=(v:Int)+1) (by omega) (by omega),No (n:=(v:Int)+1+(K7 x.bD:Int)) (by omega) (by omega),No (by omega) (by omega)];rw[show(v:Int)+1+(K7 x.bD:Int)+(K7 x.bL:Int)=((v+1+K7 x.bD+K7 x.bL:Nat):Int) by omega,hj]
  congr 3
  omega
theorem Bab{l:List Ad}(hl:∀y∈l,Cx y):∀L,Fu L l->N3 L l=some (K7 l:Int):=by
 refine Amw (M:=λl=>∀L,Fu L l->N3 L l=some (K7 l:Int)) ?_ hl;intro l ih L hF;obtain⟨L,rfl⟩:=hF.pos;obtain⟨n1,n2,n3⟩:=hF.len;have hc:=Avj l;obtain⟨j,hj⟩:=A6v (N3 L) L l l 0 0 (by have:=hF.2;omega) λx hx=>⟨(ih x hx).2.1 L (hF.kid hx).1,(ih x hx).2.2 L (hF.kid hx).2⟩;rw[Nat.zero_add]at hj;simp only[Azn,s8,Apy,N3,s8,aN,aB,A05 _ L l L n1 n2];rw[show(0:Int)=((0:Nat):Int)from rfl,hj];simp only[Cr,Ip]
theorem Bux(a b:Nat):(if(1+(a:Int))>(b:Int) then(1+(a:Int)) else(b:Int))=((max b (a+1):Nat):Int):=by
 split<;>omega
theorem A5d(rec:List Ad->Option Int)(L:Nat)(a0:List Ad):∀(k:List Ad) (i:Nat) (v:Nat),dSs k<=1048576->(∀x∈k,rec x.bD=some (dSs x.bD:Int)/\rec x.bL=some (dSs x.bL:Int))->∃j,Ij rec L a0 k i (v:Int)=some (0,(((max v (dSs k):Nat):Int),j)):=by
 intro k
 induction k with
 |nil=>intro i v _ _;exact⟨i,by rw[Ij,dSs,Nat.max_zero]⟩
 |cons x k ih=>
  intro i v hb h;rw[dSs,Bcg]at hb;obtain⟨h1,h2⟩:=h x (by simp);obtain⟨j,hj⟩:=ih (i+1) (max (max v (dSs x.bD+1)) (dSs x.bL+1)) (by omega) λy hy=>h y (by simp[hy]);refine⟨j,?_⟩;rw[Ij,h1,Cr,h2,Cr,dSs,Bcg];rw[No (n:=1+(dSs x.bD:Int)) (by omega) (by omega),No (n:=1+(dSs x.bL:Int)) (by omega) (by omega),Bux,Bux,hj]
  congr 3
  omega
theorem A6p{l:List Ad}(hl:∀y∈l,Cx y):∀L,Fu L l->Lf L l=some (dSs l:Int):=by
 refine Amw (M:=λl=>∀L,Fu L l->Lf L l=some (dSs l:Int)) ?_ hl;intro l ih L hF;obtain⟨L,rfl⟩:=hF.pos;obtain⟨n1,n2,n3⟩:=hF.len;have hc:=Axa l;obtain⟨j,hj⟩:=A5d (Lf L) L l l 0 0 (by have:=hF.2;omega) λx hx=>⟨(ih x hx).2.1 L (hF.kid hx).1,(ih x hx).2.2 L (hF.kid hx).2⟩;rw[Nat.zero_max]at hj;simp only[Au6,X6,Ani,Lf,X6,aN,aB,Ayh _ L l L n1 n2];rw[show(0:Int)=((0:Nat):Int)from rfl,hj];simp only[Cr,Ip]
theorem A6w(rec:List Ad->Option Int)(L:Nat)(a0:List Ad):∀(k:List Ad) (i:Nat) (v:Nat),dSs k<=1048576->(∀x∈k,rec x.bD=some (dSs x.bD:Int)/\rec x.bL=some (dSs x.bL:Int))->∃j,Jr rec L a0 k i (v:Int)=some (0,(((max v (dSs k):Nat):Int),j)):=by
 intro k
 induction k with
 |nil=>intro i v _ _;exact⟨i,by rw[Jr,dSs,Nat.max_zero]⟩
 |cons x k ih=>
  intro i v hb h;rw[dSs,Bcg]at hb;obtain⟨h1,h2⟩:=h x (by simp);obtain⟨j,hj⟩:=ih (i+1) (max (max v (dSs x.bD+1)) (dSs x.bL+1)) (by omega) λy hy=>h y (by simp[hy]);refine⟨j,?_⟩;rw[Jr,h1,Cr,h2,Cr,dSs,Bcg];rw[No (n:=1+(dSs x.bD:Int)) (by omega) (by omega),No (n:=1+(dSs x.bL:Int)) (by omega) (by omega),Bux,Bux,hj]
  congr 3
  omega
theorem Bac{l:List Ad}(hl:∀y∈l,Cx y):∀L,Fu L l->N4 L l=some (dSs l:Int):=by
 refine Amw (M:=λl=>∀L,Fu L l->N4 L l=some (dSs l:Int)) ?_ hl;intro l ih L hF;obtain⟨L,rfl⟩:=hF.pos;obtain⟨n1,n2,n3⟩:=hF.len;have hc:=Axa l;obtain⟨j,hj⟩:=A6w (N4 L) L l l 0 0 (by have:=hF.2;omega) λx hx=>⟨(ih x hx).2.1 L (hF.kid hx).1,(ih x hx).2.2 L (hF.kid hx).2⟩;rw[Nat.zero_max]at hj;simp only[Azo,s9,Apz,N4,s9,aN,aB,A06 _ L l L n1 n2];rw[show(0:Int)=((0:Nat):Int)from rfl,hj];simp only[Cr,Ip]
theorem ww1:Bu 1=1:=by kernel_rfl
theorem ww2:Bu 2=2:=by kernel_rfl
def Ae6(e:Ab):Bool:=e.Op == 0 && decide (e.aF=⟨#[]⟩) && e.N == 0 && decide (e.aY.length=0)
theorem Bdr(L:Nat)(e:Ab):Ag7 L e=some (Ae6 e):=by
 simp only[Atk,Ag7,aN,aB,Ie,Bdb,Ds,Ae6]
theorem Akt(L:Nat)(e:Ab)(hL:1<L):Lo L e (.mk 0 ⟨#[]⟩ 0 [])=some (Ae6 e):=by
 obtain⟨L,rfl⟩:∃k,L=k+1:=⟨L-1,by omega⟩;cases e with
 |mk a b c k=>
  simp only[Az0,Aa3,Aac,Ap0,Lo,Aa3,Aac,aN,aB,Ab.cp_eq,Ab.Op,Ab.aF,Ab.N,Ab.aY,Ab.eta,Ie,Ds,H3,List.length_nil,Ae6];by_cases h:k.length=0
  ·have hk:k= []:=List.length_eq_zero_iff.1 h;subst hk;rw[A1k _ L (.mk a b c []) _ L (Nat.zero_le _) (by simp only[Ab.cp_eq,Ab.Op,Ab.aF,Ab.N,Ab.aY,Ab.eta,List.length_nil];omega)];simp only[Ab.cp_eq,Ab.Op,Ab.aF,Ab.N,Ab.aY,Ab.eta,Qv,Cr,Sr,List.length_nil];by_cases h1:a=0
   ·by_cases h2:b=⟨#[]⟩
    ·by_cases h3:c=0
     ·simp[h1,h2,h3]
     ·simp[h1,h2,h3,Ari h3]
    ·simp[h1,h2]
   ·simp[Ari h1,h1]
  ·have:((k.length:Int) != ((0:Nat):Int))=true:=Ari (by omega);simp only[this,Bool.or_true,cond_true,h,decide_false,Bool.and_false]
theorem Bev(op:Int):op=1\/op=2\/op=3\/op=4\/op=5\/op=6\/op=7\/op=8\/op=9\/op=10\/op=11\/op=12\/op=13\/op=14\/op=15\/op=16\/op=17\/op=18\/op<1\/18<op:=by omega
def Amy(op:Int):Bs×Bool:=
 if op=1\/op=7\/op=8\/op=12\/op=15\/op=16\/op=17 then(⟨true,false,true,false,false,false,false,false,false⟩,true)
 else if op=2 then(⟨true,true,false,false,false,true,false,false,false⟩,true)
 else if op=3 then(⟨false,false,true,false,false,false,false,true,true⟩,true)
 else if op=4 then(⟨false,false,true,false,false,false,false,true,false⟩,true)
 else if op=5 then(⟨false,false,true,false,false,false,false,false,false⟩,true)
 else if op=6 then(⟨true,false,true,true,false,false,true,false,false⟩,true)
 else if op=9 then(⟨true,true,false,false,false,false,false,false,false⟩,true)
 else if op=10\/op=11 then(⟨true,false,false,false,false,false,false,false,false⟩,true)
 else if op=13 then(⟨true,true,true,false,true,false,false,false,false⟩,true)
 else if op=14 then(⟨true,false,true,false,true,false,false,false,false⟩,true)
 else if op=18 then(⟨false,false,false,false,false,false,false,false,false⟩,true)
 else(⟨false,false,false,false,false,false,false,false,false⟩,false)
def Arb(u:Bs):Cz:=⟨u.dP,u.fQ,u.fH,u.fM,u.dF,u.bO,u.eX,u.eZ,u.dZ⟩
theorem B6{op:Int}(h:op<1\/18<op)(n:Int)(h1:1<=n)(h2:n<=18):(op == n)=false:=beq_false_of_ne (by omega)
theorem Awv{op:Int}(h:op<1\/18<op):Amy op=(⟨false,false,false,false,false,false,false,false,false⟩,false):=by
 unfold Amy
 repeat rw[if_neg (by omega)]
theorem Baq(L:Nat)(op:Int):Aej L op=some (Amy op):=by
 simp only[Aak,sx_stmt_uses_3,Aii,sx_stmt_uses_2,Aih,sx_stmt_uses_0,Az1,Aej,aN,aB];have key:op<1\/18<op->_:=λh=>h;rcases Bev op with rfl|rfl|rfl|rfl|rfl|rfl|rfl|rfl|rfl|rfl|rfl|rfl|rfl|rfl|rfl|rfl|rfl|rfl|h|h
 case inr.inr.inr.inr.inr.inr.inr.inr.inr.inr.inr.inr.inr.inr.inr.inr.inr.inr.inl=>
  have h':op<1\/18<op:=.inl h;simp only[Awv h',B6 h',show(1:Int)<=1 by decide,cond_false,B6 h' 1 (by decide) (by decide),B6 h' 2 (by decide) (by decide),B6 h' 3 (by decide) (by decide),B6 h' 4 (by decide) (by decide),B6 h' 5 (by decide) (by decide),B6 h' 6 (by decide) (by decide),B6 h' 7 (by decide) (by decide),B6 h' 8 (by decide) (by decide),B6 h' 9 (by decide) (by decide),B6 h' 10 (by decide) (by decide),B6 h' 11 (by decide) (by decide),B6 h' 12 (by decide) (by decide),B6 h' 13 (by decide) (by decide),B6 h' 14 (by decide) (by decide),B6 h' 15 (by decide) (by decide),B6 h' 16 (by decide) (by decide),B6 h' 17 (by decide) (by decide),B6 h' 18 (by decide) (by decide)]
 case inr.inr.inr.inr.inr.inr.inr.inr.inr.inr.inr.inr.inr.inr.inr.inr.inr.inr.inr=>
  have h':op<1\/18<op:=.inr h;simp only[Awv h',cond_false,B6 h' 1 (by decide) (by decide),B6 h' 2 (by decide) (by decide),B6 h' 3 (by decide) (by decide),B6 h' 4 (by decide) (by decide),B6 h' 5 (by decide) (by decide),B6 h' 6 (by decide) (by decide),B6 h' 7 (by decide) (by decide),B6 h' 8 (by decide) (by decide),B6 h' 9 (by decide) (by decide),B6 h' 10 (by decide) (by decide),B6 h' 11 (by decide) (by decide),B6 h' 12 (by decide) (by decide),B6 h' 13 (by decide) (by decide),B6 h' 14 (by decide) (by decide),B6 h' 15 (by decide) (by decide),B6 h' 16 (by decide) (by decide),B6 h' 17 (by decide) (by decide),B6 h' 18 (by decide) (by decide)]
 all_goals rfl
theorem A79(L:Nat)(op:Int):Ap2 L op=some (Arb (Amy op).1,(Amy op).2):=by
 simp only[Ajz,sx_R10_Of_3,Ary,sx_R10_Of_2,Arx,sx_R10_Of_0,Bb3,Ap2,aN,aB];rcases Bev op with rfl|rfl|rfl|rfl|rfl|rfl|rfl|rfl|rfl|rfl|rfl|rfl|rfl|rfl|rfl|rfl|rfl|rfl|h|h
 case inr.inr.inr.inr.inr.inr.inr.inr.inr.inr.inr.inr.inr.inr.inr.inr.inr.inr.inl=>
  have h':op<1\/18<op:=.inl h;simp only[Awv h',cond_false,Arb,B6 h' 1 (by decide) (by decide),B6 h' 2 (by decide) (by decide),B6 h' 3 (by decide) (by decide),B6 h' 4 (by decide) (by decide),B6 h' 5 (by decide) (by decide),B6 h' 6 (by decide) (by decide),B6 h' 7 (by decide) (by decide),B6 h' 8 (by decide) (by decide),B6 h' 9 (by decide) (by decide),B6 h' 10 (by decide) (by decide),B6 h' 11 (by decide) (by decide),B6 h' 12 (by decide) (by decide),B6 h' 13 (by decide) (by decide),B6 h' 14 (by decide) (by decide),B6 h' 15 (by decide) (by decide),B6 h' 16 (by decide) (by decide),B6 h' 17 (by decide) (by decide),B6 h' 18 (by decide) (by decide)]
 case inr.inr.inr.inr.inr.inr.inr.inr.inr.inr.inr.inr.inr.inr.inr.inr.inr.inr.inr=>
  have h':op<1\/18<op:=.inr h;simp only[Awv h',cond_false,Arb,B6 h' 1 (by decide) (by decide),B6 h' 2 (by decide) (by decide),B6 h' 3 (by decide) (by decide),B6 h' 4 (by decide) (by decide),B6 h' 5 (by decide) (by decide),B6 h' 6 (by decide) (by decide),B6 h' 7 (by decide) (by decide),B6 h' 8 (by decide) (by decide),B6 h' 9 (by decide) (by decide),B6 h' 10 (by decide) (by decide),B6 h' 11 (by decide) (by decide),B6 h' 12 (by decide) (by decide),B6 h' 13 (by decide) (by decide),B6 h' 14 (by decide) (by decide),B6 h' 15 (by decide) (by decide),B6 h' 16 (by decide) (by decide),B6 h' 17 (by decide) (by decide),B6 h' 18 (by decide) (by decide)]
 all_goals rfl
def T4:Bk:=⟨0,0,0,0,[],[]⟩
def A0c(s:Ad)(u:Bs):Bool:=
 (u.dP || decide (s.aF=⟨#[]⟩)) && (u.fQ || decide (s.Of=⟨#[]⟩)) && (u.fH || Ae6 s.E) && (u.fM || Ae6 s.F) && (u.dF || decide (s.aM.length=0)) && (u.bO || Aga s.bE T4) && (u.eX || !s.bU) && (u.eZ || decide (s.bD.length=0)) && (u.dZ || decide (s.bL.length=0))
structure SB (L:Nat) (s:Ad):Prop where
 fuel:9223372036855824383<L
 nm:okS s.aF
 of:okS s.Of
 e:B1 s.E
 f:B1 s.F
 args:∀y∈s.aM,B1 y
 bk:Eh s<=1048576
theorem SB.lt{L:Nat}{s:Ad}(h:SB L s):maxLen<L:=by
 have h1:=h.fuel;have hM:=Br;omega
theorem SB.dist{L:Nat}{s:Ad}(h:SB L s):okD s.bE:=by
 have h1:=h.bk;rw[<-A9b]at h1;unfold Lq at h1;have h2:s.bE.aW.length<=F7 (λz:Int=>1) s.bE.aW:=Iq λ_=>Nat.le_refl _;have h3:s.bE.aU.length<=F7 (λz:Int=>1) s.bE.aU:=Iq λ_=>Nat.le_refl _;exact⟨by omega,by omega⟩
theorem SB.de{L:Nat}{s:Ad}(h:SB L s):maxLen+dE s.E<L/\maxLen+dE s.F<L/\(∀y∈s.aM,maxLen+dE y<L)/\s.aM.length<=1048576:=by
 have h1:=h.bk;rw[<-A9b]at h1;have h2:=h.fuel;have hM:=Br;have h3:=A3o s.E;have h4:=A3o s.F;have h5:=Blu s.aM;refine⟨by omega,by omega,λy hy=>?_,by omega⟩;have h6:=A3o y;have h7:B5 y<=F7 B5 s.aM:=W9 hy;omega
theorem Bap(L:Nat)(s:Ad)(u:Bs)(h:SB L s):Aei L s u=some (A0c s u):=by
 have hL:=h.fuel;have hM:=Br;have e0:=Akt L s.E (by omega);have f0:=Akt L s.F (by omega);have d0:=Agv L s.bE T4 h.dist h.lt;unfold T4 at d0;simp only[Aqv,Aei,aN,aB,Ab.cp_eq,e0,f0,d0,Ie,Bdb,Cr,F6,Ds,H3,A0c,T4]
 congr 1
 cases u.fH<;>cases u.fM<;>cases u.bO<;>cases Ae6 s.E<;>cases Ae6 s.F<;>simp only[Bool.true_or,Bool.false_or,Bool.and_true,Bool.and_false,Bool.false_and,Bool.true_and,cond_true,cond_false,Bool.and_assoc]
theorem A6e(L:Nat)(s:Ad)(h:SB L s):Agf L s=some ((Amy s.Op).2 && A0c s (Amy s.Op).1):=by
 have hL:=h.fuel;have hM:=Br;have d0:=Ajj L s.bE T4 h.dist h.lt;unfold T4 at d0;simp only[Anr,Agf,aN,aB,Ab.cp_eq,Bdr,A79,d0,Ie,Bdb,Cr,F6,Ds,H3,A0c,Arb,T4]
 congr 1
 generalize (Amy s.Op).2=ok;generalize (Amy s.Op).1=u;cases u.bO<;>simp only[cond_true,cond_false,Bool.true_or,Bool.false_or,Bool.and_true,Bool.true_and]<;>ac_rfl
def Ai5:List Ab->Int
 | []=>0
 |x::k=>if D2 false x≠0 then D2 false x else Ai5 k
def Ayy(s:Ad)(u:Bs):Int:=
 if(u.dP && Jd s.aF != 0)=true then Jd s.aF
 else if(u.fQ && Jd s.Of != 0)=true then Jd s.Of
 else if(u.fH && D2 false s.E != 0)=true then D2 false s.E
 else if(u.fM && D2 false s.F != 0)=true then D2 false s.F
 else if 6<s.aM.length then 6
 else if Ai5 s.aM≠0 then Ai5 s.aM
 else if u.bO then Ao5 s.bE else 0
theorem A5f(L:Nat)(s:Ad)(u:Bs):∀(k:List Ab) (i:Nat) (v:Int),(∀x∈k,Rv L x=some (D2 false x))->∃j,Ik L s u k i v=some (bif Ai5 k != 0 then(0,(Ai5 k,j)) else(1,(v,j))):=by
 intro k
 induction k with
 |nil=>intro i v _;exact⟨i,rfl⟩
 |cons x k ih=>
  intro i v h;obtain⟨j,hj⟩:=ih (i+1) v λy hy=>h y (by simp[hy]);by_cases hx:D2 false x=0
  ·exact⟨j,by simp[Ik,h x (by simp),hj,Ai5,hx]⟩
  ·exact⟨i,by simp[Ik,h x (by simp),Ai5,hx,W8 hx]⟩
theorem A6r(L:Nat)(s:Ad)(u:Bs)(h:SB L s):Zn L s u=some (Ayy s u):=by
 have hL:=h.fuel;have hM:=Br;obtain⟨b1,b2,b3,b4⟩:=h.de;have n1:s.aF.size<=maxLen:=h.nm;have n2:s.Of.size<=maxLen:=h.of;have c1:=M9 L s.aF h.nm (by omega);have c2:=M9 L s.Of h.of (by omega);have c3:=Aks h.e L b1;have c4:=Aks h.f L b2;have c5:=Adp L s.bE h.dist h.lt;obtain⟨j,hj⟩:=A5f L s u s.aM 0 0 λx hx=>Aks (h.args x hx) L (b3 x hx);have p1:∃j,Ks L u s L 0 0=some (bif u.dP && Jd s.aF != 0 then(0,(Jd s.aF,j))else bif u.fQ && Jd s.Of != 0 then(0,(Jd s.Of,j)) else(1,(0,j))):=by
  obtain⟨k,hk⟩:∃k,L=k+3:=⟨L-3,by omega⟩;have l1:Ks L u s L 0 0=Ks L u s (k+3) 0 0:=by rw[<-hk]
  rw[l1];simp only[Ks,Afo,aN,aB,List.length_cons,List.length_nil];cases hn:(u.dP && Jd s.aF != 0) with
  |true=>exact⟨0,by simp[c1,hn,Ds]⟩
  |false=>
   cases ho:(u.fQ && Jd s.Of != 0) with
   |true=>exact⟨1,by simp[c1,c2,hn,ho,Ds,ww1,ww2]⟩
   |false=>exact⟨2,by simp[c1,c2,hn,ho,Ds,ww1,ww2]⟩
 have p2:∃j,Kt L u s L 0 0=some (bif u.fH && D2 false s.E != 0 then(0,(D2 false s.E,j))else bif u.fM && D2 false s.F != 0 then(0,(D2 false s.F,j)) else(1,(0,j))):=by
  obtain⟨k,hk⟩:∃k,L=k+3:=⟨L-3,by omega⟩;have l1:Kt L u s L 0 0=Kt L u s (k+3) 0 0:=by rw[<-hk]
  rw[l1];simp only[Kt,Afp,aN,aB,List.length_cons,List.length_nil,Ab.cp_eq];cases he:u.fH<;>cases hf:u.fM<;>by_cases ze:D2 false s.E=0<;>by_cases zf:D2 false s.F=0
  all_goals first
   |(refine⟨0,?_⟩;simp[c3,c4,he,hf,ze,zf,W8,ww1,ww2];done)
   |(refine⟨1,?_⟩;simp[c3,c4,he,hf,ze,zf,W8,ww1,ww2];done)
   |(refine⟨2,?_⟩;simp[c3,c4,he,hf,ze,zf,W8,ww1,ww2];done)
 obtain⟨j1,p1⟩:=p1;obtain⟨j2,p2⟩:=p2;simp only[Au8,Af0,Yh,Af1,Yi,Yc,Zn,Af0,Yh,Af1,Yi,Yc,aN,aB,p1,Cr,Ayy];cases hn:(u.dP && Jd s.aF != 0) with
 |true=>simp[Ip]
 |false=>
  cases ho:(u.fQ && Jd s.Of != 0) with
  |true=>simp[Ip]
  |false=>
   simp only[cond_false,Sr,p2,Cr,Bool.false_eq_true,if_false];cases he:(u.fH && D2 false s.E != 0) with
   |true=>simp[Ip]
   |false=>
    cases hf:(u.fM && D2 false s.F != 0) with
    |true=>simp[Ip]
    |false=>
     simp only[cond_false,Sr,Bool.false_eq_true,if_false,Ayj L s u L (by omega) (by omega),hj,Cr,c5];by_cases hl:6<s.aM.length
     ·have:(6:Int)<(s.aM.length:Int):=by omega
      simp[hl,this]
     ·have:¬(6:Int)<(s.aM.length:Int):=by omega
      by_cases ha:Ai5 s.aM=0
      ·cases hd:u.bO<;>simp[hl,this,ha,hd,Sr]
      ·simp[hl,this,ha,W8 ha,Ip]
theorem A4q(L:Nat)(s:Ad)(f:Cz)(hc:∀x∈s.aM,Rm L x=some (D2 false x))(hl:s.aM.length<=1048576):∀(m i n:Nat) (v:Int),i+m=s.aM.length->m<n->
  ∃j,Dd L s f n v (i:Int)=some (0,(if v≠0 then v else Ai5 (s.aM.drop i),j)):=by
 intro m
 induction m with
 |zero=>
  intro i n v hi hn;obtain⟨n,rfl⟩:∃k,n=k+1:=⟨n-1,by omega⟩;refine⟨i,?_⟩;simp only[Dd,Uz,aN,aB,D3 (show s.aM.length<=i by omega),Ds,Bool.and_false,cond_false];rw[List.drop_eq_nil_of_le (by omega),Ai5];by_cases hv:v=0<;>simp[hv]
 |succ m ih=>
  intro i n v hi hn;obtain⟨n,rfl⟩:∃k,n=k+1:=⟨n-1,by omega⟩;have hlt:i<s.aM.length:=by omega
  have hM:=Br;by_cases hv:v=0
  ·subst hv;have hx:s.aM.getD i default∈s.aM:=by rw[J4 s.aM i hlt];exact List.getElem_mem hlt
   obtain⟨j,hj⟩:=ih (i+1) n (D2 false (s.aM.getD i default)) (by omega) (by omega);refine⟨j,?_⟩;simp only[Dd,Uz,aN,aB,Dx hlt,nn,Ly hlt,toN,if_true,Ds,beq_self_eq_true,Bool.true_and,cond_true,Ab.cp_eq,hc _ hx,Cr,Bb hlt (show s.aM.length<=maxLen by omega),hj];rw[Aoa s.aM i hlt,Ai5];by_cases hz:D2 false (s.aM.getD i default)=0<;>simp[hz]
  ·refine⟨i,?_⟩;simp only[Dd,Uz,aN,aB,Ds,beq_false_of_ne hv,Bool.false_and,cond_false];simp[hv]
def Bfy(s:Ad)(u:Bs):Int:=
 if(u.fH && D2 false s.E != 0)=true then D2 false s.E
 else if(u.fM && D2 false s.F != 0)=true then D2 false s.F
 else if 6<s.aM.length then 6 else Ai5 s.aM
theorem Bad(L:Nat)(s:Ad)(u:Bs)(h:SB L s):Aiw L s (Arb u)=some (Bfy s u):=by
 have hL:=h.fuel;have hM:=Br;obtain⟨b1,b2,b3,b4⟩:=h.de;have c3:=Aok h.e L b1;have c4:=Aok h.f L b2;have lpz:∀v:Int,(Option.bind (Dd L s (Arb u) L v 0) λo=>Aov o.1 [some o.2.1])=some (if v≠0 then v else Ai5 s.aM):=by
  intro v;obtain⟨j,hj⟩:=A4q L s (Arb u) (λx hx=>Aok (h.args x hx) L (b3 x hx)) b4 s.aM.length 0 L v (by omega) (by omega);have hj:Dd L s (Arb u) L v 0=_:=hj;rw[hj,List.drop_zero];simp only[Cr,Ip]
 have fE:(Arb u).E=u.fH:=rfl;have fF:(Arb u).F=u.fM:=rfl;simp only[Azp,Aaq,t6,t7,t8,u4,u5,u6,u7,u9,Aiw,Aaq,t6,t7,t8,u4,u5,u6,u7,u9,aN,aB,Ab.cp_eq,c3,c4,lpz,Cr,fE,fF,Bfy,Ds];have hd:decide ((s.aM.length:Int)>6)=decide (6<s.aM.length):=decide_eq_decide.2 (by omega);simp only[hd];cases u.fH<;>cases u.fM<;>by_cases h1:D2 false s.E=0<;>by_cases h2:D2 false s.F=0<;>by_cases h3:6<s.aM.length<;>simp[h1,h2,h3,W8,beq_false_of_ne]
def A41(s:Ad):Int:=bif !(Amy s.Op).2 || !A0c s (Amy s.Op).1 then 1 else Ayy s (Amy s.Op).1
theorem A0i(s:Yb):Jd s=0\/Jd s=3:=by
 unfold Jd;cases Akq s
 ·exact .inr rfl
 ·exact .inl rfl
theorem Bgj(L:Nat)(s:Ad)(h:SB L s):Alf L s=some (A41 s):=by
 have hL:=h.fuel;have hM:=Br;have n1:s.aF.size<=maxLen:=h.nm;have n2:s.Of.size<=maxLen:=h.of;have c1:=Sa L s.aF h.nm (by omega) (by omega);have c2:=Sa L s.Of h.of (by omega) (by omega);have c5:=Agu L s.bE h.dist h.lt;simp only[Aw6,Alf,aN,aB,Ad.cp_eq,A79,A6e L s h,c1,c2,c5,Bad L s _ h,Cr,F6,Ds,H3]
 congr 1
 unfold A41 Ayy Bfy;generalize (Amy s.Op).2=ok;generalize (Amy s.Op).1=u;simp only[Arb];cases ok with
 |false=>simp
 |true=>
  cases A0c s u with
  |false=>simp
  |true=>
   simp only[Bool.and_self,Bool.not_true,cond_false,Bool.or_self,Bool.false_eq_true,if_false];cases u.dP<;>cases u.fQ<;>rcases A0i s.aF with e1|e1<;>rcases A0i s.Of with e2|e2<;>simp only[e1,e2]<;>first|(simp;done)|skip
   all_goals (cases u.fH<;>cases u.fM<;>cases u.bO<;>by_cases h1:D2 false s.E=0<;>by_cases h2:D2 false s.F=0<;>by_cases h3:6<s.aM.length<;>by_cases h4:Ai5 s.aM=0<;>simp[h1,h2,h3,h4,W8,beq_false_of_ne])
mutual
def Bra:Ad->Int
 | .mk a b c d e f g h i j=>if A41 (.mk a b c d e f g h i j)≠0 then A41 (.mk a b c d e f g h i j)else if P9 i≠0 then P9 i else P9 j
def P9:List Ad->Int
 | []=>0
 |x::k=>if Bra x≠0 then Bra x else P9 k
end
theorem Bh7(s:Ad):Bra s=if A41 s≠0 then A41 s else if P9 s.bD≠0 then P9 s.bD else P9 s.bL:=by cases s;rw[Bra];rfl
def Azb(l:List Ad):Int:=if 200<K7 l then 6 else if 12<dSs l then 11 else P9 l
theorem Fu.sb{L:Nat}{l:List Ad}(h:Fu (L+1) l){x:Ad}(hx:x∈l)(ho:Cx x):SB L x:=by
 obtain⟨h1,h2⟩:=h;have hM:=Br;have h3:=Bia hx;have h4:=Bca hx;obtain⟨o1,o2,o3,o4,o5,o6,_,_⟩:=Cbb ho;exact⟨by omega,o1,o2,o3,o4,o5,by omega⟩
theorem B2k{β :Type}(x:Ad)(rest:Option β)(g:Int->β):(Option.bind (bif !(Amy x.Op).2 then some true else some (!A0c x (Amy x.Op).1)) λb2=>bif b2 then some (g 1)else bif Ayy x (Amy x.Op).1 != 0 then some (g (Ayy x (Amy x.Op).1))else rest)=bif A41 x != 0 then some (g (A41 x))else rest:=by
 unfold A41;cases (Amy x.Op).2 with
 |false=>rfl
 |true=>cases A0c x (Amy x.Op).1<;>rfl
theorem A5e(rec:List Ad->Option Int)(L:Nat)(a0:List Ad):∀(k:List Ad) (i:Nat) (v:Int),(∀x∈k,SB L x/\rec x.bD=some (P9 x.bD)/\rec x.bL=some (P9 x.bL))->∃j,K1 rec L a0 k i v=some (bif P9 k != 0 then(0,(P9 k,j)) else(1,(v,j))):=by
 intro k
 induction k with
 |nil=>intro i v _;exact⟨i,rfl⟩
 |cons x k ih=>
  intro i v h;obtain⟨h0,h1,h2⟩:=h x (by simp);obtain⟨j,hj⟩:=ih (i+1) v λy hy=>h y (by simp[hy]);rw[K1];simp only[Baq,Bap L x _ h0,A6r L x _ h0,h1,h2,hj,Cr,P9,Bh7];rw[B2k x _ λe=>(0,(e,(i:Int)))];by_cases e1:A41 x=0
  ·by_cases e2:P9 x.bD=0
   ·by_cases e3:P9 x.bL=0
    ·exact⟨j,by simp[e1,e2,e3]⟩
    ·exact⟨i,by simp[e1,e2,e3,W8 e3]⟩
   ·exact⟨i,by simp[e1,e2,W8 e2]⟩
  ·exact⟨i,by simp[e1,W8 e1]⟩
theorem A6q{l:List Ad}(hl:∀y∈l,Cx y):∀L,Fu L l->Lg L l=some (P9 l):=by
 refine Amw (M:=λl=>∀L,Fu L l->Lg L l=some (P9 l)) ?_ hl;intro l ih L hF;obtain⟨L,rfl⟩:=hF.pos;obtain⟨n1,n2,n3⟩:=hF.len;obtain⟨j,hj⟩:=A5e (Lg L) L l l 0 0 λx hx=>⟨hF.sb hx (ih x hx).1,(ih x hx).2.1 L (hF.kid hx).1,(ih x hx).2.2 L (hF.kid hx).2⟩;simp only[Au7,Ya,Anj,Lg,Ya,aN,aB,Ayi _ L l L n1 n2,hj,Cr];by_cases h:P9 l=0
 ·simp[h,Sr]
 ·simp[W8 h,Ip]
theorem A6n{l:List Ad}(hl:∀y∈l,Cx y)(L:Nat)(hF:Fu L l):Agi L l=some (Azb l):=by
 have e1:decide ((K7 l:Int)>200)=decide (200<K7 l):=decide_eq_decide.2 (by omega);have e2:decide ((dSs l:Int)>12)=decide (12<dSs l):=decide_eq_decide.2 (by omega);simp only[An2,Agi,aN,aB,A6o hl L hF,A6p hl L hF,A6q hl L hF,Cr,F6,e1,e2,Azb]
 congr 1
 by_cases h1:200<K7 l<;>by_cases h2:12<dSs l<;>simp[h1,h2]
theorem Baw(rec:List Ad->Option Int)(L:Nat)(a0:List Ad):∀(k:List Ad) (i:Nat) (v:Int),(∀x∈k,SB L x/\rec x.bD=some (P9 x.bD)/\rec x.bL=some (P9 x.bL))->∃j,Hy rec L a0 k i v=some (bif P9 k != 0 then(0,(P9 k,j)) else(1,(v,j))):=by
 intro k
 induction k with
 |nil=>intro i v _;exact⟨i,rfl⟩
 |cons x k ih=>
  intro i v h;obtain⟨h0,h1,h2⟩:=h x (by simp);obtain⟨j,hj⟩:=ih (i+1) v λy hy=>h y (by simp[hy]);rw[Hy];simp only[Bgj L x h0,h1,h2,hj,Cr,P9,Bh7];by_cases e1:A41 x=0
  ·by_cases e2:P9 x.bD=0
   ·by_cases e3:P9 x.bL=0
    ·exact⟨j,by simp[e1,e2,e3]⟩
    ·exact⟨i,by simp[e1,e2,e3,W8 e3]⟩
   ·exact⟨i,by simp[e1,e2,W8 e2,beq_false_of_ne e2]⟩
  ·exact⟨i,by simp[e1,W8 e1,beq_false_of_ne e1]⟩
theorem Bdq{l:List Ad}(hl:∀y∈l,Cx y):∀L,Fu L l->Rt L l=some (P9 l):=by
 refine Amw (M:=λl=>∀L,Fu L l->Rt L l=some (P9 l)) ?_ hl;intro l ih L hF;obtain⟨L,rfl⟩:=hF.pos;obtain⟨n1,n2,n3⟩:=hF.len;obtain⟨j,hj⟩:=Baw (Rt L) L l l 0 0 λx hx=>⟨hF.sb hx (ih x hx).1,(ih x hx).2.1 L (hF.kid hx).1,(ih x hx).2.2 L (hF.kid hx).2⟩;simp only[A2v,Adu,Ata,Rt,Adu,aN,aB,A4b _ L l L n1 n2,hj,Cr];by_cases h:P9 l=0
 ·simp[h,Sr]
 ·simp[W8 h,Ip]
theorem Baa{l:List Ad}(hl:∀y∈l,Cx y)(L:Nat)(hF:Fu L l):Aiv L l=some (Azb l):=by
 have e1:decide ((K7 l:Int)>200)=decide (200<K7 l):=decide_eq_decide.2 (by omega);have e2:decide ((dSs l:Int)>12)=decide (12<dSs l):=decide_eq_decide.2 (by omega);simp only[Aqe,Aiv,aN,aB,Bab hl L hF,Bac hl L hF,Bdq hl L hF,Cr,F6,e1,e2,Azb]
 congr 1
 by_cases h1:200<K7 l<;>by_cases h2:12<dSs l<;>simp[h1,h2]
theorem A5a(L:Nat)(l:List Aa)(m:Ai)(n:Yb):∀(k:List Aa) (i:Nat) (v:Int),Kz L l m n k i v=some (match k.findIdx? (λx=>x.aF.toList == n.toList) with|some j=>(0,(((i+j:Nat):Int),((i+j:Nat):Int)))|none=>(1,(v,((i+k.length:Nat):Int)))):=by
 intro k
 induction k with
 |nil=>intro i v;rfl
 |cons x k ih=>
  intro i v;rw[Kz,ih,List.findIdx?_cons];cases hc:(λx=>x.aF.toList == n.toList) x with
  |true=>simp only[hc,cond_true,if_true];rfl
  |false=>
   simp only[hc,cond_false,if_false,Bool.false_eq_true];cases k.findIdx? (λx=>x.aF.toList == n.toList) with
   |some j=>simp[Nat.add_assoc,Nat.add_comm 1]
   |none=>simp[Nat.add_assoc,Nat.add_comm 1]
theorem Aub(L:Nat)(l:List Aa)(m:Ai)(n:Yb)(hl:l.length<=maxLen)(hL:l.length<L):Xd L l m n=some (Zc (l.findIdx? (λx=>decide (x.aF=n)))):=by
 simp only[Xd,Ao7,Afy,aN,aB,Ax5 _ _ _ _ _ hl hL,A5a,Ie,Cr];cases l.findIdx? (λx=>decide (x.aF=n)) with
 |none=>rfl
 |some i=>simp[Zc,Ip]
def A8m(m:Ai)(n:Yb):Int:=Zc (m.aA.findIdx? λx=>decide (x.aF=n))
theorem A6j(L:Nat)(m:Ai)(n:Yb)(hl:m.aA.length<=maxLen)(hL:maxLen<L):Zm L m n=some (A8m m n):=by
 simp only[Au1,Xx,Zm,Xx,aN,aB,Aub L _ m n hl (by omega),Cr,A8m]
theorem Bcz{α :Type} [Inhabited α](p: α->Bool)(l:List α):l.find? p=(l.findIdx? p).map λi=>l.getD i default:=by
 induction l with
 |nil=>rfl
 |cons x l ih=>
  rw[List.find?_cons,List.findIdx?_cons];cases p x with
  |true=>rfl
  |false=>
   simp only[ih,Bool.false_eq_true,if_false];cases l.findIdx? p<;>simp
theorem Bm9{α :Type}{p: α->Bool}{l:List α}{i:Nat}(h:l.findIdx? p=some i):i<l.length:=by
 obtain⟨h1,_⟩:=List.findIdx?_eq_some_iff_getElem.1 h;exact h1
theorem Ah4.max{s:Aa}(h:Ah4 s 1099511627776):Ah4 s maxLen:=h.mono (by rw[Br];omega)
theorem Avs{α :Type}(l:List α)(p: α->Bool):decide (Zc (l.findIdx? p)<0)=(l.findIdx? p).isNone:=by
 cases l.findIdx? p with
 |none=>rfl
 |some i=>exact decide_eq_false (by simp[Zc])
theorem A4r(L:Nat)(s:Aa)(n:Yb)(h:Ah4 s 1099511627776)(hL:maxLen<L):Ac7 L s n=some (Ae1 s n):=by
 have hM:=Br;have h9:=h.2.2.2.2.2.2.2.2.2;have hf:J7 L (s.aD.map λx=>x.aF) n=some (A56 (s.aD.map λx=>x.aF) n):=Aeu L _ n (by rw[List.length_map];omega) (by rw[List.length_map];omega);simp only[Akb,Ac7,aN,aB,Aol L s h hL,Cr];rw[ifp (by omega),ifp (by simp only[Hv,List.length_cons,List.length_nil];omega)];rw[show(Hv s).getD 9 default=s.aD.map λx=>x.aF from rfl,hf,Cr];simp only[A56,Ae1,List.findIdx?_map];rfl
theorem Bax(L:Nat)(n:Yb)(m:Ai):∀(k:List Aa) (i:Nat) (v:Int),P2 L n m k i v=some (match k.findIdx? (λx=>x.aF.toList == n.toList) with|some j=>(0,(((i+j:Nat):Int),((i+j:Nat):Int)))|none=>(1,(v,((i+k.length:Nat):Int)))):=by
 intro k
 induction k with
 |nil=>intro i v;rfl
 |cons x k ih=>
  intro i v;rw[P2,ih,List.findIdx?_cons];cases hc:(λx:Aa=>x.aF.toList == n.toList) x with
  |true=>simp only[hc,cond_true,if_true];rfl
  |false=>
   simp only[hc,cond_false,if_false,Bool.false_eq_true];cases k.findIdx? (λx=>x.aF.toList == n.toList) with
   |some j=>simp[Nat.add_assoc,Nat.add_comm 1]
   |none=>simp[Nat.add_assoc,Nat.add_comm 1]
theorem Bdt(L:Nat)(m:Ai)(n:Yb)(hl:m.aA.length<=maxLen)(hL:maxLen<L):Yn L m n=some (A8m m n):=by
 simp only[A2x,Adw,Yn,Adw,aN,aB,A4d L n m L hl (by omega),Bax,Ie,Cr,A8m];cases m.aA.findIdx? (λx=>decide (x.aF=n)) with
 |none=>rfl
 |some i=>simp[Zc,Ip]
end Go.Proofs.YthjhkpgonleelaaGreatDoor.Ev
