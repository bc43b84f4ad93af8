/-  Chapter 7, plainly: names. -/
import Derived.Test.YthjhkpgonleelaaGreatDoorDQA
import Derived.Test.YthjhkpgonleelaaGreatDoorDRA
set_option maxRecDepth 100000
set_option linter.unusedVariables false
set_option linter.unusedSimpArgs false
set_option linter.unnecessarySimpa false
namespace Go.Proofs.YthjhkpgonleelaaGreatDoor.Ev
open Go An
def Aqm(z:Int):Bool:=decide (97<=z) && decide (z<=122)
def okZ(z:Int):Bool:=Aqm z || z == 95 || (decide (48<=z) && decide (z<=57))
def Ap5(a:Yb)(i:Nat):Int:=D2 a[i]?
def Rs(a:Yb):Nat->Nat->Bool
 |_,0=>true
 |i,m+1=>okZ (Ap5 a i) && Rs a (i+1) m
def kws:List Yb:= [(⟨#[97,100,100]⟩:Yb),(⟨#[97,102,116,101,114]⟩:Yb),(⟨#[97,110,100]⟩:Yb),(⟨#[97,116]⟩:Yb),(⟨#[98,101,108,116]⟩:Yb),(⟨#[98,111,111,108]⟩:Yb),(⟨#[99,111,110,115,101,114,118,101]⟩:Yb),(⟨#[99,111,110,115,116]⟩:Yb),(⟨#[99,111,117,110,116]⟩:Yb),(⟨#[99,121,99,108,101]⟩:Yb),(⟨#[100,111,119,110]⟩:Yb),(⟨#[100,114,97,119]⟩:Yb),(⟨#[100,117,114]⟩:Yb),(⟨#[101,108,115,101]⟩:Yb),(⟨#[101,110,100]⟩:Yb),(⟨#[101,118,101,114,121]⟩:Yb),(⟨#[102,97,108,115,101]⟩:Yb),(⟨#[102,97,117,108,116]⟩:Yb),(⟨#[102,105,102,111]⟩:Yb),(⟨#[102,114,101,101]⟩:Yb),(⟨#[102,114,111,109]⟩:Yb),(⟨#[103,101,111,109]⟩:Yb),(⟨#[103,101,116]⟩:Yb),(⟨#[104,111,108,100]⟩:Yb),(⟨#[105,102]⟩:Yb),(⟨#[105,110,116]⟩:Yb),(⟨#[105,110,116,111]⟩:Yb),(⟨#[108,101,97,115,116]⟩:Yb),(⟨#[108,101,118,101,108]⟩:Yb),(⟨#[108,105,102,111]⟩:Yb),(⟨#[108,105,110,107]⟩:Yb),(⟨#[108,111,99,97,108]⟩:Yb),(⟨#[109,97,120]⟩:Yb),(⟨#[109,105,110]⟩:Yb),(⟨#[109,111,100,101,108]⟩:Yb),(⟨#[110,111,116]⟩:Yb),(⟨#[110,111,119]⟩:Yb),(⟨#[111,98,115,101,114,118,101]⟩:Yb),(⟨#[111,114]⟩:Yb),(⟨#[112,97,114,97,109]⟩:Yb),(⟨#[112,114,101,101,109,112,116]⟩:Yb),(⟨#[112,114,105,111]⟩:Yb),(⟨#[112,117,116]⟩:Yb),(⟨#[113,117,101,117,101]⟩:Yb),(⟨#[114,101,108,101,97,115,101]⟩:Yb),(⟨#[114,101,115,111,117,114,99,101]⟩:Yb),(⟨#[114,105,100,101]⟩:Yb),(⟨#[114,111,117,116,105,110,101]⟩:Yb),(⟨#[115,101,105,122,101]⟩:Yb),(⟨#[115,101,110,100]⟩:Yb),(⟨#[115,101,116]⟩:Yb),(⟨#[115,104,105,102,116]⟩:Yb),(⟨#[115,105,103,110,97,108]⟩:Yb),(⟨#[115,105,116,101]⟩:Yb),(⟨#[115,105,122,101]⟩:Yb),(⟨#[115,112,97,119,110]⟩:Yb),(⟨#[115,116,97,114,116]⟩:Yb),(⟨#[115,116,111,112]⟩:Yb),(⟨#[115,116,111,114,101]⟩:Yb),(⟨#[115,116,114,101,97,109]⟩:Yb),(⟨#[115,117,109]⟩:Yb),(⟨#[116,97,98,108,101]⟩:Yb),(⟨#[116,97,108,108,121]⟩:Yb),(⟨#[116,105,99,107,115]⟩:Yb),(⟨#[116,105,109,101]⟩:Yb),(⟨#[116,114,117,101]⟩:Yb),(⟨#[117,110,105,102,111,114,109]⟩:Yb),(⟨#[117,110,116,105,108]⟩:Yb),(⟨#[117,112]⟩:Yb),(⟨#[118,97,114]⟩:Yb),(⟨#[119,97,105,116]⟩:Yb),(⟨#[119,97,105,116,105,110,103]⟩:Yb),(⟨#[119,104,105,108,101]⟩:Yb)]
def Ah3(s:Yb):Bool:=kws.any λw=>decide (s=w)
def Alv(s:Yb):Bool:=decide (1<=s.size) && decide (s.size<=24) && Aqm (Ap5 s 0) && !Ah3 s && Rs s 0 s.size
def Jt(s:Yb):Int:=bif Alv s then 0 else 3
theorem Ag7(L:Nat)(z:Int):Vk L z=some (Aqm z):=by
 simp only[Aiz,Vk,aN,aB,Aqm,Du]
theorem By7{c b:Bool}{X:Option Bool}(h:X=some b):(bif c then(bif c then some true else some false)else X)=some (c || b):=by cases c<;>simp[h]
theorem B2f{c b:Bool}{X:Option Bool}(h:X=some b):(bif c then some true else X)=some (c || b):=by cases c<;>simp[h]
set_option maxRecDepth 10000 in
theorem Az4(L:Nat)(s:Yb):Ye L s=some (Ah3 s):=by
 simp only[Ago,Ye,aN,aB,Iu,Ah3,kws,List.any_cons,List.any_nil]
 repeat (first|exact By7 rfl|refine By7 ?_|refine B2f ?_)
 rfl
theorem B9d(L:Nat)(a:Yb)(hs:a.size<=maxLen):∀(m i n:Nat) (v:Int),i+m=a.size->m<n->
  ∃j,Jm L a n v i=some (bif Rs a i m then(1,(v,j)) else(0,(3,j))):=by
 intro m
 induction m with
 |zero=>
  intro i n v hi hn;obtain⟨n,rfl⟩:∃k,n=k+1:=⟨n-1,by omega⟩;exact⟨i,by simp only[Jm,Ro,aN,aB,Rs,Dr (show a.size<=i by omega),cond_true,cond_false]⟩
 |succ m ih=>
  intro i n v hi hn;obtain⟨n,rfl⟩:∃k,n=k+1:=⟨n-1,by omega⟩;have hlt:i<a.size:=by omega
  obtain⟨j,hj⟩:=ih (i+1) n v (by omega) (by omega);have hb:=Bt3 hlt;cases hc:okZ (Ap5 a i) with
  |true=>
   refine⟨j,?_⟩;have e:Rs a i (m+1)=Rs a (i+1) m:=by simp only[Rs,hc,Bool.true_and]
   simp only[Jm,Ro,aN,aB,Dn hlt,nn,toN,if_true,hb,cond_true,Ag7,Co,Az hlt hs,hj,e,Du,Hu];rw[show((!Aqm (D2 a[i]?) && (decide (D2 a[i]? < 48) || decide (D2 a[i]? > 57))) && D2 a[i]? != 95)=false from ?_]
   ·rfl
   ·revert hc;unfold okZ Ap5
    generalize D2 a[i]? =z;cases Aqm z<;>simp<;>omega
  |false=>
   refine⟨i,?_⟩;have e:Rs a i (m+1)=false:=by simp only[Rs,hc,Bool.false_and]
   simp only[Jm,Ro,aN,aB,Dn hlt,nn,toN,if_true,hb,cond_true,Ag7,Co,Az hlt hs,hj,e,Du,Hu];rw[show((!Aqm (D2 a[i]?) && (decide (D2 a[i]? < 48) || decide (D2 a[i]? > 57))) && D2 a[i]? != 95)=true from ?_]
   ·rfl
   ·revert hc;unfold okZ Ap5
    generalize D2 a[i]? =z;cases Aqm z<;>simp<;>omega
theorem Nu(L:Nat)(s:Yb)(hs:okS s)(hL:s.size<L):Cw L s=some (Jt s):=by
 obtain⟨j,hj⟩:=B9d L s hs s.size 0 L 0 (by omega) hL;have e0:decide ((s.size:Int)>24)= !decide (s.size<=24):=by
  by_cases h:s.size<=24
  ·rw[decide_eq_false (by omega),decide_eq_true h];rfl
  ·rw[decide_eq_true (by omega),decide_eq_false h];rfl
 simp only[Atz,Xm,W7,Cw,Xm,W7,aN,aB,Iu,A3t,Ag7,Az4,Co,F9,Hu,e0];by_cases h0:s.size=0
 ·have:Alv s=false:=by unfold Alv;rw[decide_eq_false (show¬1<=s.size by omega)];rfl
  simp[h0,Jt,this]
 ·have hb:=Bt3 (show 0<s.size by omega);have e1:Alv s=(decide (s.size<=24) && Aqm (Ap5 s 0) && !Ah3 s && Rs s 0 s.size):=by unfold Alv;rw[decide_eq_true (show 1<=s.size by omega)];rfl
  simp only[Int.ofNat_zero,Int.natCast_zero]at hj;simp only[h0,decide_false,Bool.false_or,Int.le_refl,Nat.le_refl,if_true,Int.toNat_zero,hb,cond_true,hj,Co,Jt,e1,Ap5];cases decide (s.size<=24)<;>cases Aqm (D2 s[0]?)<;>cases Ah3 s<;>cases Rs s 0 s.size<;>rfl
mutual
def dE:Ab->Nat
 | .mk _ _ _ k=>dEs k+1
def dEs:List Ab->Nat
 | []=>0
 |x::k=>max (dE x) (dEs k)
end
theorem Akl{x:Ab}{k:List Ab}(h:x∈k):dE x<=dEs k:=by
 induction k with
 |nil=>cases h
 |cons a k ih=>
  rw[dEs];rcases List.mem_cons.1 h with rfl|h
  ·omega
  ·have:=ih h;omega
mutual
def Ag5:Ab->Int
 | .mk _ _ _ k=>Azy k 1
def Azy:List Ab->Int->Int
 | [],n=>n
 |x::k,n=>Azy k (Bs (n+Ag5 x))
end
mutual
def Zs:Ab->Int
 | .mk _ _ _ k=>Bs (Ayp k 0+1)
def Ayp:List Ab->Int->Int
 | [],n=>n
 |x::k,n=>Ayp k (if Zs x>n then Zs x else n)
end
def Awm(op:Int):Int:=
 if op=1\/op=2\/op=3\/op=4 then 0 else if 5<=op/\op<=8 then 1 else if 9<=op/\op<=21 then 2 else if 22<=op/\op<=26 then 0 else -1
def Axk(op:Int):Bool:=decide (22<=op) && decide (op<=24)
def inZ(n:Int):Bool:=decide (-1000000000000<=n) && decide (n<=1000000000000)
def As8(c:Bool)(op:Int):Bool:=if op=3 then !c else if op=25\/op=26 then c else decide (0<=Awm op)
def Ah6(c:Bool)(op:Int):Bool:=op == 3 || (Axk op && !c)
def Azv(c:Bool)(op:Int):Option Int:=if op=2 then some 1 else if op=25 then some 15 else if op=26 then some 31 else if Axk op && c then some 63 else none
def Bat(c:Bool)(e:Ab):Bool:= !As8 c e.Op || decide ((e.aY.length:Int)≠Awm e.Op) || (!decide (e.aF=⟨#[]⟩) && !Ah6 c e.Op)
def Axi(c:Bool)(e:Ab):Int:=
 if Bat c e=true then 1
 else if e.Op=1 then(if inZ e.N then 0 else 2)
 else match Azv c e.Op with
  |none=>if e.N≠0 then 1 else if Ah6 c e.Op then Jt e.aF else 0
  |some hi=>if e.N<0\/hi<e.N then 2 else if Ah6 c e.Op then Jt e.aF else 0
mutual
def Ar2(c:Bool):Ab->Int
 | .mk op nm n k=>if Axi c (.mk op nm n k)≠0 then Axi c (.mk op nm n k)else Ar3 c k
def Ar3(c:Bool):List Ab->Int
 | []=>0
 |x::k=>if Ar2 c x≠0 then Ar2 c x else Ar3 c k
end
def D5(c:Bool)(e:Ab):Int:=if Ag5 e>60 then 6 else if Zs e>12 then 11 else Ar2 c e
theorem Bwz(op:Int):op=1\/op=2\/op=3\/op=4\/op=5\/op=6\/op=7\/op=8\/op=9\/op=10\/op=11\/op=12\/op=13\/op=14\/op=15\/op=16\/op=17\/op=18\/op=19\/op=20\/op=21\/op=22\/op=23\/op=24\/op=25\/op=26\/op<1\/26<op:=by omega
theorem Axs(L:Nat)(op:Int):Z5 L op=some (Awm op):=by
 simp only[Art,Z5,aN,aB,Awm,Du,Hu,F9]
 congr 1
 grind
theorem Asn(L:Nat)(op:Int):X0 L op=some (Axk op):=by
 simp only[Alj,X0,aN,aB,Axk,Du]
theorem Avf(L:Nat)(k:Bm)(op:Int):T5 L k op=some (As8 k.bW op):=by
 simp only[p9,T5,aN,aB,As8,Axs,Co,F9]
 congr 1
 grind
theorem Avg(L:Nat)(k:Bm)(op:Int):Kh L k op=some (Ah6 k.bW op):=by
 simp only[q6,Kh,aN,aB,Ah6,Asn,Co,F9,Hu,Du]
theorem Az5(L:Nat)(n:Int):Aiq L n=some (inZ n):=by
 simp only[A4i,Aiq,aN,aB,inZ,Du]
theorem Asm(L:Nat)(k:Bm)(op:Int):Lp L k op=some (match Azv k.bW op with|some hi=>(0,hi,true)|none=>(0,0,false)):=by
 simp only[Xt,Lp,aN,aB,Azv,Asn,Co,F9,Du]
 congr 1
 grind
theorem Axt(L:Nat)(k:Bm)(e:Ab)(hn:okS e.aF)(hL:e.aF.size<L):V0 L k e=some (Axi k.bW e):=by
 simp only[Acy,V0,aN,aB,Avf,Axs,Avg,Az5,Asm,Co,Nu L e.aF hn hL,F9,Iu,Du,Hu,Axi,Bat]
 congr 1
 cases Azv k.bW e.Op<;>grind
theorem A6i(Bfy:Ab->Option Int)(L:Nat)(a0:Ab):∀(k:List Ab) (i:Nat) (v:Int),(∀x∈k,Bfy x=some (Ag5 x))->∃j,Lh Bfy L a0 k i v=some (0,(Azy k v,j)):=by
 intro k
 induction k with
 |nil=>intro i v _;exact⟨_,rfl⟩
 |cons x k ih=>
  intro i v h;obtain⟨j,hj⟩:=ih (i+1) (Bs (v+Ag5 x)) λy hy=>h y (by simp[hy]);exact⟨j,by simp only[Lh,h x (by simp),Co,hj,Azy]⟩
theorem A7u{e:Ab}(h:B1 e):∀L,maxLen+dE e<L->Lw L e=some (Ag5 e):=by
 induction h with
 |mk a0 a1 a2 a3 h0 h1 h2 h3 h4 ih=>
  intro L hL;obtain⟨L,rfl⟩:∃k,L=k+1:=⟨L-1,by omega⟩;rw[dE]at hL;have hr:∀x∈a3,Lw L x=some (Ag5 x):=λx hx=>ih x hx L (by have:=Akl hx;omega);obtain⟨j,hj⟩:=A6i (Lw L) L (.mk a0 a1 a2 a3) a3 0 1 hr;simp only[Av7,Y1,Aog,Lw,Y1,aN,aB,Ab.cp_eq,Ab.Op,Ab.aF,Ab.N,Ab.aY,Ab.eta,Aze _ _ (.mk a0 a1 a2 a3) _ h3 (show a3.length<L by omega),hj,Co,H4,Ag5]
theorem A6h(Bfz:Ab->Option Int)(L:Nat)(a0:Ab):∀(k:List Ab) (i:Nat) (v:Int),(∀x∈k,Bfz x=some (Zs x))->∃j,Lg Bfz L a0 k i v=some (0,(Ayp k v,j)):=by
 intro k
 induction k with
 |nil=>intro i v _;exact⟨_,rfl⟩
 |cons x k ih=>
  intro i v h;obtain⟨j,hj⟩:=ih (i+1) (if Zs x>v then Zs x else v) λy hy=>h y (by simp[hy]);exact⟨j,by simp only[Lg,h x (by simp),Co,hj,Ayp]⟩
theorem A7t{e:Ab}(h:B1 e):∀L,maxLen+dE e<L->Lv L e=some (Zs e):=by
 induction h with
 |mk a0 a1 a2 a3 h0 h1 h2 h3 h4 ih=>
  intro L hL;obtain⟨L,rfl⟩:∃k,L=k+1:=⟨L-1,by omega⟩;rw[dE]at hL;have hr:∀x∈a3,Lv L x=some (Zs x):=λx hx=>ih x hx L (by have:=Akl hx;omega);obtain⟨j,hj⟩:=A6h (Lv L) L (.mk a0 a1 a2 a3) a3 0 0 hr;simp only[Av6,Y0,Aof,Lv,Y0,aN,aB,Ab.cp_eq,Ab.Op,Ab.aF,Ab.N,Ab.aY,Ab.eta,Azd _ _ (.mk a0 a1 a2 a3) _ h3 (show a3.length<L by omega),hj,Co,H4,Zs]
theorem Atm(Bf0:Bm->Ab->Option Int)(L:Nat)(a1:Ab)(c:Bm):∀(k:List Ab) (i:Nat) (v:Int),(∀x∈k,Bf0 c x=some (Ar2 c.bW x))->∃j,Ep Bf0 L a1 c k i v=some (bif Ar3 c.bW k != 0 then(0,(Ar3 c.bW k,j)) else(1,(v,j))):=by
 intro k
 induction k with
 |nil=>intro i v _;exact⟨i,rfl⟩
 |cons x k ih=>
  intro i v h;obtain⟨j,hj⟩:=ih (i+1) v λy hy=>h y (by simp[hy]);by_cases hx:Ar2 c.bW x=0
  ·exact⟨j,by simp[Ep,h x (by simp),hj,Ar3,hx]⟩
  ·exact⟨(i:Int),by simp[Ep,h x (by simp),hj,Ar3,hx,Xv hx]⟩
theorem Avh{e:Ab}(h:B1 e)(c:Bm):∀L,maxLen+dE e<L->F8 L c e=some (Ar2 c.bW e):=by
 induction h with
 |mk a0 a1 a2 a3 h0 h1 h2 h3 h4 ih=>
  intro L hL;obtain⟨L,rfl⟩:∃k,L=k+1:=⟨L-1,by omega⟩;rw[dE]at hL;have hr:∀x∈a3,F8 L c x=some (Ar2 c.bW x):=λx hx=>ih x hx L (by have:=Akl hx;omega);obtain⟨j,hj⟩:=Atm (F8 L) L (.mk a0 a1 a2 a3) c a3 0 0 hr;have h1':a1.size<=maxLen:=h1;simp only[Akh,P1,Pu,f9,F8,P1,Pu,aN,aB,Ab.cp_eq,Ab.Op,Ab.aF,Ab.N,Ab.aY,Ab.eta,Axt L c (.mk a0 a1 a2 a3) h1 (show a1.size<L by omega),Aqp _ _ (.mk a0 a1 a2 a3) _ _ h3 (show a3.length<L by omega),hj,Co,Ar2];by_cases h:Axi c.bW (.mk a0 a1 a2 a3)=0
  ·by_cases h':Ar3 c.bW a3=0
   ·simp[h,h',H4,S5]
   ·simp[h,h',H4,S5,Xv h']
  ·simp[h,Xv h]
theorem Ajm{e:Ab}(h:B1 e)(c:Bm)(L:Nat)(hL:maxLen+dE e<L):Oq L c e=some (D5 c.bW e):=by
 simp only[o0,Oq,aN,aB,Ab.cp_eq,A7u h L hL,A7t h L hL,Avh h c L hL,Co,F9,D5]
 congr 1
 grind
theorem Alx{e:Ab}(h:B1 e)(L:Nat)(hL:maxLen+dE e<L):Sk L e=some (D5 false e):=by
 simp only[Aoy,Sk,aN,aB,Ab.cp_eq,Ajm h _ L hL,Co]
def A7g(l:List Yb)(s:Yb):Int:=d8 (l.findIdx? λx=>decide (x=s))
theorem Awz{α :Type}(l:List α)(p: α->Bool):decide (d8 (l.findIdx? p)>=0)=l.any p:=by
 have h:=List.findIdx?_isSome (xs:=l) (p:=p);rw[<-h];cases l.findIdx? p with
 |none=>rfl
 |some i=>simp[d8]
theorem Alw(L:Nat)(z:Int):g7 L z=some (Aqm z):=by
 simp only[Aoo,g7,aN,aB,Aqm,Du]
theorem A2u(L:Nat):Aij L=some kws:=rfl
theorem Bce(L:Nat)(a0:List Yb)(a1:Yb):∀(k:List Yb) (i:Nat) (v:Int),Qk L a0 a1 k i v=some (match k.findIdx? (λx=>x.toList == a1.toList) with|some j=>(0,(((i+j:Nat):Int),((i+j:Nat):Int)))|none=>(1,(v,((i+k.length:Nat):Int)))):=by
 intro k
 induction k with
 |nil=>intro i v;rfl
 |cons x k ih=>
  intro i v;rw[Qk,ih,List.findIdx?_cons];cases hc:(λx=>x.toList == a1.toList) x with
  |true=>simp only[hc,cond_true,if_true];rfl
  |false=>
   simp only[hc,cond_false,if_false,Bool.false_eq_true];cases k.findIdx? (λx=>x.toList == a1.toList) with
   |some j=>simp[Nat.add_assoc,Nat.add_comm 1]
   |none=>simp[Nat.add_assoc,Nat.add_comm 1]
theorem Af5(L:Nat)(l:List Yb)(s:Yb)(hl:l.length<=maxLen)(hL:l.length<L):Km L l s=some (A7g l s):=by
 simp only[A34,Ae3,Km,Ae3,aN,aB,A5j _ _ _ _ hl hL,Bce,Iu,Co,A7g];cases l.findIdx? λx=>decide (x=s) with
 |none=>rfl
 |some i=>simp[d8,H4]
theorem A5z(L:Nat)(s:Yb)(hL:80<L):Aeh L s=some (Ah3 s):=by
 simp only[Ale,Aeh,aN,aB,A2u,Af5 L kws s (by decide) (show kws.length<L from Nat.lt_trans (by decide) hL),Co,A7g,Awz];simp only[Ah3,eq_comm]
theorem B9k(L:Nat)(a:Yb)(hs:a.size<=maxLen):∀(m i n:Nat) (v:Int),i+m=a.size->m<n->
  ∃j,M4 L a n v i=some (bif Rs a i m then(1,(v,j)) else(0,(3,j))):=by
 intro m
 induction m with
 |zero=>
  intro i n v hi hn;obtain⟨n,rfl⟩:∃k,n=k+1:=⟨n-1,by omega⟩;exact⟨i,by simp only[M4,Vq,aN,aB,Rs,Dr (show a.size<=i by omega),cond_true,cond_false]⟩
 |succ m ih=>
  intro i n v hi hn;obtain⟨n,rfl⟩:∃k,n=k+1:=⟨n-1,by omega⟩;have hlt:i<a.size:=by omega
  obtain⟨j,hj⟩:=ih (i+1) n v (by omega) (by omega);have hb:=Bt3 hlt;cases hc:okZ (Ap5 a i) with
  |true=>
   refine⟨j,?_⟩;have e:Rs a i (m+1)=Rs a (i+1) m:=by simp only[Rs,hc,Bool.true_and]
   simp only[M4,Vq,aN,aB,Dn hlt,nn,toN,if_true,hb,cond_true,Alw,Co,Az hlt hs,hj,e,F9,Du,Hu];rw[show((!Aqm (D2 a[i]?) && D2 a[i]? != 95) && (decide (D2 a[i]? < 48) || decide (D2 a[i]? > 57)))=false from ?_]
   ·rfl
   ·revert hc;unfold okZ Ap5
    generalize D2 a[i]? =z;cases Aqm z<;>simp<;>omega
  |false=>
   refine⟨i,?_⟩;have e:Rs a i (m+1)=false:=by simp only[Rs,hc,Bool.false_and]
   simp only[M4,Vq,aN,aB,Dn hlt,nn,toN,if_true,hb,cond_true,Alw,Co,Az hlt hs,hj,e,F9,Du,Hu];rw[show((!Aqm (D2 a[i]?) && D2 a[i]? != 95) && (decide (D2 a[i]? < 48) || decide (D2 a[i]? > 57)))=true from ?_]
   ·rfl
   ·revert hc;unfold okZ Ap5
    generalize D2 a[i]? =z;cases Aqm z<;>simp<;>omega
theorem Sz(L:Nat)(s:Yb)(hs:okS s)(hL:s.size<L)(hL':80<L):Jz L s=some (Jt s):=by
 obtain⟨j,hj⟩:=B9k L s hs s.size 0 L 0 (by omega) hL;have e0:decide ((s.size:Int)>24)= !decide (s.size<=24):=by
  by_cases h:s.size<=24
  ·rw[decide_eq_false (by omega),decide_eq_true h];rfl
  ·rw[decide_eq_true (by omega),decide_eq_false h];rfl
 have e2:decide ((s.size:Int)<1)=decide (s.size=0):=decide_eq_decide.2 (by omega);simp only[A0v,Abv,Aat,Jz,Abv,Aat,aN,aB,Alw,A5z L s hL',Co,F9,Hu,e0,e2];by_cases h0:s.size=0
 ·have:Alv s=false:=by unfold Alv;rw[decide_eq_false (show¬1<=s.size by omega)];rfl
  simp[h0,Jt,this]
 ·have hb:=Bt3 (show 0<s.size by omega);have e1:Alv s=(decide (s.size<=24) && Aqm (Ap5 s 0) && !Ah3 s && Rs s 0 s.size):=by unfold Alv;rw[decide_eq_true (show 1<=s.size by omega)];rfl
  simp only[Int.ofNat_zero,Int.natCast_zero]at hj;simp only[h0,decide_false,Bool.false_or,Int.le_refl,Nat.le_refl,if_true,Int.toNat_zero,hb,cond_true,hj,Co,Jt,e1,Ap5];cases decide (s.size<=24)<;>cases Aqm (D2 s[0]?)<;>cases Ah3 s<;>cases Rs s 0 s.size<;>rfl
theorem A77(Bfy:Ab->Option Int)(L:Nat)(a0:Ab):∀(k:List Ab) (i:Nat) (v:Int),(∀x∈k,Bfy x=some (Ag5 x))->∃j,Nq Bfy L a0 k i v=some (0,(Azy k v,j)):=by
 intro k
 induction k with
 |nil=>intro i v _;exact⟨_,rfl⟩
 |cons x k ih=>
  intro i v h;obtain⟨j,hj⟩:=ih (i+1) (Bs (v+Ag5 x)) λy hy=>h y (by simp[hy]);exact⟨j,by simp only[Nq,h x (by simp),Co,hj,Azy]⟩
theorem Bbt{e:Ab}(h:B1 e):∀L,maxLen+dE e<L->Ol L e=some (Ag5 e):=by
 induction h with
 |mk a0 a1 a2 a3 h0 h1 h2 h3 h4 ih=>
  intro L hL;obtain⟨L,rfl⟩:∃k,L=k+1:=⟨L-1,by omega⟩;rw[dE]at hL;have hr:∀x∈a3,Ol L x=some (Ag5 x):=λx hx=>ih x hx L (by have:=Akl hx;omega);obtain⟨j,hj⟩:=A77 (Ol L) L (.mk a0 a1 a2 a3) a3 0 1 hr;simp only[A0x,Aav,Aqu,Ol,Aav,aN,aB,Ab.cp_eq,Ab.Op,Ab.aF,Ab.N,Ab.aY,Ab.eta,A2d _ _ (.mk a0 a1 a2 a3) _ h3 (show a3.length<L by omega),hj,Co,H4,Ag5]
theorem A76(Bfz:Ab->Option Int)(L:Nat)(a0:Ab):∀(k:List Ab) (i:Nat) (v:Int),(∀x∈k,Bfz x=some (Zs x))->∃j,Np Bfz L a0 k i v=some (0,(Ayp k v,j)):=by
 intro k
 induction k with
 |nil=>intro i v _;exact⟨_,rfl⟩
 |cons x k ih=>
  intro i v h;obtain⟨j,hj⟩:=ih (i+1) (if Zs x>v then Zs x else v) λy hy=>h y (by simp[hy]);exact⟨j,by simp only[Np,h x (by simp),Co,hj,Ayp]⟩
theorem Bbs{e:Ab}(h:B1 e):∀L,maxLen+dE e<L->Ok L e=some (Zs e):=by
 induction h with
 |mk a0 a1 a2 a3 h0 h1 h2 h3 h4 ih=>
  intro L hL;obtain⟨L,rfl⟩:∃k,L=k+1:=⟨L-1,by omega⟩;rw[dE]at hL;have hr:∀x∈a3,Ok L x=some (Zs x):=λx hx=>ih x hx L (by have:=Akl hx;omega);obtain⟨j,hj⟩:=A76 (Ok L) L (.mk a0 a1 a2 a3) a3 0 0 hr;simp only[A0w,Aau,Aqt,Ok,Aau,aN,aB,Ab.cp_eq,Ab.Op,Ab.aF,Ab.N,Ab.aY,Ab.eta,A2c _ _ (.mk a0 a1 a2 a3) _ h3 (show a3.length<L by omega),hj,Co,H4,Zs]
theorem Bbr(L:Nat)(op:Int):Aj9 L op=some (Awm op):=by
 simp only[Aq8,Aj9,aN,aB,Awm,Du,Hu,F9]
 congr 1
 grind
theorem A7o(L:Nat)(op:Int):g8 L op=some (Axk op):=by
 simp only[Aop,g8,aN,aB,Axk,Du]
theorem Az0(L:Nat)(n:Int):Amk L n=some (inZ n):=by
 simp only[A32,Amk,aN,aB,inZ,Du]
theorem Be7(L:Nat)(op:Int):Sg L op=some (if op=25 then 15 else if op=26 then 31 else 63):=by
 simp only[Aup,Sg,aN,aB,F9]
 congr 1
 grind
theorem Bcf(Bf0:Ab->Bool->Option Int)(L:Nat)(a1:Ab)(c:Bool):∀(k:List Ab) (i:Nat) (v:Int),(∀x∈k,Bf0 x c=some (Ar2 c x))->∃j,Me Bf0 L c a1 k i v=some (bif Ar3 c k != 0 then(0,(Ar3 c k,j)) else(1,(v,j))):=by
 intro k
 induction k with
 |nil=>intro i v _;exact⟨i,rfl⟩
 |cons x k ih=>
  intro i v h;obtain⟨j,hj⟩:=ih (i+1) v λy hy=>h y (by simp[hy]);by_cases hx:Ar2 c x=0
  ·exact⟨j,by simp[Me,h x (by simp),hj,Ar3,hx]⟩
  ·exact⟨(i:Int),by simp[Me,h x (by simp),hj,Ar3,hx,Xv hx]⟩
theorem Be8{e:Ab}(h:B1 e)(c:Bool):∀L,maxLen+dE e<L->P3 L e c=some (Ar2 c e):=by
 induction h with
 |mk a0 a1 a2 a3 h0 h1 h2 h3 h4 ih=>
  intro L hL;obtain⟨L,rfl⟩:∃k,L=k+1:=⟨L-1,by omega⟩;rw[dE]at hL;have hr:∀x∈a3,P3 L x c=some (Ar2 c x):=λx hx=>ih x hx L (by have:=Akl hx;omega);obtain⟨j,hj⟩:=Bcf (P3 L) L (.mk a0 a1 a2 a3) c a3 0 0 hr;have h1':a1.size<=maxLen:=h1;have hm:(80:Nat)<maxLen:=by decide
  have hloop:(Option.bind (Mb (P3 L) L c (.mk a0 a1 a2 a3) L 0 0) λo=>Apw o.1 [some o.2.1,some 0])=some (Ar3 c a3):=by
   rw[A5k _ _ _ (.mk a0 a1 a2 a3) _ h3 (show a3.length<L by omega)];simp only[Ab.cp_eq,Ab.Op,Ab.aF,Ab.N,Ab.aY,Ab.eta,hj,Co];by_cases h':Ar3 c a3=0
   ·simp[h',S5]
   ·simp[H4,Xv h']
  simp only[Amd,Afd,Ae4,sx_R09_node_3,Amc,sx_R09_node_2,Amb,sx_R09_node_1,Ama,sx_R09_node_0,A35,Aue,P3,Afd,Ae4,aN,aB,Ab.cp_eq,Ab.Op,Ab.aF,Ab.N,Ab.aY,Ab.eta,hloop,Bbr,A7o,Az0,Be7,Sz L a1 h1 (show a1.size<L by omega) (show 80<L by omega),Iu,Du,Hu,F9,Co,Ar2]
  congr 1
  generalize Ar3 c a3=rest;unfold Axi Bat Azv;simp only[Ab.cp_eq,Ab.Op,Ab.aF,Ab.N,Ab.aY,Ab.eta];clear hj hloop hr ih h4 h0 h1 h2 h3 h1' hL hm;have hop:=Bwz a0;rcases hop with rfl|rfl|rfl|rfl|rfl|rfl|rfl|rfl|rfl|rfl|rfl|rfl|rfl|rfl|rfl|rfl|rfl|rfl|rfl|rfl|rfl|rfl|rfl|rfl|rfl|rfl|hop|hop<;>cases c
  all_goals first|(simp[Ah6,As8,Axk,Awm];done)|(simp[Ah6,As8,Axk,Awm];grind)|grind [Ah6,As8,Axk,Awm]
theorem Axm{e:Ab}(h:B1 e)(c:Bool)(L:Nat)(hL:maxLen+dE e<L):Afl L e c=some (D5 c e):=by
 simp only[Ara,Afl,aN,aB,Ab.cp_eq,Bbt h L hL,Bbs h L hL,Be8 h c L hL,Co,F9,D5]
 congr 1
 grind
theorem Apk{e:Ab}(h:B1 e)(L:Nat)(hL:maxLen+dE e<L):R9 L e=some (D5 false e):=by
 simp only[Aq9,R9,aN,aB,Ab.cp_eq,Axm h _ L hL,Co]
def B2g:Yb:=⟨#[118,97,114]⟩
def Ber:Yb:=⟨#[114,101,115,111,117,114,99,101]⟩
def Ajf:Yb:=⟨#[115,116,111,114,101]⟩
def Bvj:Yb:=⟨#[98,101,108,116]⟩
def Bpe:Yb:=⟨#[113,117,101,117,101]⟩
def Bl4:Yb:=⟨#[115,116,114,101,97,109]⟩
def Bpf:Yb:=⟨#[116,97,108,108,121]⟩
def Bpd:Yb:=⟨#[108,101,118,101,108]⟩
def Aje:Yb:=⟨#[99,111,117,110,116]⟩
def Zw:Yb:=⟨#[114,111,117,116,105,110,101]⟩
theorem Axz(L:Nat)(l:List Am)(s:Aa)(n:Yb):∀(k:List Am) (i:Nat) (v:Int),Hz L l s n k i v=some (match k.findIdx? (λx=>x.aF.toList == n.toList) with|some j=>(0,(((i+j:Nat):Int),((i+j:Nat):Int)))|none=>(1,(v,((i+k.length:Nat):Int)))):=by
 intro k
 induction k with
 |nil=>intro i v;rfl
 |cons x k ih=>
  intro i v;rw[Hz,ih,List.findIdx?_cons];cases hc:(λx=>x.aF.toList == n.toList) x with
  |true=>simp only[hc,cond_true,if_true];rfl
  |false=>
   simp only[hc,cond_false,if_false,Bool.false_eq_true];cases k.findIdx? (λx=>x.aF.toList == n.toList) with
   |some j=>simp[Nat.add_assoc,Nat.add_comm 1]
   |none=>simp[Nat.add_assoc,Nat.add_comm 1]
theorem Aqq(L:Nat)(l:List Am)(s:Aa)(n:Yb)(hl:l.length<=maxLen)(hL:l.length<L):Sr L l s n=some (d8 (l.findIdx? (λx=>decide (x.aF=n)))):=by
 simp only[Sr,Ajb,Zy,aN,aB,Ath _ _ _ _ _ hl hL,Axz,Iu,Co];cases l.findIdx? (λx=>decide (x.aF=n)) with
 |none=>rfl
 |some i=>simp[d8,H4]
theorem Anj(L:Nat)(l:List Yb)(n:Yb):∀(k:List Yb) (i:Nat) (v:Int),D8 L l n k i v=some (match k.findIdx? (λx=>n.toList == x.toList) with|some j=>(0,(((i+j:Nat):Int),((i+j:Nat):Int)))|none=>(1,(v,((i+k.length:Nat):Int)))):=by
 intro k
 induction k with
 |nil=>intro i v;rfl
 |cons x k ih=>
  intro i v;rw[D8,ih,List.findIdx?_cons];cases hc:(λx=>n.toList == x.toList) x with
  |true=>simp only[hc,cond_true,if_true];rfl
  |false=>
   simp only[hc,cond_false,if_false,Bool.false_eq_true];cases k.findIdx? (λx=>n.toList == x.toList) with
   |some j=>simp[Nat.add_assoc,Nat.add_comm 1]
   |none=>simp[Nat.add_assoc,Nat.add_comm 1]
theorem Apo(L:Nat)(l:List Yb)(n:Yb)(hl:l.length<=maxLen)(hL:l.length<L):Nv L l n=some (d8 (l.findIdx? (λx=>decide (n=x)))):=by
 simp only[Nv,Acm,Qq,aN,aB,Aj6 _ _ _ _ hl hL,Anj,Iu,Co];cases l.findIdx? (λx=>decide (n=x)) with
 |none=>rfl
 |some i=>simp[d8,H4]
def Agc(s:Aa)(n:Yb):Int:=d8 (s.aD.findIdx? λx=>decide (x.aF=n))
theorem Ani(L:Nat)(s:Aa)(n:Yb)(hl:s.aD.length<=maxLen)(hL:s.aD.length<L):Kn L s n=some (Agc s n):=by
 simp only[Ap2,S2,Kn,S2,aN,aB,Aqq L _ s n hl hL,Co,Agc]
def Asp(s:Aa)(n:Yb):Yb×Int:=
 bif s.bX.any (λx=>decide (x.aF=n)) then(B2g,d8 (s.bX.findIdx? λx=>decide (x.aF=n)))
 else bif s.aG.any (λx=>decide (x.aF=n)) then(Ber,d8 (s.aG.findIdx? λx=>decide (x.aF=n)))
 else bif s.aM.any (λx=>decide (x.aF=n)) then(Ajf,d8 (s.aM.findIdx? λx=>decide (x.aF=n)))
 else bif s.bL.any (λx=>decide (x.aF=n)) then(Bvj,d8 (s.bL.findIdx? λx=>decide (x.aF=n)))
 else bif s.bJ.any (λx=>decide (n=x)) then(Bpe,d8 (s.bJ.findIdx? λx=>decide (n=x)))
 else bif s.aZ.any (λx=>decide (n=x)) then(Bl4,d8 (s.aZ.findIdx? λx=>decide (n=x)))
 else bif s.bH.any (λx=>decide (n=x)) then(Bpf,d8 (s.bH.findIdx? λx=>decide (n=x)))
 else bif s.bP.any (λx=>decide (n=x)) then(Bpd,d8 (s.bP.findIdx? λx=>decide (n=x)))
 else bif s.bD.any (λx=>decide (n=x)) then(Aje,d8 (s.bD.findIdx? λx=>decide (n=x)))
 else bif s.aD.any (λx=>decide (x.aF=n)) then(Zw,Agc s n)
 else(⟨#[]⟩,-1)
def b0(s:Aa)(n:Yb):Yb:=(Asp s n).1
def Ajj(s:Aa)(m:Nat):Prop:=s.bX.length<=m/\s.aG.length<=m/\s.aM.length<=m/\s.bL.length<=m/\s.bJ.length<=m/\s.aZ.length<=m/\s.bH.length<=m/\s.bP.length<=m/\s.bD.length<=m/\s.aD.length<=m
theorem B8.len{s:Aa}(h:B8 s):Ajj s maxLen:=by
 unfold B8 at h;unfold Ajj;simp only[h,and_self]
theorem A8a(L:Nat)(s:Aa):∀(k:List Aw) (i:Nat) (v:List Yb),v.length+k.length<=1099511627776->∃j,J8 L s k i v=some (0,(j,v++k.map (λx=>x.aF))):=by
 intro k
 induction k with
 |nil=>intro i v _;exact⟨_,by rw[J8,List.map_nil,List.append_nil]⟩
 |cons x k ih=>
  intro i v h;rw[List.length_cons]at h;obtain⟨j,hj⟩:=ih (i+1) (v++ [(λx=>x.aF) x]) (by simp only[List.length_append,List.length_cons,List.length_nil];omega);refine⟨j,?_⟩;rw[J8];have hM:=Bl;simp only[List.length_cons,List.length_nil]
  repeat rw[ifp (by omega)]
  rw[hj,List.append_assoc];rfl
theorem A8b(L:Nat)(s:Aa)(o1:Nat×(Int×List Yb)):∀(k:List Ak) (i:Nat) (v:List Yb),v.length+k.length<=1099511627776->∃j,J9 L s o1 k i v=some (0,(j,v++k.map (λx=>x.aF))):=by
 intro k
 induction k with
 |nil=>intro i v _;exact⟨_,by rw[J9,List.map_nil,List.append_nil]⟩
 |cons x k ih=>
  intro i v h;rw[List.length_cons]at h;obtain⟨j,hj⟩:=ih (i+1) (v++ [(λx=>x.aF) x]) (by simp only[List.length_append,List.length_cons,List.length_nil];omega);refine⟨j,?_⟩;rw[J9];have hM:=Bl;simp only[List.length_cons,List.length_nil]
  repeat rw[ifp (by omega)]
  rw[hj,List.append_assoc];rfl
theorem A8c(L:Nat)(s:Aa)(o1 o2:Nat×(Int×List Yb)):∀(k:List Au) (i:Nat) (v:List Yb),v.length+k.length<=1099511627776->∃j,Ka L s o1 o2 k i v=some (0,(j,v++k.map (λx=>x.aF))):=by
 intro k
 induction k with
 |nil=>intro i v _;exact⟨_,by rw[Ka,List.map_nil,List.append_nil]⟩
 |cons x k ih=>
  intro i v h;rw[List.length_cons]at h;obtain⟨j,hj⟩:=ih (i+1) (v++ [(λx=>x.aF) x]) (by simp only[List.length_append,List.length_cons,List.length_nil];omega);refine⟨j,?_⟩;rw[Ka];have hM:=Bl;simp only[List.length_cons,List.length_nil]
  repeat rw[ifp (by omega)]
  rw[hj,List.append_assoc];rfl
theorem A8d(L:Nat)(s:Aa)(o1 o2 o3:Nat×(Int×List Yb)):∀(k:List Bg) (i:Nat) (v:List Yb),v.length+k.length<=1099511627776->∃j,Kb L s o1 o2 o3 k i v=some (0,(j,v++k.map (λx=>x.aF))):=by
 intro k
 induction k with
 |nil=>intro i v _;exact⟨_,by rw[Kb,List.map_nil,List.append_nil]⟩
 |cons x k ih=>
  intro i v h;rw[List.length_cons]at h;obtain⟨j,hj⟩:=ih (i+1) (v++ [(λx=>x.aF) x]) (by simp only[List.length_append,List.length_cons,List.length_nil];omega);refine⟨j,?_⟩;rw[Kb];have hM:=Bl;simp only[List.length_cons,List.length_nil]
  repeat rw[ifp (by omega)]
  rw[hj,List.append_assoc];rfl
theorem A8e(L:Nat)(s:Aa)(o1 o2 o3 o4:Nat×(Int×List Yb)):∀(k:List Am) (i:Nat) (v:List Yb),v.length+k.length<=1099511627776->∃j,Kc L s o1 o2 o3 o4 k i v=some (0,(j,v++k.map (λx=>x.aF))):=by
 intro k
 induction k with
 |nil=>intro i v _;exact⟨_,by rw[Kc,List.map_nil,List.append_nil]⟩
 |cons x k ih=>
  intro i v h;rw[List.length_cons]at h;obtain⟨j,hj⟩:=ih (i+1) (v++ [(λx=>x.aF) x]) (by simp only[List.length_append,List.length_cons,List.length_nil];omega);refine⟨j,?_⟩;rw[Kc];have hM:=Bl;simp only[List.length_cons,List.length_nil]
  repeat rw[ifp (by omega)]
  rw[hj,List.append_assoc];rfl
def H5(s:Aa):List (List Yb):= [s.bX.map λx=>x.aF,s.aG.map λx=>x.aF,s.aM.map λx=>x.aF,s.bL.map λx=>x.aF,s.bJ,s.aZ,s.bH,s.bP,s.bD,s.aD.map λx=>x.aF]
theorem Apl(L:Nat)(s:Aa)(h:Ajj s 1099511627776)(hL:maxLen<L):Z0 L s=some (H5 s):=by
 obtain⟨h0,h1,h2,h3,h4,h5,h6,h7,h8,h9⟩:=h;rw[Bl]at hL;obtain⟨j1,e1⟩:=A8a L s s.bX 0 [] (by simpa using h0);obtain⟨j2,e2⟩:=A8b L s (0,(j1,[]++s.bX.map λx=>x.aF)) s.aG 0 [] (by simpa using h1);obtain⟨j3,e3⟩:=A8c L s (0,(j1,[]++s.bX.map λx=>x.aF)) (0,(j2,[]++s.aG.map λx=>x.aF)) s.aM 0 [] (by simpa using h2);obtain⟨j4,e4⟩:=A8d L s (0,(j1,[]++s.bX.map λx=>x.aF)) (0,(j2,[]++s.aG.map λx=>x.aF)) (0,(j3,[]++s.aM.map λx=>x.aF)) s.bL 0 [] (by simpa using h3);obtain⟨j5,e5⟩:=A8e L s (0,(j1,[]++s.bX.map λx=>x.aF)) (0,(j2,[]++s.aG.map λx=>x.aF)) (0,(j3,[]++s.aM.map λx=>x.aF)) (0,(j4,[]++s.bL.map λx=>x.aF)) s.aD 0 [] (by simpa using h9);simp only[A02,Ajq,Abz,Ajr,Ab0,Aa7,Ab1,Ajs,Ab2,Aa8,Z0,Ajq,Abz,Ajr,Ab0,Aa7,Ab1,Ajs,Ab2,Aa8,aN,aB,A2i L s L (by rw[Bl];omega) (by omega),e1,Co,H4,A2j L s _ L (by rw[Bl];omega) (by omega),e2,A2k L s _ _ L (by rw[Bl];omega) (by omega),e3,A2l L s _ _ _ L (by rw[Bl];omega) (by omega),e4,A2m L s _ _ _ _ L (by rw[Bl];omega) (by omega),e5]
 repeat rw[ifp (by omega)]
 rfl
theorem Bod(l:List Yb)(s:Yb):decide (A7g l s>=0)=l.any (λx=>decide (x=s)):=Awz _ _
theorem Bfb(L:Nat)(s:Aa)(n:Yb)(h:Ajj s 1099511627776)(hL:maxLen<L):Aok L s n=some (b0 s n):=by
 have hM:=Bl;have hh:=h;obtain⟨h0,h1,h2,h3,h4,h5,h6,h7,h8,h9⟩:=hh;have hn:=Apl L s h hL;have hf:∀l:List Yb,l.length<=1099511627776->Km L l n=some (A7g l n):=λl hl=>Af5 L l n (by omega) (by omega);have e:∀ {α :Type} (l:List α) (f: α->Yb),l.length<=1099511627776->Km L (l.map f) n=some (A7g (l.map f) n):=λl f hl=>hf _ (by rw[List.length_map];exact hl);simp only[A37,Afe,Ae6,Aok,Afe,Ae6,aN,aB,hn,Co,A5m L n (H5 s) s L (by simp only[H5,List.length_cons,List.length_nil];omega) (by simp only[H5,List.length_cons,List.length_nil];omega)];simp only[H5,Tu,e _ _ h0,e _ _ h1,e _ _ h2,e _ _ h3,hf _ h4,hf _ h5,hf _ h6,hf _ h7,hf _ h8,e _ _ h9,Co,Bod,List.any_map,List.length_cons,List.length_nil,Int.toNat_natCast]
 repeat rw[ifp (by omega)]
 simp only[b0,Asp,F9,Co,Function.comp_def];have e2:∀l:List Yb,(l.any λx=>decide (x=n))=l.any λx=>decide (n=x):=λl=>by simp only[eq_comm]
 simp only[e2];cases s.bX.any (λx=>decide (x.aF=n)) with|true=>rfl|false=>?_
 cases s.aG.any (λx=>decide (x.aF=n)) with|true=>rfl|false=>?_
 cases s.aM.any (λx=>decide (x.aF=n)) with|true=>rfl|false=>?_
 cases s.bL.any (λx=>decide (x.aF=n)) with|true=>rfl|false=>?_
 cases s.bJ.any (λx=>decide (n=x)) with|true=>rfl|false=>?_
 cases s.aZ.any (λx=>decide (n=x)) with|true=>rfl|false=>?_
 cases s.bH.any (λx=>decide (n=x)) with|true=>rfl|false=>?_
 cases s.bP.any (λx=>decide (n=x)) with|true=>rfl|false=>?_
 cases s.bD.any (λx=>decide (n=x)) with|true=>rfl|false=>?_
 cases s.aD.any (λx=>decide (x.aF=n))<;>rfl
def o2:Option Int->Int×Bool
 |some t=>(t,true)
 |none=>(0,false)
theorem A5f(s:Aa):Ajj s (Dm s):=by
 unfold Ajj Dm;have h0:s.bX.length<=Ga V5 s.bX:=I3 λx=>by unfold V5;omega
 have h1:s.aG.length<=Ga E9 s.aG:=I3 λx=>by unfold E9;omega
 have h2:s.aM.length<=Ga Rk s.aM:=I3 λx=>by unfold Rk;omega
 have h3:s.bL.length<=Ga Th s.bL:=I3 λx=>by unfold Th;omega
 have h4:s.bJ.length<=Ga (λz:Yb=>z.size+1) s.bJ:=I3 λx=>by omega
 have h5:s.aZ.length<=Ga (λz:Yb=>z.size+1) s.aZ:=I3 λx=>by omega
 have h6:s.bH.length<=Ga (λz:Yb=>z.size+1) s.bH:=I3 λx=>by omega
 have h7:s.bP.length<=Ga (λz:Yb=>z.size+1) s.bP:=I3 λx=>by omega
 have h8:s.bD.length<=Ga (λz:Yb=>z.size+1) s.bD:=I3 λx=>by omega
 have h9:s.aD.length<=Ga Gj s.aD:=I3 λx=>by unfold Gj;omega
 refine⟨?_,?_,?_,?_,?_,?_,?_,?_,?_,?_⟩<;>omega
theorem Ajj.mono{s:Aa}{m n:Nat}(h:Ajj s m)(hm:m<=n):Ajj s n:=by
 obtain⟨h0,h1,h2,h3,h4,h5,h6,h7,h8,h9⟩:=h;exact⟨by omega,by omega,by omega,by omega,by omega,by omega,by omega,by omega,by omega,by omega⟩
mutual
theorem A4x:∀e:Ab,dE e<=B5 e
 | .mk a b c k=>by
  rw[dE,B5];have:=Bn5 k;omega
theorem Bn5:∀k:List Ab,dEs k<=Sm k
 | []=>by simp[dEs]
 |x::k=>by
  rw[dEs,Sm];have:=A4x x;have:=Bn5 k;omega
end
theorem Asf{a b:Int}(h:¬a=b):(a != b)=true:=bne_iff_ne.2 h
theorem Ao9{α :Type} [Inhabited α](l:List α)(i:Nat)(h:i<l.length):l.drop i=l.getD i default::l.drop (i+1):=by
 rw[List.drop_eq_getElem_cons h,Kj l i h]
theorem Asq(L:Nat)(a0 a1:List Int):∀(k:List Int) (i:Nat) (v:Bool),i+k.length=a1.length->∃j,F3 L a0 a1 k i v=some (bif decide (k=a1.drop i) then(1,(v,j)) else(0,(false,j))):=by
 intro k
 induction k with
 |nil=>
  intro i v h;refine⟨i,?_⟩;have:a1.drop i= []:=List.drop_eq_nil_of_le (by simp at h;omega);rw[this];rfl
 |cons x k ih=>
  intro i v h;rw[List.length_cons]at h;obtain⟨j,hj⟩:=ih (i+1) v (by omega);have hi:i<a1.length:=by omega
  rw[F3,Ao9 a1 i hi,ifp (show(i:Int)<(a1.length:Int) by omega),hj,toN];generalize a1.getD i default=y;by_cases hx:x=y
  ·refine⟨j,?_⟩;subst hx;simp
  ·exact⟨i,by simp[hx,Asf hx]⟩
theorem Ahk(L:Nat)(a b:List Int)(ha:a.length<=maxLen)(hL:maxLen<L):Et L a b=some (decide (a=b)):=by
 simp only[Ai0,N4,N2,Et,N4,N2,aN,aB,Api L a b L ha (by omega)];by_cases h:(a.length:Int)=(b.length:Int)
 ·obtain⟨j,hj⟩:=Asq L a b a 0 false (by omega);rw[hj,List.drop_zero];by_cases hab:a=b
  ·simp[hab,S5]
  ·simp[hab,h,H4]
 ·have:a≠b:=by rintro rfl;exact h rfl
  simp[this,Asf h]
theorem A0b(L:Nat)(a0 a1:List Int):∀(k:List Int) (i:Nat) (v:Bool),i+k.length=a1.length->∃j,Im L a0 a1 k i v=some (bif decide (k=a1.drop i) then(1,(v,j)) else(0,(false,j))):=by
 intro k
 induction k with
 |nil=>
  intro i v h;refine⟨i,?_⟩;have:a1.drop i= []:=List.drop_eq_nil_of_le (by simp at h;omega);rw[this];rfl
 |cons x k ih=>
  intro i v h;rw[List.length_cons]at h;obtain⟨j,hj⟩:=ih (i+1) v (by omega);have hi:i<a1.length:=by omega
  rw[Im,Ao9 a1 i hi,ifp (show(i:Int)<(a1.length:Int) by omega),hj,toN];generalize a1.getD i default=y;by_cases hx:x=y
  ·refine⟨j,?_⟩;subst hx;simp
  ·exact⟨i,by simp[hx,Asf hx]⟩
theorem Aqe(L:Nat)(a b:List Int)(ha:a.length<=maxLen)(hL:maxLen<L):Ve L a b=some (decide (a=b)):=by
 simp only[Aq6,U1,Ur,Ve,U1,Ur,aN,aB,Au9 L a b L ha (by omega)];by_cases h:(a.length:Int)=(b.length:Int)
 ·obtain⟨j,hj⟩:=A0b L a b a 0 false (by omega);rw[hj,List.drop_zero];by_cases hab:a=b
  ·simp[hab,S5]
  ·simp[hab,h,H4]
 ·have:a≠b:=by rintro rfl;exact h rfl
  simp[this,Asf h]
def Ahl(a b:Bk):Bool:=a.Op == b.Op && a.A == b.A && a.B == b.B && a.N == b.N && decide (a.aW=b.aW) && decide (a.aU=b.aU)
def okD(d:Bk):Prop:=d.aW.length<=1099511627776/\d.aU.length<=1099511627776
theorem Ah8(L:Nat)(a b:Bk)(ha:okD a)(hL:maxLen<L):L6 L a b=some (Ahl a b):=by
 have hM:=Bl;obtain⟨h1,h2⟩:=ha;simp only[Ars,L6,aN,aB,Ahk L a.aW b.aW (by omega) hL,Ahk L a.aU b.aU (by omega) hL,Co,F9,Du,Ahl]
theorem Akw(L:Nat)(a b:Bk)(ha:okD a)(hL:maxLen<L):Zm L a b=some (Ahl a b):=by
 have hM:=Bl;obtain⟨h1,h2⟩:=ha;simp only[Aun,Zm,aN,aB,Aqe L a.aW b.aW (by omega) hL,Aqe L a.aU b.aU (by omega) hL,Co,F9,Du,Ahl]
def Bo(lo hi x:Int):Bool:=decide (lo<=x) && decide (x<=hi)
def Ayq(d:Bk):Bool:=decide (d.aW.length=0) && decide (d.aU.length=0)
def Aid(d:Bk):Bool:=
 if d.Op=1 then Ayq d && d.B == 0 && d.N == 0
 else if d.Op=2\/d.Op=5 then Ayq d && d.N == 0
 else if d.Op=4 then Ayq d
 else if d.Op=3 then d.A == 0 && d.B == 0 && d.N == 0
 else false
def Bc0(d:Bk):Int:=
 if d.aW.length≠d.aU.length then 8 else if d.aW.length=0 then 7 else if 20<d.aW.length then 6
 else if d.aW.all (Bo 0 1000000000) && d.aU.all (Bo 1 1000)then 0 else 2
def Ap7(d:Bk):Int:=
 if Aid d=false then 1
 else if d.Op=1 then(if Bo 0 1000000000 d.A then 0 else 2)
 else if d.Op=2 then(if Bo 0 1000000000 d.A && Bo 0 1000000000 d.B && decide (d.A<=d.B)then 0 else 2)
 else if d.Op=3 then Bc0 d
 else if d.Op=4 then(if Bo 1 20 d.N && Bo 0 1000000 d.A && Bo 0 1000000 d.B && decide (d.A<=d.B)then 0 else 2)
 else(if Bo 1 1000 d.A && Bo 1 1000 d.B then 0 else 2)
theorem Bet(n:Nat):((n:Int) == 0)=decide (n=0):=by
 cases h:((n:Int) == 0) with
 |true=>have:=eq_of_beq h;exact(decide_eq_true (by omega)).symm
 |false=>symm;apply decide_eq_false;rintro rfl;cases h
theorem Boa{d:Bk}(h:okD d):(Bs ((d.aW.length:Int)+(d.aU.length:Int)) == 0)=Ayq d:=by
 obtain⟨h1,h2⟩:=h;rw[H7 (by omega) (by omega),show(d.aW.length:Int)+(d.aU.length:Int)=((d.aW.length+d.aU.length:Nat):Int) by omega,Bet];unfold Ayq;rw[<-Bool.decide_and];exact decide_eq_decide.2 (by omega)
theorem A56(L:Nat)(d:Bk)(h:okD d):Aek L d=some (Aid d):=by
 simp only[Ali,Aek,aN,aB,Boa h,F9,Du,Hu,Aid]
 congr 1
 by_cases h1:d.Op=1
 ·simp[h1]
 by_cases h2:d.Op=2
 ·simp[h2]
 by_cases h3:d.Op=3
 ·simp[h3]
 by_cases h4:d.Op=4
 ·simp[h4]
 by_cases h5:d.Op=5
 ·simp[h5]
 simp[h1,h2,h3,h4,h5,beq_false_of_ne h1,beq_false_of_ne h2,beq_false_of_ne h3,beq_false_of_ne h4,beq_false_of_ne h5]
theorem A7n(L:Nat)(d:Bk):Ahq L d=some (Aid d):=by
 simp only[Aon,Ahq,aN,aB,Bet,F9,Du,Hu,Aid,Ayq]
 congr 1
 by_cases h1:d.Op=1
 ·simp[h1,Bool.and_comm,Bool.and_left_comm]
 by_cases h2:d.Op=2
 ·simp[h2,Bool.and_comm]
 by_cases h3:d.Op=3
 ·simp[h3]
 by_cases h4:d.Op=4
 ·simp[h4]
 by_cases h5:d.Op=5
 ·simp[h5,Bool.and_comm]
 simp[h1,h2,h3,h4,h5,beq_false_of_ne h1,beq_false_of_ne h2,beq_false_of_ne h3,beq_false_of_ne h4,beq_false_of_ne h5]
theorem A2z(L:Nat)(p:List Int)(lo hi:Int):∀(k:List Int) (i:Nat) (v:Int),∃j:Nat,Jr L p lo hi k i v=some (bif k.all (Bo lo hi) then(1,(v,(j:Int))) else(0,((j:Int),(j:Int)))):=by
 intro k
 induction k with
 |nil=>intro i v;exact⟨i,rfl⟩
 |cons x k ih=>
  intro i v;obtain⟨j,hj⟩:=ih (i+1) v;rw[Jr,hj,List.all_cons];by_cases h1:x<lo
  ·refine⟨i,?_⟩;have:Bo lo hi x=false:=by unfold Bo;simp;omega
   simp[h1,this]
  ·by_cases h2:x>hi
   ·refine⟨i,?_⟩;have:Bo lo hi x=false:=by unfold Bo;simp;omega
    simp[h1,h2,this]
   ·refine⟨j,?_⟩;have:Bo lo hi x=true:=by unfold Bo;simp;omega
    simp[h1,h2,this]
theorem Aam(L:Nat)(lo hi:Int)(l:List Int)(hl:l.length<=1099511627776)(hL:maxLen<L):Gt L lo hi l=some (l.all (Bo lo hi)):=by
 have hM:=Bl;obtain⟨j,hj⟩:=A2z L l lo hi l 0 0;simp only[Atv,Wt,Gt,Wt,Ac6,Am0,Adu,aN,aB,Axd L l lo hi L (by omega) (by omega),hj,Co];cases l.all (Bo lo hi) with
 |true=>rfl
 |false=>simp[H4]
theorem Ae0(L:Nat)(d:Bk)(h:okD d)(hL:maxLen<L):F7 L d=some (Ap7 d):=by
 have hh:=h;obtain⟨h1,h2⟩:=hh;have w1:∀lo hi a,Gt L lo hi [a]=some (Bo lo hi a):=λlo hi a=>by rw[Aam L lo hi [a] (by simp) hL];simp
 have w2:∀lo hi a b,Gt L lo hi [a,b]=some (Bo lo hi a && Bo lo hi b):=λlo hi a b=>by rw[Aam L lo hi [a,b] (by simp) hL];simp
 simp only[Aox,F7,aN,aB,A56 L d h,w1,w2,Aam L _ _ _ h1 hL,Aam L _ _ _ h2 hL,Co,F9,Du,Ap7,Bc0]
 congr 1
 cases hu:Aid d with
 |false=>simp
 |true=>
  simp only[Bool.not_true,cond_false,if_false,Bool.true_eq_false];unfold Aid at hu;by_cases e1:d.Op=1
  ·simp[e1]<;>grind
  by_cases e2:d.Op=2
  ·simp[e2]<;>grind
  by_cases e3:d.Op=3
  ·have q1:((d.aW.length:Int) != (d.aU.length:Int))=decide (d.aW.length≠d.aU.length):=by
    rw[Bool.eq_iff_iff];simp;omega
   have q2:decide ((d.aW.length:Int)>20)=decide (20<d.aW.length):=decide_eq_decide.2 (by omega);simp only[e3,q1,q2,Bet];clear h h1 h2 w1 w2 q1 q2 hu e1 e2 e3;generalize d.aW.length=nv;generalize d.aU.length=nw;generalize d.aW.all (Bo 0 1000000000)=x;generalize d.aU.all (Bo 1 1000)=y;by_cases c1:nv=nw
   ·subst c1;by_cases c2:nv=0<;>by_cases c3:20<nv<;>cases x<;>cases y<;>simp[c2,c3]
   ·simp[c1]
  by_cases e4:d.Op=4
  ·simp[e4]<;>grind
  by_cases e5:d.Op=5
  ·simp[e5]<;>grind
  simp[e1,e2,e3,e4,e5]at hu
theorem Ash(L:Nat)(x lo hi:Int):E7 L x lo hi=some (Bo lo hi x):=by
 simp only[Ald,E7,aN,aB,Du,Bo]
theorem A75(L:Nat)(d:Bk):∀(k:List Int) (i:Nat) (v:Int),i+k.length=d.aU.length->∃j,No L d k i v=some (bif k.all (Bo 0 1000000000) && (d.aU.drop i).all (Bo 1 1000) then(1,(v,j)) else(0,(2,j))):=by
 intro k
 induction k with
 |nil=>
  intro i v h;refine⟨i,?_⟩;have:d.aU.drop i= []:=List.drop_eq_nil_of_le (by simp at h;omega);rw[this];rfl
 |cons x k ih=>
  intro i v h;rw[List.length_cons]at h;obtain⟨j,hj⟩:=ih (i+1) v (by omega);have hi:i<d.aU.length:=by omega
  rw[No,Ao9 d.aU i hi,hj,List.all_cons,List.all_cons];simp only[Ash,Co];rw[ifp (show(0:Int)<=(i:Int) by omega),ifp (show(i:Int)<(d.aU.length:Int) by omega),toN];cases h1:Bo 0 1000000000 x with
  |false=>exact⟨i,by simp⟩
  |true=>
   cases h2:Bo 1 1000 (d.aU.getD i default) with
   |false=>exact⟨i,by simp⟩
   |true=>exact⟨j,by simp⟩
theorem Bbq(L:Nat)(d:Bk)(h:okD d)(hL:maxLen<L):Aj8 L d=some (Bc0 d):=by
 have hM:=Bl;obtain⟨h1,h2⟩:=h;simp only[A0u,Abu,Aas,Aj8,Abu,Aas,aN,aB,A2b L d L (by omega) (by omega),Bc0];by_cases e1:d.aW.length=d.aU.length
 ·obtain⟨j,hj⟩:=A75 L d d.aW 0 0 (by omega);rw[hj,List.drop_zero];by_cases e2:d.aW.length=0
  ·simp[e2,<-e1]
  ·by_cases e3:20<d.aW.length
   ·have q:(20:Int)<(d.aW.length:Int):=by omega
    have q2:((d.aW.length:Int) == 0)=false:=by rw[Bet];exact decide_eq_false e2
    rw[e1]at q q2 e2 e3 ⊢;simp[q,q2,e2,e3]
   ·have q:¬(20:Int)<(d.aW.length:Int):=by omega
    have q2:((d.aW.length:Int) == 0)=false:=by rw[Bet];exact decide_eq_false e2
    rw[e1]at q q2 e2 e3 ⊢;simp only[bne_self_eq_false,cond_false,q2,gt_iff_lt,q,decide_false,ne_eq,not_true_eq_false,if_false,e2,e3,Co];cases d.aW.all (Bo 0 1000000000) && d.aU.all (Bo 1 1000)<;>rfl
 ·have:((d.aW.length:Int) != (d.aU.length:Int))=true:=Asf (by omega);simp[this,e1]
theorem Ah7(L:Nat)(d:Bk)(h:okD d)(hL:maxLen<L):R8 L d=some (Ap7 d):=by
 simp only[Aq5,R8,aN,aB,A7n,Ash,Bbq L d h hL,Co,F9,Du,Ap7]
 congr 1
 cases hu:Aid d with
 |false=>simp
 |true=>
  simp only[Bool.not_true,cond_false,if_false,Bool.true_eq_false];unfold Aid at hu;by_cases e1:d.Op=1
  ·simp[e1]<;>grind
  by_cases e2:d.Op=2
  ·simp[e2]<;>unfold Bo<;>grind
  by_cases e3:d.Op=3
  ·simp[e3]
  by_cases e4:d.Op=4
  ·simp[e4]<;>unfold Bo<;>grind
  by_cases e5:d.Op=5
  ·simp[e5]<;>grind
  simp[e1,e2,e3,e4,e5]at hu
mutual
def dS:Ad->Nat
 | .mk _ _ _ _ _ _ _ _ b e=>max (dSs b) (dSs e)+1
def dSs:List Ad->Nat
 | []=>0
 |x::k=>max (dS x) (dSs k)
end
mutual
def ctS:Ad->Nat
 | .mk _ _ _ _ _ _ _ _ b e=>Lt b+Lt e+1
def Lt:List Ad->Nat
 | []=>0
 |x::k=>ctS x+Lt k
end
theorem Bdx(s:Ad):dS s=max (dSs s.bE) (dSs s.bN)+1:=by cases s;rw[dS];simp only[Ad.cp_eq,Ad.eta,Ad.Op,Ad.aF,Ad.Of,Ad.E,Ad.F,Ad.aP,Ad.bF,Ad.bY,Ad.bE,Ad.bN]
theorem A4v(s:Ad):ctS s=Lt s.bE+Lt s.bN+1:=by cases s;rw[ctS];simp only[Ad.cp_eq,Ad.eta,Ad.Op,Ad.aF,Ad.Of,Ad.E,Ad.F,Ad.aP,Ad.bF,Ad.bY,Ad.bE,Ad.bN]
theorem Bjz{x:Ad}{k:List Ad}(h:x∈k):dSs x.bE<dSs k/\dSs x.bN<dSs k:=by
 induction k with
 |nil=>cases h
 |cons a k ih=>
  rw[dSs];rcases List.mem_cons.1 h with rfl|h
  ·rw[Bdx];omega
  ·have:=ih h;omega
theorem Bav(s:Ad):1+(s.aF.size+1)+(s.Of.size+1)+B5 s.E+B5 s.F+(Ga B5 s.aP+1)+L9 s.bF+1+(Dy s.bE+1)+(Dy s.bN+1)+1=Ek s:=by
 rw[Ary,N8,N8]<;>omega
theorem Bds{x:Ad}{k:List Ad}(h:x∈k):Ek x<=Dy k:=by
 rw[N8];exact Ya h
theorem Bnr(k:List Ad):k.length<=Dy k:=by
 rw[N8];exact I3 λx=>by rw[<-Bav];omega
theorem Bnq(k:List Ab):k.length<=Ga B5 k:=
 I3 λx=>by cases x;rw[B5];omega
mutual
theorem B8x:∀s:Ad,dS s<=Ek s
 | .mk a b c d e f g h i j=>by
  rw[dS,Ek];have:=Ayo i;have:=Ayo j;omega
theorem Ayo:∀k:List Ad,dSs k<=Dy k
 | []=>by simp[dSs]
 |x::k=>by
  rw[dSs,Dy];have:=B8x x;have:=Ayo k;omega
end
mutual
theorem B1m:∀s:Ad,ctS s<=Ek s
 | .mk a b c d e f g h i j=>by
  rw[ctS,Ek];have:=Awq i;have:=Awq j;omega
theorem Awq:∀k:List Ad,Lt k<=Dy k
 | []=>by simp[Lt]
 |x::k=>by
  rw[Lt,Dy];have:=B1m x;have:=Awq k;omega
end
theorem Anz{M:List Ad->Prop}(h:∀l:List Ad,(∀y∈l,Cz y/\M y.bE/\M y.bN)->M l){l:List Ad}(hl:∀y∈l,Cz y):M l:=by
 have key:∀s,Cz s->M s.bE/\M s.bN:=by
  intro s hs
  induction hs with
  |mk a0 a1 a2 a3 a4 a5 a6 a7 a8 a9 h0 h1 h2 h3 h4 h5 h5' h6 h7 h8 h8' h9 h9' ih8 ih9=>
   exact⟨h a8 λy hy=>⟨h8' y hy,ih8 y hy⟩,h a9 λy hy=>⟨h9' y hy,ih9 y hy⟩⟩
 exact h l λy hy=>⟨hl y hy,key y (hl y hy)⟩
theorem Cdd{s:Ad}(h:Cz s):okS s.aF/\okS s.Of/\B1 s.E/\B1 s.F/\(∀y∈s.aP,B1 y)/\Z6 s.bF/\(∀y∈s.bE,Cz y)/\(∀y∈s.bN,Cz y):=by
 cases h with
 |mk a0 a1 a2 a3 a4 a5 a6 a7 a8 a9 h0 h1 h2 h3 h4 h5 h5' h6 h7 h8 h8' h9 h9'=>exact⟨h1,h2,h3,h4,h5',h6,h8',h9'⟩
def Fu(L:Nat)(l:List Ad):Prop:=maxLen+1048576+dSs l<L/\Dy l<=1048576
theorem Fu.kid{L:Nat}{l:List Ad}(h:Fu (L+1) l){x:Ad}(hx:x∈l):Fu L x.bE/\Fu L x.bN:=by
 obtain⟨h1,h2⟩:=h;have:=Bjz hx;have:=Bds hx;have:=Bav x;exact⟨⟨by omega,by omega⟩,⟨by omega,by omega⟩⟩
theorem Fu.len{L:Nat}{l:List Ad}(h:Fu (L+1) l):l.length<=maxLen/\l.length<L/\l.length<=1048576:=by
 obtain⟨h1,h2⟩:=h;have:=Bnr l;have:=Bl;exact⟨by omega,by omega,by omega⟩
theorem Fu.one{L:Nat}{l:List Ad}(h:Fu (L+1) l):∃k,L=k+1:=by
 obtain⟨h1,h2⟩:=h;have:=Bl;exact⟨L-1,by omega⟩
theorem Fu.pos{L:Nat}{l:List Ad}(h:Fu L l):∃k,L=k+1:=by
 obtain⟨h1,h2⟩:=h;exact⟨L-1,by omega⟩
theorem A6l(rec:List Ad->Option Int)(L:Nat)(a0:List Ad):∀(k:List Ad) (i:Nat) (v:Nat),v+Lt k<=1048576+1048576->(∀x∈k,rec x.bE=some (Lt x.bE:Int)/\rec x.bN=some (Lt x.bN:Int))->∃j,Ix rec L a0 k i ((v+k.length:Nat):Int)=some (0,(((v+Lt k:Nat):Int),j)):=by
 intro k
 induction k with
 |nil=>intro i v _ _;exact⟨i,by rw[Ix,Lt];rfl⟩
 |cons x k ih=>
  intro i v hb h;rw[Lt,A4v]at hb;have hlen:k.length<=Lt k:=by
   clear ih h hb
   induction k with
   |nil=>simp
   |cons y k ih=>rw[Lt,A4v,List.length_cons];omega
  obtain⟨h1,h2⟩:=h x (by simp);obtain⟨j,hj⟩:=ih (i+1) (v+1+Lt x.bE+Lt x.bN) (by omega) λy hy=>h y (by simp[hy]);refine⟨j,?_⟩;rw[Ix,h1,Co,h2,Co,List.length_cons,Lt,A4v];rw[H7 (n:=(Lt x.bE:Int)+(Lt x.bN:Int)) (by omega) (by omega),H7 (by omega) (by omega)];rw[show((v+(k.length+1):Nat):Int)+((Lt x.bE:Int)+(Lt x.bN:Int))=((v+1+Lt x.bE+Lt x.bN+k.length:Nat):Int) by omega,hj]
  congr 3
  omega
theorem A70{l:List Ad}(hl:∀y∈l,Cz y):∀L,Fu L l->Lx L l=some (Lt l:Int):=by
 refine Anz (M:=λl=>∀L,Fu L l->Lx L l=some (Lt l:Int)) ?_ hl;intro l ih L hF;obtain⟨L,rfl⟩:=hF.pos;obtain⟨n1,n2,n3⟩:=hF.len;have hc:=Awq l;obtain⟨j,hj⟩:=A6l (Lx L) L l l 0 0 (by have:=hF.2;omega) λx hx=>⟨(ih x hx).2.1 L (hF.kid hx).1,(ih x hx).2.2 L (hF.kid hx).2⟩;rw[Nat.zero_add,Nat.zero_add]at hj;simp only[Awc,Za,Aoh,Lx,Za,aN,aB,Azq _ L l L n1 n2,hj,Co,H4]
theorem A78(rec:List Ad->Option Int)(L:Nat)(a0:List Ad):∀(k:List Ad) (i:Nat) (v:Nat),v+Lt k<=1048576+1048576->(∀x∈k,rec x.bE=some (Lt x.bE:Int)/\rec x.bN=some (Lt x.bN:Int))->∃j,J6 rec L a0 k i (v:Int)=some (0,(((v+Lt k:Nat):Int),j)):=by
 intro k
 induction k with
 |nil=>intro i v _ _;exact⟨i,by rw[J6,Lt];rfl⟩
 |cons x k ih=>
  intro i v hb h;rw[Lt,A4v]at hb;obtain⟨h1,h2⟩:=h x (by simp);obtain⟨j,hj⟩:=ih (i+1) (v+1+Lt x.bE+Lt x.bN) (by omega) λy hy=>h y (by simp[hy]);refine⟨j,?_⟩;rw[J6,h1,Co,h2,Co,Lt,A4v];rw[H7 (n:=(v:Int)+1) (by omega) (by omega),H7 (n:=(v:Int)+1+(Lt x.bE:Int)) (by omega) (by omega),H7 (by omega) (by omega)];rw[show(v:Int)+1+(Lt x.bE:Int)+(Lt x.bN:Int)=((v+1+Lt x.bE+Lt x.bN:Nat):Int) by omega,hj]
  congr 3
  omega
theorem Bbx{l:List Ad}(hl:∀y∈l,Cz y):∀L,Fu L l->Om L l=some (Lt l:Int):=by
 refine Anz (M:=λl=>∀L,Fu L l->Om L l=some (Lt l:Int)) ?_ hl;intro l ih L hF;obtain⟨L,rfl⟩:=hF.pos;obtain⟨n1,n2,n3⟩:=hF.len;have hc:=Awq l;obtain⟨j,hj⟩:=A78 (Om L) L l l 0 0 (by have:=hF.2;omega) λx hx=>⟨(ih x hx).2.1 L (hF.kid hx).1,(ih x hx).2.2 L (hF.kid hx).2⟩;rw[Nat.zero_add]at hj;simp only[A0y,Aaw,Aqv,Om,Aaw,aN,aB,A2e _ L l L n1 n2];rw[show(0:Int)=((0:Nat):Int)from rfl,hj];simp only[Co,H4]
theorem Bws(a b:Nat):(if(1+(a:Int))>(b:Int) then(1+(a:Int)) else(b:Int))=((max b (a+1):Nat):Int):=by
 split<;>omega
theorem A6m(rec:List Ad->Option Int)(L:Nat)(a0:List Ad):∀(k:List Ad) (i:Nat) (v:Nat),dSs k<=1048576->(∀x∈k,rec x.bE=some (dSs x.bE:Int)/\rec x.bN=some (dSs x.bN:Int))->∃j,Iy rec L a0 k i (v:Int)=some (0,(((max v (dSs k):Nat):Int),j)):=by
 intro k
 induction k with
 |nil=>intro i v _ _;exact⟨i,by rw[Iy,dSs,Nat.max_zero]⟩
 |cons x k ih=>
  intro i v hb h;rw[dSs,Bdx]at hb;obtain⟨h1,h2⟩:=h x (by simp);obtain⟨j,hj⟩:=ih (i+1) (max (max v (dSs x.bE+1)) (dSs x.bN+1)) (by omega) λy hy=>h y (by simp[hy]);refine⟨j,?_⟩;rw[Iy,h1,Co,h2,Co,dSs,Bdx];rw[H7 (n:=1+(dSs x.bE:Int)) (by omega) (by omega),H7 (n:=1+(dSs x.bN:Int)) (by omega) (by omega),Bws,Bws,hj]
  congr 3
  omega
theorem A71{l:List Ad}(hl:∀y∈l,Cz y):∀L,Fu L l->Ly L l=some (dSs l:Int):=by
 refine Anz (M:=λl=>∀L,Fu L l->Ly L l=some (dSs l:Int)) ?_ hl;intro l ih L hF;obtain⟨L,rfl⟩:=hF.pos;obtain⟨n1,n2,n3⟩:=hF.len;have hc:=Ayo l;obtain⟨j,hj⟩:=A6m (Ly L) L l l 0 0 (by have:=hF.2;omega) λx hx=>⟨(ih x hx).2.1 L (hF.kid hx).1,(ih x hx).2.2 L (hF.kid hx).2⟩;rw[Nat.zero_max]at hj;simp only[Awd,Zb,Aoi,Ly,Zb,aN,aB,Azr _ L l L n1 n2];rw[show(0:Int)=((0:Nat):Int)from rfl,hj];simp only[Co,H4]
theorem A79(rec:List Ad->Option Int)(L:Nat)(a0:List Ad):∀(k:List Ad) (i:Nat) (v:Nat),dSs k<=1048576->(∀x∈k,rec x.bE=some (dSs x.bE:Int)/\rec x.bN=some (dSs x.bN:Int))->∃j,J7 rec L a0 k i (v:Int)=some (0,(((max v (dSs k):Nat):Int),j)):=by
 intro k
 induction k with
 |nil=>intro i v _ _;exact⟨i,by rw[J7,dSs,Nat.max_zero]⟩
 |cons x k ih=>
  intro i v hb h;rw[dSs,Bdx]at hb;obtain⟨h1,h2⟩:=h x (by simp);obtain⟨j,hj⟩:=ih (i+1) (max (max v (dSs x.bE+1)) (dSs x.bN+1)) (by omega) λy hy=>h y (by simp[hy]);refine⟨j,?_⟩;rw[J7,h1,Co,h2,Co,dSs,Bdx];rw[H7 (n:=1+(dSs x.bE:Int)) (by omega) (by omega),H7 (n:=1+(dSs x.bN:Int)) (by omega) (by omega),Bws,Bws,hj]
  congr 3
  omega
theorem Bby{l:List Ad}(hl:∀y∈l,Cz y):∀L,Fu L l->On L l=some (dSs l:Int):=by
 refine Anz (M:=λl=>∀L,Fu L l->On L l=some (dSs l:Int)) ?_ hl;intro l ih L hF;obtain⟨L,rfl⟩:=hF.pos;obtain⟨n1,n2,n3⟩:=hF.len;have hc:=Ayo l;obtain⟨j,hj⟩:=A79 (On L) L l l 0 0 (by have:=hF.2;omega) λx hx=>⟨(ih x hx).2.1 L (hF.kid hx).1,(ih x hx).2.2 L (hF.kid hx).2⟩;rw[Nat.zero_max]at hj;simp only[A0z,Aax,Aqw,On,Aax,aN,aB,A2f _ L l L n1 n2];rw[show(0:Int)=((0:Nat):Int)from rfl,hj];simp only[Co,H4]
theorem ww1:Bs 1=1:=by kernel_rfl
theorem ww2:Bs 2=2:=by kernel_rfl
def Agi(e:Ab):Bool:=e.Op == 0 && decide (e.aF=⟨#[]⟩) && e.N == 0 && decide (e.aY.length=0)
theorem Bfa(L:Nat)(e:Ab):Aik L e=some (Agi e):=by
 simp only[Auq,Aik,aN,aB,Iu,Bet,Du,Agi]
theorem Aly(L:Nat)(e:Ab)(hL:1<L):L7 L e (.mk 0 ⟨#[]⟩ 0 [])=some (Agi e):=by
 obtain⟨L,rfl⟩:∃k,L=k+1:=⟨L-1,by omega⟩;cases e with
 |mk a b c k=>
  simp only[A1a,Acd,Abh,Aqx,L7,Acd,Abh,aN,aB,Ab.cp_eq,Ab.Op,Ab.aF,Ab.N,Ab.aY,Ab.eta,Iu,Du,Hu,List.length_nil,Agi];by_cases h:k.length=0
  ·have hk:k= []:=List.length_eq_zero_iff.1 h;subst hk;rw[A2t _ L (.mk a b c []) _ L (Nat.zero_le _) (by simp only[Ab.cp_eq,Ab.Op,Ab.aF,Ab.N,Ab.aY,Ab.eta,List.length_nil];omega)];simp only[Ab.cp_eq,Ab.Op,Ab.aF,Ab.N,Ab.aY,Ab.eta,Rq,Co,S5,List.length_nil];by_cases h1:a=0
   ·by_cases h2:b=⟨#[]⟩
    ·by_cases h3:c=0
     ·simp[h1,h2,h3]
     ·simp[h1,h2,h3,Asf h3]
    ·simp[h1,h2]
   ·simp[Asf h1,h1]
  ·have:((k.length:Int) != ((0:Nat):Int))=true:=Asf (by omega);simp only[this,Bool.or_true,cond_true,h,decide_false,Bool.and_false]
theorem Bge(op:Int):op=1\/op=2\/op=3\/op=4\/op=5\/op=6\/op=7\/op=8\/op=9\/op=10\/op=11\/op=12\/op=13\/op=14\/op=15\/op=16\/op=17\/op=18\/op<1\/18<op:=by omega
def An2(op:Int):Bt×Bool:=
 if op=1\/op=7\/op=8\/op=12\/op=15\/op=16\/op=17 then(⟨true,false,true,false,false,false,false,false,false⟩,true)
 else if op=2 then(⟨true,true,false,false,false,true,false,false,false⟩,true)
 else if op=3 then(⟨false,false,true,false,false,false,false,true,true⟩,true)
 else if op=4 then(⟨false,false,true,false,false,false,false,true,false⟩,true)
 else if op=5 then(⟨false,false,true,false,false,false,false,false,false⟩,true)
 else if op=6 then(⟨true,false,true,true,false,false,true,false,false⟩,true)
 else if op=9 then(⟨true,true,false,false,false,false,false,false,false⟩,true)
 else if op=10\/op=11 then(⟨true,false,false,false,false,false,false,false,false⟩,true)
 else if op=13 then(⟨true,true,true,false,true,false,false,false,false⟩,true)
 else if op=14 then(⟨true,false,true,false,true,false,false,false,false⟩,true)
 else if op=18 then(⟨false,false,false,false,false,false,false,false,false⟩,true)
 else(⟨false,false,false,false,false,false,false,false,false⟩,false)
def Asa(u:Bt):C1:=⟨u.dP,u.fT,u.fI,u.fP,u.dF,u.bR,u.fA,u.eZ,u.dY⟩
theorem B6{op:Int}(h:op<1\/18<op)(n:Int)(h1:1<=n)(h2:n<=18):(op == n)=false:=beq_false_of_ne (by omega)
theorem Ax9{op:Int}(h:op<1\/18<op):An2 op=(⟨false,false,false,false,false,false,false,false,false⟩,false):=by
 unfold An2
 repeat rw[if_neg (by omega)]
theorem Bcc(L:Nat)(op:Int):Afu L op=some (An2 op):=by
 simp only[Abq,sx_stmt_uses_3,Ajy,sx_stmt_uses_2,Ajx,sx_stmt_uses_0,A1b,Afu,aN,aB];have key:op<1\/18<op->_:=λh=>h;rcases Bge op with rfl|rfl|rfl|rfl|rfl|rfl|rfl|rfl|rfl|rfl|rfl|rfl|rfl|rfl|rfl|rfl|rfl|rfl|h|h
 case inr.inr.inr.inr.inr.inr.inr.inr.inr.inr.inr.inr.inr.inr.inr.inr.inr.inr.inl=>
  have h':op<1\/18<op:=.inl h;simp only[Ax9 h',B6 h',show(1:Int)<=1 by decide,cond_false,B6 h' 1 (by decide) (by decide),B6 h' 2 (by decide) (by decide),B6 h' 3 (by decide) (by decide),B6 h' 4 (by decide) (by decide),B6 h' 5 (by decide) (by decide),B6 h' 6 (by decide) (by decide),B6 h' 7 (by decide) (by decide),B6 h' 8 (by decide) (by decide),B6 h' 9 (by decide) (by decide),B6 h' 10 (by decide) (by decide),B6 h' 11 (by decide) (by decide),B6 h' 12 (by decide) (by decide),B6 h' 13 (by decide) (by decide),B6 h' 14 (by decide) (by decide),B6 h' 15 (by decide) (by decide),B6 h' 16 (by decide) (by decide),B6 h' 17 (by decide) (by decide),B6 h' 18 (by decide) (by decide)]
 case inr.inr.inr.inr.inr.inr.inr.inr.inr.inr.inr.inr.inr.inr.inr.inr.inr.inr.inr=>
  have h':op<1\/18<op:=.inr h;simp only[Ax9 h',cond_false,B6 h' 1 (by decide) (by decide),B6 h' 2 (by decide) (by decide),B6 h' 3 (by decide) (by decide),B6 h' 4 (by decide) (by decide),B6 h' 5 (by decide) (by decide),B6 h' 6 (by decide) (by decide),B6 h' 7 (by decide) (by decide),B6 h' 8 (by decide) (by decide),B6 h' 9 (by decide) (by decide),B6 h' 10 (by decide) (by decide),B6 h' 11 (by decide) (by decide),B6 h' 12 (by decide) (by decide),B6 h' 13 (by decide) (by decide),B6 h' 14 (by decide) (by decide),B6 h' 15 (by decide) (by decide),B6 h' 16 (by decide) (by decide),B6 h' 17 (by decide) (by decide),B6 h' 18 (by decide) (by decide)]
 all_goals rfl
theorem A9p(L:Nat)(op:Int):Aqz L op=some (Asa (An2 op).1,(An2 op).2):=by
 simp only[Ak8,sx_R10_Of_3,Asz,sx_R10_Of_2,Asy,sx_R10_Of_0,Bdl,Aqz,aN,aB];rcases Bge op with rfl|rfl|rfl|rfl|rfl|rfl|rfl|rfl|rfl|rfl|rfl|rfl|rfl|rfl|rfl|rfl|rfl|rfl|h|h
 case inr.inr.inr.inr.inr.inr.inr.inr.inr.inr.inr.inr.inr.inr.inr.inr.inr.inr.inl=>
  have h':op<1\/18<op:=.inl h;simp only[Ax9 h',cond_false,Asa,B6 h' 1 (by decide) (by decide),B6 h' 2 (by decide) (by decide),B6 h' 3 (by decide) (by decide),B6 h' 4 (by decide) (by decide),B6 h' 5 (by decide) (by decide),B6 h' 6 (by decide) (by decide),B6 h' 7 (by decide) (by decide),B6 h' 8 (by decide) (by decide),B6 h' 9 (by decide) (by decide),B6 h' 10 (by decide) (by decide),B6 h' 11 (by decide) (by decide),B6 h' 12 (by decide) (by decide),B6 h' 13 (by decide) (by decide),B6 h' 14 (by decide) (by decide),B6 h' 15 (by decide) (by decide),B6 h' 16 (by decide) (by decide),B6 h' 17 (by decide) (by decide),B6 h' 18 (by decide) (by decide)]
 case inr.inr.inr.inr.inr.inr.inr.inr.inr.inr.inr.inr.inr.inr.inr.inr.inr.inr.inr=>
  have h':op<1\/18<op:=.inr h;simp only[Ax9 h',cond_false,Asa,B6 h' 1 (by decide) (by decide),B6 h' 2 (by decide) (by decide),B6 h' 3 (by decide) (by decide),B6 h' 4 (by decide) (by decide),B6 h' 5 (by decide) (by decide),B6 h' 6 (by decide) (by decide),B6 h' 7 (by decide) (by decide),B6 h' 8 (by decide) (by decide),B6 h' 9 (by decide) (by decide),B6 h' 10 (by decide) (by decide),B6 h' 11 (by decide) (by decide),B6 h' 12 (by decide) (by decide),B6 h' 13 (by decide) (by decide),B6 h' 14 (by decide) (by decide),B6 h' 15 (by decide) (by decide),B6 h' 16 (by decide) (by decide),B6 h' 17 (by decide) (by decide),B6 h' 18 (by decide) (by decide)]
 all_goals rfl
def U9:Bk:=⟨0,0,0,0,[],[]⟩
def A1m(s:Ad)(u:Bt):Bool:=
 (u.dP || decide (s.aF=⟨#[]⟩)) && (u.fT || decide (s.Of=⟨#[]⟩)) && (u.fI || Agi s.E) && (u.fP || Agi s.F) && (u.dF || decide (s.aP.length=0)) && (u.bR || Ahl s.bF U9) && (u.fA || !s.bY) && (u.eZ || decide (s.bE.length=0)) && (u.dY || decide (s.bN.length=0))
structure SB (L:Nat) (s:Ad):Prop where
 fuel:9223372036855824383<L
 nm:okS s.aF
 of:okS s.Of
 e:B1 s.E
 f:B1 s.F
 args:∀y∈s.aP,B1 y
 bk:Ek s<=1048576
theorem SB.lt{L:Nat}{s:Ad}(h:SB L s):maxLen<L:=by
 have h1:=h.fuel;have hM:=Bl;omega
theorem SB.dist{L:Nat}{s:Ad}(h:SB L s):okD s.bF:=by
 have h1:=h.bk;rw[<-Bav]at h1;unfold L9 at h1;have h2:s.bF.aW.length<=Ga (λz:Int=>1) s.bF.aW:=I3 λ_=>Nat.le_refl _;have h3:s.bF.aU.length<=Ga (λz:Int=>1) s.bF.aU:=I3 λ_=>Nat.le_refl _;exact⟨by omega,by omega⟩
theorem SB.de{L:Nat}{s:Ad}(h:SB L s):maxLen+dE s.E<L/\maxLen+dE s.F<L/\(∀y∈s.aP,maxLen+dE y<L)/\s.aP.length<=1048576:=by
 have h1:=h.bk;rw[<-Bav]at h1;have h2:=h.fuel;have hM:=Bl;have h3:=A4x s.E;have h4:=A4x s.F;have h5:=Bnq s.aP;refine⟨by omega,by omega,λy hy=>?_,by omega⟩;have h6:=A4x y;have h7:B5 y<=Ga B5 s.aP:=Ya hy;omega
theorem Bcb(L:Nat)(s:Ad)(u:Bt)(h:SB L s):Aft L s u=some (A1m s u):=by
 have hL:=h.fuel;have hM:=Bl;have e0:=Aly L s.E (by omega);have f0:=Aly L s.F (by omega);have d0:=Ah8 L s.bF U9 h.dist h.lt;unfold U9 at d0;simp only[Aru,Aft,aN,aB,Ab.cp_eq,e0,f0,d0,Iu,Bet,Co,F9,Du,Hu,A1m,U9]
 congr 1
 cases u.fI<;>cases u.fP<;>cases u.bR<;>cases Agi s.E<;>cases Agi s.F<;>simp only[Bool.true_or,Bool.false_or,Bool.and_true,Bool.and_false,Bool.false_and,Bool.true_and,cond_true,cond_false,Bool.and_assoc]
theorem A7p(L:Nat)(s:Ad)(h:SB L s):Ahr L s=some ((An2 s.Op).2 && A1m s (An2 s.Op).1):=by
 have hL:=h.fuel;have hM:=Bl;have d0:=Akw L s.bF U9 h.dist h.lt;unfold U9 at d0;simp only[Aoq,Ahr,aN,aB,Ab.cp_eq,Bfa,A9p,d0,Iu,Bet,Co,F9,Du,Hu,A1m,Asa,U9]
 congr 1
 generalize (An2 s.Op).2=ok;generalize (An2 s.Op).1=u;cases u.bR<;>simp only[cond_true,cond_false,Bool.true_or,Bool.false_or,Bool.and_true,Bool.true_and]<;>ac_rfl
def Akj:List Ab->Int
 | []=>0
 |x::k=>if D5 false x≠0 then D5 false x else Akj k
def Az9(s:Ad)(u:Bt):Int:=
 if(u.dP && Jt s.aF != 0)=true then Jt s.aF
 else if(u.fT && Jt s.Of != 0)=true then Jt s.Of
 else if(u.fI && D5 false s.E != 0)=true then D5 false s.E
 else if(u.fP && D5 false s.F != 0)=true then D5 false s.F
 else if 6<s.aP.length then 6
 else if Akj s.aP≠0 then Akj s.aP
 else if u.bR then Ap7 s.bF else 0
theorem A6o(L:Nat)(s:Ad)(u:Bt):∀(k:List Ab) (i:Nat) (v:Int),(∀x∈k,Sk L x=some (D5 false x))->∃j,Iz L s u k i v=some (bif Akj k != 0 then(0,(Akj k,j)) else(1,(v,j))):=by
 intro k
 induction k with
 |nil=>intro i v _;exact⟨i,rfl⟩
 |cons x k ih=>
  intro i v h;obtain⟨j,hj⟩:=ih (i+1) v λy hy=>h y (by simp[hy]);by_cases hx:D5 false x=0
  ·exact⟨j,by simp[Iz,h x (by simp),hj,Akj,hx]⟩
  ·exact⟨i,by simp[Iz,h x (by simp),Akj,hx,Xv hx]⟩
theorem A73(L:Nat)(s:Ad)(u:Bt)(h:SB L s):m7 L s u=some (Az9 s u):=by
 have hL:=h.fuel;have hM:=Bl;obtain⟨b1,b2,b3,b4⟩:=h.de;have n1:s.aF.size<=maxLen:=h.nm;have n2:s.Of.size<=maxLen:=h.of;have c1:=Nu L s.aF h.nm (by omega);have c2:=Nu L s.Of h.of (by omega);have c3:=Alx h.e L b1;have c4:=Alx h.f L b2;have c5:=Ae0 L s.bF h.dist h.lt;obtain⟨j,hj⟩:=A6o L s u s.aP 0 0 λx hx=>Alx (h.args x hx) L (b3 x hx);have p1:∃j,K9 L u s L 0 0=some (bif u.dP && Jt s.aF != 0 then(0,(Jt s.aF,j))else bif u.fT && Jt s.Of != 0 then(0,(Jt s.Of,j)) else(1,(0,j))):=by
  obtain⟨k,hk⟩:∃k,L=k+3:=⟨L-3,by omega⟩;have l1:K9 L u s L 0 0=K9 L u s (k+3) 0 0:=by rw[<-hk]
  rw[l1];simp only[K9,Ag0,aN,aB,List.length_cons,List.length_nil];cases hn:(u.dP && Jt s.aF != 0) with
  |true=>exact⟨0,by simp[c1,hn,Du]⟩
  |false=>
   cases ho:(u.fT && Jt s.Of != 0) with
   |true=>exact⟨1,by simp[c1,c2,hn,ho,Du,ww1,ww2]⟩
   |false=>exact⟨2,by simp[c1,c2,hn,ho,Du,ww1,ww2]⟩
 have p2:∃j,La L u s L 0 0=some (bif u.fI && D5 false s.E != 0 then(0,(D5 false s.E,j))else bif u.fP && D5 false s.F != 0 then(0,(D5 false s.F,j)) else(1,(0,j))):=by
  obtain⟨k,hk⟩:∃k,L=k+3:=⟨L-3,by omega⟩;have l1:La L u s L 0 0=La L u s (k+3) 0 0:=by rw[<-hk]
  rw[l1];simp only[La,Ag1,aN,aB,List.length_cons,List.length_nil,Ab.cp_eq];cases he:u.fI<;>cases hf:u.fP<;>by_cases ze:D5 false s.E=0<;>by_cases zf:D5 false s.F=0
  all_goals first
   |(refine⟨0,?_⟩;simp[c3,c4,he,hf,ze,zf,Xv,ww1,ww2];done)
   |(refine⟨1,?_⟩;simp[c3,c4,he,hf,ze,zf,Xv,ww1,ww2];done)
   |(refine⟨2,?_⟩;simp[c3,c4,he,hf,ze,zf,Xv,ww1,ww2];done)
 obtain⟨j1,p1⟩:=p1;obtain⟨j2,p2⟩:=p2;simp only[Awf,Ahd,Zi,Ahe,Zj,Zd,m7,Ahd,Zi,Ahe,Zj,Zd,aN,aB,p1,Co,Az9];cases hn:(u.dP && Jt s.aF != 0) with
 |true=>simp[H4]
 |false=>
  cases ho:(u.fT && Jt s.Of != 0) with
  |true=>simp[H4]
  |false=>
   simp only[cond_false,S5,p2,Co,Bool.false_eq_true,if_false];cases he:(u.fI && D5 false s.E != 0) with
   |true=>simp[H4]
   |false=>
    cases hf:(u.fP && D5 false s.F != 0) with
    |true=>simp[H4]
    |false=>
     simp only[cond_false,S5,Bool.false_eq_true,if_false,Azt L s u L (by omega) (by omega),hj,Co,c5];by_cases hl:6<s.aP.length
     ·have:(6:Int)<(s.aP.length:Int):=by omega
      simp[hl,this]
     ·have:¬(6:Int)<(s.aP.length:Int):=by omega
      by_cases ha:Akj s.aP=0
      ·cases hd:u.bR<;>simp[hl,this,ha,hd,S5]
      ·simp[hl,this,ha,Xv ha,H4]
theorem A50(L:Nat)(s:Ad)(f:C1)(hc:∀x∈s.aP,R9 L x=some (D5 false x))(hl:s.aP.length<=1048576):∀(m i n:Nat) (v:Int),i+m=s.aP.length->m<n->
  ∃j,Dd L s f n v (i:Int)=some (0,(if v≠0 then v else Akj (s.aP.drop i),j)):=by
 intro m
 induction m with
 |zero=>
  intro i n v hi hn;obtain⟨n,rfl⟩:∃k,n=k+1:=⟨n-1,by omega⟩;refine⟨i,?_⟩;simp only[Dd,Vr,aN,aB,Dr (show s.aP.length<=i by omega),Du,Bool.and_false,cond_false];rw[List.drop_eq_nil_of_le (by omega),Akj];by_cases hv:v=0<;>simp[hv]
 |succ m ih=>
  intro i n v hi hn;obtain⟨n,rfl⟩:∃k,n=k+1:=⟨n-1,by omega⟩;have hlt:i<s.aP.length:=by omega
  have hM:=Bl;by_cases hv:v=0
  ·subst hv;have hx:s.aP.getD i default∈s.aP:=by rw[Kj s.aP i hlt];exact List.getElem_mem hlt
   obtain⟨j,hj⟩:=ih (i+1) n (D5 false (s.aP.getD i default)) (by omega) (by omega);refine⟨j,?_⟩;simp only[Dd,Vr,aN,aB,Dn hlt,nn,Ll hlt,toN,if_true,Du,beq_self_eq_true,Bool.true_and,cond_true,Ab.cp_eq,hc _ hx,Co,Az hlt (show s.aP.length<=maxLen by omega),hj];rw[Ao9 s.aP i hlt,Akj];by_cases hz:D5 false (s.aP.getD i default)=0<;>simp[hz]
  ·refine⟨i,?_⟩;simp only[Dd,Vr,aN,aB,Du,beq_false_of_ne hv,Bool.false_and,cond_false];simp[hv]
def Bhj(s:Ad)(u:Bt):Int:=
 if(u.fI && D5 false s.E != 0)=true then D5 false s.E
 else if(u.fP && D5 false s.F != 0)=true then D5 false s.F
 else if 6<s.aP.length then 6 else Akj s.aP
theorem Bbz(L:Nat)(s:Ad)(u:Bt)(h:SB L s):Akb L s (Asa u)=some (Bhj s u):=by
 have hL:=h.fuel;have hM:=Bl;obtain⟨b1,b2,b3,b4⟩:=h.de;have c3:=Apk h.e L b1;have c4:=Apk h.f L b2;have lpz:∀v:Int,(Option.bind (Dd L s (Asa u) L v 0) λo=>Apw o.1 [some o.2.1])=some (if v≠0 then v else Akj s.aP):=by
  intro v;obtain⟨j,hj⟩:=A50 L s (Asa u) (λx hx=>Apk (h.args x hx) L (b3 x hx)) b4 s.aP.length 0 L v (by omega) (by omega);have hj:Dd L s (Asa u) L v 0=_:=hj;rw[hj,List.drop_zero];simp only[Co,H4]
 have fE:(Asa u).E=u.fI:=rfl;have fF:(Asa u).F=u.fP:=rfl;simp only[A00,Abw,Aay,Aaz,Aa0,Aa1,Aa2,Aa3,Aa4,Aa5,Akb,Abw,Aay,Aaz,Aa0,Aa1,Aa2,Aa3,Aa4,Aa5,aN,aB,Ab.cp_eq,c3,c4,lpz,Co,fE,fF,Bhj,Du];have hd:decide ((s.aP.length:Int)>6)=decide (6<s.aP.length):=decide_eq_decide.2 (by omega);simp only[hd];cases u.fI<;>cases u.fP<;>by_cases h1:D5 false s.E=0<;>by_cases h2:D5 false s.F=0<;>by_cases h3:6<s.aP.length<;>simp[h1,h2,h3,Xv,beq_false_of_ne]
def A6a(s:Ad):Int:=bif !(An2 s.Op).2 || !A1m s (An2 s.Op).1 then 1 else Az9 s (An2 s.Op).1
theorem A1r(s:Yb):Jt s=0\/Jt s=3:=by
 unfold Jt;cases Alv s
 ·exact .inr rfl
 ·exact .inl rfl
theorem Bh6(L:Nat)(s:Ad)(h:SB L s):Aml L s=some (A6a s):=by
 have hL:=h.fuel;have hM:=Bl;have n1:s.aF.size<=maxLen:=h.nm;have n2:s.Of.size<=maxLen:=h.of;have c1:=Sz L s.aF h.nm (by omega) (by omega);have c2:=Sz L s.Of h.of (by omega) (by omega);have c5:=Ah7 L s.bF h.dist h.lt;simp only[Ayl,Aml,aN,aB,Ad.cp_eq,A9p,A7p L s h,c1,c2,c5,Bbz L s _ h,Co,F9,Du,Hu]
 congr 1
 unfold A6a Az9 Bhj;generalize (An2 s.Op).2=ok;generalize (An2 s.Op).1=u;simp only[Asa];cases ok with
 |false=>simp
 |true=>
  cases A1m s u with
  |false=>simp
  |true=>
   simp only[Bool.and_self,Bool.not_true,cond_false,Bool.or_self,Bool.false_eq_true,if_false];cases u.dP<;>cases u.fT<;>rcases A1r s.aF with e1|e1<;>rcases A1r s.Of with e2|e2<;>simp only[e1,e2]<;>first|(simp;done)|skip
   all_goals (cases u.fI<;>cases u.fP<;>cases u.bR<;>by_cases h1:D5 false s.E=0<;>by_cases h2:D5 false s.F=0<;>by_cases h3:6<s.aP.length<;>by_cases h4:Akj s.aP=0<;>simp[h1,h2,h3,h4,Xv,beq_false_of_ne])
mutual
def Bs4:Ad->Int
 | .mk a b c d e f g h i j=>if A6a (.mk a b c d e f g h i j)≠0 then A6a (.mk a b c d e f g h i j)else if Qs i≠0 then Qs i else Qs j
def Qs:List Ad->Int
 | []=>0
 |x::k=>if Bs4 x≠0 then Bs4 x else Qs k
end
theorem Bjw(s:Ad):Bs4 s=if A6a s≠0 then A6a s else if Qs s.bE≠0 then Qs s.bE else Qs s.bN:=by cases s;rw[Bs4];rfl
def A0n(l:List Ad):Int:=if 200<Lt l then 6 else if 12<dSs l then 11 else Qs l
theorem Fu.sb{L:Nat}{l:List Ad}(h:Fu (L+1) l){x:Ad}(hx:x∈l)(ho:Cz x):SB L x:=by
 obtain⟨h1,h2⟩:=h;have hM:=Bl;have h3:=Bjz hx;have h4:=Bds hx;obtain⟨o1,o2,o3,o4,o5,o6,_,_⟩:=Cdd ho;exact⟨by omega,o1,o2,o3,o4,o5,by omega⟩
theorem B4j{β :Type}(x:Ad)(rest:Option β)(g:Int->β):(Option.bind (bif !(An2 x.Op).2 then some true else some (!A1m x (An2 x.Op).1)) λb2=>bif b2 then some (g 1)else bif Az9 x (An2 x.Op).1 != 0 then some (g (Az9 x (An2 x.Op).1))else rest)=bif A6a x != 0 then some (g (A6a x))else rest:=by
 unfold A6a;cases (An2 x.Op).2 with
 |false=>rfl
 |true=>cases A1m x (An2 x.Op).1<;>rfl
theorem A6n(rec:List Ad->Option Int)(L:Nat)(a0:List Ad):∀(k:List Ad) (i:Nat) (v:Int),(∀x∈k,SB L x/\rec x.bE=some (Qs x.bE)/\rec x.bN=some (Qs x.bN))->∃j,Lk rec L a0 k i v=some (bif Qs k != 0 then(0,(Qs k,j)) else(1,(v,j))):=by
 intro k
 induction k with
 |nil=>intro i v _;exact⟨i,rfl⟩
 |cons x k ih=>
  intro i v h;obtain⟨h0,h1,h2⟩:=h x (by simp);obtain⟨j,hj⟩:=ih (i+1) v λy hy=>h y (by simp[hy]);rw[Lk];simp only[Bcc,Bcb L x _ h0,A73 L x _ h0,h1,h2,hj,Co,Qs,Bjw];rw[B4j x _ λe=>(0,(e,(i:Int)))];by_cases e1:A6a x=0
  ·by_cases e2:Qs x.bE=0
   ·by_cases e3:Qs x.bN=0
    ·exact⟨j,by simp[e1,e2,e3]⟩
    ·exact⟨i,by simp[e1,e2,e3,Xv e3]⟩
   ·exact⟨i,by simp[e1,e2,Xv e2]⟩
  ·exact⟨i,by simp[e1,Xv e1]⟩
theorem A72{l:List Ad}(hl:∀y∈l,Cz y):∀L,Fu L l->Lz L l=some (Qs l):=by
 refine Anz (M:=λl=>∀L,Fu L l->Lz L l=some (Qs l)) ?_ hl;intro l ih L hF;obtain⟨L,rfl⟩:=hF.pos;obtain⟨n1,n2,n3⟩:=hF.len;obtain⟨j,hj⟩:=A6n (Lz L) L l l 0 0 λx hx=>⟨hF.sb hx (ih x hx).1,(ih x hx).2.1 L (hF.kid hx).1,(ih x hx).2.2 L (hF.kid hx).2⟩;simp only[Awe,Zc,Aoj,Lz,Zc,aN,aB,Azs _ L l L n1 n2,hj,Co];by_cases h:Qs l=0
 ·simp[h,S5]
 ·simp[Xv h,H4]
theorem A7z{l:List Ad}(hl:∀y∈l,Cz y)(L:Nat)(hF:Fu L l):Ahu L l=some (A0n l):=by
 have e1:decide ((Lt l:Int)>200)=decide (200<Lt l):=decide_eq_decide.2 (by omega);have e2:decide ((dSs l:Int)>12)=decide (12<dSs l):=decide_eq_decide.2 (by omega);simp only[Ao0,Ahu,aN,aB,A70 hl L hF,A71 hl L hF,A72 hl L hF,Co,F9,e1,e2,A0n]
 congr 1
 by_cases h1:200<Lt l<;>by_cases h2:12<dSs l<;>simp[h1,h2]
theorem Bcg(rec:List Ad->Option Int)(L:Nat)(a0:List Ad):∀(k:List Ad) (i:Nat) (v:Int),(∀x∈k,SB L x/\rec x.bE=some (Qs x.bE)/\rec x.bN=some (Qs x.bN))->∃j,H9 rec L a0 k i v=some (bif Qs k != 0 then(0,(Qs k,j)) else(1,(v,j))):=by
 intro k
 induction k with
 |nil=>intro i v _;exact⟨i,rfl⟩
 |cons x k ih=>
  intro i v h;obtain⟨h0,h1,h2⟩:=h x (by simp);obtain⟨j,hj⟩:=ih (i+1) v λy hy=>h y (by simp[hy]);rw[H9];simp only[Bh6 L x h0,h1,h2,hj,Co,Qs,Bjw];by_cases e1:A6a x=0
  ·by_cases e2:Qs x.bE=0
   ·by_cases e3:Qs x.bN=0
    ·exact⟨j,by simp[e1,e2,e3]⟩
    ·exact⟨i,by simp[e1,e2,e3,Xv e3]⟩
   ·exact⟨i,by simp[e1,e2,Xv e2,beq_false_of_ne e2]⟩
  ·exact⟨i,by simp[e1,Xv e1,beq_false_of_ne e1]⟩
theorem Be9{l:List Ad}(hl:∀y∈l,Cz y):∀L,Fu L l->Sh L l=some (Qs l):=by
 refine Anz (M:=λl=>∀L,Fu L l->Sh L l=some (Qs l)) ?_ hl;intro l ih L hF;obtain⟨L,rfl⟩:=hF.pos;obtain⟨n1,n2,n3⟩:=hF.len;obtain⟨j,hj⟩:=Bcg (Sh L) L l l 0 0 λx hx=>⟨hF.sb hx (ih x hx).1,(ih x hx).2.1 L (hF.kid hx).1,(ih x hx).2.2 L (hF.kid hx).2⟩;simp only[A36,Ae5,Auf,Sh,Ae5,aN,aB,A5l _ L l L n1 n2,hj,Co];by_cases h:Qs l=0
 ·simp[h,S5]
 ·simp[Xv h,H4]
theorem Bbw{l:List Ad}(hl:∀y∈l,Cz y)(L:Nat)(hF:Fu L l):Aka L l=some (A0n l):=by
 have e1:decide ((Lt l:Int)>200)=decide (200<Lt l):=decide_eq_decide.2 (by omega);have e2:decide ((dSs l:Int)>12)=decide (12<dSs l):=decide_eq_decide.2 (by omega);simp only[Arb,Aka,aN,aB,Bbx hl L hF,Bby hl L hF,Be9 hl L hF,Co,F9,e1,e2,A0n]
 congr 1
 by_cases h1:200<Lt l<;>by_cases h2:12<dSs l<;>simp[h1,h2]
theorem A6j(L:Nat)(l:List Aa)(m:Aj)(n:Yb):∀(k:List Aa) (i:Nat) (v:Int),Li L l m n k i v=some (match k.findIdx? (λx=>x.aF.toList == n.toList) with|some j=>(0,(((i+j:Nat):Int),((i+j:Nat):Int)))|none=>(1,(v,((i+k.length:Nat):Int)))):=by
 intro k
 induction k with
 |nil=>intro i v;rfl
 |cons x k ih=>
  intro i v;rw[Li,ih,List.findIdx?_cons];cases hc:(λx=>x.aF.toList == n.toList) x with
  |true=>simp only[hc,cond_true,if_true];rfl
  |false=>
   simp only[hc,cond_false,if_false,Bool.false_eq_true];cases k.findIdx? (λx=>x.aF.toList == n.toList) with
   |some j=>simp[Nat.add_assoc,Nat.add_comm 1]
   |none=>simp[Nat.add_assoc,Nat.add_comm 1]
theorem Avi(L:Nat)(l:List Aa)(m:Aj)(n:Yb)(hl:l.length<=maxLen)(hL:l.length<L):Yg L l m n=some (d8 (l.findIdx? (λx=>decide (x.aF=n)))):=by
 simp only[Yg,Ap8,Ahb,aN,aB,Azf _ _ _ _ _ hl hL,A6j,Iu,Co];cases l.findIdx? (λx=>decide (x.aF=n)) with
 |none=>rfl
 |some i=>simp[d8,H4]
def A95(m:Aj)(n:Yb):Int:=d8 (m.aA.findIdx? λx=>decide (x.aF=n))
theorem A7v(L:Nat)(m:Aj)(n:Yb)(hl:m.aA.length<=maxLen)(hL:maxLen<L):m6 L m n=some (A95 m n):=by
 simp only[Av8,Y2,m6,Y2,aN,aB,Avi L _ m n hl (by omega),Co,A95]
theorem Beg{α :Type} [Inhabited α](p: α->Bool)(l:List α):l.find? p=(l.findIdx? p).map λi=>l.getD i default:=by
 induction l with
 |nil=>rfl
 |cons x l ih=>
  rw[List.find?_cons,List.findIdx?_cons];cases p x with
  |true=>rfl
  |false=>
   simp only[ih,Bool.false_eq_true,if_false];cases l.findIdx? p<;>simp
theorem Bo5{α :Type}{p: α->Bool}{l:List α}{i:Nat}(h:l.findIdx? p=some i):i<l.length:=by
 obtain⟨h1,_⟩:=List.findIdx?_eq_some_iff_getElem.1 h;exact h1
theorem Ajj.max{s:Aa}(h:Ajj s 1099511627776):Ajj s maxLen:=h.mono (by rw[Bl];omega)
theorem Aw0{α :Type}(l:List α)(p: α->Bool):decide (d8 (l.findIdx? p)<0)=(l.findIdx? p).isNone:=by
 cases l.findIdx? p with
 |none=>rfl
 |some i=>exact decide_eq_false (by simp[d8])
theorem A51(L:Nat)(s:Aa)(n:Yb)(h:Ajj s 1099511627776)(hL:maxLen<L):Aei L s n=some (Agc s n):=by
 have hM:=Bl;have h9:=h.2.2.2.2.2.2.2.2.2;have hf:Km L (s.aD.map λx=>x.aF) n=some (A7g (s.aD.map λx=>x.aF) n):=Af5 L _ n (by rw[List.length_map];omega) (by rw[List.length_map];omega);simp only[Alf,Aei,aN,aB,Apl L s h hL,Co];rw[ifp (by omega),ifp (by simp only[H5,List.length_cons,List.length_nil];omega)];rw[show(H5 s).getD 9 default=s.aD.map λx=>x.aF from rfl,hf,Co];simp only[A7g,Agc,List.findIdx?_map];rfl
theorem Bch(L:Nat)(n:Yb)(m:Aj):∀(k:List Aa) (i:Nat) (v:Int),Ql L n m k i v=some (match k.findIdx? (λx=>x.aF.toList == n.toList) with|some j=>(0,(((i+j:Nat):Int),((i+j:Nat):Int)))|none=>(1,(v,((i+k.length:Nat):Int)))):=by
 intro k
 induction k with
 |nil=>intro i v;rfl
 |cons x k ih=>
  intro i v;rw[Ql,ih,List.findIdx?_cons];cases hc:(λx:Aa=>x.aF.toList == n.toList) x with
  |true=>simp only[hc,cond_true,if_true];rfl
  |false=>
   simp only[hc,cond_false,if_false,Bool.false_eq_true];cases k.findIdx? (λx=>x.aF.toList == n.toList) with
   |some j=>simp[Nat.add_assoc,Nat.add_comm 1]
   |none=>simp[Nat.add_assoc,Nat.add_comm 1]
theorem Bfc(L:Nat)(m:Aj)(n:Yb)(hl:m.aA.length<=maxLen)(hL:maxLen<L):Zo L m n=some (A95 m n):=by
 simp only[A38,Ae7,Zo,Ae7,aN,aB,A5n L n m L hl (by omega),Bch,Iu,Co,A95];cases m.aA.findIdx? (λx=>decide (x.aF=n)) with
 |none=>rfl
 |some i=>simp[d8,H4]
end Go.Proofs.YthjhkpgonleelaaGreatDoor.Ev
