/-  Chapter 7, plainly: names. -/
import Derived.Test.YtgacplpjamkieaaGreatHQA
import Derived.Test.YtgacplpjamkieaaGreatHR0
set_option maxRecDepth 100000
set_option linter.unusedVariables false
set_option linter.unusedSimpArgs false
set_option linter.unnecessarySimpa false
namespace Go.Proofs.YtgacplpjamkieaaGreat.Ev
open Go An
def Ae4(z:Int):Bool:=decide (97<=z) && decide (z<=122)
def okZ(z:Int):Bool:=Ae4 z || z == 95 || (decide (48<=z) && decide (z<=57))
def Adu(a:Yb)(i:Nat):Int:=C5 a[i]?
def Kw(a:Yb):Nat->Nat->Bool
 |_,0=>true
 |i,m+1=>okZ (Adu a i) && Kw a (i+1) m
def kws:List Yb:= [(⟨#[97,100,100]⟩:Yb),(⟨#[97,102,116,101,114]⟩:Yb),(⟨#[97,110,100]⟩:Yb),(⟨#[97,116]⟩:Yb),(⟨#[98,101,108,116]⟩:Yb),(⟨#[98,111,111,108]⟩:Yb),(⟨#[99,111,110,115,101,114,118,101]⟩:Yb),(⟨#[99,111,110,115,116]⟩:Yb),(⟨#[99,111,117,110,116]⟩:Yb),(⟨#[99,121,99,108,101]⟩:Yb),(⟨#[100,111,119,110]⟩:Yb),(⟨#[100,114,97,119]⟩:Yb),(⟨#[100,117,114]⟩:Yb),(⟨#[101,108,115,101]⟩:Yb),(⟨#[101,110,100]⟩:Yb),(⟨#[101,118,101,114,121]⟩:Yb),(⟨#[102,97,108,115,101]⟩:Yb),(⟨#[102,97,117,108,116]⟩:Yb),(⟨#[102,105,102,111]⟩:Yb),(⟨#[102,114,101,101]⟩:Yb),(⟨#[102,114,111,109]⟩:Yb),(⟨#[103,101,111,109]⟩:Yb),(⟨#[103,101,116]⟩:Yb),(⟨#[104,111,108,100]⟩:Yb),(⟨#[105,102]⟩:Yb),(⟨#[105,110,116]⟩:Yb),(⟨#[105,110,116,111]⟩:Yb),(⟨#[108,101,97,115,116]⟩:Yb),(⟨#[108,101,118,101,108]⟩:Yb),(⟨#[108,105,102,111]⟩:Yb),(⟨#[108,105,110,107]⟩:Yb),(⟨#[108,111,99,97,108]⟩:Yb),(⟨#[109,97,120]⟩:Yb),(⟨#[109,105,110]⟩:Yb),(⟨#[109,111,100,101,108]⟩:Yb),(⟨#[110,111,116]⟩:Yb),(⟨#[110,111,119]⟩:Yb),(⟨#[111,98,115,101,114,118,101]⟩:Yb),(⟨#[111,114]⟩:Yb),(⟨#[112,97,114,97,109]⟩:Yb),(⟨#[112,114,101,101,109,112,116]⟩:Yb),(⟨#[112,114,105,111]⟩:Yb),(⟨#[112,117,116]⟩:Yb),(⟨#[113,117,101,117,101]⟩:Yb),(⟨#[114,101,108,101,97,115,101]⟩:Yb),(⟨#[114,101,115,111,117,114,99,101]⟩:Yb),(⟨#[114,105,100,101]⟩:Yb),(⟨#[114,111,117,116,105,110,101]⟩:Yb),(⟨#[115,101,105,122,101]⟩:Yb),(⟨#[115,101,110,100]⟩:Yb),(⟨#[115,101,116]⟩:Yb),(⟨#[115,104,105,102,116]⟩:Yb),(⟨#[115,105,103,110,97,108]⟩:Yb),(⟨#[115,105,116,101]⟩:Yb),(⟨#[115,105,122,101]⟩:Yb),(⟨#[115,112,97,119,110]⟩:Yb),(⟨#[115,116,97,114,116]⟩:Yb),(⟨#[115,116,111,112]⟩:Yb),(⟨#[115,116,111,114,101]⟩:Yb),(⟨#[115,116,114,101,97,109]⟩:Yb),(⟨#[115,117,109]⟩:Yb),(⟨#[116,97,98,108,101]⟩:Yb),(⟨#[116,97,108,108,121]⟩:Yb),(⟨#[116,105,99,107,115]⟩:Yb),(⟨#[116,105,109,101]⟩:Yb),(⟨#[116,114,117,101]⟩:Yb),(⟨#[117,110,105,102,111,114,109]⟩:Yb),(⟨#[117,110,116,105,108]⟩:Yb),(⟨#[117,112]⟩:Yb),(⟨#[118,97,114]⟩:Yb),(⟨#[119,97,105,116]⟩:Yb),(⟨#[119,97,105,116,105,110,103]⟩:Yb),(⟨#[119,104,105,108,101]⟩:Yb)]
def Wv(s:Yb):Bool:=kws.any λw=>decide (s=w)
def Ade(s:Yb):Bool:=decide (1<=s.size) && decide (s.size<=24) && Ae4 (Adu s 0) && !Wv s && Kw s 0 s.size
def Akn(s:Yb):Int:=bif Ade s then 0 else 3
theorem V4(L:Nat)(z:Int):Mv L z=some (Ae4 z):=by
 simp only[Xd,Mv,aN,aB,Ae4,Ko]
theorem Be7{c b:Bool}{X:Option Bool}(h:X=some b):(bif c then(bif c then some true else some false)else X)=some (c || b):=by cases c<;>simp[h]
theorem Bil{c b:Bool}{X:Option Bool}(h:X=some b):(bif c then some true else X)=some (c || b):=by cases c<;>simp[h]
set_option maxRecDepth 10000 in
theorem Amp(L:Nat)(s:Yb):Po L s=some (Wv s):=by
 simp only[Ve,Po,aN,aB,He,Wv,kws,List.any_cons,List.any_nil]
 repeat (first|exact Be7 rfl|refine Be7 ?_|refine Bil ?_)
 rfl
theorem Bol(L:Nat)(a:Yb)(hs:a.size<=maxLen):∀(m i n:Nat) (v:Int),i+m=a.size->m<n->
  ∃j,Gs L a n v i=some (bif Kw a i m then(1,(v,j)) else(0,(3,j))):=by
 intro m
 induction m with
 |zero=>
  intro i n v hi hn;obtain⟨n,rfl⟩:∃k,n=k+1:=⟨n-1,by omega⟩;exact⟨i,by simp only[Gs,Kr,aN,aB,Kw,O5 (show a.size<=i by omega),cond_true,cond_false]⟩
 |succ m ih=>
  intro i n v hi hn;obtain⟨n,rfl⟩:∃k,n=k+1:=⟨n-1,by omega⟩;have hlt:i<a.size:=by omega
  obtain⟨j,hj⟩:=ih (i+1) n v (by omega) (by omega);have hb:=Ba4 hlt;cases hc:okZ (Adu a i) with
  |true=>
   refine⟨j,?_⟩;have e:Kw a i (m+1)=Kw a (i+1) m:=by simp only[Kw,hc,Bool.true_and]
   simp only[Gs,Kr,aN,aB,Np hlt,nn,toN,if_true,hb,cond_true,V4,Sb,Cg hlt hs,hj,e,Ko,S7];rw[show((!Ae4 (C5 a[i]?) && (decide (C5 a[i]? < 48) || decide (C5 a[i]? > 57))) && C5 a[i]? != 95)=false from ?_]
   ·rfl
   ·revert hc;unfold okZ Adu
    generalize C5 a[i]? =z;cases Ae4 z<;>simp<;>omega
  |false=>
   refine⟨i,?_⟩;have e:Kw a i (m+1)=false:=by simp only[Kw,hc,Bool.false_and]
   simp only[Gs,Kr,aN,aB,Np hlt,nn,toN,if_true,hb,cond_true,V4,Sb,Cg hlt hs,hj,e,Ko,S7];rw[show((!Ae4 (C5 a[i]?) && (decide (C5 a[i]? < 48) || decide (C5 a[i]? > 57))) && C5 a[i]? != 95)=true from ?_]
   ·rfl
   ·revert hc;unfold okZ Adu
    generalize C5 a[i]? =z;cases Ae4 z<;>simp<;>omega
theorem Ar5(L:Nat)(s:Yb)(hs:okS s)(hL:s.size<L):Cq L s=some (Akn s):=by
 obtain⟨j,hj⟩:=Bol L s hs s.size 0 L 0 (by omega) hL;have e0:decide ((s.size:Int)>24)= !decide (s.size<=24):=by
  by_cases h:s.size<=24
  ·rw[decide_eq_false (by omega),decide_eq_true h];rfl
  ·rw[decide_eq_true (by omega),decide_eq_false h];rfl
 simp only[Ahw,Oc,N6,Cq,Oc,N6,aN,aB,He,Bex,V4,Amp,Sb,Gg,S7,e0];by_cases h0:s.size=0
 ·have:Ade s=false:=by unfold Ade;rw[decide_eq_false (show¬1<=s.size by omega)];rfl
  simp[h0,Akn,this]
 ·have hb:=Ba4 (show 0<s.size by omega);have e1:Ade s=(decide (s.size<=24) && Ae4 (Adu s 0) && !Wv s && Kw s 0 s.size):=by unfold Ade;rw[decide_eq_true (show 1<=s.size by omega)];rfl
  simp only[Int.ofNat_zero,Int.natCast_zero]at hj;simp only[h0,decide_false,Bool.false_or,Int.le_refl,Nat.le_refl,if_true,Int.toNat_zero,hb,cond_true,hj,Sb,Akn,e1,Adu];cases decide (s.size<=24)<;>cases Ae4 (C5 s[0]?)<;>cases Wv s<;>cases Kw s 0 s.size<;>rfl
mutual
def dE:Aa->Nat
 | .mk _ _ _ k=>dEs k+1
def dEs:List Aa->Nat
 | []=>0
 |x::k=>max (dE x) (dEs k)
end
theorem Rt{x:Aa}{k:List Aa}(h:x∈k):dE x<=dEs k:=by
 induction k with
 |nil=>cases h
 |cons a k ih=>
  rw[dEs];rcases List.mem_cons.1 h with rfl|h
  ·omega
  ·have:=ih h;omega
mutual
def Ox:Aa->Int
 | .mk _ _ _ k=>j7 k 1
def j7:List Aa->Int->Int
 | [],n=>n
 |x::k,n=>j7 k (Cp (n+Ox x))
end
mutual
def Lc:Aa->Int
 | .mk _ _ _ k=>Cp (i8 k 0+1)
def i8:List Aa->Int->Int
 | [],n=>n
 |x::k,n=>i8 k (if Lc x>n then Lc x else n)
end
def O3(op:Int):Int:=
 if op=1\/op=2\/op=3\/op=4 then 0 else if 5<=op/\op<=8 then 1 else if 9<=op/\op<=21 then 2 else if 22<=op/\op<=26 then 0 else -1
def Agj(op:Int):Bool:=decide (22<=op) && decide (op<=24)
def inZ(n:Int):Bool:=decide (-1000000000000<=n) && decide (n<=1000000000000)
def Zh(c:Bool)(op:Int):Bool:=if op=3 then !c else if op=25\/op=26 then c else decide (0<=O3 op)
def Mk(c:Bool)(op:Int):Bool:=op == 3 || (Agj op && !c)
def Agh(c:Bool)(op:Int):Option Int:=if op=2 then some 1 else if op=25 then some 15 else if op=26 then some 31 else if Agj op && c then some 63 else none
def Za(c:Bool)(e:Aa):Bool:= !Zh c e.Op || decide ((e.aQ.length:Int)≠O3 e.Op) || (!decide (e.aD=⟨#[]⟩) && !Mk c e.Op)
def Aap(c:Bool)(e:Aa):Int:=
 if Za c e=true then 1
 else if e.Op=1 then(if inZ e.N then 0 else 2)
 else match Agh c e.Op with
  |none=>if e.N≠0 then 1 else if Mk c e.Op then Akn e.aD else 0
  |some hi=>if e.N<0\/hi<e.N then 2 else if Mk c e.Op then Akn e.aD else 0
mutual
def Yu(c:Bool):Aa->Int
 | .mk op nm n k=>if Aap c (.mk op nm n k)≠0 then Aap c (.mk op nm n k)else Af4 c k
def Af4(c:Bool):List Aa->Int
 | []=>0
 |x::k=>if Yu c x≠0 then Yu c x else Af4 c k
end
def Ou(c:Bool)(e:Aa):Int:=if Ox e>60 then 6 else if Lc e>12 then 11 else Yu c e
theorem Aqb(op:Int):op=1\/op=2\/op=3\/op=4\/op=5\/op=6\/op=7\/op=8\/op=9\/op=10\/op=11\/op=12\/op=13\/op=14\/op=15\/op=16\/op=17\/op=18\/op=19\/op=20\/op=21\/op=22\/op=23\/op=24\/op=25\/op=26\/op<1\/26<op:=by omega
theorem Akq(L:Nat)(op:Int):Qf L op=some (O3 op):=by
 simp only[Afs,Qf,aN,aB,O3,Ko,S7,Gg]
 congr 1
 grind
theorem Ago(L:Nat)(op:Int):Oy L op=some (Agj op):=by
 simp only[f7,Oy,aN,aB,Agj,Ko]
theorem Aix(L:Nat)(k:Bg)(op:Int):Mf L k op=some (Zh k.bE op):=by
 simp only[Rl,Mf,aN,aB,Zh,Akq,Sb,Gg]
 congr 1
 grind
theorem Aiy(L:Nat)(k:Bg)(op:Int):Hz L k op=some (Mk k.bE op):=by
 simp only[Rm,Hz,aN,aB,Mk,Ago,Sb,Gg,S7,Ko]
theorem A4r(L:Nat)(n:Int):W7 L n=some (inZ n):=by
 simp only[Aqw,W7,aN,aB,inZ,Ko]
theorem Agn(L:Nat)(k:Bg)(op:Int):Io L k op=some (match Agh k.bE op with|some hi=>(0,hi,true)|none=>(0,0,false)):=by
 simp only[Ot,Io,aN,aB,Agh,Ago,Sb,Gg,Ko]
 congr 1
 grind
theorem Akr(L:Nat)(k:Bg)(e:Aa)(hn:okS e.aD)(hL:e.aD.size<L):Ni L k e=some (Aap k.bE e):=by
 simp only[Td,Ni,aN,aB,Aix,Akq,Aiy,A4r,Agn,Sb,Ar5 L e.aD hn hL,Gg,He,Ko,S7,Aap,Za]
 congr 1
 cases Agh k.bE e.Op<;>grind
theorem Asf(Azj:Aa->Option Int)(L:Nat)(a0:Aa):∀(k:List Aa) (i:Nat) (v:Int),(∀x∈k,Azj x=some (Ox x))->∃j,Im Azj L a0 k i v=some (0,(j7 k v,j)):=by
 intro k
 induction k with
 |nil=>intro i v _;exact⟨_,rfl⟩
 |cons x k ih=>
  intro i v h;obtain⟨j,hj⟩:=ih (i+1) (Cp (v+Ox x)) λy hy=>h y (by simp[hy]);exact⟨j,by simp only[Im,h x (by simp),Sb,hj,j7]⟩
theorem k6{e:Aa}(h:Bw e):∀L,maxLen+dE e<L->F3 L e=some (Ox e):=by
 induction h with
 |mk a0 a1 a2 a3 h0 h1 h2 h3 h4 ih=>
  intro L hL;obtain⟨L,rfl⟩:∃k,L=k+1:=⟨L-1,by omega⟩;rw[dE]at hL;have hr:∀x∈a3,F3 L x=some (Ox x):=λx hx=>ih x hx L (by have:=Rt hx;omega);obtain⟨j,hj⟩:=Asf (F3 L) L (.mk a0 a1 a2 a3) a3 0 1 hr;simp only[Ajq,P0,Acl,F3,P0,aN,aB,Aa.cp_eq,Aa.Op,Aa.aD,Aa.N,Aa.aQ,Aa.eta,Amh _ _ (.mk a0 a1 a2 a3) _ h3 (show a3.length<L by omega),hj,Sb,Adl,Ox]
theorem Ase(It:Aa->Option Int)(L:Nat)(a0:Aa):∀(k:List Aa) (i:Nat) (v:Int),(∀x∈k,It x=some (Lc x))->∃j,Il It L a0 k i v=some (0,(i8 k v,j)):=by
 intro k
 induction k with
 |nil=>intro i v _;exact⟨_,rfl⟩
 |cons x k ih=>
  intro i v h;obtain⟨j,hj⟩:=ih (i+1) (if Lc x>v then Lc x else v) λy hy=>h y (by simp[hy]);exact⟨j,by simp only[Il,h x (by simp),Sb,hj,i8]⟩
theorem j9{e:Aa}(h:Bw e):∀L,maxLen+dE e<L->F2 L e=some (Lc e):=by
 induction h with
 |mk a0 a1 a2 a3 h0 h1 h2 h3 h4 ih=>
  intro L hL;obtain⟨L,rfl⟩:∃k,L=k+1:=⟨L-1,by omega⟩;rw[dE]at hL;have hr:∀x∈a3,F2 L x=some (Lc x):=λx hx=>ih x hx L (by have:=Rt hx;omega);obtain⟨j,hj⟩:=Ase (F2 L) L (.mk a0 a1 a2 a3) a3 0 0 hr;simp only[Ajp,Pz,Ack,F2,Pz,aN,aB,Aa.cp_eq,Aa.Op,Aa.aD,Aa.N,Aa.aQ,Aa.eta,Amg _ _ (.mk a0 a1 a2 a3) _ h3 (show a3.length<L by omega),hj,Sb,Adl,Lc]
theorem Ahj(Iu:Bg->Aa->Option Int)(L:Nat)(a1:Aa)(c:Bg):∀(k:List Aa) (i:Nat) (v:Int),(∀x∈k,Iu c x=some (Yu c.bE x))->∃j,Dn Iu L a1 c k i v=some (bif Af4 c.bE k != 0 then(0,(Af4 c.bE k,j)) else(1,(v,j))):=by
 intro k
 induction k with
 |nil=>intro i v _;exact⟨i,rfl⟩
 |cons x k ih=>
  intro i v h;obtain⟨j,hj⟩:=ih (i+1) v λy hy=>h y (by simp[hy]);by_cases hx:Yu c.bE x=0
  ·exact⟨j,by simp[Dn,h x (by simp),hj,Af4,hx]⟩
  ·exact⟨(i:Int),by simp[Dn,h x (by simp),hj,Af4,hx,ne0 hx]⟩
theorem Aiz{e:Aa}(h:Bw e)(c:Bg):∀L,maxLen+dE e<L->D0 L c e=some (Yu c.bE e):=by
 induction h with
 |mk a0 a1 a2 a3 h0 h1 h2 h3 h4 ih=>
  intro L hL;obtain⟨L,rfl⟩:∃k,L=k+1:=⟨L-1,by omega⟩;rw[dE]at hL;have hr:∀x∈a3,D0 L c x=some (Yu c.bE x):=λx hx=>ih x hx L (by have:=Rt hx;omega);obtain⟨j,hj⟩:=Ahj (D0 L) L (.mk a0 a1 a2 a3) c a3 0 0 hr;have h1':a1.size<=maxLen:=h1;simp only[Y7,J6,J4,Qx,D0,J6,J4,aN,aB,Aa.cp_eq,Aa.Op,Aa.aD,Aa.N,Aa.aQ,Aa.eta,Akr L c (.mk a0 a1 a2 a3) h1 (show a1.size<L by omega),Ae5 _ _ (.mk a0 a1 a2 a3) _ _ h3 (show a3.length<L by omega),hj,Sb,Yu];by_cases h:Aap c.bE (.mk a0 a1 a2 a3)=0
  ·by_cases h':Af4 c.bE a3=0
   ·simp[h,h',Adl,A1p]
   ·simp[h,h',Adl,A1p,ne0 h']
  ·simp[h,ne0 h]
theorem Aiw{e:Aa}(h:Bw e)(c:Bg)(L:Nat)(hL:maxLen+dE e<L):Me L c e=some (Ou c.bE e):=by
 simp only[Rk,Me,aN,aB,Aa.cp_eq,k6 h L hL,j9 h L hL,Aiz h c L hL,Sb,Gg,Ou]
 congr 1
 grind
theorem Ah3{e:Aa}(h:Bw e)(L:Nat)(hL:maxLen+dE e<L):Iv L e=some (Ou false e):=by
 simp only[Acy,Iv,aN,aB,Aa.cp_eq,Aiw h _ L hL,Sb]
def Are(l:List Yb)(s:Yb):Int:=Lr (l.findIdx? λx=>decide (x=s))
theorem Aj9{α :Type}(l:List α)(p: α->Bool):decide (Lr (l.findIdx? p)>=0)=l.any p:=by
 have h:=List.findIdx?_isSome (xs:=l) (p:=p);rw[<-h];cases l.findIdx? p with
 |none=>rfl
 |some i=>simp[Lr]
theorem j8(L:Nat)(z:Int):Qz L z=some (Ae4 z):=by
 simp only[Acw,Qz,aN,aB,Ae4,Ko]
theorem Apj(L:Nat):W3 L=some kws:=rfl
theorem Awq(L:Nat)(a0:List Yb)(a1:Yb):∀(k:List Yb) (i:Nat) (v:Int),Kd L a0 a1 k i v=some (match k.findIdx? (λx=>x.toList == a1.toList) with|some j=>(0,(((i+j:Nat):Int),((i+j:Nat):Int)))|none=>(1,(v,((i+k.length:Nat):Int)))):=by
 intro k
 induction k with
 |nil=>intro i v;rfl
 |cons x k ih=>
  intro i v;rw[Kd,ih,List.findIdx?_cons];cases hc:(λx=>x.toList == a1.toList) x with
  |true=>simp only[hc,cond_true,if_true];rfl
  |false=>
   simp only[hc,cond_false,if_false,Bool.false_eq_true];cases k.findIdx? (λx=>x.toList == a1.toList) with
   |some j=>simp[Nat.add_assoc,Nat.add_comm 1]
   |none=>simp[Nat.add_assoc,Nat.add_comm 1]
theorem Agm(L:Nat)(l:List Yb)(s:Yb)(hl:l.length<=maxLen)(hL:l.length<L):Ib L l s=some (Are l s):=by
 simp only[Aqs,Uj,Ib,Uj,aN,aB,Aru _ _ _ _ hl hL,Awq,He,Sb,Are];cases l.findIdx? λx=>decide (x=s) with
 |none=>rfl
 |some i=>simp[Lr,Adl]
theorem Ar3(L:Nat)(s:Yb)(hL:80<L):T7 L s=some (Wv s):=by
 simp only[f6,T7,aN,aB,Apj,Agm L kws s (by decide) (show kws.length<L from Nat.lt_trans (by decide) hL),Sb,Are,Aj9];simp only[Wv,eq_comm]
theorem Bo0(L:Nat)(a:Yb)(hs:a.size<=maxLen):∀(m i n:Nat) (v:Int),i+m=a.size->m<n->
  ∃j,Jc L a n v i=some (bif Kw a i m then(1,(v,j)) else(0,(3,j))):=by
 intro m
 induction m with
 |zero=>
  intro i n v hi hn;obtain⟨n,rfl⟩:∃k,n=k+1:=⟨n-1,by omega⟩;exact⟨i,by simp only[Jc,M5,aN,aB,Kw,O5 (show a.size<=i by omega),cond_true,cond_false]⟩
 |succ m ih=>
  intro i n v hi hn;obtain⟨n,rfl⟩:∃k,n=k+1:=⟨n-1,by omega⟩;have hlt:i<a.size:=by omega
  obtain⟨j,hj⟩:=ih (i+1) n v (by omega) (by omega);have hb:=Ba4 hlt;cases hc:okZ (Adu a i) with
  |true=>
   refine⟨j,?_⟩;have e:Kw a i (m+1)=Kw a (i+1) m:=by simp only[Kw,hc,Bool.true_and]
   simp only[Jc,M5,aN,aB,Np hlt,nn,toN,if_true,hb,cond_true,j8,Sb,Cg hlt hs,hj,e,Gg,Ko,S7];rw[show((!Ae4 (C5 a[i]?) && C5 a[i]? != 95) && (decide (C5 a[i]? < 48) || decide (C5 a[i]? > 57)))=false from ?_]
   ·rfl
   ·revert hc;unfold okZ Adu
    generalize C5 a[i]? =z;cases Ae4 z<;>simp<;>omega
  |false=>
   refine⟨i,?_⟩;have e:Kw a i (m+1)=false:=by simp only[Kw,hc,Bool.false_and]
   simp only[Jc,M5,aN,aB,Np hlt,nn,toN,if_true,hb,cond_true,j8,Sb,Cg hlt hs,hj,e,Gg,Ko,S7];rw[show((!Ae4 (C5 a[i]?) && C5 a[i]? != 95) && (decide (C5 a[i]? < 48) || decide (C5 a[i]? > 57)))=true from ?_]
   ·rfl
   ·revert hc;unfold okZ Adu
    generalize C5 a[i]? =z;cases Ae4 z<;>simp<;>omega
theorem Awf(L:Nat)(s:Yb)(hs:okS s)(hL:s.size<L)(hL':80<L):Ut L s=some (Akn s):=by
 obtain⟨j,hj⟩:=Bo0 L s hs s.size 0 L 0 (by omega) hL;have e0:decide ((s.size:Int)>24)= !decide (s.size<=24):=by
  by_cases h:s.size<=24
  ·rw[decide_eq_false (by omega),decide_eq_true h];rfl
  ·rw[decide_eq_true (by omega),decide_eq_false h];rfl
 have e2:decide ((s.size:Int)<1)=decide (s.size=0):=decide_eq_decide.2 (by omega);simp only[Anm,Sq,Se,Ut,Sq,Se,aN,aB,j8,Ar3 L s hL',Sb,Gg,S7,e0,e2];by_cases h0:s.size=0
 ·have:Ade s=false:=by unfold Ade;rw[decide_eq_false (show¬1<=s.size by omega)];rfl
  simp[h0,Akn,this]
 ·have hb:=Ba4 (show 0<s.size by omega);have e1:Ade s=(decide (s.size<=24) && Ae4 (Adu s 0) && !Wv s && Kw s 0 s.size):=by unfold Ade;rw[decide_eq_true (show 1<=s.size by omega)];rfl
  simp only[Int.ofNat_zero,Int.natCast_zero]at hj;simp only[h0,decide_false,Bool.false_or,Int.le_refl,Nat.le_refl,if_true,Int.toNat_zero,hb,cond_true,hj,Sb,Akn,e1,Adu];cases decide (s.size<=24)<;>cases Ae4 (C5 s[0]?)<;>cases Wv s<;>cases Kw s 0 s.size<;>rfl
theorem Atf(Azj:Aa->Option Int)(L:Nat)(a0:Aa):∀(k:List Aa) (i:Nat) (v:Int),(∀x∈k,Azj x=some (Ox x))->∃j,Jp Azj L a0 k i v=some (0,(j7 k v,j)):=by
 intro k
 induction k with
 |nil=>intro i v _;exact⟨_,rfl⟩
 |cons x k ih=>
  intro i v h;obtain⟨j,hj⟩:=ih (i+1) (Cp (v+Ox x)) λy hy=>h y (by simp[hy]);exact⟨j,by simp only[Jp,h x (by simp),Sb,hj,j7]⟩
theorem Awj{e:Aa}(h:Bw e):∀L,maxLen+dE e<L->Jz L e=some (Ox e):=by
 induction h with
 |mk a0 a1 a2 a3 h0 h1 h2 h3 h4 ih=>
  intro L hL;obtain⟨L,rfl⟩:∃k,L=k+1:=⟨L-1,by omega⟩;rw[dE]at hL;have hr:∀x∈a3,Jz L x=some (Ox x):=λx hx=>ih x hx L (by have:=Rt hx;omega);obtain⟨j,hj⟩:=Atf (Jz L) L (.mk a0 a1 a2 a3) a3 0 1 hr;simp only[Ano,Sg,Afc,Jz,Sg,aN,aB,Aa.cp_eq,Aa.Op,Aa.aD,Aa.N,Aa.aQ,Aa.eta,Apb _ _ (.mk a0 a1 a2 a3) _ h3 (show a3.length<L by omega),hj,Sb,Adl,Ox]
theorem Ate(It:Aa->Option Int)(L:Nat)(a0:Aa):∀(k:List Aa) (i:Nat) (v:Int),(∀x∈k,It x=some (Lc x))->∃j,Jo It L a0 k i v=some (0,(i8 k v,j)):=by
 intro k
 induction k with
 |nil=>intro i v _;exact⟨_,rfl⟩
 |cons x k ih=>
  intro i v h;obtain⟨j,hj⟩:=ih (i+1) (if Lc x>v then Lc x else v) λy hy=>h y (by simp[hy]);exact⟨j,by simp only[Jo,h x (by simp),Sb,hj,i8]⟩
theorem Awi{e:Aa}(h:Bw e):∀L,maxLen+dE e<L->Jy L e=some (Lc e):=by
 induction h with
 |mk a0 a1 a2 a3 h0 h1 h2 h3 h4 ih=>
  intro L hL;obtain⟨L,rfl⟩:∃k,L=k+1:=⟨L-1,by omega⟩;rw[dE]at hL;have hr:∀x∈a3,Jy L x=some (Lc x):=λx hx=>ih x hx L (by have:=Rt hx;omega);obtain⟨j,hj⟩:=Ate (Jy L) L (.mk a0 a1 a2 a3) a3 0 0 hr;simp only[Ann,Sf,Afb,Jy,Sf,aN,aB,Aa.cp_eq,Aa.Op,Aa.aD,Aa.N,Aa.aQ,Aa.eta,Apa _ _ (.mk a0 a1 a2 a3) _ h3 (show a3.length<L by omega),hj,Sb,Adl,Lc]
theorem Awg(L:Nat)(op:Int):Yy L op=some (O3 op):=by
 simp only[Afl,Yy,aN,aB,O3,Ko,S7,Gg]
 congr 1
 grind
theorem Atc(L:Nat)(op:Int):Q0 L op=some (Agj op):=by
 simp only[Acx,Q0,aN,aB,Agj,Ko]
theorem A4q(L:Nat)(n:Int):Aje L n=some (inZ n):=by
 simp only[Aqr,Aje,aN,aB,inZ,Ko]
theorem Ay7(L:Nat)(op:Int):K8 L op=some (if op=25 then 15 else if op=26 then 31 else 63):=by
 simp only[Aid,K8,aN,aB,Gg]
 congr 1
 grind
theorem Awr(Iu:Aa->Bool->Option Int)(L:Nat)(a1:Aa)(c:Bool):∀(k:List Aa) (i:Nat) (v:Int),(∀x∈k,Iu x c=some (Yu c x))->∃j,I4 Iu L c a1 k i v=some (bif Af4 c k != 0 then(0,(Af4 c k,j)) else(1,(v,j))):=by
 intro k
 induction k with
 |nil=>intro i v _;exact⟨i,rfl⟩
 |cons x k ih=>
  intro i v h;obtain⟨j,hj⟩:=ih (i+1) v λy hy=>h y (by simp[hy]);by_cases hx:Yu c x=0
  ·exact⟨j,by simp[I4,h x (by simp),hj,Af4,hx]⟩
  ·exact⟨(i:Int),by simp[I4,h x (by simp),hj,Af4,hx,ne0 hx]⟩
theorem Ay8{e:Aa}(h:Bw e)(c:Bool):∀L,maxLen+dE e<L->J7 L e c=some (Yu c e):=by
 induction h with
 |mk a0 a1 a2 a3 h0 h1 h2 h3 h4 ih=>
  intro L hL;obtain⟨L,rfl⟩:∃k,L=k+1:=⟨L-1,by omega⟩;rw[dE]at hL;have hr:∀x∈a3,J7 L x c=some (Yu c x):=λx hx=>ih x hx L (by have:=Rt hx;omega);obtain⟨j,hj⟩:=Awr (J7 L) L (.mk a0 a1 a2 a3) c a3 0 0 hr;have h1':a1.size<=maxLen:=h1;have hm:(80:Nat)<maxLen:=by decide
  have hloop:(Option.bind (I3 (J7 L) L c (.mk a0 a1 a2 a3) L 0 0) λo=>Azp o.1 [some o.2.1,some 0])=some (Af4 c a3):=by
   rw[Arv _ _ _ (.mk a0 a1 a2 a3) _ h3 (show a3.length<L by omega)];simp only[Aa.cp_eq,Aa.Op,Aa.aD,Aa.N,Aa.aQ,Aa.eta,hj,Sb];by_cases h':Af4 c a3=0
   ·simp[h',A1p]
   ·simp[Adl,ne0 h']
  simp only[l6,Un,Uk,sx_R09_node_3,l5,sx_R09_node_2,l4,sx_R09_node_1,k7,sx_R09_node_0,Aqt,Ah7,J7,Un,Uk,aN,aB,Aa.cp_eq,Aa.Op,Aa.aD,Aa.N,Aa.aQ,Aa.eta,hloop,Awg,Atc,A4q,Ay7,Awf L a1 h1 (show a1.size<L by omega) (show 80<L by omega),He,Ko,S7,Gg,Sb,Yu]
  congr 1
  generalize Af4 c a3=rest;unfold Aap Za Agh;simp only[Aa.cp_eq,Aa.Op,Aa.aD,Aa.N,Aa.aQ,Aa.eta];clear hj hloop hr ih h4 h0 h1 h2 h3 h1' hL hm;have hop:=Aqb a0;rcases hop with rfl|rfl|rfl|rfl|rfl|rfl|rfl|rfl|rfl|rfl|rfl|rfl|rfl|rfl|rfl|rfl|rfl|rfl|rfl|rfl|rfl|rfl|rfl|rfl|rfl|rfl|hop|hop<;>cases c
  all_goals first|(simp[Mk,Zh,Agj,O3];done)|(simp[Mk,Zh,Agj,O3];grind)|grind [Mk,Zh,Agj,O3]
theorem Awk{e:Aa}(h:Bw e)(c:Bool)(L:Nat)(hL:maxLen+dE e<L):Y0 L e c=some (Ou c e):=by
 simp only[Afn,Y0,aN,aB,Aa.cp_eq,Awj h L hL,Awi h L hL,Ay8 h c L hL,Sb,Gg,Ou]
 congr 1
 grind
theorem Awh{e:Aa}(h:Bw e)(L:Nat)(hL:maxLen+dE e<L):Yz L e=some (Ou false e):=by
 simp only[Afm,Yz,aN,aB,Aa.cp_eq,Awk h _ L hL,Sb]
def A66:Yb:=⟨#[118,97,114]⟩
def Qj:Yb:=⟨#[114,101,115,111,117,114,99,101]⟩
def Agd:Yb:=⟨#[115,116,111,114,101]⟩
def A2z:Yb:=⟨#[98,101,108,116]⟩
def Agc:Yb:=⟨#[113,117,101,117,101]⟩
def Aua:Yb:=⟨#[115,116,114,101,97,109]⟩
def Ayt:Yb:=⟨#[116,97,108,108,121]⟩
def Ays:Yb:=⟨#[108,101,118,101,108]⟩
def Ayr:Yb:=⟨#[99,111,117,110,116]⟩
def Arr:Yb:=⟨#[114,111,117,116,105,110,101]⟩
theorem Apm(L:Nat)(l:List Ag)(s:Ab)(n:Yb):∀(k:List Ag) (i:Nat) (v:Int),Gx L l s n k i v=some (match k.findIdx? (λx=>x.aD.toList == n.toList) with|some j=>(0,(((i+j:Nat):Int),((i+j:Nat):Int)))|none=>(1,(v,((i+k.length:Nat):Int)))):=by
 intro k
 induction k with
 |nil=>intro i v;rfl
 |cons x k ih=>
  intro i v;rw[Gx,ih,List.findIdx?_cons];cases hc:(λx=>x.aD.toList == n.toList) x with
  |true=>simp only[hc,cond_true,if_true];rfl
  |false=>
   simp only[hc,cond_false,if_false,Bool.false_eq_true];cases k.findIdx? (λx=>x.aD.toList == n.toList) with
   |some j=>simp[Nat.add_assoc,Nat.add_comm 1]
   |none=>simp[Nat.add_assoc,Nat.add_comm 1]
theorem Ahf(L:Nat)(l:List Ag)(s:Ab)(n:Yb)(hl:l.length<=maxLen)(hL:l.length<L):Nr L l s n=some (Lr (l.findIdx? (λx=>decide (x.aD=n)))):=by
 simp only[Nr,p9,Tv,aN,aB,Akg _ _ _ _ _ hl hL,Apm,He,Sb];cases l.findIdx? (λx=>decide (x.aD=n)) with
 |none=>rfl
 |some i=>simp[Lr,Adl]
theorem Apn(L:Nat)(l:List Ai)(s:Ab)(n:Yb):∀(k:List Ai) (i:Nat) (v:Int),Gy L l s n k i v=some (match k.findIdx? (λx=>x.aD.toList == n.toList) with|some j=>(0,(((i+j:Nat):Int),((i+j:Nat):Int)))|none=>(1,(v,((i+k.length:Nat):Int)))):=by
 intro k
 induction k with
 |nil=>intro i v;rfl
 |cons x k ih=>
  intro i v;rw[Gy,ih,List.findIdx?_cons];cases hc:(λx=>x.aD.toList == n.toList) x with
  |true=>simp only[hc,cond_true,if_true];rfl
  |false=>
   simp only[hc,cond_false,if_false,Bool.false_eq_true];cases k.findIdx? (λx=>x.aD.toList == n.toList) with
   |some j=>simp[Nat.add_assoc,Nat.add_comm 1]
   |none=>simp[Nat.add_assoc,Nat.add_comm 1]
theorem Ahg(L:Nat)(l:List Ai)(s:Ab)(n:Yb)(hl:l.length<=maxLen)(hL:l.length<L):Ns L l s n=some (Lr (l.findIdx? (λx=>decide (x.aD=n)))):=by
 simp only[Ns,q9,Tx,aN,aB,Akh _ _ _ _ _ hl hL,Apn,He,Sb];cases l.findIdx? (λx=>decide (x.aD=n)) with
 |none=>rfl
 |some i=>simp[Lr,Adl]
theorem Apo(L:Nat)(l:List Ak)(s:Ab)(n:Yb):∀(k:List Ak) (i:Nat) (v:Int),Gz L l s n k i v=some (match k.findIdx? (λx=>x.aD.toList == n.toList) with|some j=>(0,(((i+j:Nat):Int),((i+j:Nat):Int)))|none=>(1,(v,((i+k.length:Nat):Int)))):=by
 intro k
 induction k with
 |nil=>intro i v;rfl
 |cons x k ih=>
  intro i v;rw[Gz,ih,List.findIdx?_cons];cases hc:(λx=>x.aD.toList == n.toList) x with
  |true=>simp only[hc,cond_true,if_true];rfl
  |false=>
   simp only[hc,cond_false,if_false,Bool.false_eq_true];cases k.findIdx? (λx=>x.aD.toList == n.toList) with
   |some j=>simp[Nat.add_assoc,Nat.add_comm 1]
   |none=>simp[Nat.add_assoc,Nat.add_comm 1]
theorem Ahh(L:Nat)(l:List Ak)(s:Ab)(n:Yb)(hl:l.length<=maxLen)(hL:l.length<L):Nt L l s n=some (Lr (l.findIdx? (λx=>decide (x.aD=n)))):=by
 simp only[Nt,s8,Tz,aN,aB,Aki _ _ _ _ _ hl hL,Apo,He,Sb];cases l.findIdx? (λx=>decide (x.aD=n)) with
 |none=>rfl
 |some i=>simp[Lr,Adl]
theorem Apq(L:Nat)(l:List Av)(s:Ab)(n:Yb):∀(k:List Av) (i:Nat) (v:Int),Ha L l s n k i v=some (match k.findIdx? (λx=>x.aD.toList == n.toList) with|some j=>(0,(((i+j:Nat):Int),((i+j:Nat):Int)))|none=>(1,(v,((i+k.length:Nat):Int)))):=by
 intro k
 induction k with
 |nil=>intro i v;rfl
 |cons x k ih=>
  intro i v;rw[Ha,ih,List.findIdx?_cons];cases hc:(λx=>x.aD.toList == n.toList) x with
  |true=>simp only[hc,cond_true,if_true];rfl
  |false=>
   simp only[hc,cond_false,if_false,Bool.false_eq_true];cases k.findIdx? (λx=>x.aD.toList == n.toList) with
   |some j=>simp[Nat.add_assoc,Nat.add_comm 1]
   |none=>simp[Nat.add_assoc,Nat.add_comm 1]
theorem Ahi(L:Nat)(l:List Av)(s:Ab)(n:Yb)(hl:l.length<=maxLen)(hL:l.length<L):Nu L l s n=some (Lr (l.findIdx? (λx=>decide (x.aD=n)))):=by
 simp only[Nu,u4,Sm,aN,aB,Akj _ _ _ _ _ hl hL,Apq,He,Sb];cases l.findIdx? (λx=>decide (x.aD=n)) with
 |none=>rfl
 |some i=>simp[Lr,Adl]
theorem Akx(L:Nat)(l:List Am)(s:Ab)(n:Yb):∀(k:List Am) (i:Nat) (v:Int),Ew L l s n k i v=some (match k.findIdx? (λx=>x.aD.toList == n.toList) with|some j=>(0,(((i+j:Nat):Int),((i+j:Nat):Int)))|none=>(1,(v,((i+k.length:Nat):Int)))):=by
 intro k
 induction k with
 |nil=>intro i v;rfl
 |cons x k ih=>
  intro i v;rw[Ew,ih,List.findIdx?_cons];cases hc:(λx=>x.aD.toList == n.toList) x with
  |true=>simp only[hc,cond_true,if_true];rfl
  |false=>
   simp only[hc,cond_false,if_false,Bool.false_eq_true];cases k.findIdx? (λx=>x.aD.toList == n.toList) with
   |some j=>simp[Nat.add_assoc,Nat.add_comm 1]
   |none=>simp[Nat.add_assoc,Nat.add_comm 1]
theorem Ae6(L:Nat)(l:List Am)(s:Ab)(n:Yb)(hl:l.length<=maxLen)(hL:l.length<L):Lf L l s n=some (Lr (l.findIdx? (λx=>decide (x.aD=n)))):=by
 simp only[Lf,Xm,Qa,aN,aB,Ahe _ _ _ _ _ hl hL,Akx,He,Sb];cases l.findIdx? (λx=>decide (x.aD=n)) with
 |none=>rfl
 |some i=>simp[Lr,Adl]
theorem Aaq(L:Nat)(l:List Yb)(n:Yb):∀(k:List Yb) (i:Nat) (v:Int),Da L l n k i v=some (match k.findIdx? (λx=>n.toList == x.toList) with|some j=>(0,(((i+j:Nat):Int),((i+j:Nat):Int)))|none=>(1,(v,((i+k.length:Nat):Int)))):=by
 intro k
 induction k with
 |nil=>intro i v;rfl
 |cons x k ih=>
  intro i v;rw[Da,ih,List.findIdx?_cons];cases hc:(λx=>n.toList == x.toList) x with
  |true=>simp only[hc,cond_true,if_true];rfl
  |false=>
   simp only[hc,cond_false,if_false,Bool.false_eq_true];cases k.findIdx? (λx=>n.toList == x.toList) with
   |some j=>simp[Nat.add_assoc,Nat.add_comm 1]
   |none=>simp[Nat.add_assoc,Nat.add_comm 1]
theorem F9(L:Nat)(l:List Yb)(n:Yb)(hl:l.length<=maxLen)(hL:l.length<L):Cz L l n=some (Lr (l.findIdx? (λx=>decide (n=x)))):=by
 simp only[Cz,S4,Kf,aN,aB,Yw _ _ _ _ hl hL,Aaq,He,Sb];cases l.findIdx? (λx=>decide (n=x)) with
 |none=>rfl
 |some i=>simp[Lr,Adl]
def Ak2(s:Ab)(n:Yb):Int:=Lr (s.aG.findIdx? λx=>decide (x.aD=n))
theorem Amo(L:Nat)(s:Ab)(n:Yb)(hl:s.aG.length<=maxLen)(hL:s.aG.length<L):Dg L s n=some (Ak2 s n):=by
 simp only[Ads,Li,Dg,Li,aN,aB,Ae6 L _ s n hl hL,Sb,Ak2]
def Tt(s:Ab)(n:Yb):Yb×Int:=
 bif s.aX.any (λx=>decide (x.aD=n)) then(A66,Lr (s.aX.findIdx? λx=>decide (x.aD=n)))
 else bif s.aI.any (λx=>decide (x.aD=n)) then(Qj,Lr (s.aI.findIdx? λx=>decide (x.aD=n)))
 else bif s.aJ.any (λx=>decide (x.aD=n)) then(Agd,Lr (s.aJ.findIdx? λx=>decide (x.aD=n)))
 else bif s.aZ.any (λx=>decide (x.aD=n)) then(A2z,Lr (s.aZ.findIdx? λx=>decide (x.aD=n)))
 else bif s.aV.any (λx=>decide (n=x)) then(Agc,Lr (s.aV.findIdx? λx=>decide (n=x)))
 else bif s.aR.any (λx=>decide (n=x)) then(Aua,Lr (s.aR.findIdx? λx=>decide (n=x)))
 else bif s.aS.any (λx=>decide (n=x)) then(Ayt,Lr (s.aS.findIdx? λx=>decide (n=x)))
 else bif s.aW.any (λx=>decide (n=x)) then(Ays,Lr (s.aW.findIdx? λx=>decide (n=x)))
 else bif s.aT.any (λx=>decide (n=x)) then(Ayr,Lr (s.aT.findIdx? λx=>decide (n=x)))
 else bif s.aG.any (λx=>decide (x.aD=n)) then(Arr,Ak2 s n)
 else(⟨#[]⟩,-1)
def Agb(s:Ab)(n:Yb):Yb:=(Tt s n).1
def Aan(s:Ab)(m:Nat):Prop:=s.aX.length<=m/\s.aI.length<=m/\s.aJ.length<=m/\s.aZ.length<=m/\s.aV.length<=m/\s.aR.length<=m/\s.aS.length<=m/\s.aW.length<=m/\s.aT.length<=m/\s.aG.length<=m
theorem Lo.len{s:Ab}(h:Lo s):Aan s maxLen:=by
 unfold Lo at h;unfold Aan;simp only[h,and_self]
theorem Agp(L:Nat)(s:Ab)(n:Yb)(h:Aan s maxLen)(hL:maxLen<L):Oz L s n=some (Tt s n):=by
 obtain⟨h0,h1,h2,h3,h4,h5,h6,h7,h8,h9⟩:=h;have hR:decide (Ak2 s n>=0)=s.aG.any (λx=>decide (x.aD=n)):=Aj9 _ _;simp only[Ahv,Tw,Oa,Ty,Ob,N5,Mq,Mn,Oz,Tw,Oa,Ty,Ob,N5,Mq,Mn,aN,aB,Ahf L _ s n h0 (by omega),Ahg L _ s n h1 (by omega),Ahh L _ s n h2 (by omega),Ahi L _ s n h3 (by omega),
  F9 L _ n h4 (by omega),F9 L _ n h5 (by omega),F9 L _ n h6 (by omega),F9 L _ n h7 (by omega),F9 L _ n h8 (by omega),Amo L s n h9 (by omega),
  Sb,Gg,Aj9,hR,Tt]
 simp only[A66,Qj,Agd,A2z,Agc,Aua,Ayt,Ays,Ayr,Arr]
theorem Ah4(L:Nat)(s:Ab)(n:Yb)(h:Aan s maxLen)(hL:maxLen<L):K9 L s n=some (Agb s n):=by
 simp only[Acz,K9,aN,aB,Agp L s n h hL,Sb,Agb]
theorem Atg(L:Nat)(s:Ab):∀(k:List Ag) (i:Nat) (v:List Yb),v.length+k.length<=1099511627776->∃j,Hr L s k i v=some (0,(j,v++k.map (λx=>x.aD))):=by
 intro k
 induction k with
 |nil=>intro i v _;exact⟨_,by rw[Hr,List.map_nil,List.append_nil]⟩
 |cons x k ih=>
  intro i v h;rw[List.length_cons]at h;obtain⟨j,hj⟩:=ih (i+1) (v++ [(λx=>x.aD) x]) (by simp only[List.length_append,List.length_cons,List.length_nil];omega);refine⟨j,?_⟩;rw[Hr];have hM:=Di;simp only[List.length_cons,List.length_nil]
  repeat rw[ifp (by omega)]
  rw[hj,List.append_assoc];rfl
theorem Ath(L:Nat)(s:Ab)(o1:Nat×(Int×List Yb)):∀(k:List Ai) (i:Nat) (v:List Yb),v.length+k.length<=1099511627776->∃j,Hs L s o1 k i v=some (0,(j,v++k.map (λx=>x.aD))):=by
 intro k
 induction k with
 |nil=>intro i v _;exact⟨_,by rw[Hs,List.map_nil,List.append_nil]⟩
 |cons x k ih=>
  intro i v h;rw[List.length_cons]at h;obtain⟨j,hj⟩:=ih (i+1) (v++ [(λx=>x.aD) x]) (by simp only[List.length_append,List.length_cons,List.length_nil];omega);refine⟨j,?_⟩;rw[Hs];have hM:=Di;simp only[List.length_cons,List.length_nil]
  repeat rw[ifp (by omega)]
  rw[hj,List.append_assoc];rfl
theorem Ati(L:Nat)(s:Ab)(o1 o2:Nat×(Int×List Yb)):∀(k:List Ak) (i:Nat) (v:List Yb),v.length+k.length<=1099511627776->∃j,Ht L s o1 o2 k i v=some (0,(j,v++k.map (λx=>x.aD))):=by
 intro k
 induction k with
 |nil=>intro i v _;exact⟨_,by rw[Ht,List.map_nil,List.append_nil]⟩
 |cons x k ih=>
  intro i v h;rw[List.length_cons]at h;obtain⟨j,hj⟩:=ih (i+1) (v++ [(λx=>x.aD) x]) (by simp only[List.length_append,List.length_cons,List.length_nil];omega);refine⟨j,?_⟩;rw[Ht];have hM:=Di;simp only[List.length_cons,List.length_nil]
  repeat rw[ifp (by omega)]
  rw[hj,List.append_assoc];rfl
theorem Atj(L:Nat)(s:Ab)(o1 o2 o3:Nat×(Int×List Yb)):∀(k:List Av) (i:Nat) (v:List Yb),v.length+k.length<=1099511627776->∃j,Hu L s o1 o2 o3 k i v=some (0,(j,v++k.map (λx=>x.aD))):=by
 intro k
 induction k with
 |nil=>intro i v _;exact⟨_,by rw[Hu,List.map_nil,List.append_nil]⟩
 |cons x k ih=>
  intro i v h;rw[List.length_cons]at h;obtain⟨j,hj⟩:=ih (i+1) (v++ [(λx=>x.aD) x]) (by simp only[List.length_append,List.length_cons,List.length_nil];omega);refine⟨j,?_⟩;rw[Hu];have hM:=Di;simp only[List.length_cons,List.length_nil]
  repeat rw[ifp (by omega)]
  rw[hj,List.append_assoc];rfl
theorem Atk(L:Nat)(s:Ab)(o1 o2 o3 o4:Nat×(Int×List Yb)):∀(k:List Am) (i:Nat) (v:List Yb),v.length+k.length<=1099511627776->∃j,Hv L s o1 o2 o3 o4 k i v=some (0,(j,v++k.map (λx=>x.aD))):=by
 intro k
 induction k with
 |nil=>intro i v _;exact⟨_,by rw[Hv,List.map_nil,List.append_nil]⟩
 |cons x k ih=>
  intro i v h;rw[List.length_cons]at h;obtain⟨j,hj⟩:=ih (i+1) (v++ [(λx=>x.aD) x]) (by simp only[List.length_append,List.length_cons,List.length_nil];omega);refine⟨j,?_⟩;rw[Hv];have hM:=Di;simp only[List.length_cons,List.length_nil]
  repeat rw[ifp (by omega)]
  rw[hj,List.append_assoc];rfl
def Adf(s:Ab):List (List Yb):= [s.aX.map λx=>x.aD,s.aI.map λx=>x.aD,s.aJ.map λx=>x.aD,s.aZ.map λx=>x.aD,s.aV,s.aR,s.aS,s.aW,s.aT,s.aG.map λx=>x.aD]
theorem Akp(L:Nat)(s:Ab)(h:Aan s 1099511627776)(hL:maxLen<L):Uu L s=some (Adf s):=by
 obtain⟨h0,h1,h2,h3,h4,h5,h6,h7,h8,h9⟩:=h;rw[Di]at hL;obtain⟨j1,e1⟩:=Atg L s s.aX 0 [] (by simpa using h0);obtain⟨j2,e2⟩:=Ath L s (0,(j1,[]++s.aX.map λx=>x.aD)) s.aI 0 [] (by simpa using h1);obtain⟨j3,e3⟩:=Ati L s (0,(j1,[]++s.aX.map λx=>x.aD)) (0,(j2,[]++s.aI.map λx=>x.aD)) s.aJ 0 [] (by simpa using h2);obtain⟨j4,e4⟩:=Atj L s (0,(j1,[]++s.aX.map λx=>x.aD)) (0,(j2,[]++s.aI.map λx=>x.aD)) (0,(j3,[]++s.aJ.map λx=>x.aD)) s.aZ 0 [] (by simpa using h3);obtain⟨j5,e5⟩:=Atk L s (0,(j1,[]++s.aX.map λx=>x.aD)) (0,(j2,[]++s.aI.map λx=>x.aD)) (0,(j3,[]++s.aJ.map λx=>x.aD)) (0,(j4,[]++s.aZ.map λx=>x.aD)) s.aG 0 [] (by simpa using h9);simp only[Anq,Xx,Ss,Xy,Su,Si,Sv,Xz,Sw,Sj,Uu,Xx,Ss,Xy,Su,Si,Sv,Xz,Sw,Sj,aN,aB,Apd L s L (by rw[Di];omega) (by omega),e1,Sb,Adl,Ape L s _ L (by rw[Di];omega) (by omega),e2,Apf L s _ _ L (by rw[Di];omega) (by omega),e3,Apg L s _ _ _ L (by rw[Di];omega) (by omega),e4,Aph L s _ _ _ _ L (by rw[Di];omega) (by omega),e5]
 repeat rw[ifp (by omega)]
 rfl
theorem Aya(l:List Yb)(s:Yb):decide (Are l s>=0)=l.any (λx=>decide (x=s)):=Aj9 _ _
theorem Aob(L:Nat)(s:Ab)(n:Yb)(h:Aan s 1099511627776)(hL:maxLen<L):W4 L s n=some (Agb s n):=by
 have hM:=Di;have hh:=h;obtain⟨h0,h1,h2,h3,h4,h5,h6,h7,h8,h9⟩:=hh;have hn:=Akp L s h hL;have hf:∀l:List Yb,l.length<=1099511627776->Ib L l n=some (Are l n):=λl hl=>Agm L l n (by omega) (by omega);have e:∀ {α :Type} (l:List α) (f: α->Yb),l.length<=1099511627776->Ib L (l.map f) n=some (Are (l.map f) n):=λl f hl=>hf _ (by rw[List.length_map];exact hl);simp only[Aqu,Uo,Ul,W4,Uo,Ul,aN,aB,hn,Sb,Arw L n (Adf s) s L (by simp only[Adf,List.length_cons,List.length_nil];omega) (by simp only[Adf,List.length_cons,List.length_nil];omega)];simp only[Adf,L7,e _ _ h0,e _ _ h1,e _ _ h2,e _ _ h3,hf _ h4,hf _ h5,hf _ h6,hf _ h7,hf _ h8,e _ _ h9,Sb,Aya,List.any_map,List.length_cons,List.length_nil,Int.toNat_natCast]
 repeat rw[ifp (by omega)]
 simp only[Agb,Tt,Gg,Sb,Function.comp_def];have e2:∀l:List Yb,(l.any λx=>decide (x=n))=l.any λx=>decide (n=x):=λl=>by simp only[eq_comm]
 simp only[e2];cases s.aX.any (λx=>decide (x.aD=n)) with|true=>rfl|false=>?_
 cases s.aI.any (λx=>decide (x.aD=n)) with|true=>rfl|false=>?_
 cases s.aJ.any (λx=>decide (x.aD=n)) with|true=>rfl|false=>?_
 cases s.aZ.any (λx=>decide (x.aD=n)) with|true=>rfl|false=>?_
 cases s.aV.any (λx=>decide (n=x)) with|true=>rfl|false=>?_
 cases s.aR.any (λx=>decide (n=x)) with|true=>rfl|false=>?_
 cases s.aS.any (λx=>decide (n=x)) with|true=>rfl|false=>?_
 cases s.aW.any (λx=>decide (n=x)) with|true=>rfl|false=>?_
 cases s.aT.any (λx=>decide (n=x)) with|true=>rfl|false=>?_
 cases s.aG.any (λx=>decide (x.aD=n))<;>rfl
def A05(l:List Aw)(s:Yb):Option Int:=(l.reverse.find? λf=>decide (f.aD=s)).map (·.bL)
def A13(l:List Ag)(s:Yb):Option Int:=(l.find? λx=>decide (x.aD=s)).map (·.bL)
def o2:Option Int->Int×Bool
 |some t=>(t,true)
 |none=>(0,false)
def Arh(v:Ao)(s:Yb):Option Int:=match A05 v.aP s with
 |some t=>some t
 |none=>match A13 v.aF.aX s with
  |some t=>some t
  |none=>A13 v.aK s
theorem Ao9(L:Nat)(l:List Aw)(s:Yb)(hl:l.length<=maxLen):∀(j n:Nat),j<=l.length->j<n->
  ∃i,F6 L l s n 0 false ((j:Int)-1)=some (match (l.take j).reverse.find? (λf=>decide (f.aD=s)) with|some f=>(0,(f.bL,true,i))|none=>(1,(0,false,i))):=by
 intro j
 induction j with
 |zero=>
  intro n _ hn;obtain⟨n,rfl⟩:∃k,n=k+1:=⟨n-1,by omega⟩;exact⟨_,by simp only[F6,J3,aN];rfl⟩
 |succ j ih=>
  intro n hj hn;obtain⟨n,rfl⟩:∃k,n=k+1:=⟨n-1,by omega⟩;have hlt:j<l.length:=by omega
  have e0:((j+1:Nat):Int)-1=(j:Int):=by omega
  have e1:decide ((j:Int)>=0)=true:=decide_eq_true (by omega);have et:(l.take (j+1)).reverse=l.getD j default::(l.take j).reverse:=by
   rw[List.take_succ_eq_append_getElem hlt,List.reverse_append,Rx l j hlt];rfl
  obtain⟨i,hi⟩:=ih n (by omega) (by omega);rw[et];rw[List.find?_cons];cases hb:decide ((l.getD j default).aD=s) with
  |true=>exact⟨(j:Int),by simp only[F6,J3,aN,gD,He,e0,e1,nn,ltI hlt,toN,hb,cond_true,if_true,decide_true]⟩
  |false=>exact⟨i,by simp only[F6,J3,aN,gD,He,e0,e1,nn,ltI hlt,toN,hb,cond_true,cond_false,if_true,decide_true,Vb (show j<=maxLen by omega),hi]⟩
theorem Apk(L:Nat)(l:List Aw)(s:Yb)(hl:l.length<=maxLen)(hL:l.length<L):Ja L l s=some (o2 (A05 l s)):=by
 obtain⟨i,hi⟩:=Ao9 L l s hl l.length L (Nat.le_refl _) hL;rw[List.take_length]at hi;simp only[Afv,Mo,Ja,Mo,aN,Vb hl,hi,A05];cases l.reverse.find? (λf=>decide (f.aD=s))<;>rfl
theorem Av9(L:Nat)(l:List Aw)(s:Yb)(hl:l.length<=maxLen):∀(j n:Nat),j<=l.length->j<n->
  ∃i,Jl L l s n 0 false ((j:Int)-1)=some (match (l.take j).reverse.find? (λf=>decide (f.aD=s)) with|some f=>(0,(f.bL,true,i))|none=>(1,(0,false,i))):=by
 intro j
 induction j with
 |zero=>
  intro n _ hn;obtain⟨n,rfl⟩:∃k,n=k+1:=⟨n-1,by omega⟩;exact⟨_,by simp only[Jl,M6,aN];rfl⟩
 |succ j ih=>
  intro n hj hn;obtain⟨n,rfl⟩:∃k,n=k+1:=⟨n-1,by omega⟩;have hlt:j<l.length:=by omega
  have e0:((j+1:Nat):Int)-1=(j:Int):=by omega
  have e1:decide ((j:Int)>=0)=true:=decide_eq_true (by omega);have et:(l.take (j+1)).reverse=l.getD j default::(l.take j).reverse:=by
   rw[List.take_succ_eq_append_getElem hlt,List.reverse_append,Rx l j hlt];rfl
  obtain⟨i,hi⟩:=ih n (by omega) (by omega);rw[et];rw[List.find?_cons];cases hb:decide ((l.getD j default).aD=s) with
  |true=>exact⟨(j:Int),by simp only[Jl,M6,aN,gD,He,e0,e1,nn,ltI hlt,toN,hb,cond_true,if_true,decide_true]⟩
  |false=>exact⟨i,by simp only[Jl,M6,aN,gD,He,e0,e1,nn,ltI hlt,toN,hb,cond_true,cond_false,if_true,decide_true,Vb (show j<=maxLen by omega),hi]⟩
theorem Awl(L:Nat)(l:List Aw)(s:Yb)(hl:l.length<=maxLen)(hL:l.length<L):Y2 L l s=some (o2 (A05 l s)):=by
 obtain⟨i,hi⟩:=Av9 L l s hl l.length L (Nat.le_refl _) hL;rw[List.take_length]at hi;simp only[Anr,Sk,Y2,Sk,aN,Vb hl,hi,A05];cases l.reverse.find? (λf=>decide (f.aD=s))<;>rfl
theorem Apr(L:Nat)(s:Yb)(v0:Ao):∀(k:List Ag) (i:Nat) (v:Int) (w:Bool),∃j,Hb L s v0 k i v w=some (match k.find? (λx=>decide (x.aD=s)) with|some x=>(0,(x.bL,true,j))|none=>(1,(v,w,j))):=by
 intro k
 induction k with
 |nil=>intro i v w;exact⟨i,rfl⟩
 |cons x k ih=>
  intro i v w;obtain⟨j,hj⟩:=ih (i+1) v w;rw[Hb,List.find?_cons,He];cases decide (x.aD=s) with
  |true=>exact⟨i,rfl⟩
  |false=>exact⟨j,hj⟩
theorem Aps(L:Nat)(s:Yb)(v0:Ao):∀(k:List Ag) (i:Nat) (v:Int) (w:Bool),∃j,Hc L s v0 k i v w=some (match k.find? (λx=>decide (x.aD=s)) with|some x=>(0,(x.bL,true,j))|none=>(1,(v,w,j))):=by
 intro k
 induction k with
 |nil=>intro i v w;exact⟨i,rfl⟩
 |cons x k ih=>
  intro i v w;obtain⟨j,hj⟩:=ih (i+1) v w;rw[Hc,List.find?_cons,He];cases decide (x.aD=s) with
  |true=>exact⟨i,rfl⟩
  |false=>exact⟨j,hj⟩
theorem Asd(L:Nat)(l:List Ag)(s:Yb):∀(k:List Ag) (i:Nat) (v:Int) (w:Bool),∃j,Ik L l s k i v w=some (match k.find? (λx=>decide (x.aD=s)) with|some x=>(0,(x.bL,true,j))|none=>(1,(v,w,j))):=by
 intro k
 induction k with
 |nil=>intro i v w;exact⟨i,rfl⟩
 |cons x k ih=>
  intro i v w;obtain⟨j,hj⟩:=ih (i+1) v w;rw[Ik,List.find?_cons,He];cases decide (x.aD=s) with
  |true=>exact⟨i,rfl⟩
  |false=>exact⟨j,hj⟩
theorem Ar8(L:Nat)(v:Ao)(s:Yb)(h:La v)(hL:maxLen<L):Ua L v s=some (o2 (Arh v s)):=by
 obtain⟨⟨h1,_⟩,⟨h2,_⟩,h3⟩:=h;have h4:=h3.len.1;obtain⟨j1,e1⟩:=Apr L s v v.aF.aX 0 0 false;obtain⟨j2,e2⟩:=Aps L s v v.aK 0 0 false;simp only[Ahx,Od,T0,Oe,N7,Ua,Od,T0,Oe,N7,aN,aB,Apk L _ s h2 (by omega),Akk L s v L h4 (by omega),Akl L s v L h1 (by omega),e1,Sb,Arh,A13];cases A05 v.aP s with
 |some t=>rfl
 |none=>
  simp only[o2,cond_false];cases v.aF.aX.find? (λx=>decide (x.aD=s)) with
  |some t=>rfl
  |none=>
   simp only[A1p,e2,Sb,Option.map_none];cases v.aK.find? (λx=>decide (x.aD=s))<;>rfl
theorem Ah2(L:Nat)(l:List Ag)(s:Yb)(hl:l.length<=maxLen)(hL:l.length<L):Ng L l s=some (o2 (A13 l s)):=by
 obtain⟨j1,e1⟩:=Asd L l s l 0 0 false;simp only[Ajn,Py,Ng,Py,aN,aB,Amf L l s L hl hL,e1,Sb,A13];cases l.find? (λx=>decide (x.aD=s))<;>rfl
theorem Aza(L:Nat)(v:Ao)(s:Yb)(h:La v)(hL:maxLen<L):Aco L v s=some (o2 (Arh v s)):=by
 obtain⟨⟨h1,_⟩,⟨h2,_⟩,h3⟩:=h;have h4:=h3.len.1;simp only[Aif,Aco,aN,aB,Awl L _ s h2 (by omega),Ah2 L _ s h4 (by omega),Ah2 L _ s h1 (by omega),Sb,Arh];cases A05 v.aP s with
 |some t=>rfl
 |none=>
  cases A13 v.aF.aX s with
  |some t=>rfl
  |none=>cases A13 v.aK s<;>rfl
def Ami(t:Int):Bool:=t == 1 || t == 3
def unT(op a:Int):Int:=if(op=5/\Ami a=true)\/(op=6/\a=2)then a else if op=7/\a=1 then 3 else if op=8/\a=3 then 1 else 0
def A0e(op a b:Int):Int:=
 if op=9\/op=10\/op=13\/op=20\/op=21 then(if a=b/\Ami a=true then a else 0)
 else if op=11 then(if a=1/\b=1 then 1 else if Ami a=true/\Ami b=true/\a≠b then 3 else 0)
 else if op=12 then(if(a=1/\b=1)\/(a=3/\b=3)then 1 else if a=3/\b=1 then 3 else 0)
 else if op=14\/op=15 then(if a=b then 2 else 0)
 else if op=16\/op=17 then(if a=b/\Ami a=true then 2 else 0)
 else if op=18\/op=19 then(if a=2/\b=2 then 2 else 0)
 else 0
def A7i(op:Int)(k:Yb):Bool:=if op=22 then decide (k=Qj)else if op=23 then decide (k=Agd)else decide (k=Qj) || decide (k=Agc)
theorem Xv(L:Nat)(t:Int):Em L t=some (Ami t):=by
 simp only[Rn,Em,aN,aB,S7,Ami]
theorem Aed(L:Nat)(t:Int):Hm L t=some (Ami t):=by
 simp only[Xb,Hm,aN,aB,S7,Ami]
theorem Apl(L:Nat)(op a:Int):Rh L op a=some (unT op a):=by
 simp only[Xe,Rh,aN,aB,Xv,Sb,Gg,Ko,S7,unT]
 congr 1
 by_cases h5:op=5
 ·subst h5;cases Ami a<;>simp
 by_cases h6:op=6
 ·subst h6;by_cases h:a=2<;>first|(simp[h];done)|(simp[h,beq_false_of_ne h];done)
 by_cases h7:op=7
 ·subst h7;by_cases h:a=1<;>first|(simp[h];done)|(simp[h,beq_false_of_ne h];done)
 by_cases h8:op=8
 ·subst h8;by_cases h:a=3<;>first|(simp[h];done)|(simp[h,beq_false_of_ne h];done)
 have b5:(op == 5)=false:=beq_false_of_ne h5;have b6:(op == 6)=false:=beq_false_of_ne h6;have b7:(op == 7)=false:=beq_false_of_ne h7;have b8:(op == 8)=false:=beq_false_of_ne h8;simp[h5,h6,h7,h8,b5,b6,b7,b8]
theorem Awn(L:Nat)(op a:Int):Y3 L op a=some (unT op a):=by
 simp only[Afo,Y3,aN,aB,Aed,Sb,Gg,Ko,S7,unT]
 congr 1
 by_cases h5:op=5
 ·subst h5;cases Ami a<;>simp
 by_cases h6:op=6
 ·subst h6;by_cases h:a=2<;>first|(simp[h];done)|(simp[h,beq_false_of_ne h];done)
 by_cases h7:op=7
 ·subst h7;by_cases h:a=1<;>first|(simp[h];done)|(simp[h,beq_false_of_ne h];done)
 by_cases h8:op=8
 ·subst h8;by_cases h:a=3<;>first|(simp[h];done)|(simp[h,beq_false_of_ne h];done)
 have b5:(op == 5)=false:=beq_false_of_ne h5;have b6:(op == 6)=false:=beq_false_of_ne h6;have b7:(op == 7)=false:=beq_false_of_ne h7;have b8:(op == 8)=false:=beq_false_of_ne h8;simp[h5,h6,h7,h8,b5,b6,b7,b8]
theorem Amq(L:Nat)(op a b:Int):Pp L op a b=some (A0e op a b):=by
 simp only[Lj,Lk,sx_typing_binary_4,Qd,sx_typing_binary_3,Qc,sx_typing_binary_1,Qb,sx_typing_binary_0,Adt,Pp,aN,aB,Xv,Sb,Gg,Ko,S7,A0e,Ami]
 congr 1
 rcases Aqb op with rfl|rfl|rfl|rfl|rfl|rfl|rfl|rfl|rfl|rfl|rfl|rfl|rfl|rfl|rfl|rfl|rfl|rfl|rfl|rfl|rfl|rfl|rfl|rfl|rfl|rfl|hop|hop
 all_goals first|(simp;done)|(simp;grind)|grind
theorem Atd(L:Nat)(op a b:Int):Wl L op a b=some (A0e op a b):=by
 simp only[P1,sx_R14_binary_3,V9,sx_R14_binary_2,V8,sx_R14_binary_1,V7,sx_R14_binary_0,Ajm,Wl,aN,aB,Aed,Sb,Gg,Ko,S7,A0e,Ami]
 congr 1
 rcases Aqb op with rfl|rfl|rfl|rfl|rfl|rfl|rfl|rfl|rfl|rfl|rfl|rfl|rfl|rfl|rfl|rfl|rfl|rfl|rfl|rfl|rfl|rfl|rfl|rfl|rfl|rfl|hop|hop
 all_goals first|(simp;done)|(simp;grind)|grind
theorem Amr(L:Nat)(op:Int)(k:Yb):Pq L op k=some (A7i op k):=by
 simp only[Vf,Pq,aN,aB,He,S7,Gg,A7i,Qj,Agd,Agc]
 congr 1
 by_cases h:op=22
 ·subst h;rfl
 by_cases h':op=23
 ·subst h';rfl
 have b:(op == 22)=false:=beq_false_of_ne h;have b':(op == 23)=false:=beq_false_of_ne h';simp only[h,h',b,b',cond_false,if_false];rfl
def A68(op:Int):Int:=if op=1 then 1 else if op=2 then 2 else if op=4 then 3 else 0
def Ayq(op:Int):List Int->Int
 | [a]=>unT op a
 | [a,b]=>A0e op a b
 |_=>A68 op
def Ar0(v:Ao)(op:Int)(nm:Yb)(kids:List Int):Int×Int:=
 if op=3 then match Arh v nm with
  |some t=>(t,0)
  |none=>(0,5)
 else if 22<=op then if A7i op (Agb v.aF nm)=true then(1,0) else(0,5)
 else if Ayq op kids=0 then(0,10) else(Ayq op kids,0)
mutual
def tyE(v:Ao):Aa->Int×Int
 | .mk op nm _ k=>if(tyL v k).2≠0 then(0,(tyL v k).2)else Ar0 v op nm (tyL v k).1
def tyL(v:Ao):List Aa->List Int×Int
 | []=>([],0)
 |x::k=>if(tyE v x).2≠0 then([],(tyE v x).2)else if(tyL v k).2≠0 then([],(tyL v k).2) else((tyE v x).1::(tyL v k).1,0)
end
def Ard(v:Ao)(e:Aa):Int×Int:=if Ou false e≠0 then(0,Ou false e)else tyE v e
theorem A3k(v:Ao):∀k:List Aa,(tyL v k).2=0->(tyL v k).1.length=k.length:=by
 intro k
 induction k with
 |nil=>intro _;rw[tyL];rfl
 |cons x k ih=>
  rw[tyL];intro h;split at h
  ·contradiction
  ·split at h
   ·contradiction
   ·rename_i h1 h2;have h2:(tyL v k).2=0:=Decidable.not_not.1 h2;rw[if_neg h1,if_neg (by simp[h2])];simp[ih h2]
theorem Aj0{c:Bool}{op:Int}{nm:Yb}{n:Int}{k:List Aa}(h:Yu c (.mk op nm n k)=0):Aap c (.mk op nm n k)=0/\Af4 c k=0:=by
 rw[Yu]at h;split at h
 ·contradiction
 ·rename_i h1;exact⟨Decidable.not_not.1 h1,h⟩
theorem Ajz{c:Bool} :∀ {k:List Aa},Af4 c k=0->∀x∈k,Yu c x=0:=by
 intro k
 induction k with
 |nil=>intro _ x hx;cases hx
 |cons y k ih=>
  intro h x hx;rw[Af4]at h;split at h
  ·contradiction
  ·rename_i h1;rcases List.mem_cons.1 hx with rfl|hx
   ·exact Decidable.not_not.1 h1
   ·exact ih h x hx
theorem Ar1{op:Int}{nm:Yb}{n:Int}{k:List Aa}(h:Aap false (.mk op nm n k)=0):(k.length:Int)=O3 op/\1<=op/\op<=24:=by
 have h1:Za false (.mk op nm n k)=false:=by
  cases hb:Za false (.mk op nm n k) with
  |false=>rfl
  |true=>unfold Aap at h;rw[if_pos hb]at h;cases h
 unfold Za at h1;simp only[Aa.cp_eq,Aa.Op,Aa.aD,Aa.N,Aa.aQ,Aa.eta,Bool.or_eq_false_iff,decide_eq_false_iff_not,Decidable.not_not,Bool.not_eq_false']at h1;obtain⟨⟨h2,h3⟩,_⟩:=h1;refine⟨Decidable.not_not.1 (of_decide_eq_false h3),?_⟩;unfold Zh at h2;by_cases h3:op=3
 ·omega
 ·rw[if_neg h3]at h2;by_cases h4:op=25\/op=26
  ·rw[if_pos h4]at h2;cases h2
  ·rw[if_neg h4]at h2;have h5:=of_decide_eq_true h2;unfold O3 at h5;grind
theorem Axv(op:Int):O3 op<=2:=by unfold O3;grind
theorem Apt(Azi:Ao->Aa->Option (Int×Int))(L:Nat)(a1:Aa)(v:Ao):∀(k:List Aa) (i:Nat) (v0 v1:Int) (acc:List Int),acc.length+k.length<=1099511627776->(∀x∈k,Azi v x=some (tyE v x))->
  ∃j acc',E5 Azi L a1 v k i v0 v1 acc=some (if(tyL v k).2≠0 then(0,(0,(tyL v k).2,acc',j)) else(1,(v0,v1,acc++(tyL v k).1,j))):=by
 intro k
 induction k with
 |nil=>intro i v0 v1 acc _ _;exact⟨i,acc,by rw[E5,tyL];simp⟩
 |cons x k ih=>
  intro i v0 v1 acc hlen h;rw[List.length_cons]at hlen;obtain⟨j,acc',hj⟩:=ih (i+1) v0 v1 (acc++ [(tyE v x).1]) (by simp only[List.length_append,List.length_cons,List.length_nil];omega) λy hy=>h y (by simp[hy]);have hM:=Di;rw[E5,h x (by simp),Sb,tyL];simp only[List.length_cons,List.length_nil];by_cases hx:(tyE v x).2=0
  ·refine⟨j,acc',?_⟩;rw[ifp (show(acc.length+(0+1))*8<=140737488355328 by omega),ifp (show acc.length+(0+1)<=maxLen by omega),hj];by_cases hk:(tyL v k).2=0<;>simp[hx,hk]
  ·refine⟨i,acc,?_⟩;simp[hx,ne0 hx]
theorem Atl(Azi:Ao->Aa->Option (Int×Int))(L:Nat)(a1:Aa)(v:Ao):∀(k:List Aa) (i:Nat) (v0 v1:Int) (acc:List Int),acc.length+k.length<=1099511627776->(∀x∈k,Azi v x=some (tyE v x))->
  ∃j acc',Hw Azi L v a1 k i v0 v1 acc=some (if(tyL v k).2≠0 then(0,(0,(tyL v k).2,acc',j)) else(1,(v0,v1,acc++(tyL v k).1,j))):=by
 intro k
 induction k with
 |nil=>intro i v0 v1 acc _ _;exact⟨i,acc,by rw[Hw,tyL];simp⟩
 |cons x k ih=>
  intro i v0 v1 acc hlen h;rw[List.length_cons]at hlen;obtain⟨j,acc',hj⟩:=ih (i+1) v0 v1 (acc++ [(tyE v x).1]) (by simp only[List.length_append,List.length_cons,List.length_nil];omega) λy hy=>h y (by simp[hy]);have hM:=Di;rw[Hw,h x (by simp),Sb,tyL];simp only[List.length_cons,List.length_nil];by_cases hx:(tyE v x).2=0
  ·refine⟨j,acc',?_⟩;rw[ifp (show(acc.length+(0+1))*8<=140737488355328 by omega),ifp (show acc.length+(0+1)<=maxLen by omega),hj];by_cases hk:(tyL v k).2=0<;>simp[hx,hk]
  ·refine⟨i,acc,?_⟩;simp[hx,ne0 hx]
theorem Au0{l:List Int}(h:l.length<=2):l= []\/(∃a,l= [a])\/∃a b,l= [a,b]:=by
 match l,h with
 | [],_=>exact .inl rfl
 | [a],_=>exact .inr (.inl ⟨a,rfl⟩)
 | [a,b],_=>exact .inr (.inr ⟨a,b,rfl⟩)
theorem Ar9{e:Aa}(h:Bw e)(v:Ao)(hv:La v):∀L,maxLen+dE e<L->Yu false e=0->Hh L v e=some (tyE v e):=by
 induction h with
 |mk a0 a1 a2 a3 h0 h1 h2 h3 h4 ih=>
  intro L hL hc;obtain⟨L,rfl⟩:∃k,L=k+1:=⟨L-1,by omega⟩;rw[dE]at hL;obtain⟨hn,hk⟩:=Aj0 hc;have hr:∀x∈a3,Hh L v x=some (tyE v x):=λx hx=>ih x hx L (by have:=Rt hx;omega) (Ajz hk x hx);obtain⟨ha,hop1,hop2⟩:=Ar1 hn;have ha2:=Axv a0;have h5:a3.length<=2:=by omega
  obtain⟨j,acc',hj⟩:=Apt (Hh L) L (.mk a0 a1 a2 a3) v a3 0 0 0 [] (by simp;omega) hr;have hM:=Di;simp only[Ahy,N8,d8,Hh,N8,aN,aB,Aa.cp_eq,Aa.Op,Aa.aD,Aa.N,Aa.aQ,Aa.eta,Akm _ _ (.mk a0 a1 a2 a3) _ L h3 (show a3.length<L by omega),hj,Sb,tyE];by_cases hz:(tyL v a3).2=0
  ·have hlen:=A3k v a3 hz;simp only[hz,ne_eq,not_true_eq_false,if_false,A1p,List.nil_append,Ar8 L v a1 hv (by omega),Ah4 L _ a1 hv.2.2.len (by omega),Amr,Apl,Amq,Sb,Ar0];generalize (tyL v a3).1=l at hlen ⊢;by_cases e3:a0=3
   ·subst e3;cases Arh v a1<;>rfl
   have b3:(a0 == 3)=false:=beq_false_of_ne e3;by_cases e22:a0>=22
   ·simp only[e3,e22,b3,cond_false,if_false,decide_true,cond_true,if_true,ge_iff_le];cases A7i a0 (Agb v.aF a1)<;>rfl
   simp only[e3,e22,b3,cond_false,if_false,decide_false];rcases Au0 (show l.length<=2 by omega)with rfl|⟨a,rfl⟩|⟨a,b,rfl⟩
   ·simp only[Ayq,A68,List.length_nil];by_cases e1:a0=1
    ·subst e1;rfl
    by_cases e2:a0=2
    ·subst e2;rfl
    by_cases e4:a0=4
    ·subst e4;rfl
    simp[e1,e2,e4,beq_false_of_ne e1,beq_false_of_ne e2,beq_false_of_ne e4]
   ·simp only[Ayq];by_cases hu:unT a0 a=0<;>first|(simp[hu];done)|simp[hu,beq_false_of_ne hu]
   ·simp only[Ayq];by_cases hu:A0e a0 a b=0<;>first|(simp[hu];done)|simp[hu,beq_false_of_ne hu]
  ·simp[hz,Adl]
theorem Ar7{e:Aa}(h:Bw e)(v:Ao)(hv:La v)(L:Nat)(hL:maxLen+dE e<L):O0 L v e=some (Ard v e):=by
 simp only[g0,O0,aN,aB,Aa.cp_eq,Ah3 h L hL,Sb,Ard];by_cases hc:Ou false e=0
 ·have hc':Yu false e=0:=by
   unfold Ou at hc;split at hc
   ·cases hc
   ·split at hc
    ·cases hc
    ·exact hc
  simp[hc,Ar9 h v hv L hL hc']
 ·simp[hc,ne0 hc]
theorem Azb(L:Nat)(v:Ao)(e:Aa)(hv:La v)(hs:Aan v.aF 1099511627776)(hL:maxLen<L)(h1:1<=e.Op)(h2:e.Op<=24)(ha:O3 e.Op=0):W5 L v e=some (Ar0 v e.Op e.aD []):=by
 simp only[Aig,W5,aN,aB,Aob L _ e.aD hs hL,Aza L v e.aD hv hL,He,Sb,Ar0,Ayq,A68,A7i,Qj,Agd,Agc];generalize e.Op=op at h1 h2 ha ⊢;rcases Aqb op with rfl|rfl|rfl|rfl|rfl|rfl|rfl|rfl|rfl|rfl|rfl|rfl|rfl|rfl|rfl|rfl|rfl|rfl|rfl|rfl|rfl|rfl|rfl|rfl|rfl|rfl|hop|hop
 all_goals first|(exfalso;revert ha;decide)|(exfalso;omega)|skip
 ·rfl
 ·rfl
 ·cases Arh v e.aD<;>rfl
 ·rfl
 ·by_cases h:Agb v.aF e.aD=⟨#[114,101,115,111,117,114,99,101]⟩<;>simp[h]
 ·by_cases h:Agb v.aF e.aD=⟨#[115,116,111,114,101]⟩<;>simp[h]
 ·by_cases h:Agb v.aF e.aD=⟨#[114,101,115,111,117,114,99,101]⟩
  ·simp[h]
  ·by_cases h':Agb v.aF e.aD=⟨#[113,117,101,117,101]⟩<;>simp[h,h']
theorem Awm{e:Aa}(h:Bw e)(v:Ao)(hv:La v)(hs:Aan v.aF 1099511627776):∀L,maxLen+dE e<L->Yu false e=0->J0 L v e=some (tyE v e):=by
 induction h with
 |mk a0 a1 a2 a3 h0 h1 h2 h3 h4 ih=>
  intro L hL hc;obtain⟨L,rfl⟩:∃k,L=k+1:=⟨L-1,by omega⟩;rw[dE]at hL;obtain⟨hn,hk⟩:=Aj0 hc;have hr:∀x∈a3,J0 L v x=some (tyE v x):=λx hx=>ih x hx L (by have:=Rt hx;omega) (Ajz hk x hx);obtain⟨ha,hop1,hop2⟩:=Ar1 hn;have ha2:=Axv a0;have h5:a3.length<=2:=by omega
  obtain⟨j,acc',hj⟩:=Atl (J0 L) L (.mk a0 a1 a2 a3) v a3 0 0 0 [] (by simp;omega) hr;have hM:=Di;simp only[Ans,Sl,Afd,J0,Sl,aN,aB,Aa.cp_eq,Aa.Op,Aa.aD,Aa.N,Aa.aQ,Aa.eta,Api _ _ _ (.mk a0 a1 a2 a3) L h3 (show a3.length<L by omega),hj,Sb,tyE];by_cases hz:(tyL v a3).2=0
  ·have hlen:=A3k v a3 hz;simp only[hz,ne_eq,not_true_eq_false,if_false,A1p,List.nil_append,Awn,Atd,Sb];have hlf:(a3.length:Int)=0->W5 L v (Aa.mk a0 a1 a2 a3)=some (Ar0 v a0 a1 []):=λhz=>Azb L v (.mk a0 a1 a2 a3) hv hs (by omega) hop1 hop2 (by simp only[Aa.cp_eq,Aa.Op,Aa.aD,Aa.N,Aa.aQ,Aa.eta];omega);generalize (tyL v a3).1=l at hlen ⊢;rcases Au0 (show l.length<=2 by omega)with rfl|⟨a,rfl⟩|⟨a,b,rfl⟩
   ·rw[hlf (by simp at hlen;omega)];rfl
   ·simp only[List.length_cons,List.length_nil]at hlen;have hn3:¬a0=3:=by rintro rfl;revert ha;simp only[<-hlen];decide
    have hn22:¬22<=a0:=by
     intro hh;have:O3 a0=0:=by unfold O3;grind
     omega
    simp only[Ar0,hn3,hn22,Ayq,if_false];by_cases hu:unT a0 a=0<;>first|(simp[hu];done)|simp[hu,beq_false_of_ne hu]
   ·simp only[List.length_cons,List.length_nil]at hlen;have hn3:¬a0=3:=by rintro rfl;revert ha;simp only[<-hlen];decide
    have hn22:¬22<=a0:=by
     intro hh;have:O3 a0=0:=by unfold O3;grind
     omega
    simp only[Ar0,hn3,hn22,Ayq,if_false];by_cases hu:A0e a0 a b=0<;>first|(simp[hu];done)|simp[hu,beq_false_of_ne hu]
  ·simp[hz,Adl]
theorem Ali{e:Aa}(hc:Ou false e=0):Yu false e=0:=by
 unfold Ou at hc;split at hc
 ·cases hc
 ·split at hc
  ·cases hc
  ·exact hc
theorem Ay9{e:Aa}(h:Bw e)(v:Ao)(hv:La v)(hs:Aan v.aF 1099511627776)(L:Nat)(hL:maxLen+dE e<L):Acn L v e=some (Ard v e):=by
 simp only[Aie,Acn,aN,aB,Aa.cp_eq,Awh h L hL,Sb,Ard];by_cases hc:Ou false e=0
 ·simp[hc,Awm h v hv hs L hL (Ali hc)]
 ·simp[hc,ne0 hc]
theorem A7a(s:Ab):Aan s (Ps s):=by
 unfold Aan Ps;have h0:s.aX.length<=Iy Nl s.aX:=Pl λx=>by unfold Nl;omega
 have h1:s.aI.length<=Iy Iq s.aI:=Pl λx=>by unfold Iq;omega
 have h2:s.aJ.length<=Iy Kq s.aJ:=Pl λx=>by unfold Kq;omega
 have h3:s.aZ.length<=Iy Lp s.aZ:=Pl λx=>by unfold Lp;omega
 have h4:s.aV.length<=Iy (λz:Yb=>z.size+1) s.aV:=Pl λx=>by omega
 have h5:s.aR.length<=Iy (λz:Yb=>z.size+1) s.aR:=Pl λx=>by omega
 have h6:s.aS.length<=Iy (λz:Yb=>z.size+1) s.aS:=Pl λx=>by omega
 have h7:s.aW.length<=Iy (λz:Yb=>z.size+1) s.aW:=Pl λx=>by omega
 have h8:s.aT.length<=Iy (λz:Yb=>z.size+1) s.aT:=Pl λx=>by omega
 have h9:s.aG.length<=Iy Mz s.aG:=Pl λx=>by unfold Mz;omega
 refine⟨?_,?_,?_,?_,?_,?_,?_,?_,?_,?_⟩<;>omega
theorem Aan.mono{s:Ab}{m n:Nat}(h:Aan s m)(hm:m<=n):Aan s n:=by
 obtain⟨h0,h1,h2,h3,h4,h5,h6,h7,h8,h9⟩:=h;exact⟨by omega,by omega,by omega,by omega,by omega,by omega,by omega,by omega,by omega,by omega⟩
mutual
theorem Be4:∀e:Aa,dE e<=Bx e
 | .mk a b c k=>by
  rw[dE,Bx];have:=A6a k;omega
theorem A6a:∀k:List Aa,dEs k<=Ds k
 | []=>by simp[dEs]
 |x::k=>by
  rw[dEs,Ds];have:=Be4 x;have:=A6a k;omega
end
end Go.Proofs.YtgacplpjamkieaaGreat.Ev
