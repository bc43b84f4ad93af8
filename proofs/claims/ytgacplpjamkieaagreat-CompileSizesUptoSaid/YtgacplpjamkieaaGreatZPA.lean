/-  Chapter 7, plainly: names. -/
import Derived.Test.YtgacplpjamkieaaGreatZQA
import Derived.Test.YtgacplpjamkieaaGreatZR0
set_option maxRecDepth 100000
set_option linter.unusedVariables false
set_option linter.unusedSimpArgs false
set_option linter.unnecessarySimpa false
namespace Go.Proofs.YtgacplpjamkieaaGreat.Ev
open Go An
def Aw9(z:Int):Bool:=decide (97<=z) && decide (z<=122)
def okZ(z:Int):Bool:=Aw9 z || z == 95 || (decide (48<=z) && decide (z<=57))
def Aup(a:Yb)(i:Nat):Int:=Ni a[i]?
def Ad0(a:Yb):Nat->Nat->Bool
 |_,0=>true
 |i,m+1=>okZ (Aup a i) && Ad0 a (i+1) m
def kws:List Yb:= [(⟨#[97,100,100]⟩:Yb),(⟨#[97,102,116,101,114]⟩:Yb),(⟨#[97,110,100]⟩:Yb),(⟨#[97,116]⟩:Yb),(⟨#[98,101,108,116]⟩:Yb),(⟨#[98,111,111,108]⟩:Yb),(⟨#[99,111,110,115,101,114,118,101]⟩:Yb),(⟨#[99,111,110,115,116]⟩:Yb),(⟨#[99,111,117,110,116]⟩:Yb),(⟨#[99,121,99,108,101]⟩:Yb),(⟨#[100,111,119,110]⟩:Yb),(⟨#[100,114,97,119]⟩:Yb),(⟨#[100,117,114]⟩:Yb),(⟨#[101,108,115,101]⟩:Yb),(⟨#[101,110,100]⟩:Yb),(⟨#[101,118,101,114,121]⟩:Yb),(⟨#[102,97,108,115,101]⟩:Yb),(⟨#[102,97,117,108,116]⟩:Yb),(⟨#[102,105,102,111]⟩:Yb),(⟨#[102,114,101,101]⟩:Yb),(⟨#[102,114,111,109]⟩:Yb),(⟨#[103,101,111,109]⟩:Yb),(⟨#[103,101,116]⟩:Yb),(⟨#[104,111,108,100]⟩:Yb),(⟨#[105,102]⟩:Yb),(⟨#[105,110,116]⟩:Yb),(⟨#[105,110,116,111]⟩:Yb),(⟨#[108,101,97,115,116]⟩:Yb),(⟨#[108,101,118,101,108]⟩:Yb),(⟨#[108,105,102,111]⟩:Yb),(⟨#[108,105,110,107]⟩:Yb),(⟨#[108,111,99,97,108]⟩:Yb),(⟨#[109,97,120]⟩:Yb),(⟨#[109,105,110]⟩:Yb),(⟨#[109,111,100,101,108]⟩:Yb),(⟨#[110,111,116]⟩:Yb),(⟨#[110,111,119]⟩:Yb),(⟨#[111,98,115,101,114,118,101]⟩:Yb),(⟨#[111,114]⟩:Yb),(⟨#[112,97,114,97,109]⟩:Yb),(⟨#[112,114,101,101,109,112,116]⟩:Yb),(⟨#[112,114,105,111]⟩:Yb),(⟨#[112,117,116]⟩:Yb),(⟨#[113,117,101,117,101]⟩:Yb),(⟨#[114,101,108,101,97,115,101]⟩:Yb),(⟨#[114,101,115,111,117,114,99,101]⟩:Yb),(⟨#[114,105,100,101]⟩:Yb),(⟨#[114,111,117,116,105,110,101]⟩:Yb),(⟨#[115,101,105,122,101]⟩:Yb),(⟨#[115,101,110,100]⟩:Yb),(⟨#[115,101,116]⟩:Yb),(⟨#[115,104,105,102,116]⟩:Yb),(⟨#[115,105,103,110,97,108]⟩:Yb),(⟨#[115,105,116,101]⟩:Yb),(⟨#[115,105,122,101]⟩:Yb),(⟨#[115,112,97,119,110]⟩:Yb),(⟨#[115,116,97,114,116]⟩:Yb),(⟨#[115,116,111,112]⟩:Yb),(⟨#[115,116,111,114,101]⟩:Yb),(⟨#[115,116,114,101,97,109]⟩:Yb),(⟨#[115,117,109]⟩:Yb),(⟨#[116,97,98,108,101]⟩:Yb),(⟨#[116,97,108,108,121]⟩:Yb),(⟨#[116,105,99,107,115]⟩:Yb),(⟨#[116,105,109,101]⟩:Yb),(⟨#[116,114,117,101]⟩:Yb),(⟨#[117,110,105,102,111,114,109]⟩:Yb),(⟨#[117,110,116,105,108]⟩:Yb),(⟨#[117,112]⟩:Yb),(⟨#[118,97,114]⟩:Yb),(⟨#[119,97,105,116]⟩:Yb),(⟨#[119,97,105,116,105,110,103]⟩:Yb),(⟨#[119,104,105,108,101]⟩:Yb)]
def Aoo(s:Yb):Bool:=kws.any λw=>decide (s=w)
def Avo(s:Yb):Bool:=decide (1<=s.size) && decide (s.size<=24) && Aw9 (Aup s 0) && !Aoo s && Ad0 s 0 s.size
def V7(s:Yb):Int:=bif Avo s then 0 else 3
theorem Ab0(L:Nat)(z:Int):T4 L z=some (Aw9 z):=by
 simp only[Adf,T4,aN,aB,Aw9,Og]
theorem Bjb{c b:Bool}{X:Option Bool}(h:X=some b):(bif c then(bif c then some true else some false)else X)=some (c || b):=by cases c<;>simp[h]
theorem Bms{c b:Bool}{X:Option Bool}(h:X=some b):(bif c then some true else X)=some (c || b):=by cases c<;>simp[h]
set_option maxRecDepth 10000 in
theorem Arm(L:Nat)(s:Yb):Wl L s=some (Aoo s):=by
 simp only[Abg,Wl,aN,aB,Ib,Aoo,kws,List.any_cons,List.any_nil]
 repeat (first|exact Bjb rfl|refine Bjb ?_|refine Bms ?_)
 rfl
theorem Btb(L:Nat)(a:Yb)(hs:a.size<=maxLen):∀(m i n:Nat) (v:Int),i+m=a.size->m<n->
  ∃j,Kx L a n v i=some (bif Ad0 a i m then(1,(v,j)) else(0,(3,j))):=by
 intro m
 induction m with
 |zero=>
  intro i n v hi hn;obtain⟨n,rfl⟩:∃k,n=k+1:=⟨n-1,by omega⟩;exact⟨i,by simp only[Kx,Qu,aN,aB,Ad0,I5 (show a.size<=i by omega),cond_true,cond_false]⟩
 |succ m ih=>
  intro i n v hi hn;obtain⟨n,rfl⟩:∃k,n=k+1:=⟨n-1,by omega⟩;have hlt:i<a.size:=by omega
  obtain⟨j,hj⟩:=ih (i+1) n v (by omega) (by omega);have hb:=Bs0 hlt;cases hc:okZ (Aup a i) with
  |true=>
   refine⟨j,?_⟩;have e:Ad0 a i (m+1)=Ad0 a (i+1) m:=by simp only[Ad0,hc,Bool.true_and]
   simp only[Kx,Qu,aN,aB,I4 hlt,nn,toN,if_true,hb,cond_true,Ab0,Ju,B2 hlt hs,hj,e,Og,Tc];rw[show((!Aw9 (Ni a[i]?) && (decide (Ni a[i]? < 48) || decide (Ni a[i]? > 57))) && Ni a[i]? != 95)=false from ?_]
   ·rfl
   ·revert hc;unfold okZ Aup
    generalize Ni a[i]? =z;cases Aw9 z<;>simp<;>omega
  |false=>
   refine⟨i,?_⟩;have e:Ad0 a i (m+1)=false:=by simp only[Ad0,hc,Bool.false_and]
   simp only[Kx,Qu,aN,aB,I4 hlt,nn,toN,if_true,hb,cond_true,Ab0,Ju,B2 hlt hs,hj,e,Og,Tc];rw[show((!Aw9 (Ni a[i]?) && (decide (Ni a[i]? < 48) || decide (Ni a[i]? > 57))) && Ni a[i]? != 95)=true from ?_]
   ·rfl
   ·revert hc;unfold okZ Aup
    generalize Ni a[i]? =z;cases Aw9 z<;>simp<;>omega
theorem Uc(L:Nat)(s:Yb)(hs:okS s)(hL:s.size<L):Dk L s=some (V7 s):=by
 obtain⟨j,hj⟩:=Btb L s hs s.size 0 L 0 (by omega) hL;have e0:decide ((s.size:Int)>24)= !decide (s.size<=24):=by
  by_cases h:s.size<=24
  ·rw[decide_eq_false (by omega),decide_eq_true h];rfl
  ·rw[decide_eq_true (by omega),decide_eq_false h];rfl
 simp only[Al6,V1,Vk,Dk,V1,Vk,aN,aB,Ib,A7r,Ab0,Arm,Ju,Ps,Tc,e0];by_cases h0:s.size=0
 ·have:Avo s=false:=by unfold Avo;rw[decide_eq_false (show¬1<=s.size by omega)];rfl
  simp[h0,V7,this]
 ·have hb:=Bs0 (show 0<s.size by omega);have e1:Avo s=(decide (s.size<=24) && Aw9 (Aup s 0) && !Aoo s && Ad0 s 0 s.size):=by unfold Avo;rw[decide_eq_true (show 1<=s.size by omega)];rfl
  simp only[Int.ofNat_zero,Int.natCast_zero]at hj;simp only[h0,decide_false,Bool.false_or,Int.le_refl,Nat.le_refl,if_true,Int.toNat_zero,hb,cond_true,hj,Ju,V7,e1,Aup];cases decide (s.size<=24)<;>cases Aw9 (Ni s[0]?)<;>cases Aoo s<;>cases Ad0 s 0 s.size<;>rfl
mutual
def dE:Aa->Nat
 | .mk _ _ _ k=>dEs k+1
def dEs:List Aa->Nat
 | []=>0
 |x::k=>max (dE x) (dEs k)
end
theorem Ah9{x:Aa}{k:List Aa}(h:x∈k):dE x<=dEs k:=by
 induction k with
 |nil=>cases h
 |cons a k ih=>
  rw[dEs];rcases List.mem_cons.1 h with rfl|h
  ·omega
  ·have:=ih h;omega
mutual
def Am4:Aa->Int
 | .mk _ _ _ k=>A0n k 1
def A0n:List Aa->Int->Int
 | [],n=>n
 |x::k,n=>A0n k (Bb (n+Am4 x))
end
mutual
def Aia:Aa->Int
 | .mk _ _ _ k=>Bb (Azu k 0+1)
def Azu:List Aa->Int->Int
 | [],n=>n
 |x::k,n=>Azu k (if Aia x>n then Aia x else n)
end
def Asd(op:Int):Int:=
 if op=1\/op=2\/op=3\/op=4 then 0 else if 5<=op/\op<=8 then 1 else if 9<=op/\op<=21 then 2 else if 22<=op/\op<=26 then 0 else -1
def A7f(op:Int):Bool:=decide (22<=op) && decide (op<=24)
def inZ(n:Int):Bool:=decide (-1000000000000<=n) && decide (n<=1000000000000)
def At7(c:Bool)(op:Int):Bool:=if op=3 then !c else if op=25\/op=26 then c else decide (0<=Asd op)
def Ao5(c:Bool)(op:Int):Bool:=op == 3 || (A7f op && !c)
def A0l(c:Bool)(op:Int):Option Int:=if op=2 then some 1 else if op=25 then some 15 else if op=26 then some 31 else if A7f op && c then some 63 else none
def Aoa(c:Bool)(e:Aa):Bool:= !At7 c e.Op || decide ((e.bJ.length:Int)≠Asd e.Op) || (!decide (e.aG=⟨#[]⟩) && !Ao5 c e.Op)
def Asv(c:Bool)(e:Aa):Int:=
 if Aoa c e=true then 1
 else if e.Op=1 then(if inZ e.N then 0 else 2)
 else match A0l c e.Op with
  |none=>if e.N≠0 then 1 else if Ao5 c e.Op then V7 e.aG else 0
  |some hi=>if e.N<0\/hi<e.N then 2 else if Ao5 c e.Op then V7 e.aG else 0
mutual
def Ap6(c:Bool):Aa->Int
 | .mk op nm n k=>if Asv c (.mk op nm n k)≠0 then Asv c (.mk op nm n k)else Aw6 c k
def Aw6(c:Bool):List Aa->Int
 | []=>0
 |x::k=>if Ap6 c x≠0 then Ap6 c x else Aw6 c k
end
def N5(c:Bool)(e:Aa):Int:=if Am4 e>60 then 6 else if Aia e>12 then 11 else Ap6 c e
theorem Bhi(op:Int):op=1\/op=2\/op=3\/op=4\/op=5\/op=6\/op=7\/op=8\/op=9\/op=10\/op=11\/op=12\/op=13\/op=14\/op=15\/op=16\/op=17\/op=18\/op=19\/op=20\/op=21\/op=22\/op=23\/op=24\/op=25\/op=26\/op<1\/26<op:=by omega
theorem Ao7(L:Nat)(op:Int):Xz L op=some (Asd op):=by
 simp only[Aj5,Xz,aN,aB,Asd,Og,Tc,Ps]
 congr 1
 grind
theorem Akz(L:Nat)(op:Int):Wc L op=some (A7f op):=by
 simp only[Ae9,Wc,aN,aB,A7f,Og]
theorem Am8(L:Nat)(k:Bu)(op:Int):Ta L k op=some (At7 k.bT op):=by
 simp only[Yl,Ta,aN,aB,At7,Ao7,Ju,Ps]
 congr 1
 grind
theorem Am9(L:Nat)(k:Bu)(op:Int):Ly L k op=some (Ao5 k.bT op):=by
 simp only[Ym,Ly,aN,aB,Ao5,Akz,Ju,Ps,Tc,Og]
theorem Arn(L:Nat)(n:Int):Ac9 L n=some (inZ n):=by
 simp only[Aui,Ac9,aN,aB,inZ,Og]
theorem Aky(L:Nat)(k:Bu)(op:Int):M7 L k op=some (match A0l k.bT op with|some hi=>(0,hi,true)|none=>(0,0,false)):=by
 simp only[V9,M7,aN,aB,A0l,Akz,Ju,Ps,Og]
 congr 1
 grind
theorem Ao8(L:Nat)(k:Bu)(e:Aa)(hn:okS e.aG)(hL:e.aG.size<L):Ug L k e=some (Asv k.bT e):=by
 simp only[Z1,Ug,aN,aB,Am8,Ao7,Am9,Arn,Aky,Ju,Uc L e.aG hn hL,Ps,Ib,Og,Tc,Asv,Aoa]
 congr 1
 cases A0l k.bT e.Op<;>grind
theorem Av7(Bjl:Aa->Option Int)(L:Nat)(a0:Aa):∀(k:List Aa) (i:Nat) (v:Int),(∀x∈k,Bjl x=some (Am4 x))->∃j,My Bjl L a0 k i v=some (0,(A0n k v,j)):=by
 intro k
 induction k with
 |nil=>intro i v _;exact⟨_,rfl⟩
 |cons x k ih=>
  intro i v h;obtain⟨j,hj⟩:=ih (i+1) (Bb (v+Am4 x)) λy hy=>h y (by simp[hy]);exact⟨j,by simp only[My,h x (by simp),Ju,hj,A0n]⟩
theorem Axg{e:Aa}(h:Co e):∀L,maxLen+dE e<L->Nc L e=some (Am4 e):=by
 induction h with
 |mk a0 a1 a2 a3 h0 h1 h2 h3 h4 ih=>
  intro L hL;obtain⟨L,rfl⟩:∃k,L=k+1:=⟨L-1,by omega⟩;rw[dE]at hL;have hr:∀x∈a3,Nc L x=some (Am4 x):=λx hx=>ih x hx L (by have:=Ah9 hx;omega);obtain⟨j,hj⟩:=Av7 (Nc L) L (.mk a0 a1 a2 a3) a3 0 1 hr;simp only[Anx,W8,Ahs,Nc,W8,aN,aB,Aa.cp_eq,Aa.Op,Aa.aG,Aa.N,Aa.bJ,Aa.eta,Aqy _ _ (.mk a0 a1 a2 a3) _ h3 (show a3.length<L by omega),hj,Ju,Sc,Am4]
theorem Av6(Jq:Aa->Option Int)(L:Nat)(a0:Aa):∀(k:List Aa) (i:Nat) (v:Int),(∀x∈k,Jq x=some (Aia x))->∃j,Mx Jq L a0 k i v=some (0,(Azu k v,j)):=by
 intro k
 induction k with
 |nil=>intro i v _;exact⟨_,rfl⟩
 |cons x k ih=>
  intro i v h;obtain⟨j,hj⟩:=ih (i+1) (if Aia x>v then Aia x else v) λy hy=>h y (by simp[hy]);exact⟨j,by simp only[Mx,h x (by simp),Ju,hj,Azu]⟩
theorem Axf{e:Aa}(h:Co e):∀L,maxLen+dE e<L->Nb L e=some (Aia e):=by
 induction h with
 |mk a0 a1 a2 a3 h0 h1 h2 h3 h4 ih=>
  intro L hL;obtain⟨L,rfl⟩:∃k,L=k+1:=⟨L-1,by omega⟩;rw[dE]at hL;have hr:∀x∈a3,Nb L x=some (Aia x):=λx hx=>ih x hx L (by have:=Ah9 hx;omega);obtain⟨j,hj⟩:=Av6 (Nb L) L (.mk a0 a1 a2 a3) a3 0 0 hr;simp only[Anw,W7,Ahr,Nb,W7,aN,aB,Aa.cp_eq,Aa.Op,Aa.aG,Aa.N,Aa.bJ,Aa.eta,Aqx _ _ (.mk a0 a1 a2 a3) _ h3 (show a3.length<L by omega),hj,Ju,Sc,Aia]
theorem Alx(Jr:Bu->Aa->Option Int)(L:Nat)(a1:Aa)(c:Bu):∀(k:List Aa) (i:Nat) (v:Int),(∀x∈k,Jr c x=some (Ap6 c.bT x))->∃j,F9 Jr L a1 c k i v=some (bif Aw6 c.bT k != 0 then(0,(Aw6 c.bT k,j)) else(1,(v,j))):=by
 intro k
 induction k with
 |nil=>intro i v _;exact⟨i,rfl⟩
 |cons x k ih=>
  intro i v h;obtain⟨j,hj⟩:=ih (i+1) v λy hy=>h y (by simp[hy]);by_cases hx:Ap6 c.bT x=0
  ·exact⟨j,by simp[F9,h x (by simp),hj,Aw6,hx]⟩
  ·exact⟨(i:Int),by simp[F9,h x (by simp),hj,Aw6,hx,Zs hx]⟩
theorem Ana{e:Aa}(h:Co e)(c:Bu):∀L,maxLen+dE e<L->Gp L c e=some (Ap6 c.bT e):=by
 induction h with
 |mk a0 a1 a2 a3 h0 h1 h2 h3 h4 ih=>
  intro L hL;obtain⟨L,rfl⟩:∃k,L=k+1:=⟨L-1,by omega⟩;rw[dE]at hL;have hr:∀x∈a3,Gp L c x=some (Ap6 c.bT x):=λx hx=>ih x hx L (by have:=Ah9 hx;omega);obtain⟨j,hj⟩:=Alx (Gp L) L (.mk a0 a1 a2 a3) c a3 0 0 hr;have h1':a1.size<=maxLen:=h1;simp only[Aeh,Pz,Px,Ya,Gp,Pz,Px,aN,aB,Aa.cp_eq,Aa.Op,Aa.aG,Aa.N,Aa.bJ,Aa.eta,Ao8 L c (.mk a0 a1 a2 a3) h1 (show a1.size<L by omega),Aji _ _ (.mk a0 a1 a2 a3) _ _ h3 (show a3.length<L by omega),hj,Ju,Ap6];by_cases h:Asv c.bT (.mk a0 a1 a2 a3)=0
  ·by_cases h':Aw6 c.bT a3=0
   ·simp[h,h',Sc,Ze]
   ·simp[h,h',Sc,Ze,Zs h']
  ·simp[h,Zs h]
theorem Am7{e:Aa}(h:Co e)(c:Bu)(L:Nat)(hL:maxLen+dE e<L):S9 L c e=some (N5 c.bT e):=by
 simp only[Yk,S9,aN,aB,Aa.cp_eq,Axg h L hL,Axf h L hL,Ana h c L hL,Ju,Ps,N5]
 congr 1
 grind
theorem Aaj{e:Aa}(h:Co e)(L:Nat)(hL:maxLen+dE e<L):O0 L e=some (N5 false e):=by
 simp only[Ahy,O0,aN,aB,Aa.cp_eq,Am7 h _ L hL,Ju]
theorem Aok{α :Type}(l:List α)(p: α->Bool):decide (P7 (l.findIdx? p)>=0)=l.any p:=by
 have h:=List.findIdx?_isSome (xs:=l) (p:=p);rw[<-h];cases l.findIdx? p with
 |none=>rfl
 |some i=>simp[P7]
def Bbt:Yb:=⟨#[118,97,114]⟩
def T8:Yb:=⟨#[114,101,115,111,117,114,99,101]⟩
def Agq:Yb:=⟨#[115,116,111,114,101]⟩
def Az8:Yb:=⟨#[98,101,108,116]⟩
def Agp:Yb:=⟨#[113,117,101,117,101]⟩
def Aqq:Yb:=⟨#[115,116,114,101,97,109]⟩
def Aop:Yb:=⟨#[116,97,108,108,121]⟩
def Avg:Yb:=⟨#[108,101,118,101,108]⟩
def Avf:Yb:=⟨#[99,111,117,110,116]⟩
def Avh:Yb:=⟨#[114,111,117,116,105,110,101]⟩
theorem Atp(L:Nat)(l:List Ai)(s:Ac)(n:Yb):∀(k:List Ai) (i:Nat) (v:Int),K3 L l s n k i v=some (match k.findIdx? (λx=>x.aG.toList == n.toList) with|some j=>(0,(((i+j:Nat):Int),((i+j:Nat):Int)))|none=>(1,(v,((i+k.length:Nat):Int)))):=by
 intro k
 induction k with
 |nil=>intro i v;rfl
 |cons x k ih=>
  intro i v;rw[K3,ih,List.findIdx?_cons];cases hc:(λx=>x.aG.toList == n.toList) x with
  |true=>simp only[hc,cond_true,if_true];rfl
  |false=>
   simp only[hc,cond_false,if_false,Bool.false_eq_true];cases k.findIdx? (λx=>x.aG.toList == n.toList) with
   |some j=>simp[Nat.add_assoc,Nat.add_comm 1]
   |none=>simp[Nat.add_assoc,Nat.add_comm 1]
theorem Als(L:Nat)(l:List Ai)(s:Ac)(n:Yb)(hl:l.length<=maxLen)(hL:l.length<L):Un L l s n=some (P7 (l.findIdx? (λx=>decide (x.aG=n)))):=by
 simp only[Un,Af9,q9,aN,aB,Aow _ _ _ _ _ hl hL,Atp,Ib,Ju];cases l.findIdx? (λx=>decide (x.aG=n)) with
 |none=>rfl
 |some i=>simp[P7,Sc]
theorem Atq(L:Nat)(l:List Ah)(s:Ac)(n:Yb):∀(k:List Ah) (i:Nat) (v:Int),K4 L l s n k i v=some (match k.findIdx? (λx=>x.aG.toList == n.toList) with|some j=>(0,(((i+j:Nat):Int),((i+j:Nat):Int)))|none=>(1,(v,((i+k.length:Nat):Int)))):=by
 intro k
 induction k with
 |nil=>intro i v;rfl
 |cons x k ih=>
  intro i v;rw[K4,ih,List.findIdx?_cons];cases hc:(λx=>x.aG.toList == n.toList) x with
  |true=>simp only[hc,cond_true,if_true];rfl
  |false=>
   simp only[hc,cond_false,if_false,Bool.false_eq_true];cases k.findIdx? (λx=>x.aG.toList == n.toList) with
   |some j=>simp[Nat.add_assoc,Nat.add_comm 1]
   |none=>simp[Nat.add_assoc,Nat.add_comm 1]
theorem Alt(L:Nat)(l:List Ah)(s:Ac)(n:Yb)(hl:l.length<=maxLen)(hL:l.length<L):Uo L l s n=some (P7 (l.findIdx? (λx=>decide (x.aG=n)))):=by
 simp only[Uo,Aga,s8,aN,aB,Aox _ _ _ _ _ hl hL,Atq,Ib,Ju];cases l.findIdx? (λx=>decide (x.aG=n)) with
 |none=>rfl
 |some i=>simp[P7,Sc]
theorem Atr(L:Nat)(l:List Ao)(s:Ac)(n:Yb):∀(k:List Ao) (i:Nat) (v:Int),K5 L l s n k i v=some (match k.findIdx? (λx=>x.aG.toList == n.toList) with|some j=>(0,(((i+j:Nat):Int),((i+j:Nat):Int)))|none=>(1,(v,((i+k.length:Nat):Int)))):=by
 intro k
 induction k with
 |nil=>intro i v;rfl
 |cons x k ih=>
  intro i v;rw[K5,ih,List.findIdx?_cons];cases hc:(λx=>x.aG.toList == n.toList) x with
  |true=>simp only[hc,cond_true,if_true];rfl
  |false=>
   simp only[hc,cond_false,if_false,Bool.false_eq_true];cases k.findIdx? (λx=>x.aG.toList == n.toList) with
   |some j=>simp[Nat.add_assoc,Nat.add_comm 1]
   |none=>simp[Nat.add_assoc,Nat.add_comm 1]
theorem Alu(L:Nat)(l:List Ao)(s:Ac)(n:Yb)(hl:l.length<=maxLen)(hL:l.length<L):Uq L l s n=some (P7 (l.findIdx? (λx=>decide (x.aG=n)))):=by
 simp only[Uq,Agb,u5,aN,aB,Aoy _ _ _ _ _ hl hL,Atr,Ib,Ju];cases l.findIdx? (λx=>decide (x.aG=n)) with
 |none=>rfl
 |some i=>simp[P7,Sc]
theorem Ats(L:Nat)(l:List Ar)(s:Ac)(n:Yb):∀(k:List Ar) (i:Nat) (v:Int),K6 L l s n k i v=some (match k.findIdx? (λx=>x.aG.toList == n.toList) with|some j=>(0,(((i+j:Nat):Int),((i+j:Nat):Int)))|none=>(1,(v,((i+k.length:Nat):Int)))):=by
 intro k
 induction k with
 |nil=>intro i v;rfl
 |cons x k ih=>
  intro i v;rw[K6,ih,List.findIdx?_cons];cases hc:(λx=>x.aG.toList == n.toList) x with
  |true=>simp only[hc,cond_true,if_true];rfl
  |false=>
   simp only[hc,cond_false,if_false,Bool.false_eq_true];cases k.findIdx? (λx=>x.aG.toList == n.toList) with
   |some j=>simp[Nat.add_assoc,Nat.add_comm 1]
   |none=>simp[Nat.add_assoc,Nat.add_comm 1]
theorem Alv(L:Nat)(l:List Ar)(s:Ac)(n:Yb)(hl:l.length<=maxLen)(hL:l.length<L):Ur L l s n=some (P7 (l.findIdx? (λx=>decide (x.aG=n)))):=by
 simp only[Ur,Agc,Za,aN,aB,Aoz _ _ _ _ _ hl hL,Ats,Ib,Ju];cases l.findIdx? (λx=>decide (x.aG=n)) with
 |none=>rfl
 |some i=>simp[P7,Sc]
theorem Apg(L:Nat)(l:List Al)(s:Ac)(n:Yb):∀(k:List Al) (i:Nat) (v:Int),It L l s n k i v=some (match k.findIdx? (λx=>x.aG.toList == n.toList) with|some j=>(0,(((i+j:Nat):Int),((i+j:Nat):Int)))|none=>(1,(v,((i+k.length:Nat):Int)))):=by
 intro k
 induction k with
 |nil=>intro i v;rfl
 |cons x k ih=>
  intro i v;rw[It,ih,List.findIdx?_cons];cases hc:(λx=>x.aG.toList == n.toList) x with
  |true=>simp only[hc,cond_true,if_true];rfl
  |false=>
   simp only[hc,cond_false,if_false,Bool.false_eq_true];cases k.findIdx? (λx=>x.aG.toList == n.toList) with
   |some j=>simp[Nat.add_assoc,Nat.add_comm 1]
   |none=>simp[Nat.add_assoc,Nat.add_comm 1]
theorem Ajj(L:Nat)(l:List Al)(s:Ac)(n:Yb)(hl:l.length<=maxLen)(hL:l.length<L):R3 L l s n=some (P7 (l.findIdx? (λx=>decide (x.aG=n)))):=by
 simp only[R3,Ads,Xu,aN,aB,Alq _ _ _ _ _ hl hL,Apg,Ib,Ju];cases l.findIdx? (λx=>decide (x.aG=n)) with
 |none=>rfl
 |some i=>simp[P7,Sc]
theorem Ags(L:Nat)(l:List Yb)(n:Yb):∀(k:List Yb) (i:Nat) (v:Int),Ey L l n k i v=some (match k.findIdx? (λx=>n.toList == x.toList) with|some j=>(0,(((i+j:Nat):Int),((i+j:Nat):Int)))|none=>(1,(v,((i+k.length:Nat):Int)))):=by
 intro k
 induction k with
 |nil=>intro i v;rfl
 |cons x k ih=>
  intro i v;rw[Ey,ih,List.findIdx?_cons];cases hc:(λx=>n.toList == x.toList) x with
  |true=>simp only[hc,cond_true,if_true];rfl
  |false=>
   simp only[hc,cond_false,if_false,Bool.false_eq_true];cases k.findIdx? (λx=>n.toList == x.toList) with
   |some j=>simp[Nat.add_assoc,Nat.add_comm 1]
   |none=>simp[Nat.add_assoc,Nat.add_comm 1]
theorem Hl(L:Nat)(l:List Yb)(n:Yb)(hl:l.length<=maxLen)(hL:l.length<L):D0 L l n=some (P7 (l.findIdx? (λx=>decide (n=x)))):=by
 simp only[D0,Zv,P5,aN,aB,Aec _ _ _ _ hl hL,Ags,Ib,Ju];cases l.findIdx? (λx=>decide (n=x)) with
 |none=>rfl
 |some i=>simp[P7,Sc]
def Aa8(s:Ac)(n:Yb):Int:=P7 (s.aA.findIdx? λx=>decide (x.aG=n))
theorem Hk(L:Nat)(s:Ac)(n:Yb)(hl:s.aA.length<=maxLen)(hL:s.aA.length<L):Ej L s n=some (Aa8 s n):=by
 simp only[Ai1,R9,Ej,R9,aN,aB,Ajj L _ s n hl hL,Ju,Aa8]
def Anf(s:Ac)(n:Yb):Yb×Int:=
 bif s.bG.any (λx=>decide (x.aG=n)) then(Bbt,P7 (s.bG.findIdx? λx=>decide (x.aG=n)))
 else bif s.aM.any (λx=>decide (x.aG=n)) then(T8,P7 (s.aM.findIdx? λx=>decide (x.aG=n)))
 else bif s.aO.any (λx=>decide (x.aG=n)) then(Agq,P7 (s.aO.findIdx? λx=>decide (x.aG=n)))
 else bif s.bH.any (λx=>decide (x.aG=n)) then(Az8,P7 (s.bH.findIdx? λx=>decide (x.aG=n)))
 else bif s.aX.any (λx=>decide (n=x)) then(Agp,P7 (s.aX.findIdx? λx=>decide (n=x)))
 else bif s.aR.any (λx=>decide (n=x)) then(Aqq,P7 (s.aR.findIdx? λx=>decide (n=x)))
 else bif s.aT.any (λx=>decide (n=x)) then(Aop,P7 (s.aT.findIdx? λx=>decide (n=x)))
 else bif s.bA.any (λx=>decide (n=x)) then(Avg,P7 (s.bA.findIdx? λx=>decide (n=x)))
 else bif s.aU.any (λx=>decide (n=x)) then(Avf,P7 (s.aU.findIdx? λx=>decide (n=x)))
 else bif s.aA.any (λx=>decide (x.aG=n)) then(Avh,Aa8 s n)
 else(⟨#[]⟩,-1)
def Ago(s:Ac)(n:Yb):Yb:=(Anf s n).1
def Aeb(s:Ac)(m:Nat):Prop:=s.bG.length<=m/\s.aM.length<=m/\s.aO.length<=m/\s.bH.length<=m/\s.aX.length<=m/\s.aR.length<=m/\s.aT.length<=m/\s.bA.length<=m/\s.aU.length<=m/\s.aA.length<=m
theorem Cr.len{s:Ac}(h:Cr s):Aeb s maxLen:=by
 unfold Cr at h;unfold Aeb;simp only[h,and_self]
theorem Ak0(L:Nat)(s:Ac)(n:Yb)(h:Aeb s maxLen)(hL:maxLen<L):Wd L s n=some (Anf s n):=by
 obtain⟨h0,h1,h2,h3,h4,h5,h6,h7,h8,h9⟩:=h;have hR:decide (Aa8 s n>=0)=s.aA.any (λx=>decide (x.aG=n)):=Aok _ _;simp only[Al4,s7,Vt,u4,Vu,Vb,Tx,Tn,Wd,s7,Vt,u4,Vu,Vb,Tx,Tn,aN,aB,Als L _ s n h0 (by omega),Alt L _ s n h1 (by omega),Alu L _ s n h2 (by omega),Alv L _ s n h3 (by omega),
  Hl L _ n h4 (by omega),Hl L _ n h5 (by omega),Hl L _ n h6 (by omega),Hl L _ n h7 (by omega),Hl L _ n h8 (by omega),Hk L s n h9 (by omega),
  Ju,Ps,Aok,hR,Anf]
 simp only[Bbt,T8,Agq,Az8,Agp,Aqq,Aop,Avg,Avf,Avh]
theorem Aak(L:Nat)(s:Ac)(n:Yb)(h:Aeb s maxLen)(hL:maxLen<L):Rw L s n=some (Ago s n):=by
 simp only[Ahz,Rw,aN,aB,Ak0 L s n h hL,Ju,Ago]
def Axa(l:List Ap)(s:Yb):Option Int:=(l.reverse.find? λf=>decide (f.aG=s)).map (·.bL)
def Bdb(l:List Ai)(s:Yb):Option Int:=(l.find? λx=>decide (x.aG=s)).map (·.bL)
def o2:Option Int->Int×Bool
 |some t=>(t,true)
 |none=>(0,false)
def A6z(v:Az)(s:Yb):Option Int:=match Axa v.aL s with
 |some t=>some t
 |none=>match Bdb v.aI.bG s with
  |some t=>some t
  |none=>Bdb v.aJ s
theorem Atf(L:Nat)(l:List Ap)(s:Yb)(hl:l.length<=maxLen):∀(j n:Nat),j<=l.length->j<n->
  ∃i,Jl L l s n 0 false ((j:Int)-1)=some (match (l.take j).reverse.find? (λf=>decide (f.aG=s)) with|some f=>(0,(f.bL,true,i))|none=>(1,(0,false,i))):=by
 intro j
 induction j with
 |zero=>
  intro n _ hn;obtain⟨n,rfl⟩:∃k,n=k+1:=⟨n-1,by omega⟩;exact⟨_,by simp only[Jl,Pv,aN];rfl⟩
 |succ j ih=>
  intro n hj hn;obtain⟨n,rfl⟩:∃k,n=k+1:=⟨n-1,by omega⟩;have hlt:j<l.length:=by omega
  have e0:((j+1:Nat):Int)-1=(j:Int):=by omega
  have e1:decide ((j:Int)>=0)=true:=decide_eq_true (by omega);have et:(l.take (j+1)).reverse=l.getD j default::(l.take j).reverse:=by
   rw[List.take_succ_eq_append_getElem hlt,List.reverse_append,Hj l j hlt];rfl
  obtain⟨i,hi⟩:=ih n (by omega) (by omega);rw[et];rw[List.find?_cons];cases hb:decide ((l.getD j default).aG=s) with
  |true=>exact⟨(j:Int),by simp only[Jl,Pv,aN,gD,Ib,e0,e1,nn,Ua hlt,toN,hb,cond_true,if_true,decide_true]⟩
  |false=>exact⟨i,by simp only[Jl,Pv,aN,gD,Ib,e0,e1,nn,Ua hlt,toN,hb,cond_true,cond_false,if_true,decide_true,Abd (show j<=maxLen by omega),hi]⟩
theorem Ab1(L:Nat)(l:List Ap)(s:Yb)(hl:l.length<=maxLen)(hL:l.length<L):N3 L l s=some (o2 (Axa l s)):=by
 obtain⟨i,hi⟩:=Atf L l s hl l.length L (Nat.le_refl _) hL;rw[List.take_length]at hi;simp only[Aj8,Tt,N3,Tt,aN,Abd hl,hi,Axa];cases l.reverse.find? (λf=>decide (f.aG=s))<;>rfl
theorem Atu(L:Nat)(s:Yb)(v0:Az):∀(k:List Ai) (i:Nat) (v:Int) (w:Bool),∃j,K7 L s v0 k i v w=some (match k.find? (λx=>decide (x.aG=s)) with|some x=>(0,(x.bL,true,j))|none=>(1,(v,w,j))):=by
 intro k
 induction k with
 |nil=>intro i v w;exact⟨i,rfl⟩
 |cons x k ih=>
  intro i v w;obtain⟨j,hj⟩:=ih (i+1) v w;rw[K7,List.find?_cons,Ib];cases decide (x.aG=s) with
  |true=>exact⟨i,rfl⟩
  |false=>exact⟨j,hj⟩
theorem Atv(L:Nat)(s:Yb)(v0:Az):∀(k:List Ai) (i:Nat) (v:Int) (w:Bool),∃j,K8 L s v0 k i v w=some (match k.find? (λx=>decide (x.aG=s)) with|some x=>(0,(x.bL,true,j))|none=>(1,(v,w,j))):=by
 intro k
 induction k with
 |nil=>intro i v w;exact⟨i,rfl⟩
 |cons x k ih=>
  intro i v w;obtain⟨j,hj⟩:=ih (i+1) v w;rw[K8,List.find?_cons,Ib];cases decide (x.aG=s) with
  |true=>exact⟨i,rfl⟩
  |false=>exact⟨j,hj⟩
theorem Avx(L:Nat)(v:Az)(s:Yb)(h:Ki v)(hL:maxLen<L):Aad L v s=some (o2 (A6z v s)):=by
 obtain⟨⟨h1,_⟩,⟨h2,_⟩,h3⟩:=h;have h4:=h3.len.1;obtain⟨j1,e1⟩:=Atu L s v v.aI.bG 0 0 false;obtain⟨j2,e2⟩:=Atv L s v v.aJ 0 0 false;simp only[Al7,V2,v8,V3,Vl,Aad,V2,v8,V3,Vl,aN,aB,Ab1 L _ s h2 (by omega),Ao1 L s v L h4 (by omega),Ao2 L s v L h1 (by omega),e1,Ju,A6z,Bdb];cases Axa v.aL s with
 |some t=>rfl
 |none=>
  simp only[o2,cond_false];cases v.aI.bG.find? (λx=>decide (x.aG=s)) with
  |some t=>rfl
  |none=>
   simp only[Ze,e2,Ju,Option.map_none];cases v.aJ.find? (λx=>decide (x.aG=s))<;>rfl
def A0j(t:Int):Bool:=t == 1 || t == 3
def unT(op a:Int):Int:=if(op=5/\A0j a=true)\/(op=6/\a=2)then a else if op=7/\a=1 then 3 else if op=8/\a=3 then 1 else 0
def Be2(op a b:Int):Int:=
 if op=9\/op=10\/op=13\/op=20\/op=21 then(if a=b/\A0j a=true then a else 0)
 else if op=11 then(if a=1/\b=1 then 1 else if A0j a=true/\A0j b=true/\a≠b then 3 else 0)
 else if op=12 then(if(a=1/\b=1)\/(a=3/\b=3)then 1 else if a=3/\b=1 then 3 else 0)
 else if op=14\/op=15 then(if a=b then 2 else 0)
 else if op=16\/op=17 then(if a=b/\A0j a=true then 2 else 0)
 else if op=18\/op=19 then(if a=2/\b=2 then 2 else 0)
 else 0
def Bhd(op:Int)(k:Yb):Bool:=if op=22 then decide (k=T8)else if op=23 then decide (k=Agq)else decide (k=T8) || decide (k=Agp)
theorem Ad2(L:Nat)(t:Int):H1 L t=some (A0j t):=by
 simp only[Yn,H1,aN,aB,Tc,A0j]
theorem Atl(L:Nat)(op a:Int):Yh L op a=some (unT op a):=by
 simp only[Adi,Yh,aN,aB,Ad2,Ju,Ps,Og,Tc,unT]
 congr 1
 by_cases h5:op=5
 ·subst h5;cases A0j a<;>simp
 by_cases h6:op=6
 ·subst h6;by_cases h:a=2<;>first|(simp[h];done)|(simp[h,beq_false_of_ne h];done)
 by_cases h7:op=7
 ·subst h7;by_cases h:a=1<;>first|(simp[h];done)|(simp[h,beq_false_of_ne h];done)
 by_cases h8:op=8
 ·subst h8;by_cases h:a=3<;>first|(simp[h];done)|(simp[h,beq_false_of_ne h];done)
 have b5:(op == 5)=false:=beq_false_of_ne h5;have b6:(op == 6)=false:=beq_false_of_ne h6;have b7:(op == 7)=false:=beq_false_of_ne h7;have b8:(op == 8)=false:=beq_false_of_ne h8;simp[h5,h6,h7,h8,b5,b6,b7,b8]
theorem Aro(L:Nat)(op a b:Int):Wm L op a b=some (Be2 op a b):=by
 simp only[Sd,Se,sx_typing_binary_4,Xy,sx_typing_binary_3,Xx,sx_typing_binary_1,Xw,sx_typing_binary_0,Ai3,Wm,aN,aB,Ad2,Ju,Ps,Og,Tc,Be2,A0j]
 congr 1
 rcases Bhi op with rfl|rfl|rfl|rfl|rfl|rfl|rfl|rfl|rfl|rfl|rfl|rfl|rfl|rfl|rfl|rfl|rfl|rfl|rfl|rfl|rfl|rfl|rfl|rfl|rfl|rfl|hop|hop
 all_goals first|(simp;done)|(simp;grind)|grind
theorem Arp(L:Nat)(op:Int)(k:Yb):Wn L op k=some (Bhd op k):=by
 simp only[Abh,Wn,aN,aB,Ib,Tc,Ps,Bhd,T8,Agq,Agp]
 congr 1
 by_cases h:op=22
 ·subst h;rfl
 by_cases h':op=23
 ·subst h';rfl
 have b:(op == 22)=false:=beq_false_of_ne h;have b':(op == 23)=false:=beq_false_of_ne h';simp only[h,h',b,b',cond_false,if_false];rfl
def Bjc(op:Int):Int:=if op=1 then 1 else if op=2 then 2 else if op=4 then 3 else 0
def Bbp(op:Int):List Int->Int
 | [a]=>unT op a
 | [a,b]=>Be2 op a b
 |_=>Bjc op
def Bjh(v:Az)(op:Int)(nm:Yb)(kids:List Int):Int×Int:=
 if op=3 then match A6z v nm with
  |some t=>(t,0)
  |none=>(0,5)
 else if 22<=op then if Bhd op (Ago v.aI nm)=true then(1,0) else(0,5)
 else if Bbp op kids=0 then(0,10) else(Bbp op kids,0)
mutual
def tyE(v:Az):Aa->Int×Int
 | .mk op nm _ k=>if(tyL v k).2≠0 then(0,(tyL v k).2)else Bjh v op nm (tyL v k).1
def tyL(v:Az):List Aa->List Int×Int
 | []=>([],0)
 |x::k=>if(tyE v x).2≠0 then([],(tyE v x).2)else if(tyL v k).2≠0 then([],(tyL v k).2) else((tyE v x).1::(tyL v k).1,0)
end
def Asm(v:Az)(e:Aa):Int×Int:=if N5 false e≠0 then(0,N5 false e)else tyE v e
theorem Biq(v:Az):∀k:List Aa,(tyL v k).2=0->(tyL v k).1.length=k.length:=by
 intro k
 induction k with
 |nil=>intro _;rw[tyL];rfl
 |cons x k ih=>
  rw[tyL];intro h;split at h
  ·contradiction
  ·split at h
   ·contradiction
   ·rename_i h1 h2;have h2:(tyL v k).2=0:=Decidable.not_not.1 h2;rw[if_neg h1,if_neg (by simp[h2])];simp[ih h2]
theorem Bar{c:Bool}{op:Int}{nm:Yb}{n:Int}{k:List Aa}(h:Ap6 c (.mk op nm n k)=0):Asv c (.mk op nm n k)=0/\Aw6 c k=0:=by
 rw[Ap6]at h;split at h
 ·contradiction
 ·rename_i h1;exact⟨Decidable.not_not.1 h1,h⟩
theorem Baq{c:Bool} :∀ {k:List Aa},Aw6 c k=0->∀x∈k,Ap6 c x=0:=by
 intro k
 induction k with
 |nil=>intro _ x hx;cases hx
 |cons y k ih=>
  intro h x hx;rw[Aw6]at h;split at h
  ·contradiction
  ·rename_i h1;rcases List.mem_cons.1 hx with rfl|hx
   ·exact Decidable.not_not.1 h1
   ·exact ih h x hx
theorem Bb1{op:Int}{nm:Yb}{n:Int}{k:List Aa}(h:Asv false (.mk op nm n k)=0):(k.length:Int)=Asd op/\1<=op/\op<=24:=by
 have h1:Aoa false (.mk op nm n k)=false:=by
  cases hb:Aoa false (.mk op nm n k) with
  |false=>rfl
  |true=>unfold Asv at h;rw[if_pos hb]at h;cases h
 unfold Aoa at h1;simp only[Aa.cp_eq,Aa.Op,Aa.aG,Aa.N,Aa.bJ,Aa.eta,Bool.or_eq_false_iff,decide_eq_false_iff_not,Decidable.not_not,Bool.not_eq_false']at h1;obtain⟨⟨h2,h3⟩,_⟩:=h1;refine⟨Decidable.not_not.1 (of_decide_eq_false h3),?_⟩;unfold At7 at h2;by_cases h3:op=3
 ·omega
 ·rw[if_neg h3]at h2;by_cases h4:op=25\/op=26
  ·rw[if_pos h4]at h2;cases h2
  ·rw[if_neg h4]at h2;have h5:=of_decide_eq_true h2;unfold Asd at h5;grind
theorem Bac(op:Int):Asd op<=2:=by unfold Asd;grind
theorem Atw(Bjk:Az->Aa->Option (Int×Int))(L:Nat)(a1:Aa)(v:Az):∀(k:List Aa) (i:Nat) (v0 v1:Int) (acc:List Int),acc.length+k.length<=1099511627776->(∀x∈k,Bjk v x=some (tyE v x))->
  ∃j acc',Iy Bjk L a1 v k i v0 v1 acc=some (if(tyL v k).2≠0 then(0,(0,(tyL v k).2,acc',j)) else(1,(v0,v1,acc++(tyL v k).1,j))):=by
 intro k
 induction k with
 |nil=>intro i v0 v1 acc _ _;exact⟨i,acc,by rw[Iy,tyL];simp⟩
 |cons x k ih=>
  intro i v0 v1 acc hlen h;rw[List.length_cons]at hlen;obtain⟨j,acc',hj⟩:=ih (i+1) v0 v1 (acc++ [(tyE v x).1]) (by simp only[List.length_append,List.length_cons,List.length_nil];omega) λy hy=>h y (by simp[hy]);have hM:=Bp;rw[Iy,h x (by simp),Ju,tyL];simp only[List.length_cons,List.length_nil];by_cases hx:(tyE v x).2=0
  ·refine⟨j,acc',?_⟩;rw[Jh (show(acc.length+(0+1))*8<=140737488355328 by omega),Jh (show acc.length+(0+1)<=maxLen by omega),hj];by_cases hk:(tyL v k).2=0<;>simp[hx,hk]
  ·refine⟨i,acc,?_⟩;simp[hx,Zs hx]
theorem A9q{l:List Int}(h:l.length<=2):l= []\/(∃a,l= [a])\/∃a b,l= [a,b]:=by
 match l,h with
 | [],_=>exact .inl rfl
 | [a],_=>exact .inr (.inl ⟨a,rfl⟩)
 | [a,b],_=>exact .inr (.inr ⟨a,b,rfl⟩)
theorem Avy{e:Aa}(h:Co e)(v:Az)(hv:Ki v):∀L,maxLen+dE e<L->Ap6 false e=0->Lc L v e=some (tyE v e):=by
 induction h with
 |mk a0 a1 a2 a3 h0 h1 h2 h3 h4 ih=>
  intro L hL hc;obtain⟨L,rfl⟩:∃k,L=k+1:=⟨L-1,by omega⟩;rw[dE]at hL;obtain⟨hn,hk⟩:=Bar hc;have hr:∀x∈a3,Lc L v x=some (tyE v x):=λx hx=>ih x hx L (by have:=Ah9 hx;omega) (Baq hk x hx);obtain⟨ha,hop1,hop2⟩:=Bb1 hn;have ha2:=Bac a0;have h5:a3.length<=2:=by omega
  obtain⟨j,acc',hj⟩:=Atw (Lc L) L (.mk a0 a1 a2 a3) v a3 0 0 0 [] (by simp;omega) hr;have hM:=Bp;simp only[Al8,Vm,Ae6,Lc,Vm,aN,aB,Aa.cp_eq,Aa.Op,Aa.aG,Aa.N,Aa.bJ,Aa.eta,Ao3 _ _ (.mk a0 a1 a2 a3) _ L h3 (show a3.length<L by omega),hj,Ju,tyE];by_cases hz:(tyL v a3).2=0
  ·have hlen:=Biq v a3 hz;simp only[hz,ne_eq,not_true_eq_false,if_false,Ze,List.nil_append,Avx L v a1 hv (by omega),Aak L _ a1 hv.2.2.len (by omega),Arp,Atl,Aro,Ju,Bjh];generalize (tyL v a3).1=l at hlen ⊢;by_cases e3:a0=3
   ·subst e3;cases A6z v a1<;>rfl
   have b3:(a0 == 3)=false:=beq_false_of_ne e3;by_cases e22:a0>=22
   ·simp only[e3,e22,b3,cond_false,if_false,decide_true,cond_true,if_true,ge_iff_le];cases Bhd a0 (Ago v.aI a1)<;>rfl
   simp only[e3,e22,b3,cond_false,if_false,decide_false];rcases A9q (show l.length<=2 by omega)with rfl|⟨a,rfl⟩|⟨a,b,rfl⟩
   ·simp only[Bbp,Bjc,List.length_nil];by_cases e1:a0=1
    ·subst e1;rfl
    by_cases e2:a0=2
    ·subst e2;rfl
    by_cases e4:a0=4
    ·subst e4;rfl
    simp[e1,e2,e4,beq_false_of_ne e1,beq_false_of_ne e2,beq_false_of_ne e4]
   ·simp only[Bbp];by_cases hu:unT a0 a=0<;>first|(simp[hu];done)|simp[hu,beq_false_of_ne hu]
   ·simp only[Bbp];by_cases hu:Be2 a0 a b=0<;>first|(simp[hu];done)|simp[hu,beq_false_of_ne hu]
  ·simp[hz,Sc]
theorem Avw{e:Aa}(h:Co e)(v:Az)(hv:Ki v)(L:Nat)(hL:maxLen+dE e<L):Aac L v e=some (Asm v e):=by
 simp only[Afc,Aac,aN,aB,Aa.cp_eq,Aaj h L hL,Ju,Asm];by_cases hc:N5 false e=0
 ·have hc':Ap6 false e=0:=by
   unfold N5 at hc;split at hc
   ·cases hc
   ·split at hc
    ·cases hc
    ·exact hc
  simp[hc,Avy h v hv L hL hc']
 ·simp[hc,Zs hc]
theorem A2z(s:Ac):Aeb s (Ek s):=by
 unfold Aeb Ek;have h0:s.bG.length<=Ic R2 s.bG:=Hr λx=>by unfold R2;omega
 have h1:s.aM.length<=Ic Gf s.aM:=Hr λx=>by unfold Gf;omega
 have h2:s.aO.length<=Ic Qs s.aO:=Hr λx=>by unfold Qs;omega
 have h3:s.bH.length<=Ic Sl s.bH:=Hr λx=>by unfold Sl;omega
 have h4:s.aX.length<=Ic (λz:Yb=>z.size+1) s.aX:=Hr λx=>by omega
 have h5:s.aR.length<=Ic (λz:Yb=>z.size+1) s.aR:=Hr λx=>by omega
 have h6:s.aT.length<=Ic (λz:Yb=>z.size+1) s.aT:=Hr λx=>by omega
 have h7:s.bA.length<=Ic (λz:Yb=>z.size+1) s.bA:=Hr λx=>by omega
 have h8:s.aU.length<=Ic (λz:Yb=>z.size+1) s.aU:=Hr λx=>by omega
 have h9:s.aA.length<=Ic Dw s.aA:=Hr λx=>by unfold Dw;omega
 refine⟨?_,?_,?_,?_,?_,?_,?_,?_,?_,?_⟩<;>omega
theorem Aeb.mono{s:Ac}{m n:Nat}(h:Aeb s m)(hm:m<=n):Aeb s n:=by
 obtain⟨h0,h1,h2,h3,h4,h5,h6,h7,h8,h9⟩:=h;exact⟨by omega,by omega,by omega,by omega,by omega,by omega,by omega,by omega,by omega,by omega⟩
mutual
theorem Af2:∀e:Aa,dE e<=Bq e
 | .mk a b c k=>by
  rw[dE,Bq];have:=Bax k;omega
theorem Bax:∀k:List Aa,dEs k<=Dr k
 | []=>by simp[dEs]
 |x::k=>by
  rw[dEs,Dr];have:=Af2 x;have:=Bax k;omega
end
theorem Ayl{a b:Int}(h:¬a=b):(a != b)=true:=bne_iff_ne.2 h
theorem Azv{α :Type} [Inhabited α](l:List α)(i:Nat)(h:i<l.length):l.drop i=l.getD i default::l.drop (i+1):=by
 rw[List.drop_eq_getElem_cons h,Hj l i h]
theorem Ak2(L:Nat)(a0 a1:List Int):∀(k:List Int) (i:Nat) (v:Bool),i+k.length=a1.length->∃j,Gk L a0 a1 k i v=some (bif decide (k=a1.drop i) then(1,(v,j)) else(0,(false,j))):=by
 intro k
 induction k with
 |nil=>
  intro i v h;refine⟨i,?_⟩;have:a1.drop i= []:=List.drop_eq_nil_of_le (by simp at h;omega);rw[this];rfl
 |cons x k ih=>
  intro i v h;rw[List.length_cons]at h;obtain⟨j,hj⟩:=ih (i+1) v (by omega);have hi:i<a1.length:=by omega
  rw[Gk,Azv a1 i hi,Jh (show(i:Int)<(a1.length:Int) by omega),hj,toN];generalize a1.getD i default=y;by_cases hx:x=y
  ·refine⟨j,?_⟩;subst hx;simp
  ·exact⟨i,by simp[hx,Ayl hx]⟩
theorem Acf(L:Nat)(a b:List Int)(ha:a.length<=maxLen)(hL:maxLen<L):N2 L a b=some (decide (a=b)):=by
 simp only[Adg,Od,Oc,N2,Od,Oc,aN,aB,Aij L a b L ha (by omega)];by_cases h:(a.length:Int)=(b.length:Int)
 ·obtain⟨j,hj⟩:=Ak2 L a b a 0 false (by omega);rw[hj,List.drop_zero];by_cases hab:a=b
  ·simp[hab,Ze]
  ·simp[hab,h,Sc]
 ·have:a≠b:=by rintro rfl;exact h rfl
  simp[this,Ayl h]
def Apl(a b:Aj):Bool:=a.Op == b.Op && a.A == b.A && a.B == b.B && a.N == b.N && decide (a.bD=b.bD) && decide (a.bB=b.bB)
def Ark(d:Aj):Prop:=d.bD.length<=1099511627776/\d.bB.length<=1099511627776
theorem Ail(L:Nat)(a b:Aj)(ha:Ark a)(hL:maxLen<L):Oz L a b=some (Apl a b):=by
 have hM:=Bp;obtain⟨h1,h2⟩:=ha;simp only[Aj4,Oz,aN,aB,Acf L a.bD b.bD (by omega) hL,Acf L a.bB b.bB (by omega) hL,Ju,Ps,Og,Apl]
def Cp(lo hi x:Int):Bool:=decide (lo<=x) && decide (x<=hi)
def Auv(d:Aj):Bool:=decide (d.bD.length=0) && decide (d.bB.length=0)
def Apv(d:Aj):Bool:=
 if d.Op=1 then Auv d && d.B == 0 && d.N == 0
 else if d.Op=2\/d.Op=5 then Auv d && d.N == 0
 else if d.Op=4 then Auv d
 else if d.Op=3 then d.A == 0 && d.B == 0 && d.N == 0
 else false
def Bc4(d:Aj):Int:=
 if d.bD.length≠d.bB.length then 8 else if d.bD.length=0 then 7 else if 20<d.bD.length then 6
 else if d.bD.all (Cp 0 1000000000) && d.bB.all (Cp 1 1000)then 0 else 2
def Ash(d:Aj):Int:=
 if Apv d=false then 1
 else if d.Op=1 then(if Cp 0 1000000000 d.A then 0 else 2)
 else if d.Op=2 then(if Cp 0 1000000000 d.A && Cp 0 1000000000 d.B && decide (d.A<=d.B)then 0 else 2)
 else if d.Op=3 then Bc4 d
 else if d.Op=4 then(if Cp 1 20 d.N && Cp 0 1000000 d.A && Cp 0 1000000 d.B && decide (d.A<=d.B)then 0 else 2)
 else(if Cp 1 1000 d.A && Cp 1 1000 d.B then 0 else 2)
theorem Bn3(n:Nat):((n:Int) == 0)=decide (n=0):=by
 cases h:((n:Int) == 0) with
 |true=>have:=eq_of_beq h;exact(decide_eq_true (by omega)).symm
 |false=>symm;apply decide_eq_false;rintro rfl;cases h
theorem Ba3{d:Aj}(h:Ark d):(Bb ((d.bD.length:Int)+(d.bB.length:Int)) == 0)=Auv d:=by
 obtain⟨h1,h2⟩:=h;rw[Iu (by omega) (by omega),show(d.bD.length:Int)+(d.bB.length:Int)=((d.bD.length+d.bB.length:Nat):Int) by omega,Bn3];unfold Auv;rw[<-Bool.decide_and];exact decide_eq_decide.2 (by omega)
theorem Avr(L:Nat)(d:Aj)(h:Ark d):z7 L d=some (Apv d):=by
 simp only[Ae8,z7,aN,aB,Ba3 h,Ps,Og,Tc,Apv]
 congr 1
 by_cases h1:d.Op=1
 ·simp[h1]
 by_cases h2:d.Op=2
 ·simp[h2]
 by_cases h3:d.Op=3
 ·simp[h3]
 by_cases h4:d.Op=4
 ·simp[h4]
 by_cases h5:d.Op=5
 ·simp[h5]
 simp[h1,h2,h3,h4,h5,beq_false_of_ne h1,beq_false_of_ne h2,beq_false_of_ne h3,beq_false_of_ne h4,beq_false_of_ne h5]
theorem Atn(L:Nat)(p:List Int)(lo hi:Int):∀(k:List Int) (i:Nat) (v:Int),∃j:Nat,K2 L p lo hi k i v=some (bif k.all (Cp lo hi) then(1,(v,(j:Int))) else(0,((j:Int),(j:Int)))):=by
 intro k
 induction k with
 |nil=>intro i v;exact⟨i,rfl⟩
 |cons x k ih=>
  intro i v;obtain⟨j,hj⟩:=ih (i+1) v;rw[K2,hj,List.all_cons];by_cases h1:x<lo
  ·refine⟨i,?_⟩;have:Cp lo hi x=false:=by unfold Cp;simp;omega
   simp[h1,this]
  ·by_cases h2:x>hi
   ·refine⟨i,?_⟩;have:Cp lo hi x=false:=by unfold Cp;simp;omega
    simp[h1,h2,this]
   ·refine⟨j,?_⟩;have:Cp lo hi x=true:=by unfold Cp;simp;omega
    simp[h1,h2,this]
theorem Y4(L:Nat)(lo hi:Int)(l:List Int)(hl:l.length<=1099511627776)(hL:maxLen<L):Hc L lo hi l=some (l.all (Cp lo hi)):=by
 have hM:=Bp;obtain⟨j,hj⟩:=Atn L l lo hi l 0 0;simp only[Al1,U5,Hc,U5,d5,Af4,n6,aN,aB,Aos L l lo hi L (by omega) (by omega),hj,Ju];cases l.all (Cp lo hi) with
 |true=>rfl
 |false=>simp[Sc]
theorem Afl(L:Nat)(d:Aj)(h:Ark d)(hL:maxLen<L):Oy L d=some (Ash d):=by
 have hh:=h;obtain⟨h1,h2⟩:=hh;have w1:∀lo hi a,Hc L lo hi [a]=some (Cp lo hi a):=λlo hi a=>by rw[Y4 L lo hi [a] (by simp) hL];simp
 have w2:∀lo hi a b,Hc L lo hi [a,b]=some (Cp lo hi a && Cp lo hi b):=λlo hi a b=>by rw[Y4 L lo hi [a,b] (by simp) hL];simp
 simp only[Ahx,Oy,aN,aB,Avr L d h,w1,w2,Y4 L _ _ _ h1 hL,Y4 L _ _ _ h2 hL,Ju,Ps,Og,Ash,Bc4]
 congr 1
 cases hu:Apv d with
 |false=>simp
 |true=>
  simp only[Bool.not_true,cond_false,if_false,Bool.true_eq_false];unfold Apv at hu;by_cases e1:d.Op=1
  ·simp[e1]<;>grind
  by_cases e2:d.Op=2
  ·simp[e2]<;>grind
  by_cases e3:d.Op=3
  ·have q1:((d.bD.length:Int) != (d.bB.length:Int))=decide (d.bD.length≠d.bB.length):=by
    rw[Bool.eq_iff_iff];simp;omega
   have q2:decide ((d.bD.length:Int)>20)=decide (20<d.bD.length):=decide_eq_decide.2 (by omega);simp only[e3,q1,q2,Bn3];clear h h1 h2 w1 w2 q1 q2 hu e1 e2 e3;generalize d.bD.length=nv;generalize d.bB.length=nw;generalize d.bD.all (Cp 0 1000000000)=x;generalize d.bB.all (Cp 1 1000)=y;by_cases c1:nv=nw
   ·subst c1;by_cases c2:nv=0<;>by_cases c3:20<nv<;>cases x<;>cases y<;>simp[c2,c3]
   ·simp[c1]
  by_cases e4:d.Op=4
  ·simp[e4]<;>grind
  by_cases e5:d.Op=5
  ·simp[e5]<;>grind
  simp[e1,e2,e3,e4,e5]at hu
mutual
def dS:Ad->Nat
 | .mk _ _ _ _ _ _ _ _ b e=>max (dSs b) (dSs e)+1
def dSs:List Ad->Nat
 | []=>0
 |x::k=>max (dS x) (dSs k)
end
mutual
def ctS:Ad->Nat
 | .mk _ _ _ _ _ _ _ _ b e=>Gq b+Gq e+1
def Gq:List Ad->Nat
 | []=>0
 |x::k=>ctS x+Gq k
end
theorem Bay(s:Ad):dS s=max (dSs s.aK) (dSs s.aY)+1:=by cases s;rw[dS];simp only[Ad.cp_eq,Ad.eta,Ad.Op,Ad.aG,Ad.Of,Ad.E,Ad.F,Ad.aS,Ad.bR,Ad.bZ,Ad.aK,Ad.aY]
theorem Aus(s:Ad):ctS s=Gq s.aK+Gq s.aY+1:=by cases s;rw[ctS];simp only[Ad.cp_eq,Ad.eta,Ad.Op,Ad.aG,Ad.Of,Ad.E,Ad.F,Ad.aS,Ad.bR,Ad.bZ,Ad.aK,Ad.aY]
theorem Alf{x:Ad}{k:List Ad}(h:x∈k):dSs x.aK<dSs k/\dSs x.aY<dSs k:=by
 induction k with
 |nil=>cases h
 |cons a k ih=>
  rw[dSs];rcases List.mem_cons.1 h with rfl|h
  ·rw[Bay];omega
  ·have:=ih h;omega
theorem Abi(s:Ad):1+(s.aG.size+1)+(s.Of.size+1)+Bq s.E+Bq s.F+(Ic Bq s.aS+1)+Nn s.bR+1+(Cv s.aK+1)+(Cv s.aY+1)+1=F0 s:=by
 rw[Akd,Oh,Oh]<;>omega
theorem Afy{x:Ad}{k:List Ad}(h:x∈k):F0 x<=Cv k:=by
 rw[Oh];exact Ad5 h
theorem Adk(k:List Ad):k.length<=Cv k:=by
 rw[Oh];exact Hr λx=>by rw[<-Abi];omega
theorem A15(k:List Aa):k.length<=Ic Bq k:=
 Hr λx=>by cases x;rw[Bq];omega
mutual
theorem Bst:∀s:Ad,dS s<=F0 s
 | .mk a b c d e f g h i j=>by
  rw[dS,F0];have:=Ap7 i;have:=Ap7 j;omega
theorem Ap7:∀k:List Ad,dSs k<=Cv k
 | []=>by simp[dSs]
 |x::k=>by
  rw[dSs,Cv];have:=Bst x;have:=Ap7 k;omega
end
mutual
theorem Bk2:∀s:Ad,ctS s<=F0 s
 | .mk a b c d e f g h i j=>by
  rw[ctS,F0];have:=Ale i;have:=Ale j;omega
theorem Ale:∀k:List Ad,Gq k<=Cv k
 | []=>by simp[Gq]
 |x::k=>by
  rw[Gq,Cv];have:=Bk2 x;have:=Ale k;omega
end
theorem Zf{M:List Ad->Prop}(h:∀l:List Ad,(∀y∈l,B3 y/\M y.aK/\M y.aY)->M l){l:List Ad}(hl:∀y∈l,B3 y):M l:=by
 have key:∀s,B3 s->M s.aK/\M s.aY:=by
  intro s hs
  induction hs with
  |mk a0 a1 a2 a3 a4 a5 a6 a7 a8 a9 h0 h1 h2 h3 h4 h5 h5' h6 h7 h8 h8' h9 h9' ih8 ih9=>
   exact⟨h a8 λy hy=>⟨h8' y hy,ih8 y hy⟩,h a9 λy hy=>⟨h9' y hy,ih9 y hy⟩⟩
 exact h l λy hy=>⟨hl y hy,key y (hl y hy)⟩
theorem A5f{s:Ad}(h:B3 s):okS s.aG/\okS s.Of/\Co s.E/\Co s.F/\(∀y∈s.aS,Co y)/\Aas s.bR/\(∀y∈s.aK,B3 y)/\(∀y∈s.aY,B3 y):=by
 cases h with
 |mk a0 a1 a2 a3 a4 a5 a6 a7 a8 a9 h0 h1 h2 h3 h4 h5 h5' h6 h7 h8 h8' h9 h9'=>exact⟨h1,h2,h3,h4,h5',h6,h8',h9'⟩
def Fu(L:Nat)(l:List Ad):Prop:=maxLen+1048576+dSs l<L/\Cv l<=1048576
theorem Fu.kid{L:Nat}{l:List Ad}(h:Fu (L+1) l){x:Ad}(hx:x∈l):Fu L x.aK/\Fu L x.aY:=by
 obtain⟨h1,h2⟩:=h;have:=Alf hx;have:=Afy hx;have:=Abi x;exact⟨⟨by omega,by omega⟩,⟨by omega,by omega⟩⟩
theorem Fu.len{L:Nat}{l:List Ad}(h:Fu (L+1) l):l.length<=maxLen/\l.length<L/\l.length<=1048576:=by
 obtain⟨h1,h2⟩:=h;have:=Adk l;have:=Bp;exact⟨by omega,by omega,by omega⟩
theorem Fu.one{L:Nat}{l:List Ad}(h:Fu (L+1) l):∃k,L=k+1:=by
 obtain⟨h1,h2⟩:=h;have:=Bp;exact⟨L-1,by omega⟩
theorem Fu.pos{L:Nat}{l:List Ad}(h:Fu L l):∃k,L=k+1:=by
 obtain⟨h1,h2⟩:=h;exact⟨L-1,by omega⟩
theorem Awb(rec:List Ad->Option Int)(L:Nat)(a0:List Ad):∀(k:List Ad) (i:Nat) (v:Nat),v+Gq k<=1048576+1048576->(∀x∈k,rec x.aK=some (Gq x.aK:Int)/\rec x.aY=some (Gq x.aY:Int))->∃j,Jw rec L a0 k i ((v+k.length:Nat):Int)=some (0,(((v+Gq k:Nat):Int),j)):=by
 intro k
 induction k with
 |nil=>intro i v _ _;exact⟨i,by rw[Jw,Gq];rfl⟩
 |cons x k ih=>
  intro i v hb h;rw[Gq,Aus]at hb;have hlen:k.length<=Gq k:=by
   clear ih h hb
   induction k with
   |nil=>simp
   |cons y k ih=>rw[Gq,Aus,List.length_cons];omega
  obtain⟨h1,h2⟩:=h x (by simp);obtain⟨j,hj⟩:=ih (i+1) (v+1+Gq x.aK+Gq x.aY) (by omega) λy hy=>h y (by simp[hy]);refine⟨j,?_⟩;rw[Jw,h1,Ju,h2,Ju,List.length_cons,Gq,Aus];rw[Iu (n:=(Gq x.aK:Int)+(Gq x.aY:Int)) (by omega) (by omega),Iu (by omega) (by omega)];rw[show((v+(k.length+1):Nat):Int)+((Gq x.aK:Int)+(Gq x.aY:Int))=((v+1+Gq x.aK+Gq x.aY+k.length:Nat):Int) by omega,hj]
  congr 3
  omega
theorem Amh{l:List Ad}(hl:∀y∈l,B3 y):∀L,Fu L l->Lb L l=some (Gq l:Int):=by
 refine Zf (M:=λl=>∀L,Fu L l->Lb L l=some (Gq l:Int)) ?_ hl;intro l ih L hF;obtain⟨L,rfl⟩:=hF.pos;obtain⟨n1,n2,n3⟩:=hF.len;have hc:=Ale l;obtain⟨j,hj⟩:=Awb (Lb L) L l l 0 0 (by have:=hF.2;omega) λx hx=>⟨(ih x hx).2.1 L (hF.kid hx).1,(ih x hx).2.2 L (hF.kid hx).2⟩;rw[Nat.zero_add,Nat.zero_add]at hj;simp only[An3,Xi,Aht,Lb,Xi,aN,aB,Arb _ L l L n1 n2,hj,Ju,Sc]
theorem Bs9(a b:Nat):(if(1+(a:Int))>(b:Int) then(1+(a:Int)) else(b:Int))=((max b (a+1):Nat):Int):=by
 split<;>omega
theorem Awc(rec:List Ad->Option Int)(L:Nat)(a0:List Ad):∀(k:List Ad) (i:Nat) (v:Nat),dSs k<=1048576->(∀x∈k,rec x.aK=some (dSs x.aK:Int)/\rec x.aY=some (dSs x.aY:Int))->∃j,Jx rec L a0 k i (v:Int)=some (0,(((max v (dSs k):Nat):Int),j)):=by
 intro k
 induction k with
 |nil=>intro i v _ _;exact⟨i,by rw[Jx,dSs,Nat.max_zero]⟩
 |cons x k ih=>
  intro i v hb h;rw[dSs,Bay]at hb;obtain⟨h1,h2⟩:=h x (by simp);obtain⟨j,hj⟩:=ih (i+1) (max (max v (dSs x.aK+1)) (dSs x.aY+1)) (by omega) λy hy=>h y (by simp[hy]);refine⟨j,?_⟩;rw[Jx,h1,Ju,h2,Ju,dSs,Bay];rw[Iu (n:=1+(dSs x.aK:Int)) (by omega) (by omega),Iu (n:=1+(dSs x.aY:Int)) (by omega) (by omega),Bs9,Bs9,hj]
  congr 3
  omega
theorem Axo{l:List Ad}(hl:∀y∈l,B3 y):∀L,Fu L l->Nd L l=some (dSs l:Int):=by
 refine Zf (M:=λl=>∀L,Fu L l->Nd L l=some (dSs l:Int)) ?_ hl;intro l ih L hF;obtain⟨L,rfl⟩:=hF.pos;obtain⟨n1,n2,n3⟩:=hF.len;have hc:=Ap7 l;obtain⟨j,hj⟩:=Awc (Nd L) L l l 0 0 (by have:=hF.2;omega) λx hx=>⟨(ih x hx).2.1 L (hF.kid hx).1,(ih x hx).2.2 L (hF.kid hx).2⟩;rw[Nat.zero_max]at hj;simp only[An4,Xj,Ahu,Nd,Xj,aN,aB,Arc _ L l L n1 n2];rw[show(0:Int)=((0:Nat):Int)from rfl,hj];simp only[Ju,Sc]
theorem ww1:Bb 1=1:=by kernel_rfl
theorem ww2:Bb 2=2:=by kernel_rfl
def Azd(e:Aa):Bool:=e.Op == 0 && decide (e.aG=⟨#[]⟩) && e.N == 0 && decide (e.bJ.length=0)
theorem Amf(L:Nat)(e:Aa)(hL:1<L):O1 L e (.mk 0 ⟨#[]⟩ 0 [])=some (Azd e):=by
 obtain⟨L,rfl⟩:∃k,L=k+1:=⟨L-1,by omega⟩;cases e with
 |mk a b c k=>
  simp only[Asa,Zm,Y8,Aju,O1,Zm,Y8,aN,aB,Aa.cp_eq,Aa.Op,Aa.aG,Aa.N,Aa.bJ,Aa.eta,Ib,Og,Tc,List.length_nil,Azd];by_cases h:k.length=0
  ·have hk:k= []:=List.length_eq_zero_iff.1 h;subst hk;rw[Ath _ L (.mk a b c []) _ L (Nat.zero_le _) (by simp only[Aa.cp_eq,Aa.Op,Aa.aG,Aa.N,Aa.bJ,Aa.eta,List.length_nil];omega)];simp only[Aa.cp_eq,Aa.Op,Aa.aG,Aa.N,Aa.bJ,Aa.eta,Qw,Ju,Ze,List.length_nil];by_cases h1:a=0
   ·by_cases h2:b=⟨#[]⟩
    ·by_cases h3:c=0
     ·simp[h1,h2,h3]
     ·simp[h1,h2,h3,Ayl h3]
    ·simp[h1,h2]
   ·simp[Ayl h1,h1]
  ·have:((k.length:Int) != ((0:Nat):Int))=true:=Ayl (by omega);simp only[this,Bool.or_true,cond_true,h,decide_false,Bool.and_false]
theorem Apr(op:Int):op=1\/op=2\/op=3\/op=4\/op=5\/op=6\/op=7\/op=8\/op=9\/op=10\/op=11\/op=12\/op=13\/op=14\/op=15\/op=16\/op=17\/op=18\/op<1\/18<op:=by omega
def Ajm(op:Int):B9×Bool:=
 if op=1\/op=7\/op=8\/op=12\/op=15\/op=16\/op=17 then(⟨true,false,true,false,false,false,false,false,false⟩,true)
 else if op=2 then(⟨true,true,false,false,false,true,false,false,false⟩,true)
 else if op=3 then(⟨false,false,true,false,false,false,false,true,true⟩,true)
 else if op=4 then(⟨false,false,true,false,false,false,false,true,false⟩,true)
 else if op=5 then(⟨false,false,true,false,false,false,false,false,false⟩,true)
 else if op=6 then(⟨true,false,true,true,false,false,true,false,false⟩,true)
 else if op=9 then(⟨true,true,false,false,false,false,false,false,false⟩,true)
 else if op=10\/op=11 then(⟨true,false,false,false,false,false,false,false,false⟩,true)
 else if op=13 then(⟨true,true,true,false,true,false,false,false,false⟩,true)
 else if op=14 then(⟨true,false,true,false,true,false,false,false,false⟩,true)
 else if op=18 then(⟨false,false,false,false,false,false,false,false,false⟩,true)
 else(⟨false,false,false,false,false,false,false,false,false⟩,false)
theorem A9{op:Int}(h:op<1\/18<op)(n:Int)(h1:1<=n)(h2:n<=18):(op == n)=false:=beq_false_of_ne (by omega)
theorem A37{op:Int}(h:op<1\/18<op):Ajm op=(⟨false,false,false,false,false,false,false,false,false⟩,false):=by
 unfold Ajm
 repeat rw[if_neg (by omega)]
theorem A0s(L:Nat)(op:Int):Aar L op=some (Ajm op):=by
 simp only[Zi,sx_stmt_uses_3,Ad7,sx_stmt_uses_2,Ad6,sx_stmt_uses_0,Asb,Aar,aN,aB];have key:op<1\/18<op->_:=λh=>h;rcases Apr op with rfl|rfl|rfl|rfl|rfl|rfl|rfl|rfl|rfl|rfl|rfl|rfl|rfl|rfl|rfl|rfl|rfl|rfl|h|h
 case inr.inr.inr.inr.inr.inr.inr.inr.inr.inr.inr.inr.inr.inr.inr.inr.inr.inr.inl=>
  have h':op<1\/18<op:=.inl h;simp only[A37 h',A9 h',show(1:Int)<=1 by decide,cond_false,A9 h' 1 (by decide) (by decide),A9 h' 2 (by decide) (by decide),A9 h' 3 (by decide) (by decide),A9 h' 4 (by decide) (by decide),A9 h' 5 (by decide) (by decide),A9 h' 6 (by decide) (by decide),A9 h' 7 (by decide) (by decide),A9 h' 8 (by decide) (by decide),A9 h' 9 (by decide) (by decide),A9 h' 10 (by decide) (by decide),A9 h' 11 (by decide) (by decide),A9 h' 12 (by decide) (by decide),A9 h' 13 (by decide) (by decide),A9 h' 14 (by decide) (by decide),A9 h' 15 (by decide) (by decide),A9 h' 16 (by decide) (by decide),A9 h' 17 (by decide) (by decide),A9 h' 18 (by decide) (by decide)]
 case inr.inr.inr.inr.inr.inr.inr.inr.inr.inr.inr.inr.inr.inr.inr.inr.inr.inr.inr=>
  have h':op<1\/18<op:=.inr h;simp only[A37 h',cond_false,A9 h' 1 (by decide) (by decide),A9 h' 2 (by decide) (by decide),A9 h' 3 (by decide) (by decide),A9 h' 4 (by decide) (by decide),A9 h' 5 (by decide) (by decide),A9 h' 6 (by decide) (by decide),A9 h' 7 (by decide) (by decide),A9 h' 8 (by decide) (by decide),A9 h' 9 (by decide) (by decide),A9 h' 10 (by decide) (by decide),A9 h' 11 (by decide) (by decide),A9 h' 12 (by decide) (by decide),A9 h' 13 (by decide) (by decide),A9 h' 14 (by decide) (by decide),A9 h' 15 (by decide) (by decide),A9 h' 16 (by decide) (by decide),A9 h' 17 (by decide) (by decide),A9 h' 18 (by decide) (by decide)]
 all_goals rfl
def Ak9:Aj:=⟨0,0,0,0,[],[]⟩
def Asp(s:Ad)(u:B9):Bool:=
 (u.dI || decide (s.aG=⟨#[]⟩)) && (u.fM || decide (s.Of=⟨#[]⟩)) && (u.fU || Azd s.E) && (u.gM || Azd s.F) && (u.fK || decide (s.aS.length=0)) && (u.eF || Apl s.bR Ak9) && (u.dY || !s.bZ) && (u.dV || decide (s.aK.length=0)) && (u.dO || decide (s.aY.length=0))
structure SB (L:Nat) (s:Ad):Prop where
 fuel:9223372036855824383<L
 nm:okS s.aG
 of:okS s.Of
 e:Co s.E
 f:Co s.F
 args:∀y∈s.aS,Co y
 bk:F0 s<=1048576
theorem SB.lt{L:Nat}{s:Ad}(h:SB L s):maxLen<L:=by
 have h1:=h.fuel;have hM:=Bp;omega
theorem SB.dist{L:Nat}{s:Ad}(h:SB L s):Ark s.bR:=by
 have h1:=h.bk;rw[<-Abi]at h1;unfold Nn at h1;have h2:s.bR.bD.length<=Ic (λz:Int=>1) s.bR.bD:=Hr λ_=>Nat.le_refl _;have h3:s.bR.bB.length<=Ic (λz:Int=>1) s.bR.bB:=Hr λ_=>Nat.le_refl _;exact⟨by omega,by omega⟩
theorem SB.de{L:Nat}{s:Ad}(h:SB L s):maxLen+dE s.E<L/\maxLen+dE s.F<L/\(∀y∈s.aS,maxLen+dE y<L)/\s.aS.length<=1048576:=by
 have h1:=h.bk;rw[<-Abi]at h1;have h2:=h.fuel;have hM:=Bp;have h3:=Af2 s.E;have h4:=Af2 s.F;have h5:=A15 s.aS;refine⟨by omega,by omega,λy hy=>?_,by omega⟩;have h6:=Af2 y;have h7:Bq y<=Ic Bq s.aS:=Ad5 hy;omega
theorem A0r(L:Nat)(s:Ad)(u:B9)(h:SB L s):Aaq L s u=some (Asp s u):=by
 have hL:=h.fuel;have hM:=Bp;have e0:=Amf L s.E (by omega);have f0:=Amf L s.F (by omega);have d0:=Ail L s.bR Ak9 h.dist h.lt;unfold Ak9 at d0;simp only[Aj6,Aaq,aN,aB,Aa.cp_eq,e0,f0,d0,Ib,Bn3,Ju,Ps,Og,Tc,Asp,Ak9]
 congr 1
 cases u.fU<;>cases u.gM<;>cases u.eF<;>cases Azd s.E<;>cases Azd s.F<;>simp only[Bool.true_or,Bool.false_or,Bool.and_true,Bool.and_false,Bool.false_and,Bool.true_and,cond_true,cond_false,Bool.and_assoc]
def Asc:List Aa->Int
 | []=>0
 |x::k=>if N5 false x≠0 then N5 false x else Asc k
def Av3(s:Ad)(u:B9):Int:=
 if(u.dI && V7 s.aG != 0)=true then V7 s.aG
 else if(u.fM && V7 s.Of != 0)=true then V7 s.Of
 else if(u.fU && N5 false s.E != 0)=true then N5 false s.E
 else if(u.gM && N5 false s.F != 0)=true then N5 false s.F
 else if 6<s.aS.length then 6
 else if Asc s.aS≠0 then Asc s.aS
 else if u.eF then Ash s.bR else 0
theorem Awe(L:Nat)(s:Ad)(u:B9):∀(k:List Aa) (i:Nat) (v:Int),(∀x∈k,O0 L x=some (N5 false x))->∃j,Jy L s u k i v=some (bif Asc k != 0 then(0,(Asc k,j)) else(1,(v,j))):=by
 intro k
 induction k with
 |nil=>intro i v _;exact⟨i,rfl⟩
 |cons x k ih=>
  intro i v h;obtain⟨j,hj⟩:=ih (i+1) v λy hy=>h y (by simp[hy]);by_cases hx:N5 false x=0
  ·exact⟨j,by simp[Jy,h x (by simp),hj,Asc,hx]⟩
  ·exact⟨i,by simp[Jy,h x (by simp),Asc,hx,Zs hx]⟩
theorem Axq(L:Nat)(s:Ad)(u:B9)(h:SB L s):Yf L s u=some (Av3 s u):=by
 have hL:=h.fuel;have hM:=Bp;obtain⟨b1,b2,b3,b4⟩:=h.de;have n1:s.aG.size<=maxLen:=h.nm;have n2:s.Of.size<=maxLen:=h.of;have c1:=Uc L s.aG h.nm (by omega);have c2:=Uc L s.Of h.of (by omega);have c3:=Aaj h.e L b1;have c4:=Aaj h.f L b2;have c5:=Afl L s.bR h.dist h.lt;obtain⟨j,hj⟩:=Awe L s u s.aS 0 0 λx hx=>Aaj (h.args x hx) L (b3 x hx);have p1:∃j,Mu L u s L 0 0=some (bif u.dI && V7 s.aG != 0 then(0,(V7 s.aG,j))else bif u.fM && V7 s.Of != 0 then(0,(V7 s.Of,j)) else(1,(0,j))):=by
  obtain⟨k,hk⟩:∃k,L=k+3:=⟨L-3,by omega⟩;have l1:Mu L u s L 0 0=Mu L u s (k+3) 0 0:=by rw[<-hk]
  rw[l1];simp only[Mu,Abt,aN,aB,List.length_cons,List.length_nil];cases hn:(u.dI && V7 s.aG != 0) with
  |true=>exact⟨0,by simp[c1,hn,Og]⟩
  |false=>
   cases ho:(u.fM && V7 s.Of != 0) with
   |true=>exact⟨1,by simp[c1,c2,hn,ho,Og,ww1,ww2]⟩
   |false=>exact⟨2,by simp[c1,c2,hn,ho,Og,ww1,ww2]⟩
 have p2:∃j,Mv L u s L 0 0=some (bif u.fU && N5 false s.E != 0 then(0,(N5 false s.E,j))else bif u.gM && N5 false s.F != 0 then(0,(N5 false s.F,j)) else(1,(0,j))):=by
  obtain⟨k,hk⟩:∃k,L=k+3:=⟨L-3,by omega⟩;have l1:Mv L u s L 0 0=Mv L u s (k+3) 0 0:=by rw[<-hk]
  rw[l1];simp only[Mv,Abu,aN,aB,List.length_cons,List.length_nil,Aa.cp_eq];cases he:u.fU<;>cases hf:u.gM<;>by_cases ze:N5 false s.E=0<;>by_cases zf:N5 false s.F=0
  all_goals first
   |(refine⟨0,?_⟩;simp[c3,c4,he,hf,ze,zf,Zs,ww1,ww2];done)
   |(refine⟨1,?_⟩;simp[c3,c4,he,hf,ze,zf,Zs,ww1,ww2];done)
   |(refine⟨2,?_⟩;simp[c3,c4,he,hf,ze,zf,Zs,ww1,ww2];done)
 obtain⟨j1,p1⟩:=p1;obtain⟨j2,p2⟩:=p2;simp only[An6,Ab6,Xn,Ab7,Xo,Xl,Yf,Ab6,Xn,Ab7,Xo,Xl,aN,aB,p1,Ju,Av3];cases hn:(u.dI && V7 s.aG != 0) with
 |true=>simp[Sc]
 |false=>
  cases ho:(u.fM && V7 s.Of != 0) with
  |true=>simp[Sc]
  |false=>
   simp only[cond_false,Ze,p2,Ju,Bool.false_eq_true,if_false];cases he:(u.fU && N5 false s.E != 0) with
   |true=>simp[Sc]
   |false=>
    cases hf:(u.gM && N5 false s.F != 0) with
    |true=>simp[Sc]
    |false=>
     simp only[cond_false,Ze,Bool.false_eq_true,if_false,Are L s u L (by omega) (by omega),hj,Ju,c5];by_cases hl:6<s.aS.length
     ·have:(6:Int)<(s.aS.length:Int):=by omega
      simp[hl,this]
     ·have:¬(6:Int)<(s.aS.length:Int):=by omega
      by_cases ha:Asc s.aS=0
      ·cases hd:u.eF<;>simp[hl,this,ha,hd,Ze]
      ·simp[hl,this,ha,Zs ha,Sc]
def Atm(s:Ad):Int:=bif !(Ajm s.Op).2 || !Asp s (Ajm s.Op).1 then 1 else Av3 s (Ajm s.Op).1
mutual
def A8h:Ad->Int
 | .mk a b c d e f g h i j=>if Atm (.mk a b c d e f g h i j)≠0 then Atm (.mk a b c d e f g h i j)else if H9 i≠0 then H9 i else H9 j
def H9:List Ad->Int
 | []=>0
 |x::k=>if A8h x≠0 then A8h x else H9 k
end
theorem A6r(s:Ad):A8h s=if Atm s≠0 then Atm s else if H9 s.aK≠0 then H9 s.aK else H9 s.aY:=by cases s;rw[A8h];rfl
def Afr(l:List Ad):Int:=if 200<Gq l then 6 else if 12<dSs l then 11 else H9 l
theorem Fu.sb{L:Nat}{l:List Ad}(h:Fu (L+1) l){x:Ad}(hx:x∈l)(ho:B3 x):SB L x:=by
 obtain⟨h1,h2⟩:=h;have hM:=Bp;have h3:=Alf hx;have h4:=Afy hx;obtain⟨o1,o2,o3,o4,o5,o6,_,_⟩:=A5f ho;exact⟨by omega,o1,o2,o3,o4,o5,by omega⟩
theorem Bon{β :Type}(x:Ad)(rest:Option β)(g:Int->β):(Option.bind (bif !(Ajm x.Op).2 then some true else some (!Asp x (Ajm x.Op).1)) λb2=>bif b2 then some (g 1)else bif Av3 x (Ajm x.Op).1 != 0 then some (g (Av3 x (Ajm x.Op).1))else rest)=bif Atm x != 0 then some (g (Atm x))else rest:=by
 unfold Atm;cases (Ajm x.Op).2 with
 |false=>rfl
 |true=>cases Asp x (Ajm x.Op).1<;>rfl
theorem Awd(rec:List Ad->Option Int)(L:Nat)(a0:List Ad):∀(k:List Ad) (i:Nat) (v:Int),(∀x∈k,SB L x/\rec x.aK=some (H9 x.aK)/\rec x.aY=some (H9 x.aY))->∃j,M5 rec L a0 k i v=some (bif H9 k != 0 then(0,(H9 k,j)) else(1,(v,j))):=by
 intro k
 induction k with
 |nil=>intro i v _;exact⟨i,rfl⟩
 |cons x k ih=>
  intro i v h;obtain⟨h0,h1,h2⟩:=h x (by simp);obtain⟨j,hj⟩:=ih (i+1) v λy hy=>h y (by simp[hy]);rw[M5];simp only[A0s,A0r L x _ h0,Axq L x _ h0,h1,h2,hj,Ju,H9,A6r];rw[Bon x _ λe=>(0,(e,(i:Int)))];by_cases e1:Atm x=0
  ·by_cases e2:H9 x.aK=0
   ·by_cases e3:H9 x.aY=0
    ·exact⟨j,by simp[e1,e2,e3]⟩
    ·exact⟨i,by simp[e1,e2,e3,Zs e3]⟩
   ·exact⟨i,by simp[e1,e2,Zs e2]⟩
  ·exact⟨i,by simp[e1,Zs e1]⟩
theorem Axp{l:List Ad}(hl:∀y∈l,B3 y):∀L,Fu L l->Nf L l=some (H9 l):=by
 refine Zf (M:=λl=>∀L,Fu L l->Nf L l=some (H9 l)) ?_ hl;intro l ih L hF;obtain⟨L,rfl⟩:=hF.pos;obtain⟨n1,n2,n3⟩:=hF.len;obtain⟨j,hj⟩:=Awd (Nf L) L l l 0 0 λx hx=>⟨hF.sb hx (ih x hx).1,(ih x hx).2.1 L (hF.kid hx).1,(ih x hx).2.2 L (hF.kid hx).2⟩;simp only[An5,Xk,Ahv,Nf,Xk,aN,aB,Ard _ L l L n1 n2,hj,Ju];by_cases h:H9 l=0
 ·simp[h,Ze]
 ·simp[Zs h,Sc]
theorem Amg{l:List Ad}(hl:∀y∈l,B3 y)(L:Nat)(hF:Fu L l):Ye L l=some (Afr l):=by
 have e1:decide ((Gq l:Int)>200)=decide (200<Gq l):=decide_eq_decide.2 (by omega);have e2:decide ((dSs l:Int)>12)=decide (12<dSs l):=decide_eq_decide.2 (by omega);simp only[Ah1,Ye,aN,aB,Amh hl L hF,Axo hl L hF,Axp hl L hF,Ju,Ps,e1,e2,Afr]
 congr 1
 by_cases h1:200<Gq l<;>by_cases h2:12<dSs l<;>simp[h1,h2]
def Abe(v:Az)(e:Aa)(l:List Int):Int:=if(Asm v e).2≠0 then(Asm v e).2 else if l.any (λt=>(Asm v e).1 == t)then 0 else 10
theorem Afq(L:Nat)(r1:Int×Int)(a2:List Int)(a1:Aa):∀(k:List Int) (i:Nat) (v:Int),∃j,Ee L r1 a2 a1 k i v=some (bif k.any (λt=>r1.1 == t) then(0,(0,j)) else(1,(v,j))):=by
 intro k
 induction k with
 |nil=>intro i v;exact⟨i,rfl⟩
 |cons x k ih=>
  intro i v;obtain⟨j,hj⟩:=ih (i+1) v;rw[Ee,hj,List.any_cons];cases r1.1 == x with
  |true=>exact⟨i,rfl⟩
  |false=>exact⟨j,rfl⟩
theorem Gu(L:Nat)(r:Am)(e:Aa)(l:List Int)(hr:Ki r.aF)(he:Co e)(hL:maxLen+dE e<L)(hl:l.length<=1048576):B7 L r e l=some (Abe r.aF e l):=by
 have hM:=Bp;obtain⟨j,hj⟩:=Afq L (Asm r.aF e) l e l 0 0;simp only[Yq,J5,J3,B7,J5,J3,aN,aB,Aa.cp_eq,Avw he r.aF hr L hL,Ady L _ l e L (by omega) (by omega),hj,Ju,Abe];by_cases h:(Asm r.aF e).2=0
 ·cases hb:l.any (λt=>(Asm r.aF e).1 == t)<;>simp[h,Sc,Ze]
 ·simp[h,Zs h]
theorem Aef(L:Nat)(r1:Int×Bool)(a2:List Int):∀(k:List Int) (i:Nat) (v:Int),∃j,Dz L r1 a2 k i v=some (bif k.any (λt=>r1.1 == t) then(0,(0,j)) else(1,(v,j))):=by
 intro k
 induction k with
 |nil=>intro i v;exact⟨i,rfl⟩
 |cons x k ih=>
  intro i v;obtain⟨j,hj⟩:=ih (i+1) v;rw[Dz,hj,List.any_cons];cases r1.1 == x with
  |true=>exact⟨i,rfl⟩
  |false=>exact⟨j,rfl⟩
def A2v(v:Az)(n:Yb)(found:Bool)(l:List Int):Int:=match Axa v.aL n with
 |none=>5
 |some t=>if found=false then 5 else if l.any (λx=>t == x)then 0 else 10
theorem Aim(L:Nat)(r:Am)(n:Yb)(found:Bool)(l:List Int)(hr:Ki r.aF)(hL:maxLen<L)(hl:l.length<=1048576):H5 L r n found l=some (A2v r.aF n found l):=by
 have hM:=Bp;have h2:=hr.2.1.1;obtain⟨j,hj⟩:=Aef L (o2 (Axa r.aF.aL n)) l l 0 0;simp only[S4,H5,X1,Jt,Js,Qo,Jt,Js,aN,aB,Ab1 L _ n h2 (by omega),Acu L _ l L (by omega) (by omega),hj,Ju,A2v,Tc];cases Axa r.aF.aL n with
 |none=>rfl
 |some t=>
  cases found with
  |false=>rfl
  |true=>cases hb:l.any (λx=>t == x)<;>simp[o2,hb,Sc,Ze]
theorem Aa3(L:Nat)(r:Am)(n k:Yb)(hr:Ki r.aF)(hL:maxLen<L):Ge L r n k=some (decide (Ago r.aF.aI n=k)):=by
 simp only[Wa,Ge,aN,aB,Aak L _ n hr.2.2.len hL,Ib,Ju]
def Aye(v:Az):List Aa->Int
 | []=>0
 |x::k=>if Abe v x [1]≠0 then Abe v x [1]else Aye v k
def l9(v:Az)(s:Ad)(kind:Yb)(l:List Aa):Int:=if Ago v.aI s.aG=kind then Aye v l else 5
theorem Afp(L:Nat)(r:Am)(a3:List Aa)(a1:Ad)(hr:Ki r.aF):∀(k:List Aa) (i:Nat) (v:Int),(∀x∈k,Co x/\maxLen+dE x<L)->∃j,D9 L r a3 a1 k i v=some (bif Aye r.aF k != 0 then(0,(Aye r.aF k,j)) else(1,(v,j))):=by
 intro k
 induction k with
 |nil=>intro i v _;exact⟨i,rfl⟩
 |cons x k ih=>
  intro i v h;obtain⟨j,hj⟩:=ih (i+1) v λy hy=>h y (by simp[hy]);obtain⟨h1,h2⟩:=h x (by simp);rw[D9,Gu L r x [1] hr h1 h2 (by simp),Ju,Aye,hj];by_cases hx:Abe r.aF x [1]=0
  ·exact⟨j,by simp[hx]⟩
  ·exact⟨i,by simp[hx,Zs hx]⟩
theorem Qx(L:Nat)(r:Am)(s:Ad)(kind:Yb)(l:List Aa)(hr:Ki r.aF)(hL:maxLen<L)(hl:l.length<=2)(h:∀x∈l,Co x/\maxLen+dE x<L):Cm L r s kind l=some (l9 r.aF s kind l):=by
 have hM:=Bp;obtain⟨j,hj⟩:=Afp L r l s hr l 0 0 h;simp only[Yp,J4,J2,Cm,J4,J2,aN,aB,Aa3 L r _ kind hr hL,Adx L r l s L (by omega) (by omega),hj,Ju,l9];by_cases hk:Ago r.aF.aI s.aG=kind
 ·by_cases hz:Aye r.aF l=0
  ·simp[hk,hz,Ze]
  ·simp[hk,Zs hz,Sc]
 ·simp[hk]
theorem Aip(L:Nat)(r:Am)(r1:Int×Bool)(s:Ad)(hr:Ki r.aF)(he:Co s.E)(hL:maxLen+dE s.E<L):∀(k:List Ai) (i:Nat) (v:Int),∃j,F7 L r r1 s k i v=some (match k.find? (λx=>decide (x.aG=s.aG)) with|some x=>(0,(Abe r.aF s.E [x.bL],j))|none=>(1,(v,j))):=by
 intro k
 induction k with
 |nil=>intro i v;exact⟨i,rfl⟩
 |cons x k ih=>
  intro i v;obtain⟨j,hj⟩:=ih (i+1) v;rw[F7,List.find?_cons,Ib];cases decide (x.aG=s.aG) with
  |true=>exact⟨i,by simp[Aa.cp_eq,Gu L r s.E [x.bL] hr he hL (by simp)]⟩
  |false=>exact⟨j,hj⟩
def Boo(v:Az)(s:Ad):Int:=match Axa v.aL s.aG with
 |some t=>Abe v s.E [t]
 |none=>match Bdb v.aI.bG s.aG with
  |some t=>Abe v s.E [t]
  |none=>5
theorem Ajl(L:Nat)(r:Am)(s:Ad)(hr:Ki r.aF)(he:Co s.E)(hL:maxLen+dE s.E<L):O2 L r s=some (Boo r.aF s):=by
 have hM:=Bp;have h2:=hr.2.1.1;have h4:=hr.2.2.len.1;obtain⟨j,hj⟩:=Aip L r (o2 (Axa r.aF.aL s.aG)) s hr he hL r.aF.aI.bG 0 0;have hw:∀t,B7 L r s.E [t]=some (Abe r.aF s.E [t]):=λt=>Gu L r s.E [t] hr he hL (by simp);simp only[Aav,Mb,L9,O2,Mb,L9,aN,aB,Aa.cp_eq,Ab1 L _ s.aG h2 (by omega),Afj L r _ s L h4 (by omega),hj,hw,Ju,Boo,Bdb];cases Axa r.aF.aL s.aG with
 |some t=>rfl
 |none=>
  cases r.aF.aI.bG.find? (λx=>decide (x.aG=s.aG)) with
  |some x=>rfl
  |none=>rfl
def Aul(v:Az):List Aa->List Ap->Int
 |x::k,p::ps=>if Abe v x [p.bL]≠0 then Abe v x [p.bL]else Aul v k ps
 |_,_=>0
def A6q(v:Az)(ps:List Ap)(s:Ad):Int:=if s.aS.length≠ps.length then 8 else if Aul v s.aS ps≠0 then Aul v s.aS ps else Abe v s.E [3]
theorem Agt(L:Nat)(r:Am)(s:Ad)(f:Al)(hr:Ki r.aF):∀(k:List Aa) (i:Nat) (v:Int),i+k.length=f.aJ.length->(∀x∈k,Co x/\maxLen+dE x<L)->∃j,Ez L r s f k i v=some (bif Aul r.aF k (f.aJ.drop i) != 0 then(0,(Aul r.aF k (f.aJ.drop i),j)) else(1,(v,j))):=by
 intro k
 induction k with
 |nil=>intro i v _ _;exact⟨i,rfl⟩
 |cons x k ih=>
  intro i v hi h;rw[List.length_cons]at hi;obtain⟨j,hj⟩:=ih (i+1) v (by omega) λy hy=>h y (by simp[hy]);obtain⟨h1,h2⟩:=h x (by simp);have hlt:i<f.aJ.length:=by omega
  rw[Ez,Jh (show(i:Int)<(f.aJ.length:Int) by omega),toN,Gu L r x _ hr h1 h2 (by simp),Ju,Azv f.aJ i hlt,Aul,hj];generalize f.aJ.getD i default=p;by_cases hx:Abe r.aF x [p.bL]=0
  ·exact⟨j,by simp[hx]⟩
  ·exact⟨i,by simp[hx,Zs hx]⟩
theorem Y5(L:Nat)(r:Am)(f:Al)(s:Ad)(hr:Ki r.aF)(h:SB L s):H4 L r f s=some (A6q r.aF f.aJ s):=by
 have hM:=Bp;have hL:=h.fuel;obtain⟨b1,b2,b3,b4⟩:=h.de;have hw:=Gu L r s.E [3] hr h.e b1 (by simp);simp only[Zw,Lo,Lj,H4,Lo,Lj,aN,aB,Aa.cp_eq,Aed L r s f L (by omega) (by omega),hw,A6q];by_cases hl:s.aS.length=f.aJ.length
 ·obtain⟨j,hj⟩:=Agt L r s f hr s.aS 0 0 (by omega) λx hx=>⟨h.args x hx,b3 x hx⟩;rw[List.drop_zero]at hj;have:((s.aS.length:Int) != (f.aJ.length:Int))=false:=by rw[hl];exact bne_self_eq_false _
  simp only[this,cond_false,hj,Ju,hl,ne_eq,not_true_eq_false,if_false];by_cases hz:Aul r.aF s.aS f.aJ=0
  ·simp[hz,Ze]
  ·simp[Zs hz,hz,Sc]
 ·have:((s.aS.length:Int) != (f.aJ.length:Int))=true:=Ayl (by omega);simp[this,hl]
theorem Av9(L:Nat)(l:List Ac)(m:Ag)(n:Yb):∀(k:List Ac) (i:Nat) (v:Int),M3 L l m n k i v=some (match k.findIdx? (λx=>x.aG.toList == n.toList) with|some j=>(0,(((i+j:Nat):Int),((i+j:Nat):Int)))|none=>(1,(v,((i+k.length:Nat):Int)))):=by
 intro k
 induction k with
 |nil=>intro i v;rfl
 |cons x k ih=>
  intro i v;rw[M3,ih,List.findIdx?_cons];cases hc:(λx=>x.aG.toList == n.toList) x with
  |true=>simp only[hc,cond_true,if_true];rfl
  |false=>
   simp only[hc,cond_false,if_false,Bool.false_eq_true];cases k.findIdx? (λx=>x.aG.toList == n.toList) with
   |some j=>simp[Nat.add_assoc,Nat.add_comm 1]
   |none=>simp[Nat.add_assoc,Nat.add_comm 1]
theorem Anb(L:Nat)(l:List Ac)(m:Ag)(n:Yb)(hl:l.length<=maxLen)(hL:l.length<L):Wp L l m n=some (P7 (l.findIdx? (λx=>decide (x.aG=n)))):=by
 simp only[Wp,Ai6,Ab4,aN,aB,Aq0 _ _ _ _ _ hl hL,Av9,Ib,Ju];cases l.findIdx? (λx=>decide (x.aG=n)) with
 |none=>rfl
 |some i=>simp[P7,Sc]
def Ajd(m:Ag)(n:Yb):Int:=P7 (m.aD.findIdx? λx=>decide (x.aG=n))
theorem Aal(L:Nat)(m:Ag)(n:Yb)(hl:m.aD.length<=maxLen)(hL:maxLen<L):Rx L m n=some (Ajd m n):=by
 simp only[Anz,Xa,Rx,Xa,aN,aB,Anb L _ m n hl (by omega),Ju,Ajd]
def Bjd(m:Ag)(a b:Yb):Option Bf:=m.bC.find? λl=>decide (l.dA=a) && decide (l.To=b)
theorem Av8(L:Nat)(p:List Bf)(m:Ag)(a b:Yb):∀(k:List Bf) (i:Nat) (v:Int),Mz L p m a b k i v=some (match k.findIdx? (λl=>decide (l.dA=a) && decide (l.To=b)) with|some j=>(0,(((i+j:Nat):Int),((i+j:Nat):Int)))|none=>(1,(v,((i+k.length:Nat):Int)))):=by
 intro k
 induction k with
 |nil=>intro i v;rfl
 |cons x k ih=>
  intro i v;rw[Mz,ih,List.findIdx?_cons,Ib,Ib,Og];cases hc:(decide (x.dA=a) && decide (x.To=b)) with
  |true=>simp
  |false=>
   cases k.findIdx? (λl=>decide (l.dA=a) && decide (l.To=b)) with
   |some j=>simp[Nat.add_assoc,Nat.add_comm 1]
   |none=>simp[Nat.add_assoc,Nat.add_comm 1]
theorem Akk{α :Type} [Inhabited α](p: α->Bool)(l:List α):l.find? p=(l.findIdx? p).map λi=>l.getD i default:=by
 induction l with
 |nil=>rfl
 |cons x l ih=>
  rw[List.find?_cons,List.findIdx?_cons];cases p x with
  |true=>rfl
  |false=>
   simp only[ih,Bool.false_eq_true,if_false];cases l.findIdx? p<;>simp
theorem Avd{α :Type}{p: α->Bool}{l:List α}{i:Nat}(h:l.findIdx? p=some i):i<l.length:=by
 obtain⟨h1,_⟩:=List.findIdx?_eq_some_iff_getElem.1 h;exact h1
def A68(m:Ag)(a b:Yb):Int×Bool:=match Bjd m a b with
 |some l=>(l.fA,true)
 |none=>(0,false)
theorem Afm(L:Nat)(m:Ag)(a b:Yb)(hl:m.bC.length<=maxLen)(hL:maxLen<L):Yd L m a b=some (A68 m a b):=by
 simp only[Any,W9,Yd,W9,Abk,Ai5,Ab3,aN,aB,Aqz L m.bC m a b L hl (by omega),Av8,Ju,A68,Bjd,Akk];cases hf:m.bC.findIdx? (λl=>decide (l.dA=a) && decide (l.To=b)) with
 |none=>rfl
 |some i=>
  have hi:=Avd hf;have h1:decide ((i:Int)<0)=false:=decide_eq_false (by omega);simp only[Sc,Ju,Nat.zero_add,h1,cond_false,nn,if_true,Ua hi,toN,Option.map_some]
structure MB (L:Nat) (m:Ag) (v:Az):Prop where
 fuel:maxLen<L
 ev:Ki v
 st:Aeb v.aI 1099511627776
 sites:m.aD.length<=1099511627776
 links:m.bC.length<=1099511627776
 each:∀d∈m.aD,Aeb d 1099511627776
theorem Aeb.max{s:Ac}(h:Aeb s 1099511627776):Aeb s maxLen:=h.mono (by rw[Bp];omega)
def A7n(s:Ac)(n:Yb):Option (List Ap):=(s.aA.find? λx=>decide (x.aG=n)).map (·.aJ)
def A5y(v:Az)(s:Ad):Int:=match A7n v.aI s.aG with
 |none=>5
 |some ps=>A6q v ps s
def Apm(m:Ag)(v:Az)(s:Ad):Int:=match m.aD.find? (λx=>decide (x.aG=s.Of)) with
 |none=>5
 |some d=>match A7n d s.aG with
  |none=>5
  |some ps=>if(A68 m v.aI.aG s.Of).2=true then A6q v ps s else 16
def Av1(m:Ag)(v:Az)(s:Ad):Int:=
 if s.Op=1 then Boo v s
 else if s.Op=2 then A2v v s.aG (decide (Ago v.aI s.Of=Aqq)) [1,3]
 else if s.Op=3\/s.Op=4 then Abe v s.E [2]
 else if s.Op=5 then Abe v s.E [3]
 else if s.Op=6 then l9 v s T8 [s.E,s.F]
 else if s.Op=7 then l9 v s T8 [s.E]
 else if s.Op=8 then l9 v s Agq [s.E]
 else if s.Op=9 then A2v v s.Of (decide (Ago v.aI s.aG=Agq)) [1]
 else if s.Op=10 then l9 v s Az8 []
 else if s.Op=11 then l9 v s Agp []
 else if s.Op=12 then l9 v s Agp [s.E]
 else if s.Op=13 then Apm m v s
 else if s.Op=14 then A5y v s
 else if s.Op=15 then(if Ago v.aI s.aG=Aop then Abe v s.E [1,3]else 5)
 else if s.Op=16 then l9 v s Avg [s.E]
 else if s.Op=17 then l9 v s Avf [s.E]
 else 0
theorem Ako{α :Type}(l:List α)(p: α->Bool):decide (P7 (l.findIdx? p)<0)=(l.findIdx? p).isNone:=by
 cases l.findIdx? p with
 |none=>rfl
 |some i=>exact decide_eq_false (by simp[P7])
theorem Aio(L:Nat)(r:Am)(s:Ad)(hm:MB L r.bM r.aF)(hs:SB L s):Oa L r s=some (Apm r.bM r.aF s):=by
 have hM:=Bp;have h1:=hm.sites;have h2:=hm.links;have hL:=hm.fuel;simp only[S5,Oa,aN,aB,Ad.cp_eq,Aal L r.bM s.Of (by omega) hL,Afm L r.bM _ _ (show r.bM.bC.length<=maxLen by omega) hL,Ju,Apm,Akk,Ajd,Ako];cases hf:r.bM.aD.findIdx? (λx=>decide (x.aG=s.Of)) with
 |none=>rfl
 |some i=>
  have hi:=Avd hf;have hd:Aeb (r.bM.aD.getD i default) 1099511627776:=hm.each _ (by rw[Hj _ i hi];exact List.getElem_mem hi);simp only[Option.isNone_some,cond_false,P7,nn,if_true,Ua hi,toN,Option.map_some,Hk L _ s.aG hd.max.2.2.2.2.2.2.2.2.2 (Nat.lt_of_le_of_lt hd.max.2.2.2.2.2.2.2.2.2 hL),Ju,Aa8,Ako,A7n,Akk];cases hg:(r.bM.aD.getD i default).aA.findIdx? (λx=>decide (x.aG=s.aG)) with
  |none=>rfl
  |some j=>
   have hj:=Avd hg;simp only[Option.isNone_some,cond_false,P7,nn,if_true,Ua hj,toN,Option.map_some,Y5 L r _ s hm.ev hs,Ju];cases (A68 r.bM r.aF.aI.aG s.Of).2<;>rfl
theorem Ajk(L:Nat)(r:Am)(s:Ad)(hm:MB L r.bM r.aF)(hs:SB L s):Lp L r s=some (Av1 r.bM r.aF s):=by
 have hM:=Bp;have hL:=hm.fuel;have hv:=hm.ev;obtain⟨b1,b2,b3,b4⟩:=hs.de;have w:∀l:List Int,l.length<=2->B7 L r s.E l=some (Abe r.aF s.E l):=λl hl=>Gu L r s.E l hv hs.e b1 (by omega);have n1:∀k,Cm L r s k [s.E]=some (l9 r.aF s k [s.E]):=λk=>Qx L r s k [s.E] hv hL (by simp) λx hx=>by
  simp only[List.mem_singleton]at hx;subst hx;exact⟨hs.e,b1⟩
 have n2:∀k,Cm L r s k [s.E,s.F]=some (l9 r.aF s k [s.E,s.F]):=λk=>Qx L r s k [s.E,s.F] hv hL (by simp) λx hx=>by
  simp only[List.mem_cons,List.not_mem_nil,or_false]at hx;rcases hx with rfl|rfl
  ·exact⟨hs.e,b1⟩
  ·exact⟨hs.f,b2⟩
 have n0:∀k,Cm L r s k []=some (l9 r.aF s k []):=λk=>Qx L r s k [] hv hL (by simp) λx hx=>by cases hx
 have q:∀n k,Ge L r n k=some (decide (Ago r.aF.aI n=k)):=λn k=>Aa3 L r n k hv hL;have i:∀n b l,l.length<=2->H5 L r n b l=some (A2v r.aF n b l):=λn b l hl=>Aim L r n b l hv hL (by omega);have hr9:(r.aF.aI.aA).length<=maxLen:=hm.st.max.2.2.2.2.2.2.2.2.2;have hsp:(Option.bind (Ej L r.aF.aI s.aG) λr15=>bif decide (r15<0)then some 5 else if(0:Int)<=r15 then if r15<((r.aF.aI.aA.length:Nat):Int)then Option.bind (H4 L r (r.aF.aI.aA.getD (Int.toNat r15) default) s) λr16=>some r16 else none else none)=some (A5y r.aF s):=by
  simp only[Hk L _ s.aG hr9 (by omega),Ju,Aa8,Ako,A5y,A7n,Akk];cases hg:r.aF.aI.aA.findIdx? (λx=>decide (x.aG=s.aG)) with
  |none=>rfl
  |some j=>
   have hj:=Avd hg;simp only[Option.isNone_some,cond_false,P7,nn,if_true,Ua hj,toN,Option.map_some,Y5 L r _ s hv hs,Ju]
 simp only[Ma,sx_typing_routine_own_0,Aau,Lp,aN,aB,Ad.cp_eq,Aa.cp_eq,Ajl L r s hv hs.e b1,q,i _ _ [1,3] (by simp),i _ _ [1] (by simp),w [2] (by simp),w [3] (by simp),w [1,3] (by simp),n0,n1,n2,Aio L r s hm hs,hsp,Ju];unfold Av1;rcases Apr s.Op with h|h|h|h|h|h|h|h|h|h|h|h|h|h|h|h|h|h|h|h
 case inr.inr.inr.inr.inr.inr.inr.inr.inr.inr.inr.inr.inr.inr.inr.inr.inr.inr.inl=>
  have h':s.Op<1\/18<s.Op:=.inl h;simp only[cond_false,A9 h' 1 (by decide) (by decide),A9 h' 2 (by decide) (by decide),A9 h' 3 (by decide) (by decide),A9 h' 4 (by decide) (by decide),A9 h' 5 (by decide) (by decide),A9 h' 6 (by decide) (by decide),A9 h' 7 (by decide) (by decide),A9 h' 8 (by decide) (by decide),A9 h' 9 (by decide) (by decide),A9 h' 10 (by decide) (by decide),A9 h' 11 (by decide) (by decide),A9 h' 12 (by decide) (by decide),A9 h' 13 (by decide) (by decide),A9 h' 14 (by decide) (by decide),A9 h' 15 (by decide) (by decide),A9 h' 16 (by decide) (by decide),A9 h' 17 (by decide) (by decide)]
  repeat rw[if_neg (by omega)]
 case inr.inr.inr.inr.inr.inr.inr.inr.inr.inr.inr.inr.inr.inr.inr.inr.inr.inr.inr=>
  have h':s.Op<1\/18<s.Op:=.inr h;simp only[cond_false,A9 h' 1 (by decide) (by decide),A9 h' 2 (by decide) (by decide),A9 h' 3 (by decide) (by decide),A9 h' 4 (by decide) (by decide),A9 h' 5 (by decide) (by decide),A9 h' 6 (by decide) (by decide),A9 h' 7 (by decide) (by decide),A9 h' 8 (by decide) (by decide),A9 h' 9 (by decide) (by decide),A9 h' 10 (by decide) (by decide),A9 h' 11 (by decide) (by decide),A9 h' 12 (by decide) (by decide),A9 h' 13 (by decide) (by decide),A9 h' 14 (by decide) (by decide),A9 h' 15 (by decide) (by decide),A9 h' 16 (by decide) (by decide),A9 h' 17 (by decide) (by decide)]
  repeat rw[if_neg (by omega)]
 all_goals (rw[h];first|rfl|(simp;done)|(simp;split<;>simp_all [Aop]))
mutual
def tyS(m:Ag)(v:Az):Ad->Int
 | .mk a b c d e f g h i j=>if Av1 m v (.mk a b c d e f g h i j)≠0 then Av1 m v (.mk a b c d e f g h i j)else if P9 m v i≠0 then P9 m v i else P9 m v j
def P9(m:Ag)(v:Az):List Ad->Int
 | []=>0
 |x::k=>if tyS m v x≠0 then tyS m v x else P9 m v k
end
theorem Bc8(m:Ag)(v:Az)(s:Ad):tyS m v s=if Av1 m v s≠0 then Av1 m v s else if P9 m v s.aK≠0 then P9 m v s.aK else P9 m v s.aY:=by cases s;rw[tyS];rfl
theorem MB.mono{L L':Nat}{m:Ag}{v:Az}(h:MB L m v)(hl:maxLen<L'):MB L' m v:=⟨hl,h.ev,h.st,h.sites,h.links,h.each⟩
theorem Agu(rec:Am->List Ad->Option Int)(L:Nat)(r:Am)(a0:List Ad)(hm:MB L r.bM r.aF):∀(k:List Ad) (i:Nat) (v:Int),(∀x∈k,SB L x/\rec r x.aK=some (P9 r.bM r.aF x.aK)/\rec r x.aY=some (P9 r.bM r.aF x.aY))->∃j,E5 rec L r a0 k i v=some (bif P9 r.bM r.aF k != 0 then(0,(P9 r.bM r.aF k,j)) else(1,(v,j))):=by
 intro k
 induction k with
 |nil=>intro i v _;exact⟨i,rfl⟩
 |cons x k ih=>
  intro i v h;obtain⟨h0,h1,h2⟩:=h x (by simp);obtain⟨j,hj⟩:=ih (i+1) v λy hy=>h y (by simp[hy]);rw[E5];simp only[Ajk L r x hm h0,h1,h2,hj,Ju,P9,Bc8];by_cases e1:Av1 r.bM r.aF x=0
  ·by_cases e2:P9 r.bM r.aF x.aK=0
   ·by_cases e3:P9 r.bM r.aF x.aY=0
    ·exact⟨j,by simp[e1,e2,e3]⟩
    ·exact⟨i,by simp[e1,e2,e3,Zs e3]⟩
   ·exact⟨i,by simp[e1,e2,Zs e2]⟩
  ·exact⟨i,by simp[e1,Zs e1]⟩
theorem Ain{l:List Ad}(hl:∀y∈l,B3 y)(r:Am)(hm:MB (maxLen+1) r.bM r.aF):∀L,Fu L l->D1 L r l=some (P9 r.bM r.aF l):=by
 refine Zf (M:=λl=>∀L,Fu L l->D1 L r l=some (P9 r.bM r.aF l)) ?_ hl;intro l ih L hF;obtain⟨L,rfl⟩:=hF.pos;obtain⟨n1,n2,n3⟩:=hF.len;have hm':MB L r.bM r.aF:=hm.mono (by obtain⟨f1,f2⟩:=hF;omega);obtain⟨j,hj⟩:=Agu (D1 L) L r l hm' l 0 0 λx hx=>⟨hF.sb hx (ih x hx).1,(ih x hx).2.1 L (hF.kid hx).1,(ih x hx).2.2 L (hF.kid hx).2⟩;simp only[Zx,Lk,Sz,D1,Lk,aN,aB,Aee _ L r l L n1 n2,hj,Ju];by_cases h:P9 r.bM r.aF l=0
 ·simp[h,Ze]
 ·simp[Zs h,Sc]
def Xv(m:Ag)(site:Int)(locals:List Ap)(l:List Ad):Int:=
 if Afr l≠0 then Afr l else if site<0\/(m.aD.length:Int)<=site then 2 else P9 m ⟨m.aJ,locals,m.aD.getD site.toNat default⟩ l
theorem Akv{m:Ag}(hb:Hi m<=1048576):m.aD.length<=1048576/\m.bC.length<=1048576/\∀d∈m.aD,Ek d+Ic R2 m.aJ+4<=Hi m:=by
 unfold Hi at*
 have h1:m.aD.length<=Ic Ek m.aD:=Hr λx=>by unfold Ek;omega
 have h2:m.bC.length<=Ic Aaw m.bC:=Hr λx=>by unfold Aaw;omega
 refine⟨by omega,by omega,λd hd=>?_⟩;have:=Ad5 (g:=Ek) hd;omega
theorem Ao4{m:Ag}(ho:Uk m)(hb:Hi m<=1048576){locals:List Ap}(hl:locals.length<=maxLen/\∀y∈locals,I8 y){i:Nat}(hi:i<m.aD.length):MB (maxLen+1) m ⟨m.aJ,locals,m.aD.getD i default⟩:=by
 obtain⟨s1,s2,s3⟩:=Akv hb;have each:∀d∈m.aD,Aeb d 1099511627776:=λd hd=>(A2z d).mono (by have:=s3 d hd;omega);have hd:m.aD.getD i default∈m.aD:=by rw[Hj _ i hi];exact List.getElem_mem hi
 exact⟨by omega,⟨ho.2.1,hl,ho.2.2.1.2 _ hd⟩,each _ hd,by omega,by omega,each⟩
theorem W3{m:Ag}(ho:Uk m)(hb:Hi m<=1048576){locals:List Ap}(hc:locals.length<=maxLen/\∀y∈locals,I8 y)(site:Int){l:List Ad}(hl:∀y∈l,B3 y)(L:Nat)(hF:Fu L l):C0 L m site locals l=some (Xv m site locals l):=by
 simp only[Adh,C0,aN,aB,Amg hl L hF,Ju,Tc,Xv];by_cases h0:Afr l=0
 ·simp only[h0,bne_self_eq_false,cond_false,ne_eq,not_true_eq_false,if_false];by_cases h1:site<0\/(m.aD.length:Int)<=site
  ·have:(decide (site<0) || decide (site>=(m.aD.length:Int)))=true:=by rcases h1 with h|h<;>simp[h]
   simp only[this,cond_true,if_pos h1]
  ·have h2:¬site<0:=λh=>h1 (.inl h);have h3:¬(m.aD.length:Int)<=site:=λh=>h1 (.inr h);have:(decide (site<0) || decide (site>=(m.aD.length:Int)))=false:=by simp;omega
   simp only[this,cond_false,if_neg h1];rw[Jh (by omega),Jh (by omega)];rw[Ain hl ⟨m,site,⟨m.aJ,locals,m.aD.getD site.toNat default⟩⟩ (Ao4 ho hb hc (by omega)) L hF,Ju]
 ·simp only[Zs h0,cond_true,if_pos h0]
end Go.Proofs.YtgacplpjamkieaaGreat.Ev
