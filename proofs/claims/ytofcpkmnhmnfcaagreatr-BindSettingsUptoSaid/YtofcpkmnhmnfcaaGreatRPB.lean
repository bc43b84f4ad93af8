/-  Chapter 7, plainly: names. -/
import Derived.Test.YtofcpkmnhmnfcaaGreatRQA
import Derived.Test.YtofcpkmnhmnfcaaGreatRR0
namespace Go.Proofs.YtofcpkmnhmnfcaaGreatR.Ev
open Go An
set_option maxRecDepth 100000
set_option linter.unusedVariables false
set_option linter.unusedSimpArgs false
set_option linter.unnecessarySimpa false
def A4w(z:Int):Bool:=decide (97≤z) && decide (z≤122)
def okZ(z:Int):Bool:=A4w z || z == 95 || (decide (48≤z) && decide (z≤57))
def A2b(a:ByteArray)(i:Nat):Int:=Iv a[i]?
def Afl(a:ByteArray):Nat→Nat→Bool
 |_,0=>true
 |i,m+1=>okZ (A2b a i) && Afl a (i+1) m
def kws:List ByteArray:= [(⟨#[97,100,100]⟩:ByteArray),(⟨#[97,102,116,101,114]⟩:ByteArray),(⟨#[97,110,100]⟩:ByteArray),(⟨#[97,116]⟩:ByteArray),(⟨#[98,101,108,116]⟩:ByteArray),(⟨#[98,111,111,108]⟩:ByteArray),(⟨#[99,111,110,115,101,114,118,101]⟩:ByteArray),(⟨#[99,111,110,115,116]⟩:ByteArray),(⟨#[99,111,117,110,116]⟩:ByteArray),(⟨#[99,121,99,108,101]⟩:ByteArray),(⟨#[100,111,119,110]⟩:ByteArray),(⟨#[100,114,97,119]⟩:ByteArray),(⟨#[100,117,114]⟩:ByteArray),(⟨#[101,108,115,101]⟩:ByteArray),(⟨#[101,110,100]⟩:ByteArray),(⟨#[101,118,101,114,121]⟩:ByteArray),(⟨#[102,97,108,115,101]⟩:ByteArray),(⟨#[102,97,117,108,116]⟩:ByteArray),(⟨#[102,105,102,111]⟩:ByteArray),(⟨#[102,114,101,101]⟩:ByteArray),(⟨#[102,114,111,109]⟩:ByteArray),(⟨#[103,101,111,109]⟩:ByteArray),(⟨#[103,101,116]⟩:ByteArray),(⟨#[104,111,108,100]⟩:ByteArray),(⟨#[105,102]⟩:ByteArray),(⟨#[105,110,116]⟩:ByteArray),(⟨#[105,110,116,111]⟩:ByteArray),(⟨#[108,101,97,115,116]⟩:ByteArray),(⟨#[108,101,118,101,108]⟩:ByteArray),(⟨#[108,105,102,111]⟩:ByteArray),(⟨#[108,105,110,107]⟩:ByteArray),(⟨#[108,111,99,97,108]⟩:ByteArray),(⟨#[109,97,120]⟩:ByteArray),(⟨#[109,105,110]⟩:ByteArray),(⟨#[109,111,100,101,108]⟩:ByteArray),(⟨#[110,111,116]⟩:ByteArray),(⟨#[110,111,119]⟩:ByteArray),(⟨#[111,98,115,101,114,118,101]⟩:ByteArray),(⟨#[111,114]⟩:ByteArray),(⟨#[112,97,114,97,109]⟩:ByteArray),(⟨#[112,114,101,101,109,112,116]⟩:ByteArray),(⟨#[112,114,105,111]⟩:ByteArray),(⟨#[112,117,116]⟩:ByteArray),(⟨#[113,117,101,117,101]⟩:ByteArray),(⟨#[114,101,108,101,97,115,101]⟩:ByteArray),(⟨#[114,101,115,111,117,114,99,101]⟩:ByteArray),(⟨#[114,105,100,101]⟩:ByteArray),(⟨#[114,111,117,116,105,110,101]⟩:ByteArray),(⟨#[115,101,105,122,101]⟩:ByteArray),(⟨#[115,101,110,100]⟩:ByteArray),(⟨#[115,101,116]⟩:ByteArray),(⟨#[115,104,105,102,116]⟩:ByteArray),(⟨#[115,105,103,110,97,108]⟩:ByteArray),(⟨#[115,105,116,101]⟩:ByteArray),(⟨#[115,105,122,101]⟩:ByteArray),(⟨#[115,112,97,119,110]⟩:ByteArray),(⟨#[115,116,97,114,116]⟩:ByteArray),(⟨#[115,116,111,112]⟩:ByteArray),(⟨#[115,116,111,114,101]⟩:ByteArray),(⟨#[115,116,114,101,97,109]⟩:ByteArray),(⟨#[115,117,109]⟩:ByteArray),(⟨#[116,97,98,108,101]⟩:ByteArray),(⟨#[116,97,108,108,121]⟩:ByteArray),(⟨#[116,105,99,107,115]⟩:ByteArray),(⟨#[116,105,109,101]⟩:ByteArray),(⟨#[116,114,117,101]⟩:ByteArray),(⟨#[117,110,105,102,111,114,109]⟩:ByteArray),(⟨#[117,110,116,105,108]⟩:ByteArray),(⟨#[117,112]⟩:ByteArray),(⟨#[118,97,114]⟩:ByteArray),(⟨#[119,97,105,116]⟩:ByteArray),(⟨#[119,97,105,116,105,110,103]⟩:ByteArray),(⟨#[119,104,105,108,101]⟩:ByteArray)]
def At7(s:ByteArray):Bool:=kws.any fun w=>decide (s=w)
def A3f(s:ByteArray):Bool:=decide (1≤s.size) && decide (s.size≤24) && A4w (A2b s 0) && !At7 s && Afl s 0 s.size
def Ue(s:ByteArray):Int:=bif A3f s then 0 else 3
theorem Adh(L:Nat)(z:Int):Vc L z=some (A4w z):=by
 simp only [Aem,Vc,aN,aB,A4w,Ny]
theorem B12{c b:Bool}{X:Option Bool}(h:X=some b):(bif c then (bif c then some true else some false) else X)=some (c || b):=by cases c<;>simp [h]
theorem B50{c b:Bool}{X:Option Bool}(h:X=some b):(bif c then some true else X)=some (c || b):=by cases c<;>simp [h]
set_option maxRecDepth 10000 in
theorem Awu(L:Nat)(s:ByteArray):X4 L s=some (At7 s):=by
 simp only [Acu,X4,aN,aB,Jo,At7,kws,List.any_cons,List.any_nil]
 repeat (first|exact B12 rfl|refine B12 ?_|refine B50 ?_)
 rfl
theorem Cf0(L:Nat)(a:ByteArray)(hs:a.size≤maxLen):∀(m i n:Nat) (v:Int),i+m=a.size→m < n→
  ∃j,Ks L a n v i=some (bif Afl a i m then (1,(v,j)) else (0,(3,j))):=by
 intro m
 induction m with
 |zero=>
  intro i n v hi hn
  obtain ⟨n,rfl⟩:∃k,n=k+1:=⟨n - 1,by omega⟩
  exact ⟨i,by simp only [Ks,Rn,aN,aB,Afl,F0 (show a.size≤i by omega),cond_true,cond_false]⟩
 |succ m ih=>
  intro i n v hi hn
  obtain ⟨n,rfl⟩:∃k,n=k+1:=⟨n - 1,by omega⟩
  have hlt:i < a.size:=by omega
  obtain ⟨j,hj⟩:=ih (i+1) n v (by omega) (by omega)
  have hb:=Ce4 hlt
  cases hc:okZ (A2b a i) with
  |true=>
   refine ⟨j,?_⟩
   have e:Afl a i (m+1)=Afl a (i+1) m:=by simp only [Afl,hc,Bool.true_and]
   simp only [Ks,Rn,aN,aB,F1 hlt,nn,toN,if_true,hb,cond_true,Adh,Option.bind_some,Bd hlt hs,hj,e,Ny,Zl]
   rw [show ((!A4w (Iv a[i]?) && (decide (Iv a[i]? < 48) || decide (Iv a[i]? > 57))) && Iv a[i]? != 95)=false from ?_]
   ·rfl
   ·revert hc;unfold okZ A2b
    generalize Iv a[i]? =z
    cases A4w z<;>simp<;>omega
  |false=>
   refine ⟨i,?_⟩
   have e:Afl a i (m+1)=false:=by simp only [Afl,hc,Bool.false_and]
   simp only [Ks,Rn,aN,aB,F1 hlt,nn,toN,if_true,hb,cond_true,Adh,Option.bind_some,Bd hlt hs,hj,e,Ny,Zl]
   rw [show ((!A4w (Iv a[i]?) && (decide (Iv a[i]? < 48) || decide (Iv a[i]? > 57))) && Iv a[i]? != 95)=true from ?_]
   ·rfl
   ·revert hc;unfold okZ A2b
    generalize Iv a[i]? =z
    cases A4w z<;>simp<;>omega
theorem Vk(L:Nat)(s:ByteArray)(hs:okS s)(hL:s.size < L):C9 L s=some (Ue s):=by
 obtain ⟨j,hj⟩:=Cf0 L s hs s.size 0 L 0 (by omega) hL
 have e0:decide ((s.size:Int) > 24)= !decide (s.size≤24):=by
  by_cases h:s.size≤24
  ·rw [decide_eq_false (by omega),decide_eq_true h];rfl
  ·rw [decide_eq_true (by omega),decide_eq_false h];rfl
 simp only [Aqa,Xd,R8,C9,Xd,R8,aN,aB,Jo,Bk7,Adh,Awu,Option.bind_some,Oe,Zl,e0]
 by_cases h0:s.size=0
 ·have:A3f s=false:=by unfold A3f;rw [decide_eq_false (show¬1≤s.size by omega)];rfl
  simp [h0,Ue,this]
 ·have hb:=Ce4 (show 0 < s.size by omega)
  have e1:A3f s=(decide (s.size≤24) && A4w (A2b s 0) && !At7 s && Afl s 0 s.size):=by unfold A3f;rw [decide_eq_true (show 1≤s.size by omega)];rfl
  simp only [Int.ofNat_zero,Int.natCast_zero] at hj
  simp only [h0,decide_false,Bool.false_or,Int.le_refl,Nat.le_refl,if_true,Int.toNat_zero,hb,cond_true,hj,Option.bind_some,Ue,e1,A2b]
  cases decide (s.size≤24)<;>cases A4w (Iv s[0]?)<;>cases At7 s<;>cases Afl s 0 s.size<;>rfl
mutual
def dE:Ab→Nat
 | .mk _ _ _ k=>dEs k+1
def dEs:List Ab→Nat
 | []=>0
 |x::k=>max (dE x) (dEs k)
end
theorem Ao8{x:Ab}{k:List Ab}(h:x∈k):dE x≤dEs k:=by
 induction k with
 |nil=>cases h
 |cons a k ih=>
  rw [dEs]
  rcases List.mem_cons.1 h with rfl|h
  ·omega
  ·have:=ih h;omega
mutual
def k6:Ab→Int
 | .mk _ _ _ k=>Awr k 1
def Awr:List Ab→Int→Int
 | [],n=>n
 |x::k,n=>Awr k (B6 (n+k6 x))
end
mutual
def Akr:Ab→Int
 | .mk _ _ _ k=>B6 (A7r k 0+1)
def A7r:List Ab→Int→Int
 | [],n=>n
 |x::k,n=>A7r k (if Akr x > n then Akr x else n)
end
def Ayi(op:Int):Int:=
 if op=1∨op=2∨op=3∨op=4 then 0 else if 5≤op∧op≤8 then 1 else if 9≤op∧op≤21 then 2 else if 22≤op∧op≤26 then 0 else -1
def Bi6(op:Int):Bool:=decide (22≤op) && decide (op≤24)
def inZ(n:Int):Bool:=decide (-1000000000000≤n) && decide (n≤1000000000000)
def A0b(c:Bool)(op:Int):Bool:=if op=3 then !c else if op=25∨op=26 then c else decide (0≤Ayi op)
def Aup(c:Bool)(op:Int):Bool:=op == 3 || (Bi6 op && !c)
def A77(c:Bool)(op:Int):Option Int:=if op=2 then some 1 else if op=25 then some 15 else if op=26 then some 31 else if Bi6 op && c then some 63 else none
def Atw(c:Bool)(e:Ab):Bool:= !A0b c e.Op || decide ((e.Kids.length:Int)≠Ayi e.Op) || (!decide (e.Name=⟨#[]⟩) && !Aup c e.Op)
def Ayv(c:Bool)(e:Ab):Int:=
 if Atw c e=true then 1
 else if e.Op=1 then (if inZ e.N then 0 else 2)
 else match A77 c e.Op with
  |none=>if e.N≠0 then 1 else if Aup c e.Op then Ue e.Name else 0
  |some hi=>if e.N < 0∨hi < e.N then 2 else if Aup c e.Op then Ue e.Name else 0
mutual
def Avk(c:Bool):Ab→Int
 | .mk op nm n k=>if Ayv c (.mk op nm n k)≠0 then Ayv c (.mk op nm n k) else A4t c k
def A4t(c:Bool):List Ab→Int
 | []=>0
 |x::k=>if Avk c x≠0 then Avk c x else A4t c k
end
def Nz(c:Bool)(e:Ab):Int:=if k6 e > 60 then 6 else if Akr e > 12 then 11 else Avk c e
theorem Bzu(op:Int):op=1∨op=2∨op=3∨op=4∨op=5∨op=6∨op=7∨op=8∨op=9∨op=10∨op=11∨op=12∨op=13∨op=14∨op=15∨op=16∨op=17∨op=18∨op=19∨op=20∨op=21∨op=22∨op=23∨op=24∨op=25∨op=26∨op < 1∨26 < op:=by omega
theorem Aus(L:Nat)(op:Int):Zj L op=some (Ayi op):=by
 simp only [Amv,Zj,aN,aB,Ayi,Ny,Zl,Oe]
 congr 1
 grind
theorem An8(L:Nat)(op:Int):Xr L op=some (Bi6 op):=by
 simp only [Ahn,Xr,aN,aB,Bi6,Ny]
theorem Ask(L:Nat)(k:Bi)(op:Int):T3 L k op=some (A0b k.u_code op):=by
 simp only [Z3,T3,aN,aB,A0b,Aus,Option.bind_some,Oe]
 congr 1
 grind
theorem Asl(L:Nat)(k:Bi)(op:Int):Lq L k op=some (Aup k.u_code op):=by
 simp only [Z4,Lq,aN,aB,Aup,An8,Option.bind_some,Oe,Zl,Ny]
theorem Apc(L:Nat)(n:Int):Ab5 L n=some (inZ n):=by
 simp only [A15,Ab5,aN,aB,inZ,Ny]
theorem An7(L:Nat)(k:Bi)(op:Int):Mm L k op=some (match A77 k.u_code op with|some hi=>(0,hi,true)|none=>(0,0,false)):=by
 simp only [Xl,Mm,aN,aB,A77,An8,Option.bind_some,Oe,Ny]
 congr 1
 grind
theorem Aut(L:Nat)(k:Bi)(e:Ab)(hn:okS e.Name)(hL:e.Name.size < L):Vp L k e=some (Ayv k.u_code e):=by
 simp only [u9,Vp,aN,aB,Ask,Aus,Asl,Apc,An7,Option.bind_some,Vk L e.Name hn hL,Oe,Jo,Ny,Zl,Ayv,Atw]
 congr 1
 cases A77 k.u_code e.Op<;>grind
theorem A3u(Bbt:Ab→Option Int)(L:Nat)(a0:Ab):∀(k:List Ab) (i:Nat) (v:Int),(∀x∈k,Bbt x=some (k6 x))→∃j,Mh Bbt L a0 k i v=some (0,(Awr k v,j)):=by
 intro k
 induction k with
 |nil=>intro i v _;exact ⟨_,rfl⟩
 |cons x k ih=>
  intro i v h
  obtain ⟨j,hj⟩:=ih (i+1) (B6 (v+k6 x)) fun y hy=>h y (by simp [hy])
  exact ⟨j,by simp only [Mh,h x (by simp),Option.bind_some,hj,Awr]⟩
theorem A41{e:Ab}(h:Cn e):∀L,maxLen+dE e < L→M6 L e=some (k6 e):=by
 induction h with
 |mk a0 a1 a2 a3 h0 h1 h2 h3 h4 ih=>
  intro L hL
  obtain ⟨L,rfl⟩:∃k,L=k+1:=⟨L - 1,by omega⟩
  rw [dE] at hL
  have hr:∀x∈a3,M6 L x=some (k6 x):=fun x hx=>ih x hx L (by have:=Ao8 hx;omega)
  obtain ⟨j,hj⟩:=A3u (M6 L) L (.mk a0 a1 a2 a3) a3 0 1 hr
  simp only [Ath,Ta,Aj8,M6,Ta,aN,aB,Ab.cp_eq,Ab.Op,Ab.Name,Ab.N,Ab.Kids,Ab.eta,Av7 _ _ (.mk a0 a1 a2 a3) _ h3 (show a3.length < L by omega),hj,Option.bind_some,Nb,k6]
theorem A3t(B2e:Ab→Option Int)(L:Nat)(a0:Ab):∀(k:List Ab) (i:Nat) (v:Int),(∀x∈k,B2e x=some (Akr x))→∃j,Mg B2e L a0 k i v=some (0,(A7r k v,j)):=by
 intro k
 induction k with
 |nil=>intro i v _;exact ⟨_,rfl⟩
 |cons x k ih=>
  intro i v h
  obtain ⟨j,hj⟩:=ih (i+1) (if Akr x > v then Akr x else v) fun y hy=>h y (by simp [hy])
  exact ⟨j,by simp only [Mg,h x (by simp),Option.bind_some,hj,A7r]⟩
theorem A40{e:Ab}(h:Cn e):∀L,maxLen+dE e < L→M5 L e=some (Akr e):=by
 induction h with
 |mk a0 a1 a2 a3 h0 h1 h2 h3 h4 ih=>
  intro L hL
  obtain ⟨L,rfl⟩:∃k,L=k+1:=⟨L - 1,by omega⟩
  rw [dE] at hL
  have hr:∀x∈a3,M5 L x=some (Akr x):=fun x hx=>ih x hx L (by have:=Ao8 hx;omega)
  obtain ⟨j,hj⟩:=A3t (M5 L) L (.mk a0 a1 a2 a3) a3 0 0 hr
  simp only [Atg,S9,Aj7,M5,S9,aN,aB,Ab.cp_eq,Ab.Op,Ab.Name,Ab.N,Ab.Kids,Ab.eta,Av6 _ _ (.mk a0 a1 a2 a3) _ h3 (show a3.length < L by omega),hj,Option.bind_some,Nb,Akr]
theorem Apw(B2f:Bi→Ab→Option Int)(L:Nat)(a1:Ab)(c:Bi):∀(k:List Ab) (i:Nat) (v:Int),(∀x∈k,B2f c x=some (Avk c.u_code x))→∃j,E7 B2f L a1 c k i v=some (bif A4t c.u_code k != 0 then (0,(A4t c.u_code k,j)) else (1,(v,j))):=by
 intro k
 induction k with
 |nil=>intro i v _;exact ⟨i,rfl⟩
 |cons x k ih=>
  intro i v h
  obtain ⟨j,hj⟩:=ih (i+1) v fun y hy=>h y (by simp [hy])
  by_cases hx:Avk c.u_code x=0
  ·exact ⟨j,by simp [E7,h x (by simp),hj,A4t,hx]⟩
  ·exact ⟨(i:Int),by simp [E7,h x (by simp),hj,A4t,hx,ne0 hx]⟩
theorem Asm{e:Ab}(h:Cn e)(c:Bi):∀L,maxLen+dE e < L→Ge L c e=some (Avk c.u_code e):=by
 induction h with
 |mk a0 a1 a2 a3 h0 h1 h2 h3 h4 ih=>
  intro L hL
  obtain ⟨L,rfl⟩:∃k,L=k+1:=⟨L - 1,by omega⟩
  rw [dE] at hL
  have hr:∀x∈a3,Ge L c x=some (Avk c.u_code x):=fun x hx=>ih x hx L (by have:=Ao8 hx;omega)
  obtain ⟨j,hj⟩:=Apw (Ge L) L (.mk a0 a1 a2 a3) c a3 0 0 hr
  have h1':a1.size≤maxLen:=h1
  simp only [Agy,Qf,Ll,Zs,Ge,Qf,Ll,aN,aB,Ab.cp_eq,Ab.Op,Ab.Name,Ab.N,Ab.Kids,Ab.eta,Aut L c (.mk a0 a1 a2 a3) h1 (show a1.size < L by omega),Al4 _ _ (.mk a0 a1 a2 a3) _ _ h3 (show a3.length < L by omega),hj,Option.bind_some,Avk]
  by_cases h:Ayv c.u_code (.mk a0 a1 a2 a3)=0
  ·by_cases h':A4t c.u_code a3=0
   ·simp [h,h',Nb,Sr]
   ·simp [h,h',Nb,Sr,ne0 h']
  ·simp [h,ne0 h]
theorem Asj{e:Ab}(h:Cn e)(c:Bi)(L:Nat)(hL:maxLen+dE e < L):T2 L c e=some (Nz c.u_code e):=by
 simp only [Z2,T2,aN,aB,Ab.cp_eq,A41 h L hL,A40 h L hL,Asm h c L hL,Option.bind_some,Oe,Nz]
 congr 1
 grind
theorem Abp{e:Ab}(h:Cn e)(L:Nat)(hL:maxLen+dE e < L):Ps L e=some (Nz false e):=by
 simp only [Akj,Ps,aN,aB,Ab.cp_eq,Asj h _ L hL,Option.bind_some]
theorem Apa{α :Type}(l:List α)(p: α→Bool):decide (Sf (l.findIdx? p)≥0)=l.any p:=by
 have h:=List.findIdx?_isSome (xs:=l) (p:=p)
 rw [←h]
 cases l.findIdx? p with
 |none=>rfl
 |some i=>simp [Sf]
theorem A5b(Bbt:Ab→Option Int)(L:Nat)(a0:Ab):∀(k:List Ab) (i:Nat) (v:Int),(∀x∈k,Bbt x=some (k6 x))→∃j,N4 Bbt L a0 k i v=some (0,(Awr k v,j)):=by
 intro k
 induction k with
 |nil=>intro i v _;exact ⟨_,rfl⟩
 |cons x k ih=>
  intro i v h
  obtain ⟨j,hj⟩:=ih (i+1) (B6 (v+k6 x)) fun y hy=>h y (by simp [hy])
  exact ⟨j,by simp only [N4,h x (by simp),Option.bind_some,hj,Awr]⟩
theorem Ak5{e:Ab}(h:Cn e):∀L,maxLen+dE e < L→F4 L e=some (k6 e):=by
 induction h with
 |mk a0 a1 a2 a3 h0 h1 h2 h3 h4 ih=>
  intro L hL
  obtain ⟨L,rfl⟩:∃k,L=k+1:=⟨L - 1,by omega⟩
  rw [dE] at hL
  have hr:∀x∈a3,F4 L x=some (k6 x):=fun x hx=>ih x hx L (by have:=Ao8 hx;omega)
  obtain ⟨j,hj⟩:=A5b (F4 L) L (.mk a0 a1 a2 a3) a3 0 1 hr
  simp only [Ax3,Vm,Al9,F4,Vm,aN,aB,Ab.cp_eq,Ab.Op,Ab.Name,Ab.N,Ab.Kids,Ab.eta,Azi _ _ (.mk a0 a1 a2 a3) _ h3 (show a3.length < L by omega),hj,Option.bind_some,Nb,k6]
end Go.Proofs.YtofcpkmnhmnfcaaGreatR.Ev
