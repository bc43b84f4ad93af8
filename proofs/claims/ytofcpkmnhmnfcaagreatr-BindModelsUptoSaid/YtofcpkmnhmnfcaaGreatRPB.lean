/-  Chapter 7, plainly: names. -/
import Derived.Test.YtofcpkmnhmnfcaaGreatRQA
import Derived.Test.YtofcpkmnhmnfcaaGreatRR0
namespace Go.Proofs.YtofcpkmnhmnfcaaGreatR.Ev
open Go An
set_option maxRecDepth 100000
set_option linter.unusedVariables false
set_option linter.unusedSimpArgs false
set_option linter.unnecessarySimpa false
def Asv(z:Int):Bool:=decide (97≤z) && decide (z≤122)
def okZ(z:Int):Bool:=Asv z || z == 95 || (decide (48≤z) && decide (z≤57))
def Ase(a:ByteArray)(i:Nat):Int:=Eg a[i]?
def Uz(a:ByteArray):Nat→Nat→Bool
 |_,0=>true
 |i,m+1=>okZ (Ase a i) && Uz a (i+1) m
def kws:List ByteArray:= [(⟨#[97,100,100]⟩:ByteArray),(⟨#[97,102,116,101,114]⟩:ByteArray),(⟨#[97,110,100]⟩:ByteArray),(⟨#[97,116]⟩:ByteArray),(⟨#[98,101,108,116]⟩:ByteArray),(⟨#[98,111,111,108]⟩:ByteArray),(⟨#[99,111,110,115,101,114,118,101]⟩:ByteArray),(⟨#[99,111,110,115,116]⟩:ByteArray),(⟨#[99,111,117,110,116]⟩:ByteArray),(⟨#[99,121,99,108,101]⟩:ByteArray),(⟨#[100,111,119,110]⟩:ByteArray),(⟨#[100,114,97,119]⟩:ByteArray),(⟨#[100,117,114]⟩:ByteArray),(⟨#[101,108,115,101]⟩:ByteArray),(⟨#[101,110,100]⟩:ByteArray),(⟨#[101,118,101,114,121]⟩:ByteArray),(⟨#[102,97,108,115,101]⟩:ByteArray),(⟨#[102,97,117,108,116]⟩:ByteArray),(⟨#[102,105,102,111]⟩:ByteArray),(⟨#[102,114,101,101]⟩:ByteArray),(⟨#[102,114,111,109]⟩:ByteArray),(⟨#[103,101,111,109]⟩:ByteArray),(⟨#[103,101,116]⟩:ByteArray),(⟨#[104,111,108,100]⟩:ByteArray),(⟨#[105,102]⟩:ByteArray),(⟨#[105,110,116]⟩:ByteArray),(⟨#[105,110,116,111]⟩:ByteArray),(⟨#[108,101,97,115,116]⟩:ByteArray),(⟨#[108,101,118,101,108]⟩:ByteArray),(⟨#[108,105,102,111]⟩:ByteArray),(⟨#[108,105,110,107]⟩:ByteArray),(⟨#[108,111,99,97,108]⟩:ByteArray),(⟨#[109,97,120]⟩:ByteArray),(⟨#[109,105,110]⟩:ByteArray),(⟨#[109,111,100,101,108]⟩:ByteArray),(⟨#[110,111,116]⟩:ByteArray),(⟨#[110,111,119]⟩:ByteArray),(⟨#[111,98,115,101,114,118,101]⟩:ByteArray),(⟨#[111,114]⟩:ByteArray),(⟨#[112,97,114,97,109]⟩:ByteArray),(⟨#[112,114,101,101,109,112,116]⟩:ByteArray),(⟨#[112,114,105,111]⟩:ByteArray),(⟨#[112,117,116]⟩:ByteArray),(⟨#[113,117,101,117,101]⟩:ByteArray),(⟨#[114,101,108,101,97,115,101]⟩:ByteArray),(⟨#[114,101,115,111,117,114,99,101]⟩:ByteArray),(⟨#[114,105,100,101]⟩:ByteArray),(⟨#[114,111,117,116,105,110,101]⟩:ByteArray),(⟨#[115,101,105,122,101]⟩:ByteArray),(⟨#[115,101,110,100]⟩:ByteArray),(⟨#[115,101,116]⟩:ByteArray),(⟨#[115,104,105,102,116]⟩:ByteArray),(⟨#[115,105,103,110,97,108]⟩:ByteArray),(⟨#[115,105,116,101]⟩:ByteArray),(⟨#[115,105,122,101]⟩:ByteArray),(⟨#[115,112,97,119,110]⟩:ByteArray),(⟨#[115,116,97,114,116]⟩:ByteArray),(⟨#[115,116,111,112]⟩:ByteArray),(⟨#[115,116,111,114,101]⟩:ByteArray),(⟨#[115,116,114,101,97,109]⟩:ByteArray),(⟨#[115,117,109]⟩:ByteArray),(⟨#[116,97,98,108,101]⟩:ByteArray),(⟨#[116,97,108,108,121]⟩:ByteArray),(⟨#[116,105,99,107,115]⟩:ByteArray),(⟨#[116,105,109,101]⟩:ByteArray),(⟨#[116,114,117,101]⟩:ByteArray),(⟨#[117,110,105,102,111,114,109]⟩:ByteArray),(⟨#[117,110,116,105,108]⟩:ByteArray),(⟨#[117,112]⟩:ByteArray),(⟨#[118,97,114]⟩:ByteArray),(⟨#[119,97,105,116]⟩:ByteArray),(⟨#[119,97,105,116,105,110,103]⟩:ByteArray),(⟨#[119,104,105,108,101]⟩:ByteArray)]
def Ald(s:ByteArray):Bool:=kws.any fun w=>decide (s=w)
def Aop(s:ByteArray):Bool:=decide (1≤s.size) && decide (s.size≤24) && Asv (Ase s 0) && !Ald s && Uz s 0 s.size
def Sy(s:ByteArray):Int:=bif Aop s then 0 else 3
theorem Akk(L:Nat)(z:Int):Y1 L z=some (Asv z):=by
 simp only [Al6,Y1,aN,aB,Asv,Dq]
theorem B74{c b:Bool}{X:Option Bool}(h:X=some b):(bif c then (bif c then some true else some false) else X)=some (c || b):=by cases c<;>simp [h]
theorem Ccc{c b:Bool}{X:Option Bool}(h:X=some b):(bif c then some true else X)=some (c || b):=by cases c<;>simp [h]
set_option maxRecDepth 10000 in
theorem A1x(L:Nat)(s:ByteArray):Aa9 L s=some (Ald s):=by
 simp only [Ajv,Aa9,aN,aB,D0,Ald,kws,List.any_cons,List.any_nil]
 repeat (first|exact B74 rfl|refine B74 ?_|refine Ccc ?_)
 rfl
theorem Cmb(L:Nat)(a:ByteArray)(hs:a.size≤maxLen):∀(m i n:Nat) (v:Int),i+m=a.size→m < n→
  ∃j,Lk L a n v i=some (bif Uz a i m then (1,(v,j)) else (0,(3,j))):=by
 intro m
 induction m with
 |zero=>
  intro i n v hi hn
  obtain ⟨n,rfl⟩:∃k,n=k+1:=⟨n - 1,by omega⟩
  exact ⟨i,by simp only [Lk,Ux,aN,aB,Uz,C4 (show a.size≤i by omega),cond_true,cond_false]⟩
 |succ m ih=>
  intro i n v hi hn
  obtain ⟨n,rfl⟩:∃k,n=k+1:=⟨n - 1,by omega⟩
  have hlt:i < a.size:=by omega
  obtain ⟨j,hj⟩:=ih (i+1) n v (by omega) (by omega)
  have hb:=B2y hlt
  cases hc:okZ (Ase a i) with
  |true=>
   refine ⟨j,?_⟩
   have e:Uz a i (m+1)=Uz a (i+1) m:=by simp only [Uz,hc,Bool.true_and]
   simp only [Lk,Ux,aN,aB,C5 hlt,nn,Z8,if_true,hb,cond_true,Akk,Option.bind_some,Aw hlt hs,hj,e,Dq,Ly]
   rw [show ((!Asv (Eg a[i]?) && (decide (Eg a[i]? < 48) || decide (Eg a[i]? > 57))) && Eg a[i]? != 95)=false from ?_]
   ·rfl
   ·revert hc;unfold okZ Ase
    generalize Eg a[i]? =z
    cases Asv z<;>simp<;>omega
  |false=>
   refine ⟨i,?_⟩
   have e:Uz a i (m+1)=false:=by simp only [Uz,hc,Bool.false_and]
   simp only [Lk,Ux,aN,aB,C5 hlt,nn,Z8,if_true,hb,cond_true,Akk,Option.bind_some,Aw hlt hs,hj,e,Dq,Ly]
   rw [show ((!Asv (Eg a[i]?) && (decide (Eg a[i]? < 48) || decide (Eg a[i]? > 57))) && Eg a[i]? != 95)=true from ?_]
   ·rfl
   ·revert hc;unfold okZ Ase
    generalize Eg a[i]? =z
    cases Asv z<;>simp<;>omega
theorem Zd(L:Nat)(s:ByteArray)(hs:okS s)(hL:s.size < L):Dc L s=some (Sy s):=by
 obtain ⟨j,hj⟩:=Cmb L s hs s.size 0 L 0 (by omega) hL
 have e0:decide ((s.size:Int) > 24)= !decide (s.size≤24):=by
  by_cases h:s.size≤24
  ·rw [decide_eq_false (by omega),decide_eq_true h];rfl
  ·rw [decide_eq_true (by omega),decide_eq_false h];rfl
 simp only [Av3,Aaa,Vk,Dc,Aaa,Vk,aN,aB,D0,A6h,Akk,A1x,Option.bind_some,Dt,Ly,e0]
 by_cases h0:s.size=0
 ·have:Aop s=false:=by unfold Aop;rw [decide_eq_false (show¬1≤s.size by omega)];rfl
  simp [h0,Sy,this]
 ·have hb:=B2y (show 0 < s.size by omega)
  have e1:Aop s=(decide (s.size≤24) && Asv (Ase s 0) && !Ald s && Uz s 0 s.size):=by unfold Aop;rw [decide_eq_true (show 1≤s.size by omega)];rfl
  simp only [Int.ofNat_zero,Int.natCast_zero] at hj
  simp only [h0,decide_false,Bool.false_or,Int.le_refl,Nat.le_refl,if_true,Int.toNat_zero,hb,cond_true,hj,Option.bind_some,Sy,e1,Ase]
  cases decide (s.size≤24)<;>cases Asv (Eg s[0]?)<;>cases Ald s<;>cases Uz s 0 s.size<;>rfl
mutual
def dE:Ab→Nat
 | .mk _ _ _ k=>dEs k+1
def dEs:List Ab→Nat
 | []=>0
 |x::k=>max (dE x) (dEs k)
end
theorem Ak9{x:Ab}{k:List Ab}(h:x∈k):dE x≤dEs k:=by
 induction k with
 |nil=>cases h
 |cons a k ih=>
  rw [dEs]
  rcases List.mem_cons.1 h with rfl|h
  ·omega
  ·have:=ih h;omega
mutual
def Aeh:Ab→Int
 | .mk _ _ _ k=>A1r k 1
def A1r:List Ab→Int→Int
 | [],n=>n
 |x::k,n=>A1r k (B7 (n+Aeh x))
end
mutual
def Ace:Ab→Int
 | .mk _ _ _ k=>B7 (A0n k 0+1)
def A0n:List Ab→Int→Int
 | [],n=>n
 |x::k,n=>A0n k (if Ace x > n then Ace x else n)
end
def Afx(op:Int):Int:=
 if op=1∨op=2∨op=3∨op=4 then 0 else if 5≤op∧op≤8 then 1 else if 9≤op∧op≤21 then 2 else if 22≤op∧op≤26 then 0 else -1
def Azr(op:Int):Bool:=decide (22≤op) && decide (op≤24)
def inZ(n:Int):Bool:=decide (-1000000000000≤n) && decide (n≤1000000000000)
def Aro(c:Bool)(op:Int):Bool:=if op=3 then !c else if op=25∨op=26 then c else decide (0≤Afx op)
def Anv(c:Bool)(op:Int):Bool:=op == 3 || (Azr op && !c)
def A8g(c:Bool)(op:Int):Option Int:=if op=2 then some 1 else if op=25 then some 15 else if op=26 then some 31 else if Azr op && c then some 63 else none
def Au6(c:Bool)(e:Ab):Bool:= !Aro c e.Op || decide ((e.Kids.length:Int)≠Afx e.Op) || (!decide (e.Name=⟨#[]⟩) && !Anv c e.Op)
def Azp(c:Bool)(e:Ab):Int:=
 if Au6 c e=true then 1
 else if e.Op=1 then (if inZ e.N then 0 else 2)
 else match A8g c e.Op with
  |none=>if e.N≠0 then 1 else if Anv c e.Op then Sy e.Name else 0
  |some hi=>if e.N < 0∨hi < e.N then 2 else if Anv c e.Op then Sy e.Name else 0
mutual
def Apk(c:Bool):Ab→Int
 | .mk op nm n k=>if Azp c (.mk op nm n k)≠0 then Azp c (.mk op nm n k) else Aua c k
def Aua(c:Bool):List Ab→Int
 | []=>0
 |x::k=>if Apk c x≠0 then Apk c x else Aua c k
end
def F8(c:Bool)(e:Ab):Int:=if Aeh e > 60 then 6 else if Ace e > 12 then 11 else Apk c e
theorem A5y(op:Int):op=1∨op=2∨op=3∨op=4∨op=5∨op=6∨op=7∨op=8∨op=9∨op=10∨op=11∨op=12∨op=13∨op=14∨op=15∨op=16∨op=17∨op=18∨op=19∨op=20∨op=21∨op=22∨op=23∨op=24∨op=25∨op=26∨op < 1∨26 < op:=by omega
theorem Azv(L:Nat)(op:Int):Acr L op=some (Afx op):=by
 simp only [Atz,Acr,aN,aB,Afx,Dq,Ly,Dt]
 congr 1
 grind
theorem Aur(L:Nat)(op:Int):Aao L op=some (Azr op):=by
 simp only [Aoc,Aao,aN,aB,Azr,Dq]
theorem Axu(L:Nat)(k:Bl)(op:Int):Xj L k op=some (Aro k.u_code op):=by
 simp only [Adf,Xj,aN,aB,Aro,Azv,Option.bind_some,Dt]
 congr 1
 grind
theorem Axv(L:Nat)(k:Bl)(op:Int):M6 L k op=some (Anv k.u_code op):=by
 simp only [Adg,M6,aN,aB,Anv,Aur,Option.bind_some,Dt,Ly,Dq]
theorem Avb(L:Nat)(n:Int):Ai4 L n=some (inZ n):=by
 simp only [A63,Ai4,aN,aB,inZ,Dq]
theorem Auq(L:Nat)(k:Bl)(op:Int):N4 L k op=some (match A8g k.u_code op with|some hi=>(0,hi,true)|none=>(0,0,false)):=by
 simp only [Aak,N4,aN,aB,A8g,Aur,Option.bind_some,Dt,Dq]
 congr 1
 grind
theorem Azw(L:Nat)(k:Bl)(e:Ab)(hn:okS e.Name)(hL:e.Name.size < L):b0 L k e=some (Azp k.u_code e):=by
 simp only [Af8,b0,aN,aB,Axu,Azv,Axv,Avb,Auq,Option.bind_some,Zd L e.Name hn hL,Dt,D0,Dq,Ly,Azp,Au6]
 congr 1
 cases A8g k.u_code e.Op<;>grind
theorem A82(Bie:Ab→Option Int)(L:Nat)(a0:Ab):∀(k:List Ab) (i:Nat) (v:Int),(∀x∈k,Bie x=some (Aeh x))→∃j,Nz Bie L a0 k i v=some (0,(A1r k v,j)):=by
 intro k
 induction k with
 |nil=>intro i v _;exact ⟨_,rfl⟩
 |cons x k ih=>
  intro i v h
  obtain ⟨j,hj⟩:=ih (i+1) (B7 (v+Aeh x)) fun y hy=>h y (by simp [hy])
  exact ⟨j,by simp only [Nz,h x (by simp),Option.bind_some,hj,A1r]⟩
theorem Bac{e:Ab}(h:Bv e):∀L,maxLen+dE e < L→On L e=some (Aeh e):=by
 induction h with
 |mk a0 a1 a2 a3 h0 h1 h2 h3 h4 ih=>
  intro L hL
  obtain ⟨L,rfl⟩:∃k,L=k+1:=⟨L - 1,by omega⟩
  rw [dE] at hL
  have hr:∀x∈a3,On L x=some (Aeh x):=fun x hx=>ih x hx L (by have:=Ak9 hx;omega)
  obtain ⟨j,hj⟩:=A82 (On L) L (.mk a0 a1 a2 a3) a3 0 1 hr
  simp only [Ayi,Wq,Aqs,On,Wq,aN,aB,Ab.cp_eq,Ab.Op,Ab.Name,Ab.N,Ab.Kids,Ab.eta,A07 _ _ (.mk a0 a1 a2 a3) _ h3 (show a3.length < L by omega),hj,Option.bind_some,Gm,Aeh]
theorem A81(Bif:Ab→Option Int)(L:Nat)(a0:Ab):∀(k:List Ab) (i:Nat) (v:Int),(∀x∈k,Bif x=some (Ace x))→∃j,Ny Bif L a0 k i v=some (0,(A0n k v,j)):=by
 intro k
 induction k with
 |nil=>intro i v _;exact ⟨_,rfl⟩
 |cons x k ih=>
  intro i v h
  obtain ⟨j,hj⟩:=ih (i+1) (if Ace x > v then Ace x else v) fun y hy=>h y (by simp [hy])
  exact ⟨j,by simp only [Ny,h x (by simp),Option.bind_some,hj,A0n]⟩
theorem Bab{e:Ab}(h:Bv e):∀L,maxLen+dE e < L→Om L e=some (Ace e):=by
 induction h with
 |mk a0 a1 a2 a3 h0 h1 h2 h3 h4 ih=>
  intro L hL
  obtain ⟨L,rfl⟩:∃k,L=k+1:=⟨L - 1,by omega⟩
  rw [dE] at hL
  have hr:∀x∈a3,Om L x=some (Ace x):=fun x hx=>ih x hx L (by have:=Ak9 hx;omega)
  obtain ⟨j,hj⟩:=A81 (Om L) L (.mk a0 a1 a2 a3) a3 0 0 hr
  simp only [Ayh,Wp,Aqr,Om,Wp,aN,aB,Ab.cp_eq,Ab.Op,Ab.Name,Ab.N,Ab.Kids,Ab.eta,A06 _ _ (.mk a0 a1 a2 a3) _ h3 (show a3.length < L by omega),hj,Option.bind_some,Gm,Ace]
theorem Avt(Big:Bl→Ab→Option Int)(L:Nat)(a1:Ab)(c:Bl):∀(k:List Ab) (i:Nat) (v:Int),(∀x∈k,Big c x=some (Apk c.u_code x))→∃j,Gf Big L a1 c k i v=some (bif Aua c.u_code k != 0 then (0,(Aua c.u_code k,j)) else (1,(v,j))):=by
 intro k
 induction k with
 |nil=>intro i v _;exact ⟨i,rfl⟩
 |cons x k ih=>
  intro i v h
  obtain ⟨j,hj⟩:=ih (i+1) v fun y hy=>h y (by simp [hy])
  by_cases hx:Apk c.u_code x=0
  ·exact ⟨j,by simp [Gf,h x (by simp),hj,Aua,hx]⟩
  ·exact ⟨(i:Int),by simp [Gf,h x (by simp),hj,Aua,hx,Wl hx]⟩
theorem Axw{e:Ab}(h:Bv e)(c:Bl):∀L,maxLen+dE e < L→Gz L c e=some (Apk c.u_code e):=by
 induction h with
 |mk a0 a1 a2 a3 h0 h1 h2 h3 h4 ih=>
  intro L hL
  obtain ⟨L,rfl⟩:∃k,L=k+1:=⟨L - 1,by omega⟩
  rw [dE] at hL
  have hr:∀x∈a3,Gz L c x=some (Apk c.u_code x):=fun x hx=>ih x hx L (by have:=Ak9 hx;omega)
  obtain ⟨j,hj⟩:=Avt (Gz L) L (.mk a0 a1 a2 a3) c a3 0 0 hr
  have h1':a1.size≤maxLen:=h1
  simp only [Anj,Tc,Mx,Ac2,Gz,Tc,Mx,aN,aB,Ab.cp_eq,Ab.Op,Ab.Name,Ab.N,Ab.Kids,Ab.eta,Azw L c (.mk a0 a1 a2 a3) h1 (show a1.size < L by omega),Asw _ _ (.mk a0 a1 a2 a3) _ _ h3 (show a3.length < L by omega),hj,Option.bind_some,Apk]
  by_cases h:Azp c.u_code (.mk a0 a1 a2 a3)=0
  ·by_cases h':Aua c.u_code a3=0
   ·simp [h,h',Gm,Kx]
   ·simp [h,h',Gm,Kx,Wl h']
  ·simp [h,Wl h]
theorem Axt{e:Ab}(h:Bv e)(c:Bl)(L:Nat)(hL:maxLen+dE e < L):Xi L c e=some (F8 c.u_code e):=by
 simp only [Ade,Xi,aN,aB,Ab.cp_eq,Bac h L hL,Bab h L hL,Axw h c L hL,Option.bind_some,Dt,F8]
 congr 1
 grind
theorem Aih{e:Ab}(h:Bv e)(L:Nat)(hL:maxLen+dE e < L):Sm L e=some (F8 false e):=by
 simp only [Ara,Sm,aN,aB,Ab.cp_eq,Axt h _ L hL,Option.bind_some]
def A92(l:List ByteArray)(s:ByteArray):Int:=N7 (l.findIdx? fun x=>decide (x=s))
theorem Anp{α :Type}(l:List α)(p: α→Bool):decide (N7 (l.findIdx? p)≥0)=l.any p:=by
 have h:=List.findIdx?_isSome (xs:=l) (p:=p)
 rw [←h]
 cases l.findIdx? p with
 |none=>rfl
 |some i=>simp [N7]
theorem Aoq(L:Nat)(z:Int):Ac4 L z=some (Asv z):=by
 simp only [Aq3,Ac4,aN,aB,Asv,Dq]
theorem A4o(L:Nat):Alt L=some kws:=rfl
theorem Beq(L:Nat)(a0:List ByteArray)(a1:ByteArray):∀(k:List ByteArray) (i:Nat) (v:Int),Tx L a0 a1 k i v=some (match k.findIdx? (fun x=>x.toList == a1.toList) with|some j=>(0,(((i+j:Nat):Int),((i+j:Nat):Int)))|none=>(1,(v,((i+k.length:Nat):Int)))):=by
 intro k
 induction k with
 |nil=>intro i v;rfl
 |cons x k ih=>
  intro i v
  rw [Tx,ih,List.findIdx?_cons]
  cases hc:(fun x=>x.toList == a1.toList) x with
  |true=>simp only [hc,cond_true,if_true];rfl
  |false=>
   simp only [hc,cond_false,if_false,Bool.false_eq_true]
   cases k.findIdx? (fun x=>x.toList == a1.toList) with
   |some j=>simp [Nat.add_assoc,Nat.add_comm 1]
   |none=>simp [Nat.add_assoc,Nat.add_comm 1]
theorem Aji(L:Nat)(l:List ByteArray)(s:ByteArray)(hl:l.length≤maxLen)(hL:l.length < L):Nc L l s=some (A92 l s):=by
 simp only [A6q,Aau,Nc,Aau,aN,aB,A70 _ _ _ _ hl hL,Beq,D0,Option.bind_some,A92]
 cases l.findIdx? fun x=>decide (x=s) with
 |none=>rfl
 |some i=>simp [N7,Gm]
theorem A8k(L:Nat)(s:ByteArray)(hL:80 < L):Ahr L s=some (Ald s):=by
 simp only [An9,Ahr,aN,aB,A4o,Aji L kws s (by decide) (show kws.length < L from Nat.lt_trans (by decide) hL),Option.bind_some,A92,Anp]
 simp only [Ald,eq_comm]
theorem Cn8(L:Nat)(a:ByteArray)(hs:a.size≤maxLen):∀(m i n:Nat) (v:Int),i+m=a.size→m < n→
  ∃j,P9 L a n v i=some (bif Uz a i m then (1,(v,j)) else (0,(3,j))):=by
 intro m
 induction m with
 |zero=>
  intro i n v hi hn
  obtain ⟨n,rfl⟩:∃k,n=k+1:=⟨n - 1,by omega⟩
  exact ⟨i,by simp only [P9,Y9,aN,aB,Uz,C4 (show a.size≤i by omega),cond_true,cond_false]⟩
 |succ m ih=>
  intro i n v hi hn
  obtain ⟨n,rfl⟩:∃k,n=k+1:=⟨n - 1,by omega⟩
  have hlt:i < a.size:=by omega
  obtain ⟨j,hj⟩:=ih (i+1) n v (by omega) (by omega)
  have hb:=B2y hlt
  cases hc:okZ (Ase a i) with
  |true=>
   refine ⟨j,?_⟩
   have e:Uz a i (m+1)=Uz a (i+1) m:=by simp only [Uz,hc,Bool.true_and]
   simp only [P9,Y9,aN,aB,C5 hlt,nn,Z8,if_true,hb,cond_true,Aoq,Option.bind_some,Aw hlt hs,hj,e,Dt,Dq,Ly]
   rw [show ((!Asv (Eg a[i]?) && Eg a[i]? != 95) && (decide (Eg a[i]? < 48) || decide (Eg a[i]? > 57)))=false from ?_]
   ·rfl
   ·revert hc;unfold okZ Ase
    generalize Eg a[i]? =z
    cases Asv z<;>simp<;>omega
  |false=>
   refine ⟨i,?_⟩
   have e:Uz a i (m+1)=false:=by simp only [Uz,hc,Bool.false_and]
   simp only [P9,Y9,aN,aB,C5 hlt,nn,Z8,if_true,hb,cond_true,Aoq,Option.bind_some,Aw hlt hs,hj,e,Dt,Dq,Ly]
   rw [show ((!Asv (Eg a[i]?) && Eg a[i]? != 95) && (decide (Eg a[i]? < 48) || decide (Eg a[i]? > 57)))=true from ?_]
   ·rfl
   ·revert hc;unfold okZ Ase
    generalize Eg a[i]? =z
    cases Asv z<;>simp<;>omega
theorem Aei(L:Nat)(s:ByteArray)(hs:okS s)(hL:s.size < L)(hL':80 < L):R8 L s=some (Sy s):=by
 obtain ⟨j,hj⟩:=Cn8 L s hs s.size 0 L 0 (by omega) hL
 have e0:decide ((s.size:Int) > 24)= !decide (s.size≤24):=by
  by_cases h:s.size≤24
  ·rw [decide_eq_false (by omega),decide_eq_true h];rfl
  ·rw [decide_eq_true (by omega),decide_eq_false h];rfl
 have e2:decide ((s.size:Int) < 1)=decide (s.size=0):=decide_eq_decide.2 (by omega)
 simp only [A2n,Ae8,Zg,R8,Ae8,Zg,aN,aB,Aoq,A8k L s hL',Option.bind_some,Dt,Ly,e0,e2]
 by_cases h0:s.size=0
 ·have:Aop s=false:=by unfold Aop;rw [decide_eq_false (show¬1≤s.size by omega)];rfl
  simp [h0,Sy,this]
 ·have hb:=B2y (show 0 < s.size by omega)
  have e1:Aop s=(decide (s.size≤24) && Asv (Ase s 0) && !Ald s && Uz s 0 s.size):=by unfold Aop;rw [decide_eq_true (show 1≤s.size by omega)];rfl
  simp only [Int.ofNat_zero,Int.natCast_zero] at hj
  simp only [h0,decide_false,Bool.false_or,Int.le_refl,Nat.le_refl,if_true,Int.toNat_zero,hb,cond_true,hj,Option.bind_some,Sy,e1,Ase]
  cases decide (s.size≤24)<;>cases Asv (Eg s[0]?)<;>cases Ald s<;>cases Uz s 0 s.size<;>rfl
theorem Bao(Bie:Ab→Option Int)(L:Nat)(a0:Ab):∀(k:List Ab) (i:Nat) (v:Int),(∀x∈k,Bie x=some (Aeh x))→∃j,Qu Bie L a0 k i v=some (0,(A1r k v,j)):=by
 intro k
 induction k with
 |nil=>intro i v _;exact ⟨_,rfl⟩
 |cons x k ih=>
  intro i v h
  obtain ⟨j,hj⟩:=ih (i+1) (B7 (v+Aeh x)) fun y hy=>h y (by simp [hy])
  exact ⟨j,by simp only [Qu,h x (by simp),Option.bind_some,hj,A1r]⟩
theorem Ali{e:Ab}(h:Bv e):∀L,maxLen+dE e < L→Gp L e=some (Aeh e):=by
 induction h with
 |mk a0 a1 a2 a3 h0 h1 h2 h3 h4 ih=>
  intro L hL
  obtain ⟨L,rfl⟩:∃k,L=k+1:=⟨L - 1,by omega⟩
  rw [dE] at hL
  have hr:∀x∈a3,Gp L x=some (Aeh x):=fun x hx=>ih x hx L (by have:=Ak9 hx;omega)
  obtain ⟨j,hj⟩:=Bao (Gp L) L (.mk a0 a1 a2 a3) a3 0 1 hr
  simp only [A2p,Zi,As3,Gp,Zi,aN,aB,Ab.cp_eq,Ab.Op,Ab.Name,Ab.N,Ab.Kids,Ab.eta,A36 _ _ (.mk a0 a1 a2 a3) _ h3 (show a3.length < L by omega),hj,Option.bind_some,Gm,Aeh]
theorem Ban(Bif:Ab→Option Int)(L:Nat)(a0:Ab):∀(k:List Ab) (i:Nat) (v:Int),(∀x∈k,Bif x=some (Ace x))→∃j,Qt Bif L a0 k i v=some (0,(A0n k v,j)):=by
 intro k
 induction k with
 |nil=>intro i v _;exact ⟨_,rfl⟩
 |cons x k ih=>
  intro i v h
  obtain ⟨j,hj⟩:=ih (i+1) (if Ace x > v then Ace x else v) fun y hy=>h y (by simp [hy])
  exact ⟨j,by simp only [Qt,h x (by simp),Option.bind_some,hj,A0n]⟩
theorem Bd2{e:Ab}(h:Bv e):∀L,maxLen+dE e < L→Se L e=some (Ace e):=by
 induction h with
 |mk a0 a1 a2 a3 h0 h1 h2 h3 h4 ih=>
  intro L hL
  obtain ⟨L,rfl⟩:∃k,L=k+1:=⟨L - 1,by omega⟩
  rw [dE] at hL
  have hr:∀x∈a3,Se L x=some (Ace x):=fun x hx=>ih x hx L (by have:=Ak9 hx;omega)
  obtain ⟨j,hj⟩:=Ban (Se L) L (.mk a0 a1 a2 a3) a3 0 0 hr
  simp only [A2o,Zh,As2,Se,Zh,aN,aB,Ab.cp_eq,Ab.Op,Ab.Name,Ab.N,Ab.Kids,Ab.eta,A35 _ _ (.mk a0 a1 a2 a3) _ h3 (show a3.length < L by omega),hj,Option.bind_some,Gm,Ace]
theorem Bd1(L:Nat)(op:Int):Am8 L op=some (Afx op):=by
 simp only [Ath,Am8,aN,aB,Afx,Dq,Ly,Dt]
 congr 1
 grind
theorem A97(L:Nat)(op:Int):Ac5 L op=some (Azr op):=by
 simp only [Aq4,Ac5,aN,aB,Azr,Dq]
theorem A1t(L:Nat)(n:Int):Ao8 L n=some (inZ n):=by
 simp only [A6p,Ao8,aN,aB,inZ,Dq]
theorem Bhm(L:Nat)(op:Int):Vq L op=some (if op=25 then 15 else if op=26 then 31 else 63):=by
 simp only [Aww,Vq,aN,aB,Dt]
 congr 1
 grind
theorem Ber(Big:Ab→Bool→Option Int)(L:Nat)(a1:Ab)(c:Bool):∀(k:List Ab) (i:Nat) (v:Int),(∀x∈k,Big x c=some (Apk c x))→∃j,Pr Big L c a1 k i v=some (bif Aua c k != 0 then (0,(Aua c k,j)) else (1,(v,j))):=by
 intro k
 induction k with
 |nil=>intro i v _;exact ⟨i,rfl⟩
 |cons x k ih=>
  intro i v h
  obtain ⟨j,hj⟩:=ih (i+1) v fun y hy=>h y (by simp [hy])
  by_cases hx:Apk c x=0
  ·exact ⟨j,by simp [Pr,h x (by simp),hj,Aua,hx]⟩
  ·exact ⟨(i:Int),by simp [Pr,h x (by simp),hj,Aua,hx,Wl hx]⟩
theorem Bhn{e:Ab}(h:Bv e)(c:Bool):∀L,maxLen+dE e < L→Te L e c=some (Apk c e):=by
 induction h with
 |mk a0 a1 a2 a3 h0 h1 h2 h3 h4 ih=>
  intro L hL
  obtain ⟨L,rfl⟩:∃k,L=k+1:=⟨L - 1,by omega⟩
  rw [dE] at hL
  have hr:∀x∈a3,Te L x c=some (Apk c x):=fun x hx=>ih x hx L (by have:=Ak9 hx;omega)
  obtain ⟨j,hj⟩:=Ber (Te L) L (.mk a0 a1 a2 a3) c a3 0 0 hr
  have h1':a1.size≤maxLen:=h1
  have hm:(80:Nat) < maxLen:=by decide
  have hloop:(Option.bind (O3 (Te L) L c (.mk a0 a1 a2 a3) L 0 0) fun o=>As0 o.1 [some o.2.1,some 0])=some (Aua c a3):=by
   rw [A71 _ _ _ (.mk a0 a1 a2 a3) _ h3 (show a3.length < L by omega)]
   simp only [Ab.cp_eq,Ab.Op,Ab.Name,Ab.N,Ab.Kids,Ab.eta,hj,Option.bind_some]
   by_cases h':Aua c a3=0
   ·simp [h',Kx]
   ·simp [Gm,Wl h']
  simp only [Ao1,Aip,Aav,sx_R09_node_3,Ao0,sx_R09_node_2,Aoz,sx_R09_node_1,Aoy,sx_R09_node_0,A6r,Awm,Te,Aip,Aav,aN,aB,Ab.cp_eq,Ab.Op,Ab.Name,Ab.N,Ab.Kids,Ab.eta,hloop,Bd1,A97,A1t,Bhm,Aei L a1 h1 (show a1.size < L by omega) (show 80 < L by omega),D0,Dq,Ly,Dt,Option.bind_some,Apk]
  congr 1
  generalize Aua c a3=rest
  unfold Azp Au6 A8g
  simp only [Ab.cp_eq,Ab.Op,Ab.Name,Ab.N,Ab.Kids,Ab.eta]
  clear hj hloop hr ih h4 h0 h1 h2 h3 h1' hL hm
  have hop:=A5y a0
  rcases hop with rfl|rfl|rfl|rfl|rfl|rfl|rfl|rfl|rfl|rfl|rfl|rfl|rfl|rfl|rfl|rfl|rfl|rfl|rfl|rfl|rfl|rfl|rfl|rfl|rfl|rfl|hop|hop<;>cases c
  all_goals first|(simp [Anv,Aro,Azr,Afx];done)|(simp [Anv,Aro,Azr,Afx];grind)|grind [Anv,Aro,Azr,Afx]
theorem Bd3{e:Ab}(h:Bv e)(c:Bool)(L:Nat)(hL:maxLen+dE e < L):Am9 L e c=some (F8 c e):=by
 simp only [Atj,Am9,aN,aB,Ab.cp_eq,Ali h L hL,Bd2 h L hL,Bhn h c L hL,Option.bind_some,Dt,F8]
 congr 1
 grind
theorem Alh{e:Ab}(h:Bv e)(L:Nat)(hL:maxLen+dE e < L):R9 L e=some (F8 false e):=by
 simp only [Ati,R9,aN,aB,Ab.cp_eq,Bd3 h _ L hL,Option.bind_some]
end Go.Proofs.YtofcpkmnhmnfcaaGreatR.Ev
