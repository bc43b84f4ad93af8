/-  Chapter 7, plainly: names. -/
import Derived.Test.YtfencmicmnhglaaGreatQA
import Derived.Test.YtfencmicmnhglaaGreatR0
namespace Go.Proofs.YtfencmicmnhglaaGreat.Ev
open Go An
set_option maxRecDepth 100000
set_option linter.unusedVariables false
set_option linter.unusedSimpArgs false
set_option linter.unnecessarySimpa false
def Av1(z:Int):Bool:=decide (97≤z) && decide (z≤122)
def okZ(z:Int):Bool:=Av1 z || z == 95 || (decide (48≤z) && decide (z≤57))
def Atb(a:ByteArray)(i:Nat):Int:=Mm a[i]?
def Acl(a:ByteArray):Nat→Nat→Bool
 |_,0=>true
 |i,m+1=>okZ (Atb a i) && Acl a (i+1) m
def kws:List ByteArray:= [(⟨#[97,100,100]⟩:ByteArray),(⟨#[97,102,116,101,114]⟩:ByteArray),(⟨#[97,110,100]⟩:ByteArray),(⟨#[97,116]⟩:ByteArray),(⟨#[98,101,108,116]⟩:ByteArray),(⟨#[98,111,111,108]⟩:ByteArray),(⟨#[99,111,110,115,101,114,118,101]⟩:ByteArray),(⟨#[99,111,110,115,116]⟩:ByteArray),(⟨#[99,111,117,110,116]⟩:ByteArray),(⟨#[99,121,99,108,101]⟩:ByteArray),(⟨#[100,111,119,110]⟩:ByteArray),(⟨#[100,114,97,119]⟩:ByteArray),(⟨#[100,117,114]⟩:ByteArray),(⟨#[101,108,115,101]⟩:ByteArray),(⟨#[101,110,100]⟩:ByteArray),(⟨#[101,118,101,114,121]⟩:ByteArray),(⟨#[102,97,108,115,101]⟩:ByteArray),(⟨#[102,97,117,108,116]⟩:ByteArray),(⟨#[102,105,102,111]⟩:ByteArray),(⟨#[102,114,101,101]⟩:ByteArray),(⟨#[102,114,111,109]⟩:ByteArray),(⟨#[103,101,111,109]⟩:ByteArray),(⟨#[103,101,116]⟩:ByteArray),(⟨#[104,111,108,100]⟩:ByteArray),(⟨#[105,102]⟩:ByteArray),(⟨#[105,110,116]⟩:ByteArray),(⟨#[105,110,116,111]⟩:ByteArray),(⟨#[108,101,97,115,116]⟩:ByteArray),(⟨#[108,101,118,101,108]⟩:ByteArray),(⟨#[108,105,102,111]⟩:ByteArray),(⟨#[108,105,110,107]⟩:ByteArray),(⟨#[108,111,99,97,108]⟩:ByteArray),(⟨#[109,97,120]⟩:ByteArray),(⟨#[109,105,110]⟩:ByteArray),(⟨#[109,111,100,101,108]⟩:ByteArray),(⟨#[110,111,116]⟩:ByteArray),(⟨#[110,111,119]⟩:ByteArray),(⟨#[111,98,115,101,114,118,101]⟩:ByteArray),(⟨#[111,114]⟩:ByteArray),(⟨#[112,97,114,97,109]⟩:ByteArray),(⟨#[112,114,101,101,109,112,116]⟩:ByteArray),(⟨#[112,114,105,111]⟩:ByteArray),(⟨#[112,117,116]⟩:ByteArray),(⟨#[113,117,101,117,101]⟩:ByteArray),(⟨#[114,101,108,101,97,115,101]⟩:ByteArray),(⟨#[114,101,115,111,117,114,99,101]⟩:ByteArray),(⟨#[114,105,100,101]⟩:ByteArray),(⟨#[114,111,117,116,105,110,101]⟩:ByteArray),(⟨#[115,101,105,122,101]⟩:ByteArray),(⟨#[115,101,110,100]⟩:ByteArray),(⟨#[115,101,116]⟩:ByteArray),(⟨#[115,104,105,102,116]⟩:ByteArray),(⟨#[115,105,103,110,97,108]⟩:ByteArray),(⟨#[115,105,116,101]⟩:ByteArray),(⟨#[115,105,122,101]⟩:ByteArray),(⟨#[115,112,97,119,110]⟩:ByteArray),(⟨#[115,116,97,114,116]⟩:ByteArray),(⟨#[115,116,111,112]⟩:ByteArray),(⟨#[115,116,111,114,101]⟩:ByteArray),(⟨#[115,116,114,101,97,109]⟩:ByteArray),(⟨#[115,117,109]⟩:ByteArray),(⟨#[116,97,98,108,101]⟩:ByteArray),(⟨#[116,97,108,108,121]⟩:ByteArray),(⟨#[116,105,99,107,115]⟩:ByteArray),(⟨#[116,105,109,101]⟩:ByteArray),(⟨#[116,114,117,101]⟩:ByteArray),(⟨#[117,110,105,102,111,114,109]⟩:ByteArray),(⟨#[117,110,116,105,108]⟩:ByteArray),(⟨#[117,112]⟩:ByteArray),(⟨#[118,97,114]⟩:ByteArray),(⟨#[119,97,105,116]⟩:ByteArray),(⟨#[119,97,105,116,105,110,103]⟩:ByteArray),(⟨#[119,104,105,108,101]⟩:ByteArray)]
def Ana(s:ByteArray):Bool:=kws.any fun w=>decide (s=w)
def At9(s:ByteArray):Bool:=decide (1≤s.size) && decide (s.size≤24) && Av1 (Atb s 0) && !Ana s && Acl s 0 s.size
def V1(s:ByteArray):Int:=bif At9 s then 0 else 3
theorem Aa7(L:Nat)(z:Int):Tw L z=some (Av1 z):=by
 simp only [Ab3,Tw,aN,aB,Av1,Nx]
theorem Box{c b:Bool}{X:Option Bool}(h:X=some b):(bif c then (bif c then some true else some false) else X)=some (c || b):=by cases c<;>simp [h]
theorem Br1{c b:Bool}{X:Option Bool}(h:X=some b):(bif c then some true else X)=some (c || b):=by cases c<;>simp [h]
set_option maxRecDepth 10000 in
theorem Apv(L:Nat)(s:ByteArray):Wj L s=some (Ana s):=by
 simp only [Aan,Wj,aN,aB,I2,Ana,kws,List.any_cons,List.any_nil]
 repeat (first|exact Box rfl|refine Box ?_|refine Br1 ?_)
 rfl
theorem B0j(L:Nat)(a:ByteArray)(hs:a.size≤maxLen):∀(m i n:Nat) (v:Int),i+m=a.size→m < n→
  ∃j,J5 L a n v i=some (bif Acl a i m then (1,(v,j)) else (0,(3,j))):=by
 intro m
 induction m with
 |zero=>
  intro i n v hi hn
  obtain ⟨n,rfl⟩:∃k,n=k+1:=⟨n - 1,by omega⟩
  exact ⟨i,by simp only [J5,Qj,aN,aB,Acl,Hd (show a.size≤i by omega),cond_true,cond_false]⟩
 |succ m ih=>
  intro i n v hi hn
  obtain ⟨n,rfl⟩:∃k,n=k+1:=⟨n - 1,by omega⟩
  have hlt:i < a.size:=by omega
  obtain ⟨j,hj⟩:=ih (i+1) n v (by omega) (by omega)
  have hb:=By1 hlt
  cases hc:okZ (Atb a i) with
  |true=>
   refine ⟨j,?_⟩
   have e:Acl a i (m+1)=Acl a (i+1) m:=by simp only [Acl,hc,Bool.true_and]
   simp only [J5,Qj,aN,aB,He hlt,nn,toN,if_true,hb,cond_true,Aa7,Option.bind_some,Bh hlt hs,hj,e,Nx,Xo]
   rw [show ((!Av1 (Mm a[i]?) && (decide (Mm a[i]? < 48) || decide (Mm a[i]? > 57))) && Mm a[i]? != 95)=false from ?_]
   ·rfl
   ·revert hc;unfold okZ Atb
    generalize Mm a[i]? =z
    cases Av1 z<;>simp<;>omega
  |false=>
   refine ⟨i,?_⟩
   have e:Acl a i (m+1)=false:=by simp only [Acl,hc,Bool.false_and]
   simp only [J5,Qj,aN,aB,He hlt,nn,toN,if_true,hb,cond_true,Aa7,Option.bind_some,Bh hlt hs,hj,e,Nx,Xo]
   rw [show ((!Av1 (Mm a[i]?) && (decide (Mm a[i]? < 48) || decide (Mm a[i]? > 57))) && Mm a[i]? != 95)=true from ?_]
   ·rfl
   ·revert hc;unfold okZ Atb
    generalize Mm a[i]? =z
    cases Av1 z<;>simp<;>omega
theorem T5(L:Nat)(s:ByteArray)(hs:okS s)(hL:s.size < L):C6 L s=some (V1 s):=by
 obtain ⟨j,hj⟩:=B0j L s hs s.size 0 L 0 (by omega) hL
 have e0:decide ((s.size:Int) > 24)= !decide (s.size≤24):=by
  by_cases h:s.size≤24
  ·rw [decide_eq_false (by omega),decide_eq_true h];rfl
  ·rw [decide_eq_true (by omega),decide_eq_false h];rfl
 simp only [Akg,Vv,Rf,C6,Vv,Rf,aN,aB,I2,Bbe,Aa7,Apv,Option.bind_some,Ot,Xo,e0]
 by_cases h0:s.size=0
 ·have:At9 s=false:=by unfold At9;rw [decide_eq_false (show¬1≤s.size by omega)];rfl
  simp [h0,V1,this]
 ·have hb:=By1 (show 0 < s.size by omega)
  have e1:At9 s=(decide (s.size≤24) && Av1 (Atb s 0) && !Ana s && Acl s 0 s.size):=by unfold At9;rw [decide_eq_true (show 1≤s.size by omega)];rfl
  simp only [Int.ofNat_zero,Int.natCast_zero] at hj
  simp only [h0,decide_false,Bool.false_or,Int.le_refl,Nat.le_refl,if_true,Int.toNat_zero,hb,cond_true,hj,Option.bind_some,V1,e1,Atb]
  cases decide (s.size≤24)<;>cases Av1 (Mm s[0]?)<;>cases Ana s<;>cases Acl s 0 s.size<;>rfl
mutual
def dE:Ab→Nat
 | .mk _ _ _ k=>dEs k+1
def dEs:List Ab→Nat
 | []=>0
 |x::k=>max (dE x) (dEs k)
end
theorem Amv{x:Ab}{k:List Ab}(h:x∈k):dE x≤dEs k:=by
 induction k with
 |nil=>cases h
 |cons a k ih=>
  rw [dEs]
  rcases List.mem_cons.1 h with rfl|h
  ·omega
  ·have:=ih h;omega
mutual
def Y2:Ab→Int
 | .mk _ _ _ k=>Aps k 1
def Aps:List Ab→Int→Int
 | [],n=>n
 |x::k,n=>Aps k (Dp (n+Y2 x))
end
mutual
def Aga:Ab→Int
 | .mk _ _ _ k=>Dp (Azk k 0+1)
def Azk:List Ab→Int→Int
 | [],n=>n
 |x::k,n=>Azk k (if Aga x > n then Aga x else n)
end
def Aql(op:Int):Int:=
 if op=1∨op=2∨op=3∨op=4 then 0 else if 5≤op∧op≤8 then 1 else if 9≤op∧op≤21 then 2 else if 22≤op∧op≤26 then 0 else -1
def A94(op:Int):Bool:=decide (22≤op) && decide (op≤24)
def inZ(n:Int):Bool:=decide (-1000000000000≤n) && decide (n≤1000000000000)
def Asm(c:Bool)(op:Int):Bool:=if op=3 then !c else if op=25∨op=26 then c else decide (0≤Aql op)
def Anq(c:Bool)(op:Int):Bool:=op == 3 || (A94 op && !c)
def Az1(c:Bool)(op:Int):Option Int:=if op=2 then some 1 else if op=25 then some 15 else if op=26 then some 31 else if A94 op && c then some 63 else none
def Amu(c:Bool)(e:Ab):Bool:= !Asm c e.Op || decide ((e.Kids.length:Int)≠Aql e.Op) || (!decide (e.Name=⟨#[]⟩) && !Anq c e.Op)
def Aqx(c:Bool)(e:Ab):Int:=
 if Amu c e=true then 1
 else if e.Op=1 then (if inZ e.N then 0 else 2)
 else match Az1 c e.Op with
  |none=>if e.N≠0 then 1 else if Anq c e.Op then V1 e.Name else 0
  |some hi=>if e.N < 0∨hi < e.N then 2 else if Anq c e.Op then V1 e.Name else 0
mutual
def Aom(c:Bool):Ab→Int
 | .mk op nm n k=>if Aqx c (.mk op nm n k)≠0 then Aqx c (.mk op nm n k) else Avs c k
def Avs(c:Bool):List Ab→Int
 | []=>0
 |x::k=>if Aom c x≠0 then Aom c x else Avs c k
end
def M8(c:Bool)(e:Ab):Int:=if Y2 e > 60 then 6 else if Aga e > 12 then 11 else Aom c e
theorem Bmn(op:Int):op=1∨op=2∨op=3∨op=4∨op=5∨op=6∨op=7∨op=8∨op=9∨op=10∨op=11∨op=12∨op=13∨op=14∨op=15∨op=16∨op=17∨op=18∨op=19∨op=20∨op=21∨op=22∨op=23∨op=24∨op=25∨op=26∨op < 1∨26 < op:=by omega
theorem Anu(L:Nat)(op:Int):Xl L op=some (Aql op):=by
 simp only [Ah2,Xl,aN,aB,Aql,Nx,Xo,Ot]
 congr 1
 grind
theorem Aiz(L:Nat)(op:Int):V8 L op=some (A94 op):=by
 simp only [Adp,V8,aN,aB,A94,Nx]
theorem Als(L:Nat)(k:Bp)(op:Int):S4 L k op=some (Asm k.u_code op):=by
 simp only [Yf,S4,aN,aB,Asm,Anu,Option.bind_some,Ot]
 congr 1
 grind
theorem Alt(L:Nat)(k:Bp)(op:Int):K1 L k op=some (Anq k.u_code op):=by
 simp only [Yg,K1,aN,aB,Anq,Aiz,Option.bind_some,Ot,Xo,Nx]
theorem Ae4(L:Nat)(n:Int):X0 L n=some (inZ n):=by
 simp only [As5,X0,aN,aB,inZ,Nx]
theorem Aiy(L:Nat)(k:Bp)(op:Int):Ly L k op=some (match Az1 k.u_code op with|some hi=>(0,hi,true)|none=>(0,0,false)):=by
 simp only [V3,Ly,aN,aB,Az1,Aiz,Option.bind_some,Ot,Nx]
 congr 1
 grind
theorem Anv(L:Nat)(k:Bp)(e:Ab)(hn:okS e.Name)(hL:e.Name.size < L):Uc L k e=some (Aqx k.u_code e):=by
 simp only [Zx,Uc,aN,aB,Als,Anu,Alt,Ae4,Aiy,Option.bind_some,T5 L e.Name hn hL,Ot,I2,Nx,Xo,Aqx,Amu]
 congr 1
 cases Az1 k.u_code e.Op<;>grind
theorem Aup(A3b:Ab→Option Int)(L:Nat)(a0:Ab):∀(k:List Ab) (i:Nat) (v:Int),(∀x∈k,A3b x=some (Y2 x))→∃j,Lr A3b L a0 k i v=some (0,(Aps k v,j)):=by
 intro k
 induction k with
 |nil=>intro i v _;exact ⟨_,rfl⟩
 |cons x k ih=>
  intro i v h
  obtain ⟨j,hj⟩:=ih (i+1) (Dp (v+Y2 x)) fun y hy=>h y (by simp [hy])
  exact ⟨j,by simp only [Lr,h x (by simp),Option.bind_some,hj,Aps]⟩
theorem Av7{e:Ab}(h:B9 e):∀L,maxLen+dE e < L→Mf L e=some (Y2 e):=by
 induction h with
 |mk a0 a1 a2 a3 h0 h1 h2 h3 h4 ih=>
  intro L hL
  obtain ⟨L,rfl⟩:∃k,L=k+1:=⟨L - 1,by omega⟩
  rw [dE] at hL
  have hr:∀x∈a3,Mf L x=some (Y2 x):=fun x hx=>ih x hx L (by have:=Amv hx;omega)
  obtain ⟨j,hj⟩:=Aup (Mf L) L (.mk a0 a1 a2 a3) a3 0 1 hr
  simp only [Amf,Sf,Afn,Mf,Sf,aN,aB,Ab.cp_eq,Ab.Op,Ab.Name,Ab.N,Ab.Kids,Ab.eta,Ao7 _ _ (.mk a0 a1 a2 a3) _ h3 (show a3.length < L by omega),hj,Option.bind_some,Lx,Y2]
theorem Auo(Bpe:Ab→Option Int)(L:Nat)(a0:Ab):∀(k:List Ab) (i:Nat) (v:Int),(∀x∈k,Bpe x=some (Aga x))→∃j,Lq Bpe L a0 k i v=some (0,(Azk k v,j)):=by
 intro k
 induction k with
 |nil=>intro i v _;exact ⟨_,rfl⟩
 |cons x k ih=>
  intro i v h
  obtain ⟨j,hj⟩:=ih (i+1) (if Aga x > v then Aga x else v) fun y hy=>h y (by simp [hy])
  exact ⟨j,by simp only [Lq,h x (by simp),Option.bind_some,hj,Azk]⟩
theorem Av6{e:Ab}(h:B9 e):∀L,maxLen+dE e < L→Me L e=some (Aga e):=by
 induction h with
 |mk a0 a1 a2 a3 h0 h1 h2 h3 h4 ih=>
  intro L hL
  obtain ⟨L,rfl⟩:∃k,L=k+1:=⟨L - 1,by omega⟩
  rw [dE] at hL
  have hr:∀x∈a3,Me L x=some (Aga x):=fun x hx=>ih x hx L (by have:=Amv hx;omega)
  obtain ⟨j,hj⟩:=Auo (Me L) L (.mk a0 a1 a2 a3) a3 0 0 hr
  simp only [Ame,Se,Afm,Me,Se,aN,aB,Ab.cp_eq,Ab.Op,Ab.Name,Ab.N,Ab.Kids,Ab.eta,Ao6 _ _ (.mk a0 a1 a2 a3) _ h3 (show a3.length < L by omega),hj,Option.bind_some,Lx,Aga]
theorem Aj8(Bpf:Bp→Ab→Option Int)(L:Nat)(a1:Ab)(c:Bp):∀(k:List Ab) (i:Nat) (v:Int),(∀x∈k,Bpf c x=some (Aom c.u_code x))→∃j,Ez Bpf L a1 c k i v=some (bif Avs c.u_code k != 0 then (0,(Avs c.u_code k,j)) else (1,(v,j))):=by
 intro k
 induction k with
 |nil=>intro i v _;exact ⟨i,rfl⟩
 |cons x k ih=>
  intro i v h
  obtain ⟨j,hj⟩:=ih (i+1) v fun y hy=>h y (by simp [hy])
  by_cases hx:Aom c.u_code x=0
  ·exact ⟨j,by simp [Ez,h x (by simp),hj,Avs,hx]⟩
  ·exact ⟨(i:Int),by simp [Ez,h x (by simp),hj,Avs,hx,Zn hx]⟩
theorem Alu{e:Ab}(h:B9 e)(c:Bp):∀L,maxLen+dE e < L→F9 L c e=some (Aom c.u_code e):=by
 induction h with
 |mk a0 a1 a2 a3 h0 h1 h2 h3 h4 ih=>
  intro L hL
  obtain ⟨L,rfl⟩:∃k,L=k+1:=⟨L - 1,by omega⟩
  rw [dE] at hL
  have hr:∀x∈a3,F9 L c x=some (Aom c.u_code x):=fun x hx=>ih x hx L (by have:=Amv hx;omega)
  obtain ⟨j,hj⟩:=Aj8 (F9 L) L (.mk a0 a1 a2 a3) c a3 0 0 hr
  have h1':a1.size≤maxLen:=h1
  simp only [Ac2,Pw,Ky,Xu,F9,Pw,Ky,aN,aB,Ab.cp_eq,Ab.Op,Ab.Name,Ab.N,Ab.Kids,Ab.eta,Anv L c (.mk a0 a1 a2 a3) h1 (show a1.size < L by omega),Ahl _ _ (.mk a0 a1 a2 a3) _ _ h3 (show a3.length < L by omega),hj,Option.bind_some,Aom]
  by_cases h:Aqx c.u_code (.mk a0 a1 a2 a3)=0
  ·by_cases h':Avs c.u_code a3=0
   ·simp [h,h',Lx,n8]
   ·simp [h,h',Lx,n8,Zn h']
  ·simp [h,Zn h]
theorem Alr{e:Ab}(h:B9 e)(c:Bp)(L:Nat)(hL:maxLen+dE e < L):S3 L c e=some (M8 c.u_code e):=by
 simp only [Ye,S3,aN,aB,Ab.cp_eq,Av7 h L hL,Av6 h L hL,Alu h c L hL,Option.bind_some,Ot,M8]
 congr 1
 grind
theorem v8{e:Ab}(h:B9 e)(L:Nat)(hL:maxLen+dE e < L):Oj L e=some (M8 false e):=by
 simp only [Afy,Oj,aN,aB,Ab.cp_eq,Alr h _ L hL,Option.bind_some]
theorem Agg{α :Type}(l:List α)(p: α→Bool):decide (Nz (l.findIdx? p)≥0)=l.any p:=by
 have h:=List.findIdx?_isSome (xs:=l) (p:=p)
 rw [←h]
 cases l.findIdx? p with
 |none=>rfl
 |some i=>simp [Nz]
theorem Awh(A3b:Ab→Option Int)(L:Nat)(a0:Ab):∀(k:List Ab) (i:Nat) (v:Int),(∀x∈k,A3b x=some (Y2 x))→∃j,Nf A3b L a0 k i v=some (0,(Aps k v,j)):=by
 intro k
 induction k with
 |nil=>intro i v _;exact ⟨_,rfl⟩
 |cons x k ih=>
  intro i v h
  obtain ⟨j,hj⟩:=ih (i+1) (Dp (v+Y2 x)) fun y hy=>h y (by simp [hy])
  exact ⟨j,by simp only [Nf,h x (by simp),Option.bind_some,hj,Aps]⟩
theorem Agl{e:Ab}(h:B9 e):∀L,maxLen+dE e < L→Gi L e=some (Y2 e):=by
 induction h with
 |mk a0 a1 a2 a3 h0 h1 h2 h3 h4 ih=>
  intro L hL
  obtain ⟨L,rfl⟩:∃k,L=k+1:=⟨L - 1,by omega⟩
  rw [dE] at hL
  have hr:∀x∈a3,Gi L x=some (Y2 x):=fun x hx=>ih x hx L (by have:=Amv hx;omega)
  obtain ⟨j,hj⟩:=Awh (Gi L) L (.mk a0 a1 a2 a3) a3 0 1 hr
  simp only [Aqh,T7,Aht,Gi,T7,aN,aB,Ab.cp_eq,Ab.Op,Ab.Name,Ab.N,Ab.Kids,Ab.eta,Arr _ _ (.mk a0 a1 a2 a3) _ h3 (show a3.length < L by omega),hj,Option.bind_some,Lx,Y2]
end Go.Proofs.YtfencmicmnhglaaGreat.Ev
