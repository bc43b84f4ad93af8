/-  Chapter 7, plainly: names. -/
import Derived.Test.YtfencmicmnhglaaGreatQA
import Derived.Test.YtfencmicmnhglaaGreatR0
namespace Go.Proofs.YtfencmicmnhglaaGreat.Ev
open Go An
set_option maxRecDepth 100000
set_option linter.unusedVariables false
set_option linter.unusedSimpArgs false
set_option linter.unnecessarySimpa false
def Aqs(z:Int):Bool:=decide (97≤z) && decide (z≤122)
def okZ(z:Int):Bool:=Aqs z || z == 95 || (decide (48≤z) && decide (z≤57))
def Aqe(a:ByteArray)(i:Nat):Int:=Eo a[i]?
def Tp(a:ByteArray):Nat→Nat→Bool
 |_,0=>true
 |i,m+1=>okZ (Aqe a i) && Tp a (i+1) m
def kws:List ByteArray:= [(⟨#[97,100,100]⟩:ByteArray),(⟨#[97,102,116,101,114]⟩:ByteArray),(⟨#[97,110,100]⟩:ByteArray),(⟨#[97,116]⟩:ByteArray),(⟨#[98,101,108,116]⟩:ByteArray),(⟨#[98,111,111,108]⟩:ByteArray),(⟨#[99,111,110,115,101,114,118,101]⟩:ByteArray),(⟨#[99,111,110,115,116]⟩:ByteArray),(⟨#[99,111,117,110,116]⟩:ByteArray),(⟨#[99,121,99,108,101]⟩:ByteArray),(⟨#[100,111,119,110]⟩:ByteArray),(⟨#[100,114,97,119]⟩:ByteArray),(⟨#[100,117,114]⟩:ByteArray),(⟨#[101,108,115,101]⟩:ByteArray),(⟨#[101,110,100]⟩:ByteArray),(⟨#[101,118,101,114,121]⟩:ByteArray),(⟨#[102,97,108,115,101]⟩:ByteArray),(⟨#[102,97,117,108,116]⟩:ByteArray),(⟨#[102,105,102,111]⟩:ByteArray),(⟨#[102,114,101,101]⟩:ByteArray),(⟨#[102,114,111,109]⟩:ByteArray),(⟨#[103,101,111,109]⟩:ByteArray),(⟨#[103,101,116]⟩:ByteArray),(⟨#[104,111,108,100]⟩:ByteArray),(⟨#[105,102]⟩:ByteArray),(⟨#[105,110,116]⟩:ByteArray),(⟨#[105,110,116,111]⟩:ByteArray),(⟨#[108,101,97,115,116]⟩:ByteArray),(⟨#[108,101,118,101,108]⟩:ByteArray),(⟨#[108,105,102,111]⟩:ByteArray),(⟨#[108,105,110,107]⟩:ByteArray),(⟨#[108,111,99,97,108]⟩:ByteArray),(⟨#[109,97,120]⟩:ByteArray),(⟨#[109,105,110]⟩:ByteArray),(⟨#[109,111,100,101,108]⟩:ByteArray),(⟨#[110,111,116]⟩:ByteArray),(⟨#[110,111,119]⟩:ByteArray),(⟨#[111,98,115,101,114,118,101]⟩:ByteArray),(⟨#[111,114]⟩:ByteArray),(⟨#[112,97,114,97,109]⟩:ByteArray),(⟨#[112,114,101,101,109,112,116]⟩:ByteArray),(⟨#[112,114,105,111]⟩:ByteArray),(⟨#[112,117,116]⟩:ByteArray),(⟨#[113,117,101,117,101]⟩:ByteArray),(⟨#[114,101,108,101,97,115,101]⟩:ByteArray),(⟨#[114,101,115,111,117,114,99,101]⟩:ByteArray),(⟨#[114,105,100,101]⟩:ByteArray),(⟨#[114,111,117,116,105,110,101]⟩:ByteArray),(⟨#[115,101,105,122,101]⟩:ByteArray),(⟨#[115,101,110,100]⟩:ByteArray),(⟨#[115,101,116]⟩:ByteArray),(⟨#[115,104,105,102,116]⟩:ByteArray),(⟨#[115,105,103,110,97,108]⟩:ByteArray),(⟨#[115,105,116,101]⟩:ByteArray),(⟨#[115,105,122,101]⟩:ByteArray),(⟨#[115,112,97,119,110]⟩:ByteArray),(⟨#[115,116,97,114,116]⟩:ByteArray),(⟨#[115,116,111,112]⟩:ByteArray),(⟨#[115,116,111,114,101]⟩:ByteArray),(⟨#[115,116,114,101,97,109]⟩:ByteArray),(⟨#[115,117,109]⟩:ByteArray),(⟨#[116,97,98,108,101]⟩:ByteArray),(⟨#[116,97,108,108,121]⟩:ByteArray),(⟨#[116,105,99,107,115]⟩:ByteArray),(⟨#[116,105,109,101]⟩:ByteArray),(⟨#[116,114,117,101]⟩:ByteArray),(⟨#[117,110,105,102,111,114,109]⟩:ByteArray),(⟨#[117,110,116,105,108]⟩:ByteArray),(⟨#[117,112]⟩:ByteArray),(⟨#[118,97,114]⟩:ByteArray),(⟨#[119,97,105,116]⟩:ByteArray),(⟨#[119,97,105,116,105,110,103]⟩:ByteArray),(⟨#[119,104,105,108,101]⟩:ByteArray)]
def Aix(s:ByteArray):Bool:=kws.any fun w=>decide (s=w)
def Amg(s:ByteArray):Bool:=decide (1≤s.size) && decide (s.size≤24) && Aqs (Aqe s 0) && !Aix s && Tp s 0 s.size
def Rw(s:ByteArray):Int:=bif Amg s then 0 else 3
theorem Ah7(L:Nat)(z:Int):W2 L z=some (Aqs z):=by
 simp only [Ajr,W2,aN,aB,Aqs,D3]
theorem B7v{c b:Bool}{X:Option Bool}(h:X=some b):(bif c then (bif c then some true else some false) else X)=some (c || b):=by cases c<;>simp [h]
theorem Cbz{c b:Bool}{X:Option Bool}(h:X=some b):(bif c then some true else X)=some (c || b):=by cases c<;>simp [h]
set_option maxRecDepth 10000 in
theorem Az6(L:Nat)(s:ByteArray):s9 L s=some (Aix s):=by
 simp only [Aho,s9,aN,aB,Ea,Aix,kws,List.any_cons,List.any_nil]
 repeat (first|exact B7v rfl|refine B7v ?_|refine Cbz ?_)
 rfl
theorem Cmx(L:Nat)(a:ByteArray)(hs:a.size≤maxLen):∀(m i n:Nat) (v:Int),i+m=a.size→m < n→
  ∃j,K1 L a n v i=some (bif Tp a i m then (1,(v,j)) else (0,(3,j))):=by
 intro m
 induction m with
 |zero=>
  intro i n v hi hn
  obtain ⟨n,rfl⟩:∃k,n=k+1:=⟨n - 1,by omega⟩
  exact ⟨i,by simp only [K1,Tm,aN,aB,Tp,D1 (show a.size≤i by omega),cond_true,cond_false]⟩
 |succ m ih=>
  intro i n v hi hn
  obtain ⟨n,rfl⟩:∃k,n=k+1:=⟨n - 1,by omega⟩
  have hlt:i < a.size:=by omega
  obtain ⟨j,hj⟩:=ih (i+1) n v (by omega) (by omega)
  have hb:=B2f hlt
  cases hc:okZ (Aqe a i) with
  |true=>
   refine ⟨j,?_⟩
   have e:Tp a i (m+1)=Tp a (i+1) m:=by simp only [Tp,hc,Bool.true_and]
   simp only [K1,Tm,aN,aB,Dv hlt,nn,toN,if_true,hb,cond_true,Ah7,Option.bind_some,A9 hlt hs,hj,e,D3,Kn]
   rw [show ((!Aqs (Eo a[i]?) && (decide (Eo a[i]? < 48) || decide (Eo a[i]? > 57))) && Eo a[i]? != 95)=false from ?_]
   ·rfl
   ·revert hc;unfold okZ Aqe
    generalize Eo a[i]? =z
    cases Aqs z<;>simp<;>omega
  |false=>
   refine ⟨i,?_⟩
   have e:Tp a i (m+1)=false:=by simp only [Tp,hc,Bool.false_and]
   simp only [K1,Tm,aN,aB,Dv hlt,nn,toN,if_true,hb,cond_true,Ah7,Option.bind_some,A9 hlt hs,hj,e,D3,Kn]
   rw [show ((!Aqs (Eo a[i]?) && (decide (Eo a[i]? < 48) || decide (Eo a[i]? > 57))) && Eo a[i]? != 95)=true from ?_]
   ·rfl
   ·revert hc;unfold okZ Aqe
    generalize Eo a[i]? =z
    cases Aqs z<;>simp<;>omega
theorem Xd(L:Nat)(s:ByteArray)(hs:okS s)(hL:s.size < L):Dp L s=some (Rw s):=by
 obtain ⟨j,hj⟩:=Cmx L s hs s.size 0 L 0 (by omega) hL
 have e0:decide ((s.size:Int) > 24)= !decide (s.size≤24):=by
  by_cases h:s.size≤24
  ·rw [decide_eq_false (by omega),decide_eq_true h];rfl
  ·rw [decide_eq_true (by omega),decide_eq_false h];rfl
 simp only [Aub,Zz,Ua,Dp,Zz,Ua,aN,aB,Ea,A41,Ah7,Az6,Option.bind_some,D5,Kn,e0]
 by_cases h0:s.size=0
 ·have:Amg s=false:=by unfold Amg;rw [decide_eq_false (show¬1≤s.size by omega)];rfl
  simp [h0,Rw,this]
 ·have hb:=B2f (show 0 < s.size by omega)
  have e1:Amg s=(decide (s.size≤24) && Aqs (Aqe s 0) && !Aix s && Tp s 0 s.size):=by unfold Amg;rw [decide_eq_true (show 1≤s.size by omega)];rfl
  simp only [Int.ofNat_zero,Int.natCast_zero] at hj
  simp only [h0,decide_false,Bool.false_or,Int.le_refl,Nat.le_refl,if_true,Int.toNat_zero,hb,cond_true,hj,Option.bind_some,Rw,e1,Aqe]
  cases decide (s.size≤24)<;>cases Aqs (Eo s[0]?)<;>cases Aix s<;>cases Tp s 0 s.size<;>rfl
mutual
def dE:Ab→Nat
 | .mk _ _ _ k=>dEs k+1
def dEs:List Ab→Nat
 | []=>0
 |x::k=>max (dE x) (dEs k)
end
theorem Ala{x:Ab}{k:List Ab}(h:x∈k):dE x≤dEs k:=by
 induction k with
 |nil=>cases h
 |cons a k ih=>
  rw [dEs]
  rcases List.mem_cons.1 h with rfl|h
  ·omega
  ·have:=ih h;omega
mutual
def Ack:Ab→Int
 | .mk _ _ _ k=>Az1 k 1
def Az1:List Ab→Int→Int
 | [],n=>n
 |x::k,n=>Az1 k (Cq (n+Ack x))
end
mutual
def Aag:Ab→Int
 | .mk _ _ _ k=>Cq (Ay0 k 0+1)
def Ay0:List Ab→Int→Int
 | [],n=>n
 |x::k,n=>Ay0 k (if Aag x > n then Aag x else n)
end
def Ad2(op:Int):Int:=
 if op=1∨op=2∨op=3∨op=4 then 0 else if 5≤op∧op≤8 then 1 else if 9≤op∧op≤21 then 2 else if 22≤op∧op≤26 then 0 else -1
def Ax0(op:Int):Bool:=decide (22≤op) && decide (op≤24)
def inZ(n:Int):Bool:=decide (-1000000000000≤n) && decide (n≤1000000000000)
def Apt(c:Bool)(op:Int):Bool:=if op=3 then !c else if op=25∨op=26 then c else decide (0≤Ad2 op)
def All(c:Bool)(op:Int):Bool:=op == 3 || (Ax0 op && !c)
def A61(c:Bool)(op:Int):Option Int:=if op=2 then some 1 else if op=25 then some 15 else if op=26 then some 31 else if Ax0 op && c then some 63 else none
def Atj(c:Bool)(e:Ab):Bool:= !Apt c e.Op || decide ((e.Kids.length:Int)≠Ad2 e.Op) || (!decide (e.Name=⟨#[]⟩) && !All c e.Op)
def Axy(c:Bool)(e:Ab):Int:=
 if Atj c e=true then 1
 else if e.Op=1 then (if inZ e.N then 0 else 2)
 else match A61 c e.Op with
  |none=>if e.N≠0 then 1 else if All c e.Op then Rw e.Name else 0
  |some hi=>if e.N < 0∨hi < e.N then 2 else if All c e.Op then Rw e.Name else 0
mutual
def Anc(c:Bool):Ab→Int
 | .mk op nm n k=>if Axy c (.mk op nm n k)≠0 then Axy c (.mk op nm n k) else Arz c k
def Arz(c:Bool):List Ab→Int
 | []=>0
 |x::k=>if Anc c x≠0 then Anc c x else Arz c k
end
def F9(c:Bool)(e:Ab):Int:=if Ack e > 60 then 6 else if Aag e > 12 then 11 else Anc c e
theorem A4i(op:Int):op=1∨op=2∨op=3∨op=4∨op=5∨op=6∨op=7∨op=8∨op=9∨op=10∨op=11∨op=12∨op=13∨op=14∨op=15∨op=16∨op=17∨op=18∨op=19∨op=20∨op=21∨op=22∨op=23∨op=24∨op=25∨op=26∨op < 1∨26 < op:=by omega
theorem Ax3(L:Nat)(op:Int):Aaq L op=some (Ad2 op):=by
 simp only [Arq,Aaq,aN,aB,Ad2,D3,Kn,D5]
 congr 1
 grind
theorem Asr(L:Nat)(op:Int):j8 L op=some (Ax0 op):=by
 simp only [Al3,j8,aN,aB,Ax0,D3]
theorem Av2(L:Nat)(k:Bv)(op:Int):V3 L k op=some (Apt k.u_code op):=by
 simp only [Abd,V3,aN,aB,Apt,Ax3,Option.bind_some,D5]
 congr 1
 grind
theorem Av3(L:Nat)(k:Bv)(op:Int):Mh L k op=some (All k.u_code op):=by
 simp only [Abe,Mh,aN,aB,All,Asr,Option.bind_some,D5,Kn,D3]
theorem Atn(L:Nat)(n:Int):Agx L n=some (inZ n):=by
 simp only [A5m,Agx,aN,aB,inZ,D3]
theorem Asq(L:Nat)(k:Bv)(op:Int):Nd L k op=some (match A61 k.u_code op with|some hi=>(0,hi,true)|none=>(0,0,false)):=by
 simp only [Z8,Nd,aN,aB,A61,Asr,Option.bind_some,D5,D3]
 congr 1
 grind
theorem Ax4(L:Nat)(k:Bv)(e:Ab)(hn:okS e.Name)(hL:e.Name.size < L):Ye L k e=some (Axy k.u_code e):=by
 simp only [Ad8,Ye,aN,aB,Av2,Ax3,Av3,Atn,Asq,Option.bind_some,Xd L e.Name hn hL,D5,Ea,D3,Kn,Axy,Atj]
 congr 1
 cases A61 k.u_code e.Op<;>grind
theorem A7l(Bie:Ab→Option Int)(L:Nat)(a0:Ab):∀(k:List Ab) (i:Nat) (v:Int),(∀x∈k,Bie x=some (Ack x))→∃j,M7 Bie L a0 k i v=some (0,(Az1 k v,j)):=by
 intro k
 induction k with
 |nil=>intro i v _;exact ⟨_,rfl⟩
 |cons x k ih=>
  intro i v h
  obtain ⟨j,hj⟩:=ih (i+1) (Cq (v+Ack x)) fun y hy=>h y (by simp [hy])
  exact ⟨j,by simp only [M7,h x (by simp),Option.bind_some,hj,Az1]⟩
theorem A9a{e:Ab}(h:B1 e):∀L,maxLen+dE e < L→Ns L e=some (Ack e):=by
 induction h with
 |mk a0 a1 a2 a3 h0 h1 h2 h3 h4 ih=>
  intro L hL
  obtain ⟨L,rfl⟩:∃k,L=k+1:=⟨L - 1,by omega⟩
  rw [dE] at hL
  have hr:∀x∈a3,Ns L x=some (Ack x):=fun x hx=>ih x hx L (by have:=Ala hx;omega)
  obtain ⟨j,hj⟩:=A7l (Ns L) L (.mk a0 a1 a2 a3) a3 0 1 hr
  simp only [Awl,Vd,Aom,Ns,Vd,aN,aB,Ab.cp_eq,Ab.Op,Ab.Name,Ab.N,Ab.Kids,Ab.eta,Azh _ _ (.mk a0 a1 a2 a3) _ h3 (show a3.length < L by omega),hj,Option.bind_some,Hb,Ack]
theorem A7k(Bif:Ab→Option Int)(L:Nat)(a0:Ab):∀(k:List Ab) (i:Nat) (v:Int),(∀x∈k,Bif x=some (Aag x))→∃j,M6 Bif L a0 k i v=some (0,(Ay0 k v,j)):=by
 intro k
 induction k with
 |nil=>intro i v _;exact ⟨_,rfl⟩
 |cons x k ih=>
  intro i v h
  obtain ⟨j,hj⟩:=ih (i+1) (if Aag x > v then Aag x else v) fun y hy=>h y (by simp [hy])
  exact ⟨j,by simp only [M6,h x (by simp),Option.bind_some,hj,Ay0]⟩
theorem A89{e:Ab}(h:B1 e):∀L,maxLen+dE e < L→Nr L e=some (Aag e):=by
 induction h with
 |mk a0 a1 a2 a3 h0 h1 h2 h3 h4 ih=>
  intro L hL
  obtain ⟨L,rfl⟩:∃k,L=k+1:=⟨L - 1,by omega⟩
  rw [dE] at hL
  have hr:∀x∈a3,Nr L x=some (Aag x):=fun x hx=>ih x hx L (by have:=Ala hx;omega)
  obtain ⟨j,hj⟩:=A7k (Nr L) L (.mk a0 a1 a2 a3) a3 0 0 hr
  simp only [Awk,Vc,Aol,Nr,Vc,aN,aB,Ab.cp_eq,Ab.Op,Ab.Name,Ab.N,Ab.Kids,Ab.eta,Azg _ _ (.mk a0 a1 a2 a3) _ h3 (show a3.length < L by omega),hj,Option.bind_some,Hb,Aag]
theorem At2(Big:Bv→Ab→Option Int)(L:Nat)(a1:Ab)(c:Bv):∀(k:List Ab) (i:Nat) (v:Int),(∀x∈k,Big c x=some (Anc c.u_code x))→∃j,Gf Big L a1 c k i v=some (bif Arz c.u_code k != 0 then (0,(Arz c.u_code k,j)) else (1,(v,j))):=by
 intro k
 induction k with
 |nil=>intro i v _;exact ⟨i,rfl⟩
 |cons x k ih=>
  intro i v h
  obtain ⟨j,hj⟩:=ih (i+1) v fun y hy=>h y (by simp [hy])
  by_cases hx:Anc c.u_code x=0
  ·exact ⟨j,by simp [Gf,h x (by simp),hj,Arz,hx]⟩
  ·exact ⟨(i:Int),by simp [Gf,h x (by simp),hj,Arz,hx,Uy hx]⟩
theorem Av4{e:Ab}(h:B1 e)(c:Bv):∀L,maxLen+dE e < L→Hd L c e=some (Anc c.u_code e):=by
 induction h with
 |mk a0 a1 a2 a3 h0 h1 h2 h3 h4 ih=>
  intro L hL
  obtain ⟨L,rfl⟩:∃k,L=k+1:=⟨L - 1,by omega⟩
  rw [dE] at hL
  have hr:∀x∈a3,Hd L c x=some (Anc c.u_code x):=fun x hx=>ih x hx L (by have:=Ala hx;omega)
  obtain ⟨j,hj⟩:=At2 (Hd L) L (.mk a0 a1 a2 a3) c a3 0 0 hr
  have h1':a1.size≤maxLen:=h1
  simp only [Ak7,Sb,Mc,Aaz,Hd,Sb,Mc,aN,aB,Ab.cp_eq,Ab.Op,Ab.Name,Ab.N,Ab.Kids,Ab.eta,Ax4 L c (.mk a0 a1 a2 a3) h1 (show a1.size < L by omega),Aqt _ _ (.mk a0 a1 a2 a3) _ _ h3 (show a3.length < L by omega),hj,Option.bind_some,Anc]
  by_cases h:Axy c.u_code (.mk a0 a1 a2 a3)=0
  ·by_cases h':Arz c.u_code a3=0
   ·simp [h,h',Hb,Qo]
   ·simp [h,h',Hb,Qo,Uy h']
  ·simp [h,Uy h]
theorem Av1{e:Ab}(h:B1 e)(c:Bv)(L:Nat)(hL:maxLen+dE e < L):V2 L c e=some (F9 c.u_code e):=by
 simp only [Abc,V2,aN,aB,Ab.cp_eq,A9a h L hL,A89 h L hL,Av4 h c L hL,Option.bind_some,D5,F9]
 congr 1
 grind
theorem Agf{e:Ab}(h:B1 e)(L:Nat)(hL:maxLen+dE e < L):Rj L e=some (F9 false e):=by
 simp only [Ao9,Rj,aN,aB,Ab.cp_eq,Av1 h _ L hL,Option.bind_some]
def A8z(l:List ByteArray)(s:ByteArray):Int:=Ow (l.findIdx? fun x=>decide (x=s))
theorem Alf{α :Type}(l:List α)(p: α→Bool):decide (Ow (l.findIdx? p)≥0)=l.any p:=by
 have h:=List.findIdx?_isSome (xs:=l) (p:=p)
 rw [←h]
 cases l.findIdx? p with
 |none=>rfl
 |some i=>simp [Ow]
theorem Amh(L:Nat)(z:Int):Aa1 L z=some (Aqs z):=by
 simp only [Ao1,Aa1,aN,aB,Aqs,D3]
theorem A29(L:Nat):Ajg L=some kws:=rfl
theorem Bej(L:Nat)(a0:List ByteArray)(a1:ByteArray):∀(k:List ByteArray) (i:Nat) (v:Int),Sq L a0 a1 k i v=some (match k.findIdx? (fun x=>x.toList == a1.toList) with|some j=>(0,(((i+j:Nat):Int),((i+j:Nat):Int)))|none=>(1,(v,((i+k.length:Nat):Int)))):=by
 intro k
 induction k with
 |nil=>intro i v;rfl
 |cons x k ih=>
  intro i v
  rw [Sq,ih,List.findIdx?_cons]
  cases hc:(fun x=>x.toList == a1.toList) x with
  |true=>simp only [hc,cond_true,if_true];rfl
  |false=>
   simp only [hc,cond_false,if_false,Bool.false_eq_true]
   cases k.findIdx? (fun x=>x.toList == a1.toList) with
   |some j=>simp [Nat.add_assoc,Nat.add_comm 1]
   |none=>simp [Nat.add_assoc,Nat.add_comm 1]
theorem Ahd(L:Nat)(l:List ByteArray)(s:ByteArray)(hl:l.length≤maxLen)(hL:l.length < L):Mn L l s=some (A8z l s):=by
 simp only [A5a,m7,Mn,m7,aN,aB,A6n _ _ _ _ hl hL,Bej,Ea,Option.bind_some,A8z]
 cases l.findIdx? fun x=>decide (x=s) with
 |none=>rfl
 |some i=>simp [Ow,Hb]
theorem A65(L:Nat)(s:ByteArray)(hL:80 < L):Afq L s=some (Aix s):=by
 simp only [Alz,Afq,aN,aB,A29,Ahd L kws s (by decide) (show kws.length < L from Nat.lt_trans (by decide) hL),Option.bind_some,A8z,Alf]
 simp only [Aix,eq_comm]
theorem Cok(L:Nat)(a:ByteArray)(hs:a.size≤maxLen):∀(m i n:Nat) (v:Int),i+m=a.size→m < n→
  ∃j,Oz L a n v i=some (bif Tp a i m then (1,(v,j)) else (0,(3,j))):=by
 intro m
 induction m with
 |zero=>
  intro i n v hi hn
  obtain ⟨n,rfl⟩:∃k,n=k+1:=⟨n - 1,by omega⟩
  exact ⟨i,by simp only [Oz,W9,aN,aB,Tp,D1 (show a.size≤i by omega),cond_true,cond_false]⟩
 |succ m ih=>
  intro i n v hi hn
  obtain ⟨n,rfl⟩:∃k,n=k+1:=⟨n - 1,by omega⟩
  have hlt:i < a.size:=by omega
  obtain ⟨j,hj⟩:=ih (i+1) n v (by omega) (by omega)
  have hb:=B2f hlt
  cases hc:okZ (Aqe a i) with
  |true=>
   refine ⟨j,?_⟩
   have e:Tp a i (m+1)=Tp a (i+1) m:=by simp only [Tp,hc,Bool.true_and]
   simp only [Oz,W9,aN,aB,Dv hlt,nn,toN,if_true,hb,cond_true,Amh,Option.bind_some,A9 hlt hs,hj,e,D5,D3,Kn]
   rw [show ((!Aqs (Eo a[i]?) && Eo a[i]? != 95) && (decide (Eo a[i]? < 48) || decide (Eo a[i]? > 57)))=false from ?_]
   ·rfl
   ·revert hc;unfold okZ Aqe
    generalize Eo a[i]? =z
    cases Aqs z<;>simp<;>omega
  |false=>
   refine ⟨i,?_⟩
   have e:Tp a i (m+1)=false:=by simp only [Tp,hc,Bool.false_and]
   simp only [Oz,W9,aN,aB,Dv hlt,nn,toN,if_true,hb,cond_true,Amh,Option.bind_some,A9 hlt hs,hj,e,D5,D3,Kn]
   rw [show ((!Aqs (Eo a[i]?) && Eo a[i]? != 95) && (decide (Eo a[i]? < 48) || decide (Eo a[i]? > 57)))=true from ?_]
   ·rfl
   ·revert hc;unfold okZ Aqe
    generalize Eo a[i]? =z
    cases Aqs z<;>simp<;>omega
theorem Acl(L:Nat)(s:ByteArray)(hs:okS s)(hL:s.size < L)(hL':80 < L):Q0 L s=some (Rw s):=by
 obtain ⟨j,hj⟩:=Cok L s hs s.size 0 L 0 (by omega) hL
 have e0:decide ((s.size:Int) > 24)= !decide (s.size≤24):=by
  by_cases h:s.size≤24
  ·rw [decide_eq_false (by omega),decide_eq_true h];rfl
  ·rw [decide_eq_true (by omega),decide_eq_false h];rfl
 have e2:decide ((s.size:Int) < 1)=decide (s.size=0):=decide_eq_decide.2 (by omega)
 simp only [A0z,Adb,Xg,Q0,Adb,Xg,aN,aB,Amh,A65 L s hL',Option.bind_some,D5,Kn,e0,e2]
 by_cases h0:s.size=0
 ·have:Amg s=false:=by unfold Amg;rw [decide_eq_false (show¬1≤s.size by omega)];rfl
  simp [h0,Rw,this]
 ·have hb:=B2f (show 0 < s.size by omega)
  have e1:Amg s=(decide (s.size≤24) && Aqs (Aqe s 0) && !Aix s && Tp s 0 s.size):=by unfold Amg;rw [decide_eq_true (show 1≤s.size by omega)];rfl
  simp only [Int.ofNat_zero,Int.natCast_zero] at hj
  simp only [h0,decide_false,Bool.false_or,Int.le_refl,Nat.le_refl,if_true,Int.toNat_zero,hb,cond_true,hj,Option.bind_some,Rw,e1,Aqe]
  cases decide (s.size≤24)<;>cases Aqs (Eo s[0]?)<;>cases Aix s<;>cases Tp s 0 s.size<;>rfl
theorem A9n(Bie:Ab→Option Int)(L:Nat)(a0:Ab):∀(k:List Ab) (i:Nat) (v:Int),(∀x∈k,Bie x=some (Ack x))→∃j,P4 Bie L a0 k i v=some (0,(Az1 k v,j)):=by
 intro k
 induction k with
 |nil=>intro i v _;exact ⟨_,rfl⟩
 |cons x k ih=>
  intro i v h
  obtain ⟨j,hj⟩:=ih (i+1) (Cq (v+Ack x)) fun y hy=>h y (by simp [hy])
  exact ⟨j,by simp only [P4,h x (by simp),Option.bind_some,hj,Az1]⟩
theorem Ai4{e:Ab}(h:B1 e):∀L,maxLen+dE e < L→Gx L e=some (Ack e):=by
 induction h with
 |mk a0 a1 a2 a3 h0 h1 h2 h3 h4 ih=>
  intro L hL
  obtain ⟨L,rfl⟩:∃k,L=k+1:=⟨L - 1,by omega⟩
  rw [dE] at hL
  have hr:∀x∈a3,Gx L x=some (Ack x):=fun x hx=>ih x hx L (by have:=Ala hx;omega)
  obtain ⟨j,hj⟩:=A9n (Gx L) L (.mk a0 a1 a2 a3) a3 0 1 hr
  simp only [A01,Xi,Aqz,Gx,Xi,aN,aB,Ab.cp_eq,Ab.Op,Ab.Name,Ab.N,Ab.Kids,Ab.eta,A2r _ _ (.mk a0 a1 a2 a3) _ h3 (show a3.length < L by omega),hj,Option.bind_some,Hb,Ack]
theorem A9m(Bif:Ab→Option Int)(L:Nat)(a0:Ab):∀(k:List Ab) (i:Nat) (v:Int),(∀x∈k,Bif x=some (Aag x))→∃j,P3 Bif L a0 k i v=some (0,(Ay0 k v,j)):=by
 intro k
 induction k with
 |nil=>intro i v _;exact ⟨_,rfl⟩
 |cons x k ih=>
  intro i v h
  obtain ⟨j,hj⟩:=ih (i+1) (if Aag x > v then Aag x else v) fun y hy=>h y (by simp [hy])
  exact ⟨j,by simp only [P3,h x (by simp),Option.bind_some,hj,Ay0]⟩
theorem Bdw{e:Ab}(h:B1 e):∀L,maxLen+dE e < L→Rb L e=some (Aag e):=by
 induction h with
 |mk a0 a1 a2 a3 h0 h1 h2 h3 h4 ih=>
  intro L hL
  obtain ⟨L,rfl⟩:∃k,L=k+1:=⟨L - 1,by omega⟩
  rw [dE] at hL
  have hr:∀x∈a3,Rb L x=some (Aag x):=fun x hx=>ih x hx L (by have:=Ala hx;omega)
  obtain ⟨j,hj⟩:=A9m (Rb L) L (.mk a0 a1 a2 a3) a3 0 0 hr
  simp only [A00,Xh,Aqy,Rb,Xh,aN,aB,Ab.cp_eq,Ab.Op,Ab.Name,Ab.N,Ab.Kids,Ab.eta,A2q _ _ (.mk a0 a1 a2 a3) _ h3 (show a3.length < L by omega),hj,Option.bind_some,Hb,Aag]
theorem Bdv(L:Nat)(op:Int):Akw L op=some (Ad2 op):=by
 simp only [Arb,Akw,aN,aB,Ad2,D3,Kn,D5]
 congr 1
 grind
theorem A85(L:Nat)(op:Int):Aa2 L op=some (Ax0 op):=by
 simp only [Ao2,Aa2,aN,aB,Ax0,D3]
theorem Az2(L:Nat)(n:Int):Amz L n=some (inZ n):=by
 simp only [A49,Amz,aN,aB,inZ,D3]
theorem Bhr(L:Nat)(op:Int):Uj L op=some (if op=25 then 15 else if op=26 then 31 else 63):=by
 simp only [Au2,Uj,aN,aB,D5]
 congr 1
 grind
theorem Bek(Big:Ab→Bool→Option Int)(L:Nat)(a1:Ab)(c:Bool):∀(k:List Ab) (i:Nat) (v:Int),(∀x∈k,Big x c=some (Anc c x))→∃j,Oc Big L c a1 k i v=some (bif Arz c k != 0 then (0,(Arz c k,j)) else (1,(v,j))):=by
 intro k
 induction k with
 |nil=>intro i v _;exact ⟨i,rfl⟩
 |cons x k ih=>
  intro i v h
  obtain ⟨j,hj⟩:=ih (i+1) v fun y hy=>h y (by simp [hy])
  by_cases hx:Anc c x=0
  ·exact ⟨j,by simp [Oc,h x (by simp),hj,Arz,hx]⟩
  ·exact ⟨(i:Int),by simp [Oc,h x (by simp),hj,Arz,hx,Uy hx]⟩
theorem Bhs{e:Ab}(h:B1 e)(c:Bool):∀L,maxLen+dE e < L→Sc L e c=some (Anc c e):=by
 induction h with
 |mk a0 a1 a2 a3 h0 h1 h2 h3 h4 ih=>
  intro L hL
  obtain ⟨L,rfl⟩:∃k,L=k+1:=⟨L - 1,by omega⟩
  rw [dE] at hL
  have hr:∀x∈a3,Sc L x c=some (Anc c x):=fun x hx=>ih x hx L (by have:=Ala hx;omega)
  obtain ⟨j,hj⟩:=Bek (Sc L) L (.mk a0 a1 a2 a3) c a3 0 0 hr
  have h1':a1.size≤maxLen:=h1
  have hm:(80:Nat) < maxLen:=by decide
  have hloop:(Option.bind (N7 (Sc L) L c (.mk a0 a1 a2 a3) L 0 0) fun o=>As6 o.1 [some o.2.1,some 0])=some (Arz c a3):=by
   rw [A6o _ _ _ (.mk a0 a1 a2 a3) _ h3 (show a3.length < L by omega)]
   simp only [Ab.cp_eq,Ab.Op,Ab.Name,Ab.N,Ab.Kids,Ab.eta,hj,Option.bind_some]
   by_cases h':Arz c a3=0
   ·simp [h',Qo]
   ·simp [Hb,Uy h']
  simp only [Ams,Agk,m8,sx_R09_node_3,Amr,sx_R09_node_2,Amq,sx_R09_node_1,Amp,sx_R09_node_0,A5b,Auu,Sc,Agk,m8,aN,aB,Ab.cp_eq,Ab.Op,Ab.Name,Ab.N,Ab.Kids,Ab.eta,hloop,Bdv,A85,Az2,Bhr,Acl L a1 h1 (show a1.size < L by omega) (show 80 < L by omega),Ea,D3,Kn,D5,Option.bind_some,Anc]
  congr 1
  generalize Arz c a3=rest
  unfold Axy Atj A61
  simp only [Ab.cp_eq,Ab.Op,Ab.Name,Ab.N,Ab.Kids,Ab.eta]
  clear hj hloop hr ih h4 h0 h1 h2 h3 h1' hL hm
  have hop:=A4i a0
  rcases hop with rfl|rfl|rfl|rfl|rfl|rfl|rfl|rfl|rfl|rfl|rfl|rfl|rfl|rfl|rfl|rfl|rfl|rfl|rfl|rfl|rfl|rfl|rfl|rfl|rfl|rfl|hop|hop<;>cases c
  all_goals first|(simp [All,Apt,Ax0,Ad2];done)|(simp [All,Apt,Ax0,Ad2];grind)|grind [All,Apt,Ax0,Ad2]
theorem Bdx{e:Ab}(h:B1 e)(c:Bool)(L:Nat)(hL:maxLen+dE e < L):Akx L e c=some (F9 c e):=by
 simp only [Ard,Akx,aN,aB,Ab.cp_eq,Ai4 h L hL,Bdw h L hL,Bhs h c L hL,Option.bind_some,D5,F9]
 congr 1
 grind
theorem Ai3{e:Ab}(h:B1 e)(L:Nat)(hL:maxLen+dE e < L):Ra L e=some (F9 false e):=by
 simp only [Arc,Ra,aN,aB,Ab.cp_eq,Bdx h _ L hL,Option.bind_some]
end Go.Proofs.YtfencmicmnhglaaGreat.Ev
