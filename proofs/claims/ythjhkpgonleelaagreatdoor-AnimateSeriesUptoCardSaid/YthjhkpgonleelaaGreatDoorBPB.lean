/-  Chapter 7, plainly: names. -/
import Derived.Test.YthjhkpgonleelaaGreatDoorBQA
import Derived.Test.YthjhkpgonleelaaGreatDoorBR0
namespace Go.Proofs.YthjhkpgonleelaaGreatDoor.Ev
open Go An
set_option maxRecDepth 100000
set_option linter.unusedVariables false
set_option linter.unusedSimpArgs false
set_option linter.unnecessarySimpa false
def Anz(z:Int):Bool:=decide (97≤z) && decide (z≤122)
def okZ(z:Int):Bool:=Anz z || z == 95 || (decide (48≤z) && decide (z≤57))
def Alv(a:ByteArray)(i:Nat):Int:=Jv a[i]?
def Z7(a:ByteArray):Nat→Nat→Bool
 |_,0=>true
 |i,m+1=>okZ (Alv a i) && Z7 a (i+1) m
def kws:List ByteArray:= [(⟨#[97,100,100]⟩:ByteArray),(⟨#[97,102,116,101,114]⟩:ByteArray),(⟨#[97,110,100]⟩:ByteArray),(⟨#[97,116]⟩:ByteArray),(⟨#[98,101,108,116]⟩:ByteArray),(⟨#[98,111,111,108]⟩:ByteArray),(⟨#[99,111,110,115,101,114,118,101]⟩:ByteArray),(⟨#[99,111,110,115,116]⟩:ByteArray),(⟨#[99,111,117,110,116]⟩:ByteArray),(⟨#[99,121,99,108,101]⟩:ByteArray),(⟨#[100,111,119,110]⟩:ByteArray),(⟨#[100,114,97,119]⟩:ByteArray),(⟨#[100,117,114]⟩:ByteArray),(⟨#[101,108,115,101]⟩:ByteArray),(⟨#[101,110,100]⟩:ByteArray),(⟨#[101,118,101,114,121]⟩:ByteArray),(⟨#[102,97,108,115,101]⟩:ByteArray),(⟨#[102,97,117,108,116]⟩:ByteArray),(⟨#[102,105,102,111]⟩:ByteArray),(⟨#[102,114,101,101]⟩:ByteArray),(⟨#[102,114,111,109]⟩:ByteArray),(⟨#[103,101,111,109]⟩:ByteArray),(⟨#[103,101,116]⟩:ByteArray),(⟨#[104,111,108,100]⟩:ByteArray),(⟨#[105,102]⟩:ByteArray),(⟨#[105,110,116]⟩:ByteArray),(⟨#[105,110,116,111]⟩:ByteArray),(⟨#[108,101,97,115,116]⟩:ByteArray),(⟨#[108,101,118,101,108]⟩:ByteArray),(⟨#[108,105,102,111]⟩:ByteArray),(⟨#[108,105,110,107]⟩:ByteArray),(⟨#[108,111,99,97,108]⟩:ByteArray),(⟨#[109,97,120]⟩:ByteArray),(⟨#[109,105,110]⟩:ByteArray),(⟨#[109,111,100,101,108]⟩:ByteArray),(⟨#[110,111,116]⟩:ByteArray),(⟨#[110,111,119]⟩:ByteArray),(⟨#[111,98,115,101,114,118,101]⟩:ByteArray),(⟨#[111,114]⟩:ByteArray),(⟨#[112,97,114,97,109]⟩:ByteArray),(⟨#[112,114,101,101,109,112,116]⟩:ByteArray),(⟨#[112,114,105,111]⟩:ByteArray),(⟨#[112,117,116]⟩:ByteArray),(⟨#[113,117,101,117,101]⟩:ByteArray),(⟨#[114,101,108,101,97,115,101]⟩:ByteArray),(⟨#[114,101,115,111,117,114,99,101]⟩:ByteArray),(⟨#[114,105,100,101]⟩:ByteArray),(⟨#[114,111,117,116,105,110,101]⟩:ByteArray),(⟨#[115,101,105,122,101]⟩:ByteArray),(⟨#[115,101,110,100]⟩:ByteArray),(⟨#[115,101,116]⟩:ByteArray),(⟨#[115,104,105,102,116]⟩:ByteArray),(⟨#[115,105,103,110,97,108]⟩:ByteArray),(⟨#[115,105,116,101]⟩:ByteArray),(⟨#[115,105,122,101]⟩:ByteArray),(⟨#[115,112,97,119,110]⟩:ByteArray),(⟨#[115,116,97,114,116]⟩:ByteArray),(⟨#[115,116,111,112]⟩:ByteArray),(⟨#[115,116,111,114,101]⟩:ByteArray),(⟨#[115,116,114,101,97,109]⟩:ByteArray),(⟨#[115,117,109]⟩:ByteArray),(⟨#[116,97,98,108,101]⟩:ByteArray),(⟨#[116,97,108,108,121]⟩:ByteArray),(⟨#[116,105,99,107,115]⟩:ByteArray),(⟨#[116,105,109,101]⟩:ByteArray),(⟨#[116,114,117,101]⟩:ByteArray),(⟨#[117,110,105,102,111,114,109]⟩:ByteArray),(⟨#[117,110,116,105,108]⟩:ByteArray),(⟨#[117,112]⟩:ByteArray),(⟨#[118,97,114]⟩:ByteArray),(⟨#[119,97,105,116]⟩:ByteArray),(⟨#[119,97,105,116,105,110,103]⟩:ByteArray),(⟨#[119,104,105,108,101]⟩:ByteArray)]
def Ag8(s:ByteArray):Bool:=kws.any fun w=>decide (s=w)
def Amm(s:ByteArray):Bool:=decide (1≤s.size) && decide (s.size≤24) && Anz (Alv s 0) && !Ag8 s && Z7 s 0 s.size
def Ni(s:ByteArray):Int:=bif Amm s then 0 else 3
theorem Yr(L:Nat)(z:Int):Py L z=some (Anz z):=by
 simp only [Zt,Py,aN,aB,Anz,Kz]
theorem Bdp{c b:Bool}{X:Option Bool}(h:X=some b):(bif c then (bif c then some true else some false) else X)=some (c || b):=by cases c<;>simp [h]
theorem Bfv{c b:Bool}{X:Option Bool}(h:X=some b):(bif c then some true else X)=some (c || b):=by cases c<;>simp [h]
set_option maxRecDepth 10000 in
theorem Ajh(L:Nat)(s:ByteArray):Sg L s=some (Ag8 s):=by
 simp only [Yb,Sg,aN,aB,Wv,Ag8,kws,List.any_cons,List.any_nil]
 repeat (first|exact Bdp rfl|refine Bdp ?_|refine Bfv ?_)
 rfl
theorem Bk2(L:Nat)(a:ByteArray)(hs:a.size≤maxLen):∀(m i n:Nat) (v:Int),i+m=a.size→m < n→
  ∃j,Hx L a n v i=some (bif Z7 a i m then (1,(v,j)) else (0,(3,j))):=by
 intro m
 induction m with
 |zero=>
  intro i n v hi hn
  obtain ⟨n,rfl⟩:∃k,n=k+1:=⟨n - 1,by omega⟩
  exact ⟨i,by simp only [Hx,Mr,aN,aB,Z7,Kh (show a.size≤i by omega),cond_true,cond_false]⟩
 |succ m ih=>
  intro i n v hi hn
  obtain ⟨n,rfl⟩:∃k,n=k+1:=⟨n - 1,by omega⟩
  have hlt:i < a.size:=by omega
  obtain ⟨j,hj⟩:=ih (i+1) n v (by omega) (by omega)
  have hb:=Bks hlt
  cases hc:okZ (Alv a i) with
  |true=>
   refine ⟨j,?_⟩
   have e:Z7 a i (m+1)=Z7 a (i+1) m:=by simp only [Z7,hc,Bool.true_and]
   simp only [Hx,Mr,aN,aB,J3 hlt,nn,toN,if_true,hb,cond_true,Yr,Option.bind_some,B6 hlt hs,hj,e,Kz,Rx]
   rw [show ((!Anz (Jv a[i]?) && (decide (Jv a[i]? < 48) || decide (Jv a[i]? > 57))) && Jv a[i]? != 95)=false from ?_]
   ·rfl
   ·revert hc;unfold okZ Alv
    generalize Jv a[i]? =z
    cases Anz z<;>simp<;>omega
  |false=>
   refine ⟨i,?_⟩
   have e:Z7 a i (m+1)=false:=by simp only [Z7,hc,Bool.false_and]
   simp only [Hx,Mr,aN,aB,J3 hlt,nn,toN,if_true,hb,cond_true,Yr,Option.bind_some,B6 hlt hs,hj,e,Kz,Rx]
   rw [show ((!Anz (Jv a[i]?) && (decide (Jv a[i]? < 48) || decide (Jv a[i]? > 57))) && Jv a[i]? != 95)=true from ?_]
   ·rfl
   ·revert hc;unfold okZ Alv
    generalize Jv a[i]? =z
    cases Anz z<;>simp<;>omega
theorem Km(L:Nat)(s:ByteArray)(hs:j5 s)(hL:s.size < L):Cr L s=some (Ni s):=by
 obtain ⟨j,hj⟩:=Bk2 L s hs s.size 0 L 0 (by omega) hL
 have e0:decide ((s.size:Int) > 24)= !decide (s.size≤24):=by
  by_cases h:s.size≤24
  ·rw [decide_eq_false (by omega),decide_eq_true h];rfl
  ·rw [decide_eq_true (by omega),decide_eq_false h];rfl
 simp only [Aeq,Ru,Nf,Cr,Ru,Nf,aN,aB,Wv,A2c,Yr,Ajh,Option.bind_some,Qs,Rx,e0]
 by_cases h0:s.size=0
 ·have:Amm s=false:=by unfold Amm;rw [decide_eq_false (show¬1≤s.size by omega)];rfl
  simp [h0,Ni,this]
 ·have hb:=Bks (show 0 < s.size by omega)
  have e1:Amm s=(decide (s.size≤24) && Anz (Alv s 0) && !Ag8 s && Z7 s 0 s.size):=by unfold Amm;rw [decide_eq_true (show 1≤s.size by omega)];rfl
  simp only [Int.ofNat_zero,Int.natCast_zero] at hj
  simp only [h0,decide_false,Bool.false_or,Int.le_refl,Nat.le_refl,if_true,Int.toNat_zero,hb,cond_true,hj,Option.bind_some,Ni,e1,Alv]
  cases decide (s.size≤24)<;>cases Anz (Jv s[0]?)<;>cases Ag8 s<;>cases Z7 s 0 s.size<;>rfl
mutual
def dE:Ab→Nat
 | .mk _ _ _ k=>dEs k+1
def dEs:List Ab→Nat
 | []=>0
 |x::k=>max (dE x) (dEs k)
end
theorem Ak9{x:Ab}{k:List Ab}(h:x∈k):dE x≤dEs k:=by
 induction k with
 |nil=>cases h
 |cons a k ih=>
  rw [dEs]
  rcases List.mem_cons.1 h with rfl|h
  ·omega
  ·have:=ih h;omega
mutual
def Afq:Ab→Int
 | .mk _ _ _ k=>Arm k 1
def Arm:List Ab→Int→Int
 | [],n=>n
 |x::k,n=>Arm k (Bi (n+Afq x))
end
mutual
def Abu:Ab→Int
 | .mk _ _ _ k=>Bi (Aq0 k 0+1)
def Aq0:List Ab→Int→Int
 | [],n=>n
 |x::k,n=>Aq0 k (if Abu x > n then Abu x else n)
end
def Ayy(op:Int):Int:=
 if op=1∨op=2∨op=3∨op=4 then 0 else if 5≤op∧op≤8 then 1 else if 9≤op∧op≤21 then 2 else if 22≤op∧op≤26 then 0 else -1
def A1g(op:Int):Bool:=decide (22≤op) && decide (op≤24)
def inZ(n:Int):Bool:=decide (-1000000000000≤n) && decide (n≤1000000000000)
def Are(c:Bool)(op:Int):Bool:=if op=3 then !c else if op=25∨op=26 then c else decide (0≤Ayy op)
def Ahh(c:Bool)(op:Int):Bool:=op == 3 || (A1g op && !c)
def Ark(c:Bool)(op:Int):Option Int:=if op=2 then some 1 else if op=25 then some 15 else if op=26 then some 31 else if A1g op && c then some 63 else none
def Ay0(c:Bool)(e:Ab):Bool:= !Are c e.Op || decide ((e.Kids.length:Int)≠Ayy e.Op) || (!decide (e.Name=⟨#[]⟩) && !Ahh c e.Op)
def Aul(c:Bool)(e:Ab):Int:=
 if Ay0 c e=true then 1
 else if e.Op=1 then (if inZ e.N then 0 else 2)
 else match Ark c e.Op with
  |none=>if e.N≠0 then 1 else if Ahh c e.Op then Ni e.Name else 0
  |some hi=>if e.N < 0∨hi < e.N then 2 else if Ahh c e.Op then Ni e.Name else 0
mutual
def As3(c:Bool):Ab→Int
 | .mk op nm n k=>if Aul c (.mk op nm n k)≠0 then Aul c (.mk op nm n k) else Av3 c k
def Av3(c:Bool):List Ab→Int
 | []=>0
 |x::k=>if As3 c x≠0 then As3 c x else Av3 c k
end
def K0(c:Bool)(e:Ab):Int:=if Afq e > 60 then 6 else if Abu e > 12 then 11 else As3 c e
theorem Ahm(L:Nat)(op:Int):Tl L op=some (Ayy op):=by
 simp only [Ac6,Tl,aN,aB,Ayy,Kz,Rx,Qs]
 congr 1
 grind
theorem Adt(L:Nat)(op:Int):R6 L op=some (A1g op):=by
 simp only [t6,R6,aN,aB,A1g,Kz]
theorem Afs(L:Nat)(k:Bj)(op:Int):O2 L k op=some (Are k.u_code op):=by
 simp only [T4,O2,aN,aB,Are,Ahm,Option.bind_some,Qs]
 congr 1
 grind
theorem Aft(L:Nat)(k:Bj)(op:Int):Ii L k op=some (Ahh k.u_code op):=by
 simp only [T5,Ii,aN,aB,Ahh,Adt,Option.bind_some,Qs,Rx,Kz]
theorem Aji(L:Nat)(n:Int):Zn L n=some (inZ n):=by
 simp only [Alo,Zn,aN,aB,inZ,Kz]
theorem Ads(L:Nat)(k:Bj)(op:Int):I9 L k op=some (match Ark k.u_code op with|some hi=>(0,hi,true)|none=>(0,0,false)):=by
 simp only [R3,I9,aN,aB,Ark,Adt,Option.bind_some,Qs,Kz]
 congr 1
 grind
theorem Ahn(L:Nat)(k:Bj)(e:Ab)(hn:j5 e.Name)(hL:e.Name.size < L):Qk L k e=some (Aul k.u_code e):=by
 simp only [Vk,Qk,aN,aB,Afs,Ahm,Aft,Aji,Ads,Option.bind_some,Km L e.Name hn hL,Qs,Wv,Kz,Rx,Aul,Ay0]
 congr 1
 cases Ark k.u_code e.Op<;>grind
theorem Amz(Bdw:Ab→Option Int)(L:Nat)(a0:Ab):∀(k:List Ab) (i:Nat) (v:Int),(∀x∈k,Bdw x=some (Afq x))→∃j,I5 Bdw L a0 k i v=some (0,(Arm k v,j)):=by
 intro k
 induction k with
 |nil=>intro i v _;exact ⟨_,rfl⟩
 |cons x k ih=>
  intro i v h
  obtain ⟨j,hj⟩:=ih (i+1) (Bi (v+Afq x)) fun y hy=>h y (by simp [hy])
  exact ⟨j,by simp only [I5,h x (by simp),Option.bind_some,hj,Arm]⟩
theorem An4{e:Ab}(h:Cq e):∀L,maxLen+dE e < L→Jp L e=some (Afq e):=by
 induction h with
 |mk a0 a1 a2 a3 h0 h1 h2 h3 h4 ih=>
  intro L hL
  obtain ⟨L,rfl⟩:∃k,L=k+1:=⟨L - 1,by omega⟩
  rw [dE] at hL
  have hr:∀x∈a3,Jp L x=some (Afq x):=fun x hx=>ih x hx L (by have:=Ak9 hx;omega)
  obtain ⟨j,hj⟩:=Amz (Jp L) L (.mk a0 a1 a2 a3) a3 0 1 hr
  simp only [Agh,N8,Aba,Jp,N8,aN,aB,Ab.cp_eq,Ab.Op,Ab.Name,Ab.N,Ab.Kids,Ab.eta,Aiw _ _ (.mk a0 a1 a2 a3) _ h3 (show a3.length < L by omega),hj,Option.bind_some,R4,Afq]
theorem Amy(Bdx:Ab→Option Int)(L:Nat)(a0:Ab):∀(k:List Ab) (i:Nat) (v:Int),(∀x∈k,Bdx x=some (Abu x))→∃j,I4 Bdx L a0 k i v=some (0,(Aq0 k v,j)):=by
 intro k
 induction k with
 |nil=>intro i v _;exact ⟨_,rfl⟩
 |cons x k ih=>
  intro i v h
  obtain ⟨j,hj⟩:=ih (i+1) (if Abu x > v then Abu x else v) fun y hy=>h y (by simp [hy])
  exact ⟨j,by simp only [I4,h x (by simp),Option.bind_some,hj,Aq0]⟩
theorem An3{e:Ab}(h:Cq e):∀L,maxLen+dE e < L→Jo L e=some (Abu e):=by
 induction h with
 |mk a0 a1 a2 a3 h0 h1 h2 h3 h4 ih=>
  intro L hL
  obtain ⟨L,rfl⟩:∃k,L=k+1:=⟨L - 1,by omega⟩
  rw [dE] at hL
  have hr:∀x∈a3,Jo L x=some (Abu x):=fun x hx=>ih x hx L (by have:=Ak9 hx;omega)
  obtain ⟨j,hj⟩:=Amy (Jo L) L (.mk a0 a1 a2 a3) a3 0 0 hr
  simp only [Agg,N7,Aa9,Jo,N7,aN,aB,Ab.cp_eq,Ab.Op,Ab.Name,Ab.N,Ab.Kids,Ab.eta,Aiv _ _ (.mk a0 a1 a2 a3) _ h3 (show a3.length < L by omega),hj,Option.bind_some,R4,Abu]
theorem Aei(Bdy:Bj→Ab→Option Int)(L:Nat)(a1:Ab)(c:Bj):∀(k:List Ab) (i:Nat) (v:Int),(∀x∈k,Bdy c x=some (As3 c.u_code x))→∃j,Ea Bdy L a1 c k i v=some (bif Av3 c.u_code k != 0 then (0,(Av3 c.u_code k,j)) else (1,(v,j))):=by
 intro k
 induction k with
 |nil=>intro i v _;exact ⟨i,rfl⟩
 |cons x k ih=>
  intro i v h
  obtain ⟨j,hj⟩:=ih (i+1) v fun y hy=>h y (by simp [hy])
  by_cases hx:As3 c.u_code x=0
  ·exact ⟨j,by simp [Ea,h x (by simp),hj,Av3,hx]⟩
  ·exact ⟨(i:Int),by simp [Ea,h x (by simp),hj,Av3,hx,g6 hx]⟩
theorem Afu{e:Ab}(h:Cq e)(c:Bj):∀L,maxLen+dE e < L→Eo L c e=some (As3 c.u_code e):=by
 induction h with
 |mk a0 a1 a2 a3 h0 h1 h2 h3 h4 ih=>
  intro L hL
  obtain ⟨L,rfl⟩:∃k,L=k+1:=⟨L - 1,by omega⟩
  rw [dE] at hL
  have hr:∀x∈a3,Eo L c x=some (As3 c.u_code x):=fun x hx=>ih x hx L (by have:=Ak9 hx;omega)
  obtain ⟨j,hj⟩:=Aei (Eo L) L (.mk a0 a1 a2 a3) c a3 0 0 hr
  have h1':a1.size≤maxLen:=h1
  simp only [k4,Lz,Ih,Tu,Eo,Lz,Ih,aN,aB,Ab.cp_eq,Ab.Op,Ab.Name,Ab.N,Ab.Kids,Ab.eta,Ahn L c (.mk a0 a1 a2 a3) h1 (show a1.size < L by omega),Acu _ _ (.mk a0 a1 a2 a3) _ _ h3 (show a3.length < L by omega),hj,Option.bind_some,As3]
  by_cases h:Aul c.u_code (.mk a0 a1 a2 a3)=0
  ·by_cases h':Av3 c.u_code a3=0
   ·simp [h,h',R4,x0]
   ·simp [h,h',R4,x0,g6 h']
  ·simp [h,g6 h]
theorem b0{e:Ab}(h:Cq e)(c:Bj)(L:Nat)(hL:maxLen+dE e < L):Lf L c e=some (K0 c.u_code e):=by
 simp only [T3,Lf,aN,aB,Ab.cp_eq,An4 h L hL,An3 h L hL,Afu h c L hL,Option.bind_some,Qs,K0]
 congr 1
 grind
theorem u7{e:Ab}(h:Cq e)(L:Nat)(hL:maxLen+dE e < L):Nl L e=some (K0 false e):=by
 simp only [Abk,Nl,aN,aB,Ab.cp_eq,b0 h _ L hL,Option.bind_some]
theorem Aq9{α :Type}(l:List α)(p: α→Bool):decide (Adm (l.findIdx? p)≥0)=l.any p:=by
 have h:=List.findIdx?_isSome (xs:=l) (p:=p)
 rw [←h]
 cases l.findIdx? p with
 |none=>rfl
 |some i=>simp [Adm]
theorem Aht(L:Nat)(l:List Ao)(s:Aa)(n:ByteArray):∀(k:List Ao) (i:Nat) (v:Int),Ge L l s n k i v=some (match k.findIdx? (fun x=>x.Name.toList == n.toList) with|some j=>(0,(((i+j:Nat):Int),((i+j:Nat):Int)))|none=>(1,(v,((i+k.length:Nat):Int)))):=by
 intro k
 induction k with
 |nil=>intro i v;rfl
 |cons x k ih=>
  intro i v
  rw [Ge,ih,List.findIdx?_cons]
  cases hc:(fun x=>x.Name.toList == n.toList) x with
  |true=>simp only [hc,cond_true,if_true];rfl
  |false=>
   simp only [hc,cond_false,if_false,Bool.false_eq_true]
   cases k.findIdx? (fun x=>x.Name.toList == n.toList) with
   |some j=>simp [Nat.add_assoc,Nat.add_comm 1]
   |none=>simp [Nat.add_assoc,Nat.add_comm 1]
theorem Acv(L:Nat)(l:List Ao)(s:Aa)(n:ByteArray)(hl:l.length≤maxLen)(hL:l.length < L):Nr L l s n=some (Adm (l.findIdx? (fun x=>decide (x.Name=n)))):=by
 simp only [Nr,Z2,Nt,aN,aB,Aef _ _ _ _ _ hl hL,Aht,Wv,Option.bind_some]
 cases l.findIdx? (fun x=>decide (x.Name=n)) with
 |none=>rfl
 |some i=>simp [Adm,R4]
theorem Aax(L:Nat)(l:List ByteArray)(n:ByteArray):∀(k:List ByteArray) (i:Nat) (v:Int),Dt L l n k i v=some (match k.findIdx? (fun x=>n.toList == x.toList) with|some j=>(0,(((i+j:Nat):Int),((i+j:Nat):Int)))|none=>(1,(v,((i+k.length:Nat):Int)))):=by
 intro k
 induction k with
 |nil=>intro i v;rfl
 |cons x k ih=>
  intro i v
  rw [Dt,ih,List.findIdx?_cons]
  cases hc:(fun x=>n.toList == x.toList) x with
  |true=>simp only [hc,cond_true,if_true];rfl
  |false=>
   simp only [hc,cond_false,if_false,Bool.false_eq_true]
   cases k.findIdx? (fun x=>n.toList == x.toList) with
   |some j=>simp [Nat.add_assoc,Nat.add_comm 1]
   |none=>simp [Nat.add_assoc,Nat.add_comm 1]
theorem Ab4(L:Nat)(l:List ByteArray)(n:ByteArray)(hl:l.length≤maxLen)(hL:l.length < L):Ks L l n=some (Adm (l.findIdx? (fun x=>decide (n=x)))):=by
 simp only [Ks,Vd,H2,aN,aB,j4 _ _ _ _ hl hL,Aax,Wv,Option.bind_some]
 cases l.findIdx? (fun x=>decide (n=x)) with
 |none=>rfl
 |some i=>simp [Adm,R4]
def Ahv(s:Aa)(n:ByteArray):Int:=Adm (s.Routines.findIdx? fun x=>decide (x.Name=n))
theorem Aaw(L:Nat)(s:Aa)(n:ByteArray)(hl:s.Routines.length≤maxLen)(hL:s.Routines.length < L):Il L s n=some (Ahv s n):=by
 simp only [Acf,Kn,Il,Kn,aN,aB,Acv L _ s n hl hL,Option.bind_some,Ahv]
def Afn(s:Aa)(m:Nat):Prop:=s.Vars.length≤m∧s.Resources.length≤m∧s.Stores.length≤m∧s.Belts.length≤m∧s.Queues.length≤m∧s.Streams.length≤m∧s.Tallies.length≤m∧s.Levels.length≤m∧s.Counts.length≤m∧s.Routines.length≤m
theorem Ch.len{s:Aa}(h:Ch s):Afn s maxLen:=by
 unfold Ch at h
 unfold Afn
 simp only [h,and_self]
def o2:Option Int→Int×Bool
 |some t=>(t,true)
 |none=>(0,false)
theorem Auc(s:Aa):Afn s (Da s):=by
 unfold Afn Da
 have h0:s.Vars.length≤Er Qq s.Vars:=Hp fun x=>by unfold Qq;omega
 have h1:s.Resources.length≤Er Ei s.Resources:=Hp fun x=>by unfold Ei;omega
 have h2:s.Stores.length≤Er Mn s.Stores:=Hp fun x=>by unfold Mn;omega
 have h3:s.Belts.length≤Er N2 s.Belts:=Hp fun x=>by unfold N2;omega
 have h4:s.Queues.length≤Er (fun z:ByteArray=>z.size+1) s.Queues:=Hp fun x=>by omega
 have h5:s.Streams.length≤Er (fun z:ByteArray=>z.size+1) s.Streams:=Hp fun x=>by omega
 have h6:s.Tallies.length≤Er (fun z:ByteArray=>z.size+1) s.Tallies:=Hp fun x=>by omega
 have h7:s.Levels.length≤Er (fun z:ByteArray=>z.size+1) s.Levels:=Hp fun x=>by omega
 have h8:s.Counts.length≤Er (fun z:ByteArray=>z.size+1) s.Counts:=Hp fun x=>by omega
 have h9:s.Routines.length≤Er F5 s.Routines:=Hp fun x=>by unfold F5;omega
 refine ⟨?_,?_,?_,?_,?_,?_,?_,?_,?_,?_⟩<;>omega
theorem Afn.mono{s:Aa}{m n:Nat}(h:Afn s m)(hm:m≤n):Afn s n:=by
 obtain ⟨h0,h1,h2,h3,h4,h5,h6,h7,h8,h9⟩:=h
 exact ⟨by omega,by omega,by omega,by omega,by omega,by omega,by omega,by omega,by omega,by omega⟩
mutual
theorem Alz:∀e:Ab,dE e≤B3 e
 | .mk a b c k=>by
  rw [dE,B3]
  have:=A5c k
  omega
theorem A5c:∀k:List Ab,dEs k≤No k
 | []=>by simp [dEs]
 |x::k=>by
  rw [dEs,No]
  have:=Alz x
  have:=A5c k
  omega
end
end Go.Proofs.YthjhkpgonleelaaGreatDoor.Ev
