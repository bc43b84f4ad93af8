/-  Chapter 11, plainly: the kind of a name. -/
import Derived.Test.YtofcpkmnhmnfcaaGreatRQA
import Derived.Test.YtofcpkmnhmnfcaaGreatRPB
import Derived.Test.YtofcpkmnhmnfcaaGreatRR0
namespace Go.Proofs.YtofcpkmnhmnfcaaGreatR.Ev
open Go An
set_option maxRecDepth 100000
set_option linter.unusedVariables false
set_option linter.unusedSimpArgs false
set_option linter.unnecessarySimpa false
def Bre:ByteArray:=⟨#[118,97,114]⟩
def Vi:ByteArray:=⟨#[114,101,115,111,117,114,99,101]⟩
def Ajn:ByteArray:=⟨#[115,116,111,114,101]⟩
def A72:ByteArray:=⟨#[98,101,108,116]⟩
def Ajm:ByteArray:=⟨#[113,117,101,117,101]⟩
def Av1:ByteArray:=⟨#[115,116,114,101,97,109]⟩
def At8:ByteArray:=⟨#[116,97,108,108,121]⟩
def A2x:ByteArray:=⟨#[108,101,118,101,108]⟩
def A2w:ByteArray:=⟨#[99,111,117,110,116]⟩
def A2y:ByteArray:=⟨#[114,111,117,116,105,110,101]⟩
theorem Azr(L:Nat)(l:List Ag)(s:Aa)(n:ByteArray):∀(k:List Ag) (i:Nat) (v:Int),Kz L l s n k i v=some (match k.findIdx? (fun x=>x.Name.toList == n.toList) with|some j=>(0,(((i+j:Nat):Int),((i+j:Nat):Int)))|none=>(1,(v,((i+k.length:Nat):Int)))):=by
 intro k
 induction k with
 |nil=>intro i v;rfl
 |cons x k ih=>
  intro i v
  rw [Kz,ih,List.findIdx?_cons]
  cases hc:(fun x=>x.Name.toList == n.toList) x with
  |true=>simp only [hc,cond_true,if_true];rfl
  |false=>
   simp only [hc,cond_false,if_false,Bool.false_eq_true]
   cases k.findIdx? (fun x=>x.Name.toList == n.toList) with
   |some j=>simp [Nat.add_assoc,Nat.add_comm 1]
   |none=>simp [Nat.add_assoc,Nat.add_comm 1]
theorem Aps(L:Nat)(l:List Ag)(s:Aa)(n:ByteArray)(hl:l.length≤maxLen)(hL:l.length < L):Vx L l s n=some (Sf (l.findIdx? (fun x=>decide (x.Name=n)))):=by
 simp only [Vx,Ai6,Wn,aN,aB,Auh _ _ _ _ _ hl hL,Azr,Jo,Option.bind_some]
 cases l.findIdx? (fun x=>decide (x.Name=n)) with
 |none=>rfl
 |some i=>simp [Sf,Nb]
theorem Azs(L:Nat)(l:List Ah)(s:Aa)(n:ByteArray):∀(k:List Ah) (i:Nat) (v:Int),K0 L l s n k i v=some (match k.findIdx? (fun x=>x.Name.toList == n.toList) with|some j=>(0,(((i+j:Nat):Int),((i+j:Nat):Int)))|none=>(1,(v,((i+k.length:Nat):Int)))):=by
 intro k
 induction k with
 |nil=>intro i v;rfl
 |cons x k ih=>
  intro i v
  rw [K0,ih,List.findIdx?_cons]
  cases hc:(fun x=>x.Name.toList == n.toList) x with
  |true=>simp only [hc,cond_true,if_true];rfl
  |false=>
   simp only [hc,cond_false,if_false,Bool.false_eq_true]
   cases k.findIdx? (fun x=>x.Name.toList == n.toList) with
   |some j=>simp [Nat.add_assoc,Nat.add_comm 1]
   |none=>simp [Nat.add_assoc,Nat.add_comm 1]
theorem Apt(L:Nat)(l:List Ah)(s:Aa)(n:ByteArray)(hl:l.length≤maxLen)(hL:l.length < L):Vy L l s n=some (Sf (l.findIdx? (fun x=>decide (x.Name=n)))):=by
 simp only [Vy,Ai7,Wp,aN,aB,Aui _ _ _ _ _ hl hL,Azs,Jo,Option.bind_some]
 cases l.findIdx? (fun x=>decide (x.Name=n)) with
 |none=>rfl
 |some i=>simp [Sf,Nb]
theorem Azt(L:Nat)(l:List Ar)(s:Aa)(n:ByteArray):∀(k:List Ar) (i:Nat) (v:Int),K1 L l s n k i v=some (match k.findIdx? (fun x=>x.Name.toList == n.toList) with|some j=>(0,(((i+j:Nat):Int),((i+j:Nat):Int)))|none=>(1,(v,((i+k.length:Nat):Int)))):=by
 intro k
 induction k with
 |nil=>intro i v;rfl
 |cons x k ih=>
  intro i v
  rw [K1,ih,List.findIdx?_cons]
  cases hc:(fun x=>x.Name.toList == n.toList) x with
  |true=>simp only [hc,cond_true,if_true];rfl
  |false=>
   simp only [hc,cond_false,if_false,Bool.false_eq_true]
   cases k.findIdx? (fun x=>x.Name.toList == n.toList) with
   |some j=>simp [Nat.add_assoc,Nat.add_comm 1]
   |none=>simp [Nat.add_assoc,Nat.add_comm 1]
theorem Apu(L:Nat)(l:List Ar)(s:Aa)(n:ByteArray)(hl:l.length≤maxLen)(hL:l.length < L):Vz L l s n=some (Sf (l.findIdx? (fun x=>decide (x.Name=n)))):=by
 simp only [Vz,Ai8,Wr,aN,aB,Auj _ _ _ _ _ hl hL,Azt,Jo,Option.bind_some]
 cases l.findIdx? (fun x=>decide (x.Name=n)) with
 |none=>rfl
 |some i=>simp [Sf,Nb]
theorem Azu(L:Nat)(l:List Aw)(s:Aa)(n:ByteArray):∀(k:List Aw) (i:Nat) (v:Int),K2 L l s n k i v=some (match k.findIdx? (fun x=>x.Name.toList == n.toList) with|some j=>(0,(((i+j:Nat):Int),((i+j:Nat):Int)))|none=>(1,(v,((i+k.length:Nat):Int)))):=by
 intro k
 induction k with
 |nil=>intro i v;rfl
 |cons x k ih=>
  intro i v
  rw [K2,ih,List.findIdx?_cons]
  cases hc:(fun x=>x.Name.toList == n.toList) x with
  |true=>simp only [hc,cond_true,if_true];rfl
  |false=>
   simp only [hc,cond_false,if_false,Bool.false_eq_true]
   cases k.findIdx? (fun x=>x.Name.toList == n.toList) with
   |some j=>simp [Nat.add_assoc,Nat.add_comm 1]
   |none=>simp [Nat.add_assoc,Nat.add_comm 1]
theorem Apv(L:Nat)(l:List Aw)(s:Aa)(n:ByteArray)(hl:l.length≤maxLen)(hL:l.length < L):V0 L l s n=some (Sf (l.findIdx? (fun x=>decide (x.Name=n)))):=by
 simp only [V0,Ai9,Um,aN,aB,Auk _ _ _ _ _ hl hL,Azu,Jo,Option.bind_some]
 cases l.findIdx? (fun x=>decide (x.Name=n)) with
 |none=>rfl
 |some i=>simp [Sf,Nb]
theorem Au1(L:Nat)(l:List Ap)(s:Aa)(n:ByteArray):∀(k:List Ap) (i:Nat) (v:Int),Ii L l s n k i v=some (match k.findIdx? (fun x=>x.Name.toList == n.toList) with|some j=>(0,(((i+j:Nat):Int),((i+j:Nat):Int)))|none=>(1,(v,((i+k.length:Nat):Int)))):=by
 intro k
 induction k with
 |nil=>intro i v;rfl
 |cons x k ih=>
  intro i v
  rw [Ii,ih,List.findIdx?_cons]
  cases hc:(fun x=>x.Name.toList == n.toList) x with
  |true=>simp only [hc,cond_true,if_true];rfl
  |false=>
   simp only [hc,cond_false,if_false,Bool.false_eq_true]
   cases k.findIdx? (fun x=>x.Name.toList == n.toList) with
   |some j=>simp [Nat.add_assoc,Nat.add_comm 1]
   |none=>simp [Nat.add_assoc,Nat.add_comm 1]
theorem Al5(L:Nat)(l:List Ap)(s:Aa)(n:ByteArray)(hl:l.length≤maxLen)(hL:l.length < L):Sl L l s n=some (Sf (l.findIdx? (fun x=>decide (x.Name=n)))):=by
 simp only [Sl,Aev,Sq,aN,aB,Apo _ _ _ _ _ hl hL,Au1,Jo,Option.bind_some]
 cases l.findIdx? (fun x=>decide (x.Name=n)) with
 |none=>rfl
 |some i=>simp [Sf,Nb]
theorem Ajq(L:Nat)(l:List ByteArray)(n:ByteArray):∀(k:List ByteArray) (i:Nat) (v:Int),Ea L l n k i v=some (match k.findIdx? (fun x=>n.toList == x.toList) with|some j=>(0,(((i+j:Nat):Int),((i+j:Nat):Int)))|none=>(1,(v,((i+k.length:Nat):Int)))):=by
 intro k
 induction k with
 |nil=>intro i v;rfl
 |cons x k ih=>
  intro i v
  rw [Ea,ih,List.findIdx?_cons]
  cases hc:(fun x=>n.toList == x.toList) x with
  |true=>simp only [hc,cond_true,if_true];rfl
  |false=>
   simp only [hc,cond_false,if_false,Bool.false_eq_true]
   cases k.findIdx? (fun x=>n.toList == x.toList) with
   |some j=>simp [Nat.add_assoc,Nat.add_comm 1]
   |none=>simp [Nat.add_assoc,Nat.add_comm 1]
theorem Gr(L:Nat)(l:List ByteArray)(n:ByteArray)(hl:l.length≤maxLen)(hL:l.length < L):Dq L l n=some (Sf (l.findIdx? (fun x=>decide (n=x)))):=by
 simp only [Dq,s9,Lb,aN,aB,Ago _ _ _ _ hl hL,Ajq,Jo,Option.bind_some]
 cases l.findIdx? (fun x=>decide (n=x)) with
 |none=>rfl
 |some i=>simp [Sf,Nb]
def Aco(s:Aa)(n:ByteArray):Int:=Sf (s.Routines.findIdx? fun x=>decide (x.Name=n))
theorem Rp(L:Nat)(s:Aa)(n:ByteArray)(hl:s.Routines.length≤maxLen)(hL:s.Routines.length < L):Fv L s n=some (Aco s n):=by
 simp only [Alj,N8,Fv,N8,aN,aB,Al5 L _ s n hl hL,Option.bind_some,Aco]
def Bdx(s:Aa)(n:ByteArray):ByteArray×Int:=
 bif s.Vars.any (fun x=>decide (x.Name=n)) then (Bre,Sf (s.Vars.findIdx? fun x=>decide (x.Name=n)))
 else bif s.Resources.any (fun x=>decide (x.Name=n)) then (Vi,Sf (s.Resources.findIdx? fun x=>decide (x.Name=n)))
 else bif s.Stores.any (fun x=>decide (x.Name=n)) then (Ajn,Sf (s.Stores.findIdx? fun x=>decide (x.Name=n)))
 else bif s.Belts.any (fun x=>decide (x.Name=n)) then (A72,Sf (s.Belts.findIdx? fun x=>decide (x.Name=n)))
 else bif s.Queues.any (fun x=>decide (n=x)) then (Ajm,Sf (s.Queues.findIdx? fun x=>decide (n=x)))
 else bif s.Streams.any (fun x=>decide (n=x)) then (Av1,Sf (s.Streams.findIdx? fun x=>decide (n=x)))
 else bif s.Tallies.any (fun x=>decide (n=x)) then (At8,Sf (s.Tallies.findIdx? fun x=>decide (n=x)))
 else bif s.Levels.any (fun x=>decide (n=x)) then (A2x,Sf (s.Levels.findIdx? fun x=>decide (n=x)))
 else bif s.Counts.any (fun x=>decide (n=x)) then (A2w,Sf (s.Counts.findIdx? fun x=>decide (n=x)))
 else bif s.Routines.any (fun x=>decide (x.Name=n)) then (A2y,Aco s n)
 else (⟨#[]⟩,-1)
def Anb(s:Aa)(n:ByteArray):ByteArray:=(Bdx s n).1
def Ajp(s:Aa)(m:Nat):Prop:=s.Vars.length≤m∧s.Resources.length≤m∧s.Stores.length≤m∧s.Belts.length≤m∧s.Queues.length≤m∧s.Streams.length≤m∧s.Tallies.length≤m∧s.Levels.length≤m∧s.Counts.length≤m∧s.Routines.length≤m
theorem B4.len{s:Aa}(h:B4 s):Ajp s maxLen:=by
 unfold B4 at h
 unfold Ajp
 simp only [h,and_self]
theorem A3j(L:Nat)(s:Aa)(n:ByteArray)(h:Ajp s maxLen)(hL:maxLen < L):Abe L s n=some (Bdx s n):=by
 obtain ⟨h0,h1,h2,h3,h4,h5,h6,h7,h8,h9⟩:=h
 have hR:decide (Aco s n≥0)=s.Routines.any (fun x=>decide (x.Name=n)):=Apa _ _
 simp only [Ap8,Wo,W5,Wq,W6,Ws,U0,P9,Abe,Wo,W5,Wq,W6,Ws,U0,P9,aN,aB,Aps L _ s n h0 (by omega),Apt L _ s n h1 (by omega),Apu L _ s n h2 (by omega),Apv L _ s n h3 (by omega),
  Gr L _ n h4 (by omega),Gr L _ n h5 (by omega),Gr L _ n h6 (by omega),Gr L _ n h7 (by omega),Gr L _ n h8 (by omega),Rp L s n h9 (by omega),
  Option.bind_some,Oe,Apa,hR,Bdx]
 simp only [Bre,Vi,Ajn,A72,Ajm,Av1,At8,A2x,A2w,A2y]
theorem Aqu(L:Nat)(s:Aa)(n:ByteArray)(h:Ajp s maxLen)(hL:maxLen < L):Zv L s n=some (Anb s n):=by
 simp only [Akk,Zv,aN,aB,A3j L s n h hL,Option.bind_some,Anb]
def A4x(l:List Ao)(s:ByteArray):Option Int:=(l.reverse.find? fun f=>decide (f.Name=s)).map (·.Type_)
def Sg(l:List Ag)(s:ByteArray):Option Int:=(l.find? fun x=>decide (x.Name=s)).map (·.Type_)
def o2:Option Int→Int×Bool
 |some t=>(t,true)
 |none=>(0,false)
def A2p(v:Au)(s:ByteArray):Option Int:=match A4x v.Locals s with
 |some t=>some t
 |none=>match Sg v.Site.Vars s with
  |some t=>some t
  |none=>Sg v.Params s
theorem Azh(L:Nat)(l:List Ao)(s:ByteArray)(hl:l.length≤maxLen):∀(j n:Nat),j≤l.length→j < n→
  ∃i,Jc L l s n 0 false ((j:Int) - 1)=some (match (l.take j).reverse.find? (fun f=>decide (f.Name=s)) with|some f=>(0,(f.Type_,true,i))|none=>(1,(0,false,i))):=by
 intro j
 induction j with
 |zero=>
  intro n _ hn
  obtain ⟨n,rfl⟩:∃k,n=k+1:=⟨n - 1,by omega⟩
  exact ⟨_,by simp only [Jc,P3,aN];rfl⟩
 |succ j ih=>
  intro n hj hn
  obtain ⟨n,rfl⟩:∃k,n=k+1:=⟨n - 1,by omega⟩
  have hlt:j < l.length:=by omega
  have e0:((j+1:Nat):Int) - 1=(j:Int):=by omega
  have e1:decide ((j:Int)≥0)=true:=decide_eq_true (by omega)
  have et:(l.take (j+1)).reverse=l.getD j default::(l.take j).reverse:=by
   rw [List.take_succ_eq_append_getElem hlt,List.reverse_append,Iu l j hlt];rfl
  obtain ⟨i,hi⟩:=ih n (by omega) (by omega)
  rw [et]
  rw [List.find?_cons]
  cases hb:decide ((l.getD j default).Name=s) with
  |true=>exact ⟨(j:Int),by simp only [Jc,P3,aN,Jo,e0,e1,nn,Qu hlt,toN,hb,cond_true,if_true,decide_true]⟩
  |false=>exact ⟨i,by simp only [Jc,P3,aN,Jo,e0,e1,nn,Qu hlt,toN,hb,cond_true,cond_false,if_true,decide_true,A4l (show j≤maxLen by omega),hi]⟩
theorem Adi(L:Nat)(l:List Ao)(s:ByteArray)(hl:l.length≤maxLen)(hL:l.length < L):Nx L l s=some (o2 (A4x l s)):=by
 obtain ⟨i,hi⟩:=Azh L l s hl l.length L (Nat.le_refl _) hL
 rw [List.take_length] at hi
 simp only [Amy,Qe,Nx,Qe,aN,A4l hl,hi,A4x]
 cases l.reverse.find? (fun f=>decide (f.Name=s))<;>rfl
theorem Azw(L:Nat)(s:ByteArray)(v0:Au):∀(k:List Ag) (i:Nat) (v:Int) (w:Bool),∃j,K3 L s v0 k i v w=some (match k.find? (fun x=>decide (x.Name=s)) with|some x=>(0,(x.Type_,true,j))|none=>(1,(v,w,j))):=by
 intro k
 induction k with
 |nil=>intro i v w;exact ⟨i,rfl⟩
 |cons x k ih=>
  intro i v w
  obtain ⟨j,hj⟩:=ih (i+1) v w
  rw [K3,List.find?_cons,Jo]
  cases decide (x.Name=s) with
  |true=>exact ⟨i,rfl⟩
  |false=>exact ⟨j,hj⟩
theorem Azx(L:Nat)(s:ByteArray)(v0:Au):∀(k:List Ag) (i:Nat) (v:Int) (w:Bool),∃j,K4 L s v0 k i v w=some (match k.find? (fun x=>decide (x.Name=s)) with|some x=>(0,(x.Type_,true,j))|none=>(1,(v,w,j))):=by
 intro k
 induction k with
 |nil=>intro i v w;exact ⟨i,rfl⟩
 |cons x k ih=>
  intro i v w
  obtain ⟨j,hj⟩:=ih (i+1) v w
  rw [K4,List.find?_cons,Jo]
  cases decide (x.Name=s) with
  |true=>exact ⟨i,rfl⟩
  |false=>exact ⟨j,hj⟩
theorem A3m(L:Nat)(v:Au)(s:ByteArray)(h:Kh v)(hL:maxLen < L):Abg L v s=some (o2 (A2p v s)):=by
 obtain ⟨⟨h1,_⟩,⟨h2,_⟩,h3⟩:=h
 have h4:=h3.len.1
 obtain ⟨j1,e1⟩:=Azw L s v v.Site.Vars 0 0 false
 obtain ⟨j2,e2⟩:=Azx L s v v.Params 0 0 false
 simp only [Aqb,Xe,Wx,Xf,R9,Abg,Xe,Wx,Xf,R9,aN,aB,Adi L _ s h2 (by omega),Aum L s v L h4 (by omega),Aun L s v L h1 (by omega),e1,Option.bind_some,A2p,Sg]
 cases A4x v.Locals s with
 |some t=>rfl
 |none=>
  simp only [o2,cond_false]
  cases v.Site.Vars.find? (fun x=>decide (x.Name=s)) with
  |some t=>rfl
  |none=>
   simp only [Sr,e2,Option.bind_some,Option.map_none]
   cases v.Params.find? (fun x=>decide (x.Name=s))<;>rfl
def A75(t:Int):Bool:=t == 1 || t == 3
def unT(op a:Int):Int:=if (op=5∧A75 a=true)∨(op=6∧a=2) then a else if op=7∧a=1 then 3 else if op=8∧a=3 then 1 else 0
def Bus(op a b:Int):Int:=
 if op=9∨op=10∨op=13∨op=20∨op=21 then (if a=b∧A75 a=true then a else 0)
 else if op=11 then (if a=1∧b=1 then 1 else if A75 a=true∧A75 b=true∧a≠b then 3 else 0)
 else if op=12 then (if (a=1∧b=1)∨(a=3∧b=3) then 1 else if a=3∧b=1 then 3 else 0)
 else if op=14∨op=15 then (if a=b then 2 else 0)
 else if op=16∨op=17 then (if a=b∧A75 a=true then 2 else 0)
 else if op=18∨op=19 then (if a=2∧b=2 then 2 else 0)
 else 0
def Bzq(op:Int)(k:ByteArray):Bool:=if op=22 then decide (k=Vi) else if op=23 then decide (k=Ajn) else decide (k=Vi) || decide (k=Ajm)
theorem Afn(L:Nat)(t:Int):Hh L t=some (A75 t):=by
 simp only [Z5,Hh,aN,aB,Zl,A75]
theorem Azn(L:Nat)(op a:Int):Zy L op a=some (unT op a):=by
 simp only [Aep,Zy,aN,aB,Afn,Option.bind_some,Oe,Ny,Zl,unT]
 congr 1
 by_cases h5:op=5
 ·subst h5;cases A75 a<;>simp
 by_cases h6:op=6
 ·subst h6;by_cases h:a=2<;>first|(simp [h];done)|(simp [h,beq_false_of_ne h];done)
 by_cases h7:op=7
 ·subst h7;by_cases h:a=1<;>first|(simp [h];done)|(simp [h,beq_false_of_ne h];done)
 by_cases h8:op=8
 ·subst h8;by_cases h:a=3<;>first|(simp [h];done)|(simp [h,beq_false_of_ne h];done)
 have b5:(op == 5)=false:=beq_false_of_ne h5
 have b6:(op == 6)=false:=beq_false_of_ne h6
 have b7:(op == 7)=false:=beq_false_of_ne h7
 have b8:(op == 8)=false:=beq_false_of_ne h8
 simp [h5,h6,h7,h8,b5,b6,b7,b8]
theorem Awv(L:Nat)(op a b:Int):X5 L op a b=some (Bus op a b):=by
 simp only [Su,Sv,sx_typing_binary_4,Zf,sx_typing_binary_3,Ze,sx_typing_binary_1,Zd,sx_typing_binary_0,All,X5,aN,aB,Afn,Option.bind_some,Oe,Ny,Zl,Bus,A75]
 congr 1
 rcases Bzu op with rfl|rfl|rfl|rfl|rfl|rfl|rfl|rfl|rfl|rfl|rfl|rfl|rfl|rfl|rfl|rfl|rfl|rfl|rfl|rfl|rfl|rfl|rfl|rfl|rfl|rfl|hop|hop
 all_goals first|(simp;done)|(simp;grind)|grind
theorem Aww(L:Nat)(op:Int)(k:ByteArray):Ya L op k=some (Bzq op k):=by
 simp only [Acv,Ya,aN,aB,Jo,Zl,Oe,Bzq,Vi,Ajn,Ajm]
 congr 1
 by_cases h:op=22
 ·subst h;rfl
 by_cases h':op=23
 ·subst h';rfl
 have b:(op == 22)=false:=beq_false_of_ne h
 have b':(op == 23)=false:=beq_false_of_ne h'
 simp only [h,h',b,b',cond_false,if_false]
 rfl
end Go.Proofs.YtofcpkmnhmnfcaaGreatR.Ev
