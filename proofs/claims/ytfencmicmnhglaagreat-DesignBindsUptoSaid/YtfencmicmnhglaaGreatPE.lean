/-  Chapter 11, plainly: the kind of a name. -/
import Derived.Test.YtfencmicmnhglaaGreatQA
import Derived.Test.YtfencmicmnhglaaGreatPB
import Derived.Test.YtfencmicmnhglaaGreatR0
namespace Go.Proofs.YtfencmicmnhglaaGreat.Ev
open Go An
set_option maxRecDepth 100000
set_option linter.unusedVariables false
set_option linter.unusedSimpArgs false
set_option linter.unnecessarySimpa false
def Bgf:ByteArray:=⟨#[118,97,114]⟩
def T3:ByteArray:=⟨#[114,101,115,111,117,114,99,101]⟩
def Ae1:ByteArray:=⟨#[115,116,111,114,101]⟩
def Azw:ByteArray:=⟨#[98,101,108,116]⟩
def Ae0:ByteArray:=⟨#[113,117,101,117,101]⟩
def Ao2:ByteArray:=⟨#[115,116,114,101,97,109]⟩
def Anb:ByteArray:=⟨#[116,97,108,108,121]⟩
def At0:ByteArray:=⟨#[108,101,118,101,108]⟩
def Atz:ByteArray:=⟨#[99,111,117,110,116]⟩
def At1:ByteArray:=⟨#[114,111,117,116,105,110,101]⟩
theorem Ar2(L:Nat)(l:List Ah)(s:Aa)(n:ByteArray):∀(k:List Ah) (i:Nat) (v:Int),Kb L l s n k i v=some (match k.findIdx? (fun x=>x.Name.toList == n.toList) with|some j=>(0,(((i+j:Nat):Int),((i+j:Nat):Int)))|none=>(1,(v,((i+k.length:Nat):Int)))):=by
 intro k
 induction k with
 |nil=>intro i v;rfl
 |cons x k ih=>
  intro i v
  rw [Kb,ih,List.findIdx?_cons]
  cases hc:(fun x=>x.Name.toList == n.toList) x with
  |true=>simp only [hc,cond_true,if_true];rfl
  |false=>
   simp only [hc,cond_false,if_false,Bool.false_eq_true]
   cases k.findIdx? (fun x=>x.Name.toList == n.toList) with
   |some j=>simp [Nat.add_assoc,Nat.add_comm 1]
   |none=>simp [Nat.add_assoc,Nat.add_comm 1]
theorem Aj3(L:Nat)(l:List Ah)(s:Aa)(n:ByteArray)(hl:l.length≤maxLen)(hL:l.length < L):Ui L l s n=some (Nz (l.findIdx? (fun x=>decide (x.Name=n)))):=by
 simp only [Ui,Aek,U5,aN,aB,Ani _ _ _ _ _ hl hL,Ar2,I2,Option.bind_some]
 cases l.findIdx? (fun x=>decide (x.Name=n)) with
 |none=>rfl
 |some i=>simp [Nz,Lx]
theorem Ar3(L:Nat)(l:List Ai)(s:Aa)(n:ByteArray):∀(k:List Ai) (i:Nat) (v:Int),Kc L l s n k i v=some (match k.findIdx? (fun x=>x.Name.toList == n.toList) with|some j=>(0,(((i+j:Nat):Int),((i+j:Nat):Int)))|none=>(1,(v,((i+k.length:Nat):Int)))):=by
 intro k
 induction k with
 |nil=>intro i v;rfl
 |cons x k ih=>
  intro i v
  rw [Kc,ih,List.findIdx?_cons]
  cases hc:(fun x=>x.Name.toList == n.toList) x with
  |true=>simp only [hc,cond_true,if_true];rfl
  |false=>
   simp only [hc,cond_false,if_false,Bool.false_eq_true]
   cases k.findIdx? (fun x=>x.Name.toList == n.toList) with
   |some j=>simp [Nat.add_assoc,Nat.add_comm 1]
   |none=>simp [Nat.add_assoc,Nat.add_comm 1]
theorem Aj4(L:Nat)(l:List Ai)(s:Aa)(n:ByteArray)(hl:l.length≤maxLen)(hL:l.length < L):Uj L l s n=some (Nz (l.findIdx? (fun x=>decide (x.Name=n)))):=by
 simp only [Uj,Ael,U7,aN,aB,Anj _ _ _ _ _ hl hL,Ar3,I2,Option.bind_some]
 cases l.findIdx? (fun x=>decide (x.Name=n)) with
 |none=>rfl
 |some i=>simp [Nz,Lx]
theorem Ar4(L:Nat)(l:List Am)(s:Aa)(n:ByteArray):∀(k:List Am) (i:Nat) (v:Int),Kd L l s n k i v=some (match k.findIdx? (fun x=>x.Name.toList == n.toList) with|some j=>(0,(((i+j:Nat):Int),((i+j:Nat):Int)))|none=>(1,(v,((i+k.length:Nat):Int)))):=by
 intro k
 induction k with
 |nil=>intro i v;rfl
 |cons x k ih=>
  intro i v
  rw [Kd,ih,List.findIdx?_cons]
  cases hc:(fun x=>x.Name.toList == n.toList) x with
  |true=>simp only [hc,cond_true,if_true];rfl
  |false=>
   simp only [hc,cond_false,if_false,Bool.false_eq_true]
   cases k.findIdx? (fun x=>x.Name.toList == n.toList) with
   |some j=>simp [Nat.add_assoc,Nat.add_comm 1]
   |none=>simp [Nat.add_assoc,Nat.add_comm 1]
theorem Aj5(L:Nat)(l:List Am)(s:Aa)(n:ByteArray)(hl:l.length≤maxLen)(hL:l.length < L):Uk L l s n=some (Nz (l.findIdx? (fun x=>decide (x.Name=n)))):=by
 simp only [Uk,Aem,U9,aN,aB,Ank _ _ _ _ _ hl hL,Ar4,I2,Option.bind_some]
 cases l.findIdx? (fun x=>decide (x.Name=n)) with
 |none=>rfl
 |some i=>simp [Nz,Lx]
theorem Ar5(L:Nat)(l:List Aq)(s:Aa)(n:ByteArray):∀(k:List Aq) (i:Nat) (v:Int),Ke L l s n k i v=some (match k.findIdx? (fun x=>x.Name.toList == n.toList) with|some j=>(0,(((i+j:Nat):Int),((i+j:Nat):Int)))|none=>(1,(v,((i+k.length:Nat):Int)))):=by
 intro k
 induction k with
 |nil=>intro i v;rfl
 |cons x k ih=>
  intro i v
  rw [Ke,ih,List.findIdx?_cons]
  cases hc:(fun x=>x.Name.toList == n.toList) x with
  |true=>simp only [hc,cond_true,if_true];rfl
  |false=>
   simp only [hc,cond_false,if_false,Bool.false_eq_true]
   cases k.findIdx? (fun x=>x.Name.toList == n.toList) with
   |some j=>simp [Nat.add_assoc,Nat.add_comm 1]
   |none=>simp [Nat.add_assoc,Nat.add_comm 1]
theorem Aj6(L:Nat)(l:List Aq)(s:Aa)(n:ByteArray)(hl:l.length≤maxLen)(hL:l.length < L):Ul L l s n=some (Nz (l.findIdx? (fun x=>decide (x.Name=n)))):=by
 simp only [Ul,Aen,Tf,aN,aB,Anl _ _ _ _ _ hl hL,Ar5,I2,Option.bind_some]
 cases l.findIdx? (fun x=>decide (x.Name=n)) with
 |none=>rfl
 |some i=>simp [Nz,Lx]
theorem An3(L:Nat)(l:List Ak)(s:Aa)(n:ByteArray):∀(k:List Ak) (i:Nat) (v:Int),H3 L l s n k i v=some (match k.findIdx? (fun x=>x.Name.toList == n.toList) with|some j=>(0,(((i+j:Nat):Int),((i+j:Nat):Int)))|none=>(1,(v,((i+k.length:Nat):Int)))):=by
 intro k
 induction k with
 |nil=>intro i v;rfl
 |cons x k ih=>
  intro i v
  rw [H3,ih,List.findIdx?_cons]
  cases hc:(fun x=>x.Name.toList == n.toList) x with
  |true=>simp only [hc,cond_true,if_true];rfl
  |false=>
   simp only [hc,cond_false,if_false,Bool.false_eq_true]
   cases k.findIdx? (fun x=>x.Name.toList == n.toList) with
   |some j=>simp [Nat.add_assoc,Nat.add_comm 1]
   |none=>simp [Nat.add_assoc,Nat.add_comm 1]
theorem Ahn(L:Nat)(l:List Ak)(s:Aa)(n:ByteArray)(hl:l.length≤maxLen)(hL:l.length < L):Rq L l s n=some (Nz (l.findIdx? (fun x=>decide (x.Name=n)))):=by
 simp only [Rq,Acg,Rw,aN,aB,Aj0 _ _ _ _ _ hl hL,An3,I2,Option.bind_some]
 cases l.findIdx? (fun x=>decide (x.Name=n)) with
 |none=>rfl
 |some i=>simp [Nz,Lx]
theorem Ae5(L:Nat)(l:List ByteArray)(n:ByteArray):∀(k:List ByteArray) (i:Nat) (v:Int),Ee L l n k i v=some (match k.findIdx? (fun x=>n.toList == x.toList) with|some j=>(0,(((i+j:Nat):Int),((i+j:Nat):Int)))|none=>(1,(v,((i+k.length:Nat):Int)))):=by
 intro k
 induction k with
 |nil=>intro i v;rfl
 |cons x k ih=>
  intro i v
  rw [Ee,ih,List.findIdx?_cons]
  cases hc:(fun x=>n.toList == x.toList) x with
  |true=>simp only [hc,cond_true,if_true];rfl
  |false=>
   simp only [hc,cond_false,if_false,Bool.false_eq_true]
   cases k.findIdx? (fun x=>n.toList == x.toList) with
   |some j=>simp [Nat.add_assoc,Nat.add_comm 1]
   |none=>simp [Nat.add_assoc,Nat.add_comm 1]
theorem Gv(L:Nat)(l:List ByteArray)(n:ByteArray)(hl:l.length≤maxLen)(hL:l.length < L):Dw L l n=some (Nz (l.findIdx? (fun x=>decide (n=x)))):=by
 simp only [Dw,Zp,Ko,aN,aB,Acs _ _ _ _ hl hL,Ae5,I2,Option.bind_some]
 cases l.findIdx? (fun x=>decide (n=x)) with
 |none=>rfl
 |some i=>simp [Nz,Lx]
def Aaf(s:Aa)(n:ByteArray):Int:=Nz (s.Routines.findIdx? fun x=>decide (x.Name=n))
theorem Ql(L:Nat)(s:Aa)(n:ByteArray)(hl:s.Routines.length≤maxLen)(hL:s.Routines.length < L):E8 L s n=some (Aaf s n):=by
 simp only [Agx,Ni,E8,Ni,aN,aB,Ahn L _ s n hl hL,Option.bind_some,Aaf]
def A5a(s:Aa)(n:ByteArray):ByteArray×Int:=
 bif s.Vars.any (fun x=>decide (x.Name=n)) then (Bgf,Nz (s.Vars.findIdx? fun x=>decide (x.Name=n)))
 else bif s.Resources.any (fun x=>decide (x.Name=n)) then (T3,Nz (s.Resources.findIdx? fun x=>decide (x.Name=n)))
 else bif s.Stores.any (fun x=>decide (x.Name=n)) then (Ae1,Nz (s.Stores.findIdx? fun x=>decide (x.Name=n)))
 else bif s.Belts.any (fun x=>decide (x.Name=n)) then (Azw,Nz (s.Belts.findIdx? fun x=>decide (x.Name=n)))
 else bif s.Queues.any (fun x=>decide (n=x)) then (Ae0,Nz (s.Queues.findIdx? fun x=>decide (n=x)))
 else bif s.Streams.any (fun x=>decide (n=x)) then (Ao2,Nz (s.Streams.findIdx? fun x=>decide (n=x)))
 else bif s.Tallies.any (fun x=>decide (n=x)) then (Anb,Nz (s.Tallies.findIdx? fun x=>decide (n=x)))
 else bif s.Levels.any (fun x=>decide (n=x)) then (At0,Nz (s.Levels.findIdx? fun x=>decide (n=x)))
 else bif s.Counts.any (fun x=>decide (n=x)) then (Atz,Nz (s.Counts.findIdx? fun x=>decide (n=x)))
 else bif s.Routines.any (fun x=>decide (x.Name=n)) then (At1,Aaf s n)
 else (⟨#[]⟩,-1)
def Ait(s:Aa)(n:ByteArray):ByteArray:=(A5a s n).1
def Ae2(s:Aa)(m:Nat):Prop:=s.Vars.length≤m∧s.Resources.length≤m∧s.Stores.length≤m∧s.Belts.length≤m∧s.Queues.length≤m∧s.Streams.length≤m∧s.Tallies.length≤m∧s.Levels.length≤m∧s.Counts.length≤m∧s.Routines.length≤m
theorem B6.len{s:Aa}(h:B6 s):Ae2 s maxLen:=by
 unfold B6 at h
 unfold Ae2
 simp only [h,and_self]
theorem Aue(L:Nat)(s:Aa)(n:ByteArray)(h:Ae2 s maxLen)(hL:maxLen < L):u5 L s n=some (A5a s n):=by
 obtain ⟨h0,h1,h2,h3,h4,h5,h6,h7,h8,h9⟩:=h
 have hR:decide (Aaf s n≥0)=s.Routines.any (fun x=>decide (x.Name=n)):=Agg _ _
 simp only [Ake,U6,Vn,U8,Vo,Va,Tq,O9,u5,U6,Vn,U8,Vo,Va,Tq,O9,aN,aB,Aj3 L _ s n h0 (by omega),Aj4 L _ s n h1 (by omega),Aj5 L _ s n h2 (by omega),Aj6 L _ s n h3 (by omega),
  Gv L _ n h4 (by omega),Gv L _ n h5 (by omega),Gv L _ n h6 (by omega),Gv L _ n h7 (by omega),Gv L _ n h8 (by omega),Ql L s n h9 (by omega),
  Option.bind_some,Ot,Agg,hR,A5a]
 simp only [Bgf,T3,Ae1,Azw,Ae0,Ao2,Anb,At0,Atz,At1]
theorem Akp(L:Nat)(s:Aa)(n:ByteArray)(h:Ae2 s maxLen)(hL:maxLen < L):Xz L s n=some (Ait s n):=by
 simp only [Afz,Xz,aN,aB,Aue L s n h hL,Option.bind_some,Ait]
def Av2(l:List Ap)(s:ByteArray):Option Int:=(l.reverse.find? fun f=>decide (f.Name=s)).map (·.Type_)
def Bh9(l:List Ah)(s:ByteArray):Option Int:=(l.find? fun x=>decide (x.Name=s)).map (·.Type_)
def o2:Option Int→Int×Bool
 |some t=>(t,true)
 |none=>(0,false)
def A7p(v:Bf)(s:ByteArray):Option Int:=match Av2 v.Locals s with
 |some t=>some t
 |none=>match Bh9 v.Site.Vars s with
  |some t=>some t
  |none=>Bh9 v.Params s
theorem Arp(L:Nat)(l:List Ap)(s:ByteArray)(hl:l.length≤maxLen):∀(j n:Nat),j≤l.length→j < n→
  ∃i,Iu L l s n 0 false ((j:Int) - 1)=some (match (l.take j).reverse.find? (fun f=>decide (f.Name=s)) with|some f=>(0,(f.Type_,true,i))|none=>(1,(0,false,i))):=by
 intro j
 induction j with
 |zero=>
  intro n _ hn
  obtain ⟨n,rfl⟩:∃k,n=k+1:=⟨n - 1,by omega⟩
  exact ⟨_,by simp only [Iu,Oz,aN];rfl⟩
 |succ j ih=>
  intro n hj hn
  obtain ⟨n,rfl⟩:∃k,n=k+1:=⟨n - 1,by omega⟩
  have hlt:j < l.length:=by omega
  have e0:((j+1:Nat):Int) - 1=(j:Int):=by omega
  have e1:decide ((j:Int)≥0)=true:=decide_eq_true (by omega)
  have et:(l.take (j+1)).reverse=l.getD j default::(l.take j).reverse:=by
   rw [List.take_succ_eq_append_getElem hlt,List.reverse_append,Hm l j hlt];rfl
  obtain ⟨i,hi⟩:=ih n (by omega) (by omega)
  rw [et]
  rw [List.find?_cons]
  cases hb:decide ((l.getD j default).Name=s) with
  |true=>exact ⟨(j:Int),by simp only [Iu,Oz,aN,I2,e0,e1,nn,Ru hlt,toN,hb,cond_true,if_true,decide_true]⟩
  |false=>exact ⟨i,by simp only [Iu,Oz,aN,I2,e0,e1,nn,Ru hlt,toN,hb,cond_true,cond_false,if_true,decide_true,Afb (show j≤maxLen by omega),hi]⟩
theorem Aa8(L:Nat)(l:List Ap)(s:ByteArray)(hl:l.length≤maxLen)(hL:l.length < L):M7 L l s=some (o2 (Av2 l s)):=by
 obtain ⟨i,hi⟩:=Arp L l s hl l.length L (Nat.le_refl _) hL
 rw [List.take_length] at hi
 simp only [Ah5,Pt,M7,Pt,aN,Afb hl,hi,Av2]
 cases l.reverse.find? (fun f=>decide (f.Name=s))<;>rfl
theorem Ar7(L:Nat)(s:ByteArray)(v0:Bf):∀(k:List Ah) (i:Nat) (v:Int) (w:Bool),∃j,Kf L s v0 k i v w=some (match k.find? (fun x=>decide (x.Name=s)) with|some x=>(0,(x.Type_,true,j))|none=>(1,(v,w,j))):=by
 intro k
 induction k with
 |nil=>intro i v w;exact ⟨i,rfl⟩
 |cons x k ih=>
  intro i v w
  obtain ⟨j,hj⟩:=ih (i+1) v w
  rw [Kf,List.find?_cons,I2]
  cases decide (x.Name=s) with
  |true=>exact ⟨i,rfl⟩
  |false=>exact ⟨j,hj⟩
theorem Ar8(L:Nat)(s:ByteArray)(v0:Bf):∀(k:List Ah) (i:Nat) (v:Int) (w:Bool),∃j,Kg L s v0 k i v w=some (match k.find? (fun x=>decide (x.Name=s)) with|some x=>(0,(x.Type_,true,j))|none=>(1,(v,w,j))):=by
 intro k
 induction k with
 |nil=>intro i v w;exact ⟨i,rfl⟩
 |cons x k ih=>
  intro i v w
  obtain ⟨j,hj⟩:=ih (i+1) v w
  rw [Kg,List.find?_cons,I2]
  cases decide (x.Name=s) with
  |true=>exact ⟨i,rfl⟩
  |false=>exact ⟨j,hj⟩
theorem Auh(L:Nat)(v:Bf)(s:ByteArray)(h:Ju v)(hL:maxLen < L):u7 L v s=some (o2 (A7p v s)):=by
 obtain ⟨⟨h1,_⟩,⟨h2,_⟩,h3⟩:=h
 have h4:=h3.len.1
 obtain ⟨j1,e1⟩:=Ar7 L s v v.Site.Vars 0 0 false
 obtain ⟨j2,e2⟩:=Ar8 L s v v.Params 0 0 false
 simp only [Akh,Vw,Vf,Vx,Rg,u7,Vw,Vf,Vx,Rg,aN,aB,Aa8 L _ s h2 (by omega),Ann L s v L h4 (by omega),Ano L s v L h1 (by omega),e1,Option.bind_some,A7p,Bh9]
 cases Av2 v.Locals s with
 |some t=>rfl
 |none=>
  simp only [o2,cond_false]
  cases v.Site.Vars.find? (fun x=>decide (x.Name=s)) with
  |some t=>rfl
  |none=>
   simp only [n8,e2,Option.bind_some,Option.map_none]
   cases v.Params.find? (fun x=>decide (x.Name=s))<;>rfl
def Azz(t:Int):Bool:=t == 1 || t == 3
def unT(op a:Int):Int:=if (op=5∧Azz a=true)∨(op=6∧a=2) then a else if op=7∧a=1 then 3 else if op=8∧a=3 then 1 else 0
def Bi4(op a b:Int):Int:=
 if op=9∨op=10∨op=13∨op=20∨op=21 then (if a=b∧Azz a=true then a else 0)
 else if op=11 then (if a=1∧b=1 then 1 else if Azz a=true∧Azz b=true∧a≠b then 3 else 0)
 else if op=12 then (if (a=1∧b=1)∨(a=3∧b=3) then 1 else if a=3∧b=1 then 3 else 0)
 else if op=14∨op=15 then (if a=b then 2 else 0)
 else if op=16∨op=17 then (if a=b∧Azz a=true then 2 else 0)
 else if op=18∨op=19 then (if a=2∧b=2 then 2 else 0)
 else 0
def Bmj(op:Int)(k:ByteArray):Bool:=if op=22 then decide (k=T3) else if op=23 then decide (k=Ae1) else decide (k=T3) || decide (k=Ae0)
theorem Acn(L:Nat)(t:Int):Ha L t=some (Azz t):=by
 simp only [Yh,Ha,aN,aB,Xo,Azz]
theorem Ary(L:Nat)(op a:Int):X3 L op a=some (unT op a):=by
 simp only [Ab6,X3,aN,aB,Acn,Option.bind_some,Ot,Nx,Xo,unT]
 congr 1
 by_cases h5:op=5
 ·subst h5;cases Azz a<;>simp
 by_cases h6:op=6
 ·subst h6;by_cases h:a=2<;>first|(simp [h];done)|(simp [h,beq_false_of_ne h];done)
 by_cases h7:op=7
 ·subst h7;by_cases h:a=1<;>first|(simp [h];done)|(simp [h,beq_false_of_ne h];done)
 by_cases h8:op=8
 ·subst h8;by_cases h:a=3<;>first|(simp [h];done)|(simp [h,beq_false_of_ne h];done)
 have b5:(op == 5)=false:=beq_false_of_ne h5
 have b6:(op == 6)=false:=beq_false_of_ne h6
 have b7:(op == 7)=false:=beq_false_of_ne h7
 have b8:(op == 8)=false:=beq_false_of_ne h8
 simp [h5,h6,h7,h8,b5,b6,b7,b8]
theorem Apw(L:Nat)(op a b:Int):Wk L op a b=some (Bi4 op a b):=by
 simp only [Ry,Rz,sx_typing_binary_4,Xj,sx_typing_binary_3,Xi,sx_typing_binary_1,Xh,sx_typing_binary_0,Agz,Wk,aN,aB,Acn,Option.bind_some,Ot,Nx,Xo,Bi4,Azz]
 congr 1
 rcases Bmn op with rfl|rfl|rfl|rfl|rfl|rfl|rfl|rfl|rfl|rfl|rfl|rfl|rfl|rfl|rfl|rfl|rfl|rfl|rfl|rfl|rfl|rfl|rfl|rfl|rfl|rfl|hop|hop
 all_goals first|(simp;done)|(simp;grind)|grind
theorem Apx(L:Nat)(op:Int)(k:ByteArray):Wl L op k=some (Bmj op k):=by
 simp only [Aao,Wl,aN,aB,I2,Xo,Ot,Bmj,T3,Ae1,Ae0]
 congr 1
 by_cases h:op=22
 ·subst h;rfl
 by_cases h':op=23
 ·subst h';rfl
 have b:(op == 22)=false:=beq_false_of_ne h
 have b':(op == 23)=false:=beq_false_of_ne h'
 simp only [h,h',b,b',cond_false,if_false]
 rfl
end Go.Proofs.YtfencmicmnhglaaGreat.Ev
