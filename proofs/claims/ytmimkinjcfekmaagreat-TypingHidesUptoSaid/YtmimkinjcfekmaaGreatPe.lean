/-  Chapter 11, plainly: the kind of a name. -/
import Derived.Test.YtmimkinjcfekmaaGreatQ2
import Derived.Test.YtmimkinjcfekmaaGreatPd
namespace Go.Proofs.YtmimkinjcfekmaaGreat.Ev
open Go An
set_option maxRecDepth 100000
set_option linter.unusedVariables false
set_option linter.unusedSimpArgs false
set_option linter.unnecessarySimpa false
def Acj:ByteArray:=⟨#[118,97,114]⟩
def Je:ByteArray:=⟨#[114,101,115,111,117,114,99,101]⟩
def Qi:ByteArray:=⟨#[115,116,111,114,101]⟩
def r0:ByteArray:=⟨#[98,101,108,116]⟩
def Qh:ByteArray:=⟨#[113,117,101,117,101]⟩
def V3:ByteArray:=⟨#[115,116,114,101,97,109]⟩
def Yz:ByteArray:=⟨#[116,97,108,108,121]⟩
def Yy:ByteArray:=⟨#[108,101,118,101,108]⟩
def Yx:ByteArray:=⟨#[99,111,117,110,116]⟩
def T9:ByteArray:=⟨#[114,111,117,116,105,110,101]⟩
theorem S3(L:Nat)(l:List Aw)(s:Ab)(n:ByteArray):∀(k:List Aw) (i:Nat) (v:Int),Ci L l s n k i v=some (match k.findIdx? (fun x=>x.Name.toList == n.toList) with|some j=>(0,(((i+j:Nat):Int),((i+j:Nat):Int)))|none=>(1,(v,((i+k.length:Nat):Int)))):=by
 intro k
 induction k with
 |nil=>intro i v;rfl
 |cons x k ih=>
  intro i v
  rw [Ci,ih,List.findIdx?_cons]
  cases hc:(fun x=>x.Name.toList == n.toList) x with
  |true=>simp only [hc,cond_true,if_true];rfl
  |false=>
   simp only [hc,cond_false,if_false,Bool.false_eq_true]
   cases k.findIdx? (fun x=>x.Name.toList == n.toList) with
   |some j=>simp [Nat.add_assoc,Nat.add_comm 1]
   |none=>simp [Nat.add_assoc,Nat.add_comm 1]
theorem N7(L:Nat)(l:List Aw)(s:Ab)(n:ByteArray)(hl:l.length≤maxLen)(hL:l.length < L):F2 L l s n=some (J2 (l.findIdx? (fun x=>decide (x.Name=n)))):=by
 simp only [F2,Li,Gf,aN,aB,Qj _ _ _ _ _ hl hL,S3,Hl,Option.bind_some]
 cases l.findIdx? (fun x=>decide (x.Name=n)) with
 |none=>rfl
 |some i=>simp [J2,Uw]
theorem S4(L:Nat)(l:List Aj)(s:Ab)(n:ByteArray):∀(k:List Aj) (i:Nat) (v:Int),Cj L l s n k i v=some (match k.findIdx? (fun x=>x.Name.toList == n.toList) with|some j=>(0,(((i+j:Nat):Int),((i+j:Nat):Int)))|none=>(1,(v,((i+k.length:Nat):Int)))):=by
 intro k
 induction k with
 |nil=>intro i v;rfl
 |cons x k ih=>
  intro i v
  rw [Cj,ih,List.findIdx?_cons]
  cases hc:(fun x=>x.Name.toList == n.toList) x with
  |true=>simp only [hc,cond_true,if_true];rfl
  |false=>
   simp only [hc,cond_false,if_false,Bool.false_eq_true]
   cases k.findIdx? (fun x=>x.Name.toList == n.toList) with
   |some j=>simp [Nat.add_assoc,Nat.add_comm 1]
   |none=>simp [Nat.add_assoc,Nat.add_comm 1]
theorem N8(L:Nat)(l:List Aj)(s:Ab)(n:ByteArray)(hl:l.length≤maxLen)(hL:l.length < L):F3 L l s n=some (J2 (l.findIdx? (fun x=>decide (x.Name=n)))):=by
 simp only [F3,Lj,Gh,aN,aB,Qk _ _ _ _ _ hl hL,S4,Hl,Option.bind_some]
 cases l.findIdx? (fun x=>decide (x.Name=n)) with
 |none=>rfl
 |some i=>simp [J2,Uw]
theorem S5(L:Nat)(l:List Ao)(s:Ab)(n:ByteArray):∀(k:List Ao) (i:Nat) (v:Int),Ck L l s n k i v=some (match k.findIdx? (fun x=>x.Name.toList == n.toList) with|some j=>(0,(((i+j:Nat):Int),((i+j:Nat):Int)))|none=>(1,(v,((i+k.length:Nat):Int)))):=by
 intro k
 induction k with
 |nil=>intro i v;rfl
 |cons x k ih=>
  intro i v
  rw [Ck,ih,List.findIdx?_cons]
  cases hc:(fun x=>x.Name.toList == n.toList) x with
  |true=>simp only [hc,cond_true,if_true];rfl
  |false=>
   simp only [hc,cond_false,if_false,Bool.false_eq_true]
   cases k.findIdx? (fun x=>x.Name.toList == n.toList) with
   |some j=>simp [Nat.add_assoc,Nat.add_comm 1]
   |none=>simp [Nat.add_assoc,Nat.add_comm 1]
theorem N9(L:Nat)(l:List Ao)(s:Ab)(n:ByteArray)(hl:l.length≤maxLen)(hL:l.length < L):F4 L l s n=some (J2 (l.findIdx? (fun x=>decide (x.Name=n)))):=by
 simp only [F4,Lk,Gj,aN,aB,Ql _ _ _ _ _ hl hL,S5,Hl,Option.bind_some]
 cases l.findIdx? (fun x=>decide (x.Name=n)) with
 |none=>rfl
 |some i=>simp [J2,Uw]
theorem S6(L:Nat)(l:List Au)(s:Ab)(n:ByteArray):∀(k:List Au) (i:Nat) (v:Int),Cl L l s n k i v=some (match k.findIdx? (fun x=>x.Name.toList == n.toList) with|some j=>(0,(((i+j:Nat):Int),((i+j:Nat):Int)))|none=>(1,(v,((i+k.length:Nat):Int)))):=by
 intro k
 induction k with
 |nil=>intro i v;rfl
 |cons x k ih=>
  intro i v
  rw [Cl,ih,List.findIdx?_cons]
  cases hc:(fun x=>x.Name.toList == n.toList) x with
  |true=>simp only [hc,cond_true,if_true];rfl
  |false=>
   simp only [hc,cond_false,if_false,Bool.false_eq_true]
   cases k.findIdx? (fun x=>x.Name.toList == n.toList) with
   |some j=>simp [Nat.add_assoc,Nat.add_comm 1]
   |none=>simp [Nat.add_assoc,Nat.add_comm 1]
theorem Oa(L:Nat)(l:List Au)(s:Ab)(n:ByteArray)(hl:l.length≤maxLen)(hL:l.length < L):F5 L l s n=some (J2 (l.findIdx? (fun x=>decide (x.Name=n)))):=by
 simp only [F5,Ll,Et,aN,aB,Qm _ _ _ _ _ hl hL,S6,Hl,Option.bind_some]
 cases l.findIdx? (fun x=>decide (x.Name=n)) with
 |none=>rfl
 |some i=>simp [J2,Uw]
theorem Qz(L:Nat)(l:List Ay)(s:Ab)(n:ByteArray):∀(k:List Ay) (i:Nat) (v:Int),Bs L l s n k i v=some (match k.findIdx? (fun x=>x.Name.toList == n.toList) with|some j=>(0,(((i+j:Nat):Int),((i+j:Nat):Int)))|none=>(1,(v,((i+k.length:Nat):Int)))):=by
 intro k
 induction k with
 |nil=>intro i v;rfl
 |cons x k ih=>
  intro i v
  rw [Bs,ih,List.findIdx?_cons]
  cases hc:(fun x=>x.Name.toList == n.toList) x with
  |true=>simp only [hc,cond_true,if_true];rfl
  |false=>
   simp only [hc,cond_false,if_false,Bool.false_eq_true]
   cases k.findIdx? (fun x=>x.Name.toList == n.toList) with
   |some j=>simp [Nat.add_assoc,Nat.add_comm 1]
   |none=>simp [Nat.add_assoc,Nat.add_comm 1]
theorem Mq(L:Nat)(l:List Ay)(s:Ab)(n:ByteArray)(hl:l.length≤maxLen)(hL:l.length < L):D6 L l s n=some (J2 (l.findIdx? (fun x=>decide (x.Name=n)))):=by
 simp only [D6,Ki,D8,aN,aB,N6 _ _ _ _ _ hl hL,Qz,Hl,Option.bind_some]
 cases l.findIdx? (fun x=>decide (x.Name=n)) with
 |none=>rfl
 |some i=>simp [J2,Uw]
theorem Ln(L:Nat)(l:List ByteArray)(n:ByteArray):∀(k:List ByteArray) (i:Nat) (v:Int),Ba L l n k i v=some (match k.findIdx? (fun x=>n.toList == x.toList) with|some j=>(0,(((i+j:Nat):Int),((i+j:Nat):Int)))|none=>(1,(v,((i+k.length:Nat):Int)))):=by
 intro k
 induction k with
 |nil=>intro i v;rfl
 |cons x k ih=>
  intro i v
  rw [Ba,ih,List.findIdx?_cons]
  cases hc:(fun x=>n.toList == x.toList) x with
  |true=>simp only [hc,cond_true,if_true];rfl
  |false=>
   simp only [hc,cond_false,if_false,Bool.false_eq_true]
   cases k.findIdx? (fun x=>n.toList == x.toList) with
   |some j=>simp [Nat.add_assoc,Nat.add_comm 1]
   |none=>simp [Nat.add_assoc,Nat.add_comm 1]
theorem B4(L:Nat)(l:List ByteArray)(n:ByteArray)(hl:l.length≤maxLen)(hL:l.length < L):Bb L l n=some (J2 (l.findIdx? (fun x=>decide (n=x)))):=by
 simp only [Bb,Iq,Cq,aN,aB,Kp _ _ _ _ hl hL,Ln,Hl,Option.bind_some]
 cases l.findIdx? (fun x=>decide (n=x)) with
 |none=>rfl
 |some i=>simp [J2,Uw]
def Q3(s:Ab)(n:ByteArray):Int:=J2 (s.Routines.findIdx? fun x=>decide (x.Name=n))
theorem Rt(L:Nat)(s:Ab)(n:ByteArray)(hl:s.Routines.length≤maxLen)(hL:s.Routines.length < L):G6 L s n=some (Q3 s n):=by
 simp only [Mi,Dd,G6,Dd,aN,aB,Mq L _ s n hl hL,Option.bind_some,Q3]
def i8(s:Ab)(n:ByteArray):ByteArray×Int:=
 bif s.Vars.any (fun x=>decide (x.Name=n)) then (Acj,J2 (s.Vars.findIdx? fun x=>decide (x.Name=n)))
 else bif s.Resources.any (fun x=>decide (x.Name=n)) then (Je,J2 (s.Resources.findIdx? fun x=>decide (x.Name=n)))
 else bif s.Stores.any (fun x=>decide (x.Name=n)) then (Qi,J2 (s.Stores.findIdx? fun x=>decide (x.Name=n)))
 else bif s.Belts.any (fun x=>decide (x.Name=n)) then (r0,J2 (s.Belts.findIdx? fun x=>decide (x.Name=n)))
 else bif s.Queues.any (fun x=>decide (n=x)) then (Qh,J2 (s.Queues.findIdx? fun x=>decide (n=x)))
 else bif s.Streams.any (fun x=>decide (n=x)) then (V3,J2 (s.Streams.findIdx? fun x=>decide (n=x)))
 else bif s.Tallies.any (fun x=>decide (n=x)) then (Yz,J2 (s.Tallies.findIdx? fun x=>decide (n=x)))
 else bif s.Levels.any (fun x=>decide (n=x)) then (Yy,J2 (s.Levels.findIdx? fun x=>decide (n=x)))
 else bif s.Counts.any (fun x=>decide (n=x)) then (Yx,J2 (s.Counts.findIdx? fun x=>decide (n=x)))
 else bif s.Routines.any (fun x=>decide (x.Name=n)) then (T9,Q3 s n)
 else (⟨#[]⟩,-1)
def q9(s:Ab)(n:ByteArray):ByteArray:=(i8 s n).1
def W7(s:Ab)(m:Nat):Prop:=s.Vars.length≤m∧s.Resources.length≤m∧s.Stores.length≤m∧s.Belts.length≤m∧s.Queues.length≤m∧s.Streams.length≤m∧s.Tallies.length≤m∧s.Levels.length≤m∧s.Counts.length≤m∧s.Routines.length≤m
theorem Ed.len{s:Ab}(h:Ed s):W7 s maxLen:=by
 unfold Ed at h
 unfold W7
 simp only [h,and_self]
theorem Ui(L:Nat)(s:Ab)(n:ByteArray)(h:W7 s maxLen)(hL:maxLen < L):I3 L s n=some (i8 s n):=by
 obtain ⟨h0,h1,h2,h3,h4,h5,h6,h7,h8,h9⟩:=h
 have hR:decide (Q3 s n≥0)=s.Routines.any (fun x=>decide (x.Name=n)):=n9 _ _
 simp only [Og,Gg,Gm,Gi,Gn,Gk,Eu,Dn,I3,Gg,Gm,Gi,Gn,Gk,Eu,Dn,aN,aB,N7 L _ s n h0 (by omega),N8 L _ s n h1 (by omega),N9 L _ s n h2 (by omega),Oa L _ s n h3 (by omega),
  B4 L _ n h4 (by omega),B4 L _ n h5 (by omega),B4 L _ n h6 (by omega),B4 L _ n h7 (by omega),B4 L _ n h8 (by omega),Rt L s n h9 (by omega),
  Option.bind_some,Ii,n9,hR,i8]
 simp only [Acj,Je,Qi,r0,Qh,V3,Yz,Yy,Yx,T9]
theorem Vf(L:Nat)(s:Ab)(n:ByteArray)(h:W7 s maxLen)(hL:maxLen < L):Jx L s n=some (q9 s n):=by
 simp only [Lw,Jx,aN,aB,Ui L s n h hL,Option.bind_some,q9]
end Go.Proofs.YtmimkinjcfekmaaGreat.Ev
