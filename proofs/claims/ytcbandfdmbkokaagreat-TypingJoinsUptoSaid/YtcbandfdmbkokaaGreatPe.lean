/-  Chapter 11, plainly: the kind of a name. -/
import Derived.Test.YtcbandfdmbkokaaGreatQ2
import Derived.Test.YtcbandfdmbkokaaGreatQ4
import Derived.Test.YtcbandfdmbkokaaGreatPd
namespace Go.Proofs.YtcbandfdmbkokaaGreat.Ev
open Go
set_option linter.unusedVariables false
set_option linter.unusedSimpArgs false
set_option linter.unnecessarySimpa false
def A5x:ByteArray:=⟨#[118,97,114]⟩
def Hc:ByteArray:=⟨#[114,101,115,111,117,114,99,101]⟩
def O9:ByteArray:=⟨#[115,116,111,114,101]⟩
def u6:ByteArray:=⟨#[98,101,108,116]⟩
def Qo:ByteArray:=⟨#[113,117,101,117,101]⟩
def k8:ByteArray:=⟨#[115,116,114,101,97,109]⟩
def Wu:ByteArray:=⟨#[116,97,108,108,121]⟩
def Ym:ByteArray:=⟨#[108,101,118,101,108]⟩
def Yl:ByteArray:=⟨#[99,111,117,110,116]⟩
def Alo:ByteArray:=⟨#[114,111,117,116,105,110,101]⟩
theorem Ajp(L:Nat)(l:List Bp)(s:Ac)(n:ByteArray):∀(k:List Bp) (i:Nat) (v:Int),Ka L l s n k i v=some (match k.findIdx? (fun x=>x.Name.toList == n.toList) with|some j=>(0,(((i+j:Nat):Int),((i+j:Nat):Int)))|none=>(1,(v,((i+k.length:Nat):Int)))):=by
 intro k
 induction k with
 |nil=>intro i v;rfl
 |cons x k ih=>
  intro i v
  rw [Ka,ih,List.findIdx?_cons]
  cases hc:(fun x=>x.Name.toList == n.toList) x with
  |true=>simp only [hc,cond_true,if_true];rfl
  |false=>
   simp only [hc,cond_false,if_false,Bool.false_eq_true]
   cases k.findIdx? (fun x=>x.Name.toList == n.toList) with
   |some j=>simp [Nat.add_assoc,Nat.add_comm 1]
   |none=>simp [Nat.add_assoc,Nat.add_comm 1]
theorem Acp(L:Nat)(l:List Bp)(s:Ac)(n:ByteArray)(hl:l.length≤maxLen)(hL:l.length < L):Qk L l s n=some (R2 (l.findIdx? (fun x=>decide (x.Name=n)))):=by
 simp only [Qk,Qg,Ao,Au,Al,Am,Ar,Ap,Ak,Av,Aw,Aq,Ax,Aew _ _ _ _ _ hl hL,Ajp,G8,Option.bind_some]
 cases l.findIdx? (fun x=>decide (x.Name=n)) with
 |none=>rfl
 |some i=>simp [R2,P9]
theorem Ajq(L:Nat)(l:List Bf)(s:Ac)(n:ByteArray):∀(k:List Bf) (i:Nat) (v:Int),Kb L l s n k i v=some (match k.findIdx? (fun x=>x.Name.toList == n.toList) with|some j=>(0,(((i+j:Nat):Int),((i+j:Nat):Int)))|none=>(1,(v,((i+k.length:Nat):Int)))):=by
 intro k
 induction k with
 |nil=>intro i v;rfl
 |cons x k ih=>
  intro i v
  rw [Kb,ih,List.findIdx?_cons]
  cases hc:(fun x=>x.Name.toList == n.toList) x with
  |true=>simp only [hc,cond_true,if_true];rfl
  |false=>
   simp only [hc,cond_false,if_false,Bool.false_eq_true]
   cases k.findIdx? (fun x=>x.Name.toList == n.toList) with
   |some j=>simp [Nat.add_assoc,Nat.add_comm 1]
   |none=>simp [Nat.add_assoc,Nat.add_comm 1]
theorem Acq(L:Nat)(l:List Bf)(s:Ac)(n:ByteArray)(hl:l.length≤maxLen)(hL:l.length < L):Ql L l s n=some (R2 (l.findIdx? (fun x=>decide (x.Name=n)))):=by
 simp only [Ql,Qh,Ao,Au,Al,Am,Ar,Ap,Ak,Av,Aw,Aq,Ax,Aex _ _ _ _ _ hl hL,Ajq,G8,Option.bind_some]
 cases l.findIdx? (fun x=>decide (x.Name=n)) with
 |none=>rfl
 |some i=>simp [R2,P9]
theorem Ajr(L:Nat)(l:List Bx)(s:Ac)(n:ByteArray):∀(k:List Bx) (i:Nat) (v:Int),Kc L l s n k i v=some (match k.findIdx? (fun x=>x.Name.toList == n.toList) with|some j=>(0,(((i+j:Nat):Int),((i+j:Nat):Int)))|none=>(1,(v,((i+k.length:Nat):Int)))):=by
 intro k
 induction k with
 |nil=>intro i v;rfl
 |cons x k ih=>
  intro i v
  rw [Kc,ih,List.findIdx?_cons]
  cases hc:(fun x=>x.Name.toList == n.toList) x with
  |true=>simp only [hc,cond_true,if_true];rfl
  |false=>
   simp only [hc,cond_false,if_false,Bool.false_eq_true]
   cases k.findIdx? (fun x=>x.Name.toList == n.toList) with
   |some j=>simp [Nat.add_assoc,Nat.add_comm 1]
   |none=>simp [Nat.add_assoc,Nat.add_comm 1]
theorem Acr(L:Nat)(l:List Bx)(s:Ac)(n:ByteArray)(hl:l.length≤maxLen)(hL:l.length < L):Qm L l s n=some (R2 (l.findIdx? (fun x=>decide (x.Name=n)))):=by
 simp only [Qm,Qi,Ao,Au,Al,Am,Ar,Ap,Ak,Av,Aw,Aq,Ax,Aey _ _ _ _ _ hl hL,Ajr,G8,Option.bind_some]
 cases l.findIdx? (fun x=>decide (x.Name=n)) with
 |none=>rfl
 |some i=>simp [R2,P9]
theorem Ajs(L:Nat)(l:List B3)(s:Ac)(n:ByteArray):∀(k:List B3) (i:Nat) (v:Int),Kd L l s n k i v=some (match k.findIdx? (fun x=>x.Name.toList == n.toList) with|some j=>(0,(((i+j:Nat):Int),((i+j:Nat):Int)))|none=>(1,(v,((i+k.length:Nat):Int)))):=by
 intro k
 induction k with
 |nil=>intro i v;rfl
 |cons x k ih=>
  intro i v
  rw [Kd,ih,List.findIdx?_cons]
  cases hc:(fun x=>x.Name.toList == n.toList) x with
  |true=>simp only [hc,cond_true,if_true];rfl
  |false=>
   simp only [hc,cond_false,if_false,Bool.false_eq_true]
   cases k.findIdx? (fun x=>x.Name.toList == n.toList) with
   |some j=>simp [Nat.add_assoc,Nat.add_comm 1]
   |none=>simp [Nat.add_assoc,Nat.add_comm 1]
theorem Acs(L:Nat)(l:List B3)(s:Ac)(n:ByteArray)(hl:l.length≤maxLen)(hL:l.length < L):Qn L l s n=some (R2 (l.findIdx? (fun x=>decide (x.Name=n)))):=by
 simp only [Qn,Qj,Ao,Au,Al,Am,Ar,Ap,Ak,Av,Aw,Aq,Ax,Aez _ _ _ _ _ hl hL,Ajs,G8,Option.bind_some]
 cases l.findIdx? (fun x=>decide (x.Name=n)) with
 |none=>rfl
 |some i=>simp [R2,P9]
theorem Afm(L:Nat)(l:List Bg)(s:Ac)(n:ByteArray):∀(k:List Bg) (i:Nat) (v:Int),Ht L l s n k i v=some (match k.findIdx? (fun x=>x.Name.toList == n.toList) with|some j=>(0,(((i+j:Nat):Int),((i+j:Nat):Int)))|none=>(1,(v,((i+k.length:Nat):Int)))):=by
 intro k
 induction k with
 |nil=>intro i v;rfl
 |cons x k ih=>
  intro i v
  rw [Ht,ih,List.findIdx?_cons]
  cases hc:(fun x=>x.Name.toList == n.toList) x with
  |true=>simp only [hc,cond_true,if_true];rfl
  |false=>
   simp only [hc,cond_false,if_false,Bool.false_eq_true]
   cases k.findIdx? (fun x=>x.Name.toList == n.toList) with
   |some j=>simp [Nat.add_assoc,Nat.add_comm 1]
   |none=>simp [Nat.add_assoc,Nat.add_comm 1]
theorem Aai(L:Nat)(l:List Bg)(s:Ac)(n:ByteArray)(hl:l.length≤maxLen)(hL:l.length < L):Nu L l s n=some (R2 (l.findIdx? (fun x=>decide (x.Name=n)))):=by
 simp only [Nu,Nt,Ao,Au,Al,Am,Ar,Ap,Ak,Av,Aw,Aq,Ax,Acm _ _ _ _ _ hl hL,Afm,G8,Option.bind_some]
 cases l.findIdx? (fun x=>decide (x.Name=n)) with
 |none=>rfl
 |some i=>simp [R2,P9]
theorem l6(L:Nat)(l:List ByteArray)(n:ByteArray):∀(k:List ByteArray) (i:Nat) (v:Int),Ed L l n k i v=some (match k.findIdx? (fun x=>n.toList == x.toList) with|some j=>(0,(((i+j:Nat):Int),((i+j:Nat):Int)))|none=>(1,(v,((i+k.length:Nat):Int)))):=by
 intro k
 induction k with
 |nil=>intro i v;rfl
 |cons x k ih=>
  intro i v
  rw [Ed,ih,List.findIdx?_cons]
  cases hc:(fun x=>n.toList == x.toList) x with
  |true=>simp only [hc,cond_true,if_true];rfl
  |false=>
   simp only [hc,cond_false,if_false,Bool.false_eq_true]
   cases k.findIdx? (fun x=>n.toList == x.toList) with
   |some j=>simp [Nat.add_assoc,Nat.add_comm 1]
   |none=>simp [Nat.add_assoc,Nat.add_comm 1]
theorem I1(L:Nat)(l:List ByteArray)(n:ByteArray)(hl:l.length≤maxLen)(hL:l.length < L):Cc L l n=some (R2 (l.findIdx? (fun x=>decide (n=x)))):=by
 simp only [Cc,Jw,Ao,Au,Al,Am,Ar,Ap,Ak,Av,Aw,Aq,Ax,Y2 _ _ _ _ hl hL,l6,G8,Option.bind_some]
 cases l.findIdx? (fun x=>decide (n=x)) with
 |none=>rfl
 |some i=>simp [R2,P9]
def Ts(s:Ac)(n:ByteArray):Int:=R2 (s.Routines.findIdx? fun x=>decide (x.Name=n))
theorem Vt(L:Nat)(s:Ac)(n:ByteArray)(hl:s.Routines.length≤maxLen)(hL:s.Routines.length < L):Dr L s n=some (Ts s n):=by
 simp only [Ru,Dr,Ao,Au,Al,Am,Ar,Ap,Ak,Av,Aw,Aq,Ax,Aai L _ s n hl hL,Option.bind_some,Ts]
def Atw(s:Ac)(n:ByteArray):ByteArray×Int:=
 bif s.Vars.any (fun x=>decide (x.Name=n)) then (A5x,R2 (s.Vars.findIdx? fun x=>decide (x.Name=n)))
 else bif s.Resources.any (fun x=>decide (x.Name=n)) then (Hc,R2 (s.Resources.findIdx? fun x=>decide (x.Name=n)))
 else bif s.Stores.any (fun x=>decide (x.Name=n)) then (O9,R2 (s.Stores.findIdx? fun x=>decide (x.Name=n)))
 else bif s.Belts.any (fun x=>decide (x.Name=n)) then (u6,R2 (s.Belts.findIdx? fun x=>decide (x.Name=n)))
 else bif s.Queues.any (fun x=>decide (n=x)) then (Qo,R2 (s.Queues.findIdx? fun x=>decide (n=x)))
 else bif s.Streams.any (fun x=>decide (n=x)) then (k8,R2 (s.Streams.findIdx? fun x=>decide (n=x)))
 else bif s.Tallies.any (fun x=>decide (n=x)) then (Wu,R2 (s.Tallies.findIdx? fun x=>decide (n=x)))
 else bif s.Levels.any (fun x=>decide (n=x)) then (Ym,R2 (s.Levels.findIdx? fun x=>decide (n=x)))
 else bif s.Counts.any (fun x=>decide (n=x)) then (Yl,R2 (s.Counts.findIdx? fun x=>decide (n=x)))
 else bif s.Routines.any (fun x=>decide (x.Name=n)) then (Alo,Ts s n)
 else (⟨#[]⟩,-1)
def Oj(s:Ac)(n:ByteArray):ByteArray:=(Atw s n).1
def Vr(s:Ac)(m:Nat):Prop:=s.Vars.length≤m∧s.Resources.length≤m∧s.Stores.length≤m∧s.Belts.length≤m∧s.Queues.length≤m∧s.Streams.length≤m∧s.Tallies.length≤m∧s.Levels.length≤m∧s.Counts.length≤m∧s.Routines.length≤m
theorem L8.len{s:Ac}(h:L8 s):Vr s maxLen:=by
 unfold L8 at h
 unfold Vr
 simp only [h,and_self]
theorem Ame(L:Nat)(s:Ac)(n:ByteArray)(h:Vr s maxLen)(hL:maxLen < L):M5 L s n=some (Atw s n):=by
 obtain ⟨h0,h1,h2,h3,h4,h5,h6,h7,h8,h9⟩:=h
 have hR:decide (Ts s n≥0)=s.Routines.any (fun x=>decide (x.Name=n)):=Akk _ _
 simp only [Tm,M5,Ao,Au,Al,Am,Ar,Ap,Ak,Av,Aw,Aq,Ax,Acp L _ s n h0 (by omega),Acq L _ s n h1 (by omega),Acr L _ s n h2 (by omega),Acs L _ s n h3 (by omega),
  I1 L _ n h4 (by omega),I1 L _ n h5 (by omega),I1 L _ n h6 (by omega),I1 L _ n h7 (by omega),I1 L _ n h8 (by omega),Vt L s n h9 (by omega),
  Option.bind_some,D7,Akk,hR,Atw]
 simp only [A5x,Hc,O9,u6,Qo,k8,Wu,Ym,Yl,Alo]
theorem Ac2(L:Nat)(s:Ac)(n:ByteArray)(h:Vr s maxLen)(hL:maxLen < L):Im L s n=some (Oj s n):=by
 simp only [Xo,Im,Ao,Au,Al,Am,Ar,Ap,Ak,Av,Aw,Aq,Ax,Ame L s n h hL,Option.bind_some,Oj]
theorem Ao4(L:Nat)(s:Ac):∀(k:List Bp) (i:Nat) (v:List ByteArray),v.length+k.length≤1099511627776→∃j,Lq L s k i v=some (0,(j,v++k.map (fun x=>x.Name))):=by
 intro k
 induction k with
 |nil=>intro i v _;exact ⟨_,by rw [Lq,List.map_nil,List.append_nil]⟩
 |cons x k ih=>
  intro i v h
  rw [List.length_cons] at h
  obtain ⟨j,hj⟩:=ih (i+1) (v++ [(fun x=>x.Name) x]) (by simp only [List.length_append,List.length_cons,List.length_nil];omega)
  refine ⟨j,?_⟩
  rw [Lq]
  have hM:=Cf
  simp only [List.length_cons,List.length_nil]
  repeat rw [ifp (by omega)]
  rw [hj,List.append_assoc];rfl
theorem Ao5(L:Nat)(s:Ac)(o1:Nat×(Int×List ByteArray)):∀(k:List Bf) (i:Nat) (v:List ByteArray),v.length+k.length≤1099511627776→∃j,Lr L s o1 k i v=some (0,(j,v++k.map (fun x=>x.Name))):=by
 intro k
 induction k with
 |nil=>intro i v _;exact ⟨_,by rw [Lr,List.map_nil,List.append_nil]⟩
 |cons x k ih=>
  intro i v h
  rw [List.length_cons] at h
  obtain ⟨j,hj⟩:=ih (i+1) (v++ [(fun x=>x.Name) x]) (by simp only [List.length_append,List.length_cons,List.length_nil];omega)
  refine ⟨j,?_⟩
  rw [Lr]
  have hM:=Cf
  simp only [List.length_cons,List.length_nil]
  repeat rw [ifp (by omega)]
  rw [hj,List.append_assoc];rfl
theorem Ao6(L:Nat)(s:Ac)(o1 o2:Nat×(Int×List ByteArray)):∀(k:List Bx) (i:Nat) (v:List ByteArray),v.length+k.length≤1099511627776→∃j,Ls L s o1 o2 k i v=some (0,(j,v++k.map (fun x=>x.Name))):=by
 intro k
 induction k with
 |nil=>intro i v _;exact ⟨_,by rw [Ls,List.map_nil,List.append_nil]⟩
 |cons x k ih=>
  intro i v h
  rw [List.length_cons] at h
  obtain ⟨j,hj⟩:=ih (i+1) (v++ [(fun x=>x.Name) x]) (by simp only [List.length_append,List.length_cons,List.length_nil];omega)
  refine ⟨j,?_⟩
  rw [Ls]
  have hM:=Cf
  simp only [List.length_cons,List.length_nil]
  repeat rw [ifp (by omega)]
  rw [hj,List.append_assoc];rfl
theorem Ao7(L:Nat)(s:Ac)(o1 o2 o3:Nat×(Int×List ByteArray)):∀(k:List B3) (i:Nat) (v:List ByteArray),v.length+k.length≤1099511627776→∃j,Lt L s o1 o2 o3 k i v=some (0,(j,v++k.map (fun x=>x.Name))):=by
 intro k
 induction k with
 |nil=>intro i v _;exact ⟨_,by rw [Lt,List.map_nil,List.append_nil]⟩
 |cons x k ih=>
  intro i v h
  rw [List.length_cons] at h
  obtain ⟨j,hj⟩:=ih (i+1) (v++ [(fun x=>x.Name) x]) (by simp only [List.length_append,List.length_cons,List.length_nil];omega)
  refine ⟨j,?_⟩
  rw [Lt]
  have hM:=Cf
  simp only [List.length_cons,List.length_nil]
  repeat rw [ifp (by omega)]
  rw [hj,List.append_assoc];rfl
theorem Ao8(L:Nat)(s:Ac)(o1 o2 o3 o4:Nat×(Int×List ByteArray)):∀(k:List Bg) (i:Nat) (v:List ByteArray),v.length+k.length≤1099511627776→∃j,Lu L s o1 o2 o3 o4 k i v=some (0,(j,v++k.map (fun x=>x.Name))):=by
 intro k
 induction k with
 |nil=>intro i v _;exact ⟨_,by rw [Lu,List.map_nil,List.append_nil]⟩
 |cons x k ih=>
  intro i v h
  rw [List.length_cons] at h
  obtain ⟨j,hj⟩:=ih (i+1) (v++ [(fun x=>x.Name) x]) (by simp only [List.length_append,List.length_cons,List.length_nil];omega)
  refine ⟨j,?_⟩
  rw [Lu]
  have hM:=Cf
  simp only [List.length_cons,List.length_nil]
  repeat rw [ifp (by omega)]
  rw [hj,List.append_assoc];rfl
def Adu(s:Ac):List (List ByteArray):= [s.Vars.map fun x=>x.Name,s.Resources.map fun x=>x.Name,s.Stores.map fun x=>x.Name,s.Belts.map fun x=>x.Name,s.Queues,s.Streams,s.Tallies,s.Levels,s.Counts,s.Routines.map fun x=>x.Name]
theorem Afh(L:Nat)(s:Ac)(h:Vr s 1099511627776)(hL:maxLen < L):Kx L s=some (Adu s):=by
 obtain ⟨h0,h1,h2,h3,h4,h5,h6,h7,h8,h9⟩:=h
 rw [Cf] at hL
 obtain ⟨j1,e1⟩:=Ao4 L s s.Vars 0 [] (by simpa using h0)
 obtain ⟨j2,e2⟩:=Ao5 L s (0,(j1,[]++s.Vars.map fun x=>x.Name)) s.Resources 0 [] (by simpa using h1)
 obtain ⟨j3,e3⟩:=Ao6 L s (0,(j1,[]++s.Vars.map fun x=>x.Name)) (0,(j2,[]++s.Resources.map fun x=>x.Name)) s.Stores 0 [] (by simpa using h2)
 obtain ⟨j4,e4⟩:=Ao7 L s (0,(j1,[]++s.Vars.map fun x=>x.Name)) (0,(j2,[]++s.Resources.map fun x=>x.Name)) (0,(j3,[]++s.Stores.map fun x=>x.Name)) s.Belts 0 [] (by simpa using h3)
 obtain ⟨j5,e5⟩:=Ao8 L s (0,(j1,[]++s.Vars.map fun x=>x.Name)) (0,(j2,[]++s.Resources.map fun x=>x.Name)) (0,(j3,[]++s.Stores.map fun x=>x.Name)) (0,(j4,[]++s.Belts.map fun x=>x.Name)) s.Routines 0 [] (by simpa using h9)
 simp only [Wk,Kx,Ao,Au,Al,Am,Ar,Ap,Ak,Av,Aw,Aq,Ax,Ai1 L s L (by rw [Cf];omega) (by omega),e1,Option.bind_some,P9,Ai2 L s _ L (by rw [Cf];omega) (by omega),e2,Ai3 L s _ _ L (by rw [Cf];omega) (by omega),e3,Ai4 L s _ _ _ L (by rw [Cf];omega) (by omega),e4,Ai5 L s _ _ _ _ L (by rw [Cf];omega) (by omega),e5]
 repeat rw [ifp (by omega)]
 rfl
end Go.Proofs.YtcbandfdmbkokaaGreat.Ev
