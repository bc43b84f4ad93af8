/-  Chapter 11, plainly: the kind of a name. -/
import Derived.Test.YtogleahbpobaiaaGreatQA
import Derived.Test.YtogleahbpobaiaaGreatPB
import Derived.Test.YtogleahbpobaiaaGreatR0
namespace Go.Proofs.YtogleahbpobaiaaGreat.Ev
open Go An
set_option maxRecDepth 100000
set_option linter.unusedVariables false
set_option linter.unusedSimpArgs false
set_option linter.unnecessarySimpa false
def Bsk:ByteArray:=⟨#[118,97,114]⟩
def Hl:ByteArray:=⟨#[114,101,115,111,117,114,99,101]⟩
def Im:ByteArray:=⟨#[115,116,111,114,101]⟩
def An0:ByteArray:=⟨#[98,101,108,116]⟩
def R7:ByteArray:=⟨#[113,117,101,117,101]⟩
def Amd:ByteArray:=⟨#[115,116,114,101,97,109]⟩
def Afs:ByteArray:=⟨#[116,97,108,108,121]⟩
def Aio:ByteArray:=⟨#[108,101,118,101,108]⟩
def R6:ByteArray:=⟨#[99,111,117,110,116]⟩
def Vl:ByteArray:=⟨#[114,111,117,116,105,110,101]⟩
theorem A05(L:Nat)(l:List Al)(s:Aa)(n:ByteArray):∀(k:List Al) (i:Nat) (v:Int),Kk L l s n k i v=some (match k.findIdx? (fun x=>x.Name.toList == n.toList) with|some j=>(0,(((i+j:Nat):Int),((i+j:Nat):Int)))|none=>(1,(v,((i+k.length:Nat):Int)))):=by
 intro k
 induction k with
 |nil=>intro i v;rfl
 |cons x k ih=>
  intro i v
  rw [Kk,ih,List.findIdx?_cons]
  cases hc:(fun x=>x.Name.toList == n.toList) x with
  |true=>simp only [hc,cond_true,if_true];rfl
  |false=>
   simp only [hc,cond_false,if_false,Bool.false_eq_true]
   cases k.findIdx? (fun x=>x.Name.toList == n.toList) with
   |some j=>simp [Nat.add_assoc,Nat.add_comm 1]
   |none=>simp [Nat.add_assoc,Nat.add_comm 1]
theorem Ar5(L:Nat)(l:List Al)(s:Aa)(n:ByteArray)(hl:l.length≤maxLen)(hL:l.length < L):Wr L l s n=some (Rq (l.findIdx? (fun x=>decide (x.Name=n)))):=by
 simp only [Wr,Alw,Ad5,Xd,aN,aB,Avp _ _ _ _ _ hl hL,A05,Em,Option.bind_some]
 cases l.findIdx? (fun x=>decide (x.Name=n)) with
 |none=>rfl
 |some i=>simp [Rq,H2]
theorem A06(L:Nat)(l:List Af)(s:Aa)(n:ByteArray):∀(k:List Af) (i:Nat) (v:Int),Kl L l s n k i v=some (match k.findIdx? (fun x=>x.Name.toList == n.toList) with|some j=>(0,(((i+j:Nat):Int),((i+j:Nat):Int)))|none=>(1,(v,((i+k.length:Nat):Int)))):=by
 intro k
 induction k with
 |nil=>intro i v;rfl
 |cons x k ih=>
  intro i v
  rw [Kl,ih,List.findIdx?_cons]
  cases hc:(fun x=>x.Name.toList == n.toList) x with
  |true=>simp only [hc,cond_true,if_true];rfl
  |false=>
   simp only [hc,cond_false,if_false,Bool.false_eq_true]
   cases k.findIdx? (fun x=>x.Name.toList == n.toList) with
   |some j=>simp [Nat.add_assoc,Nat.add_comm 1]
   |none=>simp [Nat.add_assoc,Nat.add_comm 1]
theorem Ar6(L:Nat)(l:List Af)(s:Aa)(n:ByteArray)(hl:l.length≤maxLen)(hL:l.length < L):Ws L l s n=some (Rq (l.findIdx? (fun x=>decide (x.Name=n)))):=by
 simp only [Ws,Alx,Ad6,Xf,aN,aB,Avq _ _ _ _ _ hl hL,A06,Em,Option.bind_some]
 cases l.findIdx? (fun x=>decide (x.Name=n)) with
 |none=>rfl
 |some i=>simp [Rq,H2]
theorem A07(L:Nat)(l:List Ap)(s:Aa)(n:ByteArray):∀(k:List Ap) (i:Nat) (v:Int),Km L l s n k i v=some (match k.findIdx? (fun x=>x.Name.toList == n.toList) with|some j=>(0,(((i+j:Nat):Int),((i+j:Nat):Int)))|none=>(1,(v,((i+k.length:Nat):Int)))):=by
 intro k
 induction k with
 |nil=>intro i v;rfl
 |cons x k ih=>
  intro i v
  rw [Km,ih,List.findIdx?_cons]
  cases hc:(fun x=>x.Name.toList == n.toList) x with
  |true=>simp only [hc,cond_true,if_true];rfl
  |false=>
   simp only [hc,cond_false,if_false,Bool.false_eq_true]
   cases k.findIdx? (fun x=>x.Name.toList == n.toList) with
   |some j=>simp [Nat.add_assoc,Nat.add_comm 1]
   |none=>simp [Nat.add_assoc,Nat.add_comm 1]
theorem Ar7(L:Nat)(l:List Ap)(s:Aa)(n:ByteArray)(hl:l.length≤maxLen)(hL:l.length < L):Wt L l s n=some (Rq (l.findIdx? (fun x=>decide (x.Name=n)))):=by
 simp only [Wt,Aly,Ad7,Xh,aN,aB,Avr _ _ _ _ _ hl hL,A07,Em,Option.bind_some]
 cases l.findIdx? (fun x=>decide (x.Name=n)) with
 |none=>rfl
 |some i=>simp [Rq,H2]
theorem A08(L:Nat)(l:List Ar)(s:Aa)(n:ByteArray):∀(k:List Ar) (i:Nat) (v:Int),Kn L l s n k i v=some (match k.findIdx? (fun x=>x.Name.toList == n.toList) with|some j=>(0,(((i+j:Nat):Int),((i+j:Nat):Int)))|none=>(1,(v,((i+k.length:Nat):Int)))):=by
 intro k
 induction k with
 |nil=>intro i v;rfl
 |cons x k ih=>
  intro i v
  rw [Kn,ih,List.findIdx?_cons]
  cases hc:(fun x=>x.Name.toList == n.toList) x with
  |true=>simp only [hc,cond_true,if_true];rfl
  |false=>
   simp only [hc,cond_false,if_false,Bool.false_eq_true]
   cases k.findIdx? (fun x=>x.Name.toList == n.toList) with
   |some j=>simp [Nat.add_assoc,Nat.add_comm 1]
   |none=>simp [Nat.add_assoc,Nat.add_comm 1]
theorem Ar8(L:Nat)(l:List Ar)(s:Aa)(n:ByteArray)(hl:l.length≤maxLen)(hL:l.length < L):Wu L l s n=some (Rq (l.findIdx? (fun x=>decide (x.Name=n)))):=by
 simp only [Wu,Alz,Ab4,Uv,aN,aB,Avs _ _ _ _ _ hl hL,A08,Em,Option.bind_some]
 cases l.findIdx? (fun x=>decide (x.Name=n)) with
 |none=>rfl
 |some i=>simp [Rq,H2]
theorem Awb(L:Nat)(l:List Ai)(s:Aa)(n:ByteArray):∀(k:List Ai) (i:Nat) (v:Int),Ie L l s n k i v=some (match k.findIdx? (fun x=>x.Name.toList == n.toList) with|some j=>(0,(((i+j:Nat):Int),((i+j:Nat):Int)))|none=>(1,(v,((i+k.length:Nat):Int)))):=by
 intro k
 induction k with
 |nil=>intro i v;rfl
 |cons x k ih=>
  intro i v
  rw [Ie,ih,List.findIdx?_cons]
  cases hc:(fun x=>x.Name.toList == n.toList) x with
  |true=>simp only [hc,cond_true,if_true];rfl
  |false=>
   simp only [hc,cond_false,if_false,Bool.false_eq_true]
   cases k.findIdx? (fun x=>x.Name.toList == n.toList) with
   |some j=>simp [Nat.add_assoc,Nat.add_comm 1]
   |none=>simp [Nat.add_assoc,Nat.add_comm 1]
theorem Ao2(L:Nat)(l:List Ai)(s:Aa)(n:ByteArray)(hl:l.length≤maxLen)(hL:l.length < L):Te L l s n=some (Rq (l.findIdx? (fun x=>decide (x.Name=n)))):=by
 simp only [Te,Aik,j6,Tj,aN,aB,Ar3 _ _ _ _ _ hl hL,Awb,Em,Option.bind_some]
 cases l.findIdx? (fun x=>decide (x.Name=n)) with
 |none=>rfl
 |some i=>simp [Rq,H2]
theorem Ame(L:Nat)(l:List ByteArray)(n:ByteArray):∀(k:List ByteArray) (i:Nat) (v:Int),Ei L l n k i v=some (match k.findIdx? (fun x=>n.toList == x.toList) with|some j=>(0,(((i+j:Nat):Int),((i+j:Nat):Int)))|none=>(1,(v,((i+k.length:Nat):Int)))):=by
 intro k
 induction k with
 |nil=>intro i v;rfl
 |cons x k ih=>
  intro i v
  rw [Ei,ih,List.findIdx?_cons]
  cases hc:(fun x=>n.toList == x.toList) x with
  |true=>simp only [hc,cond_true,if_true];rfl
  |false=>
   simp only [hc,cond_false,if_false,Bool.false_eq_true]
   cases k.findIdx? (fun x=>n.toList == x.toList) with
   |some j=>simp [Nat.add_assoc,Nat.add_comm 1]
   |none=>simp [Nat.add_assoc,Nat.add_comm 1]
theorem Gw(L:Nat)(l:List ByteArray)(n:ByteArray)(hl:l.length≤maxLen)(hL:l.length < L):Dy L l n=some (Rq (l.findIdx? (fun x=>decide (n=x)))):=by
 simp only [Dy,Ace,Ro,K0,aN,aB,Ai9 _ _ _ _ hl hL,Ame,Em,Option.bind_some]
 cases l.findIdx? (fun x=>decide (n=x)) with
 |none=>rfl
 |some i=>simp [Rq,H2]
def Sd(s:Aa)(n:ByteArray):Int:=Rq (s.Routines.findIdx? fun x=>decide (x.Name=n))
theorem Sb(L:Nat)(s:Aa)(n:ByteArray)(hl:s.Routines.length≤maxLen)(hL:s.Routines.length < L):Fv L s n=some (Sd s n):=by
 simp only [Aoj,Tp,Ov,Fv,Tp,Ov,aN,aB,Ao2 L _ s n hl hL,Option.bind_some,Sd]
def Akx(s:Aa)(n:ByteArray):ByteArray×Int:=
 bif s.Vars.any (fun x=>decide (x.Name=n)) then (Bsk,Rq (s.Vars.findIdx? fun x=>decide (x.Name=n)))
 else bif s.Resources.any (fun x=>decide (x.Name=n)) then (Hl,Rq (s.Resources.findIdx? fun x=>decide (x.Name=n)))
 else bif s.Stores.any (fun x=>decide (x.Name=n)) then (Im,Rq (s.Stores.findIdx? fun x=>decide (x.Name=n)))
 else bif s.Belts.any (fun x=>decide (x.Name=n)) then (An0,Rq (s.Belts.findIdx? fun x=>decide (x.Name=n)))
 else bif s.Queues.any (fun x=>decide (n=x)) then (R7,Rq (s.Queues.findIdx? fun x=>decide (n=x)))
 else bif s.Streams.any (fun x=>decide (n=x)) then (Amd,Rq (s.Streams.findIdx? fun x=>decide (n=x)))
 else bif s.Tallies.any (fun x=>decide (n=x)) then (Afs,Rq (s.Tallies.findIdx? fun x=>decide (n=x)))
 else bif s.Levels.any (fun x=>decide (n=x)) then (Aio,Rq (s.Levels.findIdx? fun x=>decide (n=x)))
 else bif s.Counts.any (fun x=>decide (n=x)) then (R6,Rq (s.Counts.findIdx? fun x=>decide (n=x)))
 else bif s.Routines.any (fun x=>decide (x.Name=n)) then (Vl,Sd s n)
 else (⟨#[]⟩,-1)
def Gf(s:Aa)(n:ByteArray):ByteArray:=(Akx s n).1
def U9(s:Aa)(m:Nat):Prop:=s.Vars.length≤m∧s.Resources.length≤m∧s.Stores.length≤m∧s.Belts.length≤m∧s.Queues.length≤m∧s.Streams.length≤m∧s.Tallies.length≤m∧s.Levels.length≤m∧s.Counts.length≤m∧s.Routines.length≤m
theorem B7.len{s:Aa}(h:B7 s):U9 s maxLen:=by
 unfold B7 at h
 unfold U9
 simp only [h,and_self]
theorem A4a(L:Nat)(s:Aa)(n:ByteArray)(h:U9 s maxLen)(hL:maxLen < L):Aen L s n=some (Akx s n):=by
 obtain ⟨h0,h1,h2,h3,h4,h5,h6,h7,h8,h9⟩:=h
 have hR:decide (Sd s n≥0)=s.Routines.any (fun x=>decide (x.Name=n)):=Anx _ _
 simp only [Asg,Xw,Xe,Xx,Xg,Xy,Xi,U2,Ql,Aen,Xw,Xe,Xx,Xg,Xy,Xi,U2,Ql,aN,aB,Ar5 L _ s n h0 (by omega),Ar6 L _ s n h1 (by omega),Ar7 L _ s n h2 (by omega),Ar8 L _ s n h3 (by omega),
  Gw L _ n h4 (by omega),Gw L _ n h5 (by omega),Gw L _ n h6 (by omega),Gw L _ n h7 (by omega),Gw L _ n h8 (by omega),Sb L s n h9 (by omega),
  Option.bind_some,Du,Anx,hR,Akx]
 simp only [Bsk,Hl,Im,An0,R7,Amd,Afs,Aio,R6,Vl]
theorem Ass(L:Nat)(s:Aa)(n:ByteArray)(h:U9 s maxLen)(hL:maxLen < L):r0 L s n=some (Gf s n):=by
 simp only [Ane,r0,aN,aB,A4a L s n h hL,Option.bind_some,Gf]
theorem A6l(L:Nat)(s:Aa):∀(k:List Al) (i:Nat) (v:List ByteArray),v.length+k.length≤1099511627776→∃j,Li L s k i v=some (0,(j,v++k.map (fun x=>x.Name))):=by
 intro k
 induction k with
 |nil=>intro i v _;exact ⟨_,by rw [Li,List.map_nil,List.append_nil]⟩
 |cons x k ih=>
  intro i v h
  rw [List.length_cons] at h
  obtain ⟨j,hj⟩:=ih (i+1) (v++ [(fun x=>x.Name) x]) (by simp only [List.length_append,List.length_cons,List.length_nil];omega)
  refine ⟨j,?_⟩
  rw [Li]
  have hM:=Bd
  simp only [List.length_cons,List.length_nil]
  repeat rw [ifp (by omega)]
  rw [hj,List.append_assoc];rfl
theorem A6m(L:Nat)(s:Aa)(o1:Nat×(Int×List ByteArray)):∀(k:List Af) (i:Nat) (v:List ByteArray),v.length+k.length≤1099511627776→∃j,Lj L s o1 k i v=some (0,(j,v++k.map (fun x=>x.Name))):=by
 intro k
 induction k with
 |nil=>intro i v _;exact ⟨_,by rw [Lj,List.map_nil,List.append_nil]⟩
 |cons x k ih=>
  intro i v h
  rw [List.length_cons] at h
  obtain ⟨j,hj⟩:=ih (i+1) (v++ [(fun x=>x.Name) x]) (by simp only [List.length_append,List.length_cons,List.length_nil];omega)
  refine ⟨j,?_⟩
  rw [Lj]
  have hM:=Bd
  simp only [List.length_cons,List.length_nil]
  repeat rw [ifp (by omega)]
  rw [hj,List.append_assoc];rfl
theorem A6n(L:Nat)(s:Aa)(o1 o2:Nat×(Int×List ByteArray)):∀(k:List Ap) (i:Nat) (v:List ByteArray),v.length+k.length≤1099511627776→∃j,Lk L s o1 o2 k i v=some (0,(j,v++k.map (fun x=>x.Name))):=by
 intro k
 induction k with
 |nil=>intro i v _;exact ⟨_,by rw [Lk,List.map_nil,List.append_nil]⟩
 |cons x k ih=>
  intro i v h
  rw [List.length_cons] at h
  obtain ⟨j,hj⟩:=ih (i+1) (v++ [(fun x=>x.Name) x]) (by simp only [List.length_append,List.length_cons,List.length_nil];omega)
  refine ⟨j,?_⟩
  rw [Lk]
  have hM:=Bd
  simp only [List.length_cons,List.length_nil]
  repeat rw [ifp (by omega)]
  rw [hj,List.append_assoc];rfl
theorem A6o(L:Nat)(s:Aa)(o1 o2 o3:Nat×(Int×List ByteArray)):∀(k:List Ar) (i:Nat) (v:List ByteArray),v.length+k.length≤1099511627776→∃j,Ll L s o1 o2 o3 k i v=some (0,(j,v++k.map (fun x=>x.Name))):=by
 intro k
 induction k with
 |nil=>intro i v _;exact ⟨_,by rw [Ll,List.map_nil,List.append_nil]⟩
 |cons x k ih=>
  intro i v h
  rw [List.length_cons] at h
  obtain ⟨j,hj⟩:=ih (i+1) (v++ [(fun x=>x.Name) x]) (by simp only [List.length_append,List.length_cons,List.length_nil];omega)
  refine ⟨j,?_⟩
  rw [Ll]
  have hM:=Bd
  simp only [List.length_cons,List.length_nil]
  repeat rw [ifp (by omega)]
  rw [hj,List.append_assoc];rfl
theorem A6p(L:Nat)(s:Aa)(o1 o2 o3 o4:Nat×(Int×List ByteArray)):∀(k:List Ai) (i:Nat) (v:List ByteArray),v.length+k.length≤1099511627776→∃j,Lm L s o1 o2 o3 o4 k i v=some (0,(j,v++k.map (fun x=>x.Name))):=by
 intro k
 induction k with
 |nil=>intro i v _;exact ⟨_,by rw [Lm,List.map_nil,List.append_nil]⟩
 |cons x k ih=>
  intro i v h
  rw [List.length_cons] at h
  obtain ⟨j,hj⟩:=ih (i+1) (v++ [(fun x=>x.Name) x]) (by simp only [List.length_append,List.length_cons,List.length_nil];omega)
  refine ⟨j,?_⟩
  rw [Lm]
  have hM:=Bd
  simp only [List.length_cons,List.length_nil]
  repeat rw [ifp (by omega)]
  rw [hj,List.append_assoc];rfl
def Iy(s:Aa):List (List ByteArray):= [s.Vars.map fun x=>x.Name,s.Resources.map fun x=>x.Name,s.Stores.map fun x=>x.Name,s.Belts.map fun x=>x.Name,s.Queues,s.Streams,s.Tallies,s.Levels,s.Counts,s.Routines.map fun x=>x.Name]
theorem An7(L:Nat)(s:Aa)(h:U9 s 1099511627776)(hL:maxLen < L):j8 L s=some (Iy s):=by
 obtain ⟨h0,h1,h2,h3,h4,h5,h6,h7,h8,h9⟩:=h
 rw [Bd] at hL
 obtain ⟨j1,e1⟩:=A6l L s s.Vars 0 [] (by simpa using h0)
 obtain ⟨j2,e2⟩:=A6m L s (0,(j1,[]++s.Vars.map fun x=>x.Name)) s.Resources 0 [] (by simpa using h1)
 obtain ⟨j3,e3⟩:=A6n L s (0,(j1,[]++s.Vars.map fun x=>x.Name)) (0,(j2,[]++s.Resources.map fun x=>x.Name)) s.Stores 0 [] (by simpa using h2)
 obtain ⟨j4,e4⟩:=A6o L s (0,(j1,[]++s.Vars.map fun x=>x.Name)) (0,(j2,[]++s.Resources.map fun x=>x.Name)) (0,(j3,[]++s.Stores.map fun x=>x.Name)) s.Belts 0 [] (by simpa using h3)
 obtain ⟨j5,e5⟩:=A6p L s (0,(j1,[]++s.Vars.map fun x=>x.Name)) (0,(j2,[]++s.Resources.map fun x=>x.Name)) (0,(j3,[]++s.Stores.map fun x=>x.Name)) (0,(j4,[]++s.Belts.map fun x=>x.Name)) s.Routines 0 [] (by simpa using h9)
 simp only [Ayx,Abp,Aa0,Abq,Aa1,Abr,Aa2,Abs,Aa3,Abt,V6,j8,Abp,Aa0,Abq,Aa1,Abr,Aa2,Abs,Aa3,Abt,V6,aN,aB,A0l L s L (by rw [Bd];omega) (by omega),e1,Option.bind_some,H2,A0m L s _ L (by rw [Bd];omega) (by omega),e2,A0n L s _ _ L (by rw [Bd];omega) (by omega),e3,A0o L s _ _ _ L (by rw [Bd];omega) (by omega),e4,A0p L s _ _ _ _ L (by rw [Bd];omega) (by omega),e5]
 repeat rw [ifp (by omega)]
 rfl
end Go.Proofs.YtogleahbpobaiaaGreat.Ev
namespace Go.Proofs.YtogleahbpobaiaaGreat.Ev
open Go An
set_option maxRecDepth 100000
set_option linter.unusedVariables false
set_option linter.unusedSimpArgs false
set_option linter.unnecessarySimpa false
theorem Bp5(l:List ByteArray)(s:ByteArray):decide (A5v l s≥0)=l.any (fun x=>decide (x=s)):=Anx _ _
theorem Aj5(L:Nat)(s:Aa)(n:ByteArray)(h:U9 s 1099511627776)(hL:maxLen < L):Z7 L s n=some (Gf s n):=by
 have hM:=Bd
 have hh:=h
 obtain ⟨h0,h1,h2,h3,h4,h5,h6,h7,h8,h9⟩:=hh
 have hn:=An7 L s h hL
 have hf:∀l:List ByteArray,l.length≤1099511627776→L2 L l n=some (A5v l n):=fun l hl=>Afx L l n (by omega) (by omega)
 have e:∀ {α :Type} (l:List α) (f: α→ByteArray),l.length≤1099511627776→L2 L (l.map f) n=some (A5v (l.map f) n):=fun l f hl=>hf _ (by rw [List.length_map];exact hl)
 simp only [A2j,Afa,Yx,Z7,Afa,Yx,aN,aB,hn,Option.bind_some,A3s L n (Iy s) s L (by simp only [Iy,List.length_cons,List.length_nil];omega) (by simp only [Iy,List.length_cons,List.length_nil];omega)]
 simp only [Iy,Uf,e _ _ h0,e _ _ h1,e _ _ h2,e _ _ h3,hf _ h4,hf _ h5,hf _ h6,hf _ h7,hf _ h8,e _ _ h9,Option.bind_some,Bp5,List.any_map,List.length_cons,List.length_nil,Int.toNat_natCast]
 repeat rw [ifp (by omega)]
 simp only [Gf,Akx,Du,Option.bind_some,Function.comp_def]
 have e2:∀l:List ByteArray,(l.any fun x=>decide (x=n))=l.any fun x=>decide (n=x):=fun l=>by simp only [eq_comm]
 simp only [e2]
 cases s.Vars.any (fun x=>decide (x.Name=n)) with|true=>rfl|false=> ?_
 cases s.Resources.any (fun x=>decide (x.Name=n)) with|true=>rfl|false=> ?_
 cases s.Stores.any (fun x=>decide (x.Name=n)) with|true=>rfl|false=> ?_
 cases s.Belts.any (fun x=>decide (x.Name=n)) with|true=>rfl|false=> ?_
 cases s.Queues.any (fun x=>decide (n=x)) with|true=>rfl|false=> ?_
 cases s.Streams.any (fun x=>decide (n=x)) with|true=>rfl|false=> ?_
 cases s.Tallies.any (fun x=>decide (n=x)) with|true=>rfl|false=> ?_
 cases s.Levels.any (fun x=>decide (n=x)) with|true=>rfl|false=> ?_
 cases s.Counts.any (fun x=>decide (n=x)) with|true=>rfl|false=> ?_
 cases s.Routines.any (fun x=>decide (x.Name=n))<;>rfl
def Ar2(l:List Ao)(s:ByteArray):Option Int:=(l.reverse.find? fun f=>decide (f.Name=s)).map (·.Type_)
def A6y(l:List Al)(s:ByteArray):Option Int:=(l.find? fun x=>decide (x.Name=s)).map (·.Type_)
def o2:Option Int→Int×Bool
 |some t=>(t,true)
 |none=>(0,false)
def A3j(v:Aq)(s:ByteArray):Option Int:=match Ar2 v.Locals s with
 |some t=>some t
 |none=>match A6y v.Site.Vars s with
  |some t=>some t
  |none=>A6y v.Params s
theorem A0d(L:Nat)(l:List Ao)(s:ByteArray)(hl:l.length≤maxLen):∀(j n:Nat),j≤l.length→j < n→
  ∃i,Jc L l s n 0 false ((j:Int) - 1)=some (match (l.take j).reverse.find? (fun f=>decide (f.Name=s)) with|some f=>(0,(f.Type_,true,i))|none=>(1,(0,false,i))):=by
 intro j
 induction j with
 |zero=>
  intro n _ hn
  obtain ⟨n,rfl⟩:∃k,n=k+1:=⟨n - 1,by omega⟩
  exact ⟨_,by simp only [Jc,Qd,Atb,Ap4];rfl⟩
 |succ j ih=>
  intro n hj hn
  obtain ⟨n,rfl⟩:∃k,n=k+1:=⟨n - 1,by omega⟩
  have hlt:j < l.length:=by omega
  have e0:((j+1:Nat):Int) - 1=(j:Int):=by omega
  have e1:decide ((j:Int)≥0)=true:=decide_eq_true (by omega)
  have et:(l.take (j+1)).reverse=l.getD j default::(l.take j).reverse:=by
   rw [List.take_succ_eq_append_getElem hlt,List.reverse_append,Hk l j hlt];rfl
  obtain ⟨i,hi⟩:=ih n (by omega) (by omega)
  rw [et]
  rw [List.find?_cons]
  cases hb:decide ((l.getD j default).Name=s) with
  |true=>exact ⟨(j:Int),by simp only [Jc,Qd,Atb,A9d,Ap4,Em,e0,e1,nn,Ky hlt,Ix,hb,cond_true,if_true,decide_true]⟩
  |false=>exact ⟨i,by simp only [Jc,Qd,Atb,A9d,Ap4,Em,e0,e1,nn,Ky hlt,Ix,hb,cond_true,cond_false,if_true,decide_true,Aro (show j≤maxLen by omega),hi]⟩
theorem Agr(L:Nat)(l:List Ao)(s:ByteArray)(hl:l.length≤maxLen)(hL:l.length < L):N3 L l s=some (o2 (Ar2 l s)):=by
 obtain ⟨i,hi⟩:=A0d L l s hl l.length L (Nat.le_refl _) hL
 rw [List.take_length] at hi
 simp only [Ap2,U7,Qq,N3,U7,Qq,Bpk,Bpl,Ap4,Aro hl,hi,Ar2]
 cases l.reverse.find? (fun f=>decide (f.Name=s))<;>rfl
theorem Ban(L:Nat)(l:List Ao)(s:ByteArray)(hl:l.length≤maxLen):∀(j n:Nat),j≤l.length→j < n→
  ∃i,Oj L l s n 0 false ((j:Int) - 1)=some (match (l.take j).reverse.find? (fun f=>decide (f.Name=s)) with|some f=>(0,(f.Type_,true,i))|none=>(1,(0,false,i))):=by
 intro j
 induction j with
 |zero=>
  intro n _ hn
  obtain ⟨n,rfl⟩:∃k,n=k+1:=⟨n - 1,by omega⟩
  exact ⟨_,by simp only [Oj,Vo,Atb,Ap4];rfl⟩
 |succ j ih=>
  intro n hj hn
  obtain ⟨n,rfl⟩:∃k,n=k+1:=⟨n - 1,by omega⟩
  have hlt:j < l.length:=by omega
  have e0:((j+1:Nat):Int) - 1=(j:Int):=by omega
  have e1:decide ((j:Int)≥0)=true:=decide_eq_true (by omega)
  have et:(l.take (j+1)).reverse=l.getD j default::(l.take j).reverse:=by
   rw [List.take_succ_eq_append_getElem hlt,List.reverse_append,Hk l j hlt];rfl
  obtain ⟨i,hi⟩:=ih n (by omega) (by omega)
  rw [et]
  rw [List.find?_cons]
  cases hb:decide ((l.getD j default).Name=s) with
  |true=>exact ⟨(j:Int),by simp only [Oj,Vo,Atb,A9d,Ap4,Em,e0,e1,nn,Ky hlt,Ix,hb,cond_true,if_true,decide_true]⟩
  |false=>exact ⟨i,by simp only [Oj,Vo,Atb,A9d,Ap4,Em,e0,e1,nn,Ky hlt,Ix,hb,cond_true,cond_false,if_true,decide_true,Aro (show j≤maxLen by omega),hi]⟩
theorem An9(L:Nat)(l:List Ao)(s:ByteArray)(hl:l.length≤maxLen)(hL:l.length < L):m0 L l s=some (o2 (Ar2 l s)):=by
 obtain ⟨i,hi⟩:=Ban L l s hl l.length L (Nat.le_refl _) hL
 rw [List.take_length] at hi
 simp only [Ay0,Abx,Wa,m0,Abx,Wa,Bpk,Bpl,Ap4,Aro hl,hi,Ar2]
 cases l.reverse.find? (fun f=>decide (f.Name=s))<;>rfl
theorem A1a(L:Nat)(s:ByteArray)(v0:Aq):∀(k:List Al) (i:Nat) (v:Int) (w:Bool),∃j,Ko L s v0 k i v w=some (match k.find? (fun x=>decide (x.Name=s)) with|some x=>(0,(x.Type_,true,j))|none=>(1,(v,w,j))):=by
 intro k
 induction k with
 |nil=>intro i v w;exact ⟨i,rfl⟩
 |cons x k ih=>
  intro i v w
  obtain ⟨j,hj⟩:=ih (i+1) v w
  rw [Ko,List.find?_cons,Em]
  cases decide (x.Name=s) with
  |true=>exact ⟨i,rfl⟩
  |false=>exact ⟨j,hj⟩
theorem A1b(L:Nat)(s:ByteArray)(v0:Aq):∀(k:List Al) (i:Nat) (v:Int) (w:Bool),∃j,Kp L s v0 k i v w=some (match k.find? (fun x=>decide (x.Name=s)) with|some x=>(0,(x.Type_,true,j))|none=>(1,(v,w,j))):=by
 intro k
 induction k with
 |nil=>intro i v w;exact ⟨i,rfl⟩
 |cons x k ih=>
  intro i v w
  obtain ⟨j,hj⟩:=ih (i+1) v w
  rw [Kp,List.find?_cons,Em]
  cases decide (x.Name=s) with
  |true=>exact ⟨i,rfl⟩
  |false=>exact ⟨j,hj⟩
theorem A4h(L:Nat)(l:List Al)(s:ByteArray):∀(k:List Al) (i:Nat) (v:Int) (w:Bool),∃j,Mj L l s k i v w=some (match k.find? (fun x=>decide (x.Name=s)) with|some x=>(0,(x.Type_,true,j))|none=>(1,(v,w,j))):=by
 intro k
 induction k with
 |nil=>intro i v w;exact ⟨i,rfl⟩
 |cons x k ih=>
  intro i v w
  obtain ⟨j,hj⟩:=ih (i+1) v w
  rw [Mj,List.find?_cons,Em]
  cases decide (x.Name=s) with
  |true=>exact ⟨i,rfl⟩
  |false=>exact ⟨j,hj⟩
theorem A4d(L:Nat)(v:Aq)(s:ByteArray)(h:Ec v)(hL:maxLen < L):Aep L v s=some (o2 (A3j v s)):=by
 obtain ⟨⟨h1,_⟩,⟨h2,_⟩,h3⟩:=h
 have h4:=h3.len.1
 obtain ⟨j1,e1⟩:=A1a L s v v.Site.Vars 0 0 false
 obtain ⟨j2,e2⟩:=A1b L s v v.Params 0 0 false
 simp only [Asj,Yb,Xn,Yc,Sv,Aep,Yb,Xn,Yc,Sv,aN,aB,Agr L _ s h2 (by omega),Avu L s v L h4 (by omega),Avv L s v L h1 (by omega),e1,Option.bind_some,A3j,A6y]
 cases Ar2 v.Locals s with
 |some t=>rfl
 |none=>
  simp only [o2,cond_false]
  cases v.Site.Vars.find? (fun x=>decide (x.Name=s)) with
  |some t=>rfl
  |none=>
   simp only [S0,e2,Option.bind_some,Option.map_none]
   cases v.Params.find? (fun x=>decide (x.Name=s))<;>rfl
theorem Aku(L:Nat)(l:List Al)(s:ByteArray)(hl:l.length≤maxLen)(hL:l.length < L):S7 L l s=some (o2 (A6y l s)):=by
 obtain ⟨j1,e1⟩:=A4h L l s l 0 0 false
 simp only [Auk,Zt,Tv,S7,Zt,Tv,aN,aB,Axc L l s L hl hL,e1,Option.bind_some,A6y]
 cases l.find? (fun x=>decide (x.Name=s))<;>rfl
theorem Ber(L:Nat)(v:Aq)(s:ByteArray)(h:Ec v)(hL:maxLen < L):Am1 L v s=some (o2 (A3j v s)):=by
 obtain ⟨⟨h1,_⟩,⟨h2,_⟩,h3⟩:=h
 have h4:=h3.len.1
 simp only [As8,Am1,aN,aB,An9 L _ s h2 (by omega),Aku L _ s h4 (by omega),Aku L _ s h1 (by omega),Option.bind_some,A3j]
 cases Ar2 v.Locals s with
 |some t=>rfl
 |none=>
  cases A6y v.Site.Vars s with
  |some t=>rfl
  |none=>cases A6y v.Params s<;>rfl
def Avx(t:Int):Bool:=t == 1 || t == 3
def unT(op a:Int):Int:=if (op=5∧Avx a=true)∨(op=6∧a=2) then a else if op=7∧a=1 then 3 else if op=8∧a=3 then 1 else 0
def Bgd(op a b:Int):Int:=
 if op=9∨op=10∨op=13∨op=20∨op=21 then (if a=b∧Avx a=true then a else 0)
 else if op=11 then (if a=1∧b=1 then 1 else if Avx a=true∧Avx b=true∧a≠b then 3 else 0)
 else if op=12 then (if (a=1∧b=1)∨(a=3∧b=3) then 1 else if a=3∧b=1 then 3 else 0)
 else if op=14∨op=15 then (if a=b then 2 else 0)
 else if op=16∨op=17 then (if a=b∧Avx a=true then 2 else 0)
 else if op=18∨op=19 then (if a=2∧b=2 then 2 else 0)
 else 0
def Bsq(op:Int)(k:ByteArray):Bool:=if op=22 then decide (k=Hl) else if op=23 then decide (k=Im) else decide (k=Hl) || decide (k=R7)
theorem Aiz(L:Nat)(t:Int):Hi L t=some (Avx t):=by
 simp only [u7,Hi,aN,aB,Kq,Avx]
theorem Agp(L:Nat)(t:Int):I3 L t=some (Avx t):=by
 simp only [Ah6,I3,aN,aB,Kq,Avx]
theorem A02(L:Nat)(op a:Int):t5 L op a=some (unT op a):=by
 simp only [Aib,t5,aN,aB,Aiz,Option.bind_some,Du,Di,Kq,unT]
 congr 1
 by_cases h5:op=5
 ·subst h5;cases Avx a<;>simp
 by_cases h6:op=6
 ·subst h6;by_cases h:a=2<;>first|(simp [h];done)|(simp [h,beq_false_of_ne h];done)
 by_cases h7:op=7
 ·subst h7;by_cases h:a=1<;>first|(simp [h];done)|(simp [h,beq_false_of_ne h];done)
 by_cases h8:op=8
 ·subst h8;by_cases h:a=3<;>first|(simp [h];done)|(simp [h,beq_false_of_ne h];done)
 have b5:(op == 5)=false:=beq_false_of_ne h5
 have b6:(op == 6)=false:=beq_false_of_ne h6
 have b7:(op == 7)=false:=beq_false_of_ne h7
 have b8:(op == 8)=false:=beq_false_of_ne h8
 simp [h5,h6,h7,h8,b5,b6,b7,b8]
theorem Ba9(L:Nat)(op a:Int):Ajn L op a=some (unT op a):=by
 simp only [Apx,Ajn,aN,aB,Agp,Option.bind_some,Du,Di,Kq,unT]
 congr 1
 by_cases h5:op=5
 ·subst h5;cases Avx a<;>simp
 by_cases h6:op=6
 ·subst h6;by_cases h:a=2<;>first|(simp [h];done)|(simp [h,beq_false_of_ne h];done)
 by_cases h7:op=7
 ·subst h7;by_cases h:a=1<;>first|(simp [h];done)|(simp [h,beq_false_of_ne h];done)
 by_cases h8:op=8
 ·subst h8;by_cases h:a=3<;>first|(simp [h];done)|(simp [h,beq_false_of_ne h];done)
 have b5:(op == 5)=false:=beq_false_of_ne h5
 have b6:(op == 6)=false:=beq_false_of_ne h6
 have b7:(op == 7)=false:=beq_false_of_ne h7
 have b8:(op == 8)=false:=beq_false_of_ne h8
 simp [h5,h6,h7,h8,b5,b6,b7,b8]
theorem Ax4(L:Nat)(op a b:Int):Y5 L op a b=some (Bgd op a b):=by
 simp only [Tl,Tm,sx_typing_binary_4,i9,sx_typing_binary_3,i8,sx_typing_binary_1,f8,sx_typing_binary_0,Aol,Y5,aN,aB,Aiz,Option.bind_some,Du,Di,Kq,Bgd,Avx]
 congr 1
 rcases A1y op with rfl|rfl|rfl|rfl|rfl|rfl|rfl|rfl|rfl|rfl|rfl|rfl|rfl|rfl|rfl|rfl|rfl|rfl|rfl|rfl|rfl|rfl|rfl|rfl|rfl|rfl|hop|hop
 all_goals first|(simp;done)|(simp;grind)|grind
theorem A53(L:Nat)(op a b:Int):Ag7 L op a b=some (Bgd op a b):=by
 simp only [Zs,sx_R14_binary_3,Agx,sx_R14_binary_2,Agw,sx_R14_binary_1,Agv,sx_R14_binary_0,Auj,Ag7,aN,aB,Agp,Option.bind_some,Du,Di,Kq,Bgd,Avx]
 congr 1
 rcases A1y op with rfl|rfl|rfl|rfl|rfl|rfl|rfl|rfl|rfl|rfl|rfl|rfl|rfl|rfl|rfl|rfl|rfl|rfl|rfl|rfl|rfl|rfl|rfl|rfl|rfl|rfl|hop|hop
 all_goals first|(simp;done)|(simp;grind)|grind
theorem Ax5(L:Nat)(op:Int)(k:ByteArray):Y6 L op k=some (Bsq op k):=by
 simp only [Af7,Y6,aN,aB,Em,Kq,Du,Bsq,Hl,Im,R7]
 congr 1
 by_cases h:op=22
 ·subst h;rfl
 by_cases h':op=23
 ·subst h';rfl
 have b:(op == 22)=false:=beq_false_of_ne h
 have b':(op == 23)=false:=beq_false_of_ne h'
 simp only [h,h',b,b',cond_false,if_false]
 rfl
end Go.Proofs.YtogleahbpobaiaaGreat.Ev
