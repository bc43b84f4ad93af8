/-  Chapter 11, plainly: the kind of a name. -/
import Derived.Test.YtfencmicmnhglaaGreatQA
import Derived.Test.YtfencmicmnhglaaGreatPB
import Derived.Test.YtfencmicmnhglaaGreatR0
namespace Go.Proofs.YtfencmicmnhglaaGreat.Ev
open Go An
set_option maxRecDepth 100000
set_option linter.unusedVariables false
set_option linter.unusedSimpArgs false
set_option linter.unnecessarySimpa false
def Bxo:ByteArray:=⟨#[118,97,114]⟩
def H4:ByteArray:=⟨#[114,101,115,111,117,114,99,101]⟩
def I2:ByteArray:=⟨#[115,116,111,114,101]⟩
def Apu:ByteArray:=⟨#[98,101,108,116]⟩
def Tl:ByteArray:=⟨#[113,117,101,117,101]⟩
def An4:ByteArray:=⟨#[115,116,114,101,97,109]⟩
def Ag7:ByteArray:=⟨#[116,97,108,108,121]⟩
def Aj6:ByteArray:=⟨#[108,101,118,101,108]⟩
def Tk:ByteArray:=⟨#[99,111,117,110,116]⟩
def W8:ByteArray:=⟨#[114,111,117,116,105,110,101]⟩
theorem A3k(L:Nat)(l:List Al)(s:Aa)(n:ByteArray):∀(k:List Al) (i:Nat) (v:Int),K8 L l s n k i v=some (match k.findIdx? (fun x=>x.Name.toList == n.toList) with|some j=>(0,(((i+j:Nat):Int),((i+j:Nat):Int)))|none=>(1,(v,((i+k.length:Nat):Int)))):=by
 intro k
 induction k with
 |nil=>intro i v;rfl
 |cons x k ih=>
  intro i v
  rw [K8,ih,List.findIdx?_cons]
  cases hc:(fun x=>x.Name.toList == n.toList) x with
  |true=>simp only [hc,cond_true,if_true];rfl
  |false=>
   simp only [hc,cond_false,if_false,Bool.false_eq_true]
   cases k.findIdx? (fun x=>x.Name.toList == n.toList) with
   |some j=>simp [Nat.add_assoc,Nat.add_comm 1]
   |none=>simp [Nat.add_assoc,Nat.add_comm 1]
theorem Aty(L:Nat)(l:List Al)(s:Aa)(n:ByteArray)(hl:l.length≤maxLen)(hL:l.length < L):Yn L l s n=some (Ow (l.findIdx? (fun x=>decide (x.Name=n)))):=by
 simp only [Yn,Anm,Za,aN,aB,Axp _ _ _ _ _ hl hL,A3k,Ea,Option.bind_some]
 cases l.findIdx? (fun x=>decide (x.Name=n)) with
 |none=>rfl
 |some i=>simp [Ow,Hb]
theorem A3l(L:Nat)(l:List Af)(s:Aa)(n:ByteArray):∀(k:List Af) (i:Nat) (v:Int),K9 L l s n k i v=some (match k.findIdx? (fun x=>x.Name.toList == n.toList) with|some j=>(0,(((i+j:Nat):Int),((i+j:Nat):Int)))|none=>(1,(v,((i+k.length:Nat):Int)))):=by
 intro k
 induction k with
 |nil=>intro i v;rfl
 |cons x k ih=>
  intro i v
  rw [K9,ih,List.findIdx?_cons]
  cases hc:(fun x=>x.Name.toList == n.toList) x with
  |true=>simp only [hc,cond_true,if_true];rfl
  |false=>
   simp only [hc,cond_false,if_false,Bool.false_eq_true]
   cases k.findIdx? (fun x=>x.Name.toList == n.toList) with
   |some j=>simp [Nat.add_assoc,Nat.add_comm 1]
   |none=>simp [Nat.add_assoc,Nat.add_comm 1]
theorem Atz(L:Nat)(l:List Af)(s:Aa)(n:ByteArray)(hl:l.length≤maxLen)(hL:l.length < L):Yp L l s n=some (Ow (l.findIdx? (fun x=>decide (x.Name=n)))):=by
 simp only [Yp,Ann,Zc,aN,aB,Axq _ _ _ _ _ hl hL,A3l,Ea,Option.bind_some]
 cases l.findIdx? (fun x=>decide (x.Name=n)) with
 |none=>rfl
 |some i=>simp [Ow,Hb]
theorem A3m(L:Nat)(l:List Aq)(s:Aa)(n:ByteArray):∀(k:List Aq) (i:Nat) (v:Int),La L l s n k i v=some (match k.findIdx? (fun x=>x.Name.toList == n.toList) with|some j=>(0,(((i+j:Nat):Int),((i+j:Nat):Int)))|none=>(1,(v,((i+k.length:Nat):Int)))):=by
 intro k
 induction k with
 |nil=>intro i v;rfl
 |cons x k ih=>
  intro i v
  rw [La,ih,List.findIdx?_cons]
  cases hc:(fun x=>x.Name.toList == n.toList) x with
  |true=>simp only [hc,cond_true,if_true];rfl
  |false=>
   simp only [hc,cond_false,if_false,Bool.false_eq_true]
   cases k.findIdx? (fun x=>x.Name.toList == n.toList) with
   |some j=>simp [Nat.add_assoc,Nat.add_comm 1]
   |none=>simp [Nat.add_assoc,Nat.add_comm 1]
theorem At0(L:Nat)(l:List Aq)(s:Aa)(n:ByteArray)(hl:l.length≤maxLen)(hL:l.length < L):Yq L l s n=some (Ow (l.findIdx? (fun x=>decide (x.Name=n)))):=by
 simp only [Yq,Ano,Ze,aN,aB,Axr _ _ _ _ _ hl hL,A3m,Ea,Option.bind_some]
 cases l.findIdx? (fun x=>decide (x.Name=n)) with
 |none=>rfl
 |some i=>simp [Ow,Hb]
theorem A3n(L:Nat)(l:List Au)(s:Aa)(n:ByteArray):∀(k:List Au) (i:Nat) (v:Int),Lb L l s n k i v=some (match k.findIdx? (fun x=>x.Name.toList == n.toList) with|some j=>(0,(((i+j:Nat):Int),((i+j:Nat):Int)))|none=>(1,(v,((i+k.length:Nat):Int)))):=by
 intro k
 induction k with
 |nil=>intro i v;rfl
 |cons x k ih=>
  intro i v
  rw [Lb,ih,List.findIdx?_cons]
  cases hc:(fun x=>x.Name.toList == n.toList) x with
  |true=>simp only [hc,cond_true,if_true];rfl
  |false=>
   simp only [hc,cond_false,if_false,Bool.false_eq_true]
   cases k.findIdx? (fun x=>x.Name.toList == n.toList) with
   |some j=>simp [Nat.add_assoc,Nat.add_comm 1]
   |none=>simp [Nat.add_assoc,Nat.add_comm 1]
theorem At1(L:Nat)(l:List Au)(s:Aa)(n:ByteArray)(hl:l.length≤maxLen)(hL:l.length < L):Yr L l s n=some (Ow (l.findIdx? (fun x=>decide (x.Name=n)))):=by
 simp only [Yr,Anp,Wf,aN,aB,Axs _ _ _ _ _ hl hL,A3n,Ea,Option.bind_some]
 cases l.findIdx? (fun x=>decide (x.Name=n)) with
 |none=>rfl
 |some i=>simp [Ow,Hb]
theorem Ayb(L:Nat)(l:List Ak)(s:Aa)(n:ByteArray):∀(k:List Ak) (i:Nat) (v:Int),Ix L l s n k i v=some (match k.findIdx? (fun x=>x.Name.toList == n.toList) with|some j=>(0,(((i+j:Nat):Int),((i+j:Nat):Int)))|none=>(1,(v,((i+k.length:Nat):Int)))):=by
 intro k
 induction k with
 |nil=>intro i v;rfl
 |cons x k ih=>
  intro i v
  rw [Ix,ih,List.findIdx?_cons]
  cases hc:(fun x=>x.Name.toList == n.toList) x with
  |true=>simp only [hc,cond_true,if_true];rfl
  |false=>
   simp only [hc,cond_false,if_false,Bool.false_eq_true]
   cases k.findIdx? (fun x=>x.Name.toList == n.toList) with
   |some j=>simp [Nat.add_assoc,Nat.add_comm 1]
   |none=>simp [Nat.add_assoc,Nat.add_comm 1]
theorem Aqu(L:Nat)(l:List Ak)(s:Aa)(n:ByteArray)(hl:l.length≤maxLen)(hL:l.length < L):Us L l s n=some (Ow (l.findIdx? (fun x=>decide (x.Name=n)))):=by
 simp only [Us,Aj3,Uz,aN,aB,Atw _ _ _ _ _ hl hL,Ayb,Ea,Option.bind_some]
 cases l.findIdx? (fun x=>decide (x.Name=n)) with
 |none=>rfl
 |some i=>simp [Ow,Hb]
theorem An5(L:Nat)(l:List ByteArray)(n:ByteArray):∀(k:List ByteArray) (i:Nat) (v:Int),Ey L l n k i v=some (match k.findIdx? (fun x=>n.toList == x.toList) with|some j=>(0,(((i+j:Nat):Int),((i+j:Nat):Int)))|none=>(1,(v,((i+k.length:Nat):Int)))):=by
 intro k
 induction k with
 |nil=>intro i v;rfl
 |cons x k ih=>
  intro i v
  rw [Ey,ih,List.findIdx?_cons]
  cases hc:(fun x=>n.toList == x.toList) x with
  |true=>simp only [hc,cond_true,if_true];rfl
  |false=>
   simp only [hc,cond_false,if_false,Bool.false_eq_true]
   cases k.findIdx? (fun x=>n.toList == x.toList) with
   |some j=>simp [Nat.add_assoc,Nat.add_comm 1]
   |none=>simp [Nat.add_assoc,Nat.add_comm 1]
theorem Hw(L:Nat)(l:List ByteArray)(n:ByteArray)(hl:l.length≤maxLen)(hL:l.length < L):Eb L l n=some (Ow (l.findIdx? (fun x=>decide (n=x)))):=by
 simp only [Eb,Adz,Lp,aN,aB,Akp _ _ _ _ hl hL,An5,Ea,Option.bind_some]
 cases l.findIdx? (fun x=>decide (n=x)) with
 |none=>rfl
 |some i=>simp [Ow,Hb]
def Tt(s:Aa)(n:ByteArray):Int:=Ow (s.Routines.findIdx? fun x=>decide (x.Name=n))
theorem Tq(L:Nat)(s:Aa)(n:ByteArray)(hl:s.Routines.length≤maxLen)(hL:s.Routines.length < L):Gm L s n=some (Tt s n):=by
 simp only [Aqb,Qa,Gm,Qa,aN,aB,Aqu L _ s n hl hL,Option.bind_some,Tt]
def Aml(s:Aa)(n:ByteArray):ByteArray×Int:=
 bif s.Vars.any (fun x=>decide (x.Name=n)) then (Bxo,Ow (s.Vars.findIdx? fun x=>decide (x.Name=n)))
 else bif s.Resources.any (fun x=>decide (x.Name=n)) then (H4,Ow (s.Resources.findIdx? fun x=>decide (x.Name=n)))
 else bif s.Stores.any (fun x=>decide (x.Name=n)) then (I2,Ow (s.Stores.findIdx? fun x=>decide (x.Name=n)))
 else bif s.Belts.any (fun x=>decide (x.Name=n)) then (Apu,Ow (s.Belts.findIdx? fun x=>decide (x.Name=n)))
 else bif s.Queues.any (fun x=>decide (n=x)) then (Tl,Ow (s.Queues.findIdx? fun x=>decide (n=x)))
 else bif s.Streams.any (fun x=>decide (n=x)) then (An4,Ow (s.Streams.findIdx? fun x=>decide (n=x)))
 else bif s.Tallies.any (fun x=>decide (n=x)) then (Ag7,Ow (s.Tallies.findIdx? fun x=>decide (n=x)))
 else bif s.Levels.any (fun x=>decide (n=x)) then (Aj6,Ow (s.Levels.findIdx? fun x=>decide (n=x)))
 else bif s.Counts.any (fun x=>decide (n=x)) then (Tk,Ow (s.Counts.findIdx? fun x=>decide (n=x)))
 else bif s.Routines.any (fun x=>decide (x.Name=n)) then (W8,Tt s n)
 else (⟨#[]⟩,-1)
def Hi(s:Aa)(n:ByteArray):ByteArray:=(Aml s n).1
def Wu(s:Aa)(m:Nat):Prop:=s.Vars.length≤m∧s.Resources.length≤m∧s.Stores.length≤m∧s.Belts.length≤m∧s.Queues.length≤m∧s.Streams.length≤m∧s.Tallies.length≤m∧s.Levels.length≤m∧s.Counts.length≤m∧s.Routines.length≤m
theorem Ck.len{s:Aa}(h:Ck s):Wu s maxLen:=by
 unfold Ck at h
 unfold Wu
 simp only [h,and_self]
theorem A7c(L:Nat)(s:Aa)(n:ByteArray)(h:Wu s maxLen)(hL:maxLen < L):Afv L s n=some (Aml s n):=by
 obtain ⟨h0,h1,h2,h3,h4,h5,h6,h7,h8,h9⟩:=h
 have hR:decide (Tt s n≥0)=s.Routines.any (fun x=>decide (x.Name=n)):=Alf _ _
 simp only [At9,Zb,Zr,Zd,Zs,Zf,Wp,R5,Afv,Zb,Zr,Zd,Zs,Zf,Wp,R5,aN,aB,Aty L _ s n h0 (by omega),Atz L _ s n h1 (by omega),At0 L _ s n h2 (by omega),At1 L _ s n h3 (by omega),
  Hw L _ n h4 (by omega),Hw L _ n h5 (by omega),Hw L _ n h6 (by omega),Hw L _ n h7 (by omega),Hw L _ n h8 (by omega),Tq L s n h9 (by omega),
  Option.bind_some,D5,Alf,hR,Aml]
 simp only [Bxo,H4,I2,Apu,Tl,An4,Ag7,Aj6,Tk,W8]
theorem Aum(L:Nat)(s:Aa)(n:ByteArray)(h:Wu s maxLen)(hL:maxLen < L):Aa4 L s n=some (Hi s n):=by
 simp only [Apa,Aa4,aN,aB,A7c L s n h hL,Option.bind_some,Hi]
theorem A9q(L:Nat)(s:Aa):∀(k:List Al) (i:Nat) (v:List ByteArray),v.length+k.length≤1099511627776→∃j,L3 L s k i v=some (0,(j,v++k.map (fun x=>x.Name))):=by
 intro k
 induction k with
 |nil=>intro i v _;exact ⟨_,by rw [L3,List.map_nil,List.append_nil]⟩
 |cons x k ih=>
  intro i v h
  rw [List.length_cons] at h
  obtain ⟨j,hj⟩:=ih (i+1) (v++ [(fun x=>x.Name) x]) (by simp only [List.length_append,List.length_cons,List.length_nil];omega)
  refine ⟨j,?_⟩
  rw [L3]
  have hM:=Bd
  simp only [List.length_cons,List.length_nil]
  repeat rw [ifp (by omega)]
  rw [hj,List.append_assoc];rfl
theorem A9r(L:Nat)(s:Aa)(o1:Nat×(Int×List ByteArray)):∀(k:List Af) (i:Nat) (v:List ByteArray),v.length+k.length≤1099511627776→∃j,L4 L s o1 k i v=some (0,(j,v++k.map (fun x=>x.Name))):=by
 intro k
 induction k with
 |nil=>intro i v _;exact ⟨_,by rw [L4,List.map_nil,List.append_nil]⟩
 |cons x k ih=>
  intro i v h
  rw [List.length_cons] at h
  obtain ⟨j,hj⟩:=ih (i+1) (v++ [(fun x=>x.Name) x]) (by simp only [List.length_append,List.length_cons,List.length_nil];omega)
  refine ⟨j,?_⟩
  rw [L4]
  have hM:=Bd
  simp only [List.length_cons,List.length_nil]
  repeat rw [ifp (by omega)]
  rw [hj,List.append_assoc];rfl
theorem A9s(L:Nat)(s:Aa)(o1 o2:Nat×(Int×List ByteArray)):∀(k:List Aq) (i:Nat) (v:List ByteArray),v.length+k.length≤1099511627776→∃j,L5 L s o1 o2 k i v=some (0,(j,v++k.map (fun x=>x.Name))):=by
 intro k
 induction k with
 |nil=>intro i v _;exact ⟨_,by rw [L5,List.map_nil,List.append_nil]⟩
 |cons x k ih=>
  intro i v h
  rw [List.length_cons] at h
  obtain ⟨j,hj⟩:=ih (i+1) (v++ [(fun x=>x.Name) x]) (by simp only [List.length_append,List.length_cons,List.length_nil];omega)
  refine ⟨j,?_⟩
  rw [L5]
  have hM:=Bd
  simp only [List.length_cons,List.length_nil]
  repeat rw [ifp (by omega)]
  rw [hj,List.append_assoc];rfl
theorem A9t(L:Nat)(s:Aa)(o1 o2 o3:Nat×(Int×List ByteArray)):∀(k:List Au) (i:Nat) (v:List ByteArray),v.length+k.length≤1099511627776→∃j,L6 L s o1 o2 o3 k i v=some (0,(j,v++k.map (fun x=>x.Name))):=by
 intro k
 induction k with
 |nil=>intro i v _;exact ⟨_,by rw [L6,List.map_nil,List.append_nil]⟩
 |cons x k ih=>
  intro i v h
  rw [List.length_cons] at h
  obtain ⟨j,hj⟩:=ih (i+1) (v++ [(fun x=>x.Name) x]) (by simp only [List.length_append,List.length_cons,List.length_nil];omega)
  refine ⟨j,?_⟩
  rw [L6]
  have hM:=Bd
  simp only [List.length_cons,List.length_nil]
  repeat rw [ifp (by omega)]
  rw [hj,List.append_assoc];rfl
theorem A9u(L:Nat)(s:Aa)(o1 o2 o3 o4:Nat×(Int×List ByteArray)):∀(k:List Ak) (i:Nat) (v:List ByteArray),v.length+k.length≤1099511627776→∃j,L7 L s o1 o2 o3 o4 k i v=some (0,(j,v++k.map (fun x=>x.Name))):=by
 intro k
 induction k with
 |nil=>intro i v _;exact ⟨_,by rw [L7,List.map_nil,List.append_nil]⟩
 |cons x k ih=>
  intro i v h
  rw [List.length_cons] at h
  obtain ⟨j,hj⟩:=ih (i+1) (v++ [(fun x=>x.Name) x]) (by simp only [List.length_append,List.length_cons,List.length_nil];omega)
  refine ⟨j,?_⟩
  rw [L7]
  have hM:=Bd
  simp only [List.length_cons,List.length_nil]
  repeat rw [ifp (by omega)]
  rw [hj,List.append_assoc];rfl
def Jc(s:Aa):List (List ByteArray):= [s.Vars.map fun x=>x.Name,s.Resources.map fun x=>x.Name,s.Stores.map fun x=>x.Name,s.Belts.map fun x=>x.Name,s.Queues,s.Streams,s.Tallies,s.Levels,s.Counts,s.Routines.map fun x=>x.Name]
theorem Apz(L:Nat)(s:Aa)(h:Wu s 1099511627776)(hL:maxLen < L):Aam L s=some (Jc s):=by
 obtain ⟨h0,h1,h2,h3,h4,h5,h6,h7,h8,h9⟩:=h
 rw [Bd] at hL
 obtain ⟨j1,e1⟩:=A9q L s s.Vars 0 [] (by simpa using h0)
 obtain ⟨j2,e2⟩:=A9r L s (0,(j1,[]++s.Vars.map fun x=>x.Name)) s.Resources 0 [] (by simpa using h1)
 obtain ⟨j3,e3⟩:=A9s L s (0,(j1,[]++s.Vars.map fun x=>x.Name)) (0,(j2,[]++s.Resources.map fun x=>x.Name)) s.Stores 0 [] (by simpa using h2)
 obtain ⟨j4,e4⟩:=A9t L s (0,(j1,[]++s.Vars.map fun x=>x.Name)) (0,(j2,[]++s.Resources.map fun x=>x.Name)) (0,(j3,[]++s.Stores.map fun x=>x.Name)) s.Belts 0 [] (by simpa using h3)
 obtain ⟨j5,e5⟩:=A9u L s (0,(j1,[]++s.Vars.map fun x=>x.Name)) (0,(j2,[]++s.Resources.map fun x=>x.Name)) (0,(j3,[]++s.Stores.map fun x=>x.Name)) (0,(j4,[]++s.Belts.map fun x=>x.Name)) s.Routines 0 [] (by simpa using h9)
 simp only [A06,Acq,Adg,Acr,Adh,Acs,Adi,Acu,Adj,Xu,Aam,Acq,Adg,Acr,Adh,Acs,Adi,Acu,Adj,Xu,aN,aB,A2w L s L (by rw [Bd];omega) (by omega),e1,Option.bind_some,Hb,A2x L s _ L (by rw [Bd];omega) (by omega),e2,A2y L s _ _ L (by rw [Bd];omega) (by omega),e3,A2z L s _ _ _ L (by rw [Bd];omega) (by omega),e4,A20 L s _ _ _ _ L (by rw [Bd];omega) (by omega),e5]
 repeat rw [ifp (by omega)]
 rfl
theorem Bvi(l:List ByteArray)(s:ByteArray):decide (A8z l s≥0)=l.any (fun x=>decide (x=s)):=Alf _ _
theorem Aln(L:Nat)(s:Aa)(n:ByteArray)(h:Wu s 1099511627776)(hL:maxLen < L):Aab L s n=some (Hi s n):=by
 have hM:=Bd
 have hh:=h
 obtain ⟨h0,h1,h2,h3,h4,h5,h6,h7,h8,h9⟩:=hh
 have hn:=Apz L s h hL
 have hf:∀l:List ByteArray,l.length≤1099511627776→Mn L l n=some (A8z l n):=fun l hl=>Ahd L l n (by omega) (by omega)
 have e:∀ {α :Type} (l:List α) (f: α→ByteArray),l.length≤1099511627776→Mn L (l.map f) n=some (A8z (l.map f) n):=fun l f hl=>hf _ (by rw [List.length_map];exact hl)
 simp only [A5e,Agm,n7,Aab,Agm,n7,aN,aB,hn,Option.bind_some,A6s L n (Jc s) s L (by simp only [Jc,List.length_cons,List.length_nil];omega) (by simp only [Jc,List.length_cons,List.length_nil];omega)]
 simp only [Jc,Vv,e _ _ h0,e _ _ h1,e _ _ h2,e _ _ h3,hf _ h4,hf _ h5,hf _ h6,hf _ h7,hf _ h8,e _ _ h9,Option.bind_some,Bvi,List.any_map,List.length_cons,List.length_nil,Int.toNat_natCast]
 repeat rw [ifp (by omega)]
 simp only [Hi,Aml,D5,Option.bind_some,Function.comp_def]
 have e2:∀l:List ByteArray,(l.any fun x=>decide (x=n))=l.any fun x=>decide (n=x):=fun l=>by simp only [eq_comm]
 simp only [e2]
 cases s.Vars.any (fun x=>decide (x.Name=n)) with|true=>rfl|false=> ?_
 cases s.Resources.any (fun x=>decide (x.Name=n)) with|true=>rfl|false=> ?_
 cases s.Stores.any (fun x=>decide (x.Name=n)) with|true=>rfl|false=> ?_
 cases s.Belts.any (fun x=>decide (x.Name=n)) with|true=>rfl|false=> ?_
 cases s.Queues.any (fun x=>decide (n=x)) with|true=>rfl|false=> ?_
 cases s.Streams.any (fun x=>decide (n=x)) with|true=>rfl|false=> ?_
 cases s.Tallies.any (fun x=>decide (n=x)) with|true=>rfl|false=> ?_
 cases s.Levels.any (fun x=>decide (n=x)) with|true=>rfl|false=> ?_
 cases s.Counts.any (fun x=>decide (n=x)) with|true=>rfl|false=> ?_
 cases s.Routines.any (fun x=>decide (x.Name=n))<;>rfl
def Atu(l:List Ap)(s:ByteArray):Option Int:=(l.reverse.find? fun f=>decide (f.Name=s)).map (·.Type_)
def A0u(l:List Al)(s:ByteArray):Option Int:=(l.find? fun x=>decide (x.Name=s)).map (·.Type_)
def o2:Option Int→Int×Bool
 |some t=>(t,true)
 |none=>(0,false)
def A6e(v:Ar)(s:ByteArray):Option Int:=match Atu v.Locals s with
 |some t=>some t
 |none=>match A0u v.Site.Vars s with
  |some t=>some t
  |none=>A0u v.Params s
theorem A2n(L:Nat)(l:List Ap)(s:ByteArray)(hl:l.length≤maxLen):∀(j n:Nat),j≤l.length→j < n→
  ∃i,Jr L l s n 0 false ((j:Int) - 1)=some (match (l.take j).reverse.find? (fun f=>decide (f.Name=s)) with|some f=>(0,(f.Type_,true,i))|none=>(1,(0,false,i))):=by
 intro j
 induction j with
 |zero=>
  intro n _ hn
  obtain ⟨n,rfl⟩:∃k,n=k+1:=⟨n - 1,by omega⟩
  exact ⟨_,by simp only [Jr,Rt,aN];rfl⟩
 |succ j ih=>
  intro n hj hn
  obtain ⟨n,rfl⟩:∃k,n=k+1:=⟨n - 1,by omega⟩
  have hlt:j < l.length:=by omega
  have e0:((j+1:Nat):Int) - 1=(j:Int):=by omega
  have e1:decide ((j:Int)≥0)=true:=decide_eq_true (by omega)
  have et:(l.take (j+1)).reverse=l.getD j default::(l.take j).reverse:=by
   rw [List.take_succ_eq_append_getElem hlt,List.reverse_append,Gs l j hlt];rfl
  obtain ⟨i,hi⟩:=ih n (by omega) (by omega)
  rw [et]
  rw [List.find?_cons]
  cases hb:decide ((l.getD j default).Name=s) with
  |true=>exact ⟨(j:Int),by simp only [Jr,Rt,aN,Ea,e0,e1,nn,Ip hlt,toN,hb,cond_true,if_true,decide_true]⟩
  |false=>exact ⟨i,by simp only [Jr,Rt,aN,Ea,e0,e1,nn,Ip hlt,toN,hb,cond_true,cond_false,if_true,decide_true,Akk (show j≤maxLen by omega),hi]⟩
theorem Ah8(L:Nat)(l:List Ap)(s:ByteArray)(hl:l.length≤maxLen)(hL:l.length < L):Ou L l s=some (o2 (Atu l s)):=by
 obtain ⟨i,hi⟩:=A2n L l s hl l.length L (Nat.le_refl _) hL
 rw [List.take_length] at hi
 simp only [Art,Sa,Ou,Sa,aN,Akk hl,hi,Atu]
 cases l.reverse.find? (fun f=>decide (f.Name=s))<;>rfl
theorem Bdp(L:Nat)(l:List Ap)(s:ByteArray)(hl:l.length≤maxLen):∀(j n:Nat),j≤l.length→j < n→
  ∃i,Pv L l s n 0 false ((j:Int) - 1)=some (match (l.take j).reverse.find? (fun f=>decide (f.Name=s)) with|some f=>(0,(f.Type_,true,i))|none=>(1,(0,false,i))):=by
 intro j
 induction j with
 |zero=>
  intro n _ hn
  obtain ⟨n,rfl⟩:∃k,n=k+1:=⟨n - 1,by omega⟩
  exact ⟨_,by simp only [Pv,Xb,aN];rfl⟩
 |succ j ih=>
  intro n hj hn
  obtain ⟨n,rfl⟩:∃k,n=k+1:=⟨n - 1,by omega⟩
  have hlt:j < l.length:=by omega
  have e0:((j+1:Nat):Int) - 1=(j:Int):=by omega
  have e1:decide ((j:Int)≥0)=true:=decide_eq_true (by omega)
  have et:(l.take (j+1)).reverse=l.getD j default::(l.take j).reverse:=by
   rw [List.take_succ_eq_append_getElem hlt,List.reverse_append,Gs l j hlt];rfl
  obtain ⟨i,hi⟩:=ih n (by omega) (by omega)
  rw [et]
  rw [List.find?_cons]
  cases hb:decide ((l.getD j default).Name=s) with
  |true=>exact ⟨(j:Int),by simp only [Pv,Xb,aN,Ea,e0,e1,nn,Ip hlt,toN,hb,cond_true,if_true,decide_true]⟩
  |false=>exact ⟨i,by simp only [Pv,Xb,aN,Ea,e0,e1,nn,Ip hlt,toN,hb,cond_true,cond_false,if_true,decide_true,Akk (show j≤maxLen by omega),hi]⟩
theorem Ap1(L:Nat)(l:List Ap)(s:ByteArray)(hl:l.length≤maxLen)(hL:l.length < L):Aao L l s=some (o2 (Atu l s)):=by
 obtain ⟨i,hi⟩:=Bdp L l s hl l.length L (Nat.le_refl _) hL
 rw [List.take_length] at hi
 simp only [A09,Xy,Aao,Xy,aN,Akk hl,hi,Atu]
 cases l.reverse.find? (fun f=>decide (f.Name=s))<;>rfl
theorem A3p(L:Nat)(s:ByteArray)(v0:Ar):∀(k:List Al) (i:Nat) (v:Int) (w:Bool),∃j,Lc L s v0 k i v w=some (match k.find? (fun x=>decide (x.Name=s)) with|some x=>(0,(x.Type_,true,j))|none=>(1,(v,w,j))):=by
 intro k
 induction k with
 |nil=>intro i v w;exact ⟨i,rfl⟩
 |cons x k ih=>
  intro i v w
  obtain ⟨j,hj⟩:=ih (i+1) v w
  rw [Lc,List.find?_cons,Ea]
  cases decide (x.Name=s) with
  |true=>exact ⟨i,rfl⟩
  |false=>exact ⟨j,hj⟩
theorem A3q(L:Nat)(s:ByteArray)(v0:Ar):∀(k:List Al) (i:Nat) (v:Int) (w:Bool),∃j,Ld L s v0 k i v w=some (match k.find? (fun x=>decide (x.Name=s)) with|some x=>(0,(x.Type_,true,j))|none=>(1,(v,w,j))):=by
 intro k
 induction k with
 |nil=>intro i v w;exact ⟨i,rfl⟩
 |cons x k ih=>
  intro i v w
  obtain ⟨j,hj⟩:=ih (i+1) v w
  rw [Ld,List.find?_cons,Ea]
  cases decide (x.Name=s) with
  |true=>exact ⟨i,rfl⟩
  |false=>exact ⟨j,hj⟩
theorem A7j(L:Nat)(l:List Al)(s:ByteArray):∀(k:List Al) (i:Nat) (v:Int) (w:Bool),∃j,M5 L l s k i v w=some (match k.find? (fun x=>decide (x.Name=s)) with|some x=>(0,(x.Type_,true,j))|none=>(1,(v,w,j))):=by
 intro k
 induction k with
 |nil=>intro i v w;exact ⟨i,rfl⟩
 |cons x k ih=>
  intro i v w
  obtain ⟨j,hj⟩:=ih (i+1) v w
  rw [M5,List.find?_cons,Ea]
  cases decide (x.Name=s) with
  |true=>exact ⟨i,rfl⟩
  |false=>exact ⟨j,hj⟩
theorem A7f(L:Nat)(v:Ar)(s:ByteArray)(h:Ep v)(hL:maxLen < L):Afx L v s=some (o2 (A6e v s)):=by
 obtain ⟨⟨h1,_⟩,⟨h2,_⟩,h3⟩:=h
 have h4:=h3.len.1
 obtain ⟨j1,e1⟩:=A3p L s v v.Site.Vars 0 0 false
 obtain ⟨j2,e2⟩:=A3q L s v v.Params 0 0 false
 simp only [Auc,Z0,Zk,Z1,Ub,Afx,Z0,Zk,Z1,Ub,aN,aB,Ah8 L _ s h2 (by omega),Axu L s v L h4 (by omega),Axv L s v L h1 (by omega),e1,Option.bind_some,A6e,A0u]
 cases Atu v.Locals s with
 |some t=>rfl
 |none=>
  simp only [o2,cond_false]
  cases v.Site.Vars.find? (fun x=>decide (x.Name=s)) with
  |some t=>rfl
  |none=>
   simp only [Qo,e2,Option.bind_some,Option.map_none]
   cases v.Params.find? (fun x=>decide (x.Name=s))<;>rfl
theorem Ami(L:Nat)(l:List Al)(s:ByteArray)(hl:l.length≤maxLen)(hL:l.length < L):Um L l s=some (o2 (A0u l s)):=by
 obtain ⟨j1,e1⟩:=A7j L l s l 0 0 false
 simp only [Awj,Vb,Um,Vb,aN,aB,Azf L l s L hl hL,e1,Option.bind_some,A0u]
 cases l.find? (fun x=>decide (x.Name=s))<;>rfl
theorem Bh0(L:Nat)(v:Ar)(s:ByteArray)(h:Ep v)(hL:maxLen < L):Aou L v s=some (o2 (A6e v s)):=by
 obtain ⟨⟨h1,_⟩,⟨h2,_⟩,h3⟩:=h
 have h4:=h3.len.1
 simp only [Au6,Aou,aN,aB,Ap1 L _ s h2 (by omega),Ami L _ s h4 (by omega),Ami L _ s h1 (by omega),Option.bind_some,A6e]
 cases Atu v.Locals s with
 |some t=>rfl
 |none=>
  cases A0u v.Site.Vars s with
  |some t=>rfl
  |none=>cases A0u v.Params s<;>rfl
def Axx(t:Int):Bool:=t == 1 || t == 3
def unT(op a:Int):Int:=if (op=5∧Axx a=true)∨(op=6∧a=2) then a else if op=7∧a=1 then 3 else if op=8∧a=3 then 1 else 0
def Bjj(op a b:Int):Int:=
 if op=9∨op=10∨op=13∨op=20∨op=21 then (if a=b∧Axx a=true then a else 0)
 else if op=11 then (if a=1∧b=1 then 1 else if Axx a=true∧Axx b=true∧a≠b then 3 else 0)
 else if op=12 then (if (a=1∧b=1)∨(a=3∧b=3) then 1 else if a=3∧b=1 then 3 else 0)
 else if op=14∨op=15 then (if a=b then 2 else 0)
 else if op=16∨op=17 then (if a=b∧Axx a=true then 2 else 0)
 else if op=18∨op=19 then (if a=2∧b=2 then 2 else 0)
 else 0
def Bxw(op:Int)(k:ByteArray):Bool:=if op=22 then decide (k=H4) else if op=23 then decide (k=I2) else decide (k=H4) || decide (k=Tl)
theorem Ake(L:Nat)(t:Int):H2 L t=some (Axx t):=by
 simp only [Abf,H2,aN,aB,Kn,Axx]
theorem Ah6(L:Nat)(t:Int):Jh L t=some (Axx t):=by
 simp only [Ajp,Jh,aN,aB,Kn,Axx]
theorem A3g(L:Nat)(op a:Int):Aa7 L op a=some (unT op a):=by
 simp only [Aju,Aa7,aN,aB,Ake,Option.bind_some,D5,D3,Kn,unT]
 congr 1
 by_cases h5:op=5
 ·subst h5;cases Axx a<;>simp
 by_cases h6:op=6
 ·subst h6;by_cases h:a=2<;>first|(simp [h];done)|(simp [h,beq_false_of_ne h];done)
 by_cases h7:op=7
 ·subst h7;by_cases h:a=1<;>first|(simp [h];done)|(simp [h,beq_false_of_ne h];done)
 by_cases h8:op=8
 ·subst h8;by_cases h:a=3<;>first|(simp [h];done)|(simp [h,beq_false_of_ne h];done)
 have b5:(op == 5)=false:=beq_false_of_ne h5
 have b6:(op == 6)=false:=beq_false_of_ne h6
 have b7:(op == 7)=false:=beq_false_of_ne h7
 have b8:(op == 8)=false:=beq_false_of_ne h8
 simp [h5,h6,h7,h8,b5,b6,b7,b8]
theorem Beb(L:Nat)(op a:Int):Ak3 L op a=some (unT op a):=by
 simp only [Arn,Ak3,aN,aB,Ah6,Option.bind_some,D5,D3,Kn,unT]
 congr 1
 by_cases h5:op=5
 ·subst h5;cases Axx a<;>simp
 by_cases h6:op=6
 ·subst h6;by_cases h:a=2<;>first|(simp [h];done)|(simp [h,beq_false_of_ne h];done)
 by_cases h7:op=7
 ·subst h7;by_cases h:a=1<;>first|(simp [h];done)|(simp [h,beq_false_of_ne h];done)
 by_cases h8:op=8
 ·subst h8;by_cases h:a=3<;>first|(simp [h];done)|(simp [h,beq_false_of_ne h];done)
 have b5:(op == 5)=false:=beq_false_of_ne h5
 have b6:(op == 6)=false:=beq_false_of_ne h6
 have b7:(op == 7)=false:=beq_false_of_ne h7
 have b8:(op == 8)=false:=beq_false_of_ne h8
 simp [h5,h6,h7,h8,b5,b6,b7,b8]
theorem Az7(L:Nat)(op a b:Int):t5 L op a b=some (Bjj op a b):=by
 simp only [U1,U2,sx_typing_binary_4,Aak,sx_typing_binary_3,Aaj,sx_typing_binary_1,Aai,sx_typing_binary_0,Aqd,t5,aN,aB,Ake,Option.bind_some,D5,D3,Kn,Bjj,Axx]
 congr 1
 rcases A4i op with rfl|rfl|rfl|rfl|rfl|rfl|rfl|rfl|rfl|rfl|rfl|rfl|rfl|rfl|rfl|rfl|rfl|rfl|rfl|rfl|rfl|rfl|rfl|rfl|rfl|rfl|hop|hop
 all_goals first|(simp;done)|(simp;grind)|grind
theorem A87(L:Nat)(op a b:Int):Aik L op a b=some (Bjj op a b):=by
 simp only [y6,sx_R14_binary_3,Aid,sx_R14_binary_2,Aic,sx_R14_binary_1,Aib,sx_R14_binary_0,Awi,Aik,aN,aB,Ah6,Option.bind_some,D5,D3,Kn,Bjj,Axx]
 congr 1
 rcases A4i op with rfl|rfl|rfl|rfl|rfl|rfl|rfl|rfl|rfl|rfl|rfl|rfl|rfl|rfl|rfl|rfl|rfl|rfl|rfl|rfl|rfl|rfl|rfl|rfl|rfl|rfl|hop|hop
 all_goals first|(simp;done)|(simp;grind)|grind
theorem Az8(L:Nat)(op:Int)(k:ByteArray):t6 L op k=some (Bxw op k):=by
 simp only [Ahp,t6,aN,aB,Ea,Kn,D5,Bxw,H4,I2,Tl]
 congr 1
 by_cases h:op=22
 ·subst h;rfl
 by_cases h':op=23
 ·subst h';rfl
 have b:(op == 22)=false:=beq_false_of_ne h
 have b':(op == 23)=false:=beq_false_of_ne h'
 simp only [h,h',b,b',cond_false,if_false]
 rfl
end Go.Proofs.YtfencmicmnhglaaGreat.Ev
