/-  Chapter 11, plainly: the kind of a name. -/
import Derived.Test.YtofcpkmnhmnfcaaGreatRQA
import Derived.Test.YtofcpkmnhmnfcaaGreatRPB
import Derived.Test.YtofcpkmnhmnfcaaGreatRR0
namespace Go.Proofs.YtofcpkmnhmnfcaaGreatR.Ev
open Go An
set_option maxRecDepth 100000
set_option linter.unusedVariables false
set_option linter.unusedSimpArgs false
set_option linter.unnecessarySimpa false
def Bxq:ByteArray:=⟨#[118,97,114]⟩
def H8:ByteArray:=⟨#[114,101,115,111,117,114,99,101]⟩
def Ja:ByteArray:=⟨#[115,116,111,114,101]⟩
def Arp:ByteArray:=⟨#[98,101,108,116]⟩
def Uw:ByteArray:=⟨#[113,117,101,117,101]⟩
def Aqb:ByteArray:=⟨#[115,116,114,101,97,109]⟩
def Ajd:ByteArray:=⟨#[116,97,108,108,121]⟩
def Amj:ByteArray:=⟨#[108,101,118,101,108]⟩
def Uv:ByteArray:=⟨#[99,111,117,110,116]⟩
def Y8:ByteArray:=⟨#[114,111,117,116,105,110,101]⟩
theorem A4z(L:Nat)(l:List Ag)(s:Aa)(n:ByteArray):∀(k:List Ag) (i:Nat) (v:Int),Ls L l s n k i v=some (match k.findIdx? (fun x=>x.Name.toList == n.toList) with|some j=>(0,(((i+j:Nat):Int),((i+j:Nat):Int)))|none=>(1,(v,((i+k.length:Nat):Int)))):=by
 intro k
 induction k with
 |nil=>intro i v;rfl
 |cons x k ih=>
  intro i v
  rw [Ls,ih,List.findIdx?_cons]
  cases hc:(fun x=>x.Name.toList == n.toList) x with
  |true=>simp only [hc,cond_true,if_true];rfl
  |false=>
   simp only [hc,cond_false,if_false,Bool.false_eq_true]
   cases k.findIdx? (fun x=>x.Name.toList == n.toList) with
   |some j=>simp [Nat.add_assoc,Nat.add_comm 1]
   |none=>simp [Nat.add_assoc,Nat.add_comm 1]
theorem Avp(L:Nat)(l:List Ag)(s:Aa)(n:ByteArray)(hl:l.length≤maxLen)(hL:l.length < L):g6 L l s n=some (N7 (l.findIdx? (fun x=>decide (x.Name=n)))):=by
 simp only [g6,Apu,t8,aN,aB,Azg _ _ _ _ _ hl hL,A4z,D0,Option.bind_some]
 cases l.findIdx? (fun x=>decide (x.Name=n)) with
 |none=>rfl
 |some i=>simp [N7,Gm]
theorem A40(L:Nat)(l:List Ah)(s:Aa)(n:ByteArray):∀(k:List Ah) (i:Nat) (v:Int),Lt L l s n k i v=some (match k.findIdx? (fun x=>x.Name.toList == n.toList) with|some j=>(0,(((i+j:Nat):Int),((i+j:Nat):Int)))|none=>(1,(v,((i+k.length:Nat):Int)))):=by
 intro k
 induction k with
 |nil=>intro i v;rfl
 |cons x k ih=>
  intro i v
  rw [Lt,ih,List.findIdx?_cons]
  cases hc:(fun x=>x.Name.toList == n.toList) x with
  |true=>simp only [hc,cond_true,if_true];rfl
  |false=>
   simp only [hc,cond_false,if_false,Bool.false_eq_true]
   cases k.findIdx? (fun x=>x.Name.toList == n.toList) with
   |some j=>simp [Nat.add_assoc,Nat.add_comm 1]
   |none=>simp [Nat.add_assoc,Nat.add_comm 1]
theorem Avq(L:Nat)(l:List Ah)(s:Aa)(n:ByteArray)(hl:l.length≤maxLen)(hL:l.length < L):g7 L l s n=some (N7 (l.findIdx? (fun x=>decide (x.Name=n)))):=by
 simp only [g7,Apv,u5,aN,aB,Azh _ _ _ _ _ hl hL,A40,D0,Option.bind_some]
 cases l.findIdx? (fun x=>decide (x.Name=n)) with
 |none=>rfl
 |some i=>simp [N7,Gm]
theorem A41(L:Nat)(l:List Ar)(s:Aa)(n:ByteArray):∀(k:List Ar) (i:Nat) (v:Int),Lu L l s n k i v=some (match k.findIdx? (fun x=>x.Name.toList == n.toList) with|some j=>(0,(((i+j:Nat):Int),((i+j:Nat):Int)))|none=>(1,(v,((i+k.length:Nat):Int)))):=by
 intro k
 induction k with
 |nil=>intro i v;rfl
 |cons x k ih=>
  intro i v
  rw [Lu,ih,List.findIdx?_cons]
  cases hc:(fun x=>x.Name.toList == n.toList) x with
  |true=>simp only [hc,cond_true,if_true];rfl
  |false=>
   simp only [hc,cond_false,if_false,Bool.false_eq_true]
   cases k.findIdx? (fun x=>x.Name.toList == n.toList) with
   |some j=>simp [Nat.add_assoc,Nat.add_comm 1]
   |none=>simp [Nat.add_assoc,Nat.add_comm 1]
theorem Avr(L:Nat)(l:List Ar)(s:Aa)(n:ByteArray)(hl:l.length≤maxLen)(hL:l.length < L):g8 L l s n=some (N7 (l.findIdx? (fun x=>decide (x.Name=n)))):=by
 simp only [g8,Apw,u7,aN,aB,Azi _ _ _ _ _ hl hL,A41,D0,Option.bind_some]
 cases l.findIdx? (fun x=>decide (x.Name=n)) with
 |none=>rfl
 |some i=>simp [N7,Gm]
theorem A42(L:Nat)(l:List Ax)(s:Aa)(n:ByteArray):∀(k:List Ax) (i:Nat) (v:Int),Lv L l s n k i v=some (match k.findIdx? (fun x=>x.Name.toList == n.toList) with|some j=>(0,(((i+j:Nat):Int),((i+j:Nat):Int)))|none=>(1,(v,((i+k.length:Nat):Int)))):=by
 intro k
 induction k with
 |nil=>intro i v;rfl
 |cons x k ih=>
  intro i v
  rw [Lv,ih,List.findIdx?_cons]
  cases hc:(fun x=>x.Name.toList == n.toList) x with
  |true=>simp only [hc,cond_true,if_true];rfl
  |false=>
   simp only [hc,cond_false,if_false,Bool.false_eq_true]
   cases k.findIdx? (fun x=>x.Name.toList == n.toList) with
   |some j=>simp [Nat.add_assoc,Nat.add_comm 1]
   |none=>simp [Nat.add_assoc,Nat.add_comm 1]
theorem Avs(L:Nat)(l:List Ax)(s:Aa)(n:ByteArray)(hl:l.length≤maxLen)(hL:l.length < L):i8 L l s n=some (N7 (l.findIdx? (fun x=>decide (x.Name=n)))):=by
 simp only [i8,Apx,X3,aN,aB,Azj _ _ _ _ _ hl hL,A42,D0,Option.bind_some]
 cases l.findIdx? (fun x=>decide (x.Name=n)) with
 |none=>rfl
 |some i=>simp [N7,Gm]
theorem Az3(L:Nat)(l:List Am)(s:Aa)(n:ByteArray):∀(k:List Am) (i:Nat) (v:Int),I7 L l s n k i v=some (match k.findIdx? (fun x=>x.Name.toList == n.toList) with|some j=>(0,(((i+j:Nat):Int),((i+j:Nat):Int)))|none=>(1,(v,((i+k.length:Nat):Int)))):=by
 intro k
 induction k with
 |nil=>intro i v;rfl
 |cons x k ih=>
  intro i v
  rw [I7,ih,List.findIdx?_cons]
  cases hc:(fun x=>x.Name.toList == n.toList) x with
  |true=>simp only [hc,cond_true,if_true];rfl
  |false=>
   simp only [hc,cond_false,if_false,Bool.false_eq_true]
   cases k.findIdx? (fun x=>x.Name.toList == n.toList) with
   |some j=>simp [Nat.add_assoc,Nat.add_comm 1]
   |none=>simp [Nat.add_assoc,Nat.add_comm 1]
theorem Asx(L:Nat)(l:List Am)(s:Aa)(n:ByteArray)(hl:l.length≤maxLen)(hL:l.length < L):Vy L l s n=some (N7 (l.findIdx? (fun x=>decide (x.Name=n)))):=by
 simp only [Vy,Amg,V4,aN,aB,Avm _ _ _ _ _ hl hL,Az3,D0,Option.bind_some]
 cases l.findIdx? (fun x=>decide (x.Name=n)) with
 |none=>rfl
 |some i=>simp [N7,Gm]
theorem Aqc(L:Nat)(l:List ByteArray)(n:ByteArray):∀(k:List ByteArray) (i:Nat) (v:Int),Ep L l n k i v=some (match k.findIdx? (fun x=>n.toList == x.toList) with|some j=>(0,(((i+j:Nat):Int),((i+j:Nat):Int)))|none=>(1,(v,((i+k.length:Nat):Int)))):=by
 intro k
 induction k with
 |nil=>intro i v;rfl
 |cons x k ih=>
  intro i v
  rw [Ep,ih,List.findIdx?_cons]
  cases hc:(fun x=>n.toList == x.toList) x with
  |true=>simp only [hc,cond_true,if_true];rfl
  |false=>
   simp only [hc,cond_false,if_false,Bool.false_eq_true]
   cases k.findIdx? (fun x=>n.toList == x.toList) with
   |some j=>simp [Nat.add_assoc,Nat.add_comm 1]
   |none=>simp [Nat.add_assoc,Nat.add_comm 1]
theorem Ht(L:Nat)(l:List ByteArray)(n:ByteArray)(hl:l.length≤maxLen)(hL:l.length < L):D1 L l n=some (N7 (l.findIdx? (fun x=>decide (n=x)))):=by
 simp only [D1,Afu,L8,aN,aB,Am3 _ _ _ _ hl hL,Aqc,D0,Option.bind_some]
 cases l.findIdx? (fun x=>decide (n=x)) with
 |none=>rfl
 |some i=>simp [N7,Gm]
def U2(s:Aa)(n:ByteArray):Int:=N7 (s.Routines.findIdx? fun x=>decide (x.Name=n))
theorem U0(L:Nat)(s:Aa)(n:ByteArray)(hl:s.Routines.length≤maxLen)(hL:s.Routines.length < L):Gi L s n=some (U2 s n):=by
 simp only [Asb,Rb,Gi,Rb,aN,aB,Asx L _ s n hl hL,Option.bind_some,U2]
def Aou(s:Aa)(n:ByteArray):ByteArray×Int:=
 bif s.Vars.any (fun x=>decide (x.Name=n)) then (Bxq,N7 (s.Vars.findIdx? fun x=>decide (x.Name=n)))
 else bif s.Resources.any (fun x=>decide (x.Name=n)) then (H8,N7 (s.Resources.findIdx? fun x=>decide (x.Name=n)))
 else bif s.Stores.any (fun x=>decide (x.Name=n)) then (Ja,N7 (s.Stores.findIdx? fun x=>decide (x.Name=n)))
 else bif s.Belts.any (fun x=>decide (x.Name=n)) then (Arp,N7 (s.Belts.findIdx? fun x=>decide (x.Name=n)))
 else bif s.Queues.any (fun x=>decide (n=x)) then (Uw,N7 (s.Queues.findIdx? fun x=>decide (n=x)))
 else bif s.Streams.any (fun x=>decide (n=x)) then (Aqb,N7 (s.Streams.findIdx? fun x=>decide (n=x)))
 else bif s.Tallies.any (fun x=>decide (n=x)) then (Ajd,N7 (s.Tallies.findIdx? fun x=>decide (n=x)))
 else bif s.Levels.any (fun x=>decide (n=x)) then (Amj,N7 (s.Levels.findIdx? fun x=>decide (n=x)))
 else bif s.Counts.any (fun x=>decide (n=x)) then (Uv,N7 (s.Counts.findIdx? fun x=>decide (n=x)))
 else bif s.Routines.any (fun x=>decide (x.Name=n)) then (Y8,U2 s n)
 else (⟨#[]⟩,-1)
def Hf(s:Aa)(n:ByteArray):ByteArray:=(Aou s n).1
def Ys(s:Aa)(m:Nat):Prop:=s.Vars.length≤m∧s.Resources.length≤m∧s.Stores.length≤m∧s.Belts.length≤m∧s.Queues.length≤m∧s.Streams.length≤m∧s.Tallies.length≤m∧s.Levels.length≤m∧s.Counts.length≤m∧s.Routines.length≤m
theorem B6.len{s:Aa}(h:B6 s):Ys s maxLen:=by
 unfold B6 at h
 unfold Ys
 simp only [h,and_self]
theorem A8q(L:Nat)(s:Aa)(n:ByteArray)(h:Ys s maxLen)(hL:maxLen < L):Ahw L s n=some (Aou s n):=by
 obtain ⟨h0,h1,h2,h3,h4,h5,h6,h7,h8,h9⟩:=h
 have hR:decide (U2 s n≥0)=s.Routines.any (fun x=>decide (x.Name=n)):=Anp _ _
 simp only [Av1,u4,y5,u6,y6,u9,Yl,S6,Ahw,u4,y5,u6,y6,u9,Yl,S6,aN,aB,Avp L _ s n h0 (by omega),Avq L _ s n h1 (by omega),Avr L _ s n h2 (by omega),Avs L _ s n h3 (by omega),
  Ht L _ n h4 (by omega),Ht L _ n h5 (by omega),Ht L _ n h6 (by omega),Ht L _ n h7 (by omega),Ht L _ n h8 (by omega),U0 L s n h9 (by omega),
  Option.bind_some,Dt,Anp,hR,Aou]
 simp only [Bxq,H8,Ja,Arp,Uw,Aqb,Ajd,Amj,Uv,Y8]
theorem Awd(L:Nat)(s:Aa)(n:ByteArray)(h:Ys s maxLen)(hL:maxLen < L):Ac8 L s n=some (Hf s n):=by
 simp only [Arb,Ac8,aN,aB,A8q L s n h hL,Option.bind_some,Hf]
theorem Bar(L:Nat)(s:Aa):∀(k:List Ag) (i:Nat) (v:List ByteArray),v.length+k.length≤1099511627776→∃j,Mo L s k i v=some (0,(j,v++k.map (fun x=>x.Name))):=by
 intro k
 induction k with
 |nil=>intro i v _;exact ⟨_,by rw [Mo,List.map_nil,List.append_nil]⟩
 |cons x k ih=>
  intro i v h
  rw [List.length_cons] at h
  obtain ⟨j,hj⟩:=ih (i+1) (v++ [(fun x=>x.Name) x]) (by simp only [List.length_append,List.length_cons,List.length_nil];omega)
  refine ⟨j,?_⟩
  rw [Mo]
  have hM:=Bb
  simp only [List.length_cons,List.length_nil]
  repeat rw [ifp (by omega)]
  rw [hj,List.append_assoc];rfl
theorem Bas(L:Nat)(s:Aa)(o1:Nat×(Int×List ByteArray)):∀(k:List Ah) (i:Nat) (v:List ByteArray),v.length+k.length≤1099511627776→∃j,Mp L s o1 k i v=some (0,(j,v++k.map (fun x=>x.Name))):=by
 intro k
 induction k with
 |nil=>intro i v _;exact ⟨_,by rw [Mp,List.map_nil,List.append_nil]⟩
 |cons x k ih=>
  intro i v h
  rw [List.length_cons] at h
  obtain ⟨j,hj⟩:=ih (i+1) (v++ [(fun x=>x.Name) x]) (by simp only [List.length_append,List.length_cons,List.length_nil];omega)
  refine ⟨j,?_⟩
  rw [Mp]
  have hM:=Bb
  simp only [List.length_cons,List.length_nil]
  repeat rw [ifp (by omega)]
  rw [hj,List.append_assoc];rfl
theorem Bat(L:Nat)(s:Aa)(o1 o2:Nat×(Int×List ByteArray)):∀(k:List Ar) (i:Nat) (v:List ByteArray),v.length+k.length≤1099511627776→∃j,Mq L s o1 o2 k i v=some (0,(j,v++k.map (fun x=>x.Name))):=by
 intro k
 induction k with
 |nil=>intro i v _;exact ⟨_,by rw [Mq,List.map_nil,List.append_nil]⟩
 |cons x k ih=>
  intro i v h
  rw [List.length_cons] at h
  obtain ⟨j,hj⟩:=ih (i+1) (v++ [(fun x=>x.Name) x]) (by simp only [List.length_append,List.length_cons,List.length_nil];omega)
  refine ⟨j,?_⟩
  rw [Mq]
  have hM:=Bb
  simp only [List.length_cons,List.length_nil]
  repeat rw [ifp (by omega)]
  rw [hj,List.append_assoc];rfl
theorem Bau(L:Nat)(s:Aa)(o1 o2 o3:Nat×(Int×List ByteArray)):∀(k:List Ax) (i:Nat) (v:List ByteArray),v.length+k.length≤1099511627776→∃j,Mr L s o1 o2 o3 k i v=some (0,(j,v++k.map (fun x=>x.Name))):=by
 intro k
 induction k with
 |nil=>intro i v _;exact ⟨_,by rw [Mr,List.map_nil,List.append_nil]⟩
 |cons x k ih=>
  intro i v h
  rw [List.length_cons] at h
  obtain ⟨j,hj⟩:=ih (i+1) (v++ [(fun x=>x.Name) x]) (by simp only [List.length_append,List.length_cons,List.length_nil];omega)
  refine ⟨j,?_⟩
  rw [Mr]
  have hM:=Bb
  simp only [List.length_cons,List.length_nil]
  repeat rw [ifp (by omega)]
  rw [hj,List.append_assoc];rfl
theorem Bav(L:Nat)(s:Aa)(o1 o2 o3 o4:Nat×(Int×List ByteArray)):∀(k:List Am) (i:Nat) (v:List ByteArray),v.length+k.length≤1099511627776→∃j,Ms L s o1 o2 o3 o4 k i v=some (0,(j,v++k.map (fun x=>x.Name))):=by
 intro k
 induction k with
 |nil=>intro i v _;exact ⟨_,by rw [Ms,List.map_nil,List.append_nil]⟩
 |cons x k ih=>
  intro i v h
  rw [List.length_cons] at h
  obtain ⟨j,hj⟩:=ih (i+1) (v++ [(fun x=>x.Name) x]) (by simp only [List.length_append,List.length_cons,List.length_nil];omega)
  refine ⟨j,?_⟩
  rw [Ms]
  have hM:=Bb
  simp only [List.length_cons,List.length_nil]
  repeat rw [ifp (by omega)]
  rw [hj,List.append_assoc];rfl
def Ji(s:Aa):List (List ByteArray):= [s.Vars.map fun x=>x.Name,s.Resources.map fun x=>x.Name,s.Stores.map fun x=>x.Name,s.Belts.map fun x=>x.Name,s.Queues,s.Streams,s.Tallies,s.Levels,s.Counts,s.Routines.map fun x=>x.Name]
theorem Arw(L:Nat)(s:Aa)(h:Ys s 1099511627776)(hL:maxLen < L):Ack L s=some (Ji s):=by
 obtain ⟨h0,h1,h2,h3,h4,h5,h6,h7,h8,h9⟩:=h
 rw [Bb] at hL
 obtain ⟨j1,e1⟩:=Bar L s s.Vars 0 [] (by simpa using h0)
 obtain ⟨j2,e2⟩:=Bas L s (0,(j1,[]++s.Vars.map fun x=>x.Name)) s.Resources 0 [] (by simpa using h1)
 obtain ⟨j3,e3⟩:=Bat L s (0,(j1,[]++s.Vars.map fun x=>x.Name)) (0,(j2,[]++s.Resources.map fun x=>x.Name)) s.Stores 0 [] (by simpa using h2)
 obtain ⟨j4,e4⟩:=Bau L s (0,(j1,[]++s.Vars.map fun x=>x.Name)) (0,(j2,[]++s.Resources.map fun x=>x.Name)) (0,(j3,[]++s.Stores.map fun x=>x.Name)) s.Belts 0 [] (by simpa using h3)
 obtain ⟨j5,e5⟩:=Bav L s (0,(j1,[]++s.Vars.map fun x=>x.Name)) (0,(j2,[]++s.Resources.map fun x=>x.Name)) (0,(j3,[]++s.Stores.map fun x=>x.Name)) (0,(j4,[]++s.Belts.map fun x=>x.Name)) s.Routines 0 [] (by simpa using h9)
 simp only [A2u,Aer,Afc,Aes,Afd,Aet,Afe,Aeu,Aff,Zu,Ack,Aer,Afc,Aes,Afd,Aet,Afe,Aeu,Aff,Zu,aN,aB,A4b L s L (by rw [Bb];omega) (by omega),e1,Option.bind_some,Gm,A4c L s _ L (by rw [Bb];omega) (by omega),e2,A4d L s _ _ L (by rw [Bb];omega) (by omega),e3,A4e L s _ _ _ L (by rw [Bb];omega) (by omega),e4,A4f L s _ _ _ _ L (by rw [Bb];omega) (by omega),e5]
 repeat rw [ifp (by omega)]
 rfl
theorem Bu4(l:List ByteArray)(s:ByteArray):decide (A92 l s≥0)=l.any (fun x=>decide (x=s)):=Anp _ _
theorem Anx(L:Nat)(s:Aa)(n:ByteArray)(h:Ys s 1099511627776)(hL:maxLen < L):Ab9 L s n=some (Hf s n):=by
 have hM:=Bb
 have hh:=h
 obtain ⟨h0,h1,h2,h3,h4,h5,h6,h7,h8,h9⟩:=hh
 have hn:=Arw L s h hL
 have hf:∀l:List ByteArray,l.length≤1099511627776→Nc L l n=some (A92 l n):=fun l hl=>Aji L l n (by omega) (by omega)
 have e:∀ {α :Type} (l:List α) (f: α→ByteArray),l.length≤1099511627776→Nc L (l.map f) n=some (A92 (l.map f) n):=fun l f hl=>hf _ (by rw [List.length_map];exact hl)
 simp only [A6v,Ais,Aa0,Ab9,Ais,Aa0,aN,aB,hn,Option.bind_some,A76 L n (Ji s) s L (by simp only [Ji,List.length_cons,List.length_nil];omega) (by simp only [Ji,List.length_cons,List.length_nil];omega)]
 simp only [Ji,W7,e _ _ h0,e _ _ h1,e _ _ h2,e _ _ h3,hf _ h4,hf _ h5,hf _ h6,hf _ h7,hf _ h8,e _ _ h9,Option.bind_some,Bu4,List.any_map,List.length_cons,List.length_nil,Int.toNat_natCast]
 repeat rw [ifp (by omega)]
 simp only [Hf,Aou,Dt,Option.bind_some,Function.comp_def]
 have e2:∀l:List ByteArray,(l.any fun x=>decide (x=n))=l.any fun x=>decide (n=x):=fun l=>by simp only [eq_comm]
 simp only [e2]
 cases s.Vars.any (fun x=>decide (x.Name=n)) with|true=>rfl|false=> ?_
 cases s.Resources.any (fun x=>decide (x.Name=n)) with|true=>rfl|false=> ?_
 cases s.Stores.any (fun x=>decide (x.Name=n)) with|true=>rfl|false=> ?_
 cases s.Belts.any (fun x=>decide (x.Name=n)) with|true=>rfl|false=> ?_
 cases s.Queues.any (fun x=>decide (n=x)) with|true=>rfl|false=> ?_
 cases s.Streams.any (fun x=>decide (n=x)) with|true=>rfl|false=> ?_
 cases s.Tallies.any (fun x=>decide (n=x)) with|true=>rfl|false=> ?_
 cases s.Levels.any (fun x=>decide (n=x)) with|true=>rfl|false=> ?_
 cases s.Counts.any (fun x=>decide (n=x)) with|true=>rfl|false=> ?_
 cases s.Routines.any (fun x=>decide (x.Name=n))<;>rfl
def Avi(l:List Ap)(s:ByteArray):Option Int:=(l.reverse.find? fun f=>decide (f.Name=s)).map (·.Type_)
def Ba9(l:List Ag)(s:ByteArray):Option Int:=(l.find? fun x=>decide (x.Name=s)).map (·.Type_)
def o2:Option Int→Int×Bool
 |some t=>(t,true)
 |none=>(0,false)
def A7o(v:Aq)(s:ByteArray):Option Int:=match Avi v.Locals s with
 |some t=>some t
 |none=>match Ba9 v.Site.Vars s with
  |some t=>some t
  |none=>Ba9 v.Params s
theorem A33(L:Nat)(l:List Ap)(s:ByteArray)(hl:l.length≤maxLen):∀(j n:Nat),j≤l.length→j < n→
  ∃i,J3 L l s n 0 false ((j:Int) - 1)=some (match (l.take j).reverse.find? (fun f=>decide (f.Name=s)) with|some f=>(0,(f.Type_,true,i))|none=>(1,(0,false,i))):=by
 intro j
 induction j with
 |zero=>
  intro n _ hn
  obtain ⟨n,rfl⟩:∃k,n=k+1:=⟨n - 1,by omega⟩
  exact ⟨_,by simp only [J3,Sw,aN];rfl⟩
 |succ j ih=>
  intro n hj hn
  obtain ⟨n,rfl⟩:∃k,n=k+1:=⟨n - 1,by omega⟩
  have hlt:j < l.length:=by omega
  have e0:((j+1:Nat):Int) - 1=(j:Int):=by omega
  have e1:decide ((j:Int)≥0)=true:=decide_eq_true (by omega)
  have et:(l.take (j+1)).reverse=l.getD j default::(l.take j).reverse:=by
   rw [List.take_succ_eq_append_getElem hlt,List.reverse_append,Hb l j hlt];rfl
  obtain ⟨i,hi⟩:=ih n (by omega) (by omega)
  rw [et]
  rw [List.find?_cons]
  cases hb:decide ((l.getD j default).Name=s) with
  |true=>exact ⟨(j:Int),by simp only [J3,Sw,aN,D0,e0,e1,nn,Hp hlt,Z8,hb,cond_true,if_true,decide_true]⟩
  |false=>exact ⟨i,by simp only [J3,Sw,aN,D0,e0,e1,nn,Hp hlt,Z8,hb,cond_true,cond_false,if_true,decide_true,Au4 (show j≤maxLen by omega),hi]⟩
theorem Akl(L:Nat)(l:List Ap)(s:ByteArray)(hl:l.length≤maxLen)(hL:l.length < L):P6 L l s=some (o2 (Avi l s)):=by
 obtain ⟨i,hi⟩:=A33 L l s hl l.length L (Nat.le_refl _) hL
 rw [List.take_length] at hi
 simp only [At2,Tb,P6,Tb,aN,Au4 hl,hi,Avi]
 cases l.reverse.find? (fun f=>decide (f.Name=s))<;>rfl
theorem Bdw(L:Nat)(l:List Ap)(s:ByteArray)(hl:l.length≤maxLen):∀(j n:Nat),j≤l.length→j < n→
  ∃i,Qm L l s n 0 false ((j:Int) - 1)=some (match (l.take j).reverse.find? (fun f=>decide (f.Name=s)) with|some f=>(0,(f.Type_,true,i))|none=>(1,(0,false,i))):=by
 intro j
 induction j with
 |zero=>
  intro n _ hn
  obtain ⟨n,rfl⟩:∃k,n=k+1:=⟨n - 1,by omega⟩
  exact ⟨_,by simp only [Qm,Zb,aN];rfl⟩
 |succ j ih=>
  intro n hj hn
  obtain ⟨n,rfl⟩:∃k,n=k+1:=⟨n - 1,by omega⟩
  have hlt:j < l.length:=by omega
  have e0:((j+1:Nat):Int) - 1=(j:Int):=by omega
  have e1:decide ((j:Int)≥0)=true:=decide_eq_true (by omega)
  have et:(l.take (j+1)).reverse=l.getD j default::(l.take j).reverse:=by
   rw [List.take_succ_eq_append_getElem hlt,List.reverse_append,Hb l j hlt];rfl
  obtain ⟨i,hi⟩:=ih n (by omega) (by omega)
  rw [et]
  rw [List.find?_cons]
  cases hb:decide ((l.getD j default).Name=s) with
  |true=>exact ⟨(j:Int),by simp only [Qm,Zb,aN,D0,e0,e1,nn,Hp hlt,Z8,hb,cond_true,if_true,decide_true]⟩
  |false=>exact ⟨i,by simp only [Qm,Zb,aN,D0,e0,e1,nn,Hp hlt,Z8,hb,cond_true,cond_false,if_true,decide_true,Au4 (show j≤maxLen by omega),hi]⟩
theorem Ary(L:Nat)(l:List Ap)(s:ByteArray)(hl:l.length≤maxLen)(hL:l.length < L):Acm L l s=some (o2 (Avi l s)):=by
 obtain ⟨i,hi⟩:=Bdw L l s hl l.length L (Nat.le_refl _) hL
 rw [List.take_length] at hi
 simp only [A2x,Zy,Acm,Zy,aN,Au4 hl,hi,Avi]
 cases l.reverse.find? (fun f=>decide (f.Name=s))<;>rfl
theorem A44(L:Nat)(s:ByteArray)(v0:Aq):∀(k:List Ag) (i:Nat) (v:Int) (w:Bool),∃j,Lw L s v0 k i v w=some (match k.find? (fun x=>decide (x.Name=s)) with|some x=>(0,(x.Type_,true,j))|none=>(1,(v,w,j))):=by
 intro k
 induction k with
 |nil=>intro i v w;exact ⟨i,rfl⟩
 |cons x k ih=>
  intro i v w
  obtain ⟨j,hj⟩:=ih (i+1) v w
  rw [Lw,List.find?_cons,D0]
  cases decide (x.Name=s) with
  |true=>exact ⟨i,rfl⟩
  |false=>exact ⟨j,hj⟩
theorem A45(L:Nat)(s:ByteArray)(v0:Aq):∀(k:List Ag) (i:Nat) (v:Int) (w:Bool),∃j,Lx L s v0 k i v w=some (match k.find? (fun x=>decide (x.Name=s)) with|some x=>(0,(x.Type_,true,j))|none=>(1,(v,w,j))):=by
 intro k
 induction k with
 |nil=>intro i v w;exact ⟨i,rfl⟩
 |cons x k ih=>
  intro i v w
  obtain ⟨j,hj⟩:=ih (i+1) v w
  rw [Lx,List.find?_cons,D0]
  cases decide (x.Name=s) with
  |true=>exact ⟨i,rfl⟩
  |false=>exact ⟨j,hj⟩
theorem A8x(L:Nat)(l:List Ag)(s:ByteArray):∀(k:List Ag) (i:Nat) (v:Int) (w:Bool),∃j,Nv L l s k i v w=some (match k.find? (fun x=>decide (x.Name=s)) with|some x=>(0,(x.Type_,true,j))|none=>(1,(v,w,j))):=by
 intro k
 induction k with
 |nil=>intro i v w;exact ⟨i,rfl⟩
 |cons x k ih=>
  intro i v w
  obtain ⟨j,hj⟩:=ih (i+1) v w
  rw [Nv,List.find?_cons,D0]
  cases decide (x.Name=s) with
  |true=>exact ⟨i,rfl⟩
  |false=>exact ⟨j,hj⟩
theorem A8t(L:Nat)(v:Aq)(s:ByteArray)(h:Ei v)(hL:maxLen < L):Ahy L v s=some (o2 (A7o v s)):=by
 obtain ⟨⟨h1,_⟩,⟨h2,_⟩,h3⟩:=h
 have h4:=h3.len.1
 obtain ⟨j1,e1⟩:=A44 L s v v.Site.Vars 0 0 false
 obtain ⟨j2,e2⟩:=A45 L s v v.Params 0 0 false
 simp only [Av4,Aab,w3,Aac,Vl,Ahy,Aab,w3,Aac,Vl,aN,aB,Akl L _ s h2 (by omega),Azl L s v L h4 (by omega),Azm L s v L h1 (by omega),e1,Option.bind_some,A7o,Ba9]
 cases Avi v.Locals s with
 |some t=>rfl
 |none=>
  simp only [o2,cond_false]
  cases v.Site.Vars.find? (fun x=>decide (x.Name=s)) with
  |some t=>rfl
  |none=>
   simp only [Kx,e2,Option.bind_some,Option.map_none]
   cases v.Params.find? (fun x=>decide (x.Name=s))<;>rfl
theorem Aor(L:Nat)(l:List Ag)(s:ByteArray)(hl:l.length≤maxLen)(hL:l.length < L):Vs L l s=some (o2 (Ba9 l s)):=by
 obtain ⟨j1,e1⟩:=A8x L l s l 0 0 false
 simp only [Ayg,Wn,Vs,Wn,aN,aB,A03 L l s L hl hL,e1,Option.bind_some,Ba9]
 cases l.find? (fun x=>decide (x.Name=s))<;>rfl
theorem Bhw(L:Nat)(v:Aq)(s:ByteArray)(h:Ei v)(hL:maxLen < L):Aqy L v s=some (o2 (A7o v s)):=by
 obtain ⟨⟨h1,_⟩,⟨h2,_⟩,h3⟩:=h
 have h4:=h3.len.1
 simp only [Aw0,Aqy,aN,aB,Ary L _ s h2 (by omega),Aor L _ s h4 (by omega),Aor L _ s h1 (by omega),Option.bind_some,A7o]
 cases Avi v.Locals s with
 |some t=>rfl
 |none=>
  cases Ba9 v.Site.Vars s with
  |some t=>rfl
  |none=>cases Ba9 v.Params s<;>rfl
def Azo(t:Int):Bool:=t == 1 || t == 3
def unT(op a:Int):Int:=if (op=5∧Azo a=true)∨(op=6∧a=2) then a else if op=7∧a=1 then 3 else if op=8∧a=3 then 1 else 0
def Bjo(op a b:Int):Int:=
 if op=9∨op=10∨op=13∨op=20∨op=21 then (if a=b∧Azo a=true then a else 0)
 else if op=11 then (if a=1∧b=1 then 1 else if Azo a=true∧Azo b=true∧a≠b then 3 else 0)
 else if op=12 then (if (a=1∧b=1)∨(a=3∧b=3) then 1 else if a=3∧b=1 then 3 else 0)
 else if op=14∨op=15 then (if a=b then 2 else 0)
 else if op=16∨op=17 then (if a=b∧Azo a=true then 2 else 0)
 else if op=18∨op=19 then (if a=2∧b=2 then 2 else 0)
 else 0
def Bxx(op:Int)(k:ByteArray):Bool:=if op=22 then decide (k=H8) else if op=23 then decide (k=Ja) else decide (k=H8) || decide (k=Uw)
theorem Amu(L:Nat)(t:Int):H6 L t=some (Azo t):=by
 simp only [Adh,H6,aN,aB,Ly,Azo]
theorem Akj(L:Nat)(t:Int):Jo L t=some (Azo t):=by
 simp only [Al3,Jo,aN,aB,Ly,Azo]
theorem A4v(L:Nat)(op a:Int):Adb L op a=some (unT op a):=by
 simp only [Al9,Adb,aN,aB,Amu,Option.bind_some,Dt,Dq,Ly,unT]
 congr 1
 by_cases h5:op=5
 ·subst h5;cases Azo a<;>simp
 by_cases h6:op=6
 ·subst h6;by_cases h:a=2<;>first|(simp [h];done)|(simp [h,beq_false_of_ne h];done)
 by_cases h7:op=7
 ·subst h7;by_cases h:a=1<;>first|(simp [h];done)|(simp [h,beq_false_of_ne h];done)
 by_cases h8:op=8
 ·subst h8;by_cases h:a=3<;>first|(simp [h];done)|(simp [h,beq_false_of_ne h];done)
 have b5:(op == 5)=false:=beq_false_of_ne h5
 have b6:(op == 6)=false:=beq_false_of_ne h6
 have b7:(op == 7)=false:=beq_false_of_ne h7
 have b8:(op == 8)=false:=beq_false_of_ne h8
 simp [h5,h6,h7,h8,b5,b6,b7,b8]
theorem Bei(L:Nat)(op a:Int):Ang L op a=some (unT op a):=by
 simp only [Atv,Ang,aN,aB,Akj,Option.bind_some,Dt,Dq,Ly,unT]
 congr 1
 by_cases h5:op=5
 ·subst h5;cases Azo a<;>simp
 by_cases h6:op=6
 ·subst h6;by_cases h:a=2<;>first|(simp [h];done)|(simp [h,beq_false_of_ne h];done)
 by_cases h7:op=7
 ·subst h7;by_cases h:a=1<;>first|(simp [h];done)|(simp [h,beq_false_of_ne h];done)
 by_cases h8:op=8
 ·subst h8;by_cases h:a=3<;>first|(simp [h];done)|(simp [h,beq_false_of_ne h];done)
 have b5:(op == 5)=false:=beq_false_of_ne h5
 have b6:(op == 6)=false:=beq_false_of_ne h6
 have b7:(op == 7)=false:=beq_false_of_ne h7
 have b8:(op == 8)=false:=beq_false_of_ne h8
 simp [h5,h6,h7,h8,b5,b6,b7,b8]
theorem A1y(L:Nat)(op a b:Int):Aba L op a b=some (Bjo op a b):=by
 simp only [V6,V7,sx_typing_binary_4,Aci,sx_typing_binary_3,Ach,sx_typing_binary_1,Acg,sx_typing_binary_0,Asd,Aba,aN,aB,Amu,Option.bind_some,Dt,Dq,Ly,Bjo,Azo]
 congr 1
 rcases A5y op with rfl|rfl|rfl|rfl|rfl|rfl|rfl|rfl|rfl|rfl|rfl|rfl|rfl|rfl|rfl|rfl|rfl|rfl|rfl|rfl|rfl|rfl|rfl|rfl|rfl|rfl|hop|hop
 all_goals first|(simp;done)|(simp;grind)|grind
theorem A99(L:Nat)(op a b:Int):Aky L op a b=some (Bjo op a b):=by
 simp only [Ab3,sx_R14_binary_3,Akr,sx_R14_binary_2,Akq,sx_R14_binary_1,Akp,sx_R14_binary_0,Ayf,Aky,aN,aB,Akj,Option.bind_some,Dt,Dq,Ly,Bjo,Azo]
 congr 1
 rcases A5y op with rfl|rfl|rfl|rfl|rfl|rfl|rfl|rfl|rfl|rfl|rfl|rfl|rfl|rfl|rfl|rfl|rfl|rfl|rfl|rfl|rfl|rfl|rfl|rfl|rfl|rfl|hop|hop
 all_goals first|(simp;done)|(simp;grind)|grind
theorem A1z(L:Nat)(op:Int)(k:ByteArray):Abb L op k=some (Bxx op k):=by
 simp only [Ajw,Abb,aN,aB,D0,Ly,Dt,Bxx,H8,Ja,Uw]
 congr 1
 by_cases h:op=22
 ·subst h;rfl
 by_cases h':op=23
 ·subst h';rfl
 have b:(op == 22)=false:=beq_false_of_ne h
 have b':(op == 23)=false:=beq_false_of_ne h'
 simp only [h,h',b,b',cond_false,if_false]
 rfl
end Go.Proofs.YtofcpkmnhmnfcaaGreatR.Ev
