/-  A call at given data, carried out with all that it calls: an oracle that runs. -/
import Derived.Test.YtmimkinjcfekmaaGreatFw
namespace Go.Proofs.YtmimkinjcfekmaaGreat.Ev
open Go
set_option linter.unusedVariables false
set_option linter.unusedSimpArgs false
set_option linter.unnecessarySimpa false
def noJ:Nat→Bool:=fun _=>false
noncomputable def Aau(P:Program)(inl:Nat→Bool)(G:Nat→Option (Nat×Nat))(nb:Nat→Bool)(base:Av)(L D:Nat):Nat→Av
 |0=>noC
 |n+1=>fun f args k=>match nb f with
  |true=>base f args k
  |false=>match P.funcs[f]? with
   |some fn=>match cFn P inl fn,Nat.ble args.length fn.ntmps with
    |some ec,true=>Aed P (Aau P inl G nb base L D n) (evI P inl G noJ (Aau P inl G nb base L D n) L D) L fn.results.toList ec args k
    |_,_=>False
   |none=>False
theorem L7{P:Program}{st:St} :∀(rs:List ResultVar) (k:List PV→Prop),G4 P st rs k→∃l,k l∧∀k':List PV→Prop,k' l→G4 P st rs k'
 | [],k,h=>⟨[],h,fun _ h'=>h'⟩
 | .tmp t::r,k,h=>by
  obtain ⟨l,h1,h2⟩:=L7 r _ h
  exact ⟨_,h1,fun k' h'=>h2 (fun l=>k' (st.get t::l)) h'⟩
 | .cell a t::r,k,h=>by
  unfold G4 at h ⊢
  split at h
  ·rename_i b off sz u h1 h2 h3
   split at h
   ·obtain ⟨l,h5,h6⟩:=L7 r _ h
    exact ⟨_,h5,fun k' h'=>h6 _ h'⟩
   ·obtain ⟨l,h5,h6⟩:=L7 r _ h
    exact ⟨_,h5,fun k' h'=>h6 _ h'⟩
   ·exact h.elim
  ·exact h.elim
theorem Aaj{P:Program}{rs:List ResultVar}{k:PV→Prop}{e:Ex}{st:St}(h:Kj P rs k e st):∃r,k r∧∀k':PV→Prop,k' r→Kj P rs k' e st:=by
 have hf:∀(l:List PV) (k:PV→Prop),∃r,(Ni st.obj k l↔k r)∧∀k':PV→Prop,(Ni st.obj k' l↔k' r):=by
  intro l k
  unfold Ni
  match l with
  | [r]=>exact ⟨_,Iff.rfl,fun _=>Iff.rfl⟩
  | []=>exact ⟨_,Iff.rfl,fun _=>Iff.rfl⟩
  |a::b::c=>exact ⟨_,Iff.rfl,fun _=>Iff.rfl⟩
 have key:G4 P st rs (Ni st.obj k)→∃r,k r∧∀k':PV→Prop,k' r→G4 P st rs (Ni st.obj k'):=by
  intro h
  obtain ⟨l,h1,h2⟩:=L7 rs _ h
  obtain ⟨r,h3,h4⟩:=hf l k
  exact ⟨r,h3.1 h1,fun k' h'=>h2 _ ((h4 k').2 h')⟩
 cases e with
 |exit i=>exact h.elim
 |normal=>exact key h
 |ret=>exact key h
theorem Ur{P:Program}{inl:Nat→Bool}{G:Nat→Option (Nat×Nat)}{nb:Nat→Bool}{base:Av}(hG:Rc P G)(hm:P.follows .mixedOrders=true)(hb:Bu P base)(L D:Nat):∀n,Bu P (Aau P inl G nb base L D n):=by
 intro n
 induction n with
 |zero=>exact Rr P
 |succ n ih=>
  intro f args k h
  unfold Aau at h
  split at h
  ·exact hb f args k h
  split at h
  ·rename_i fn hf
   split at h
   ·rename_i ec hc hn
    obtain ⟨e,st',h1,h2⟩:=Yg ih (Vx (inl:=inl) (J:=noJ) hG ih hm L D) L ec _ _ h
    obtain ⟨r,h3,h4⟩:=Aaj h1
    exact ⟨r,Si (inl:=inl) Bu.star Gu.star hm L hf hc args r hn (h2 _ (h4 _ rfl)),h3⟩
   ·exact h.elim
  ·exact h.elim
theorem Rk{P:Program}{inl:Nat→Bool}{G:Nat→Option (Nat×Nat)}{nb:Nat→Bool}{base:Av}(hG:Rc P G)(hm:P.follows .mixedOrders=true)(hb:Bu P base)(L D n:Nat){f:Nat}{args:List PV}{r:PV}(h:∀kk,Aau P inl G nb base L D n f args kk=kk r):Holds P f args r:=by
 obtain ⟨r',h1,h2⟩:=Ur (inl:=inl) (nb:=nb) (base:=base) hG hm hb L D n f args (fun p=>p=r) (by rw [h])
 subst h2;exact h1
end Go.Proofs.YtmimkinjcfekmaaGreat.Ev
