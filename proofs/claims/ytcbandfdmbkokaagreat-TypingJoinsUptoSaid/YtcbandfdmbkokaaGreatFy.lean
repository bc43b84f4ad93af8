/-  What is read: words for the printed texts. -/
import Derived.Test.YtcbandfdmbkokaaGreatFx
namespace Go.Proofs.YtcbandfdmbkokaaGreat.Ev
open Go Go.RowKit Go.ChangeShapes Go.WideShapes Go.ChangeAt
set_option linter.unusedVariables false
set_option linter.unusedSimpArgs false
set_option linter.unnecessarySimpa false
def okI(k:IntKind)(n:Int):Prop:=(Lit.int k n).wf=true
def okS(s:ByteArray):Prop:=s.size≤maxLen
section
variable {P:Program} {n:Nat} {t e:TypeId} {l:List PV}
theorem Anx(hu:P.underlying t=some .bool)(h:Gv P n t l):∃b,l= [.val (.bool b)]:=by
 cases n with
 |zero=>exact h.elim
 |succ n=>simp only [Gv,hu] at h;exact h
theorem Gb{k:IntKind}(hu:P.underlying t=some (.int k))(h:Gv P n t l):∃z,l= [.val (.int k z)]∧okI k z:=by
 cases n with
 |zero=>exact h.elim
 |succ n=>simp only [Gv,hu] at h;exact h
theorem Ks(hu:P.underlying t=some .string)(h:Gv P n t l):∃s,l= [.val (.string s)]∧okS s:=by
 cases n with
 |zero=>exact h.elim
 |succ n=>simp only [Gv,hu] at h;exact h
theorem G7(hu:P.underlying t=some (.slice e))(h:Gv P n t l):∃x:LX,l= [.lst false x]∧x.e=e∧x.len≤maxLen∧∃m,m < n∧∀i,i < x.len→Gv P m e (x.row i):=by
 cases n with
 |zero=>exact h.elim
 |succ n=>
  simp only [Gv,hu] at h
  obtain ⟨x,h1,h2,h3,h4⟩:=h
  exact ⟨x,h1,h2,h3,n,by omega,h4⟩
theorem Gc{fs:Array Field}(hu:P.underlying t=some (.struct fs))(h:Gv P n t l):∃m,m < n∧P8 (Gv P m) (fs.toList.map (·.type)) l:=by
 cases n with
 |zero=>exact h.elim
 |succ n=>simp only [Gv,hu] at h;exact ⟨n,by omega,h⟩
theorem Bj{S:TypeId→List PV→Prop}{k:Nat}{r:List TypeId}(hw:∀l,S t l→l.length=k)(h:P8 S (t::r) l):S t (l.take k)∧P8 S r (l.drop k):=by
 obtain ⟨a,b,rfl,h1,h2⟩:=h
 have:=hw a h1
 rw [List.take_left' this,List.drop_left' this]
 exact ⟨h1,h2⟩
theorem A60(hu:P.underlying t=some .bool)(n:Nat):∀l,Gv P n t l→l.length=1:=fun l h=>by obtain ⟨b,rfl⟩:=Anx hu h;rfl
theorem F5{k:IntKind}(hu:P.underlying t=some (.int k))(n:Nat):∀l,Gv P n t l→l.length=1:=fun l h=>by obtain ⟨b,rfl,_⟩:=Gb hu h;rfl
theorem Km(hu:P.underlying t=some .string)(n:Nat):∀l,Gv P n t l→l.length=1:=fun l h=>by obtain ⟨b,rfl,_⟩:=Ks hu h;rfl
theorem Ib(hu:P.underlying t=some (.slice e))(n:Nat):∀l,Gv P n t l→l.length=1:=fun l h=>by obtain ⟨b,rfl,_⟩:=G7 hu h;rfl
theorem Lw{k:IntKind}(hu:P.underlying t=some (.int k)){z:Int}(h:Gv P n t [.val (.int k z)]):okI k z:=by
 obtain ⟨z',h1,h2⟩:=Gb hu h
 injection h1 with h1 _
 injection h1 with h1
 injection h1 with _ h1
 subst h1;exact h2
theorem Rr(hu:P.underlying t=some .string){z:ByteArray}(h:Gv P n t [.val (.string z)]):okS z:=by
 obtain ⟨z',h1,h2⟩:=Ks hu h
 injection h1 with h1 _
 injection h1 with h1
 injection h1 with h1
 subst h1;exact h2
theorem Vd(hu:P.underlying t=some (.slice e)){x:LX}(h:Gv P n t [.lst false x]):x.len≤maxLen∧∃m,m < n∧∀i,i < x.len→Gv P m e (x.row i):=by
 obtain ⟨z',h1,h2,h3,h4⟩:=G7 hu h
 injection h1 with h1 _
 injection h1 with _ h1
 subst h1;exact ⟨h3,h4⟩
theorem Iv{α :Type} [Inhabited α]{row: α→List PV}{Q:List PV→Prop}{l:List α}(h:∀i,i < l.length→Q (row (l.getD i default))):∀y∈l,Q (row y):=by
 intro y hy
 obtain ⟨i,hi,rfl⟩:=List.getElem_of_mem hy
 have:=h i hi
 rwa [Ro l i hi] at this
theorem L5{α :Type} [Inhabited α](row: α→List PV)(m:Nat)(f:Nat→List PV)(h:∀i,i < m→∃y,f i=row y):∃l:List α,l.length=m∧∀i,i < m→row (l.getD i default)=f i:=by
 induction m generalizing f with
 |zero=>exact ⟨[],rfl,fun i hi=>by omega⟩
 |succ m ih=>
  obtain ⟨y,hy⟩:=h 0 (by omega)
  obtain ⟨l,h1,h2⟩:=ih (fun i=>f (i+1)) (fun i hi=>h (i+1) (by omega))
  refine ⟨y::l,by simp [h1],fun i hi=> ?_⟩
  cases i with
  |zero=>simpa using hy.symm
  |succ i=>simpa using h2 i (by omega)
end
end Go.Proofs.YtcbandfdmbkokaaGreat.Ev
