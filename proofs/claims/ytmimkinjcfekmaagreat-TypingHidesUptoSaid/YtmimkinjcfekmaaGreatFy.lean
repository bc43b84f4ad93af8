/-  What is read: words for the printed texts. -/
import Derived.Test.YtmimkinjcfekmaaGreatFx
namespace Go.Proofs.YtmimkinjcfekmaaGreat.Ev
open Go Go.RowKit Go.ChangeShapes Go.WideShapes Go.ChangeAt
set_option linter.unusedVariables false
set_option linter.unusedSimpArgs false
set_option linter.unnecessarySimpa false
def Pj(k:IntKind)(n:Int):Prop:=(Lit.int k n).wf=true
def Rs(s:ByteArray):Prop:=s.size≤maxLen
section
variable {P:Program} {n:Nat} {t e:TypeId} {l:List PV}
theorem Adn(hu:P.underlying t=some .bool)(h:Pu P n t l):∃b,l= [.val (.bool b)]:=by
 cases n with
 |zero=>exact h.elim
 |succ n=>simp only [Pu,hu] at h;exact h
theorem u6{k:IntKind}(hu:P.underlying t=some (.int k))(h:Pu P n t l):∃z,l= [.val (.int k z)]∧Pj k z:=by
 cases n with
 |zero=>exact h.elim
 |succ n=>simp only [Pu,hu] at h;exact h
theorem u7(hu:P.underlying t=some .string)(h:Pu P n t l):∃s,l= [.val (.string s)]∧Rs s:=by
 cases n with
 |zero=>exact h.elim
 |succ n=>simp only [Pu,hu] at h;exact h
theorem Ado(hu:P.underlying t=some (.slice e))(h:Pu P n t l):∃x:LX,l= [.lst false x]∧x.e=e∧x.len≤maxLen∧∃m,m < n∧∀i,i < x.len→Pu P m e (x.row i):=by
 cases n with
 |zero=>exact h.elim
 |succ n=>
  simp only [Pu,hu] at h
  obtain ⟨x,h1,h2,h3,h4⟩:=h
  exact ⟨x,h1,h2,h3,n,by omega,h4⟩
theorem Adp{fs:Array Field}(hu:P.underlying t=some (.struct fs))(h:Pu P n t l):∃m,m < n∧Xz (Pu P m) (fs.toList.map (·.type)) l:=by
 cases n with
 |zero=>exact h.elim
 |succ n=>simp only [Pu,hu] at h;exact ⟨n,by omega,h⟩
theorem Aaz{S:TypeId→List PV→Prop}{k:Nat}{r:List TypeId}(hw:∀l,S t l→l.length=k)(h:Xz S (t::r) l):S t (l.take k)∧Xz S r (l.drop k):=by
 obtain ⟨a,b,rfl,h1,h2⟩:=h
 have:=hw a h1
 rw [List.take_left' this,List.drop_left' this]
 exact ⟨h1,h2⟩
theorem Ahi{k:IntKind}(hu:P.underlying t=some (.int k)){z:Int}(h:Pu P n t [.val (.int k z)]):Pj k z:=by
 obtain ⟨z',h1,h2⟩:=u6 hu h
 injection h1 with h1 _
 injection h1 with h1
 injection h1 with _ h1
 subst h1;exact h2
theorem Ahj(hu:P.underlying t=some .string){z:ByteArray}(h:Pu P n t [.val (.string z)]):Rs z:=by
 obtain ⟨z',h1,h2⟩:=u7 hu h
 injection h1 with h1 _
 injection h1 with h1
 injection h1 with h1
 subst h1;exact h2
theorem Aiq(hu:P.underlying t=some (.slice e)){x:LX}(h:Pu P n t [.lst false x]):x.len≤maxLen∧∃m,m < n∧∀i,i < x.len→Pu P m e (x.row i):=by
 obtain ⟨z',h1,h2,h3,h4⟩:=Ado hu h
 injection h1 with h1 _
 injection h1 with _ h1
 subst h1;exact ⟨h3,h4⟩
theorem Abc{α :Type} [Inhabited α]{row: α→List PV}{Q:List PV→Prop}{l:List α}(h:∀i,i < l.length→Q (row (l.getD i default))):∀y∈l,Q (row y):=by
 intro y hy
 obtain ⟨i,hi,rfl⟩:=List.getElem_of_mem hy
 have:=h i hi
 rwa [J1 l i hi] at this
theorem Aen{α :Type} [Inhabited α](row: α→List PV)(m:Nat)(f:Nat→List PV)(h:∀i,i < m→∃y,f i=row y):∃l:List α,l.length=m∧∀i,i < m→row (l.getD i default)=f i:=by
 induction m generalizing f with
 |zero=>exact ⟨[],rfl,fun i hi=>by omega⟩
 |succ m ih=>
  obtain ⟨y,hy⟩:=h 0 (by omega)
  obtain ⟨l,h1,h2⟩:=ih (fun i=>f (i+1)) (fun i hi=>h (i+1) (by omega))
  refine ⟨y::l,by simp [h1],fun i hi=> ?_⟩
  cases i with
  |zero=>simpa using hy.symm
  |succ i=>simpa using h2 i (by omega)
end
end Go.Proofs.YtmimkinjcfekmaaGreat.Ev
