/-  Rows of data, cell by cell; what a row of cells reads as. -/
import Derived.Test.YtcbandfdmbkokaaGreatFp
namespace Go.Proofs.YtcbandfdmbkokaaGreat.Ev
open Go
set_option linter.unusedVariables false
set_option linter.unusedSimpArgs false
set_option linter.unnecessarySimpa false

def lenGe0 (l : List PV) (n : Nat) : Bool := match l, n with
  | _, 0 => true
  | _ :: r, n + 1 => lenGe0 r n
  | _, _ => false
def dInt (k : IntKind) : PV → Option Int
  | .val (.int k' a) => match decide (k' = k) with
    | true => some a
    | false => none
  | _ => none
def dBool : PV → Option Bool
  | .val (.bool a) => some a
  | _ => none
def dStr : PV → Option ByteArray
  | .val (.string a) => some a
  | _ => none
inductive RowLe : List PV → List PV → Prop
  | nil : RowLe [] []
  | cons {p q : PV} {r s : List PV} (h : PV.Le p q) (hr : RowLe r s) : RowLe (p :: r) (q :: s)
theorem dInt_le {k : IntKind} {p : PV} {a : Int} (h : dInt k p = some a) : PV.Le p (.val (.int k a)) := by
  unfold dInt at h
  split at h
  · split at h
    · rename_i hk
      have := of_decide_eq_true hk
      subst this
      injection h with h; subst h; exact .view _
    · cases h
  · cases h
theorem dBool_le {p : PV} {a : Bool} (h : dBool p = some a) : PV.Le p (.val (.bool a)) := by
  unfold dBool at h
  split at h
  · injection h with h; subst h; exact .view _
  · cases h
theorem dStr_le {p : PV} {a : ByteArray} (h : dStr p = some a) : PV.Le p (.val (.string a)) := by
  unfold dStr at h
  split at h
  · injection h with h; subst h; exact .view _
  · cases h
def decs {α : Type} (d : List PV → Option α) : List (List PV) → Option (List α)
  | [] => some []
  | r :: rs => match d r, decs d rs with
    | some a, some l => some (a :: l)
    | _, _ => none
theorem decs_spec {α : Type} [Inhabited α] {d : List PV → Option α} {row : α → List PV} (hd : ∀ r a, d r = some a → RowLe r (row a)) : ∀ (rs : List (List PV)) (l : List α), decs d rs = some l →
    l.length = rs.length ∧ ∀ (i : Nat) (r : List PV), rs[i]? = some r → RowLe r (row (l.getD i default))
  | [], l, h => by
    simp only [decs, Option.some.injEq] at h
    subst h
    exact ⟨rfl, fun i r hr => by simp at hr⟩
  | r :: rs, l, h => by
    simp only [decs] at h
    split at h
    · rename_i a m h1 h2
      injection h with h
      subst h
      obtain ⟨q1, q2⟩ := decs_spec hd rs m h2
      refine ⟨by simp [q1], fun i x hx => ?_⟩
      cases i with
      | zero => simp at hx; subst hx; simpa using hd _ _ h1
      | succ i => simpa using q2 i x (by simpa using hx)
    · cases h
def flats : List PV → Bool
  | [] => true
  | p :: r => match p.flat with
    | true => flats r
    | false => false
theorem flats_mem : ∀ (l : List PV), flats l = true → ∀ p ∈ l, p.flat = true
  | [], _, p, h => by cases h
  | q :: r, h, p, hp => by
    simp only [flats] at h
    cases hq : q.flat with
    | false => rw [hq] at h; cases h
    | true =>
      rw [hq] at h
      rcases List.mem_cons.1 hp with e | e
      · subst e; exact hq
      · exact flats_mem r h p e

def dl3 : PV → Option (List Int)
  | .lst _ x => x.g3
  | .val (.slice none 0 0) => some []
  | _ => none
theorem dl3_le {p : PV} {a : List Int} (h : dl3 p = some a) : PV.Le p (.lst false (.t3 a)) := by
  unfold dl3 at h
  split at h
  · rename_i o x
    cases x <;> simp only [LX.g3] at h <;> first | (injection h with h; subst h; exact .view _) | cases h
  · injection h with h; subst h; exact .nil false _ rfl
  · cases h
def dl4 : PV → Option (List Bool)
  | .lst _ x => x.g4
  | .val (.slice none 0 0) => some []
  | _ => none
theorem dl4_le {p : PV} {a : List Bool} (h : dl4 p = some a) : PV.Le p (.lst false (.t4 a)) := by
  unfold dl4 at h
  split at h
  · rename_i o x
    cases x <;> simp only [LX.g4] at h <;> first | (injection h with h; subst h; exact .view _) | cases h
  · injection h with h; subst h; exact .nil false _ rfl
  · cases h
def dl9 : PV → Option (List ByteArray)
  | .lst _ x => x.g9
  | .val (.slice none 0 0) => some []
  | _ => none
theorem dl9_le {p : PV} {a : List ByteArray} (h : dl9 p = some a) : PV.Le p (.lst false (.t9 a)) := by
  unfold dl9 at h
  split at h
  · rename_i o x
    cases x <;> simp only [LX.g9] at h <;> first | (injection h with h; subst h; exact .view _) | cases h
  · injection h with h; subst h; exact .nil false _ rfl
  · cases h
def dl23 : PV → Option (List (List api_Field))
  | .lst _ x => x.g23
  | .val (.slice none 0 0) => some []
  | _ => none
theorem dl23_le {p : PV} {a : List (List api_Field)} (h : dl23 p = some a) : PV.Le p (.lst false (.t23 a)) := by
  unfold dl23 at h
  split at h
  · rename_i o x
    cases x <;> simp only [LX.g23] at h <;> first | (injection h with h; subst h; exact .view _) | cases h
  · injection h with h; subst h; exact .nil false _ rfl
  · cases h
def dl27 : PV → Option (List (List ByteArray))
  | .lst _ x => x.g27
  | .val (.slice none 0 0) => some []
  | _ => none
theorem dl27_le {p : PV} {a : List (List ByteArray)} (h : dl27 p = some a) : PV.Le p (.lst false (.t27 a)) := by
  unfold dl27 at h
  split at h
  · rename_i o x
    cases x <;> simp only [LX.g27] at h <;> first | (injection h with h; subst h; exact .view _) | cases h
  · injection h with h; subst h; exact .nil false _ rfl
  · cases h
def dl32 : PV → Option (List api_SiteDecl)
  | .lst _ x => x.g32
  | .val (.slice none 0 0) => some []
  | _ => none
theorem dl32_le {p : PV} {a : List api_SiteDecl} (h : dl32 p = some a) : PV.Le p (.lst false (.t32 a)) := by
  unfold dl32 at h
  split at h
  · rename_i o x
    cases x <;> simp only [LX.g32] at h <;> first | (injection h with h; subst h; exact .view _) | cases h
  · injection h with h; subst h; exact .nil false _ rfl
  · cases h
def dl38 : PV → Option (List api_Expr)
  | .lst _ x => x.g38
  | .val (.slice none 0 0) => some []
  | _ => none
theorem dl38_le {p : PV} {a : List api_Expr} (h : dl38 p = some a) : PV.Le p (.lst false (.t38 a)) := by
  unfold dl38 at h
  split at h
  · rename_i o x
    cases x <;> simp only [LX.g38] at h <;> first | (injection h with h; subst h; exact .view _) | cases h
  · injection h with h; subst h; exact .nil false _ rfl
  · cases h
def dl41 : PV → Option (List Int)
  | .lst _ x => x.g41
  | .val (.slice none 0 0) => some []
  | _ => none
theorem dl41_le {p : PV} {a : List Int} (h : dl41 p = some a) : PV.Le p (.lst false (.t41 a)) := by
  unfold dl41 at h
  split at h
  · rename_i o x
    cases x <;> simp only [LX.g41] at h <;> first | (injection h with h; subst h; exact .view _) | cases h
  · injection h with h; subst h; exact .nil false _ rfl
  · cases h
def dl68 : PV → Option (List api_Field)
  | .lst _ x => x.g68
  | .val (.slice none 0 0) => some []
  | _ => none
theorem dl68_le {p : PV} {a : List api_Field} (h : dl68 p = some a) : PV.Le p (.lst false (.t68 a)) := by
  unfold dl68 at h
  split at h
  · rename_i o x
    cases x <;> simp only [LX.g68] at h <;> first | (injection h with h; subst h; exact .view _) | cases h
  · injection h with h; subst h; exact .nil false _ rfl
  · cases h
def dl72 : PV → Option (List api_Value)
  | .lst _ x => x.g72
  | .val (.slice none 0 0) => some []
  | _ => none
theorem dl72_le {p : PV} {a : List api_Value} (h : dl72 p = some a) : PV.Le p (.lst false (.t72 a)) := by
  unfold dl72 at h
  split at h
  · rename_i o x
    cases x <;> simp only [LX.g72] at h <;> first | (injection h with h; subst h; exact .view _) | cases h
  · injection h with h; subst h; exact .nil false _ rfl
  · cases h
def dl74 : PV → Option (List api_Routine)
  | .lst _ x => x.g74
  | .val (.slice none 0 0) => some []
  | _ => none
theorem dl74_le {p : PV} {a : List api_Routine} (h : dl74 p = some a) : PV.Le p (.lst false (.t74 a)) := by
  unfold dl74 at h
  split at h
  · rename_i o x
    cases x <;> simp only [LX.g74] at h <;> first | (injection h with h; subst h; exact .view _) | cases h
  · injection h with h; subst h; exact .nil false _ rfl
  · cases h
def dl82 : PV → Option (List api_Stmt)
  | .lst _ x => x.g82
  | .val (.slice none 0 0) => some []
  | _ => none
theorem dl82_le {p : PV} {a : List api_Stmt} (h : dl82 p = some a) : PV.Le p (.lst false (.t82 a)) := by
  unfold dl82 at h
  split at h
  · rename_i o x
    cases x <;> simp only [LX.g82] at h <;> first | (injection h with h; subst h; exact .view _) | cases h
  · injection h with h; subst h; exact .nil false _ rfl
  · cases h
def dl149 : PV → Option (List api_ResourceDecl)
  | .lst _ x => x.g149
  | .val (.slice none 0 0) => some []
  | _ => none
theorem dl149_le {p : PV} {a : List api_ResourceDecl} (h : dl149 p = some a) : PV.Le p (.lst false (.t149 a)) := by
  unfold dl149 at h
  split at h
  · rename_i o x
    cases x <;> simp only [LX.g149] at h <;> first | (injection h with h; subst h; exact .view _) | cases h
  · injection h with h; subst h; exact .nil false _ rfl
  · cases h
def dl156 : PV → Option (List api_StoreDecl)
  | .lst _ x => x.g156
  | .val (.slice none 0 0) => some []
  | _ => none
theorem dl156_le {p : PV} {a : List api_StoreDecl} (h : dl156 p = some a) : PV.Le p (.lst false (.t156 a)) := by
  unfold dl156 at h
  split at h
  · rename_i o x
    cases x <;> simp only [LX.g156] at h <;> first | (injection h with h; subst h; exact .view _) | cases h
  · injection h with h; subst h; exact .nil false _ rfl
  · cases h
def dl160 : PV → Option (List api_BeltDecl)
  | .lst _ x => x.g160
  | .val (.slice none 0 0) => some []
  | _ => none
theorem dl160_le {p : PV} {a : List api_BeltDecl} (h : dl160 p = some a) : PV.Le p (.lst false (.t160 a)) := by
  unfold dl160 at h
  split at h
  · rename_i o x
    cases x <;> simp only [LX.g160] at h <;> first | (injection h with h; subst h; exact .view _) | cases h
  · injection h with h; subst h; exact .nil false _ rfl
  · cases h
def dl166 : PV → Option (List api_Start)
  | .lst _ x => x.g166
  | .val (.slice none 0 0) => some []
  | _ => none
theorem dl166_le {p : PV} {a : List api_Start} (h : dl166 p = some a) : PV.Le p (.lst false (.t166 a)) := by
  unfold dl166 at h
  split at h
  · rename_i o x
    cases x <;> simp only [LX.g166] at h <;> first | (injection h with h; subst h; exact .view _) | cases h
  · injection h with h; subst h; exact .nil false _ rfl
  · cases h
def dl172 : PV → Option (List api_Link)
  | .lst _ x => x.g172
  | .val (.slice none 0 0) => some []
  | _ => none
theorem dl172_le {p : PV} {a : List api_Link} (h : dl172 p = some a) : PV.Le p (.lst false (.t172 a)) := by
  unfold dl172 at h
  split at h
  · rename_i o x
    cases x <;> simp only [LX.g172] at h <;> first | (injection h with h; subst h; exact .view _) | cases h
  · injection h with h; subst h; exact .nil false _ rfl
  · cases h
def dl173 : PV → Option (List Arr2_ByteArray)
  | .lst _ x => x.g173
  | .val (.slice none 0 0) => some []
  | _ => none
theorem dl173_le {p : PV} {a : List Arr2_ByteArray} (h : dl173 p = some a) : PV.Le p (.lst false (.t173 a)) := by
  unfold dl173 at h
  split at h
  · rename_i o x
    cases x <;> simp only [LX.g173] at h <;> first | (injection h with h; subst h; exact .view _) | cases h
  · injection h with h; subst h; exact .nil false _ rfl
  · cases h
def dl184 : PV → Option (List api_Law)
  | .lst _ x => x.g184
  | .val (.slice none 0 0) => some []
  | _ => none
theorem dl184_le {p : PV} {a : List api_Law} (h : dl184 p = some a) : PV.Le p (.lst false (.t184 a)) := by
  unfold dl184 at h
  split at h
  · rename_i o x
    cases x <;> simp only [LX.g184] at h <;> first | (injection h with h; subst h; exact .view _) | cases h
  · injection h with h; subst h; exact .nil false _ rfl
  · cases h
def dl188 : PV → Option (List St_is_name)
  | .lst _ x => x.g188
  | .val (.slice none 0 0) => some []
  | _ => none
theorem dl188_le {p : PV} {a : List St_is_name} (h : dl188 p = some a) : PV.Le p (.lst false (.t188 a)) := by
  unfold dl188 at h
  split at h
  · rename_i o x
    cases x <;> simp only [LX.g188] at h <;> first | (injection h with h; subst h; exact .view _) | cases h
  · injection h with h; subst h; exact .nil false _ rfl
  · cases h
def dl190 : PV → Option (List St_is_e)
  | .lst _ x => x.g190
  | .val (.slice none 0 0) => some []
  | _ => none
theorem dl190_le {p : PV} {a : List St_is_e} (h : dl190 p = some a) : PV.Le p (.lst false (.t190 a)) := by
  unfold dl190 at h
  split at h
  · rename_i o x
    cases x <;> simp only [LX.g190] at h <;> first | (injection h with h; subst h; exact .view _) | cases h
  · injection h with h; subst h; exact .nil false _ rfl
  · cases h
def dl228 : PV → Option (List api_Change)
  | .lst _ x => x.g228
  | .val (.slice none 0 0) => some []
  | _ => none
theorem dl228_le {p : PV} {a : List api_Change} (h : dl228 p = some a) : PV.Le p (.lst false (.t228 a)) := by
  unfold dl228 at h
  split at h
  · rename_i o x
    cases x <;> simp only [LX.g228] at h <;> first | (injection h with h; subst h; exact .view _) | cases h
  · injection h with h; subst h; exact .nil false _ rfl
  · cases h
def dl234 : PV → Option (List api_Term)
  | .lst _ x => x.g234
  | .val (.slice none 0 0) => some []
  | _ => none
theorem dl234_le {p : PV} {a : List api_Term} (h : dl234 p = some a) : PV.Le p (.lst false (.t234 a)) := by
  unfold dl234 at h
  split at h
  · rename_i o x
    cases x <;> simp only [LX.g234] at h <;> first | (injection h with h; subst h; exact .view _) | cases h
  · injection h with h; subst h; exact .nil false _ rfl
  · cases h
def row3 (x : Int) : List PV := [.val (.int .i64 x)]
def dec3 (r : List PV) : Option Int := match r with
  | [c0] => match dInt .i64 c0 with
    | some a0 => some a0
    | _ => none
  | _ => none
theorem dec3_le (r : List PV) (x : Int) (h : dec3 r = some x) : RowLe r (row3 x) := by
  unfold dec3 at h
  split at h
  · split at h
    · rename_i h0
      injection h with h; subst h; exact (.cons (dInt_le h0) RowLe.nil)
    · cases h
  · cases h
def row4 (x : Bool) : List PV := [.val (.bool x)]
def dec4 (r : List PV) : Option Bool := match r with
  | [c0] => match dBool c0 with
    | some a0 => some a0
    | _ => none
  | _ => none
theorem dec4_le (r : List PV) (x : Bool) (h : dec4 r = some x) : RowLe r (row4 x) := by
  unfold dec4 at h
  split at h
  · split at h
    · rename_i h0
      injection h with h; subst h; exact (.cons (dBool_le h0) RowLe.nil)
    · cases h
  · cases h
def row9 (x : ByteArray) : List PV := [.val (.string x)]
def dec9 (r : List PV) : Option ByteArray := match r with
  | [c0] => match dStr c0 with
    | some a0 => some a0
    | _ => none
  | _ => none
theorem dec9_le (r : List PV) (x : ByteArray) (h : dec9 r = some x) : RowLe r (row9 x) := by
  unfold dec9 at h
  split at h
  · split at h
    · rename_i h0
      injection h with h; subst h; exact (.cons (dStr_le h0) RowLe.nil)
    · cases h
  · cases h
def row23 (x : (List api_Field)) : List PV := [.lst false (.t68 x)]
def dec23 (r : List PV) : Option (List api_Field) := match r with
  | [c0] => match dl68 c0 with
    | some a0 => some a0
    | _ => none
  | _ => none
theorem dec23_le (r : List PV) (x : (List api_Field)) (h : dec23 r = some x) : RowLe r (row23 x) := by
  unfold dec23 at h
  split at h
  · split at h
    · rename_i h0
      injection h with h; subst h; exact (.cons (dl68_le h0) RowLe.nil)
    · cases h
  · cases h
def row27 (x : (List ByteArray)) : List PV := [.lst false (.t9 x)]
def dec27 (r : List PV) : Option (List ByteArray) := match r with
  | [c0] => match dl9 c0 with
    | some a0 => some a0
    | _ => none
  | _ => none
theorem dec27_le (r : List PV) (x : (List ByteArray)) (h : dec27 r = some x) : RowLe r (row27 x) := by
  unfold dec27 at h
  split at h
  · split at h
    · rename_i h0
      injection h with h; subst h; exact (.cons (dl9_le h0) RowLe.nil)
    · cases h
  · cases h
def row32 (x : api_SiteDecl) : List PV := [.val (.string x.Name), .lst false (.t72 x.Vars), .lst false (.t149 x.Resources), .lst false (.t156 x.Stores), .lst false (.t160 x.Belts), .lst false (.t9 x.Queues), .lst false (.t9 x.Streams), .lst false (.t9 x.Tallies), .lst false (.t9 x.Levels), .lst false (.t9 x.Counts), .lst false (.t74 x.Routines), .lst false (.t166 x.Starts), .lst false (.t184 x.Laws)]
def dec32 (r : List PV) : Option api_SiteDecl := match r with
  | [c0, c1, c2, c3, c4, c5, c6, c7, c8, c9, c10, c11, c12] => match dStr c0, dl72 c1, dl149 c2, dl156 c3, dl160 c4, dl9 c5, dl9 c6, dl9 c7, dl9 c8, dl9 c9, dl74 c10, dl166 c11, dl184 c12 with
    | some a0, some a1, some a2, some a3, some a4, some a5, some a6, some a7, some a8, some a9, some a10, some a11, some a12 => some (api_SiteDecl.mk a0 a1 a2 a3 a4 a5 a6 a7 a8 a9 a10 a11 a12)
    | _, _, _, _, _, _, _, _, _, _, _, _, _ => none
  | _ => none
theorem dec32_le (r : List PV) (x : api_SiteDecl) (h : dec32 r = some x) : RowLe r (row32 x) := by
  unfold dec32 at h
  split at h
  · split at h
    · rename_i h0 h1 h2 h3 h4 h5 h6 h7 h8 h9 h10 h11 h12
      injection h with h; subst h; exact (.cons (dStr_le h0) (.cons (dl72_le h1) (.cons (dl149_le h2) (.cons (dl156_le h3) (.cons (dl160_le h4) (.cons (dl9_le h5) (.cons (dl9_le h6) (.cons (dl9_le h7) (.cons (dl9_le h8) (.cons (dl9_le h9) (.cons (dl74_le h10) (.cons (dl166_le h11) (.cons (dl184_le h12) RowLe.nil)))))))))))))
    · cases h
  · cases h
def row38 (x : api_Expr) : List PV := [.val (.int .i64 x.Op), .val (.string x.Name), .val (.int .i64 x.N), .lst false (.t38 x.Kids)]
def dec38 (r : List PV) : Option api_Expr := match r with
  | [c0, c1, c2, c3] => match dInt .i64 c0, dStr c1, dInt .i64 c2, dl38 c3 with
    | some a0, some a1, some a2, some a3 => some (api_Expr.mk a0 a1 a2 a3)
    | _, _, _, _ => none
  | _ => none
theorem dec38_le (r : List PV) (x : api_Expr) (h : dec38 r = some x) : RowLe r (row38 x) := by
  unfold dec38 at h
  split at h
  · split at h
    · rename_i h0 h1 h2 h3
      injection h with h; subst h; exact (.cons (dInt_le h0) (.cons (dStr_le h1) (.cons (dInt_le h2) (.cons (dl38_le h3) RowLe.nil))))
    · cases h
  · cases h
def row41 (x : Int) : List PV := [.val (.int .i64 x)]
def dec41 (r : List PV) : Option Int := match r with
  | [c0] => match dInt .i64 c0 with
    | some a0 => some a0
    | _ => none
  | _ => none
theorem dec41_le (r : List PV) (x : Int) (h : dec41 r = some x) : RowLe r (row41 x) := by
  unfold dec41 at h
  split at h
  · split at h
    · rename_i h0
      injection h with h; subst h; exact (.cons (dInt_le h0) RowLe.nil)
    · cases h
  · cases h
def row68 (x : api_Field) : List PV := [.val (.string x.Name), .val (.int .i64 x.Type_)]
def dec68 (r : List PV) : Option api_Field := match r with
  | [c0, c1] => match dStr c0, dInt .i64 c1 with
    | some a0, some a1 => some (api_Field.mk a0 a1)
    | _, _ => none
  | _ => none
theorem dec68_le (r : List PV) (x : api_Field) (h : dec68 r = some x) : RowLe r (row68 x) := by
  unfold dec68 at h
  split at h
  · split at h
    · rename_i h0 h1
      injection h with h; subst h; exact (.cons (dStr_le h0) (.cons (dInt_le h1) RowLe.nil))
    · cases h
  · cases h
def row72 (x : api_Value) : List PV := [.val (.string x.Name), .val (.int .i64 x.Type_), .val (.int .i64 x.N)]
def dec72 (r : List PV) : Option api_Value := match r with
  | [c0, c1, c2] => match dStr c0, dInt .i64 c1, dInt .i64 c2 with
    | some a0, some a1, some a2 => some (api_Value.mk a0 a1 a2)
    | _, _, _ => none
  | _ => none
theorem dec72_le (r : List PV) (x : api_Value) (h : dec72 r = some x) : RowLe r (row72 x) := by
  unfold dec72 at h
  split at h
  · split at h
    · rename_i h0 h1 h2
      injection h with h; subst h; exact (.cons (dStr_le h0) (.cons (dInt_le h1) (.cons (dInt_le h2) RowLe.nil)))
    · cases h
  · cases h
def row74 (x : api_Routine) : List PV := [.val (.string x.Name), .lst false (.t68 x.Params), .lst false (.t68 x.Locals), .lst false (.t82 x.Body)]
def dec74 (r : List PV) : Option api_Routine := match r with
  | [c0, c1, c2, c3] => match dStr c0, dl68 c1, dl68 c2, dl82 c3 with
    | some a0, some a1, some a2, some a3 => some (api_Routine.mk a0 a1 a2 a3)
    | _, _, _, _ => none
  | _ => none
theorem dec74_le (r : List PV) (x : api_Routine) (h : dec74 r = some x) : RowLe r (row74 x) := by
  unfold dec74 at h
  split at h
  · split at h
    · rename_i h0 h1 h2 h3
      injection h with h; subst h; exact (.cons (dStr_le h0) (.cons (dl68_le h1) (.cons (dl68_le h2) (.cons (dl82_le h3) RowLe.nil))))
    · cases h
  · cases h
def row82 (x : api_Stmt) : List PV := [.val (.int .i64 x.Op), .val (.string x.Name), .val (.string x.Of), .val (.int .i64 x.E.Op), .val (.string x.E.Name), .val (.int .i64 x.E.N), .lst false (.t38 x.E.Kids), .val (.int .i64 x.F.Op), .val (.string x.F.Name), .val (.int .i64 x.F.N), .lst false (.t38 x.F.Kids), .lst false (.t38 x.Args), .val (.int .i64 x.Dist.Op), .val (.int .i64 x.Dist.A), .val (.int .i64 x.Dist.B), .val (.int .i64 x.Dist.N), .lst false (.t3 x.Dist.Values), .lst false (.t3 x.Dist.Weights), .val (.bool x.Flag), .lst false (.t82 x.Body), .lst false (.t82 x.Else)]
def dec82 (r : List PV) : Option api_Stmt := match r with
  | [c0, c1, c2, c3, c4, c5, c6, c7, c8, c9, c10, c11, c12, c13, c14, c15, c16, c17, c18, c19, c20] => match dInt .i64 c0, dStr c1, dStr c2, dInt .i64 c3, dStr c4, dInt .i64 c5, dl38 c6, dInt .i64 c7, dStr c8, dInt .i64 c9, dl38 c10, dl38 c11, dInt .i64 c12, dInt .i64 c13, dInt .i64 c14, dInt .i64 c15, dl3 c16, dl3 c17, dBool c18, dl82 c19, dl82 c20 with
    | some a0, some a1, some a2, some a3, some a4, some a5, some a6, some a7, some a8, some a9, some a10, some a11, some a12, some a13, some a14, some a15, some a16, some a17, some a18, some a19, some a20 => some (api_Stmt.mk a0 a1 a2 (api_Expr.mk a3 a4 a5 a6) (api_Expr.mk a7 a8 a9 a10) a11 (api_Dist.mk a12 a13 a14 a15 a16 a17) a18 a19 a20)
    | _, _, _, _, _, _, _, _, _, _, _, _, _, _, _, _, _, _, _, _, _ => none
  | _ => none
theorem dec82_le (r : List PV) (x : api_Stmt) (h : dec82 r = some x) : RowLe r (row82 x) := by
  unfold dec82 at h
  split at h
  · split at h
    · rename_i h0 h1 h2 h3 h4 h5 h6 h7 h8 h9 h10 h11 h12 h13 h14 h15 h16 h17 h18 h19 h20
      injection h with h; subst h; exact (.cons (dInt_le h0) (.cons (dStr_le h1) (.cons (dStr_le h2) (.cons (dInt_le h3) (.cons (dStr_le h4) (.cons (dInt_le h5) (.cons (dl38_le h6) (.cons (dInt_le h7) (.cons (dStr_le h8) (.cons (dInt_le h9) (.cons (dl38_le h10) (.cons (dl38_le h11) (.cons (dInt_le h12) (.cons (dInt_le h13) (.cons (dInt_le h14) (.cons (dInt_le h15) (.cons (dl3_le h16) (.cons (dl3_le h17) (.cons (dBool_le h18) (.cons (dl82_le h19) (.cons (dl82_le h20) RowLe.nil)))))))))))))))))))))
    · cases h
  · cases h
def row149 (x : api_ResourceDecl) : List PV := [.val (.string x.Name), .val (.int .i64 x.Units), .lst false (.t228 x.Shift), .val (.int .i64 x.Cycle), .val (.string x.Fault.Stream), .val (.int .i64 x.Fault.Up.Op), .val (.int .i64 x.Fault.Up.A), .val (.int .i64 x.Fault.Up.B), .val (.int .i64 x.Fault.Up.N), .lst false (.t3 x.Fault.Up.Values), .lst false (.t3 x.Fault.Up.Weights), .val (.int .i64 x.Fault.Down.Op), .val (.int .i64 x.Fault.Down.A), .val (.int .i64 x.Fault.Down.B), .val (.int .i64 x.Fault.Down.N), .lst false (.t3 x.Fault.Down.Values), .lst false (.t3 x.Fault.Down.Weights)]
def dec149 (r : List PV) : Option api_ResourceDecl := match r with
  | [c0, c1, c2, c3, c4, c5, c6, c7, c8, c9, c10, c11, c12, c13, c14, c15, c16] => match dStr c0, dInt .i64 c1, dl228 c2, dInt .i64 c3, dStr c4, dInt .i64 c5, dInt .i64 c6, dInt .i64 c7, dInt .i64 c8, dl3 c9, dl3 c10, dInt .i64 c11, dInt .i64 c12, dInt .i64 c13, dInt .i64 c14, dl3 c15, dl3 c16 with
    | some a0, some a1, some a2, some a3, some a4, some a5, some a6, some a7, some a8, some a9, some a10, some a11, some a12, some a13, some a14, some a15, some a16 => some (api_ResourceDecl.mk a0 a1 a2 a3 (api_Fault.mk a4 (api_Dist.mk a5 a6 a7 a8 a9 a10) (api_Dist.mk a11 a12 a13 a14 a15 a16)))
    | _, _, _, _, _, _, _, _, _, _, _, _, _, _, _, _, _ => none
  | _ => none
theorem dec149_le (r : List PV) (x : api_ResourceDecl) (h : dec149 r = some x) : RowLe r (row149 x) := by
  unfold dec149 at h
  split at h
  · split at h
    · rename_i h0 h1 h2 h3 h4 h5 h6 h7 h8 h9 h10 h11 h12 h13 h14 h15 h16
      injection h with h; subst h; exact (.cons (dStr_le h0) (.cons (dInt_le h1) (.cons (dl228_le h2) (.cons (dInt_le h3) (.cons (dStr_le h4) (.cons (dInt_le h5) (.cons (dInt_le h6) (.cons (dInt_le h7) (.cons (dInt_le h8) (.cons (dl3_le h9) (.cons (dl3_le h10) (.cons (dInt_le h11) (.cons (dInt_le h12) (.cons (dInt_le h13) (.cons (dInt_le h14) (.cons (dl3_le h15) (.cons (dl3_le h16) RowLe.nil)))))))))))))))))
    · cases h
  · cases h
def row156 (x : api_StoreDecl) : List PV := [.val (.string x.Name), .val (.int .i64 x.Room), .val (.int .i64 x.Policy)]
def dec156 (r : List PV) : Option api_StoreDecl := match r with
  | [c0, c1, c2] => match dStr c0, dInt .i64 c1, dInt .i64 c2 with
    | some a0, some a1, some a2 => some (api_StoreDecl.mk a0 a1 a2)
    | _, _, _ => none
  | _ => none
theorem dec156_le (r : List PV) (x : api_StoreDecl) (h : dec156 r = some x) : RowLe r (row156 x) := by
  unfold dec156 at h
  split at h
  · split at h
    · rename_i h0 h1 h2
      injection h with h; subst h; exact (.cons (dStr_le h0) (.cons (dInt_le h1) (.cons (dInt_le h2) RowLe.nil)))
    · cases h
  · cases h
def row160 (x : api_BeltDecl) : List PV := [.val (.string x.Name), .val (.int .i64 x.Length), .val (.int .i64 x.Step)]
def dec160 (r : List PV) : Option api_BeltDecl := match r with
  | [c0, c1, c2] => match dStr c0, dInt .i64 c1, dInt .i64 c2 with
    | some a0, some a1, some a2 => some (api_BeltDecl.mk a0 a1 a2)
    | _, _, _ => none
  | _ => none
theorem dec160_le (r : List PV) (x : api_BeltDecl) (h : dec160 r = some x) : RowLe r (row160 x) := by
  unfold dec160 at h
  split at h
  · split at h
    · rename_i h0 h1 h2
      injection h with h; subst h; exact (.cons (dStr_le h0) (.cons (dInt_le h1) (.cons (dInt_le h2) RowLe.nil)))
    · cases h
  · cases h
def row166 (x : api_Start) : List PV := [.val (.string x.Routine), .lst false (.t3 x.Args), .val (.int .i64 x.At), .val (.int .i64 x.Every), .val (.int .i64 x.Until)]
def dec166 (r : List PV) : Option api_Start := match r with
  | [c0, c1, c2, c3, c4] => match dStr c0, dl3 c1, dInt .i64 c2, dInt .i64 c3, dInt .i64 c4 with
    | some a0, some a1, some a2, some a3, some a4 => some (api_Start.mk a0 a1 a2 a3 a4)
    | _, _, _, _, _ => none
  | _ => none
theorem dec166_le (r : List PV) (x : api_Start) (h : dec166 r = some x) : RowLe r (row166 x) := by
  unfold dec166 at h
  split at h
  · split at h
    · rename_i h0 h1 h2 h3 h4
      injection h with h; subst h; exact (.cons (dStr_le h0) (.cons (dl3_le h1) (.cons (dInt_le h2) (.cons (dInt_le h3) (.cons (dInt_le h4) RowLe.nil)))))
    · cases h
  · cases h
def row172 (x : api_Link) : List PV := [.val (.string x.From), .val (.string x.To), .val (.int .i64 x.Delay)]
def dec172 (r : List PV) : Option api_Link := match r with
  | [c0, c1, c2] => match dStr c0, dStr c1, dInt .i64 c2 with
    | some a0, some a1, some a2 => some (api_Link.mk a0 a1 a2)
    | _, _, _ => none
  | _ => none
theorem dec172_le (r : List PV) (x : api_Link) (h : dec172 r = some x) : RowLe r (row172 x) := by
  unfold dec172 at h
  split at h
  · split at h
    · rename_i h0 h1 h2
      injection h with h; subst h; exact (.cons (dStr_le h0) (.cons (dStr_le h1) (.cons (dInt_le h2) RowLe.nil)))
    · cases h
  · cases h
def row173 (x : Arr2_ByteArray) : List PV := [.val (.string x.a0), .val (.string x.a1)]
def dec173 (r : List PV) : Option Arr2_ByteArray := match r with
  | [c0, c1] => match dStr c0, dStr c1 with
    | some a0, some a1 => some (Arr2_ByteArray.mk a0 a1)
    | _, _ => none
  | _ => none
theorem dec173_le (r : List PV) (x : Arr2_ByteArray) (h : dec173 r = some x) : RowLe r (row173 x) := by
  unfold dec173 at h
  split at h
  · split at h
    · rename_i h0 h1
      injection h with h; subst h; exact (.cons (dStr_le h0) (.cons (dStr_le h1) RowLe.nil))
    · cases h
  · cases h
def row184 (x : api_Law) : List PV := [.val (.string x.Name), .lst false (.t234 x.Terms), .val (.int .i64 x.Total)]
def dec184 (r : List PV) : Option api_Law := match r with
  | [c0, c1, c2] => match dStr c0, dl234 c1, dInt .i64 c2 with
    | some a0, some a1, some a2 => some (api_Law.mk a0 a1 a2)
    | _, _, _ => none
  | _ => none
theorem dec184_le (r : List PV) (x : api_Law) (h : dec184 r = some x) : RowLe r (row184 x) := by
  unfold dec184 at h
  split at h
  · split at h
    · rename_i h0 h1 h2
      injection h with h; subst h; exact (.cons (dStr_le h0) (.cons (dl234_le h1) (.cons (dInt_le h2) RowLe.nil)))
    · cases h
  · cases h
def row188 (x : St_is_name) : List PV := [.val (.bool x.u_is), .val (.string x.u_name)]
def dec188 (r : List PV) : Option St_is_name := match r with
  | [c0, c1] => match dBool c0, dStr c1 with
    | some a0, some a1 => some (St_is_name.mk a0 a1)
    | _, _ => none
  | _ => none
theorem dec188_le (r : List PV) (x : St_is_name) (h : dec188 r = some x) : RowLe r (row188 x) := by
  unfold dec188 at h
  split at h
  · split at h
    · rename_i h0 h1
      injection h with h; subst h; exact (.cons (dBool_le h0) (.cons (dStr_le h1) RowLe.nil))
    · cases h
  · cases h
def row190 (x : St_is_e) : List PV := [.val (.bool x.u_is), .val (.int .i64 x.u_e.Op), .val (.string x.u_e.Name), .val (.int .i64 x.u_e.N), .lst false (.t38 x.u_e.Kids)]
def dec190 (r : List PV) : Option St_is_e := match r with
  | [c0, c1, c2, c3, c4] => match dBool c0, dInt .i64 c1, dStr c2, dInt .i64 c3, dl38 c4 with
    | some a0, some a1, some a2, some a3, some a4 => some (St_is_e.mk a0 (api_Expr.mk a1 a2 a3 a4))
    | _, _, _, _, _ => none
  | _ => none
theorem dec190_le (r : List PV) (x : St_is_e) (h : dec190 r = some x) : RowLe r (row190 x) := by
  unfold dec190 at h
  split at h
  · split at h
    · rename_i h0 h1 h2 h3 h4
      injection h with h; subst h; exact (.cons (dBool_le h0) (.cons (dInt_le h1) (.cons (dStr_le h2) (.cons (dInt_le h3) (.cons (dl38_le h4) RowLe.nil)))))
    · cases h
  · cases h
def row228 (x : api_Change) : List PV := [.val (.int .i64 x.At), .val (.int .i64 x.Units)]
def dec228 (r : List PV) : Option api_Change := match r with
  | [c0, c1] => match dInt .i64 c0, dInt .i64 c1 with
    | some a0, some a1 => some (api_Change.mk a0 a1)
    | _, _ => none
  | _ => none
theorem dec228_le (r : List PV) (x : api_Change) (h : dec228 r = some x) : RowLe r (row228 x) := by
  unfold dec228 at h
  split at h
  · split at h
    · rename_i h0 h1
      injection h with h; subst h; exact (.cons (dInt_le h0) (.cons (dInt_le h1) RowLe.nil))
    · cases h
  · cases h
def row234 (x : api_Term) : List PV := [.val (.int .i64 x.Coef), .val (.string x.What), .val (.string x.Name)]
def dec234 (r : List PV) : Option api_Term := match r with
  | [c0, c1, c2] => match dInt .i64 c0, dStr c1, dStr c2 with
    | some a0, some a1, some a2 => some (api_Term.mk a0 a1 a2)
    | _, _, _ => none
  | _ => none
theorem dec234_le (r : List PV) (x : api_Term) (h : dec234 r = some x) : RowLe r (row234 x) := by
  unfold dec234 at h
  split at h
  · split at h
    · rename_i h0 h1 h2
      injection h with h; subst h; exact (.cons (dInt_le h0) (.cons (dStr_le h1) (.cons (dStr_le h2) RowLe.nil)))
    · cases h
  · cases h
def LX.row (x : LX) (i : Nat) : List PV := match x with
  | .t3 l => row3 (l.getD i default)
  | .t4 l => row4 (l.getD i default)
  | .t9 l => row9 (l.getD i default)
  | .t23 l => row23 (l.getD i default)
  | .t27 l => row27 (l.getD i default)
  | .t32 l => row32 (l.getD i default)
  | .t38 l => row38 (l.getD i default)
  | .t41 l => row41 (l.getD i default)
  | .t68 l => row68 (l.getD i default)
  | .t72 l => row72 (l.getD i default)
  | .t74 l => row74 (l.getD i default)
  | .t82 l => row82 (l.getD i default)
  | .t149 l => row149 (l.getD i default)
  | .t156 l => row156 (l.getD i default)
  | .t160 l => row160 (l.getD i default)
  | .t166 l => row166 (l.getD i default)
  | .t172 l => row172 (l.getD i default)
  | .t173 l => row173 (l.getD i default)
  | .t184 l => row184 (l.getD i default)
  | .t188 l => row188 (l.getD i default)
  | .t190 l => row190 (l.getD i default)
  | .t228 l => row228 (l.getD i default)
  | .t234 l => row234 (l.getD i default)

def LX.lit (e : Nat) (rs : List (List PV)) : Option LX := match Nat.beq e 3 with
  | true => match decs dec3 rs with
    | some l => some (.t3 l)
    | none => none
  | false => match Nat.beq e 4 with
  | true => match decs dec4 rs with
    | some l => some (.t4 l)
    | none => none
  | false => match Nat.beq e 9 with
  | true => match decs dec9 rs with
    | some l => some (.t9 l)
    | none => none
  | false => match Nat.beq e 23 with
  | true => match decs dec23 rs with
    | some l => some (.t23 l)
    | none => none
  | false => match Nat.beq e 27 with
  | true => match decs dec27 rs with
    | some l => some (.t27 l)
    | none => none
  | false => match Nat.beq e 32 with
  | true => match decs dec32 rs with
    | some l => some (.t32 l)
    | none => none
  | false => match Nat.beq e 38 with
  | true => match decs dec38 rs with
    | some l => some (.t38 l)
    | none => none
  | false => match Nat.beq e 41 with
  | true => match decs dec41 rs with
    | some l => some (.t41 l)
    | none => none
  | false => match Nat.beq e 68 with
  | true => match decs dec68 rs with
    | some l => some (.t68 l)
    | none => none
  | false => match Nat.beq e 72 with
  | true => match decs dec72 rs with
    | some l => some (.t72 l)
    | none => none
  | false => match Nat.beq e 74 with
  | true => match decs dec74 rs with
    | some l => some (.t74 l)
    | none => none
  | false => match Nat.beq e 82 with
  | true => match decs dec82 rs with
    | some l => some (.t82 l)
    | none => none
  | false => match Nat.beq e 149 with
  | true => match decs dec149 rs with
    | some l => some (.t149 l)
    | none => none
  | false => match Nat.beq e 156 with
  | true => match decs dec156 rs with
    | some l => some (.t156 l)
    | none => none
  | false => match Nat.beq e 160 with
  | true => match decs dec160 rs with
    | some l => some (.t160 l)
    | none => none
  | false => match Nat.beq e 166 with
  | true => match decs dec166 rs with
    | some l => some (.t166 l)
    | none => none
  | false => match Nat.beq e 172 with
  | true => match decs dec172 rs with
    | some l => some (.t172 l)
    | none => none
  | false => match Nat.beq e 173 with
  | true => match decs dec173 rs with
    | some l => some (.t173 l)
    | none => none
  | false => match Nat.beq e 184 with
  | true => match decs dec184 rs with
    | some l => some (.t184 l)
    | none => none
  | false => match Nat.beq e 188 with
  | true => match decs dec188 rs with
    | some l => some (.t188 l)
    | none => none
  | false => match Nat.beq e 190 with
  | true => match decs dec190 rs with
    | some l => some (.t190 l)
    | none => none
  | false => match Nat.beq e 228 with
  | true => match decs dec228 rs with
    | some l => some (.t228 l)
    | none => none
  | false => match Nat.beq e 234 with
  | true => match decs dec234 rs with
    | some l => some (.t234 l)
    | none => none
  | false => none

def LX.set (x : LX) (i off : Nat) (c : List PV) : Option LX := match x with
  | .t3 l => match lenGe0 (row3 (l.getD i default)) (off + c.length), dec3 (setN (row3 (l.getD i default)) off c) with
    | true, some a => some (.t3 (l.set i a))
    | _, _ => none
  | .t4 l => match lenGe0 (row4 (l.getD i default)) (off + c.length), dec4 (setN (row4 (l.getD i default)) off c) with
    | true, some a => some (.t4 (l.set i a))
    | _, _ => none
  | .t9 l => match lenGe0 (row9 (l.getD i default)) (off + c.length), dec9 (setN (row9 (l.getD i default)) off c) with
    | true, some a => some (.t9 (l.set i a))
    | _, _ => none
  | .t23 l => match lenGe0 (row23 (l.getD i default)) (off + c.length), dec23 (setN (row23 (l.getD i default)) off c) with
    | true, some a => some (.t23 (l.set i a))
    | _, _ => none
  | .t27 l => match lenGe0 (row27 (l.getD i default)) (off + c.length), dec27 (setN (row27 (l.getD i default)) off c) with
    | true, some a => some (.t27 (l.set i a))
    | _, _ => none
  | .t32 l => match lenGe0 (row32 (l.getD i default)) (off + c.length), dec32 (setN (row32 (l.getD i default)) off c) with
    | true, some a => some (.t32 (l.set i a))
    | _, _ => none
  | .t38 l => match lenGe0 (row38 (l.getD i default)) (off + c.length), dec38 (setN (row38 (l.getD i default)) off c) with
    | true, some a => some (.t38 (l.set i a))
    | _, _ => none
  | .t41 l => match lenGe0 (row41 (l.getD i default)) (off + c.length), dec41 (setN (row41 (l.getD i default)) off c) with
    | true, some a => some (.t41 (l.set i a))
    | _, _ => none
  | .t68 l => match lenGe0 (row68 (l.getD i default)) (off + c.length), dec68 (setN (row68 (l.getD i default)) off c) with
    | true, some a => some (.t68 (l.set i a))
    | _, _ => none
  | .t72 l => match lenGe0 (row72 (l.getD i default)) (off + c.length), dec72 (setN (row72 (l.getD i default)) off c) with
    | true, some a => some (.t72 (l.set i a))
    | _, _ => none
  | .t74 l => match lenGe0 (row74 (l.getD i default)) (off + c.length), dec74 (setN (row74 (l.getD i default)) off c) with
    | true, some a => some (.t74 (l.set i a))
    | _, _ => none
  | .t82 l => match lenGe0 (row82 (l.getD i default)) (off + c.length), dec82 (setN (row82 (l.getD i default)) off c) with
    | true, some a => some (.t82 (l.set i a))
    | _, _ => none
  | .t149 l => match lenGe0 (row149 (l.getD i default)) (off + c.length), dec149 (setN (row149 (l.getD i default)) off c) with
    | true, some a => some (.t149 (l.set i a))
    | _, _ => none
  | .t156 l => match lenGe0 (row156 (l.getD i default)) (off + c.length), dec156 (setN (row156 (l.getD i default)) off c) with
    | true, some a => some (.t156 (l.set i a))
    | _, _ => none
  | .t160 l => match lenGe0 (row160 (l.getD i default)) (off + c.length), dec160 (setN (row160 (l.getD i default)) off c) with
    | true, some a => some (.t160 (l.set i a))
    | _, _ => none
  | .t166 l => match lenGe0 (row166 (l.getD i default)) (off + c.length), dec166 (setN (row166 (l.getD i default)) off c) with
    | true, some a => some (.t166 (l.set i a))
    | _, _ => none
  | .t172 l => match lenGe0 (row172 (l.getD i default)) (off + c.length), dec172 (setN (row172 (l.getD i default)) off c) with
    | true, some a => some (.t172 (l.set i a))
    | _, _ => none
  | .t173 l => match lenGe0 (row173 (l.getD i default)) (off + c.length), dec173 (setN (row173 (l.getD i default)) off c) with
    | true, some a => some (.t173 (l.set i a))
    | _, _ => none
  | .t184 l => match lenGe0 (row184 (l.getD i default)) (off + c.length), dec184 (setN (row184 (l.getD i default)) off c) with
    | true, some a => some (.t184 (l.set i a))
    | _, _ => none
  | .t188 l => match lenGe0 (row188 (l.getD i default)) (off + c.length), dec188 (setN (row188 (l.getD i default)) off c) with
    | true, some a => some (.t188 (l.set i a))
    | _, _ => none
  | .t190 l => match lenGe0 (row190 (l.getD i default)) (off + c.length), dec190 (setN (row190 (l.getD i default)) off c) with
    | true, some a => some (.t190 (l.set i a))
    | _, _ => none
  | .t228 l => match lenGe0 (row228 (l.getD i default)) (off + c.length), dec228 (setN (row228 (l.getD i default)) off c) with
    | true, some a => some (.t228 (l.set i a))
    | _, _ => none
  | .t234 l => match lenGe0 (row234 (l.getD i default)) (off + c.length), dec234 (setN (row234 (l.getD i default)) off c) with
    | true, some a => some (.t234 (l.set i a))
    | _, _ => none

def LX.find (x : LX) (c : List PV) : Option (Option Nat) := match x, c with
  | .t3 l, [.val (.int k0 a0)] => match decide (k0 = .i64) with
    | true => some (l.findIdx? fun b => a0 == b)
    | _ => none
  | .t4 l, [.val (.bool a0)] => some (l.findIdx? fun b => a0 == b)
  | .t9 l, [.val (.string a0)] => some (l.findIdx? fun b => a0 == b)
  | .t41 l, [.val (.int k0 a0)] => match decide (k0 = .i64) with
    | true => some (l.findIdx? fun b => a0 == b)
    | _ => none
  | .t173 l, [.val (.string a0), .val (.string a1)] => some (l.findIdx? fun b => (a0 == b.a0 && (a1 == b.a1)))
  | _, _ => none

def LX.push (x : LX) (c : List PV) : Option LX := match LX.lit x.e [c] with
  | some y => x.cat y
  | none => none

theorem LX.row_len (x : LX) (i : Nat) : (x.row i).length = x.sz := by cases x <;> rfl
theorem LX.row_flat (x : LX) (i : Nat) : ∀ p ∈ x.row i, p.flat = true := flats_mem _ (by cases x <;> rfl)
theorem LX.nil_spec (e : Nat) (x : LX) (h : LX.nil e = some x) : x.e = e ∧ x.len = 0 := by
  unfold LX.nil at h
  cases b3 : Nat.beq e 3 with
  | true =>
    simp only [b3] at h
    injection h with h; subst h; exact ⟨(Nat.eq_of_beq_eq_true b3).symm, rfl⟩
  | false =>
    simp only [b3] at h
    cases b4 : Nat.beq e 4 with
    | true =>
      simp only [b4] at h
      injection h with h; subst h; exact ⟨(Nat.eq_of_beq_eq_true b4).symm, rfl⟩
    | false =>
      simp only [b4] at h
      cases b9 : Nat.beq e 9 with
      | true =>
        simp only [b9] at h
        injection h with h; subst h; exact ⟨(Nat.eq_of_beq_eq_true b9).symm, rfl⟩
      | false =>
        simp only [b9] at h
        cases b23 : Nat.beq e 23 with
        | true =>
          simp only [b23] at h
          injection h with h; subst h; exact ⟨(Nat.eq_of_beq_eq_true b23).symm, rfl⟩
        | false =>
          simp only [b23] at h
          cases b27 : Nat.beq e 27 with
          | true =>
            simp only [b27] at h
            injection h with h; subst h; exact ⟨(Nat.eq_of_beq_eq_true b27).symm, rfl⟩
          | false =>
            simp only [b27] at h
            cases b32 : Nat.beq e 32 with
            | true =>
              simp only [b32] at h
              injection h with h; subst h; exact ⟨(Nat.eq_of_beq_eq_true b32).symm, rfl⟩
            | false =>
              simp only [b32] at h
              cases b38 : Nat.beq e 38 with
              | true =>
                simp only [b38] at h
                injection h with h; subst h; exact ⟨(Nat.eq_of_beq_eq_true b38).symm, rfl⟩
              | false =>
                simp only [b38] at h
                cases b41 : Nat.beq e 41 with
                | true =>
                  simp only [b41] at h
                  injection h with h; subst h; exact ⟨(Nat.eq_of_beq_eq_true b41).symm, rfl⟩
                | false =>
                  simp only [b41] at h
                  cases b68 : Nat.beq e 68 with
                  | true =>
                    simp only [b68] at h
                    injection h with h; subst h; exact ⟨(Nat.eq_of_beq_eq_true b68).symm, rfl⟩
                  | false =>
                    simp only [b68] at h
                    cases b72 : Nat.beq e 72 with
                    | true =>
                      simp only [b72] at h
                      injection h with h; subst h; exact ⟨(Nat.eq_of_beq_eq_true b72).symm, rfl⟩
                    | false =>
                      simp only [b72] at h
                      cases b74 : Nat.beq e 74 with
                      | true =>
                        simp only [b74] at h
                        injection h with h; subst h; exact ⟨(Nat.eq_of_beq_eq_true b74).symm, rfl⟩
                      | false =>
                        simp only [b74] at h
                        cases b82 : Nat.beq e 82 with
                        | true =>
                          simp only [b82] at h
                          injection h with h; subst h; exact ⟨(Nat.eq_of_beq_eq_true b82).symm, rfl⟩
                        | false =>
                          simp only [b82] at h
                          cases b149 : Nat.beq e 149 with
                          | true =>
                            simp only [b149] at h
                            injection h with h; subst h; exact ⟨(Nat.eq_of_beq_eq_true b149).symm, rfl⟩
                          | false =>
                            simp only [b149] at h
                            cases b156 : Nat.beq e 156 with
                            | true =>
                              simp only [b156] at h
                              injection h with h; subst h; exact ⟨(Nat.eq_of_beq_eq_true b156).symm, rfl⟩
                            | false =>
                              simp only [b156] at h
                              cases b160 : Nat.beq e 160 with
                              | true =>
                                simp only [b160] at h
                                injection h with h; subst h; exact ⟨(Nat.eq_of_beq_eq_true b160).symm, rfl⟩
                              | false =>
                                simp only [b160] at h
                                cases b166 : Nat.beq e 166 with
                                | true =>
                                  simp only [b166] at h
                                  injection h with h; subst h; exact ⟨(Nat.eq_of_beq_eq_true b166).symm, rfl⟩
                                | false =>
                                  simp only [b166] at h
                                  cases b172 : Nat.beq e 172 with
                                  | true =>
                                    simp only [b172] at h
                                    injection h with h; subst h; exact ⟨(Nat.eq_of_beq_eq_true b172).symm, rfl⟩
                                  | false =>
                                    simp only [b172] at h
                                    cases b173 : Nat.beq e 173 with
                                    | true =>
                                      simp only [b173] at h
                                      injection h with h; subst h; exact ⟨(Nat.eq_of_beq_eq_true b173).symm, rfl⟩
                                    | false =>
                                      simp only [b173] at h
                                      cases b184 : Nat.beq e 184 with
                                      | true =>
                                        simp only [b184] at h
                                        injection h with h; subst h; exact ⟨(Nat.eq_of_beq_eq_true b184).symm, rfl⟩
                                      | false =>
                                        simp only [b184] at h
                                        cases b188 : Nat.beq e 188 with
                                        | true =>
                                          simp only [b188] at h
                                          injection h with h; subst h; exact ⟨(Nat.eq_of_beq_eq_true b188).symm, rfl⟩
                                        | false =>
                                          simp only [b188] at h
                                          cases b190 : Nat.beq e 190 with
                                          | true =>
                                            simp only [b190] at h
                                            injection h with h; subst h; exact ⟨(Nat.eq_of_beq_eq_true b190).symm, rfl⟩
                                          | false =>
                                            simp only [b190] at h
                                            cases b228 : Nat.beq e 228 with
                                            | true =>
                                              simp only [b228] at h
                                              injection h with h; subst h; exact ⟨(Nat.eq_of_beq_eq_true b228).symm, rfl⟩
                                            | false =>
                                              simp only [b228] at h
                                              cases b234 : Nat.beq e 234 with
                                              | true =>
                                                simp only [b234] at h
                                                injection h with h; subst h; exact ⟨(Nat.eq_of_beq_eq_true b234).symm, rfl⟩
                                              | false =>
                                                simp only [b234] at h
                                                cases h
theorem LX.lit_spec (e : Nat) (rs : List (List PV)) (x : LX) (h : LX.lit e rs = some x) : x.e = e ∧ x.len = rs.length ∧ ∀ (i : Nat) (r : List PV), rs[i]? = some r → RowLe r (x.row i) := by
  unfold LX.lit at h
  cases b3 : Nat.beq e 3 with
  | true =>
    simp only [b3] at h
    cases hd : decs dec3 rs with
    | none => rw [hd] at h; cases h
    | some l =>
      rw [hd] at h
      injection h with h; subst h
      obtain ⟨q1, q2⟩ := decs_spec dec3_le rs l hd
      exact ⟨(Nat.eq_of_beq_eq_true b3).symm, q1, q2⟩
  | false =>
    simp only [b3] at h
    cases b4 : Nat.beq e 4 with
    | true =>
      simp only [b4] at h
      cases hd : decs dec4 rs with
      | none => rw [hd] at h; cases h
      | some l =>
        rw [hd] at h
        injection h with h; subst h
        obtain ⟨q1, q2⟩ := decs_spec dec4_le rs l hd
        exact ⟨(Nat.eq_of_beq_eq_true b4).symm, q1, q2⟩
    | false =>
      simp only [b4] at h
      cases b9 : Nat.beq e 9 with
      | true =>
        simp only [b9] at h
        cases hd : decs dec9 rs with
        | none => rw [hd] at h; cases h
        | some l =>
          rw [hd] at h
          injection h with h; subst h
          obtain ⟨q1, q2⟩ := decs_spec dec9_le rs l hd
          exact ⟨(Nat.eq_of_beq_eq_true b9).symm, q1, q2⟩
      | false =>
        simp only [b9] at h
        cases b23 : Nat.beq e 23 with
        | true =>
          simp only [b23] at h
          cases hd : decs dec23 rs with
          | none => rw [hd] at h; cases h
          | some l =>
            rw [hd] at h
            injection h with h; subst h
            obtain ⟨q1, q2⟩ := decs_spec dec23_le rs l hd
            exact ⟨(Nat.eq_of_beq_eq_true b23).symm, q1, q2⟩
        | false =>
          simp only [b23] at h
          cases b27 : Nat.beq e 27 with
          | true =>
            simp only [b27] at h
            cases hd : decs dec27 rs with
            | none => rw [hd] at h; cases h
            | some l =>
              rw [hd] at h
              injection h with h; subst h
              obtain ⟨q1, q2⟩ := decs_spec dec27_le rs l hd
              exact ⟨(Nat.eq_of_beq_eq_true b27).symm, q1, q2⟩
          | false =>
            simp only [b27] at h
            cases b32 : Nat.beq e 32 with
            | true =>
              simp only [b32] at h
              cases hd : decs dec32 rs with
              | none => rw [hd] at h; cases h
              | some l =>
                rw [hd] at h
                injection h with h; subst h
                obtain ⟨q1, q2⟩ := decs_spec dec32_le rs l hd
                exact ⟨(Nat.eq_of_beq_eq_true b32).symm, q1, q2⟩
            | false =>
              simp only [b32] at h
              cases b38 : Nat.beq e 38 with
              | true =>
                simp only [b38] at h
                cases hd : decs dec38 rs with
                | none => rw [hd] at h; cases h
                | some l =>
                  rw [hd] at h
                  injection h with h; subst h
                  obtain ⟨q1, q2⟩ := decs_spec dec38_le rs l hd
                  exact ⟨(Nat.eq_of_beq_eq_true b38).symm, q1, q2⟩
              | false =>
                simp only [b38] at h
                cases b41 : Nat.beq e 41 with
                | true =>
                  simp only [b41] at h
                  cases hd : decs dec41 rs with
                  | none => rw [hd] at h; cases h
                  | some l =>
                    rw [hd] at h
                    injection h with h; subst h
                    obtain ⟨q1, q2⟩ := decs_spec dec41_le rs l hd
                    exact ⟨(Nat.eq_of_beq_eq_true b41).symm, q1, q2⟩
                | false =>
                  simp only [b41] at h
                  cases b68 : Nat.beq e 68 with
                  | true =>
                    simp only [b68] at h
                    cases hd : decs dec68 rs with
                    | none => rw [hd] at h; cases h
                    | some l =>
                      rw [hd] at h
                      injection h with h; subst h
                      obtain ⟨q1, q2⟩ := decs_spec dec68_le rs l hd
                      exact ⟨(Nat.eq_of_beq_eq_true b68).symm, q1, q2⟩
                  | false =>
                    simp only [b68] at h
                    cases b72 : Nat.beq e 72 with
                    | true =>
                      simp only [b72] at h
                      cases hd : decs dec72 rs with
                      | none => rw [hd] at h; cases h
                      | some l =>
                        rw [hd] at h
                        injection h with h; subst h
                        obtain ⟨q1, q2⟩ := decs_spec dec72_le rs l hd
                        exact ⟨(Nat.eq_of_beq_eq_true b72).symm, q1, q2⟩
                    | false =>
                      simp only [b72] at h
                      cases b74 : Nat.beq e 74 with
                      | true =>
                        simp only [b74] at h
                        cases hd : decs dec74 rs with
                        | none => rw [hd] at h; cases h
                        | some l =>
                          rw [hd] at h
                          injection h with h; subst h
                          obtain ⟨q1, q2⟩ := decs_spec dec74_le rs l hd
                          exact ⟨(Nat.eq_of_beq_eq_true b74).symm, q1, q2⟩
                      | false =>
                        simp only [b74] at h
                        cases b82 : Nat.beq e 82 with
                        | true =>
                          simp only [b82] at h
                          cases hd : decs dec82 rs with
                          | none => rw [hd] at h; cases h
                          | some l =>
                            rw [hd] at h
                            injection h with h; subst h
                            obtain ⟨q1, q2⟩ := decs_spec dec82_le rs l hd
                            exact ⟨(Nat.eq_of_beq_eq_true b82).symm, q1, q2⟩
                        | false =>
                          simp only [b82] at h
                          cases b149 : Nat.beq e 149 with
                          | true =>
                            simp only [b149] at h
                            cases hd : decs dec149 rs with
                            | none => rw [hd] at h; cases h
                            | some l =>
                              rw [hd] at h
                              injection h with h; subst h
                              obtain ⟨q1, q2⟩ := decs_spec dec149_le rs l hd
                              exact ⟨(Nat.eq_of_beq_eq_true b149).symm, q1, q2⟩
                          | false =>
                            simp only [b149] at h
                            cases b156 : Nat.beq e 156 with
                            | true =>
                              simp only [b156] at h
                              cases hd : decs dec156 rs with
                              | none => rw [hd] at h; cases h
                              | some l =>
                                rw [hd] at h
                                injection h with h; subst h
                                obtain ⟨q1, q2⟩ := decs_spec dec156_le rs l hd
                                exact ⟨(Nat.eq_of_beq_eq_true b156).symm, q1, q2⟩
                            | false =>
                              simp only [b156] at h
                              cases b160 : Nat.beq e 160 with
                              | true =>
                                simp only [b160] at h
                                cases hd : decs dec160 rs with
                                | none => rw [hd] at h; cases h
                                | some l =>
                                  rw [hd] at h
                                  injection h with h; subst h
                                  obtain ⟨q1, q2⟩ := decs_spec dec160_le rs l hd
                                  exact ⟨(Nat.eq_of_beq_eq_true b160).symm, q1, q2⟩
                              | false =>
                                simp only [b160] at h
                                cases b166 : Nat.beq e 166 with
                                | true =>
                                  simp only [b166] at h
                                  cases hd : decs dec166 rs with
                                  | none => rw [hd] at h; cases h
                                  | some l =>
                                    rw [hd] at h
                                    injection h with h; subst h
                                    obtain ⟨q1, q2⟩ := decs_spec dec166_le rs l hd
                                    exact ⟨(Nat.eq_of_beq_eq_true b166).symm, q1, q2⟩
                                | false =>
                                  simp only [b166] at h
                                  cases b172 : Nat.beq e 172 with
                                  | true =>
                                    simp only [b172] at h
                                    cases hd : decs dec172 rs with
                                    | none => rw [hd] at h; cases h
                                    | some l =>
                                      rw [hd] at h
                                      injection h with h; subst h
                                      obtain ⟨q1, q2⟩ := decs_spec dec172_le rs l hd
                                      exact ⟨(Nat.eq_of_beq_eq_true b172).symm, q1, q2⟩
                                  | false =>
                                    simp only [b172] at h
                                    cases b173 : Nat.beq e 173 with
                                    | true =>
                                      simp only [b173] at h
                                      cases hd : decs dec173 rs with
                                      | none => rw [hd] at h; cases h
                                      | some l =>
                                        rw [hd] at h
                                        injection h with h; subst h
                                        obtain ⟨q1, q2⟩ := decs_spec dec173_le rs l hd
                                        exact ⟨(Nat.eq_of_beq_eq_true b173).symm, q1, q2⟩
                                    | false =>
                                      simp only [b173] at h
                                      cases b184 : Nat.beq e 184 with
                                      | true =>
                                        simp only [b184] at h
                                        cases hd : decs dec184 rs with
                                        | none => rw [hd] at h; cases h
                                        | some l =>
                                          rw [hd] at h
                                          injection h with h; subst h
                                          obtain ⟨q1, q2⟩ := decs_spec dec184_le rs l hd
                                          exact ⟨(Nat.eq_of_beq_eq_true b184).symm, q1, q2⟩
                                      | false =>
                                        simp only [b184] at h
                                        cases b188 : Nat.beq e 188 with
                                        | true =>
                                          simp only [b188] at h
                                          cases hd : decs dec188 rs with
                                          | none => rw [hd] at h; cases h
                                          | some l =>
                                            rw [hd] at h
                                            injection h with h; subst h
                                            obtain ⟨q1, q2⟩ := decs_spec dec188_le rs l hd
                                            exact ⟨(Nat.eq_of_beq_eq_true b188).symm, q1, q2⟩
                                        | false =>
                                          simp only [b188] at h
                                          cases b190 : Nat.beq e 190 with
                                          | true =>
                                            simp only [b190] at h
                                            cases hd : decs dec190 rs with
                                            | none => rw [hd] at h; cases h
                                            | some l =>
                                              rw [hd] at h
                                              injection h with h; subst h
                                              obtain ⟨q1, q2⟩ := decs_spec dec190_le rs l hd
                                              exact ⟨(Nat.eq_of_beq_eq_true b190).symm, q1, q2⟩
                                          | false =>
                                            simp only [b190] at h
                                            cases b228 : Nat.beq e 228 with
                                            | true =>
                                              simp only [b228] at h
                                              cases hd : decs dec228 rs with
                                              | none => rw [hd] at h; cases h
                                              | some l =>
                                                rw [hd] at h
                                                injection h with h; subst h
                                                obtain ⟨q1, q2⟩ := decs_spec dec228_le rs l hd
                                                exact ⟨(Nat.eq_of_beq_eq_true b228).symm, q1, q2⟩
                                            | false =>
                                              simp only [b228] at h
                                              cases b234 : Nat.beq e 234 with
                                              | true =>
                                                simp only [b234] at h
                                                cases hd : decs dec234 rs with
                                                | none => rw [hd] at h; cases h
                                                | some l =>
                                                  rw [hd] at h
                                                  injection h with h; subst h
                                                  obtain ⟨q1, q2⟩ := decs_spec dec234_le rs l hd
                                                  exact ⟨(Nat.eq_of_beq_eq_true b234).symm, q1, q2⟩
                                              | false =>
                                                simp only [b234] at h
                                                cases h
theorem getD_app_l {α : Type} [Inhabited α] (l m : List α) (i : Nat) (h : i < l.length) : (l ++ m).getD i default = l.getD i default := by
  simp [List.getD, List.getElem?_append_left h]
theorem getD_app_r {α : Type} [Inhabited α] (l m : List α) (i : Nat) : (l ++ m).getD (l.length + i) default = m.getD i default := by
  simp [List.getD, List.getElem?_append_right]
theorem getD_sub {α : Type} [Inhabited α] (l : List α) (a b i : Nat) (h1 : b ≤ l.length) (h2 : i < b - a) : ((l.take b).drop a).getD i default = l.getD (a + i) default := by
  simp only [List.getD_eq_getElem?_getD, List.getElem?_drop, List.getElem?_take]
  rw [if_pos (by omega)]
theorem getD_rep {α : Type} [Inhabited α] (n i : Nat) (a : α) (h : i < n) : (List.replicate n a).getD i default = a := by
  simp [List.getD_eq_getElem?_getD, List.getElem?_replicate, h]
theorem getD_set_eq {α : Type} [Inhabited α] (l : List α) (i : Nat) (a : α) (h : i < l.length) : (l.set i a).getD i default = a := by
  simp [List.getD_eq_getElem?_getD, h]
theorem getD_set_ne {α : Type} [Inhabited α] (l : List α) (i j : Nat) (a : α) (h : j ≠ i) : (l.set i a).getD j default = l.getD j default := by
  simp [List.getD_eq_getElem?_getD, List.getElem?_set_ne (fun e => h e.symm)]
theorem getD_eq {α : Type} [Inhabited α] (l : List α) (i : Nat) (h : i < l.length) : l.getD i default = l[i] := by
  simp [List.getD_eq_getElem?_getD, h]

theorem LX.g3_eq (y : LX) (m : List Int) (h : y.g3 = some m) : y = .t3 m := by cases y <;> simp only [LX.g3] at h <;> first | (injection h with h; subst h; rfl) | cases h
theorem LX.g4_eq (y : LX) (m : List Bool) (h : y.g4 = some m) : y = .t4 m := by cases y <;> simp only [LX.g4] at h <;> first | (injection h with h; subst h; rfl) | cases h
theorem LX.g9_eq (y : LX) (m : List ByteArray) (h : y.g9 = some m) : y = .t9 m := by cases y <;> simp only [LX.g9] at h <;> first | (injection h with h; subst h; rfl) | cases h
theorem LX.g23_eq (y : LX) (m : List (List api_Field)) (h : y.g23 = some m) : y = .t23 m := by cases y <;> simp only [LX.g23] at h <;> first | (injection h with h; subst h; rfl) | cases h
theorem LX.g27_eq (y : LX) (m : List (List ByteArray)) (h : y.g27 = some m) : y = .t27 m := by cases y <;> simp only [LX.g27] at h <;> first | (injection h with h; subst h; rfl) | cases h
theorem LX.g32_eq (y : LX) (m : List api_SiteDecl) (h : y.g32 = some m) : y = .t32 m := by cases y <;> simp only [LX.g32] at h <;> first | (injection h with h; subst h; rfl) | cases h
theorem LX.g38_eq (y : LX) (m : List api_Expr) (h : y.g38 = some m) : y = .t38 m := by cases y <;> simp only [LX.g38] at h <;> first | (injection h with h; subst h; rfl) | cases h
theorem LX.g41_eq (y : LX) (m : List Int) (h : y.g41 = some m) : y = .t41 m := by cases y <;> simp only [LX.g41] at h <;> first | (injection h with h; subst h; rfl) | cases h
theorem LX.g68_eq (y : LX) (m : List api_Field) (h : y.g68 = some m) : y = .t68 m := by cases y <;> simp only [LX.g68] at h <;> first | (injection h with h; subst h; rfl) | cases h
theorem LX.g72_eq (y : LX) (m : List api_Value) (h : y.g72 = some m) : y = .t72 m := by cases y <;> simp only [LX.g72] at h <;> first | (injection h with h; subst h; rfl) | cases h
theorem LX.g74_eq (y : LX) (m : List api_Routine) (h : y.g74 = some m) : y = .t74 m := by cases y <;> simp only [LX.g74] at h <;> first | (injection h with h; subst h; rfl) | cases h
theorem LX.g82_eq (y : LX) (m : List api_Stmt) (h : y.g82 = some m) : y = .t82 m := by cases y <;> simp only [LX.g82] at h <;> first | (injection h with h; subst h; rfl) | cases h
theorem LX.g149_eq (y : LX) (m : List api_ResourceDecl) (h : y.g149 = some m) : y = .t149 m := by cases y <;> simp only [LX.g149] at h <;> first | (injection h with h; subst h; rfl) | cases h
theorem LX.g156_eq (y : LX) (m : List api_StoreDecl) (h : y.g156 = some m) : y = .t156 m := by cases y <;> simp only [LX.g156] at h <;> first | (injection h with h; subst h; rfl) | cases h
theorem LX.g160_eq (y : LX) (m : List api_BeltDecl) (h : y.g160 = some m) : y = .t160 m := by cases y <;> simp only [LX.g160] at h <;> first | (injection h with h; subst h; rfl) | cases h
theorem LX.g166_eq (y : LX) (m : List api_Start) (h : y.g166 = some m) : y = .t166 m := by cases y <;> simp only [LX.g166] at h <;> first | (injection h with h; subst h; rfl) | cases h
theorem LX.g172_eq (y : LX) (m : List api_Link) (h : y.g172 = some m) : y = .t172 m := by cases y <;> simp only [LX.g172] at h <;> first | (injection h with h; subst h; rfl) | cases h
theorem LX.g173_eq (y : LX) (m : List Arr2_ByteArray) (h : y.g173 = some m) : y = .t173 m := by cases y <;> simp only [LX.g173] at h <;> first | (injection h with h; subst h; rfl) | cases h
theorem LX.g184_eq (y : LX) (m : List api_Law) (h : y.g184 = some m) : y = .t184 m := by cases y <;> simp only [LX.g184] at h <;> first | (injection h with h; subst h; rfl) | cases h
theorem LX.g188_eq (y : LX) (m : List St_is_name) (h : y.g188 = some m) : y = .t188 m := by cases y <;> simp only [LX.g188] at h <;> first | (injection h with h; subst h; rfl) | cases h
theorem LX.g190_eq (y : LX) (m : List St_is_e) (h : y.g190 = some m) : y = .t190 m := by cases y <;> simp only [LX.g190] at h <;> first | (injection h with h; subst h; rfl) | cases h
theorem LX.g228_eq (y : LX) (m : List api_Change) (h : y.g228 = some m) : y = .t228 m := by cases y <;> simp only [LX.g228] at h <;> first | (injection h with h; subst h; rfl) | cases h
theorem LX.g234_eq (y : LX) (m : List api_Term) (h : y.g234 = some m) : y = .t234 m := by cases y <;> simp only [LX.g234] at h <;> first | (injection h with h; subst h; rfl) | cases h
theorem LX.cat_spec (x y z : LX) (h : x.cat y = some z) : y.e = x.e ∧ z.e = x.e ∧ y.sz = x.sz ∧ z.sz = x.sz ∧ z.len = x.len + y.len ∧ (∀ i, i < x.len → z.row i = x.row i) ∧ (∀ i, z.row (x.len + i) = y.row i) := by
  cases x with
  | t3 l =>
    simp only [LX.cat] at h
    cases hg : y.g3 with
    | none => rw [hg] at h; cases h
    | some m =>
      have := LX.g3_eq y m hg
      subst this
      rw [hg] at h
      injection h with h; subst h
      refine ⟨rfl, rfl, rfl, rfl, List.length_append, fun i hi => ?_, fun i => ?_⟩
      · show row3 _ = row3 _
        rw [getD_app_l l m i hi]
      · show row3 _ = row3 _
        rw [show (LX.t3 l).len = l.length from rfl, getD_app_r]
  | t4 l =>
    simp only [LX.cat] at h
    cases hg : y.g4 with
    | none => rw [hg] at h; cases h
    | some m =>
      have := LX.g4_eq y m hg
      subst this
      rw [hg] at h
      injection h with h; subst h
      refine ⟨rfl, rfl, rfl, rfl, List.length_append, fun i hi => ?_, fun i => ?_⟩
      · show row4 _ = row4 _
        rw [getD_app_l l m i hi]
      · show row4 _ = row4 _
        rw [show (LX.t4 l).len = l.length from rfl, getD_app_r]
  | t9 l =>
    simp only [LX.cat] at h
    cases hg : y.g9 with
    | none => rw [hg] at h; cases h
    | some m =>
      have := LX.g9_eq y m hg
      subst this
      rw [hg] at h
      injection h with h; subst h
      refine ⟨rfl, rfl, rfl, rfl, List.length_append, fun i hi => ?_, fun i => ?_⟩
      · show row9 _ = row9 _
        rw [getD_app_l l m i hi]
      · show row9 _ = row9 _
        rw [show (LX.t9 l).len = l.length from rfl, getD_app_r]
  | t23 l =>
    simp only [LX.cat] at h
    cases hg : y.g23 with
    | none => rw [hg] at h; cases h
    | some m =>
      have := LX.g23_eq y m hg
      subst this
      rw [hg] at h
      injection h with h; subst h
      refine ⟨rfl, rfl, rfl, rfl, List.length_append, fun i hi => ?_, fun i => ?_⟩
      · show row23 _ = row23 _
        rw [getD_app_l l m i hi]
      · show row23 _ = row23 _
        rw [show (LX.t23 l).len = l.length from rfl, getD_app_r]
  | t27 l =>
    simp only [LX.cat] at h
    cases hg : y.g27 with
    | none => rw [hg] at h; cases h
    | some m =>
      have := LX.g27_eq y m hg
      subst this
      rw [hg] at h
      injection h with h; subst h
      refine ⟨rfl, rfl, rfl, rfl, List.length_append, fun i hi => ?_, fun i => ?_⟩
      · show row27 _ = row27 _
        rw [getD_app_l l m i hi]
      · show row27 _ = row27 _
        rw [show (LX.t27 l).len = l.length from rfl, getD_app_r]
  | t32 l =>
    simp only [LX.cat] at h
    cases hg : y.g32 with
    | none => rw [hg] at h; cases h
    | some m =>
      have := LX.g32_eq y m hg
      subst this
      rw [hg] at h
      injection h with h; subst h
      refine ⟨rfl, rfl, rfl, rfl, List.length_append, fun i hi => ?_, fun i => ?_⟩
      · show row32 _ = row32 _
        rw [getD_app_l l m i hi]
      · show row32 _ = row32 _
        rw [show (LX.t32 l).len = l.length from rfl, getD_app_r]
  | t38 l =>
    simp only [LX.cat] at h
    cases hg : y.g38 with
    | none => rw [hg] at h; cases h
    | some m =>
      have := LX.g38_eq y m hg
      subst this
      rw [hg] at h
      injection h with h; subst h
      refine ⟨rfl, rfl, rfl, rfl, List.length_append, fun i hi => ?_, fun i => ?_⟩
      · show row38 _ = row38 _
        rw [getD_app_l l m i hi]
      · show row38 _ = row38 _
        rw [show (LX.t38 l).len = l.length from rfl, getD_app_r]
  | t41 l =>
    simp only [LX.cat] at h
    cases hg : y.g41 with
    | none => rw [hg] at h; cases h
    | some m =>
      have := LX.g41_eq y m hg
      subst this
      rw [hg] at h
      injection h with h; subst h
      refine ⟨rfl, rfl, rfl, rfl, List.length_append, fun i hi => ?_, fun i => ?_⟩
      · show row41 _ = row41 _
        rw [getD_app_l l m i hi]
      · show row41 _ = row41 _
        rw [show (LX.t41 l).len = l.length from rfl, getD_app_r]
  | t68 l =>
    simp only [LX.cat] at h
    cases hg : y.g68 with
    | none => rw [hg] at h; cases h
    | some m =>
      have := LX.g68_eq y m hg
      subst this
      rw [hg] at h
      injection h with h; subst h
      refine ⟨rfl, rfl, rfl, rfl, List.length_append, fun i hi => ?_, fun i => ?_⟩
      · show row68 _ = row68 _
        rw [getD_app_l l m i hi]
      · show row68 _ = row68 _
        rw [show (LX.t68 l).len = l.length from rfl, getD_app_r]
  | t72 l =>
    simp only [LX.cat] at h
    cases hg : y.g72 with
    | none => rw [hg] at h; cases h
    | some m =>
      have := LX.g72_eq y m hg
      subst this
      rw [hg] at h
      injection h with h; subst h
      refine ⟨rfl, rfl, rfl, rfl, List.length_append, fun i hi => ?_, fun i => ?_⟩
      · show row72 _ = row72 _
        rw [getD_app_l l m i hi]
      · show row72 _ = row72 _
        rw [show (LX.t72 l).len = l.length from rfl, getD_app_r]
  | t74 l =>
    simp only [LX.cat] at h
    cases hg : y.g74 with
    | none => rw [hg] at h; cases h
    | some m =>
      have := LX.g74_eq y m hg
      subst this
      rw [hg] at h
      injection h with h; subst h
      refine ⟨rfl, rfl, rfl, rfl, List.length_append, fun i hi => ?_, fun i => ?_⟩
      · show row74 _ = row74 _
        rw [getD_app_l l m i hi]
      · show row74 _ = row74 _
        rw [show (LX.t74 l).len = l.length from rfl, getD_app_r]
  | t82 l =>
    simp only [LX.cat] at h
    cases hg : y.g82 with
    | none => rw [hg] at h; cases h
    | some m =>
      have := LX.g82_eq y m hg
      subst this
      rw [hg] at h
      injection h with h; subst h
      refine ⟨rfl, rfl, rfl, rfl, List.length_append, fun i hi => ?_, fun i => ?_⟩
      · show row82 _ = row82 _
        rw [getD_app_l l m i hi]
      · show row82 _ = row82 _
        rw [show (LX.t82 l).len = l.length from rfl, getD_app_r]
  | t149 l =>
    simp only [LX.cat] at h
    cases hg : y.g149 with
    | none => rw [hg] at h; cases h
    | some m =>
      have := LX.g149_eq y m hg
      subst this
      rw [hg] at h
      injection h with h; subst h
      refine ⟨rfl, rfl, rfl, rfl, List.length_append, fun i hi => ?_, fun i => ?_⟩
      · show row149 _ = row149 _
        rw [getD_app_l l m i hi]
      · show row149 _ = row149 _
        rw [show (LX.t149 l).len = l.length from rfl, getD_app_r]
  | t156 l =>
    simp only [LX.cat] at h
    cases hg : y.g156 with
    | none => rw [hg] at h; cases h
    | some m =>
      have := LX.g156_eq y m hg
      subst this
      rw [hg] at h
      injection h with h; subst h
      refine ⟨rfl, rfl, rfl, rfl, List.length_append, fun i hi => ?_, fun i => ?_⟩
      · show row156 _ = row156 _
        rw [getD_app_l l m i hi]
      · show row156 _ = row156 _
        rw [show (LX.t156 l).len = l.length from rfl, getD_app_r]
  | t160 l =>
    simp only [LX.cat] at h
    cases hg : y.g160 with
    | none => rw [hg] at h; cases h
    | some m =>
      have := LX.g160_eq y m hg
      subst this
      rw [hg] at h
      injection h with h; subst h
      refine ⟨rfl, rfl, rfl, rfl, List.length_append, fun i hi => ?_, fun i => ?_⟩
      · show row160 _ = row160 _
        rw [getD_app_l l m i hi]
      · show row160 _ = row160 _
        rw [show (LX.t160 l).len = l.length from rfl, getD_app_r]
  | t166 l =>
    simp only [LX.cat] at h
    cases hg : y.g166 with
    | none => rw [hg] at h; cases h
    | some m =>
      have := LX.g166_eq y m hg
      subst this
      rw [hg] at h
      injection h with h; subst h
      refine ⟨rfl, rfl, rfl, rfl, List.length_append, fun i hi => ?_, fun i => ?_⟩
      · show row166 _ = row166 _
        rw [getD_app_l l m i hi]
      · show row166 _ = row166 _
        rw [show (LX.t166 l).len = l.length from rfl, getD_app_r]
  | t172 l =>
    simp only [LX.cat] at h
    cases hg : y.g172 with
    | none => rw [hg] at h; cases h
    | some m =>
      have := LX.g172_eq y m hg
      subst this
      rw [hg] at h
      injection h with h; subst h
      refine ⟨rfl, rfl, rfl, rfl, List.length_append, fun i hi => ?_, fun i => ?_⟩
      · show row172 _ = row172 _
        rw [getD_app_l l m i hi]
      · show row172 _ = row172 _
        rw [show (LX.t172 l).len = l.length from rfl, getD_app_r]
  | t173 l =>
    simp only [LX.cat] at h
    cases hg : y.g173 with
    | none => rw [hg] at h; cases h
    | some m =>
      have := LX.g173_eq y m hg
      subst this
      rw [hg] at h
      injection h with h; subst h
      refine ⟨rfl, rfl, rfl, rfl, List.length_append, fun i hi => ?_, fun i => ?_⟩
      · show row173 _ = row173 _
        rw [getD_app_l l m i hi]
      · show row173 _ = row173 _
        rw [show (LX.t173 l).len = l.length from rfl, getD_app_r]
  | t184 l =>
    simp only [LX.cat] at h
    cases hg : y.g184 with
    | none => rw [hg] at h; cases h
    | some m =>
      have := LX.g184_eq y m hg
      subst this
      rw [hg] at h
      injection h with h; subst h
      refine ⟨rfl, rfl, rfl, rfl, List.length_append, fun i hi => ?_, fun i => ?_⟩
      · show row184 _ = row184 _
        rw [getD_app_l l m i hi]
      · show row184 _ = row184 _
        rw [show (LX.t184 l).len = l.length from rfl, getD_app_r]
  | t188 l =>
    simp only [LX.cat] at h
    cases hg : y.g188 with
    | none => rw [hg] at h; cases h
    | some m =>
      have := LX.g188_eq y m hg
      subst this
      rw [hg] at h
      injection h with h; subst h
      refine ⟨rfl, rfl, rfl, rfl, List.length_append, fun i hi => ?_, fun i => ?_⟩
      · show row188 _ = row188 _
        rw [getD_app_l l m i hi]
      · show row188 _ = row188 _
        rw [show (LX.t188 l).len = l.length from rfl, getD_app_r]
  | t190 l =>
    simp only [LX.cat] at h
    cases hg : y.g190 with
    | none => rw [hg] at h; cases h
    | some m =>
      have := LX.g190_eq y m hg
      subst this
      rw [hg] at h
      injection h with h; subst h
      refine ⟨rfl, rfl, rfl, rfl, List.length_append, fun i hi => ?_, fun i => ?_⟩
      · show row190 _ = row190 _
        rw [getD_app_l l m i hi]
      · show row190 _ = row190 _
        rw [show (LX.t190 l).len = l.length from rfl, getD_app_r]
  | t228 l =>
    simp only [LX.cat] at h
    cases hg : y.g228 with
    | none => rw [hg] at h; cases h
    | some m =>
      have := LX.g228_eq y m hg
      subst this
      rw [hg] at h
      injection h with h; subst h
      refine ⟨rfl, rfl, rfl, rfl, List.length_append, fun i hi => ?_, fun i => ?_⟩
      · show row228 _ = row228 _
        rw [getD_app_l l m i hi]
      · show row228 _ = row228 _
        rw [show (LX.t228 l).len = l.length from rfl, getD_app_r]
  | t234 l =>
    simp only [LX.cat] at h
    cases hg : y.g234 with
    | none => rw [hg] at h; cases h
    | some m =>
      have := LX.g234_eq y m hg
      subst this
      rw [hg] at h
      injection h with h; subst h
      refine ⟨rfl, rfl, rfl, rfl, List.length_append, fun i hi => ?_, fun i => ?_⟩
      · show row234 _ = row234 _
        rw [getD_app_l l m i hi]
      · show row234 _ = row234 _
        rw [show (LX.t234 l).len = l.length from rfl, getD_app_r]
theorem LX.sub_spec (x : LX) (a b : Nat) (h : b ≤ x.len) : (x.sub a b).e = x.e ∧ (x.sub a b).sz = x.sz ∧ (x.sub a b).len = b - a ∧ ∀ i, i < b - a → (x.sub a b).row i = x.row (a + i) := by
  cases x with
  | t3 l =>
    have h' : b ≤ l.length := h
    refine ⟨rfl, rfl, by show ((l.take b).drop a).length = _; simp; omega, fun i hi => ?_⟩
    show row3 _ = row3 _
    rw [getD_sub l a b i h' hi]
  | t4 l =>
    have h' : b ≤ l.length := h
    refine ⟨rfl, rfl, by show ((l.take b).drop a).length = _; simp; omega, fun i hi => ?_⟩
    show row4 _ = row4 _
    rw [getD_sub l a b i h' hi]
  | t9 l =>
    have h' : b ≤ l.length := h
    refine ⟨rfl, rfl, by show ((l.take b).drop a).length = _; simp; omega, fun i hi => ?_⟩
    show row9 _ = row9 _
    rw [getD_sub l a b i h' hi]
  | t23 l =>
    have h' : b ≤ l.length := h
    refine ⟨rfl, rfl, by show ((l.take b).drop a).length = _; simp; omega, fun i hi => ?_⟩
    show row23 _ = row23 _
    rw [getD_sub l a b i h' hi]
  | t27 l =>
    have h' : b ≤ l.length := h
    refine ⟨rfl, rfl, by show ((l.take b).drop a).length = _; simp; omega, fun i hi => ?_⟩
    show row27 _ = row27 _
    rw [getD_sub l a b i h' hi]
  | t32 l =>
    have h' : b ≤ l.length := h
    refine ⟨rfl, rfl, by show ((l.take b).drop a).length = _; simp; omega, fun i hi => ?_⟩
    show row32 _ = row32 _
    rw [getD_sub l a b i h' hi]
  | t38 l =>
    have h' : b ≤ l.length := h
    refine ⟨rfl, rfl, by show ((l.take b).drop a).length = _; simp; omega, fun i hi => ?_⟩
    show row38 _ = row38 _
    rw [getD_sub l a b i h' hi]
  | t41 l =>
    have h' : b ≤ l.length := h
    refine ⟨rfl, rfl, by show ((l.take b).drop a).length = _; simp; omega, fun i hi => ?_⟩
    show row41 _ = row41 _
    rw [getD_sub l a b i h' hi]
  | t68 l =>
    have h' : b ≤ l.length := h
    refine ⟨rfl, rfl, by show ((l.take b).drop a).length = _; simp; omega, fun i hi => ?_⟩
    show row68 _ = row68 _
    rw [getD_sub l a b i h' hi]
  | t72 l =>
    have h' : b ≤ l.length := h
    refine ⟨rfl, rfl, by show ((l.take b).drop a).length = _; simp; omega, fun i hi => ?_⟩
    show row72 _ = row72 _
    rw [getD_sub l a b i h' hi]
  | t74 l =>
    have h' : b ≤ l.length := h
    refine ⟨rfl, rfl, by show ((l.take b).drop a).length = _; simp; omega, fun i hi => ?_⟩
    show row74 _ = row74 _
    rw [getD_sub l a b i h' hi]
  | t82 l =>
    have h' : b ≤ l.length := h
    refine ⟨rfl, rfl, by show ((l.take b).drop a).length = _; simp; omega, fun i hi => ?_⟩
    show row82 _ = row82 _
    rw [getD_sub l a b i h' hi]
  | t149 l =>
    have h' : b ≤ l.length := h
    refine ⟨rfl, rfl, by show ((l.take b).drop a).length = _; simp; omega, fun i hi => ?_⟩
    show row149 _ = row149 _
    rw [getD_sub l a b i h' hi]
  | t156 l =>
    have h' : b ≤ l.length := h
    refine ⟨rfl, rfl, by show ((l.take b).drop a).length = _; simp; omega, fun i hi => ?_⟩
    show row156 _ = row156 _
    rw [getD_sub l a b i h' hi]
  | t160 l =>
    have h' : b ≤ l.length := h
    refine ⟨rfl, rfl, by show ((l.take b).drop a).length = _; simp; omega, fun i hi => ?_⟩
    show row160 _ = row160 _
    rw [getD_sub l a b i h' hi]
  | t166 l =>
    have h' : b ≤ l.length := h
    refine ⟨rfl, rfl, by show ((l.take b).drop a).length = _; simp; omega, fun i hi => ?_⟩
    show row166 _ = row166 _
    rw [getD_sub l a b i h' hi]
  | t172 l =>
    have h' : b ≤ l.length := h
    refine ⟨rfl, rfl, by show ((l.take b).drop a).length = _; simp; omega, fun i hi => ?_⟩
    show row172 _ = row172 _
    rw [getD_sub l a b i h' hi]
  | t173 l =>
    have h' : b ≤ l.length := h
    refine ⟨rfl, rfl, by show ((l.take b).drop a).length = _; simp; omega, fun i hi => ?_⟩
    show row173 _ = row173 _
    rw [getD_sub l a b i h' hi]
  | t184 l =>
    have h' : b ≤ l.length := h
    refine ⟨rfl, rfl, by show ((l.take b).drop a).length = _; simp; omega, fun i hi => ?_⟩
    show row184 _ = row184 _
    rw [getD_sub l a b i h' hi]
  | t188 l =>
    have h' : b ≤ l.length := h
    refine ⟨rfl, rfl, by show ((l.take b).drop a).length = _; simp; omega, fun i hi => ?_⟩
    show row188 _ = row188 _
    rw [getD_sub l a b i h' hi]
  | t190 l =>
    have h' : b ≤ l.length := h
    refine ⟨rfl, rfl, by show ((l.take b).drop a).length = _; simp; omega, fun i hi => ?_⟩
    show row190 _ = row190 _
    rw [getD_sub l a b i h' hi]
  | t228 l =>
    have h' : b ≤ l.length := h
    refine ⟨rfl, rfl, by show ((l.take b).drop a).length = _; simp; omega, fun i hi => ?_⟩
    show row228 _ = row228 _
    rw [getD_sub l a b i h' hi]
  | t234 l =>
    have h' : b ≤ l.length := h
    refine ⟨rfl, rfl, by show ((l.take b).drop a).length = _; simp; omega, fun i hi => ?_⟩
    show row234 _ = row234 _
    rw [getD_sub l a b i h' hi]
theorem LX.rep_spec (x : LX) (n : Nat) : (x.rep n).e = x.e ∧ (x.rep n).sz = x.sz ∧ (x.rep n).len = n ∧ ∀ i, i < n → (x.rep n).row i = x.row 0 := by
  cases x with
  | t3 l =>
    refine ⟨rfl, rfl, List.length_replicate, fun i hi => ?_⟩
    show row3 _ = row3 _
    rw [getD_rep n i _ hi]
  | t4 l =>
    refine ⟨rfl, rfl, List.length_replicate, fun i hi => ?_⟩
    show row4 _ = row4 _
    rw [getD_rep n i _ hi]
  | t9 l =>
    refine ⟨rfl, rfl, List.length_replicate, fun i hi => ?_⟩
    show row9 _ = row9 _
    rw [getD_rep n i _ hi]
  | t23 l =>
    refine ⟨rfl, rfl, List.length_replicate, fun i hi => ?_⟩
    show row23 _ = row23 _
    rw [getD_rep n i _ hi]
  | t27 l =>
    refine ⟨rfl, rfl, List.length_replicate, fun i hi => ?_⟩
    show row27 _ = row27 _
    rw [getD_rep n i _ hi]
  | t32 l =>
    refine ⟨rfl, rfl, List.length_replicate, fun i hi => ?_⟩
    show row32 _ = row32 _
    rw [getD_rep n i _ hi]
  | t38 l =>
    refine ⟨rfl, rfl, List.length_replicate, fun i hi => ?_⟩
    show row38 _ = row38 _
    rw [getD_rep n i _ hi]
  | t41 l =>
    refine ⟨rfl, rfl, List.length_replicate, fun i hi => ?_⟩
    show row41 _ = row41 _
    rw [getD_rep n i _ hi]
  | t68 l =>
    refine ⟨rfl, rfl, List.length_replicate, fun i hi => ?_⟩
    show row68 _ = row68 _
    rw [getD_rep n i _ hi]
  | t72 l =>
    refine ⟨rfl, rfl, List.length_replicate, fun i hi => ?_⟩
    show row72 _ = row72 _
    rw [getD_rep n i _ hi]
  | t74 l =>
    refine ⟨rfl, rfl, List.length_replicate, fun i hi => ?_⟩
    show row74 _ = row74 _
    rw [getD_rep n i _ hi]
  | t82 l =>
    refine ⟨rfl, rfl, List.length_replicate, fun i hi => ?_⟩
    show row82 _ = row82 _
    rw [getD_rep n i _ hi]
  | t149 l =>
    refine ⟨rfl, rfl, List.length_replicate, fun i hi => ?_⟩
    show row149 _ = row149 _
    rw [getD_rep n i _ hi]
  | t156 l =>
    refine ⟨rfl, rfl, List.length_replicate, fun i hi => ?_⟩
    show row156 _ = row156 _
    rw [getD_rep n i _ hi]
  | t160 l =>
    refine ⟨rfl, rfl, List.length_replicate, fun i hi => ?_⟩
    show row160 _ = row160 _
    rw [getD_rep n i _ hi]
  | t166 l =>
    refine ⟨rfl, rfl, List.length_replicate, fun i hi => ?_⟩
    show row166 _ = row166 _
    rw [getD_rep n i _ hi]
  | t172 l =>
    refine ⟨rfl, rfl, List.length_replicate, fun i hi => ?_⟩
    show row172 _ = row172 _
    rw [getD_rep n i _ hi]
  | t173 l =>
    refine ⟨rfl, rfl, List.length_replicate, fun i hi => ?_⟩
    show row173 _ = row173 _
    rw [getD_rep n i _ hi]
  | t184 l =>
    refine ⟨rfl, rfl, List.length_replicate, fun i hi => ?_⟩
    show row184 _ = row184 _
    rw [getD_rep n i _ hi]
  | t188 l =>
    refine ⟨rfl, rfl, List.length_replicate, fun i hi => ?_⟩
    show row188 _ = row188 _
    rw [getD_rep n i _ hi]
  | t190 l =>
    refine ⟨rfl, rfl, List.length_replicate, fun i hi => ?_⟩
    show row190 _ = row190 _
    rw [getD_rep n i _ hi]
  | t228 l =>
    refine ⟨rfl, rfl, List.length_replicate, fun i hi => ?_⟩
    show row228 _ = row228 _
    rw [getD_rep n i _ hi]
  | t234 l =>
    refine ⟨rfl, rfl, List.length_replicate, fun i hi => ?_⟩
    show row234 _ = row234 _
    rw [getD_rep n i _ hi]
theorem lenGe0_iff (l : List PV) : ∀ n, lenGe0 l n = true ↔ n ≤ l.length := by
  induction l with
  | nil => intro n; cases n <;> simp [lenGe0]
  | cons p r ih => intro n; cases n <;> simp [lenGe0, ih]

theorem LX.set_spec (x : LX) (i off : Nat) (c : List PV) (y : LX) (h : LX.set x i off c = some y) : y.e = x.e ∧ y.sz = x.sz ∧ y.len = x.len ∧ off + c.length ≤ x.sz ∧ (i < x.len → RowLe (setN (x.row i) off c) (y.row i)) ∧ ∀ j, j ≠ i → y.row j = x.row j := by
  cases x with
  | t3 l =>
    simp only [LX.set] at h
    split at h
    · rename_i a h1 h2
      injection h with h; subst h
      refine ⟨rfl, rfl, List.length_set, (lenGe0_iff _ _).1 h1, fun hi => ?_, fun j hj => ?_⟩
      · show RowLe _ (row3 _)
        rw [getD_set_eq l i a hi]
        exact dec3_le _ _ h2
      · show row3 _ = row3 _
        rw [getD_set_ne l i j a hj]
    · cases h
  | t4 l =>
    simp only [LX.set] at h
    split at h
    · rename_i a h1 h2
      injection h with h; subst h
      refine ⟨rfl, rfl, List.length_set, (lenGe0_iff _ _).1 h1, fun hi => ?_, fun j hj => ?_⟩
      · show RowLe _ (row4 _)
        rw [getD_set_eq l i a hi]
        exact dec4_le _ _ h2
      · show row4 _ = row4 _
        rw [getD_set_ne l i j a hj]
    · cases h
  | t9 l =>
    simp only [LX.set] at h
    split at h
    · rename_i a h1 h2
      injection h with h; subst h
      refine ⟨rfl, rfl, List.length_set, (lenGe0_iff _ _).1 h1, fun hi => ?_, fun j hj => ?_⟩
      · show RowLe _ (row9 _)
        rw [getD_set_eq l i a hi]
        exact dec9_le _ _ h2
      · show row9 _ = row9 _
        rw [getD_set_ne l i j a hj]
    · cases h
  | t23 l =>
    simp only [LX.set] at h
    split at h
    · rename_i a h1 h2
      injection h with h; subst h
      refine ⟨rfl, rfl, List.length_set, (lenGe0_iff _ _).1 h1, fun hi => ?_, fun j hj => ?_⟩
      · show RowLe _ (row23 _)
        rw [getD_set_eq l i a hi]
        exact dec23_le _ _ h2
      · show row23 _ = row23 _
        rw [getD_set_ne l i j a hj]
    · cases h
  | t27 l =>
    simp only [LX.set] at h
    split at h
    · rename_i a h1 h2
      injection h with h; subst h
      refine ⟨rfl, rfl, List.length_set, (lenGe0_iff _ _).1 h1, fun hi => ?_, fun j hj => ?_⟩
      · show RowLe _ (row27 _)
        rw [getD_set_eq l i a hi]
        exact dec27_le _ _ h2
      · show row27 _ = row27 _
        rw [getD_set_ne l i j a hj]
    · cases h
  | t32 l =>
    simp only [LX.set] at h
    split at h
    · rename_i a h1 h2
      injection h with h; subst h
      refine ⟨rfl, rfl, List.length_set, (lenGe0_iff _ _).1 h1, fun hi => ?_, fun j hj => ?_⟩
      · show RowLe _ (row32 _)
        rw [getD_set_eq l i a hi]
        exact dec32_le _ _ h2
      · show row32 _ = row32 _
        rw [getD_set_ne l i j a hj]
    · cases h
  | t38 l =>
    simp only [LX.set] at h
    split at h
    · rename_i a h1 h2
      injection h with h; subst h
      refine ⟨rfl, rfl, List.length_set, (lenGe0_iff _ _).1 h1, fun hi => ?_, fun j hj => ?_⟩
      · show RowLe _ (row38 _)
        rw [getD_set_eq l i a hi]
        exact dec38_le _ _ h2
      · show row38 _ = row38 _
        rw [getD_set_ne l i j a hj]
    · cases h
  | t41 l =>
    simp only [LX.set] at h
    split at h
    · rename_i a h1 h2
      injection h with h; subst h
      refine ⟨rfl, rfl, List.length_set, (lenGe0_iff _ _).1 h1, fun hi => ?_, fun j hj => ?_⟩
      · show RowLe _ (row41 _)
        rw [getD_set_eq l i a hi]
        exact dec41_le _ _ h2
      · show row41 _ = row41 _
        rw [getD_set_ne l i j a hj]
    · cases h
  | t68 l =>
    simp only [LX.set] at h
    split at h
    · rename_i a h1 h2
      injection h with h; subst h
      refine ⟨rfl, rfl, List.length_set, (lenGe0_iff _ _).1 h1, fun hi => ?_, fun j hj => ?_⟩
      · show RowLe _ (row68 _)
        rw [getD_set_eq l i a hi]
        exact dec68_le _ _ h2
      · show row68 _ = row68 _
        rw [getD_set_ne l i j a hj]
    · cases h
  | t72 l =>
    simp only [LX.set] at h
    split at h
    · rename_i a h1 h2
      injection h with h; subst h
      refine ⟨rfl, rfl, List.length_set, (lenGe0_iff _ _).1 h1, fun hi => ?_, fun j hj => ?_⟩
      · show RowLe _ (row72 _)
        rw [getD_set_eq l i a hi]
        exact dec72_le _ _ h2
      · show row72 _ = row72 _
        rw [getD_set_ne l i j a hj]
    · cases h
  | t74 l =>
    simp only [LX.set] at h
    split at h
    · rename_i a h1 h2
      injection h with h; subst h
      refine ⟨rfl, rfl, List.length_set, (lenGe0_iff _ _).1 h1, fun hi => ?_, fun j hj => ?_⟩
      · show RowLe _ (row74 _)
        rw [getD_set_eq l i a hi]
        exact dec74_le _ _ h2
      · show row74 _ = row74 _
        rw [getD_set_ne l i j a hj]
    · cases h
  | t82 l =>
    simp only [LX.set] at h
    split at h
    · rename_i a h1 h2
      injection h with h; subst h
      refine ⟨rfl, rfl, List.length_set, (lenGe0_iff _ _).1 h1, fun hi => ?_, fun j hj => ?_⟩
      · show RowLe _ (row82 _)
        rw [getD_set_eq l i a hi]
        exact dec82_le _ _ h2
      · show row82 _ = row82 _
        rw [getD_set_ne l i j a hj]
    · cases h
  | t149 l =>
    simp only [LX.set] at h
    split at h
    · rename_i a h1 h2
      injection h with h; subst h
      refine ⟨rfl, rfl, List.length_set, (lenGe0_iff _ _).1 h1, fun hi => ?_, fun j hj => ?_⟩
      · show RowLe _ (row149 _)
        rw [getD_set_eq l i a hi]
        exact dec149_le _ _ h2
      · show row149 _ = row149 _
        rw [getD_set_ne l i j a hj]
    · cases h
  | t156 l =>
    simp only [LX.set] at h
    split at h
    · rename_i a h1 h2
      injection h with h; subst h
      refine ⟨rfl, rfl, List.length_set, (lenGe0_iff _ _).1 h1, fun hi => ?_, fun j hj => ?_⟩
      · show RowLe _ (row156 _)
        rw [getD_set_eq l i a hi]
        exact dec156_le _ _ h2
      · show row156 _ = row156 _
        rw [getD_set_ne l i j a hj]
    · cases h
  | t160 l =>
    simp only [LX.set] at h
    split at h
    · rename_i a h1 h2
      injection h with h; subst h
      refine ⟨rfl, rfl, List.length_set, (lenGe0_iff _ _).1 h1, fun hi => ?_, fun j hj => ?_⟩
      · show RowLe _ (row160 _)
        rw [getD_set_eq l i a hi]
        exact dec160_le _ _ h2
      · show row160 _ = row160 _
        rw [getD_set_ne l i j a hj]
    · cases h
  | t166 l =>
    simp only [LX.set] at h
    split at h
    · rename_i a h1 h2
      injection h with h; subst h
      refine ⟨rfl, rfl, List.length_set, (lenGe0_iff _ _).1 h1, fun hi => ?_, fun j hj => ?_⟩
      · show RowLe _ (row166 _)
        rw [getD_set_eq l i a hi]
        exact dec166_le _ _ h2
      · show row166 _ = row166 _
        rw [getD_set_ne l i j a hj]
    · cases h
  | t172 l =>
    simp only [LX.set] at h
    split at h
    · rename_i a h1 h2
      injection h with h; subst h
      refine ⟨rfl, rfl, List.length_set, (lenGe0_iff _ _).1 h1, fun hi => ?_, fun j hj => ?_⟩
      · show RowLe _ (row172 _)
        rw [getD_set_eq l i a hi]
        exact dec172_le _ _ h2
      · show row172 _ = row172 _
        rw [getD_set_ne l i j a hj]
    · cases h
  | t173 l =>
    simp only [LX.set] at h
    split at h
    · rename_i a h1 h2
      injection h with h; subst h
      refine ⟨rfl, rfl, List.length_set, (lenGe0_iff _ _).1 h1, fun hi => ?_, fun j hj => ?_⟩
      · show RowLe _ (row173 _)
        rw [getD_set_eq l i a hi]
        exact dec173_le _ _ h2
      · show row173 _ = row173 _
        rw [getD_set_ne l i j a hj]
    · cases h
  | t184 l =>
    simp only [LX.set] at h
    split at h
    · rename_i a h1 h2
      injection h with h; subst h
      refine ⟨rfl, rfl, List.length_set, (lenGe0_iff _ _).1 h1, fun hi => ?_, fun j hj => ?_⟩
      · show RowLe _ (row184 _)
        rw [getD_set_eq l i a hi]
        exact dec184_le _ _ h2
      · show row184 _ = row184 _
        rw [getD_set_ne l i j a hj]
    · cases h
  | t188 l =>
    simp only [LX.set] at h
    split at h
    · rename_i a h1 h2
      injection h with h; subst h
      refine ⟨rfl, rfl, List.length_set, (lenGe0_iff _ _).1 h1, fun hi => ?_, fun j hj => ?_⟩
      · show RowLe _ (row188 _)
        rw [getD_set_eq l i a hi]
        exact dec188_le _ _ h2
      · show row188 _ = row188 _
        rw [getD_set_ne l i j a hj]
    · cases h
  | t190 l =>
    simp only [LX.set] at h
    split at h
    · rename_i a h1 h2
      injection h with h; subst h
      refine ⟨rfl, rfl, List.length_set, (lenGe0_iff _ _).1 h1, fun hi => ?_, fun j hj => ?_⟩
      · show RowLe _ (row190 _)
        rw [getD_set_eq l i a hi]
        exact dec190_le _ _ h2
      · show row190 _ = row190 _
        rw [getD_set_ne l i j a hj]
    · cases h
  | t228 l =>
    simp only [LX.set] at h
    split at h
    · rename_i a h1 h2
      injection h with h; subst h
      refine ⟨rfl, rfl, List.length_set, (lenGe0_iff _ _).1 h1, fun hi => ?_, fun j hj => ?_⟩
      · show RowLe _ (row228 _)
        rw [getD_set_eq l i a hi]
        exact dec228_le _ _ h2
      · show row228 _ = row228 _
        rw [getD_set_ne l i j a hj]
    · cases h
  | t234 l =>
    simp only [LX.set] at h
    split at h
    · rename_i a h1 h2
      injection h with h; subst h
      refine ⟨rfl, rfl, List.length_set, (lenGe0_iff _ _).1 h1, fun hi => ?_, fun j hj => ?_⟩
      · show RowLe _ (row234 _)
        rw [getD_set_eq l i a hi]
        exact dec234_le _ _ h2
      · show row234 _ = row234 _
        rw [getD_set_ne l i j a hj]
    · cases h
theorem find_spec0 {α : Type} [Inhabited α] {l : List α} {p : α → Bool} {r : Option Nat} (h : l.findIdx? p = r) :
    (r = none → ∀ i, i < l.length → p (l.getD i default) = false) ∧ (∀ i, r = some i → i < l.length ∧ p (l.getD i default) = true ∧ ∀ j, j < i → p (l.getD j default) = false) := by
  subst h
  refine ⟨fun h i hi => ?_, fun i h => ?_⟩
  · have := List.findIdx?_eq_none_iff.1 h (l.getD i default) (by rw [getD_eq l i hi]; exact List.getElem_mem hi)
    simpa using this
  · obtain ⟨h1, h2, h3⟩ := List.findIdx?_eq_some_iff_getElem.1 h
    refine ⟨h1, by rw [getD_eq l i h1]; exact h2, fun j hj => ?_⟩
    rw [getD_eq l j (by omega)]
    simpa using h3 j hj

theorem LX.find_spec (x : LX) (c : List PV) (r : Option Nat) (h : LX.find x c = some r) : (r = none → ∀ i, i < x.len → sameV c (x.row i) = some false) ∧ (∀ i, r = some i → i < x.len ∧ sameV c (x.row i) = some true ∧ ∀ j, j < i → sameV c (x.row j) = some false) := by
  unfold LX.find at h
  split at h
  · rename_i l k0 a0
    split at h
    · rename_i hk0
      have e0 := of_decide_eq_true hk0
      subst e0
      injection h with h; subst h
      obtain ⟨s1, s2⟩ := find_spec0 (rfl : l.findIdx? (fun b => a0 == b) = _)
      have key : ∀ i b, (a0 == (l.getD i default)) = b → sameV [.val (.int .i64 a0)] ((LX.t3 l).row i) = some b := fun i b hb => congrArg some hb
      exact ⟨fun hr i hi => key _ _ (s1 hr i hi), fun i hr => ⟨(s2 i hr).1, key _ _ (s2 i hr).2.1, fun j hj => key _ _ ((s2 i hr).2.2 j hj)⟩⟩
    · cases h
  · rename_i l a0
    injection h with h; subst h
    obtain ⟨s1, s2⟩ := find_spec0 (rfl : l.findIdx? (fun b => a0 == b) = _)
    have key : ∀ i b, (a0 == (l.getD i default)) = b → sameV [.val (.bool a0)] ((LX.t4 l).row i) = some b := fun i b hb => congrArg some hb
    exact ⟨fun hr i hi => key _ _ (s1 hr i hi), fun i hr => ⟨(s2 i hr).1, key _ _ (s2 i hr).2.1, fun j hj => key _ _ ((s2 i hr).2.2 j hj)⟩⟩
  · rename_i l a0
    injection h with h; subst h
    obtain ⟨s1, s2⟩ := find_spec0 (rfl : l.findIdx? (fun b => a0 == b) = _)
    have key : ∀ i b, (a0 == (l.getD i default)) = b → sameV [.val (.string a0)] ((LX.t9 l).row i) = some b := fun i b hb => congrArg some hb
    exact ⟨fun hr i hi => key _ _ (s1 hr i hi), fun i hr => ⟨(s2 i hr).1, key _ _ (s2 i hr).2.1, fun j hj => key _ _ ((s2 i hr).2.2 j hj)⟩⟩
  · rename_i l k0 a0
    split at h
    · rename_i hk0
      have e0 := of_decide_eq_true hk0
      subst e0
      injection h with h; subst h
      obtain ⟨s1, s2⟩ := find_spec0 (rfl : l.findIdx? (fun b => a0 == b) = _)
      have key : ∀ i b, (a0 == (l.getD i default)) = b → sameV [.val (.int .i64 a0)] ((LX.t41 l).row i) = some b := fun i b hb => congrArg some hb
      exact ⟨fun hr i hi => key _ _ (s1 hr i hi), fun i hr => ⟨(s2 i hr).1, key _ _ (s2 i hr).2.1, fun j hj => key _ _ ((s2 i hr).2.2 j hj)⟩⟩
    · cases h
  · rename_i l a0 a1
    injection h with h; subst h
    obtain ⟨s1, s2⟩ := find_spec0 (rfl : l.findIdx? (fun b => (a0 == b.a0 && (a1 == b.a1))) = _)
    have key : ∀ i b, ((a0 == (l.getD i default).a0 && (a1 == (l.getD i default).a1))) = b → sameV [.val (.string a0), .val (.string a1)] ((LX.t173 l).row i) = some b := fun i b hb => congrArg some hb
    exact ⟨fun hr i hi => key _ _ (s1 hr i hi), fun i hr => ⟨(s2 i hr).1, key _ _ (s2 i hr).2.1, fun j hj => key _ _ ((s2 i hr).2.2 j hj)⟩⟩
  · cases h

end Go.Proofs.YtcbandfdmbkokaaGreat.Ev