/-  Rows of data, cell by cell; what a row of cells reads as. -/
import Derived.Test.YtaaiehkfndibkaaGreatFp
namespace Go.Proofs.YtaaiehkfndibkaaGreat.Ev
open Go
set_option linter.unusedVariables false
set_option linter.unusedSimpArgs false
set_option linter.unnecessarySimpa false
def lenGe0 (l : List PV) (n : Nat) : Bool := match l, n with
  | _, 0 => true
  | _ :: r, n + 1 => lenGe0 r n
  | _, _ => false
def dInt (k : IntKind) : PV → Option Int
  | .val (.int k' a) => match decide (k' = k) with
    | true => some a
    | false => none
  | _ => none
def dBool : PV → Option Bool
  | .val (.bool a) => some a
  | _ => none
def dStr : PV → Option ByteArray
  | .val (.string a) => some a
  | _ => none
inductive RowLe : List PV → List PV → Prop
  | nil : RowLe [] []
  | cons {p q : PV} {r s : List PV} (h : PV.Le p q) (hr : RowLe r s) : RowLe (p :: r) (q :: s)
theorem dInt_le {k : IntKind} {p : PV} {a : Int} (h : dInt k p = some a) : PV.Le p (.val (.int k a)) := by
  unfold dInt at h
  split at h
  · split at h
    · rename_i hk
      have := of_decide_eq_true hk
      subst this
      injection h with h; subst h; exact .view _
    · cases h
  · cases h
theorem dBool_le {p : PV} {a : Bool} (h : dBool p = some a) : PV.Le p (.val (.bool a)) := by
  unfold dBool at h
  split at h
  · injection h with h; subst h; exact .view _
  · cases h
theorem dStr_le {p : PV} {a : ByteArray} (h : dStr p = some a) : PV.Le p (.val (.string a)) := by
  unfold dStr at h
  split at h
  · injection h with h; subst h; exact .view _
  · cases h
def decs {α : Type} (d : List PV → Option α) : List (List PV) → Option (List α)
  | [] => some []
  | r :: rs => match d r, decs d rs with
    | some a, some l => some (a :: l)
    | _, _ => none
theorem decs_spec {α : Type} [Inhabited α] {d : List PV → Option α} {row : α → List PV} (hd : ∀ r a, d r = some a → RowLe r (row a)) : ∀ (rs : List (List PV)) (l : List α), decs d rs = some l →
    l.length = rs.length ∧ ∀ (i : Nat) (r : List PV), rs[i]? = some r → RowLe r (row (l.getD i default))
  | [], l, h => by
    simp only [decs, Option.some.injEq] at h
    subst h
    exact ⟨rfl, fun i r hr => by simp at hr⟩
  | r :: rs, l, h => by
    simp only [decs] at h
    split at h
    · rename_i a m h1 h2
      injection h with h
      subst h
      obtain ⟨q1, q2⟩ := decs_spec hd rs m h2
      refine ⟨by simp [q1], fun i x hx => ?_⟩
      cases i with
      | zero => simp at hx; subst hx; simpa using hd _ _ h1
      | succ i => simpa using q2 i x (by simpa using hx)
    · cases h
def flats : List PV → Bool
  | [] => true
  | p :: r => match p.flat with
    | true => flats r
    | false => false
theorem flats_mem : ∀ (l : List PV), flats l = true → ∀ p ∈ l, p.flat = true
  | [], _, p, h => by cases h
  | q :: r, h, p, hp => by
    simp only [flats] at h
    cases hq : q.flat with
    | false => rw [hq] at h; cases h
    | true =>
      rw [hq] at h
      rcases List.mem_cons.1 hp with e | e
      · subst e; exact hq
      · exact flats_mem r h p e
def dl3 : PV → Option (List Int)
  | .lst _ x => x.g3
  | .val (.slice none 0 0) => some []
  | _ => none
theorem dl3_le {p : PV} {a : List Int} (h : dl3 p = some a) : PV.Le p (.lst false (.t3 a)) := by
  unfold dl3 at h
  split at h
  · rename_i o x
    cases x <;> simp only [LX.g3] at h <;> first | (injection h with h; subst h; exact .view _) | cases h
  · injection h with h; subst h; exact .nil false _ rfl
  · cases h
def dl9 : PV → Option (List ByteArray)
  | .lst _ x => x.g9
  | .val (.slice none 0 0) => some []
  | _ => none
theorem dl9_le {p : PV} {a : List ByteArray} (h : dl9 p = some a) : PV.Le p (.lst false (.t9 a)) := by
  unfold dl9 at h
  split at h
  · rename_i o x
    cases x <;> simp only [LX.g9] at h <;> first | (injection h with h; subst h; exact .view _) | cases h
  · injection h with h; subst h; exact .nil false _ rfl
  · cases h
def dl35 : PV → Option (List (List Int))
  | .lst _ x => x.g35
  | .val (.slice none 0 0) => some []
  | _ => none
theorem dl35_le {p : PV} {a : List (List Int)} (h : dl35 p = some a) : PV.Le p (.lst false (.t35 a)) := by
  unfold dl35 at h
  split at h
  · rename_i o x
    cases x <;> simp only [LX.g35] at h <;> first | (injection h with h; subst h; exact .view _) | cases h
  · injection h with h; subst h; exact .nil false _ rfl
  · cases h
def dl59 : PV → Option (List api_Factor)
  | .lst _ x => x.g59
  | .val (.slice none 0 0) => some []
  | _ => none
theorem dl59_le {p : PV} {a : List api_Factor} (h : dl59 p = some a) : PV.Le p (.lst false (.t59 a)) := by
  unfold dl59 at h
  split at h
  · rename_i o x
    cases x <;> simp only [LX.g59] at h <;> first | (injection h with h; subst h; exact .view _) | cases h
  · injection h with h; subst h; exact .nil false _ rfl
  · cases h
def dl73 : PV → Option (List api_Routine)
  | .lst _ x => x.g73
  | .val (.slice none 0 0) => some []
  | _ => none
theorem dl73_le {p : PV} {a : List api_Routine} (h : dl73 p = some a) : PV.Le p (.lst false (.t73 a)) := by
  unfold dl73 at h
  split at h
  · rename_i o x
    cases x <;> simp only [LX.g73] at h <;> first | (injection h with h; subst h; exact .view _) | cases h
  · injection h with h; subst h; exact .nil false _ rfl
  · cases h
def dl76 : PV → Option (List api_Setting)
  | .lst _ x => x.g76
  | .val (.slice none 0 0) => some []
  | _ => none
theorem dl76_le {p : PV} {a : List api_Setting} (h : dl76 p = some a) : PV.Le p (.lst false (.t76 a)) := by
  unfold dl76 at h
  split at h
  · rename_i o x
    cases x <;> simp only [LX.g76] at h <;> first | (injection h with h; subst h; exact .view _) | cases h
  · injection h with h; subst h; exact .nil false _ rfl
  · cases h
def dl82 : PV → Option (List api_Value)
  | .lst _ x => x.g82
  | .val (.slice none 0 0) => some []
  | _ => none
theorem dl82_le {p : PV} {a : List api_Value} (h : dl82 p = some a) : PV.Le p (.lst false (.t82 a)) := by
  unfold dl82 at h
  split at h
  · rename_i o x
    cases x <;> simp only [LX.g82] at h <;> first | (injection h with h; subst h; exact .view _) | cases h
  · injection h with h; subst h; exact .nil false _ rfl
  · cases h
def dl101 : PV → Option (List api_Expr)
  | .lst _ x => x.g101
  | .val (.slice none 0 0) => some []
  | _ => none
theorem dl101_le {p : PV} {a : List api_Expr} (h : dl101 p = some a) : PV.Le p (.lst false (.t101 a)) := by
  unfold dl101 at h
  split at h
  · rename_i o x
    cases x <;> simp only [LX.g101] at h <;> first | (injection h with h; subst h; exact .view _) | cases h
  · injection h with h; subst h; exact .nil false _ rfl
  · cases h
def dl106 : PV → Option (List api_Stmt)
  | .lst _ x => x.g106
  | .val (.slice none 0 0) => some []
  | _ => none
theorem dl106_le {p : PV} {a : List api_Stmt} (h : dl106 p = some a) : PV.Le p (.lst false (.t106 a)) := by
  unfold dl106 at h
  split at h
  · rename_i o x
    cases x <;> simp only [LX.g106] at h <;> first | (injection h with h; subst h; exact .view _) | cases h
  · injection h with h; subst h; exact .nil false _ rfl
  · cases h
def dl151 : PV → Option (List api_ResourceDecl)
  | .lst _ x => x.g151
  | .val (.slice none 0 0) => some []
  | _ => none
theorem dl151_le {p : PV} {a : List api_ResourceDecl} (h : dl151 p = some a) : PV.Le p (.lst false (.t151 a)) := by
  unfold dl151 at h
  split at h
  · rename_i o x
    cases x <;> simp only [LX.g151] at h <;> first | (injection h with h; subst h; exact .view _) | cases h
  · injection h with h; subst h; exact .nil false _ rfl
  · cases h
def dl157 : PV → Option (List api_StoreDecl)
  | .lst _ x => x.g157
  | .val (.slice none 0 0) => some []
  | _ => none
theorem dl157_le {p : PV} {a : List api_StoreDecl} (h : dl157 p = some a) : PV.Le p (.lst false (.t157 a)) := by
  unfold dl157 at h
  split at h
  · rename_i o x
    cases x <;> simp only [LX.g157] at h <;> first | (injection h with h; subst h; exact .view _) | cases h
  · injection h with h; subst h; exact .nil false _ rfl
  · cases h
def dl161 : PV → Option (List api_BeltDecl)
  | .lst _ x => x.g161
  | .val (.slice none 0 0) => some []
  | _ => none
theorem dl161_le {p : PV} {a : List api_BeltDecl} (h : dl161 p = some a) : PV.Le p (.lst false (.t161 a)) := by
  unfold dl161 at h
  split at h
  · rename_i o x
    cases x <;> simp only [LX.g161] at h <;> first | (injection h with h; subst h; exact .view _) | cases h
  · injection h with h; subst h; exact .nil false _ rfl
  · cases h
def dl167 : PV → Option (List api_Start)
  | .lst _ x => x.g167
  | .val (.slice none 0 0) => some []
  | _ => none
theorem dl167_le {p : PV} {a : List api_Start} (h : dl167 p = some a) : PV.Le p (.lst false (.t167 a)) := by
  unfold dl167 at h
  split at h
  · rename_i o x
    cases x <;> simp only [LX.g167] at h <;> first | (injection h with h; subst h; exact .view _) | cases h
  · injection h with h; subst h; exact .nil false _ rfl
  · cases h
def dl186 : PV → Option (List api_Law)
  | .lst _ x => x.g186
  | .val (.slice none 0 0) => some []
  | _ => none
theorem dl186_le {p : PV} {a : List api_Law} (h : dl186 p = some a) : PV.Le p (.lst false (.t186 a)) := by
  unfold dl186 at h
  split at h
  · rename_i o x
    cases x <;> simp only [LX.g186] at h <;> first | (injection h with h; subst h; exact .view _) | cases h
  · injection h with h; subst h; exact .nil false _ rfl
  · cases h
def dl190 : PV → Option (List api_Change)
  | .lst _ x => x.g190
  | .val (.slice none 0 0) => some []
  | _ => none
theorem dl190_le {p : PV} {a : List api_Change} (h : dl190 p = some a) : PV.Le p (.lst false (.t190 a)) := by
  unfold dl190 at h
  split at h
  · rename_i o x
    cases x <;> simp only [LX.g190] at h <;> first | (injection h with h; subst h; exact .view _) | cases h
  · injection h with h; subst h; exact .nil false _ rfl
  · cases h
def dl196 : PV → Option (List api_Field)
  | .lst _ x => x.g196
  | .val (.slice none 0 0) => some []
  | _ => none
theorem dl196_le {p : PV} {a : List api_Field} (h : dl196 p = some a) : PV.Le p (.lst false (.t196 a)) := by
  unfold dl196 at h
  split at h
  · rename_i o x
    cases x <;> simp only [LX.g196] at h <;> first | (injection h with h; subst h; exact .view _) | cases h
  · injection h with h; subst h; exact .nil false _ rfl
  · cases h
def dl201 : PV → Option (List api_Term)
  | .lst _ x => x.g201
  | .val (.slice none 0 0) => some []
  | _ => none
theorem dl201_le {p : PV} {a : List api_Term} (h : dl201 p = some a) : PV.Le p (.lst false (.t201 a)) := by
  unfold dl201 at h
  split at h
  · rename_i o x
    cases x <;> simp only [LX.g201] at h <;> first | (injection h with h; subst h; exact .view _) | cases h
  · injection h with h; subst h; exact .nil false _ rfl
  · cases h
def row3 (x : Int) : List PV := [.val (.int .i64 x)]
def dec3 (r : List PV) : Option Int := match r with
  | [c0] => match dInt .i64 c0 with
    | some a0 => some a0
    | _ => none
  | _ => none
theorem dec3_le (r : List PV) (x : Int) (h : dec3 r = some x) : RowLe r (row3 x) := by
  unfold dec3 at h
  split at h
  · split at h
    · rename_i h0
      injection h with h; subst h; exact (.cons (dInt_le h0) RowLe.nil)
    · cases h
  · cases h
def row4 (x : Bool) : List PV := [.val (.bool x)]
def dec4 (r : List PV) : Option Bool := match r with
  | [c0] => match dBool c0 with
    | some a0 => some a0
    | _ => none
  | _ => none
theorem dec4_le (r : List PV) (x : Bool) (h : dec4 r = some x) : RowLe r (row4 x) := by
  unfold dec4 at h
  split at h
  · split at h
    · rename_i h0
      injection h with h; subst h; exact (.cons (dBool_le h0) RowLe.nil)
    · cases h
  · cases h
def row9 (x : ByteArray) : List PV := [.val (.string x)]
def dec9 (r : List PV) : Option ByteArray := match r with
  | [c0] => match dStr c0 with
    | some a0 => some a0
    | _ => none
  | _ => none
theorem dec9_le (r : List PV) (x : ByteArray) (h : dec9 r = some x) : RowLe r (row9 x) := by
  unfold dec9 at h
  split at h
  · split at h
    · rename_i h0
      injection h with h; subst h; exact (.cons (dStr_le h0) RowLe.nil)
    · cases h
  · cases h
def row35 (x : (List Int)) : List PV := [.lst false (.t3 x)]
def dec35 (r : List PV) : Option (List Int) := match r with
  | [c0] => match dl3 c0 with
    | some a0 => some a0
    | _ => none
  | _ => none
theorem dec35_le (r : List PV) (x : (List Int)) (h : dec35 r = some x) : RowLe r (row35 x) := by
  unfold dec35 at h
  split at h
  · split at h
    · rename_i h0
      injection h with h; subst h; exact (.cons (dl3_le h0) RowLe.nil)
    · cases h
  · cases h
def row59 (x : api_Factor) : List PV := [.val (.string x.Name), .lst false (.t3 x.Levels)]
def dec59 (r : List PV) : Option api_Factor := match r with
  | [c0, c1] => match dStr c0, dl3 c1 with
    | some a0, some a1 => some (api_Factor.mk a0 a1)
    | _, _ => none
  | _ => none
theorem dec59_le (r : List PV) (x : api_Factor) (h : dec59 r = some x) : RowLe r (row59 x) := by
  unfold dec59 at h
  split at h
  · split at h
    · rename_i h0 h1
      injection h with h; subst h; exact (.cons (dStr_le h0) (.cons (dl3_le h1) RowLe.nil))
    · cases h
  · cases h
def row63 (x : (List ByteArray)) : List PV := [.lst false (.t9 x)]
def dec63 (r : List PV) : Option (List ByteArray) := match r with
  | [c0] => match dl9 c0 with
    | some a0 => some a0
    | _ => none
  | _ => none
theorem dec63_le (r : List PV) (x : (List ByteArray)) (h : dec63 r = some x) : RowLe r (row63 x) := by
  unfold dec63 at h
  split at h
  · split at h
    · rename_i h0
      injection h with h; subst h; exact (.cons (dl9_le h0) RowLe.nil)
    · cases h
  · cases h
def row68 (x : api_SiteDecl) : List PV := [.val (.string x.Name), .lst false (.t82 x.Vars), .lst false (.t151 x.Resources), .lst false (.t157 x.Stores), .lst false (.t161 x.Belts), .lst false (.t9 x.Queues), .lst false (.t9 x.Streams), .lst false (.t9 x.Tallies), .lst false (.t9 x.Levels), .lst false (.t9 x.Counts), .lst false (.t73 x.Routines), .lst false (.t167 x.Starts), .lst false (.t186 x.Laws)]
def dec68 (r : List PV) : Option api_SiteDecl := match r with
  | [c0, c1, c2, c3, c4, c5, c6, c7, c8, c9, c10, c11, c12] => match dStr c0, dl82 c1, dl151 c2, dl157 c3, dl161 c4, dl9 c5, dl9 c6, dl9 c7, dl9 c8, dl9 c9, dl73 c10, dl167 c11, dl186 c12 with
    | some a0, some a1, some a2, some a3, some a4, some a5, some a6, some a7, some a8, some a9, some a10, some a11, some a12 => some (api_SiteDecl.mk a0 a1 a2 a3 a4 a5 a6 a7 a8 a9 a10 a11 a12)
    | _, _, _, _, _, _, _, _, _, _, _, _, _ => none
  | _ => none
theorem dec68_le (r : List PV) (x : api_SiteDecl) (h : dec68 r = some x) : RowLe r (row68 x) := by
  unfold dec68 at h
  split at h
  · split at h
    · rename_i h0 h1 h2 h3 h4 h5 h6 h7 h8 h9 h10 h11 h12
      injection h with h; subst h; exact (.cons (dStr_le h0) (.cons (dl82_le h1) (.cons (dl151_le h2) (.cons (dl157_le h3) (.cons (dl161_le h4) (.cons (dl9_le h5) (.cons (dl9_le h6) (.cons (dl9_le h7) (.cons (dl9_le h8) (.cons (dl9_le h9) (.cons (dl73_le h10) (.cons (dl167_le h11) (.cons (dl186_le h12) RowLe.nil)))))))))))))
    · cases h
  · cases h
def row70 (x : (List api_Field)) : List PV := [.lst false (.t196 x)]
def dec70 (r : List PV) : Option (List api_Field) := match r with
  | [c0] => match dl196 c0 with
    | some a0 => some a0
    | _ => none
  | _ => none
theorem dec70_le (r : List PV) (x : (List api_Field)) (h : dec70 r = some x) : RowLe r (row70 x) := by
  unfold dec70 at h
  split at h
  · split at h
    · rename_i h0
      injection h with h; subst h; exact (.cons (dl196_le h0) RowLe.nil)
    · cases h
  · cases h
def row73 (x : api_Routine) : List PV := [.val (.string x.Name), .lst false (.t196 x.Params), .lst false (.t196 x.Locals), .lst false (.t106 x.Body)]
def dec73 (r : List PV) : Option api_Routine := match r with
  | [c0, c1, c2, c3] => match dStr c0, dl196 c1, dl196 c2, dl106 c3 with
    | some a0, some a1, some a2, some a3 => some (api_Routine.mk a0 a1 a2 a3)
    | _, _, _, _ => none
  | _ => none
theorem dec73_le (r : List PV) (x : api_Routine) (h : dec73 r = some x) : RowLe r (row73 x) := by
  unfold dec73 at h
  split at h
  · split at h
    · rename_i h0 h1 h2 h3
      injection h with h; subst h; exact (.cons (dStr_le h0) (.cons (dl196_le h1) (.cons (dl196_le h2) (.cons (dl106_le h3) RowLe.nil))))
    · cases h
  · cases h
def row76 (x : api_Setting) : List PV := [.val (.string x.Name), .val (.int .i64 x.N)]
def dec76 (r : List PV) : Option api_Setting := match r with
  | [c0, c1] => match dStr c0, dInt .i64 c1 with
    | some a0, some a1 => some (api_Setting.mk a0 a1)
    | _, _ => none
  | _ => none
theorem dec76_le (r : List PV) (x : api_Setting) (h : dec76 r = some x) : RowLe r (row76 x) := by
  unfold dec76 at h
  split at h
  · split at h
    · rename_i h0 h1
      injection h with h; subst h; exact (.cons (dStr_le h0) (.cons (dInt_le h1) RowLe.nil))
    · cases h
  · cases h
def row80 (x : Int) : List PV := [.val (.int .i64 x)]
def dec80 (r : List PV) : Option Int := match r with
  | [c0] => match dInt .i64 c0 with
    | some a0 => some a0
    | _ => none
  | _ => none
theorem dec80_le (r : List PV) (x : Int) (h : dec80 r = some x) : RowLe r (row80 x) := by
  unfold dec80 at h
  split at h
  · split at h
    · rename_i h0
      injection h with h; subst h; exact (.cons (dInt_le h0) RowLe.nil)
    · cases h
  · cases h
def row82 (x : api_Value) : List PV := [.val (.string x.Name), .val (.int .i64 x.Type_), .val (.int .i64 x.N)]
def dec82 (r : List PV) : Option api_Value := match r with
  | [c0, c1, c2] => match dStr c0, dInt .i64 c1, dInt .i64 c2 with
    | some a0, some a1, some a2 => some (api_Value.mk a0 a1 a2)
    | _, _, _ => none
  | _ => none
theorem dec82_le (r : List PV) (x : api_Value) (h : dec82 r = some x) : RowLe r (row82 x) := by
  unfold dec82 at h
  split at h
  · split at h
    · rename_i h0 h1 h2
      injection h with h; subst h; exact (.cons (dStr_le h0) (.cons (dInt_le h1) (.cons (dInt_le h2) RowLe.nil)))
    · cases h
  · cases h
def row101 (x : api_Expr) : List PV := [.val (.int .i64 x.Op), .val (.string x.Name), .val (.int .i64 x.N), .lst false (.t101 x.Kids)]
def dec101 (r : List PV) : Option api_Expr := match r with
  | [c0, c1, c2, c3] => match dInt .i64 c0, dStr c1, dInt .i64 c2, dl101 c3 with
    | some a0, some a1, some a2, some a3 => some (api_Expr.mk a0 a1 a2 a3)
    | _, _, _, _ => none
  | _ => none
theorem dec101_le (r : List PV) (x : api_Expr) (h : dec101 r = some x) : RowLe r (row101 x) := by
  unfold dec101 at h
  split at h
  · split at h
    · rename_i h0 h1 h2 h3
      injection h with h; subst h; exact (.cons (dInt_le h0) (.cons (dStr_le h1) (.cons (dInt_le h2) (.cons (dl101_le h3) RowLe.nil))))
    · cases h
  · cases h
def row106 (x : api_Stmt) : List PV := [.val (.int .i64 x.Op), .val (.string x.Name), .val (.string x.Of), .val (.int .i64 x.E.Op), .val (.string x.E.Name), .val (.int .i64 x.E.N), .lst false (.t101 x.E.Kids), .val (.int .i64 x.F.Op), .val (.string x.F.Name), .val (.int .i64 x.F.N), .lst false (.t101 x.F.Kids), .lst false (.t101 x.Args), .val (.int .i64 x.Dist.Op), .val (.int .i64 x.Dist.A), .val (.int .i64 x.Dist.B), .val (.int .i64 x.Dist.N), .lst false (.t3 x.Dist.Values), .lst false (.t3 x.Dist.Weights), .val (.bool x.Flag), .lst false (.t106 x.Body), .lst false (.t106 x.Else)]
def dec106 (r : List PV) : Option api_Stmt := match r with
  | [c0, c1, c2, c3, c4, c5, c6, c7, c8, c9, c10, c11, c12, c13, c14, c15, c16, c17, c18, c19, c20] => match dInt .i64 c0, dStr c1, dStr c2, dInt .i64 c3, dStr c4, dInt .i64 c5, dl101 c6, dInt .i64 c7, dStr c8, dInt .i64 c9, dl101 c10, dl101 c11, dInt .i64 c12, dInt .i64 c13, dInt .i64 c14, dInt .i64 c15, dl3 c16, dl3 c17, dBool c18, dl106 c19, dl106 c20 with
    | some a0, some a1, some a2, some a3, some a4, some a5, some a6, some a7, some a8, some a9, some a10, some a11, some a12, some a13, some a14, some a15, some a16, some a17, some a18, some a19, some a20 => some (api_Stmt.mk a0 a1 a2 (api_Expr.mk a3 a4 a5 a6) (api_Expr.mk a7 a8 a9 a10) a11 (api_Dist.mk a12 a13 a14 a15 a16 a17) a18 a19 a20)
    | _, _, _, _, _, _, _, _, _, _, _, _, _, _, _, _, _, _, _, _, _ => none
  | _ => none
theorem dec106_le (r : List PV) (x : api_Stmt) (h : dec106 r = some x) : RowLe r (row106 x) := by
  unfold dec106 at h
  split at h
  · split at h
    · rename_i h0 h1 h2 h3 h4 h5 h6 h7 h8 h9 h10 h11 h12 h13 h14 h15 h16 h17 h18 h19 h20
      injection h with h; subst h; exact (.cons (dInt_le h0) (.cons (dStr_le h1) (.cons (dStr_le h2) (.cons (dInt_le h3) (.cons (dStr_le h4) (.cons (dInt_le h5) (.cons (dl101_le h6) (.cons (dInt_le h7) (.cons (dStr_le h8) (.cons (dInt_le h9) (.cons (dl101_le h10) (.cons (dl101_le h11) (.cons (dInt_le h12) (.cons (dInt_le h13) (.cons (dInt_le h14) (.cons (dInt_le h15) (.cons (dl3_le h16) (.cons (dl3_le h17) (.cons (dBool_le h18) (.cons (dl106_le h19) (.cons (dl106_le h20) RowLe.nil)))))))))))))))))))))
    · cases h
  · cases h
def row151 (x : api_ResourceDecl) : List PV := [.val (.string x.Name), .val (.int .i64 x.Units), .lst false (.t190 x.Shift), .val (.int .i64 x.Cycle), .val (.string x.Fault.Stream), .val (.int .i64 x.Fault.Up.Op), .val (.int .i64 x.Fault.Up.A), .val (.int .i64 x.Fault.Up.B), .val (.int .i64 x.Fault.Up.N), .lst false (.t3 x.Fault.Up.Values), .lst false (.t3 x.Fault.Up.Weights), .val (.int .i64 x.Fault.Down.Op), .val (.int .i64 x.Fault.Down.A), .val (.int .i64 x.Fault.Down.B), .val (.int .i64 x.Fault.Down.N), .lst false (.t3 x.Fault.Down.Values), .lst false (.t3 x.Fault.Down.Weights)]
def dec151 (r : List PV) : Option api_ResourceDecl := match r with
  | [c0, c1, c2, c3, c4, c5, c6, c7, c8, c9, c10, c11, c12, c13, c14, c15, c16] => match dStr c0, dInt .i64 c1, dl190 c2, dInt .i64 c3, dStr c4, dInt .i64 c5, dInt .i64 c6, dInt .i64 c7, dInt .i64 c8, dl3 c9, dl3 c10, dInt .i64 c11, dInt .i64 c12, dInt .i64 c13, dInt .i64 c14, dl3 c15, dl3 c16 with
    | some a0, some a1, some a2, some a3, some a4, some a5, some a6, some a7, some a8, some a9, some a10, some a11, some a12, some a13, some a14, some a15, some a16 => some (api_ResourceDecl.mk a0 a1 a2 a3 (api_Fault.mk a4 (api_Dist.mk a5 a6 a7 a8 a9 a10) (api_Dist.mk a11 a12 a13 a14 a15 a16)))
    | _, _, _, _, _, _, _, _, _, _, _, _, _, _, _, _, _ => none
  | _ => none
theorem dec151_le (r : List PV) (x : api_ResourceDecl) (h : dec151 r = some x) : RowLe r (row151 x) := by
  unfold dec151 at h
  split at h
  · split at h
    · rename_i h0 h1 h2 h3 h4 h5 h6 h7 h8 h9 h10 h11 h12 h13 h14 h15 h16
      injection h with h; subst h; exact (.cons (dStr_le h0) (.cons (dInt_le h1) (.cons (dl190_le h2) (.cons (dInt_le h3) (.cons (dStr_le h4) (.cons (dInt_le h5) (.cons (dInt_le h6) (.cons (dInt_le h7) (.cons (dInt_le h8) (.cons (dl3_le h9) (.cons (dl3_le h10) (.cons (dInt_le h11) (.cons (dInt_le h12) (.cons (dInt_le h13) (.cons (dInt_le h14) (.cons (dl3_le h15) (.cons (dl3_le h16) RowLe.nil)))))))))))))))))
    · cases h
  · cases h
def row157 (x : api_StoreDecl) : List PV := [.val (.string x.Name), .val (.int .i64 x.Room), .val (.int .i64 x.Policy)]
def dec157 (r : List PV) : Option api_StoreDecl := match r with
  | [c0, c1, c2] => match dStr c0, dInt .i64 c1, dInt .i64 c2 with
    | some a0, some a1, some a2 => some (api_StoreDecl.mk a0 a1 a2)
    | _, _, _ => none
  | _ => none
theorem dec157_le (r : List PV) (x : api_StoreDecl) (h : dec157 r = some x) : RowLe r (row157 x) := by
  unfold dec157 at h
  split at h
  · split at h
    · rename_i h0 h1 h2
      injection h with h; subst h; exact (.cons (dStr_le h0) (.cons (dInt_le h1) (.cons (dInt_le h2) RowLe.nil)))
    · cases h
  · cases h
def row161 (x : api_BeltDecl) : List PV := [.val (.string x.Name), .val (.int .i64 x.Length), .val (.int .i64 x.Step)]
def dec161 (r : List PV) : Option api_BeltDecl := match r with
  | [c0, c1, c2] => match dStr c0, dInt .i64 c1, dInt .i64 c2 with
    | some a0, some a1, some a2 => some (api_BeltDecl.mk a0 a1 a2)
    | _, _, _ => none
  | _ => none
theorem dec161_le (r : List PV) (x : api_BeltDecl) (h : dec161 r = some x) : RowLe r (row161 x) := by
  unfold dec161 at h
  split at h
  · split at h
    · rename_i h0 h1 h2
      injection h with h; subst h; exact (.cons (dStr_le h0) (.cons (dInt_le h1) (.cons (dInt_le h2) RowLe.nil)))
    · cases h
  · cases h
def row167 (x : api_Start) : List PV := [.val (.string x.Routine), .lst false (.t3 x.Args), .val (.int .i64 x.At), .val (.int .i64 x.Every), .val (.int .i64 x.Until)]
def dec167 (r : List PV) : Option api_Start := match r with
  | [c0, c1, c2, c3, c4] => match dStr c0, dl3 c1, dInt .i64 c2, dInt .i64 c3, dInt .i64 c4 with
    | some a0, some a1, some a2, some a3, some a4 => some (api_Start.mk a0 a1 a2 a3 a4)
    | _, _, _, _, _ => none
  | _ => none
theorem dec167_le (r : List PV) (x : api_Start) (h : dec167 r = some x) : RowLe r (row167 x) := by
  unfold dec167 at h
  split at h
  · split at h
    · rename_i h0 h1 h2 h3 h4
      injection h with h; subst h; exact (.cons (dStr_le h0) (.cons (dl3_le h1) (.cons (dInt_le h2) (.cons (dInt_le h3) (.cons (dInt_le h4) RowLe.nil)))))
    · cases h
  · cases h
def row173 (x : api_Link) : List PV := [.val (.string x.From), .val (.string x.To), .val (.int .i64 x.Delay)]
def dec173 (r : List PV) : Option api_Link := match r with
  | [c0, c1, c2] => match dStr c0, dStr c1, dInt .i64 c2 with
    | some a0, some a1, some a2 => some (api_Link.mk a0 a1 a2)
    | _, _, _ => none
  | _ => none
theorem dec173_le (r : List PV) (x : api_Link) (h : dec173 r = some x) : RowLe r (row173 x) := by
  unfold dec173 at h
  split at h
  · split at h
    · rename_i h0 h1 h2
      injection h with h; subst h; exact (.cons (dStr_le h0) (.cons (dStr_le h1) (.cons (dInt_le h2) RowLe.nil)))
    · cases h
  · cases h
def row174 (x : Arr2_ByteArray) : List PV := [.val (.string x.a0), .val (.string x.a1)]
def dec174 (r : List PV) : Option Arr2_ByteArray := match r with
  | [c0, c1] => match dStr c0, dStr c1 with
    | some a0, some a1 => some (Arr2_ByteArray.mk a0 a1)
    | _, _ => none
  | _ => none
theorem dec174_le (r : List PV) (x : Arr2_ByteArray) (h : dec174 r = some x) : RowLe r (row174 x) := by
  unfold dec174 at h
  split at h
  · split at h
    · rename_i h0 h1
      injection h with h; subst h; exact (.cons (dStr_le h0) (.cons (dStr_le h1) RowLe.nil))
    · cases h
  · cases h
def row186 (x : api_Law) : List PV := [.val (.string x.Name), .lst false (.t201 x.Terms), .val (.int .i64 x.Total)]
def dec186 (r : List PV) : Option api_Law := match r with
  | [c0, c1, c2] => match dStr c0, dl201 c1, dInt .i64 c2 with
    | some a0, some a1, some a2 => some (api_Law.mk a0 a1 a2)
    | _, _, _ => none
  | _ => none
theorem dec186_le (r : List PV) (x : api_Law) (h : dec186 r = some x) : RowLe r (row186 x) := by
  unfold dec186 at h
  split at h
  · split at h
    · rename_i h0 h1 h2
      injection h with h; subst h; exact (.cons (dStr_le h0) (.cons (dl201_le h1) (.cons (dInt_le h2) RowLe.nil)))
    · cases h
  · cases h
def row190 (x : api_Change) : List PV := [.val (.int .i64 x.At), .val (.int .i64 x.Units)]
def dec190 (r : List PV) : Option api_Change := match r with
  | [c0, c1] => match dInt .i64 c0, dInt .i64 c1 with
    | some a0, some a1 => some (api_Change.mk a0 a1)
    | _, _ => none
  | _ => none
theorem dec190_le (r : List PV) (x : api_Change) (h : dec190 r = some x) : RowLe r (row190 x) := by
  unfold dec190 at h
  split at h
  · split at h
    · rename_i h0 h1
      injection h with h; subst h; exact (.cons (dInt_le h0) (.cons (dInt_le h1) RowLe.nil))
    · cases h
  · cases h
def row196 (x : api_Field) : List PV := [.val (.string x.Name), .val (.int .i64 x.Type_)]
def dec196 (r : List PV) : Option api_Field := match r with
  | [c0, c1] => match dStr c0, dInt .i64 c1 with
    | some a0, some a1 => some (api_Field.mk a0 a1)
    | _, _ => none
  | _ => none
theorem dec196_le (r : List PV) (x : api_Field) (h : dec196 r = some x) : RowLe r (row196 x) := by
  unfold dec196 at h
  split at h
  · split at h
    · rename_i h0 h1
      injection h with h; subst h; exact (.cons (dStr_le h0) (.cons (dInt_le h1) RowLe.nil))
    · cases h
  · cases h
def row201 (x : api_Term) : List PV := [.val (.int .i64 x.Coef), .val (.string x.What), .val (.string x.Name)]
def dec201 (r : List PV) : Option api_Term := match r with
  | [c0, c1, c2] => match dInt .i64 c0, dStr c1, dStr c2 with
    | some a0, some a1, some a2 => some (api_Term.mk a0 a1 a2)
    | _, _, _ => none
  | _ => none
theorem dec201_le (r : List PV) (x : api_Term) (h : dec201 r = some x) : RowLe r (row201 x) := by
  unfold dec201 at h
  split at h
  · split at h
    · rename_i h0 h1 h2
      injection h with h; subst h; exact (.cons (dInt_le h0) (.cons (dStr_le h1) (.cons (dStr_le h2) RowLe.nil)))
    · cases h
  · cases h
def row235 (x : St_is_name) : List PV := [.val (.bool x.u_is), .val (.string x.u_name)]
def dec235 (r : List PV) : Option St_is_name := match r with
  | [c0, c1] => match dBool c0, dStr c1 with
    | some a0, some a1 => some (St_is_name.mk a0 a1)
    | _, _ => none
  | _ => none
theorem dec235_le (r : List PV) (x : St_is_name) (h : dec235 r = some x) : RowLe r (row235 x) := by
  unfold dec235 at h
  split at h
  · split at h
    · rename_i h0 h1
      injection h with h; subst h; exact (.cons (dBool_le h0) (.cons (dStr_le h1) RowLe.nil))
    · cases h
  · cases h
def row237 (x : St_is_e) : List PV := [.val (.bool x.u_is), .val (.int .i64 x.u_e.Op), .val (.string x.u_e.Name), .val (.int .i64 x.u_e.N), .lst false (.t101 x.u_e.Kids)]
def dec237 (r : List PV) : Option St_is_e := match r with
  | [c0, c1, c2, c3, c4] => match dBool c0, dInt .i64 c1, dStr c2, dInt .i64 c3, dl101 c4 with
    | some a0, some a1, some a2, some a3, some a4 => some (St_is_e.mk a0 (api_Expr.mk a1 a2 a3 a4))
    | _, _, _, _, _ => none
  | _ => none
theorem dec237_le (r : List PV) (x : St_is_e) (h : dec237 r = some x) : RowLe r (row237 x) := by
  unfold dec237 at h
  split at h
  · split at h
    · rename_i h0 h1 h2 h3 h4
      injection h with h; subst h; exact (.cons (dBool_le h0) (.cons (dInt_le h1) (.cons (dStr_le h2) (.cons (dInt_le h3) (.cons (dl101_le h4) RowLe.nil)))))
    · cases h
  · cases h
def LX.row (x : LX) (i : Nat) : List PV := match x with
  | .t3 l => row3 (l.getD i default)
  | .t4 l => row4 (l.getD i default)
  | .t9 l => row9 (l.getD i default)
  | .t35 l => row35 (l.getD i default)
  | .t59 l => row59 (l.getD i default)
  | .t63 l => row63 (l.getD i default)
  | .t68 l => row68 (l.getD i default)
  | .t70 l => row70 (l.getD i default)
  | .t73 l => row73 (l.getD i default)
  | .t76 l => row76 (l.getD i default)
  | .t80 l => row80 (l.getD i default)
  | .t82 l => row82 (l.getD i default)
  | .t101 l => row101 (l.getD i default)
  | .t106 l => row106 (l.getD i default)
  | .t151 l => row151 (l.getD i default)
  | .t157 l => row157 (l.getD i default)
  | .t161 l => row161 (l.getD i default)
  | .t167 l => row167 (l.getD i default)
  | .t173 l => row173 (l.getD i default)
  | .t174 l => row174 (l.getD i default)
  | .t186 l => row186 (l.getD i default)
  | .t190 l => row190 (l.getD i default)
  | .t196 l => row196 (l.getD i default)
  | .t201 l => row201 (l.getD i default)
  | .t235 l => row235 (l.getD i default)
  | .t237 l => row237 (l.getD i default)
def LX.lit (e : Nat) (rs : List (List PV)) : Option LX := match Nat.beq e 3 with
  | true => optK .t3 (decs dec3 rs)
  | false => match Nat.beq e 4 with
  | true => optK .t4 (decs dec4 rs)
  | false => match Nat.beq e 9 with
  | true => optK .t9 (decs dec9 rs)
  | false => match Nat.beq e 35 with
  | true => optK .t35 (decs dec35 rs)
  | false => match Nat.beq e 59 with
  | true => optK .t59 (decs dec59 rs)
  | false => match Nat.beq e 63 with
  | true => optK .t63 (decs dec63 rs)
  | false => match Nat.beq e 68 with
  | true => optK .t68 (decs dec68 rs)
  | false => match Nat.beq e 70 with
  | true => optK .t70 (decs dec70 rs)
  | false => match Nat.beq e 73 with
  | true => optK .t73 (decs dec73 rs)
  | false => match Nat.beq e 76 with
  | true => optK .t76 (decs dec76 rs)
  | false => match Nat.beq e 80 with
  | true => optK .t80 (decs dec80 rs)
  | false => match Nat.beq e 82 with
  | true => optK .t82 (decs dec82 rs)
  | false => match Nat.beq e 101 with
  | true => optK .t101 (decs dec101 rs)
  | false => match Nat.beq e 106 with
  | true => optK .t106 (decs dec106 rs)
  | false => match Nat.beq e 151 with
  | true => optK .t151 (decs dec151 rs)
  | false => match Nat.beq e 157 with
  | true => optK .t157 (decs dec157 rs)
  | false => match Nat.beq e 161 with
  | true => optK .t161 (decs dec161 rs)
  | false => match Nat.beq e 167 with
  | true => optK .t167 (decs dec167 rs)
  | false => match Nat.beq e 173 with
  | true => optK .t173 (decs dec173 rs)
  | false => match Nat.beq e 174 with
  | true => optK .t174 (decs dec174 rs)
  | false => match Nat.beq e 186 with
  | true => optK .t186 (decs dec186 rs)
  | false => match Nat.beq e 190 with
  | true => optK .t190 (decs dec190 rs)
  | false => match Nat.beq e 196 with
  | true => optK .t196 (decs dec196 rs)
  | false => match Nat.beq e 201 with
  | true => optK .t201 (decs dec201 rs)
  | false => match Nat.beq e 235 with
  | true => optK .t235 (decs dec235 rs)
  | false => match Nat.beq e 237 with
  | true => optK .t237 (decs dec237 rs)
  | false => none
def LX.set (x : LX) (i off : Nat) (c : List PV) : Option LX := match x with
  | .t3 l => optS (lenGe0 (row3 (l.getD i default)) (off + c.length)) (fun a => .t3 (l.set i a)) (dec3 (setN (row3 (l.getD i default)) off c))
  | .t4 l => optS (lenGe0 (row4 (l.getD i default)) (off + c.length)) (fun a => .t4 (l.set i a)) (dec4 (setN (row4 (l.getD i default)) off c))
  | .t9 l => optS (lenGe0 (row9 (l.getD i default)) (off + c.length)) (fun a => .t9 (l.set i a)) (dec9 (setN (row9 (l.getD i default)) off c))
  | .t35 l => optS (lenGe0 (row35 (l.getD i default)) (off + c.length)) (fun a => .t35 (l.set i a)) (dec35 (setN (row35 (l.getD i default)) off c))
  | .t59 l => optS (lenGe0 (row59 (l.getD i default)) (off + c.length)) (fun a => .t59 (l.set i a)) (dec59 (setN (row59 (l.getD i default)) off c))
  | .t63 l => optS (lenGe0 (row63 (l.getD i default)) (off + c.length)) (fun a => .t63 (l.set i a)) (dec63 (setN (row63 (l.getD i default)) off c))
  | .t68 l => optS (lenGe0 (row68 (l.getD i default)) (off + c.length)) (fun a => .t68 (l.set i a)) (dec68 (setN (row68 (l.getD i default)) off c))
  | .t70 l => optS (lenGe0 (row70 (l.getD i default)) (off + c.length)) (fun a => .t70 (l.set i a)) (dec70 (setN (row70 (l.getD i default)) off c))
  | .t73 l => optS (lenGe0 (row73 (l.getD i default)) (off + c.length)) (fun a => .t73 (l.set i a)) (dec73 (setN (row73 (l.getD i default)) off c))
  | .t76 l => optS (lenGe0 (row76 (l.getD i default)) (off + c.length)) (fun a => .t76 (l.set i a)) (dec76 (setN (row76 (l.getD i default)) off c))
  | .t80 l => optS (lenGe0 (row80 (l.getD i default)) (off + c.length)) (fun a => .t80 (l.set i a)) (dec80 (setN (row80 (l.getD i default)) off c))
  | .t82 l => optS (lenGe0 (row82 (l.getD i default)) (off + c.length)) (fun a => .t82 (l.set i a)) (dec82 (setN (row82 (l.getD i default)) off c))
  | .t101 l => optS (lenGe0 (row101 (l.getD i default)) (off + c.length)) (fun a => .t101 (l.set i a)) (dec101 (setN (row101 (l.getD i default)) off c))
  | .t106 l => optS (lenGe0 (row106 (l.getD i default)) (off + c.length)) (fun a => .t106 (l.set i a)) (dec106 (setN (row106 (l.getD i default)) off c))
  | .t151 l => optS (lenGe0 (row151 (l.getD i default)) (off + c.length)) (fun a => .t151 (l.set i a)) (dec151 (setN (row151 (l.getD i default)) off c))
  | .t157 l => optS (lenGe0 (row157 (l.getD i default)) (off + c.length)) (fun a => .t157 (l.set i a)) (dec157 (setN (row157 (l.getD i default)) off c))
  | .t161 l => optS (lenGe0 (row161 (l.getD i default)) (off + c.length)) (fun a => .t161 (l.set i a)) (dec161 (setN (row161 (l.getD i default)) off c))
  | .t167 l => optS (lenGe0 (row167 (l.getD i default)) (off + c.length)) (fun a => .t167 (l.set i a)) (dec167 (setN (row167 (l.getD i default)) off c))
  | .t173 l => optS (lenGe0 (row173 (l.getD i default)) (off + c.length)) (fun a => .t173 (l.set i a)) (dec173 (setN (row173 (l.getD i default)) off c))
  | .t174 l => optS (lenGe0 (row174 (l.getD i default)) (off + c.length)) (fun a => .t174 (l.set i a)) (dec174 (setN (row174 (l.getD i default)) off c))
  | .t186 l => optS (lenGe0 (row186 (l.getD i default)) (off + c.length)) (fun a => .t186 (l.set i a)) (dec186 (setN (row186 (l.getD i default)) off c))
  | .t190 l => optS (lenGe0 (row190 (l.getD i default)) (off + c.length)) (fun a => .t190 (l.set i a)) (dec190 (setN (row190 (l.getD i default)) off c))
  | .t196 l => optS (lenGe0 (row196 (l.getD i default)) (off + c.length)) (fun a => .t196 (l.set i a)) (dec196 (setN (row196 (l.getD i default)) off c))
  | .t201 l => optS (lenGe0 (row201 (l.getD i default)) (off + c.length)) (fun a => .t201 (l.set i a)) (dec201 (setN (row201 (l.getD i default)) off c))
  | .t235 l => optS (lenGe0 (row235 (l.getD i default)) (off + c.length)) (fun a => .t235 (l.set i a)) (dec235 (setN (row235 (l.getD i default)) off c))
  | .t237 l => optS (lenGe0 (row237 (l.getD i default)) (off + c.length)) (fun a => .t237 (l.set i a)) (dec237 (setN (row237 (l.getD i default)) off c))
def LX.find (x : LX) (c : List PV) : Option (Option Nat) := match x, c with
  | .t3 l, [.val (.int k0 a0)] => match decide (k0 = .i64) with
    | true => some (l.findIdx? fun b => a0 == b)
    | _ => none
  | .t4 l, [.val (.bool a0)] => some (l.findIdx? fun b => a0 == b)
  | .t9 l, [.val (.string a0)] => some (l.findIdx? fun b => a0 == b)
  | .t80 l, [.val (.int k0 a0)] => match decide (k0 = .i64) with
    | true => some (l.findIdx? fun b => a0 == b)
    | _ => none
  | .t174 l, [.val (.string a0), .val (.string a1)] => some (l.findIdx? fun b => (a0 == b.a0 && (a1 == b.a1)))
  | _, _ => none
def LX.push (x : LX) (c : List PV) : Option LX := match LX.lit x.e [c] with
  | some y => x.cat y
  | none => none
theorem LX.row_len (x : LX) (i : Nat) : (x.row i).length = x.sz := by cases x <;> rfl
theorem LX.row_flat (x : LX) (i : Nat) : ∀ p ∈ x.row i, p.flat = true := flats_mem _ (by cases x <;> rfl)
theorem LX.nil_spec (e : Nat) (x : LX) (h : LX.nil e = some x) : x.e = e ∧ x.len = 0 := by
  unfold LX.nil at h
  cases b3 : Nat.beq e 3
  case true => simp only [b3] at h; injection h with h; subst h; exact ⟨(Nat.eq_of_beq_eq_true b3).symm, rfl⟩
  simp only [b3] at h
  cases b4 : Nat.beq e 4
  case true => simp only [b4] at h; injection h with h; subst h; exact ⟨(Nat.eq_of_beq_eq_true b4).symm, rfl⟩
  simp only [b4] at h
  cases b9 : Nat.beq e 9
  case true => simp only [b9] at h; injection h with h; subst h; exact ⟨(Nat.eq_of_beq_eq_true b9).symm, rfl⟩
  simp only [b9] at h
  cases b35 : Nat.beq e 35
  case true => simp only [b35] at h; injection h with h; subst h; exact ⟨(Nat.eq_of_beq_eq_true b35).symm, rfl⟩
  simp only [b35] at h
  cases b59 : Nat.beq e 59
  case true => simp only [b59] at h; injection h with h; subst h; exact ⟨(Nat.eq_of_beq_eq_true b59).symm, rfl⟩
  simp only [b59] at h
  cases b63 : Nat.beq e 63
  case true => simp only [b63] at h; injection h with h; subst h; exact ⟨(Nat.eq_of_beq_eq_true b63).symm, rfl⟩
  simp only [b63] at h
  cases b68 : Nat.beq e 68
  case true => simp only [b68] at h; injection h with h; subst h; exact ⟨(Nat.eq_of_beq_eq_true b68).symm, rfl⟩
  simp only [b68] at h
  cases b70 : Nat.beq e 70
  case true => simp only [b70] at h; injection h with h; subst h; exact ⟨(Nat.eq_of_beq_eq_true b70).symm, rfl⟩
  simp only [b70] at h
  cases b73 : Nat.beq e 73
  case true => simp only [b73] at h; injection h with h; subst h; exact ⟨(Nat.eq_of_beq_eq_true b73).symm, rfl⟩
  simp only [b73] at h
  cases b76 : Nat.beq e 76
  case true => simp only [b76] at h; injection h with h; subst h; exact ⟨(Nat.eq_of_beq_eq_true b76).symm, rfl⟩
  simp only [b76] at h
  cases b80 : Nat.beq e 80
  case true => simp only [b80] at h; injection h with h; subst h; exact ⟨(Nat.eq_of_beq_eq_true b80).symm, rfl⟩
  simp only [b80] at h
  cases b82 : Nat.beq e 82
  case true => simp only [b82] at h; injection h with h; subst h; exact ⟨(Nat.eq_of_beq_eq_true b82).symm, rfl⟩
  simp only [b82] at h
  cases b101 : Nat.beq e 101
  case true => simp only [b101] at h; injection h with h; subst h; exact ⟨(Nat.eq_of_beq_eq_true b101).symm, rfl⟩
  simp only [b101] at h
  cases b106 : Nat.beq e 106
  case true => simp only [b106] at h; injection h with h; subst h; exact ⟨(Nat.eq_of_beq_eq_true b106).symm, rfl⟩
  simp only [b106] at h
  cases b151 : Nat.beq e 151
  case true => simp only [b151] at h; injection h with h; subst h; exact ⟨(Nat.eq_of_beq_eq_true b151).symm, rfl⟩
  simp only [b151] at h
  cases b157 : Nat.beq e 157
  case true => simp only [b157] at h; injection h with h; subst h; exact ⟨(Nat.eq_of_beq_eq_true b157).symm, rfl⟩
  simp only [b157] at h
  cases b161 : Nat.beq e 161
  case true => simp only [b161] at h; injection h with h; subst h; exact ⟨(Nat.eq_of_beq_eq_true b161).symm, rfl⟩
  simp only [b161] at h
  cases b167 : Nat.beq e 167
  case true => simp only [b167] at h; injection h with h; subst h; exact ⟨(Nat.eq_of_beq_eq_true b167).symm, rfl⟩
  simp only [b167] at h
  cases b173 : Nat.beq e 173
  case true => simp only [b173] at h; injection h with h; subst h; exact ⟨(Nat.eq_of_beq_eq_true b173).symm, rfl⟩
  simp only [b173] at h
  cases b174 : Nat.beq e 174
  case true => simp only [b174] at h; injection h with h; subst h; exact ⟨(Nat.eq_of_beq_eq_true b174).symm, rfl⟩
  simp only [b174] at h
  cases b186 : Nat.beq e 186
  case true => simp only [b186] at h; injection h with h; subst h; exact ⟨(Nat.eq_of_beq_eq_true b186).symm, rfl⟩
  simp only [b186] at h
  cases b190 : Nat.beq e 190
  case true => simp only [b190] at h; injection h with h; subst h; exact ⟨(Nat.eq_of_beq_eq_true b190).symm, rfl⟩
  simp only [b190] at h
  cases b196 : Nat.beq e 196
  case true => simp only [b196] at h; injection h with h; subst h; exact ⟨(Nat.eq_of_beq_eq_true b196).symm, rfl⟩
  simp only [b196] at h
  cases b201 : Nat.beq e 201
  case true => simp only [b201] at h; injection h with h; subst h; exact ⟨(Nat.eq_of_beq_eq_true b201).symm, rfl⟩
  simp only [b201] at h
  cases b235 : Nat.beq e 235
  case true => simp only [b235] at h; injection h with h; subst h; exact ⟨(Nat.eq_of_beq_eq_true b235).symm, rfl⟩
  simp only [b235] at h
  cases b237 : Nat.beq e 237
  case true => simp only [b237] at h; injection h with h; subst h; exact ⟨(Nat.eq_of_beq_eq_true b237).symm, rfl⟩
  simp only [b237] at h
  cases h
theorem getD_app_l {α : Type} [Inhabited α] (l m : List α) (i : Nat) (h : i < l.length) : (l ++ m).getD i default = l.getD i default := by
  simp [List.getD, List.getElem?_append_left h]
theorem getD_app_r {α : Type} [Inhabited α] (l m : List α) (i : Nat) : (l ++ m).getD (l.length + i) default = m.getD i default := by
  simp [List.getD, List.getElem?_append_right]
theorem getD_sub {α : Type} [Inhabited α] (l : List α) (a b i : Nat) (h1 : b ≤ l.length) (h2 : i < b - a) : ((l.take b).drop a).getD i default = l.getD (a + i) default := by
  simp only [List.getD_eq_getElem?_getD, List.getElem?_drop, List.getElem?_take]
  rw [if_pos (by omega)]
theorem getD_rep {α : Type} [Inhabited α] (n i : Nat) (a : α) (h : i < n) : (List.replicate n a).getD i default = a := by
  simp [List.getD_eq_getElem?_getD, List.getElem?_replicate, h]
theorem getD_set_eq {α : Type} [Inhabited α] (l : List α) (i : Nat) (a : α) (h : i < l.length) : (l.set i a).getD i default = a := by
  simp [List.getD_eq_getElem?_getD, h]
theorem getD_set_ne {α : Type} [Inhabited α] (l : List α) (i j : Nat) (a : α) (h : j ≠ i) : (l.set i a).getD j default = l.getD j default := by
  simp [List.getD_eq_getElem?_getD, List.getElem?_set_ne (fun e => h e.symm)]
theorem getD_eq {α : Type} [Inhabited α] (l : List α) (i : Nat) (h : i < l.length) : l.getD i default = l[i] := by
  simp [List.getD_eq_getElem?_getD, h]
theorem LX.g3_eq (y : LX) (m : List Int) (h : y.g3 = some m) : y = .t3 m := by cases y <;> simp only [LX.g3] at h <;> first | (injection h with h; subst h; rfl) | cases h
theorem LX.g4_eq (y : LX) (m : List Bool) (h : y.g4 = some m) : y = .t4 m := by cases y <;> simp only [LX.g4] at h <;> first | (injection h with h; subst h; rfl) | cases h
theorem LX.g9_eq (y : LX) (m : List ByteArray) (h : y.g9 = some m) : y = .t9 m := by cases y <;> simp only [LX.g9] at h <;> first | (injection h with h; subst h; rfl) | cases h
theorem LX.g35_eq (y : LX) (m : List (List Int)) (h : y.g35 = some m) : y = .t35 m := by cases y <;> simp only [LX.g35] at h <;> first | (injection h with h; subst h; rfl) | cases h
theorem LX.g59_eq (y : LX) (m : List api_Factor) (h : y.g59 = some m) : y = .t59 m := by cases y <;> simp only [LX.g59] at h <;> first | (injection h with h; subst h; rfl) | cases h
theorem LX.g63_eq (y : LX) (m : List (List ByteArray)) (h : y.g63 = some m) : y = .t63 m := by cases y <;> simp only [LX.g63] at h <;> first | (injection h with h; subst h; rfl) | cases h
theorem LX.g68_eq (y : LX) (m : List api_SiteDecl) (h : y.g68 = some m) : y = .t68 m := by cases y <;> simp only [LX.g68] at h <;> first | (injection h with h; subst h; rfl) | cases h
theorem LX.g70_eq (y : LX) (m : List (List api_Field)) (h : y.g70 = some m) : y = .t70 m := by cases y <;> simp only [LX.g70] at h <;> first | (injection h with h; subst h; rfl) | cases h
theorem LX.g73_eq (y : LX) (m : List api_Routine) (h : y.g73 = some m) : y = .t73 m := by cases y <;> simp only [LX.g73] at h <;> first | (injection h with h; subst h; rfl) | cases h
theorem LX.g76_eq (y : LX) (m : List api_Setting) (h : y.g76 = some m) : y = .t76 m := by cases y <;> simp only [LX.g76] at h <;> first | (injection h with h; subst h; rfl) | cases h
theorem LX.g80_eq (y : LX) (m : List Int) (h : y.g80 = some m) : y = .t80 m := by cases y <;> simp only [LX.g80] at h <;> first | (injection h with h; subst h; rfl) | cases h
theorem LX.g82_eq (y : LX) (m : List api_Value) (h : y.g82 = some m) : y = .t82 m := by cases y <;> simp only [LX.g82] at h <;> first | (injection h with h; subst h; rfl) | cases h
theorem LX.g101_eq (y : LX) (m : List api_Expr) (h : y.g101 = some m) : y = .t101 m := by cases y <;> simp only [LX.g101] at h <;> first | (injection h with h; subst h; rfl) | cases h
theorem LX.g106_eq (y : LX) (m : List api_Stmt) (h : y.g106 = some m) : y = .t106 m := by cases y <;> simp only [LX.g106] at h <;> first | (injection h with h; subst h; rfl) | cases h
theorem LX.g151_eq (y : LX) (m : List api_ResourceDecl) (h : y.g151 = some m) : y = .t151 m := by cases y <;> simp only [LX.g151] at h <;> first | (injection h with h; subst h; rfl) | cases h
theorem LX.g157_eq (y : LX) (m : List api_StoreDecl) (h : y.g157 = some m) : y = .t157 m := by cases y <;> simp only [LX.g157] at h <;> first | (injection h with h; subst h; rfl) | cases h
theorem LX.g161_eq (y : LX) (m : List api_BeltDecl) (h : y.g161 = some m) : y = .t161 m := by cases y <;> simp only [LX.g161] at h <;> first | (injection h with h; subst h; rfl) | cases h
theorem LX.g167_eq (y : LX) (m : List api_Start) (h : y.g167 = some m) : y = .t167 m := by cases y <;> simp only [LX.g167] at h <;> first | (injection h with h; subst h; rfl) | cases h
theorem LX.g173_eq (y : LX) (m : List api_Link) (h : y.g173 = some m) : y = .t173 m := by cases y <;> simp only [LX.g173] at h <;> first | (injection h with h; subst h; rfl) | cases h
theorem LX.g174_eq (y : LX) (m : List Arr2_ByteArray) (h : y.g174 = some m) : y = .t174 m := by cases y <;> simp only [LX.g174] at h <;> first | (injection h with h; subst h; rfl) | cases h
theorem LX.g186_eq (y : LX) (m : List api_Law) (h : y.g186 = some m) : y = .t186 m := by cases y <;> simp only [LX.g186] at h <;> first | (injection h with h; subst h; rfl) | cases h
theorem LX.g190_eq (y : LX) (m : List api_Change) (h : y.g190 = some m) : y = .t190 m := by cases y <;> simp only [LX.g190] at h <;> first | (injection h with h; subst h; rfl) | cases h
theorem LX.g196_eq (y : LX) (m : List api_Field) (h : y.g196 = some m) : y = .t196 m := by cases y <;> simp only [LX.g196] at h <;> first | (injection h with h; subst h; rfl) | cases h
theorem LX.g201_eq (y : LX) (m : List api_Term) (h : y.g201 = some m) : y = .t201 m := by cases y <;> simp only [LX.g201] at h <;> first | (injection h with h; subst h; rfl) | cases h
theorem LX.g235_eq (y : LX) (m : List St_is_name) (h : y.g235 = some m) : y = .t235 m := by cases y <;> simp only [LX.g235] at h <;> first | (injection h with h; subst h; rfl) | cases h
theorem LX.g237_eq (y : LX) (m : List St_is_e) (h : y.g237 = some m) : y = .t237 m := by cases y <;> simp only [LX.g237] at h <;> first | (injection h with h; subst h; rfl) | cases h
structure KOK {α : Type} [Inhabited α] (K : List α → LX) (row : α → List PV) (e sz : Nat) : Prop where
  e : ∀ l, (K l).e = e
  sz : ∀ l, (K l).sz = sz
  len : ∀ l, (K l).len = l.length
  row : ∀ l i, (K l).row i = row (l.getD i default)
section
variable {α : Type} [Inhabited α] {K : List α → LX} {row : α → List PV} {e0 sz : Nat}
theorem litT (k : KOK K row e0 sz) {d : List PV → Option α} (hd : ∀ r a, d r = some a → RowLe r (row a)) {e : Nat} (hb : Nat.beq e e0 = true) {rs : List (List PV)} {x : LX} (h : optK K (decs d rs) = some x) : x.e = e ∧ x.len = rs.length ∧ ∀ (i : Nat) (r : List PV), rs[i]? = some r → RowLe r (x.row i) := by
  unfold optK at h
  cases hl : decs d rs with
  | none => rw [hl] at h; cases h
  | some l =>
    rw [hl] at h
    injection h with h; subst h
    obtain ⟨q1, q2⟩ := decs_spec hd rs l hl
    exact ⟨by rw [k.e]; exact (Nat.eq_of_beq_eq_true hb).symm, by rw [k.len]; exact q1, fun i r hr => by rw [k.row]; exact q2 i r hr⟩
theorem catT (k : KOK K row e0 sz) {y z : LX} {l : List α} {g : Option (List α)} (hg : ∀ m, g = some m → y = K m) (h : optK (fun m => K (l ++ m)) g = some z) : y.e = (K l).e ∧ z.e = (K l).e ∧ y.sz = (K l).sz ∧ z.sz = (K l).sz ∧ z.len = (K l).len + y.len ∧ (∀ i, i < (K l).len → z.row i = (K l).row i) ∧ (∀ i, z.row ((K l).len + i) = y.row i) := by
  cases g with
  | none => cases h
  | some m =>
    injection h with h; subst h
    rw [hg m rfl]
    simp only [k.e, k.sz, k.len, k.row, List.length_append, true_and]
    exact ⟨fun i hi => by rw [getD_app_l l m i hi], fun i => by rw [getD_app_r]⟩
theorem subT (k : KOK K row e0 sz) (l : List α) (a b : Nat) (h : b ≤ (K l).len) : (K ((l.take b).drop a)).e = (K l).e ∧ (K ((l.take b).drop a)).sz = (K l).sz ∧ (K ((l.take b).drop a)).len = b - a ∧ ∀ i, i < b - a → (K ((l.take b).drop a)).row i = (K l).row (a + i) := by
  simp only [k.e, k.sz, k.len, k.row, true_and] at h ⊢
  exact ⟨by simp; omega, fun i hi => by rw [getD_sub l a b i h hi]⟩
theorem repT (k : KOK K row e0 sz) (l : List α) (n : Nat) : (K (List.replicate n (l.getD 0 default))).e = (K l).e ∧ (K (List.replicate n (l.getD 0 default))).sz = (K l).sz ∧ (K (List.replicate n (l.getD 0 default))).len = n ∧ ∀ i, i < n → (K (List.replicate n (l.getD 0 default))).row i = (K l).row 0 := by
  simp only [k.e, k.sz, k.len, k.row, true_and]
  exact ⟨List.length_replicate, fun i hi => by rw [getD_rep n i _ hi]⟩
end
theorem k3 : KOK .t3 row3 3 1 := ⟨fun _ => rfl, fun _ => rfl, fun _ => rfl, fun _ _ => rfl⟩
theorem k4 : KOK .t4 row4 4 1 := ⟨fun _ => rfl, fun _ => rfl, fun _ => rfl, fun _ _ => rfl⟩
theorem k9 : KOK .t9 row9 9 1 := ⟨fun _ => rfl, fun _ => rfl, fun _ => rfl, fun _ _ => rfl⟩
theorem k35 : KOK .t35 row35 35 1 := ⟨fun _ => rfl, fun _ => rfl, fun _ => rfl, fun _ _ => rfl⟩
theorem k59 : KOK .t59 row59 59 2 := ⟨fun _ => rfl, fun _ => rfl, fun _ => rfl, fun _ _ => rfl⟩
theorem k63 : KOK .t63 row63 63 1 := ⟨fun _ => rfl, fun _ => rfl, fun _ => rfl, fun _ _ => rfl⟩
theorem k68 : KOK .t68 row68 68 13 := ⟨fun _ => rfl, fun _ => rfl, fun _ => rfl, fun _ _ => rfl⟩
theorem k70 : KOK .t70 row70 70 1 := ⟨fun _ => rfl, fun _ => rfl, fun _ => rfl, fun _ _ => rfl⟩
theorem k73 : KOK .t73 row73 73 4 := ⟨fun _ => rfl, fun _ => rfl, fun _ => rfl, fun _ _ => rfl⟩
theorem k76 : KOK .t76 row76 76 2 := ⟨fun _ => rfl, fun _ => rfl, fun _ => rfl, fun _ _ => rfl⟩
theorem k80 : KOK .t80 row80 80 1 := ⟨fun _ => rfl, fun _ => rfl, fun _ => rfl, fun _ _ => rfl⟩
theorem k82 : KOK .t82 row82 82 3 := ⟨fun _ => rfl, fun _ => rfl, fun _ => rfl, fun _ _ => rfl⟩
theorem k101 : KOK .t101 row101 101 4 := ⟨fun _ => rfl, fun _ => rfl, fun _ => rfl, fun _ _ => rfl⟩
theorem k106 : KOK .t106 row106 106 21 := ⟨fun _ => rfl, fun _ => rfl, fun _ => rfl, fun _ _ => rfl⟩
theorem k151 : KOK .t151 row151 151 17 := ⟨fun _ => rfl, fun _ => rfl, fun _ => rfl, fun _ _ => rfl⟩
theorem k157 : KOK .t157 row157 157 3 := ⟨fun _ => rfl, fun _ => rfl, fun _ => rfl, fun _ _ => rfl⟩
theorem k161 : KOK .t161 row161 161 3 := ⟨fun _ => rfl, fun _ => rfl, fun _ => rfl, fun _ _ => rfl⟩
theorem k167 : KOK .t167 row167 167 5 := ⟨fun _ => rfl, fun _ => rfl, fun _ => rfl, fun _ _ => rfl⟩
theorem k173 : KOK .t173 row173 173 3 := ⟨fun _ => rfl, fun _ => rfl, fun _ => rfl, fun _ _ => rfl⟩
theorem k174 : KOK .t174 row174 174 2 := ⟨fun _ => rfl, fun _ => rfl, fun _ => rfl, fun _ _ => rfl⟩
theorem k186 : KOK .t186 row186 186 3 := ⟨fun _ => rfl, fun _ => rfl, fun _ => rfl, fun _ _ => rfl⟩
theorem k190 : KOK .t190 row190 190 2 := ⟨fun _ => rfl, fun _ => rfl, fun _ => rfl, fun _ _ => rfl⟩
theorem k196 : KOK .t196 row196 196 2 := ⟨fun _ => rfl, fun _ => rfl, fun _ => rfl, fun _ _ => rfl⟩
theorem k201 : KOK .t201 row201 201 3 := ⟨fun _ => rfl, fun _ => rfl, fun _ => rfl, fun _ _ => rfl⟩
theorem k235 : KOK .t235 row235 235 2 := ⟨fun _ => rfl, fun _ => rfl, fun _ => rfl, fun _ _ => rfl⟩
theorem k237 : KOK .t237 row237 237 5 := ⟨fun _ => rfl, fun _ => rfl, fun _ => rfl, fun _ _ => rfl⟩
theorem LX.lit_spec (e : Nat) (rs : List (List PV)) (x : LX) (h : LX.lit e rs = some x) : x.e = e ∧ x.len = rs.length ∧ ∀ (i : Nat) (r : List PV), rs[i]? = some r → RowLe r (x.row i) := by
  unfold LX.lit at h
  cases b3 : Nat.beq e 3
  case true => simp only [b3] at h; exact litT k3 dec3_le b3 h
  simp only [b3] at h
  cases b4 : Nat.beq e 4
  case true => simp only [b4] at h; exact litT k4 dec4_le b4 h
  simp only [b4] at h
  cases b9 : Nat.beq e 9
  case true => simp only [b9] at h; exact litT k9 dec9_le b9 h
  simp only [b9] at h
  cases b35 : Nat.beq e 35
  case true => simp only [b35] at h; exact litT k35 dec35_le b35 h
  simp only [b35] at h
  cases b59 : Nat.beq e 59
  case true => simp only [b59] at h; exact litT k59 dec59_le b59 h
  simp only [b59] at h
  cases b63 : Nat.beq e 63
  case true => simp only [b63] at h; exact litT k63 dec63_le b63 h
  simp only [b63] at h
  cases b68 : Nat.beq e 68
  case true => simp only [b68] at h; exact litT k68 dec68_le b68 h
  simp only [b68] at h
  cases b70 : Nat.beq e 70
  case true => simp only [b70] at h; exact litT k70 dec70_le b70 h
  simp only [b70] at h
  cases b73 : Nat.beq e 73
  case true => simp only [b73] at h; exact litT k73 dec73_le b73 h
  simp only [b73] at h
  cases b76 : Nat.beq e 76
  case true => simp only [b76] at h; exact litT k76 dec76_le b76 h
  simp only [b76] at h
  cases b80 : Nat.beq e 80
  case true => simp only [b80] at h; exact litT k80 dec80_le b80 h
  simp only [b80] at h
  cases b82 : Nat.beq e 82
  case true => simp only [b82] at h; exact litT k82 dec82_le b82 h
  simp only [b82] at h
  cases b101 : Nat.beq e 101
  case true => simp only [b101] at h; exact litT k101 dec101_le b101 h
  simp only [b101] at h
  cases b106 : Nat.beq e 106
  case true => simp only [b106] at h; exact litT k106 dec106_le b106 h
  simp only [b106] at h
  cases b151 : Nat.beq e 151
  case true => simp only [b151] at h; exact litT k151 dec151_le b151 h
  simp only [b151] at h
  cases b157 : Nat.beq e 157
  case true => simp only [b157] at h; exact litT k157 dec157_le b157 h
  simp only [b157] at h
  cases b161 : Nat.beq e 161
  case true => simp only [b161] at h; exact litT k161 dec161_le b161 h
  simp only [b161] at h
  cases b167 : Nat.beq e 167
  case true => simp only [b167] at h; exact litT k167 dec167_le b167 h
  simp only [b167] at h
  cases b173 : Nat.beq e 173
  case true => simp only [b173] at h; exact litT k173 dec173_le b173 h
  simp only [b173] at h
  cases b174 : Nat.beq e 174
  case true => simp only [b174] at h; exact litT k174 dec174_le b174 h
  simp only [b174] at h
  cases b186 : Nat.beq e 186
  case true => simp only [b186] at h; exact litT k186 dec186_le b186 h
  simp only [b186] at h
  cases b190 : Nat.beq e 190
  case true => simp only [b190] at h; exact litT k190 dec190_le b190 h
  simp only [b190] at h
  cases b196 : Nat.beq e 196
  case true => simp only [b196] at h; exact litT k196 dec196_le b196 h
  simp only [b196] at h
  cases b201 : Nat.beq e 201
  case true => simp only [b201] at h; exact litT k201 dec201_le b201 h
  simp only [b201] at h
  cases b235 : Nat.beq e 235
  case true => simp only [b235] at h; exact litT k235 dec235_le b235 h
  simp only [b235] at h
  cases b237 : Nat.beq e 237
  case true => simp only [b237] at h; exact litT k237 dec237_le b237 h
  simp only [b237] at h
  cases h
theorem LX.cat_spec (x y z : LX) (h : x.cat y = some z) : y.e = x.e ∧ z.e = x.e ∧ y.sz = x.sz ∧ z.sz = x.sz ∧ z.len = x.len + y.len ∧ (∀ i, i < x.len → z.row i = x.row i) ∧ (∀ i, z.row (x.len + i) = y.row i) := by
  cases x with
  | t3 l => exact catT k3 (LX.g3_eq y) h
  | t4 l => exact catT k4 (LX.g4_eq y) h
  | t9 l => exact catT k9 (LX.g9_eq y) h
  | t35 l => exact catT k35 (LX.g35_eq y) h
  | t59 l => exact catT k59 (LX.g59_eq y) h
  | t63 l => exact catT k63 (LX.g63_eq y) h
  | t68 l => exact catT k68 (LX.g68_eq y) h
  | t70 l => exact catT k70 (LX.g70_eq y) h
  | t73 l => exact catT k73 (LX.g73_eq y) h
  | t76 l => exact catT k76 (LX.g76_eq y) h
  | t80 l => exact catT k80 (LX.g80_eq y) h
  | t82 l => exact catT k82 (LX.g82_eq y) h
  | t101 l => exact catT k101 (LX.g101_eq y) h
  | t106 l => exact catT k106 (LX.g106_eq y) h
  | t151 l => exact catT k151 (LX.g151_eq y) h
  | t157 l => exact catT k157 (LX.g157_eq y) h
  | t161 l => exact catT k161 (LX.g161_eq y) h
  | t167 l => exact catT k167 (LX.g167_eq y) h
  | t173 l => exact catT k173 (LX.g173_eq y) h
  | t174 l => exact catT k174 (LX.g174_eq y) h
  | t186 l => exact catT k186 (LX.g186_eq y) h
  | t190 l => exact catT k190 (LX.g190_eq y) h
  | t196 l => exact catT k196 (LX.g196_eq y) h
  | t201 l => exact catT k201 (LX.g201_eq y) h
  | t235 l => exact catT k235 (LX.g235_eq y) h
  | t237 l => exact catT k237 (LX.g237_eq y) h
theorem LX.sub_spec (x : LX) (a b : Nat) (h : b ≤ x.len) : (x.sub a b).e = x.e ∧ (x.sub a b).sz = x.sz ∧ (x.sub a b).len = b - a ∧ ∀ i, i < b - a → (x.sub a b).row i = x.row (a + i) := by
  cases x with
  | t3 l => exact subT k3 l a b h
  | t4 l => exact subT k4 l a b h
  | t9 l => exact subT k9 l a b h
  | t35 l => exact subT k35 l a b h
  | t59 l => exact subT k59 l a b h
  | t63 l => exact subT k63 l a b h
  | t68 l => exact subT k68 l a b h
  | t70 l => exact subT k70 l a b h
  | t73 l => exact subT k73 l a b h
  | t76 l => exact subT k76 l a b h
  | t80 l => exact subT k80 l a b h
  | t82 l => exact subT k82 l a b h
  | t101 l => exact subT k101 l a b h
  | t106 l => exact subT k106 l a b h
  | t151 l => exact subT k151 l a b h
  | t157 l => exact subT k157 l a b h
  | t161 l => exact subT k161 l a b h
  | t167 l => exact subT k167 l a b h
  | t173 l => exact subT k173 l a b h
  | t174 l => exact subT k174 l a b h
  | t186 l => exact subT k186 l a b h
  | t190 l => exact subT k190 l a b h
  | t196 l => exact subT k196 l a b h
  | t201 l => exact subT k201 l a b h
  | t235 l => exact subT k235 l a b h
  | t237 l => exact subT k237 l a b h
theorem LX.rep_spec (x : LX) (n : Nat) : (x.rep n).e = x.e ∧ (x.rep n).sz = x.sz ∧ (x.rep n).len = n ∧ ∀ i, i < n → (x.rep n).row i = x.row 0 := by
  cases x with
  | t3 l => exact repT k3 l n
  | t4 l => exact repT k4 l n
  | t9 l => exact repT k9 l n
  | t35 l => exact repT k35 l n
  | t59 l => exact repT k59 l n
  | t63 l => exact repT k63 l n
  | t68 l => exact repT k68 l n
  | t70 l => exact repT k70 l n
  | t73 l => exact repT k73 l n
  | t76 l => exact repT k76 l n
  | t80 l => exact repT k80 l n
  | t82 l => exact repT k82 l n
  | t101 l => exact repT k101 l n
  | t106 l => exact repT k106 l n
  | t151 l => exact repT k151 l n
  | t157 l => exact repT k157 l n
  | t161 l => exact repT k161 l n
  | t167 l => exact repT k167 l n
  | t173 l => exact repT k173 l n
  | t174 l => exact repT k174 l n
  | t186 l => exact repT k186 l n
  | t190 l => exact repT k190 l n
  | t196 l => exact repT k196 l n
  | t201 l => exact repT k201 l n
  | t235 l => exact repT k235 l n
  | t237 l => exact repT k237 l n
theorem lenGe0_iff (l : List PV) : ∀ n, lenGe0 l n = true ↔ n ≤ l.length := by
  induction l with
  | nil => intro n; cases n <;> simp [lenGe0]
  | cons p r ih => intro n; cases n <;> simp [lenGe0, ih]
theorem setT {α : Type} [Inhabited α] {K : List α → LX} {row : α → List PV} {e0 sz : Nat} (k : KOK K row e0 sz) (hz : ∀ a, (row a).length = sz) {d : List PV → Option α} (hd : ∀ r a, d r = some a → RowLe r (row a)) {i off : Nat} {c : List PV} {l : List α} {y : LX} (h : optS (lenGe0 (row (l.getD i default)) (off + c.length)) (fun a => K (l.set i a)) (d (setN (row (l.getD i default)) off c)) = some y) : y.e = (K l).e ∧ y.sz = (K l).sz ∧ y.len = (K l).len ∧ off + c.length ≤ (K l).sz ∧ (i < (K l).len → RowLe (setN ((K l).row i) off c) (y.row i)) ∧ ∀ j, j ≠ i → y.row j = (K l).row j := by
  unfold optS at h
  split at h
  · rename_i a h1 h2
    injection h with h; subst h
    simp only [k.e, k.sz, k.len, k.row, true_and]
    refine ⟨List.length_set, by rw [← hz (l.getD i default)]; exact (lenGe0_iff _ _).1 h1, fun hi => ?_, fun j hj => ?_⟩
    · rw [getD_set_eq l i a hi]
      exact hd _ _ h2
    · rw [getD_set_ne l i j a hj]
  · cases h
theorem LX.set_spec (x : LX) (i off : Nat) (c : List PV) (y : LX) (h : LX.set x i off c = some y) : y.e = x.e ∧ y.sz = x.sz ∧ y.len = x.len ∧ off + c.length ≤ x.sz ∧ (i < x.len → RowLe (setN (x.row i) off c) (y.row i)) ∧ ∀ j, j ≠ i → y.row j = x.row j := by
  cases x with
  | t3 l => exact setT k3 (fun _ => rfl) dec3_le h
  | t4 l => exact setT k4 (fun _ => rfl) dec4_le h
  | t9 l => exact setT k9 (fun _ => rfl) dec9_le h
  | t35 l => exact setT k35 (fun _ => rfl) dec35_le h
  | t59 l => exact setT k59 (fun _ => rfl) dec59_le h
  | t63 l => exact setT k63 (fun _ => rfl) dec63_le h
  | t68 l => exact setT k68 (fun _ => rfl) dec68_le h
  | t70 l => exact setT k70 (fun _ => rfl) dec70_le h
  | t73 l => exact setT k73 (fun _ => rfl) dec73_le h
  | t76 l => exact setT k76 (fun _ => rfl) dec76_le h
  | t80 l => exact setT k80 (fun _ => rfl) dec80_le h
  | t82 l => exact setT k82 (fun _ => rfl) dec82_le h
  | t101 l => exact setT k101 (fun _ => rfl) dec101_le h
  | t106 l => exact setT k106 (fun _ => rfl) dec106_le h
  | t151 l => exact setT k151 (fun _ => rfl) dec151_le h
  | t157 l => exact setT k157 (fun _ => rfl) dec157_le h
  | t161 l => exact setT k161 (fun _ => rfl) dec161_le h
  | t167 l => exact setT k167 (fun _ => rfl) dec167_le h
  | t173 l => exact setT k173 (fun _ => rfl) dec173_le h
  | t174 l => exact setT k174 (fun _ => rfl) dec174_le h
  | t186 l => exact setT k186 (fun _ => rfl) dec186_le h
  | t190 l => exact setT k190 (fun _ => rfl) dec190_le h
  | t196 l => exact setT k196 (fun _ => rfl) dec196_le h
  | t201 l => exact setT k201 (fun _ => rfl) dec201_le h
  | t235 l => exact setT k235 (fun _ => rfl) dec235_le h
  | t237 l => exact setT k237 (fun _ => rfl) dec237_le h
theorem find_spec0 {α : Type} [Inhabited α] {l : List α} {p : α → Bool} {r : Option Nat} (h : l.findIdx? p = r) :
    (r = none → ∀ i, i < l.length → p (l.getD i default) = false) ∧ (∀ i, r = some i → i < l.length ∧ p (l.getD i default) = true ∧ ∀ j, j < i → p (l.getD j default) = false) := by
  subst h
  refine ⟨fun h i hi => ?_, fun i h => ?_⟩
  · have := List.findIdx?_eq_none_iff.1 h (l.getD i default) (by rw [getD_eq l i hi]; exact List.getElem_mem hi)
    simpa using this
  · obtain ⟨h1, h2, h3⟩ := List.findIdx?_eq_some_iff_getElem.1 h
    refine ⟨h1, by rw [getD_eq l i h1]; exact h2, fun j hj => ?_⟩
    rw [getD_eq l j (by omega)]
    simpa using h3 j hj
theorem LX.find_spec (x : LX) (c : List PV) (r : Option Nat) (h : LX.find x c = some r) : (r = none → ∀ i, i < x.len → sameV c (x.row i) = some false) ∧ (∀ i, r = some i → i < x.len ∧ sameV c (x.row i) = some true ∧ ∀ j, j < i → sameV c (x.row j) = some false) := by
  unfold LX.find at h
  split at h
  · rename_i l k0 a0
    split at h
    · rename_i hk0
      have e0 := of_decide_eq_true hk0
      subst e0
      injection h with h; subst h
      obtain ⟨s1, s2⟩ := find_spec0 (rfl : l.findIdx? (fun b => a0 == b) = _)
      have key : ∀ i b, (a0 == (l.getD i default)) = b → sameV [.val (.int .i64 a0)] ((LX.t3 l).row i) = some b := fun i b hb => congrArg some hb
      exact ⟨fun hr i hi => key _ _ (s1 hr i hi), fun i hr => ⟨(s2 i hr).1, key _ _ (s2 i hr).2.1, fun j hj => key _ _ ((s2 i hr).2.2 j hj)⟩⟩
    · cases h
  · rename_i l a0
    injection h with h; subst h
    obtain ⟨s1, s2⟩ := find_spec0 (rfl : l.findIdx? (fun b => a0 == b) = _)
    have key : ∀ i b, (a0 == (l.getD i default)) = b → sameV [.val (.bool a0)] ((LX.t4 l).row i) = some b := fun i b hb => congrArg some hb
    exact ⟨fun hr i hi => key _ _ (s1 hr i hi), fun i hr => ⟨(s2 i hr).1, key _ _ (s2 i hr).2.1, fun j hj => key _ _ ((s2 i hr).2.2 j hj)⟩⟩
  · rename_i l a0
    injection h with h; subst h
    obtain ⟨s1, s2⟩ := find_spec0 (rfl : l.findIdx? (fun b => a0 == b) = _)
    have key : ∀ i b, (a0 == (l.getD i default)) = b → sameV [.val (.string a0)] ((LX.t9 l).row i) = some b := fun i b hb => congrArg some hb
    exact ⟨fun hr i hi => key _ _ (s1 hr i hi), fun i hr => ⟨(s2 i hr).1, key _ _ (s2 i hr).2.1, fun j hj => key _ _ ((s2 i hr).2.2 j hj)⟩⟩
  · rename_i l k0 a0
    split at h
    · rename_i hk0
      have e0 := of_decide_eq_true hk0
      subst e0
      injection h with h; subst h
      obtain ⟨s1, s2⟩ := find_spec0 (rfl : l.findIdx? (fun b => a0 == b) = _)
      have key : ∀ i b, (a0 == (l.getD i default)) = b → sameV [.val (.int .i64 a0)] ((LX.t80 l).row i) = some b := fun i b hb => congrArg some hb
      exact ⟨fun hr i hi => key _ _ (s1 hr i hi), fun i hr => ⟨(s2 i hr).1, key _ _ (s2 i hr).2.1, fun j hj => key _ _ ((s2 i hr).2.2 j hj)⟩⟩
    · cases h
  · rename_i l a0 a1
    injection h with h; subst h
    obtain ⟨s1, s2⟩ := find_spec0 (rfl : l.findIdx? (fun b => (a0 == b.a0 && (a1 == b.a1))) = _)
    have key : ∀ i b, ((a0 == (l.getD i default).a0 && (a1 == (l.getD i default).a1))) = b → sameV [.val (.string a0), .val (.string a1)] ((LX.t174 l).row i) = some b := fun i b hb => congrArg some hb
    exact ⟨fun hr i hi => key _ _ (s1 hr i hi), fun i hr => ⟨(s2 i hr).1, key _ _ (s2 i hr).2.1, fun j hj => key _ _ ((s2 i hr).2.2 j hj)⟩⟩
  · cases h
end Go.Proofs.YtaaiehkfndibkaaGreat.Ev
