/-  Rows of data, cell by cell; what a row of cells reads as. -/
import Derived.Test.YtonfmpiikdmndaaGreatFp
namespace Go.Proofs.YtonfmpiikdmndaaGreat.Ev
open Go
set_option linter.unusedVariables false
set_option linter.unusedSimpArgs false
set_option linter.unnecessarySimpa false
def lenGe0 (l : List PV) (n : Nat) : Bool := match l, n with
  | _, 0 => true
  | _ :: r, n + 1 => lenGe0 r n
  | _, _ => false
def dInt (k : IntKind) : PV → Option Int
  | .val (.int k' a) => match decide (k' = k) with
    | true => some a
    | false => none
  | _ => none
def dBool : PV → Option Bool
  | .val (.bool a) => some a
  | _ => none
def dStr : PV → Option ByteArray
  | .val (.string a) => some a
  | _ => none
inductive RowLe : List PV → List PV → Prop
  | nil : RowLe [] []
  | cons {p q : PV} {r s : List PV} (h : PV.Le p q) (hr : RowLe r s) : RowLe (p :: r) (q :: s)
theorem dInt_le {k : IntKind} {p : PV} {a : Int} (h : dInt k p = some a) : PV.Le p (.val (.int k a)) := by
  unfold dInt at h
  split at h
  · split at h
    · rename_i hk
      have := of_decide_eq_true hk
      subst this
      injection h with h; subst h; exact .view _
    · cases h
  · cases h
theorem dBool_le {p : PV} {a : Bool} (h : dBool p = some a) : PV.Le p (.val (.bool a)) := by
  unfold dBool at h
  split at h
  · injection h with h; subst h; exact .view _
  · cases h
theorem dStr_le {p : PV} {a : ByteArray} (h : dStr p = some a) : PV.Le p (.val (.string a)) := by
  unfold dStr at h
  split at h
  · injection h with h; subst h; exact .view _
  · cases h
def decs {α : Type} (d : List PV → Option α) : List (List PV) → Option (List α)
  | [] => some []
  | r :: rs => match d r, decs d rs with
    | some a, some l => some (a :: l)
    | _, _ => none
theorem decs_spec {α : Type} [Inhabited α] {d : List PV → Option α} {row : α → List PV} (hd : ∀ r a, d r = some a → RowLe r (row a)) : ∀ (rs : List (List PV)) (l : List α), decs d rs = some l →
    l.length = rs.length ∧ ∀ (i : Nat) (r : List PV), rs[i]? = some r → RowLe r (row (l.getD i default))
  | [], l, h => by
    simp only [decs, Option.some.injEq] at h
    subst h
    exact ⟨rfl, fun i r hr => by simp at hr⟩
  | r :: rs, l, h => by
    simp only [decs] at h
    split at h
    · rename_i a m h1 h2
      injection h with h
      subst h
      obtain ⟨q1, q2⟩ := decs_spec hd rs m h2
      refine ⟨by simp [q1], fun i x hx => ?_⟩
      cases i with
      | zero => simp at hx; subst hx; simpa using hd _ _ h1
      | succ i => simpa using q2 i x (by simpa using hx)
    · cases h
def flats : List PV → Bool
  | [] => true
  | p :: r => match p.flat with
    | true => flats r
    | false => false
theorem flats_mem : ∀ (l : List PV), flats l = true → ∀ p ∈ l, p.flat = true
  | [], _, p, h => by cases h
  | q :: r, h, p, hp => by
    simp only [flats] at h
    cases hq : q.flat with
    | false => rw [hq] at h; cases h
    | true =>
      rw [hq] at h
      rcases List.mem_cons.1 hp with e | e
      · subst e; exact hq
      · exact flats_mem r h p e
def dl3 : PV → Option (List Int)
  | .lst _ x => x.g3
  | .val (.slice none 0 0) => some []
  | _ => none
theorem dl3_le {p : PV} {a : List Int} (h : dl3 p = some a) : PV.Le p (.lst false (.t3 a)) := by
  unfold dl3 at h
  split at h
  · rename_i o x
    cases x <;> simp only [LX.g3] at h <;> first | (injection h with h; subst h; exact .view _) | cases h
  · injection h with h; subst h; exact .nil false _ rfl
  · cases h
def dl9 : PV → Option (List ByteArray)
  | .lst _ x => x.g9
  | .val (.slice none 0 0) => some []
  | _ => none
theorem dl9_le {p : PV} {a : List ByteArray} (h : dl9 p = some a) : PV.Le p (.lst false (.t9 a)) := by
  unfold dl9 at h
  split at h
  · rename_i o x
    cases x <;> simp only [LX.g9] at h <;> first | (injection h with h; subst h; exact .view _) | cases h
  · injection h with h; subst h; exact .nil false _ rfl
  · cases h
def dl25 : PV → Option (List api_Expr)
  | .lst _ x => x.g25
  | .val (.slice none 0 0) => some []
  | _ => none
theorem dl25_le {p : PV} {a : List api_Expr} (h : dl25 p = some a) : PV.Le p (.lst false (.t25 a)) := by
  unfold dl25 at h
  split at h
  · rename_i o x
    cases x <;> simp only [LX.g25] at h <;> first | (injection h with h; subst h; exact .view _) | cases h
  · injection h with h; subst h; exact .nil false _ rfl
  · cases h
def dl77 : PV → Option (List api_Routine)
  | .lst _ x => x.g77
  | .val (.slice none 0 0) => some []
  | _ => none
theorem dl77_le {p : PV} {a : List api_Routine} (h : dl77 p = some a) : PV.Le p (.lst false (.t77 a)) := by
  unfold dl77 at h
  split at h
  · rename_i o x
    cases x <;> simp only [LX.g77] at h <;> first | (injection h with h; subst h; exact .view _) | cases h
  · injection h with h; subst h; exact .nil false _ rfl
  · cases h
def dl83 : PV → Option (List api_Stmt)
  | .lst _ x => x.g83
  | .val (.slice none 0 0) => some []
  | _ => none
theorem dl83_le {p : PV} {a : List api_Stmt} (h : dl83 p = some a) : PV.Le p (.lst false (.t83 a)) := by
  unfold dl83 at h
  split at h
  · rename_i o x
    cases x <;> simp only [LX.g83] at h <;> first | (injection h with h; subst h; exact .view _) | cases h
  · injection h with h; subst h; exact .nil false _ rfl
  · cases h
def dl85 : PV → Option (List api_Value)
  | .lst _ x => x.g85
  | .val (.slice none 0 0) => some []
  | _ => none
theorem dl85_le {p : PV} {a : List api_Value} (h : dl85 p = some a) : PV.Le p (.lst false (.t85 a)) := by
  unfold dl85 at h
  split at h
  · rename_i o x
    cases x <;> simp only [LX.g85] at h <;> first | (injection h with h; subst h; exact .view _) | cases h
  · injection h with h; subst h; exact .nil false _ rfl
  · cases h
def dl134 : PV → Option (List api_Field)
  | .lst _ x => x.g134
  | .val (.slice none 0 0) => some []
  | _ => none
theorem dl134_le {p : PV} {a : List api_Field} (h : dl134 p = some a) : PV.Le p (.lst false (.t134 a)) := by
  unfold dl134 at h
  split at h
  · rename_i o x
    cases x <;> simp only [LX.g134] at h <;> first | (injection h with h; subst h; exact .view _) | cases h
  · injection h with h; subst h; exact .nil false _ rfl
  · cases h
def dl159 : PV → Option (List api_ResourceDecl)
  | .lst _ x => x.g159
  | .val (.slice none 0 0) => some []
  | _ => none
theorem dl159_le {p : PV} {a : List api_ResourceDecl} (h : dl159 p = some a) : PV.Le p (.lst false (.t159 a)) := by
  unfold dl159 at h
  split at h
  · rename_i o x
    cases x <;> simp only [LX.g159] at h <;> first | (injection h with h; subst h; exact .view _) | cases h
  · injection h with h; subst h; exact .nil false _ rfl
  · cases h
def dl164 : PV → Option (List api_StoreDecl)
  | .lst _ x => x.g164
  | .val (.slice none 0 0) => some []
  | _ => none
theorem dl164_le {p : PV} {a : List api_StoreDecl} (h : dl164 p = some a) : PV.Le p (.lst false (.t164 a)) := by
  unfold dl164 at h
  split at h
  · rename_i o x
    cases x <;> simp only [LX.g164] at h <;> first | (injection h with h; subst h; exact .view _) | cases h
  · injection h with h; subst h; exact .nil false _ rfl
  · cases h
def dl168 : PV → Option (List api_BeltDecl)
  | .lst _ x => x.g168
  | .val (.slice none 0 0) => some []
  | _ => none
theorem dl168_le {p : PV} {a : List api_BeltDecl} (h : dl168 p = some a) : PV.Le p (.lst false (.t168 a)) := by
  unfold dl168 at h
  split at h
  · rename_i o x
    cases x <;> simp only [LX.g168] at h <;> first | (injection h with h; subst h; exact .view _) | cases h
  · injection h with h; subst h; exact .nil false _ rfl
  · cases h
def dl195 : PV → Option (List api_Start)
  | .lst _ x => x.g195
  | .val (.slice none 0 0) => some []
  | _ => none
theorem dl195_le {p : PV} {a : List api_Start} (h : dl195 p = some a) : PV.Le p (.lst false (.t195 a)) := by
  unfold dl195 at h
  split at h
  · rename_i o x
    cases x <;> simp only [LX.g195] at h <;> first | (injection h with h; subst h; exact .view _) | cases h
  · injection h with h; subst h; exact .nil false _ rfl
  · cases h
def dl216 : PV → Option (List api_Change)
  | .lst _ x => x.g216
  | .val (.slice none 0 0) => some []
  | _ => none
theorem dl216_le {p : PV} {a : List api_Change} (h : dl216 p = some a) : PV.Le p (.lst false (.t216 a)) := by
  unfold dl216 at h
  split at h
  · rename_i o x
    cases x <;> simp only [LX.g216] at h <;> first | (injection h with h; subst h; exact .view _) | cases h
  · injection h with h; subst h; exact .nil false _ rfl
  · cases h
def dl223 : PV → Option (List api_Law)
  | .lst _ x => x.g223
  | .val (.slice none 0 0) => some []
  | _ => none
theorem dl223_le {p : PV} {a : List api_Law} (h : dl223 p = some a) : PV.Le p (.lst false (.t223 a)) := by
  unfold dl223 at h
  split at h
  · rename_i o x
    cases x <;> simp only [LX.g223] at h <;> first | (injection h with h; subst h; exact .view _) | cases h
  · injection h with h; subst h; exact .nil false _ rfl
  · cases h
def dl226 : PV → Option (List api_Term)
  | .lst _ x => x.g226
  | .val (.slice none 0 0) => some []
  | _ => none
theorem dl226_le {p : PV} {a : List api_Term} (h : dl226 p = some a) : PV.Le p (.lst false (.t226 a)) := by
  unfold dl226 at h
  split at h
  · rename_i o x
    cases x <;> simp only [LX.g226] at h <;> first | (injection h with h; subst h; exact .view _) | cases h
  · injection h with h; subst h; exact .nil false _ rfl
  · cases h
def row3 (x : Int) : List PV := [.val (.int .i64 x)]
def dec3 (r : List PV) : Option Int := match r with
  | [c0] => match dInt .i64 c0 with
    | some a0 => some a0
    | _ => none
  | _ => none
theorem dec3_le (r : List PV) (x : Int) (h : dec3 r = some x) : RowLe r (row3 x) := by
  unfold dec3 at h
  split at h
  · split at h
    · rename_i h0
      injection h with h; subst h; exact (.cons (dInt_le h0) RowLe.nil)
    · cases h
  · cases h
def row4 (x : Bool) : List PV := [.val (.bool x)]
def dec4 (r : List PV) : Option Bool := match r with
  | [c0] => match dBool c0 with
    | some a0 => some a0
    | _ => none
  | _ => none
theorem dec4_le (r : List PV) (x : Bool) (h : dec4 r = some x) : RowLe r (row4 x) := by
  unfold dec4 at h
  split at h
  · split at h
    · rename_i h0
      injection h with h; subst h; exact (.cons (dBool_le h0) RowLe.nil)
    · cases h
  · cases h
def row9 (x : ByteArray) : List PV := [.val (.string x)]
def dec9 (r : List PV) : Option ByteArray := match r with
  | [c0] => match dStr c0 with
    | some a0 => some a0
    | _ => none
  | _ => none
theorem dec9_le (r : List PV) (x : ByteArray) (h : dec9 r = some x) : RowLe r (row9 x) := by
  unfold dec9 at h
  split at h
  · split at h
    · rename_i h0
      injection h with h; subst h; exact (.cons (dStr_le h0) RowLe.nil)
    · cases h
  · cases h
def row25 (x : api_Expr) : List PV := [.val (.int .i64 x.Op), .val (.string x.Name), .val (.int .i64 x.N), .lst false (.t25 x.Kids)]
def dec25 (r : List PV) : Option api_Expr := match r with
  | [c0, c1, c2, c3] => match dInt .i64 c0, dStr c1, dInt .i64 c2, dl25 c3 with
    | some a0, some a1, some a2, some a3 => some (api_Expr.mk a0 a1 a2 a3)
    | _, _, _, _ => none
  | _ => none
theorem dec25_le (r : List PV) (x : api_Expr) (h : dec25 r = some x) : RowLe r (row25 x) := by
  unfold dec25 at h
  split at h
  · split at h
    · rename_i h0 h1 h2 h3
      injection h with h; subst h; exact (.cons (dInt_le h0) (.cons (dStr_le h1) (.cons (dInt_le h2) (.cons (dl25_le h3) RowLe.nil))))
    · cases h
  · cases h
def row34 (x : (List api_Field)) : List PV := [.lst false (.t134 x)]
def dec34 (r : List PV) : Option (List api_Field) := match r with
  | [c0] => match dl134 c0 with
    | some a0 => some a0
    | _ => none
  | _ => none
theorem dec34_le (r : List PV) (x : (List api_Field)) (h : dec34 r = some x) : RowLe r (row34 x) := by
  unfold dec34 at h
  split at h
  · split at h
    · rename_i h0
      injection h with h; subst h; exact (.cons (dl134_le h0) RowLe.nil)
    · cases h
  · cases h
def row43 (x : api_SiteDecl) : List PV := [.val (.string x.Name), .lst false (.t85 x.Vars), .lst false (.t159 x.Resources), .lst false (.t164 x.Stores), .lst false (.t168 x.Belts), .lst false (.t9 x.Queues), .lst false (.t9 x.Streams), .lst false (.t9 x.Tallies), .lst false (.t9 x.Levels), .lst false (.t9 x.Counts), .lst false (.t77 x.Routines), .lst false (.t195 x.Starts), .lst false (.t223 x.Laws)]
def dec43 (r : List PV) : Option api_SiteDecl := match r with
  | [c0, c1, c2, c3, c4, c5, c6, c7, c8, c9, c10, c11, c12] => match dStr c0, dl85 c1, dl159 c2, dl164 c3, dl168 c4, dl9 c5, dl9 c6, dl9 c7, dl9 c8, dl9 c9, dl77 c10, dl195 c11, dl223 c12 with
    | some a0, some a1, some a2, some a3, some a4, some a5, some a6, some a7, some a8, some a9, some a10, some a11, some a12 => some (api_SiteDecl.mk a0 a1 a2 a3 a4 a5 a6 a7 a8 a9 a10 a11 a12)
    | _, _, _, _, _, _, _, _, _, _, _, _, _ => none
  | _ => none
theorem dec43_le (r : List PV) (x : api_SiteDecl) (h : dec43 r = some x) : RowLe r (row43 x) := by
  unfold dec43 at h
  split at h
  · split at h
    · rename_i h0 h1 h2 h3 h4 h5 h6 h7 h8 h9 h10 h11 h12
      injection h with h; subst h; exact (.cons (dStr_le h0) (.cons (dl85_le h1) (.cons (dl159_le h2) (.cons (dl164_le h3) (.cons (dl168_le h4) (.cons (dl9_le h5) (.cons (dl9_le h6) (.cons (dl9_le h7) (.cons (dl9_le h8) (.cons (dl9_le h9) (.cons (dl77_le h10) (.cons (dl195_le h11) (.cons (dl223_le h12) RowLe.nil)))))))))))))
    · cases h
  · cases h
def row47 (x : Int) : List PV := [.val (.int .i64 x)]
def dec47 (r : List PV) : Option Int := match r with
  | [c0] => match dInt .i64 c0 with
    | some a0 => some a0
    | _ => none
  | _ => none
theorem dec47_le (r : List PV) (x : Int) (h : dec47 r = some x) : RowLe r (row47 x) := by
  unfold dec47 at h
  split at h
  · split at h
    · rename_i h0
      injection h with h; subst h; exact (.cons (dInt_le h0) RowLe.nil)
    · cases h
  · cases h
def row68 (x : api_Setting) : List PV := [.val (.string x.Name), .val (.int .i64 x.N)]
def dec68 (r : List PV) : Option api_Setting := match r with
  | [c0, c1] => match dStr c0, dInt .i64 c1 with
    | some a0, some a1 => some (api_Setting.mk a0 a1)
    | _, _ => none
  | _ => none
theorem dec68_le (r : List PV) (x : api_Setting) (h : dec68 r = some x) : RowLe r (row68 x) := by
  unfold dec68 at h
  split at h
  · split at h
    · rename_i h0 h1
      injection h with h; subst h; exact (.cons (dStr_le h0) (.cons (dInt_le h1) RowLe.nil))
    · cases h
  · cases h
def row77 (x : api_Routine) : List PV := [.val (.string x.Name), .lst false (.t134 x.Params), .lst false (.t134 x.Locals), .lst false (.t83 x.Body)]
def dec77 (r : List PV) : Option api_Routine := match r with
  | [c0, c1, c2, c3] => match dStr c0, dl134 c1, dl134 c2, dl83 c3 with
    | some a0, some a1, some a2, some a3 => some (api_Routine.mk a0 a1 a2 a3)
    | _, _, _, _ => none
  | _ => none
theorem dec77_le (r : List PV) (x : api_Routine) (h : dec77 r = some x) : RowLe r (row77 x) := by
  unfold dec77 at h
  split at h
  · split at h
    · rename_i h0 h1 h2 h3
      injection h with h; subst h; exact (.cons (dStr_le h0) (.cons (dl134_le h1) (.cons (dl134_le h2) (.cons (dl83_le h3) RowLe.nil))))
    · cases h
  · cases h
def row83 (x : api_Stmt) : List PV := [.val (.int .i64 x.Op), .val (.string x.Name), .val (.string x.Of), .val (.int .i64 x.E.Op), .val (.string x.E.Name), .val (.int .i64 x.E.N), .lst false (.t25 x.E.Kids), .val (.int .i64 x.F.Op), .val (.string x.F.Name), .val (.int .i64 x.F.N), .lst false (.t25 x.F.Kids), .lst false (.t25 x.Args), .val (.int .i64 x.Dist.Op), .val (.int .i64 x.Dist.A), .val (.int .i64 x.Dist.B), .val (.int .i64 x.Dist.N), .lst false (.t3 x.Dist.Values), .lst false (.t3 x.Dist.Weights), .val (.bool x.Flag), .lst false (.t83 x.Body), .lst false (.t83 x.Else)]
def dec83 (r : List PV) : Option api_Stmt := match r with
  | [c0, c1, c2, c3, c4, c5, c6, c7, c8, c9, c10, c11, c12, c13, c14, c15, c16, c17, c18, c19, c20] => match dInt .i64 c0, dStr c1, dStr c2, dInt .i64 c3, dStr c4, dInt .i64 c5, dl25 c6, dInt .i64 c7, dStr c8, dInt .i64 c9, dl25 c10, dl25 c11, dInt .i64 c12, dInt .i64 c13, dInt .i64 c14, dInt .i64 c15, dl3 c16, dl3 c17, dBool c18, dl83 c19, dl83 c20 with
    | some a0, some a1, some a2, some a3, some a4, some a5, some a6, some a7, some a8, some a9, some a10, some a11, some a12, some a13, some a14, some a15, some a16, some a17, some a18, some a19, some a20 => some (api_Stmt.mk a0 a1 a2 (api_Expr.mk a3 a4 a5 a6) (api_Expr.mk a7 a8 a9 a10) a11 (api_Dist.mk a12 a13 a14 a15 a16 a17) a18 a19 a20)
    | _, _, _, _, _, _, _, _, _, _, _, _, _, _, _, _, _, _, _, _, _ => none
  | _ => none
theorem dec83_le (r : List PV) (x : api_Stmt) (h : dec83 r = some x) : RowLe r (row83 x) := by
  unfold dec83 at h
  split at h
  · split at h
    · rename_i h0 h1 h2 h3 h4 h5 h6 h7 h8 h9 h10 h11 h12 h13 h14 h15 h16 h17 h18 h19 h20
      injection h with h; subst h; exact (.cons (dInt_le h0) (.cons (dStr_le h1) (.cons (dStr_le h2) (.cons (dInt_le h3) (.cons (dStr_le h4) (.cons (dInt_le h5) (.cons (dl25_le h6) (.cons (dInt_le h7) (.cons (dStr_le h8) (.cons (dInt_le h9) (.cons (dl25_le h10) (.cons (dl25_le h11) (.cons (dInt_le h12) (.cons (dInt_le h13) (.cons (dInt_le h14) (.cons (dInt_le h15) (.cons (dl3_le h16) (.cons (dl3_le h17) (.cons (dBool_le h18) (.cons (dl83_le h19) (.cons (dl83_le h20) RowLe.nil)))))))))))))))))))))
    · cases h
  · cases h
def row85 (x : api_Value) : List PV := [.val (.string x.Name), .val (.int .i64 x.Type_), .val (.int .i64 x.N)]
def dec85 (r : List PV) : Option api_Value := match r with
  | [c0, c1, c2] => match dStr c0, dInt .i64 c1, dInt .i64 c2 with
    | some a0, some a1, some a2 => some (api_Value.mk a0 a1 a2)
    | _, _, _ => none
  | _ => none
theorem dec85_le (r : List PV) (x : api_Value) (h : dec85 r = some x) : RowLe r (row85 x) := by
  unfold dec85 at h
  split at h
  · split at h
    · rename_i h0 h1 h2
      injection h with h; subst h; exact (.cons (dStr_le h0) (.cons (dInt_le h1) (.cons (dInt_le h2) RowLe.nil)))
    · cases h
  · cases h
def row134 (x : api_Field) : List PV := [.val (.string x.Name), .val (.int .i64 x.Type_)]
def dec134 (r : List PV) : Option api_Field := match r with
  | [c0, c1] => match dStr c0, dInt .i64 c1 with
    | some a0, some a1 => some (api_Field.mk a0 a1)
    | _, _ => none
  | _ => none
theorem dec134_le (r : List PV) (x : api_Field) (h : dec134 r = some x) : RowLe r (row134 x) := by
  unfold dec134 at h
  split at h
  · split at h
    · rename_i h0 h1
      injection h with h; subst h; exact (.cons (dStr_le h0) (.cons (dInt_le h1) RowLe.nil))
    · cases h
  · cases h
def row159 (x : api_ResourceDecl) : List PV := [.val (.string x.Name), .val (.int .i64 x.Units), .lst false (.t216 x.Shift), .val (.int .i64 x.Cycle), .val (.string x.Fault.Stream), .val (.int .i64 x.Fault.Up.Op), .val (.int .i64 x.Fault.Up.A), .val (.int .i64 x.Fault.Up.B), .val (.int .i64 x.Fault.Up.N), .lst false (.t3 x.Fault.Up.Values), .lst false (.t3 x.Fault.Up.Weights), .val (.int .i64 x.Fault.Down.Op), .val (.int .i64 x.Fault.Down.A), .val (.int .i64 x.Fault.Down.B), .val (.int .i64 x.Fault.Down.N), .lst false (.t3 x.Fault.Down.Values), .lst false (.t3 x.Fault.Down.Weights)]
def dec159 (r : List PV) : Option api_ResourceDecl := match r with
  | [c0, c1, c2, c3, c4, c5, c6, c7, c8, c9, c10, c11, c12, c13, c14, c15, c16] => match dStr c0, dInt .i64 c1, dl216 c2, dInt .i64 c3, dStr c4, dInt .i64 c5, dInt .i64 c6, dInt .i64 c7, dInt .i64 c8, dl3 c9, dl3 c10, dInt .i64 c11, dInt .i64 c12, dInt .i64 c13, dInt .i64 c14, dl3 c15, dl3 c16 with
    | some a0, some a1, some a2, some a3, some a4, some a5, some a6, some a7, some a8, some a9, some a10, some a11, some a12, some a13, some a14, some a15, some a16 => some (api_ResourceDecl.mk a0 a1 a2 a3 (api_Fault.mk a4 (api_Dist.mk a5 a6 a7 a8 a9 a10) (api_Dist.mk a11 a12 a13 a14 a15 a16)))
    | _, _, _, _, _, _, _, _, _, _, _, _, _, _, _, _, _ => none
  | _ => none
theorem dec159_le (r : List PV) (x : api_ResourceDecl) (h : dec159 r = some x) : RowLe r (row159 x) := by
  unfold dec159 at h
  split at h
  · split at h
    · rename_i h0 h1 h2 h3 h4 h5 h6 h7 h8 h9 h10 h11 h12 h13 h14 h15 h16
      injection h with h; subst h; exact (.cons (dStr_le h0) (.cons (dInt_le h1) (.cons (dl216_le h2) (.cons (dInt_le h3) (.cons (dStr_le h4) (.cons (dInt_le h5) (.cons (dInt_le h6) (.cons (dInt_le h7) (.cons (dInt_le h8) (.cons (dl3_le h9) (.cons (dl3_le h10) (.cons (dInt_le h11) (.cons (dInt_le h12) (.cons (dInt_le h13) (.cons (dInt_le h14) (.cons (dl3_le h15) (.cons (dl3_le h16) RowLe.nil)))))))))))))))))
    · cases h
  · cases h
def row164 (x : api_StoreDecl) : List PV := [.val (.string x.Name), .val (.int .i64 x.Room), .val (.int .i64 x.Policy)]
def dec164 (r : List PV) : Option api_StoreDecl := match r with
  | [c0, c1, c2] => match dStr c0, dInt .i64 c1, dInt .i64 c2 with
    | some a0, some a1, some a2 => some (api_StoreDecl.mk a0 a1 a2)
    | _, _, _ => none
  | _ => none
theorem dec164_le (r : List PV) (x : api_StoreDecl) (h : dec164 r = some x) : RowLe r (row164 x) := by
  unfold dec164 at h
  split at h
  · split at h
    · rename_i h0 h1 h2
      injection h with h; subst h; exact (.cons (dStr_le h0) (.cons (dInt_le h1) (.cons (dInt_le h2) RowLe.nil)))
    · cases h
  · cases h
def row168 (x : api_BeltDecl) : List PV := [.val (.string x.Name), .val (.int .i64 x.Length), .val (.int .i64 x.Step)]
def dec168 (r : List PV) : Option api_BeltDecl := match r with
  | [c0, c1, c2] => match dStr c0, dInt .i64 c1, dInt .i64 c2 with
    | some a0, some a1, some a2 => some (api_BeltDecl.mk a0 a1 a2)
    | _, _, _ => none
  | _ => none
theorem dec168_le (r : List PV) (x : api_BeltDecl) (h : dec168 r = some x) : RowLe r (row168 x) := by
  unfold dec168 at h
  split at h
  · split at h
    · rename_i h0 h1 h2
      injection h with h; subst h; exact (.cons (dStr_le h0) (.cons (dInt_le h1) (.cons (dInt_le h2) RowLe.nil)))
    · cases h
  · cases h
def row195 (x : api_Start) : List PV := [.val (.string x.Routine), .lst false (.t3 x.Args), .val (.int .i64 x.At), .val (.int .i64 x.Every), .val (.int .i64 x.Until)]
def dec195 (r : List PV) : Option api_Start := match r with
  | [c0, c1, c2, c3, c4] => match dStr c0, dl3 c1, dInt .i64 c2, dInt .i64 c3, dInt .i64 c4 with
    | some a0, some a1, some a2, some a3, some a4 => some (api_Start.mk a0 a1 a2 a3 a4)
    | _, _, _, _, _ => none
  | _ => none
theorem dec195_le (r : List PV) (x : api_Start) (h : dec195 r = some x) : RowLe r (row195 x) := by
  unfold dec195 at h
  split at h
  · split at h
    · rename_i h0 h1 h2 h3 h4
      injection h with h; subst h; exact (.cons (dStr_le h0) (.cons (dl3_le h1) (.cons (dInt_le h2) (.cons (dInt_le h3) (.cons (dInt_le h4) RowLe.nil)))))
    · cases h
  · cases h
def row201 (x : api_Link) : List PV := [.val (.string x.From), .val (.string x.To), .val (.int .i64 x.Delay)]
def dec201 (r : List PV) : Option api_Link := match r with
  | [c0, c1, c2] => match dStr c0, dStr c1, dInt .i64 c2 with
    | some a0, some a1, some a2 => some (api_Link.mk a0 a1 a2)
    | _, _, _ => none
  | _ => none
theorem dec201_le (r : List PV) (x : api_Link) (h : dec201 r = some x) : RowLe r (row201 x) := by
  unfold dec201 at h
  split at h
  · split at h
    · rename_i h0 h1 h2
      injection h with h; subst h; exact (.cons (dStr_le h0) (.cons (dStr_le h1) (.cons (dInt_le h2) RowLe.nil)))
    · cases h
  · cases h
def row202 (x : Arr2_ByteArray) : List PV := [.val (.string x.a0), .val (.string x.a1)]
def dec202 (r : List PV) : Option Arr2_ByteArray := match r with
  | [c0, c1] => match dStr c0, dStr c1 with
    | some a0, some a1 => some (Arr2_ByteArray.mk a0 a1)
    | _, _ => none
  | _ => none
theorem dec202_le (r : List PV) (x : Arr2_ByteArray) (h : dec202 r = some x) : RowLe r (row202 x) := by
  unfold dec202 at h
  split at h
  · split at h
    · rename_i h0 h1
      injection h with h; subst h; exact (.cons (dStr_le h0) (.cons (dStr_le h1) RowLe.nil))
    · cases h
  · cases h
def row216 (x : api_Change) : List PV := [.val (.int .i64 x.At), .val (.int .i64 x.Units)]
def dec216 (r : List PV) : Option api_Change := match r with
  | [c0, c1] => match dInt .i64 c0, dInt .i64 c1 with
    | some a0, some a1 => some (api_Change.mk a0 a1)
    | _, _ => none
  | _ => none
theorem dec216_le (r : List PV) (x : api_Change) (h : dec216 r = some x) : RowLe r (row216 x) := by
  unfold dec216 at h
  split at h
  · split at h
    · rename_i h0 h1
      injection h with h; subst h; exact (.cons (dInt_le h0) (.cons (dInt_le h1) RowLe.nil))
    · cases h
  · cases h
def row223 (x : api_Law) : List PV := [.val (.string x.Name), .lst false (.t226 x.Terms), .val (.int .i64 x.Total)]
def dec223 (r : List PV) : Option api_Law := match r with
  | [c0, c1, c2] => match dStr c0, dl226 c1, dInt .i64 c2 with
    | some a0, some a1, some a2 => some (api_Law.mk a0 a1 a2)
    | _, _, _ => none
  | _ => none
theorem dec223_le (r : List PV) (x : api_Law) (h : dec223 r = some x) : RowLe r (row223 x) := by
  unfold dec223 at h
  split at h
  · split at h
    · rename_i h0 h1 h2
      injection h with h; subst h; exact (.cons (dStr_le h0) (.cons (dl226_le h1) (.cons (dInt_le h2) RowLe.nil)))
    · cases h
  · cases h
def row226 (x : api_Term) : List PV := [.val (.int .i64 x.Coef), .val (.string x.What), .val (.string x.Name)]
def dec226 (r : List PV) : Option api_Term := match r with
  | [c0, c1, c2] => match dInt .i64 c0, dStr c1, dStr c2 with
    | some a0, some a1, some a2 => some (api_Term.mk a0 a1 a2)
    | _, _, _ => none
  | _ => none
theorem dec226_le (r : List PV) (x : api_Term) (h : dec226 r = some x) : RowLe r (row226 x) := by
  unfold dec226 at h
  split at h
  · split at h
    · rename_i h0 h1 h2
      injection h with h; subst h; exact (.cons (dInt_le h0) (.cons (dStr_le h1) (.cons (dStr_le h2) RowLe.nil)))
    · cases h
  · cases h
def row246 (x : St_is_name) : List PV := [.val (.bool x.u_is), .val (.string x.u_name)]
def dec246 (r : List PV) : Option St_is_name := match r with
  | [c0, c1] => match dBool c0, dStr c1 with
    | some a0, some a1 => some (St_is_name.mk a0 a1)
    | _, _ => none
  | _ => none
theorem dec246_le (r : List PV) (x : St_is_name) (h : dec246 r = some x) : RowLe r (row246 x) := by
  unfold dec246 at h
  split at h
  · split at h
    · rename_i h0 h1
      injection h with h; subst h; exact (.cons (dBool_le h0) (.cons (dStr_le h1) RowLe.nil))
    · cases h
  · cases h
def row248 (x : St_is_e) : List PV := [.val (.bool x.u_is), .val (.int .i64 x.u_e.Op), .val (.string x.u_e.Name), .val (.int .i64 x.u_e.N), .lst false (.t25 x.u_e.Kids)]
def dec248 (r : List PV) : Option St_is_e := match r with
  | [c0, c1, c2, c3, c4] => match dBool c0, dInt .i64 c1, dStr c2, dInt .i64 c3, dl25 c4 with
    | some a0, some a1, some a2, some a3, some a4 => some (St_is_e.mk a0 (api_Expr.mk a1 a2 a3 a4))
    | _, _, _, _, _ => none
  | _ => none
theorem dec248_le (r : List PV) (x : St_is_e) (h : dec248 r = some x) : RowLe r (row248 x) := by
  unfold dec248 at h
  split at h
  · split at h
    · rename_i h0 h1 h2 h3 h4
      injection h with h; subst h; exact (.cons (dBool_le h0) (.cons (dInt_le h1) (.cons (dStr_le h2) (.cons (dInt_le h3) (.cons (dl25_le h4) RowLe.nil)))))
    · cases h
  · cases h
def LX.row (x : LX) (i : Nat) : List PV := match x with
  | .t3 l => row3 (l.getD i default)
  | .t4 l => row4 (l.getD i default)
  | .t9 l => row9 (l.getD i default)
  | .t25 l => row25 (l.getD i default)
  | .t34 l => row34 (l.getD i default)
  | .t43 l => row43 (l.getD i default)
  | .t47 l => row47 (l.getD i default)
  | .t68 l => row68 (l.getD i default)
  | .t77 l => row77 (l.getD i default)
  | .t83 l => row83 (l.getD i default)
  | .t85 l => row85 (l.getD i default)
  | .t134 l => row134 (l.getD i default)
  | .t159 l => row159 (l.getD i default)
  | .t164 l => row164 (l.getD i default)
  | .t168 l => row168 (l.getD i default)
  | .t195 l => row195 (l.getD i default)
  | .t201 l => row201 (l.getD i default)
  | .t202 l => row202 (l.getD i default)
  | .t216 l => row216 (l.getD i default)
  | .t223 l => row223 (l.getD i default)
  | .t226 l => row226 (l.getD i default)
  | .t246 l => row246 (l.getD i default)
  | .t248 l => row248 (l.getD i default)
def LX.lit (e : Nat) (rs : List (List PV)) : Option LX := match Nat.beq e 3 with
  | true => optK .t3 (decs dec3 rs)
  | false => match Nat.beq e 4 with
  | true => optK .t4 (decs dec4 rs)
  | false => match Nat.beq e 9 with
  | true => optK .t9 (decs dec9 rs)
  | false => match Nat.beq e 25 with
  | true => optK .t25 (decs dec25 rs)
  | false => match Nat.beq e 34 with
  | true => optK .t34 (decs dec34 rs)
  | false => match Nat.beq e 43 with
  | true => optK .t43 (decs dec43 rs)
  | false => match Nat.beq e 47 with
  | true => optK .t47 (decs dec47 rs)
  | false => match Nat.beq e 68 with
  | true => optK .t68 (decs dec68 rs)
  | false => match Nat.beq e 77 with
  | true => optK .t77 (decs dec77 rs)
  | false => match Nat.beq e 83 with
  | true => optK .t83 (decs dec83 rs)
  | false => match Nat.beq e 85 with
  | true => optK .t85 (decs dec85 rs)
  | false => match Nat.beq e 134 with
  | true => optK .t134 (decs dec134 rs)
  | false => match Nat.beq e 159 with
  | true => optK .t159 (decs dec159 rs)
  | false => match Nat.beq e 164 with
  | true => optK .t164 (decs dec164 rs)
  | false => match Nat.beq e 168 with
  | true => optK .t168 (decs dec168 rs)
  | false => match Nat.beq e 195 with
  | true => optK .t195 (decs dec195 rs)
  | false => match Nat.beq e 201 with
  | true => optK .t201 (decs dec201 rs)
  | false => match Nat.beq e 202 with
  | true => optK .t202 (decs dec202 rs)
  | false => match Nat.beq e 216 with
  | true => optK .t216 (decs dec216 rs)
  | false => match Nat.beq e 223 with
  | true => optK .t223 (decs dec223 rs)
  | false => match Nat.beq e 226 with
  | true => optK .t226 (decs dec226 rs)
  | false => match Nat.beq e 246 with
  | true => optK .t246 (decs dec246 rs)
  | false => match Nat.beq e 248 with
  | true => optK .t248 (decs dec248 rs)
  | false => none
def LX.set (x : LX) (i off : Nat) (c : List PV) : Option LX := match x with
  | .t3 l => optS (lenGe0 (row3 (l.getD i default)) (off + c.length)) (fun a => .t3 (l.set i a)) (dec3 (setN (row3 (l.getD i default)) off c))
  | .t4 l => optS (lenGe0 (row4 (l.getD i default)) (off + c.length)) (fun a => .t4 (l.set i a)) (dec4 (setN (row4 (l.getD i default)) off c))
  | .t9 l => optS (lenGe0 (row9 (l.getD i default)) (off + c.length)) (fun a => .t9 (l.set i a)) (dec9 (setN (row9 (l.getD i default)) off c))
  | .t25 l => optS (lenGe0 (row25 (l.getD i default)) (off + c.length)) (fun a => .t25 (l.set i a)) (dec25 (setN (row25 (l.getD i default)) off c))
  | .t34 l => optS (lenGe0 (row34 (l.getD i default)) (off + c.length)) (fun a => .t34 (l.set i a)) (dec34 (setN (row34 (l.getD i default)) off c))
  | .t43 l => optS (lenGe0 (row43 (l.getD i default)) (off + c.length)) (fun a => .t43 (l.set i a)) (dec43 (setN (row43 (l.getD i default)) off c))
  | .t47 l => optS (lenGe0 (row47 (l.getD i default)) (off + c.length)) (fun a => .t47 (l.set i a)) (dec47 (setN (row47 (l.getD i default)) off c))
  | .t68 l => optS (lenGe0 (row68 (l.getD i default)) (off + c.length)) (fun a => .t68 (l.set i a)) (dec68 (setN (row68 (l.getD i default)) off c))
  | .t77 l => optS (lenGe0 (row77 (l.getD i default)) (off + c.length)) (fun a => .t77 (l.set i a)) (dec77 (setN (row77 (l.getD i default)) off c))
  | .t83 l => optS (lenGe0 (row83 (l.getD i default)) (off + c.length)) (fun a => .t83 (l.set i a)) (dec83 (setN (row83 (l.getD i default)) off c))
  | .t85 l => optS (lenGe0 (row85 (l.getD i default)) (off + c.length)) (fun a => .t85 (l.set i a)) (dec85 (setN (row85 (l.getD i default)) off c))
  | .t134 l => optS (lenGe0 (row134 (l.getD i default)) (off + c.length)) (fun a => .t134 (l.set i a)) (dec134 (setN (row134 (l.getD i default)) off c))
  | .t159 l => optS (lenGe0 (row159 (l.getD i default)) (off + c.length)) (fun a => .t159 (l.set i a)) (dec159 (setN (row159 (l.getD i default)) off c))
  | .t164 l => optS (lenGe0 (row164 (l.getD i default)) (off + c.length)) (fun a => .t164 (l.set i a)) (dec164 (setN (row164 (l.getD i default)) off c))
  | .t168 l => optS (lenGe0 (row168 (l.getD i default)) (off + c.length)) (fun a => .t168 (l.set i a)) (dec168 (setN (row168 (l.getD i default)) off c))
  | .t195 l => optS (lenGe0 (row195 (l.getD i default)) (off + c.length)) (fun a => .t195 (l.set i a)) (dec195 (setN (row195 (l.getD i default)) off c))
  | .t201 l => optS (lenGe0 (row201 (l.getD i default)) (off + c.length)) (fun a => .t201 (l.set i a)) (dec201 (setN (row201 (l.getD i default)) off c))
  | .t202 l => optS (lenGe0 (row202 (l.getD i default)) (off + c.length)) (fun a => .t202 (l.set i a)) (dec202 (setN (row202 (l.getD i default)) off c))
  | .t216 l => optS (lenGe0 (row216 (l.getD i default)) (off + c.length)) (fun a => .t216 (l.set i a)) (dec216 (setN (row216 (l.getD i default)) off c))
  | .t223 l => optS (lenGe0 (row223 (l.getD i default)) (off + c.length)) (fun a => .t223 (l.set i a)) (dec223 (setN (row223 (l.getD i default)) off c))
  | .t226 l => optS (lenGe0 (row226 (l.getD i default)) (off + c.length)) (fun a => .t226 (l.set i a)) (dec226 (setN (row226 (l.getD i default)) off c))
  | .t246 l => optS (lenGe0 (row246 (l.getD i default)) (off + c.length)) (fun a => .t246 (l.set i a)) (dec246 (setN (row246 (l.getD i default)) off c))
  | .t248 l => optS (lenGe0 (row248 (l.getD i default)) (off + c.length)) (fun a => .t248 (l.set i a)) (dec248 (setN (row248 (l.getD i default)) off c))
def LX.find (x : LX) (c : List PV) : Option (Option Nat) := match x, c with
  | .t3 l, [.val (.int k0 a0)] => match decide (k0 = .i64) with
    | true => some (l.findIdx? fun b => a0 == b)
    | _ => none
  | .t4 l, [.val (.bool a0)] => some (l.findIdx? fun b => a0 == b)
  | .t9 l, [.val (.string a0)] => some (l.findIdx? fun b => a0 == b)
  | .t47 l, [.val (.int k0 a0)] => match decide (k0 = .i64) with
    | true => some (l.findIdx? fun b => a0 == b)
    | _ => none
  | .t202 l, [.val (.string a0), .val (.string a1)] => some (l.findIdx? fun b => (a0 == b.a0 && (a1 == b.a1)))
  | _, _ => none
def LX.push (x : LX) (c : List PV) : Option LX := match LX.lit x.e [c] with
  | some y => x.cat y
  | none => none
theorem LX.row_len (x : LX) (i : Nat) : (x.row i).length = x.sz := by cases x <;> rfl
theorem LX.row_flat (x : LX) (i : Nat) : ∀ p ∈ x.row i, p.flat = true := flats_mem _ (by cases x <;> rfl)
theorem LX.nil_spec (e : Nat) (x : LX) (h : LX.nil e = some x) : x.e = e ∧ x.len = 0 := by
  unfold LX.nil at h
  cases b3 : Nat.beq e 3
  case true => simp only [b3] at h; injection h with h; subst h; exact ⟨(Nat.eq_of_beq_eq_true b3).symm, rfl⟩
  simp only [b3] at h
  cases b4 : Nat.beq e 4
  case true => simp only [b4] at h; injection h with h; subst h; exact ⟨(Nat.eq_of_beq_eq_true b4).symm, rfl⟩
  simp only [b4] at h
  cases b9 : Nat.beq e 9
  case true => simp only [b9] at h; injection h with h; subst h; exact ⟨(Nat.eq_of_beq_eq_true b9).symm, rfl⟩
  simp only [b9] at h
  cases b25 : Nat.beq e 25
  case true => simp only [b25] at h; injection h with h; subst h; exact ⟨(Nat.eq_of_beq_eq_true b25).symm, rfl⟩
  simp only [b25] at h
  cases b34 : Nat.beq e 34
  case true => simp only [b34] at h; injection h with h; subst h; exact ⟨(Nat.eq_of_beq_eq_true b34).symm, rfl⟩
  simp only [b34] at h
  cases b43 : Nat.beq e 43
  case true => simp only [b43] at h; injection h with h; subst h; exact ⟨(Nat.eq_of_beq_eq_true b43).symm, rfl⟩
  simp only [b43] at h
  cases b47 : Nat.beq e 47
  case true => simp only [b47] at h; injection h with h; subst h; exact ⟨(Nat.eq_of_beq_eq_true b47).symm, rfl⟩
  simp only [b47] at h
  cases b68 : Nat.beq e 68
  case true => simp only [b68] at h; injection h with h; subst h; exact ⟨(Nat.eq_of_beq_eq_true b68).symm, rfl⟩
  simp only [b68] at h
  cases b77 : Nat.beq e 77
  case true => simp only [b77] at h; injection h with h; subst h; exact ⟨(Nat.eq_of_beq_eq_true b77).symm, rfl⟩
  simp only [b77] at h
  cases b83 : Nat.beq e 83
  case true => simp only [b83] at h; injection h with h; subst h; exact ⟨(Nat.eq_of_beq_eq_true b83).symm, rfl⟩
  simp only [b83] at h
  cases b85 : Nat.beq e 85
  case true => simp only [b85] at h; injection h with h; subst h; exact ⟨(Nat.eq_of_beq_eq_true b85).symm, rfl⟩
  simp only [b85] at h
  cases b134 : Nat.beq e 134
  case true => simp only [b134] at h; injection h with h; subst h; exact ⟨(Nat.eq_of_beq_eq_true b134).symm, rfl⟩
  simp only [b134] at h
  cases b159 : Nat.beq e 159
  case true => simp only [b159] at h; injection h with h; subst h; exact ⟨(Nat.eq_of_beq_eq_true b159).symm, rfl⟩
  simp only [b159] at h
  cases b164 : Nat.beq e 164
  case true => simp only [b164] at h; injection h with h; subst h; exact ⟨(Nat.eq_of_beq_eq_true b164).symm, rfl⟩
  simp only [b164] at h
  cases b168 : Nat.beq e 168
  case true => simp only [b168] at h; injection h with h; subst h; exact ⟨(Nat.eq_of_beq_eq_true b168).symm, rfl⟩
  simp only [b168] at h
  cases b195 : Nat.beq e 195
  case true => simp only [b195] at h; injection h with h; subst h; exact ⟨(Nat.eq_of_beq_eq_true b195).symm, rfl⟩
  simp only [b195] at h
  cases b201 : Nat.beq e 201
  case true => simp only [b201] at h; injection h with h; subst h; exact ⟨(Nat.eq_of_beq_eq_true b201).symm, rfl⟩
  simp only [b201] at h
  cases b202 : Nat.beq e 202
  case true => simp only [b202] at h; injection h with h; subst h; exact ⟨(Nat.eq_of_beq_eq_true b202).symm, rfl⟩
  simp only [b202] at h
  cases b216 : Nat.beq e 216
  case true => simp only [b216] at h; injection h with h; subst h; exact ⟨(Nat.eq_of_beq_eq_true b216).symm, rfl⟩
  simp only [b216] at h
  cases b223 : Nat.beq e 223
  case true => simp only [b223] at h; injection h with h; subst h; exact ⟨(Nat.eq_of_beq_eq_true b223).symm, rfl⟩
  simp only [b223] at h
  cases b226 : Nat.beq e 226
  case true => simp only [b226] at h; injection h with h; subst h; exact ⟨(Nat.eq_of_beq_eq_true b226).symm, rfl⟩
  simp only [b226] at h
  cases b246 : Nat.beq e 246
  case true => simp only [b246] at h; injection h with h; subst h; exact ⟨(Nat.eq_of_beq_eq_true b246).symm, rfl⟩
  simp only [b246] at h
  cases b248 : Nat.beq e 248
  case true => simp only [b248] at h; injection h with h; subst h; exact ⟨(Nat.eq_of_beq_eq_true b248).symm, rfl⟩
  simp only [b248] at h
  cases h
theorem getD_app_l {α : Type} [Inhabited α] (l m : List α) (i : Nat) (h : i < l.length) : (l ++ m).getD i default = l.getD i default := by
  simp [List.getD, List.getElem?_append_left h]
theorem getD_app_r {α : Type} [Inhabited α] (l m : List α) (i : Nat) : (l ++ m).getD (l.length + i) default = m.getD i default := by
  simp [List.getD, List.getElem?_append_right]
theorem getD_sub {α : Type} [Inhabited α] (l : List α) (a b i : Nat) (h1 : b ≤ l.length) (h2 : i < b - a) : ((l.take b).drop a).getD i default = l.getD (a + i) default := by
  simp only [List.getD_eq_getElem?_getD, List.getElem?_drop, List.getElem?_take]
  rw [if_pos (by omega)]
theorem getD_rep {α : Type} [Inhabited α] (n i : Nat) (a : α) (h : i < n) : (List.replicate n a).getD i default = a := by
  simp [List.getD_eq_getElem?_getD, List.getElem?_replicate, h]
theorem getD_set_eq {α : Type} [Inhabited α] (l : List α) (i : Nat) (a : α) (h : i < l.length) : (l.set i a).getD i default = a := by
  simp [List.getD_eq_getElem?_getD, h]
theorem getD_set_ne {α : Type} [Inhabited α] (l : List α) (i j : Nat) (a : α) (h : j ≠ i) : (l.set i a).getD j default = l.getD j default := by
  simp [List.getD_eq_getElem?_getD, List.getElem?_set_ne (fun e => h e.symm)]
theorem getD_eq {α : Type} [Inhabited α] (l : List α) (i : Nat) (h : i < l.length) : l.getD i default = l[i] := by
  simp [List.getD_eq_getElem?_getD, h]
theorem LX.g3_eq (y : LX) (m : List Int) (h : y.g3 = some m) : y = .t3 m := by cases y <;> simp only [LX.g3] at h <;> first | (injection h with h; subst h; rfl) | cases h
theorem LX.g4_eq (y : LX) (m : List Bool) (h : y.g4 = some m) : y = .t4 m := by cases y <;> simp only [LX.g4] at h <;> first | (injection h with h; subst h; rfl) | cases h
theorem LX.g9_eq (y : LX) (m : List ByteArray) (h : y.g9 = some m) : y = .t9 m := by cases y <;> simp only [LX.g9] at h <;> first | (injection h with h; subst h; rfl) | cases h
theorem LX.g25_eq (y : LX) (m : List api_Expr) (h : y.g25 = some m) : y = .t25 m := by cases y <;> simp only [LX.g25] at h <;> first | (injection h with h; subst h; rfl) | cases h
theorem LX.g34_eq (y : LX) (m : List (List api_Field)) (h : y.g34 = some m) : y = .t34 m := by cases y <;> simp only [LX.g34] at h <;> first | (injection h with h; subst h; rfl) | cases h
theorem LX.g43_eq (y : LX) (m : List api_SiteDecl) (h : y.g43 = some m) : y = .t43 m := by cases y <;> simp only [LX.g43] at h <;> first | (injection h with h; subst h; rfl) | cases h
theorem LX.g47_eq (y : LX) (m : List Int) (h : y.g47 = some m) : y = .t47 m := by cases y <;> simp only [LX.g47] at h <;> first | (injection h with h; subst h; rfl) | cases h
theorem LX.g68_eq (y : LX) (m : List api_Setting) (h : y.g68 = some m) : y = .t68 m := by cases y <;> simp only [LX.g68] at h <;> first | (injection h with h; subst h; rfl) | cases h
theorem LX.g77_eq (y : LX) (m : List api_Routine) (h : y.g77 = some m) : y = .t77 m := by cases y <;> simp only [LX.g77] at h <;> first | (injection h with h; subst h; rfl) | cases h
theorem LX.g83_eq (y : LX) (m : List api_Stmt) (h : y.g83 = some m) : y = .t83 m := by cases y <;> simp only [LX.g83] at h <;> first | (injection h with h; subst h; rfl) | cases h
theorem LX.g85_eq (y : LX) (m : List api_Value) (h : y.g85 = some m) : y = .t85 m := by cases y <;> simp only [LX.g85] at h <;> first | (injection h with h; subst h; rfl) | cases h
theorem LX.g134_eq (y : LX) (m : List api_Field) (h : y.g134 = some m) : y = .t134 m := by cases y <;> simp only [LX.g134] at h <;> first | (injection h with h; subst h; rfl) | cases h
theorem LX.g159_eq (y : LX) (m : List api_ResourceDecl) (h : y.g159 = some m) : y = .t159 m := by cases y <;> simp only [LX.g159] at h <;> first | (injection h with h; subst h; rfl) | cases h
theorem LX.g164_eq (y : LX) (m : List api_StoreDecl) (h : y.g164 = some m) : y = .t164 m := by cases y <;> simp only [LX.g164] at h <;> first | (injection h with h; subst h; rfl) | cases h
theorem LX.g168_eq (y : LX) (m : List api_BeltDecl) (h : y.g168 = some m) : y = .t168 m := by cases y <;> simp only [LX.g168] at h <;> first | (injection h with h; subst h; rfl) | cases h
theorem LX.g195_eq (y : LX) (m : List api_Start) (h : y.g195 = some m) : y = .t195 m := by cases y <;> simp only [LX.g195] at h <;> first | (injection h with h; subst h; rfl) | cases h
theorem LX.g201_eq (y : LX) (m : List api_Link) (h : y.g201 = some m) : y = .t201 m := by cases y <;> simp only [LX.g201] at h <;> first | (injection h with h; subst h; rfl) | cases h
theorem LX.g202_eq (y : LX) (m : List Arr2_ByteArray) (h : y.g202 = some m) : y = .t202 m := by cases y <;> simp only [LX.g202] at h <;> first | (injection h with h; subst h; rfl) | cases h
theorem LX.g216_eq (y : LX) (m : List api_Change) (h : y.g216 = some m) : y = .t216 m := by cases y <;> simp only [LX.g216] at h <;> first | (injection h with h; subst h; rfl) | cases h
theorem LX.g223_eq (y : LX) (m : List api_Law) (h : y.g223 = some m) : y = .t223 m := by cases y <;> simp only [LX.g223] at h <;> first | (injection h with h; subst h; rfl) | cases h
theorem LX.g226_eq (y : LX) (m : List api_Term) (h : y.g226 = some m) : y = .t226 m := by cases y <;> simp only [LX.g226] at h <;> first | (injection h with h; subst h; rfl) | cases h
theorem LX.g246_eq (y : LX) (m : List St_is_name) (h : y.g246 = some m) : y = .t246 m := by cases y <;> simp only [LX.g246] at h <;> first | (injection h with h; subst h; rfl) | cases h
theorem LX.g248_eq (y : LX) (m : List St_is_e) (h : y.g248 = some m) : y = .t248 m := by cases y <;> simp only [LX.g248] at h <;> first | (injection h with h; subst h; rfl) | cases h
structure KOK {α : Type} [Inhabited α] (K : List α → LX) (row : α → List PV) (e sz : Nat) : Prop where
  e : ∀ l, (K l).e = e
  sz : ∀ l, (K l).sz = sz
  len : ∀ l, (K l).len = l.length
  row : ∀ l i, (K l).row i = row (l.getD i default)
section
variable {α : Type} [Inhabited α] {K : List α → LX} {row : α → List PV} {e0 sz : Nat}
theorem litT (k : KOK K row e0 sz) {d : List PV → Option α} (hd : ∀ r a, d r = some a → RowLe r (row a)) {e : Nat} (hb : Nat.beq e e0 = true) {rs : List (List PV)} {x : LX} (h : optK K (decs d rs) = some x) : x.e = e ∧ x.len = rs.length ∧ ∀ (i : Nat) (r : List PV), rs[i]? = some r → RowLe r (x.row i) := by
  unfold optK at h
  cases hl : decs d rs with
  | none => rw [hl] at h; cases h
  | some l =>
    rw [hl] at h
    injection h with h; subst h
    obtain ⟨q1, q2⟩ := decs_spec hd rs l hl
    exact ⟨by rw [k.e]; exact (Nat.eq_of_beq_eq_true hb).symm, by rw [k.len]; exact q1, fun i r hr => by rw [k.row]; exact q2 i r hr⟩
theorem catT (k : KOK K row e0 sz) {y z : LX} {l : List α} {g : Option (List α)} (hg : ∀ m, g = some m → y = K m) (h : optK (fun m => K (l ++ m)) g = some z) : y.e = (K l).e ∧ z.e = (K l).e ∧ y.sz = (K l).sz ∧ z.sz = (K l).sz ∧ z.len = (K l).len + y.len ∧ (∀ i, i < (K l).len → z.row i = (K l).row i) ∧ (∀ i, z.row ((K l).len + i) = y.row i) := by
  cases g with
  | none => cases h
  | some m =>
    injection h with h; subst h
    rw [hg m rfl]
    simp only [k.e, k.sz, k.len, k.row, List.length_append, true_and]
    exact ⟨fun i hi => by rw [getD_app_l l m i hi], fun i => by rw [getD_app_r]⟩
theorem subT (k : KOK K row e0 sz) (l : List α) (a b : Nat) (h : b ≤ (K l).len) : (K ((l.take b).drop a)).e = (K l).e ∧ (K ((l.take b).drop a)).sz = (K l).sz ∧ (K ((l.take b).drop a)).len = b - a ∧ ∀ i, i < b - a → (K ((l.take b).drop a)).row i = (K l).row (a + i) := by
  simp only [k.e, k.sz, k.len, k.row, true_and] at h ⊢
  exact ⟨by simp; omega, fun i hi => by rw [getD_sub l a b i h hi]⟩
theorem repT (k : KOK K row e0 sz) (l : List α) (n : Nat) : (K (List.replicate n (l.getD 0 default))).e = (K l).e ∧ (K (List.replicate n (l.getD 0 default))).sz = (K l).sz ∧ (K (List.replicate n (l.getD 0 default))).len = n ∧ ∀ i, i < n → (K (List.replicate n (l.getD 0 default))).row i = (K l).row 0 := by
  simp only [k.e, k.sz, k.len, k.row, true_and]
  exact ⟨List.length_replicate, fun i hi => by rw [getD_rep n i _ hi]⟩
end
theorem k3 : KOK .t3 row3 3 1 := ⟨fun _ => rfl, fun _ => rfl, fun _ => rfl, fun _ _ => rfl⟩
theorem k4 : KOK .t4 row4 4 1 := ⟨fun _ => rfl, fun _ => rfl, fun _ => rfl, fun _ _ => rfl⟩
theorem k9 : KOK .t9 row9 9 1 := ⟨fun _ => rfl, fun _ => rfl, fun _ => rfl, fun _ _ => rfl⟩
theorem k25 : KOK .t25 row25 25 4 := ⟨fun _ => rfl, fun _ => rfl, fun _ => rfl, fun _ _ => rfl⟩
theorem k34 : KOK .t34 row34 34 1 := ⟨fun _ => rfl, fun _ => rfl, fun _ => rfl, fun _ _ => rfl⟩
theorem k43 : KOK .t43 row43 43 13 := ⟨fun _ => rfl, fun _ => rfl, fun _ => rfl, fun _ _ => rfl⟩
theorem k47 : KOK .t47 row47 47 1 := ⟨fun _ => rfl, fun _ => rfl, fun _ => rfl, fun _ _ => rfl⟩
theorem k68 : KOK .t68 row68 68 2 := ⟨fun _ => rfl, fun _ => rfl, fun _ => rfl, fun _ _ => rfl⟩
theorem k77 : KOK .t77 row77 77 4 := ⟨fun _ => rfl, fun _ => rfl, fun _ => rfl, fun _ _ => rfl⟩
theorem k83 : KOK .t83 row83 83 21 := ⟨fun _ => rfl, fun _ => rfl, fun _ => rfl, fun _ _ => rfl⟩
theorem k85 : KOK .t85 row85 85 3 := ⟨fun _ => rfl, fun _ => rfl, fun _ => rfl, fun _ _ => rfl⟩
theorem k134 : KOK .t134 row134 134 2 := ⟨fun _ => rfl, fun _ => rfl, fun _ => rfl, fun _ _ => rfl⟩
theorem k159 : KOK .t159 row159 159 17 := ⟨fun _ => rfl, fun _ => rfl, fun _ => rfl, fun _ _ => rfl⟩
theorem k164 : KOK .t164 row164 164 3 := ⟨fun _ => rfl, fun _ => rfl, fun _ => rfl, fun _ _ => rfl⟩
theorem k168 : KOK .t168 row168 168 3 := ⟨fun _ => rfl, fun _ => rfl, fun _ => rfl, fun _ _ => rfl⟩
theorem k195 : KOK .t195 row195 195 5 := ⟨fun _ => rfl, fun _ => rfl, fun _ => rfl, fun _ _ => rfl⟩
theorem k201 : KOK .t201 row201 201 3 := ⟨fun _ => rfl, fun _ => rfl, fun _ => rfl, fun _ _ => rfl⟩
theorem k202 : KOK .t202 row202 202 2 := ⟨fun _ => rfl, fun _ => rfl, fun _ => rfl, fun _ _ => rfl⟩
theorem k216 : KOK .t216 row216 216 2 := ⟨fun _ => rfl, fun _ => rfl, fun _ => rfl, fun _ _ => rfl⟩
theorem k223 : KOK .t223 row223 223 3 := ⟨fun _ => rfl, fun _ => rfl, fun _ => rfl, fun _ _ => rfl⟩
theorem k226 : KOK .t226 row226 226 3 := ⟨fun _ => rfl, fun _ => rfl, fun _ => rfl, fun _ _ => rfl⟩
theorem k246 : KOK .t246 row246 246 2 := ⟨fun _ => rfl, fun _ => rfl, fun _ => rfl, fun _ _ => rfl⟩
theorem k248 : KOK .t248 row248 248 5 := ⟨fun _ => rfl, fun _ => rfl, fun _ => rfl, fun _ _ => rfl⟩
theorem LX.lit_spec (e : Nat) (rs : List (List PV)) (x : LX) (h : LX.lit e rs = some x) : x.e = e ∧ x.len = rs.length ∧ ∀ (i : Nat) (r : List PV), rs[i]? = some r → RowLe r (x.row i) := by
  unfold LX.lit at h
  cases b3 : Nat.beq e 3
  case true => simp only [b3] at h; exact litT k3 dec3_le b3 h
  simp only [b3] at h
  cases b4 : Nat.beq e 4
  case true => simp only [b4] at h; exact litT k4 dec4_le b4 h
  simp only [b4] at h
  cases b9 : Nat.beq e 9
  case true => simp only [b9] at h; exact litT k9 dec9_le b9 h
  simp only [b9] at h
  cases b25 : Nat.beq e 25
  case true => simp only [b25] at h; exact litT k25 dec25_le b25 h
  simp only [b25] at h
  cases b34 : Nat.beq e 34
  case true => simp only [b34] at h; exact litT k34 dec34_le b34 h
  simp only [b34] at h
  cases b43 : Nat.beq e 43
  case true => simp only [b43] at h; exact litT k43 dec43_le b43 h
  simp only [b43] at h
  cases b47 : Nat.beq e 47
  case true => simp only [b47] at h; exact litT k47 dec47_le b47 h
  simp only [b47] at h
  cases b68 : Nat.beq e 68
  case true => simp only [b68] at h; exact litT k68 dec68_le b68 h
  simp only [b68] at h
  cases b77 : Nat.beq e 77
  case true => simp only [b77] at h; exact litT k77 dec77_le b77 h
  simp only [b77] at h
  cases b83 : Nat.beq e 83
  case true => simp only [b83] at h; exact litT k83 dec83_le b83 h
  simp only [b83] at h
  cases b85 : Nat.beq e 85
  case true => simp only [b85] at h; exact litT k85 dec85_le b85 h
  simp only [b85] at h
  cases b134 : Nat.beq e 134
  case true => simp only [b134] at h; exact litT k134 dec134_le b134 h
  simp only [b134] at h
  cases b159 : Nat.beq e 159
  case true => simp only [b159] at h; exact litT k159 dec159_le b159 h
  simp only [b159] at h
  cases b164 : Nat.beq e 164
  case true => simp only [b164] at h; exact litT k164 dec164_le b164 h
  simp only [b164] at h
  cases b168 : Nat.beq e 168
  case true => simp only [b168] at h; exact litT k168 dec168_le b168 h
  simp only [b168] at h
  cases b195 : Nat.beq e 195
  case true => simp only [b195] at h; exact litT k195 dec195_le b195 h
  simp only [b195] at h
  cases b201 : Nat.beq e 201
  case true => simp only [b201] at h; exact litT k201 dec201_le b201 h
  simp only [b201] at h
  cases b202 : Nat.beq e 202
  case true => simp only [b202] at h; exact litT k202 dec202_le b202 h
  simp only [b202] at h
  cases b216 : Nat.beq e 216
  case true => simp only [b216] at h; exact litT k216 dec216_le b216 h
  simp only [b216] at h
  cases b223 : Nat.beq e 223
  case true => simp only [b223] at h; exact litT k223 dec223_le b223 h
  simp only [b223] at h
  cases b226 : Nat.beq e 226
  case true => simp only [b226] at h; exact litT k226 dec226_le b226 h
  simp only [b226] at h
  cases b246 : Nat.beq e 246
  case true => simp only [b246] at h; exact litT k246 dec246_le b246 h
  simp only [b246] at h
  cases b248 : Nat.beq e 248
  case true => simp only [b248] at h; exact litT k248 dec248_le b248 h
  simp only [b248] at h
  cases h
theorem LX.cat_spec (x y z : LX) (h : x.cat y = some z) : y.e = x.e ∧ z.e = x.e ∧ y.sz = x.sz ∧ z.sz = x.sz ∧ z.len = x.len + y.len ∧ (∀ i, i < x.len → z.row i = x.row i) ∧ (∀ i, z.row (x.len + i) = y.row i) := by
  cases x with
  | t3 l => exact catT k3 (LX.g3_eq y) h
  | t4 l => exact catT k4 (LX.g4_eq y) h
  | t9 l => exact catT k9 (LX.g9_eq y) h
  | t25 l => exact catT k25 (LX.g25_eq y) h
  | t34 l => exact catT k34 (LX.g34_eq y) h
  | t43 l => exact catT k43 (LX.g43_eq y) h
  | t47 l => exact catT k47 (LX.g47_eq y) h
  | t68 l => exact catT k68 (LX.g68_eq y) h
  | t77 l => exact catT k77 (LX.g77_eq y) h
  | t83 l => exact catT k83 (LX.g83_eq y) h
  | t85 l => exact catT k85 (LX.g85_eq y) h
  | t134 l => exact catT k134 (LX.g134_eq y) h
  | t159 l => exact catT k159 (LX.g159_eq y) h
  | t164 l => exact catT k164 (LX.g164_eq y) h
  | t168 l => exact catT k168 (LX.g168_eq y) h
  | t195 l => exact catT k195 (LX.g195_eq y) h
  | t201 l => exact catT k201 (LX.g201_eq y) h
  | t202 l => exact catT k202 (LX.g202_eq y) h
  | t216 l => exact catT k216 (LX.g216_eq y) h
  | t223 l => exact catT k223 (LX.g223_eq y) h
  | t226 l => exact catT k226 (LX.g226_eq y) h
  | t246 l => exact catT k246 (LX.g246_eq y) h
  | t248 l => exact catT k248 (LX.g248_eq y) h
theorem LX.sub_spec (x : LX) (a b : Nat) (h : b ≤ x.len) : (x.sub a b).e = x.e ∧ (x.sub a b).sz = x.sz ∧ (x.sub a b).len = b - a ∧ ∀ i, i < b - a → (x.sub a b).row i = x.row (a + i) := by
  cases x with
  | t3 l => exact subT k3 l a b h
  | t4 l => exact subT k4 l a b h
  | t9 l => exact subT k9 l a b h
  | t25 l => exact subT k25 l a b h
  | t34 l => exact subT k34 l a b h
  | t43 l => exact subT k43 l a b h
  | t47 l => exact subT k47 l a b h
  | t68 l => exact subT k68 l a b h
  | t77 l => exact subT k77 l a b h
  | t83 l => exact subT k83 l a b h
  | t85 l => exact subT k85 l a b h
  | t134 l => exact subT k134 l a b h
  | t159 l => exact subT k159 l a b h
  | t164 l => exact subT k164 l a b h
  | t168 l => exact subT k168 l a b h
  | t195 l => exact subT k195 l a b h
  | t201 l => exact subT k201 l a b h
  | t202 l => exact subT k202 l a b h
  | t216 l => exact subT k216 l a b h
  | t223 l => exact subT k223 l a b h
  | t226 l => exact subT k226 l a b h
  | t246 l => exact subT k246 l a b h
  | t248 l => exact subT k248 l a b h
theorem LX.rep_spec (x : LX) (n : Nat) : (x.rep n).e = x.e ∧ (x.rep n).sz = x.sz ∧ (x.rep n).len = n ∧ ∀ i, i < n → (x.rep n).row i = x.row 0 := by
  cases x with
  | t3 l => exact repT k3 l n
  | t4 l => exact repT k4 l n
  | t9 l => exact repT k9 l n
  | t25 l => exact repT k25 l n
  | t34 l => exact repT k34 l n
  | t43 l => exact repT k43 l n
  | t47 l => exact repT k47 l n
  | t68 l => exact repT k68 l n
  | t77 l => exact repT k77 l n
  | t83 l => exact repT k83 l n
  | t85 l => exact repT k85 l n
  | t134 l => exact repT k134 l n
  | t159 l => exact repT k159 l n
  | t164 l => exact repT k164 l n
  | t168 l => exact repT k168 l n
  | t195 l => exact repT k195 l n
  | t201 l => exact repT k201 l n
  | t202 l => exact repT k202 l n
  | t216 l => exact repT k216 l n
  | t223 l => exact repT k223 l n
  | t226 l => exact repT k226 l n
  | t246 l => exact repT k246 l n
  | t248 l => exact repT k248 l n
theorem lenGe0_iff (l : List PV) : ∀ n, lenGe0 l n = true ↔ n ≤ l.length := by
  induction l with
  | nil => intro n; cases n <;> simp [lenGe0]
  | cons p r ih => intro n; cases n <;> simp [lenGe0, ih]
theorem setT {α : Type} [Inhabited α] {K : List α → LX} {row : α → List PV} {e0 sz : Nat} (k : KOK K row e0 sz) (hz : ∀ a, (row a).length = sz) {d : List PV → Option α} (hd : ∀ r a, d r = some a → RowLe r (row a)) {i off : Nat} {c : List PV} {l : List α} {y : LX} (h : optS (lenGe0 (row (l.getD i default)) (off + c.length)) (fun a => K (l.set i a)) (d (setN (row (l.getD i default)) off c)) = some y) : y.e = (K l).e ∧ y.sz = (K l).sz ∧ y.len = (K l).len ∧ off + c.length ≤ (K l).sz ∧ (i < (K l).len → RowLe (setN ((K l).row i) off c) (y.row i)) ∧ ∀ j, j ≠ i → y.row j = (K l).row j := by
  unfold optS at h
  split at h
  · rename_i a h1 h2
    injection h with h; subst h
    simp only [k.e, k.sz, k.len, k.row, true_and]
    refine ⟨List.length_set, by rw [← hz (l.getD i default)]; exact (lenGe0_iff _ _).1 h1, fun hi => ?_, fun j hj => ?_⟩
    · rw [getD_set_eq l i a hi]
      exact hd _ _ h2
    · rw [getD_set_ne l i j a hj]
  · cases h
theorem LX.set_spec (x : LX) (i off : Nat) (c : List PV) (y : LX) (h : LX.set x i off c = some y) : y.e = x.e ∧ y.sz = x.sz ∧ y.len = x.len ∧ off + c.length ≤ x.sz ∧ (i < x.len → RowLe (setN (x.row i) off c) (y.row i)) ∧ ∀ j, j ≠ i → y.row j = x.row j := by
  cases x with
  | t3 l => exact setT k3 (fun _ => rfl) dec3_le h
  | t4 l => exact setT k4 (fun _ => rfl) dec4_le h
  | t9 l => exact setT k9 (fun _ => rfl) dec9_le h
  | t25 l => exact setT k25 (fun _ => rfl) dec25_le h
  | t34 l => exact setT k34 (fun _ => rfl) dec34_le h
  | t43 l => exact setT k43 (fun _ => rfl) dec43_le h
  | t47 l => exact setT k47 (fun _ => rfl) dec47_le h
  | t68 l => exact setT k68 (fun _ => rfl) dec68_le h
  | t77 l => exact setT k77 (fun _ => rfl) dec77_le h
  | t83 l => exact setT k83 (fun _ => rfl) dec83_le h
  | t85 l => exact setT k85 (fun _ => rfl) dec85_le h
  | t134 l => exact setT k134 (fun _ => rfl) dec134_le h
  | t159 l => exact setT k159 (fun _ => rfl) dec159_le h
  | t164 l => exact setT k164 (fun _ => rfl) dec164_le h
  | t168 l => exact setT k168 (fun _ => rfl) dec168_le h
  | t195 l => exact setT k195 (fun _ => rfl) dec195_le h
  | t201 l => exact setT k201 (fun _ => rfl) dec201_le h
  | t202 l => exact setT k202 (fun _ => rfl) dec202_le h
  | t216 l => exact setT k216 (fun _ => rfl) dec216_le h
  | t223 l => exact setT k223 (fun _ => rfl) dec223_le h
  | t226 l => exact setT k226 (fun _ => rfl) dec226_le h
  | t246 l => exact setT k246 (fun _ => rfl) dec246_le h
  | t248 l => exact setT k248 (fun _ => rfl) dec248_le h
theorem find_spec0 {α : Type} [Inhabited α] {l : List α} {p : α → Bool} {r : Option Nat} (h : l.findIdx? p = r) :
    (r = none → ∀ i, i < l.length → p (l.getD i default) = false) ∧ (∀ i, r = some i → i < l.length ∧ p (l.getD i default) = true ∧ ∀ j, j < i → p (l.getD j default) = false) := by
  subst h
  refine ⟨fun h i hi => ?_, fun i h => ?_⟩
  · have := List.findIdx?_eq_none_iff.1 h (l.getD i default) (by rw [getD_eq l i hi]; exact List.getElem_mem hi)
    simpa using this
  · obtain ⟨h1, h2, h3⟩ := List.findIdx?_eq_some_iff_getElem.1 h
    refine ⟨h1, by rw [getD_eq l i h1]; exact h2, fun j hj => ?_⟩
    rw [getD_eq l j (by omega)]
    simpa using h3 j hj
theorem LX.find_spec (x : LX) (c : List PV) (r : Option Nat) (h : LX.find x c = some r) : (r = none → ∀ i, i < x.len → sameV c (x.row i) = some false) ∧ (∀ i, r = some i → i < x.len ∧ sameV c (x.row i) = some true ∧ ∀ j, j < i → sameV c (x.row j) = some false) := by
  unfold LX.find at h
  split at h
  · rename_i l k0 a0
    split at h
    · rename_i hk0
      have e0 := of_decide_eq_true hk0
      subst e0
      injection h with h; subst h
      obtain ⟨s1, s2⟩ := find_spec0 (rfl : l.findIdx? (fun b => a0 == b) = _)
      have key : ∀ i b, (a0 == (l.getD i default)) = b → sameV [.val (.int .i64 a0)] ((LX.t3 l).row i) = some b := fun i b hb => congrArg some hb
      exact ⟨fun hr i hi => key _ _ (s1 hr i hi), fun i hr => ⟨(s2 i hr).1, key _ _ (s2 i hr).2.1, fun j hj => key _ _ ((s2 i hr).2.2 j hj)⟩⟩
    · cases h
  · rename_i l a0
    injection h with h; subst h
    obtain ⟨s1, s2⟩ := find_spec0 (rfl : l.findIdx? (fun b => a0 == b) = _)
    have key : ∀ i b, (a0 == (l.getD i default)) = b → sameV [.val (.bool a0)] ((LX.t4 l).row i) = some b := fun i b hb => congrArg some hb
    exact ⟨fun hr i hi => key _ _ (s1 hr i hi), fun i hr => ⟨(s2 i hr).1, key _ _ (s2 i hr).2.1, fun j hj => key _ _ ((s2 i hr).2.2 j hj)⟩⟩
  · rename_i l a0
    injection h with h; subst h
    obtain ⟨s1, s2⟩ := find_spec0 (rfl : l.findIdx? (fun b => a0 == b) = _)
    have key : ∀ i b, (a0 == (l.getD i default)) = b → sameV [.val (.string a0)] ((LX.t9 l).row i) = some b := fun i b hb => congrArg some hb
    exact ⟨fun hr i hi => key _ _ (s1 hr i hi), fun i hr => ⟨(s2 i hr).1, key _ _ (s2 i hr).2.1, fun j hj => key _ _ ((s2 i hr).2.2 j hj)⟩⟩
  · rename_i l k0 a0
    split at h
    · rename_i hk0
      have e0 := of_decide_eq_true hk0
      subst e0
      injection h with h; subst h
      obtain ⟨s1, s2⟩ := find_spec0 (rfl : l.findIdx? (fun b => a0 == b) = _)
      have key : ∀ i b, (a0 == (l.getD i default)) = b → sameV [.val (.int .i64 a0)] ((LX.t47 l).row i) = some b := fun i b hb => congrArg some hb
      exact ⟨fun hr i hi => key _ _ (s1 hr i hi), fun i hr => ⟨(s2 i hr).1, key _ _ (s2 i hr).2.1, fun j hj => key _ _ ((s2 i hr).2.2 j hj)⟩⟩
    · cases h
  · rename_i l a0 a1
    injection h with h; subst h
    obtain ⟨s1, s2⟩ := find_spec0 (rfl : l.findIdx? (fun b => (a0 == b.a0 && (a1 == b.a1))) = _)
    have key : ∀ i b, ((a0 == (l.getD i default).a0 && (a1 == (l.getD i default).a1))) = b → sameV [.val (.string a0), .val (.string a1)] ((LX.t202 l).row i) = some b := fun i b hb => congrArg some hb
    exact ⟨fun hr i hi => key _ _ (s1 hr i hi), fun i hr => ⟨(s2 i hr).1, key _ _ (s2 i hr).2.1, fun j hj => key _ _ ((s2 i hr).2.2 j hj)⟩⟩
  · cases h
end Go.Proofs.YtonfmpiikdmndaaGreat.Ev
