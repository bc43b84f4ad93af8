/-  Chapter 16, plainly: an expression folded. -/
import Derived.Test.YtonfmpiikdmndaaGreatPh0
namespace Go.Proofs.YtonfmpiikdmndaaGreat.Ev
open Go
set_option maxRecDepth 100000
set_option linter.unusedVariables false
set_option linter.unusedSimpArgs false
set_option linter.unnecessarySimpa false
def clipZ (n : Int) : Int := if n < -1000000000000 then -1000000000000 else if 1000000000000 < n then 1000000000000 else n
theorem clipZ_in (n : Int) : -1000000000000 ≤ clipZ n ∧ clipZ n ≤ 1000000000000 := by unfold clipZ; split <;> (try split) <;> omega
theorem clipZ_id {n : Int} (h : -1000000000000 ≤ n ∧ n ≤ 1000000000000) : clipZ n = n := by unfold clipZ; rw [if_neg (by omega), if_neg (by omega)]
def addZ (a b : Int) : Int := clipZ (clipZ a + clipZ b)
def mulZ (a b : Int) : Int := clipZ (clipZ a * clipZ b)
def divZ (a b : Int) : Int := if clipZ b = 0 then 0 else if Int.tmod (clipZ a) (clipZ b) ≠ 0 ∧ ((clipZ a < 0) ≠ (clipZ b < 0)) then Int.tdiv (clipZ a) (clipZ b) - 1 else Int.tdiv (clipZ a) (clipZ b)
def modZ (a b : Int) : Int := clipZ a - clipZ b * divZ a b
def b01 (b : Bool) : Int := if b = true then 1 else 0
def unV (op a : Int) : Int := if op = 5 then -clipZ a else if op = 6 then b01 (a == 0) else if op = 7 ∨ op = 8 then a else 0
def holdsZ (op a b : Int) : Bool :=
  if op = 14 then a == b else if op = 15 then a != b else if op = 16 then decide (a < b) else if op = 17 then decide (a ≤ b)
  else if op = 18 then (a != 0 && b != 0) else if op = 19 then (a != 0 || b != 0) else false
def binV (op a b : Int) : Int :=
  if op = 9 then addZ a b else if op = 10 then addZ a (-clipZ b) else if op = 11 then mulZ a b else if op = 12 then divZ a b else if op = 13 then modZ a b
  else if op = 20 then (if b < a then b else a) else if op = 21 then (if b > a then b else a) else b01 (holdsZ op a b)
def eS : ByteArray := ⟨#[]⟩
def cstE (t n : Int) : api_Expr :=
  if t = 1 then .mk 1 eS n [] else if t = 2 then .mk 2 eS (if n = 0 then 0 else 1) [] else if t = 3 then .mk 7 eS 0 [.mk 1 eS n []] else .mk 0 eS 0 []
/-- the type and the value of a constant -/
def cvO (e : api_Expr) : Option (Int × Int) :=
  if e.Op = 1 then some (1, e.N) else if e.Op = 2 then some (2, e.N)
  else if e.Op = 7 then (match e.Kids with
    | [x] => if x.Op = 1 then some (3, x.N) else none
    | _ => none)
  else none
def nodeF (op : Int) (nm : ByteArray) (n : Int) (k : List api_Expr) : api_Expr :=
  if op = 7 then .mk op nm n k
  else match k with
    | [a] => (match cvO a with
      | some (t, x) => if unT op t = 0 then .mk op nm n k else cstE (unT op t) (unV op x)
      | none => .mk op nm n k)
    | [a, b] => (match cvO a, cvO b with
      | some (t, x), some (u, y) => if binT op t u = 0 then .mk op nm n k else cstE (binT op t u) (binV op x y)
      | _, _ => .mk op nm n k)
    | _ => .mk op nm n k
mutual
def foldE : api_Expr → api_Expr
  | .mk op nm n k => nodeF op nm n (foldL k)
def foldL : List api_Expr → List api_Expr
  | [] => []
  | x :: k => foldE x :: foldL k
end
theorem foldL_len : ∀ k : List api_Expr, (foldL k).length = k.length
  | [] => rfl
  | x :: k => by rw [foldL, List.length_cons, List.length_cons, foldL_len k]
theorem unT_123 (op t : Int) : unT op t = 0 ∨ unT op t = 1 ∨ unT op t = 2 ∨ unT op t = 3 := by
  unfold unT meas; grind
theorem binT_123 (op t u : Int) : binT op t u = 0 ∨ binT op t u = 1 ∨ binT op t u = 2 ∨ binT op t u = 3 := by
  unfold binT meas; grind
/-- a node stays, or is a constant -/
theorem nodeF_or (op : Int) (nm : ByteArray) (n : Int) (k : List api_Expr) : nodeF op nm n k = .mk op nm n k ∨
    (op ≠ 7 ∧ ∃ a t x, k = [a] ∧ cvO a = some (t, x) ∧ unT op t ≠ 0 ∧ nodeF op nm n k = cstE (unT op t) (unV op x)) ∨
    (op ≠ 7 ∧ ∃ a b t u x y, k = [a, b] ∧ cvO a = some (t, x) ∧ cvO b = some (u, y) ∧ binT op t u ≠ 0 ∧ nodeF op nm n k = cstE (binT op t u) (binV op x y)) := by
  unfold nodeF
  split
  · exact .inl rfl
  rename_i h7
  match k with
  | [] => exact .inl rfl
  | [a] =>
    simp only
    cases ha : cvO a with
    | none => exact .inl rfl
    | some p =>
      obtain ⟨t, x⟩ := p
      simp only
      by_cases h : unT op t = 0
      · rw [if_pos h]; exact .inl rfl
      · rw [if_neg h]; exact .inr (.inl ⟨h7, a, t, x, rfl, ha, h, rfl⟩)
  | [a, b] =>
    simp only
    cases ha : cvO a with
    | none => exact .inl rfl
    | some p =>
      obtain ⟨t, x⟩ := p
      cases hb : cvO b with
      | none => exact .inl rfl
      | some q =>
        obtain ⟨u, y⟩ := q
        simp only
        by_cases h : binT op t u = 0
        · rw [if_pos h]; exact .inl rfl
        · rw [if_neg h]; exact .inr (.inr ⟨h7, a, b, t, u, x, y, rfl, ha, hb, h, rfl⟩)
  | a :: b :: c :: r => exact .inl rfl
theorem fold_cst {t : Int} (n : Int) (h : t = 1 ∨ t = 2 ∨ t = 3) : foldE (cstE t n) = cstE t n := by
  rcases h with rfl | rfl | rfl <;> rfl
mutual
theorem fold_fold : ∀ e : api_Expr, foldE (foldE e) = foldE e
  | .mk op nm n k => by
    rw [foldE]
    rcases nodeF_or op nm n (foldL k) with h | ⟨_, a, t, x, _, _, h1, h2⟩ | ⟨_, a, b, t, u, x, y, _, _, _, h1, h2⟩
    · rw [h, foldE, foldL_fold k, h]
    · rw [h2]; exact fold_cst _ ((unT_123 op t).resolve_left h1)
    · rw [h2]; exact fold_cst _ ((binT_123 op t u).resolve_left h1)
theorem foldL_fold : ∀ k : List api_Expr, foldL (foldL k) = foldL k
  | [] => rfl
  | x :: k => by rw [foldL, foldL, fold_fold x, foldL_fold k]
end
theorem inZ_iff (n : Int) : inZ n = true ↔ -1000000000000 ≤ n ∧ n ≤ 1000000000000 := by unfold inZ; simp
theorem nodeE_mk (c : Bool) (op : Int) (nm : ByteArray) (n : Int) (k : List api_Expr) : nodeE c (.mk op nm n k) = (if badForm c (.mk op nm n k) = true then 1
  else if op = 1 then (if inZ n then 0 else 2)
  else match mostOp c op with
    | none => if n ≠ 0 then 1 else if namedOp c op then nameE nm else 0
    | some hi => if n < 0 ∨ hi < n then 2 else if namedOp c op then nameE nm else 0) := rfl
theorem cvO_mk (op : Int) (nm : ByteArray) (n : Int) (k : List api_Expr) : cvO (.mk op nm n k) = ((if op = 1 then some (1, n) else if op = 2 then some (2, n)
  else if op = 7 then (match k with
    | [x] => if x.Op = 1 then some (3, x.N) else none
    | _ => none)
  else none) : Option (Int × Int)) := rfl
theorem nodeE_int {c : Bool} {nm : ByteArray} {n : Int} {k : List api_Expr} (h : nodeE c (.mk 1 nm n k) = 0) : inZ n = true := by
  rw [nodeE_mk] at h
  by_cases hb : badForm c (.mk 1 nm n k) = true
  · rw [if_pos hb] at h; cases h
  · rw [if_neg hb, if_pos rfl] at h
    cases hz : inZ n with
    | true => rfl
    | false => rw [hz] at h; cases h
theorem nodeE_bool {c : Bool} {nm : ByteArray} {n : Int} {k : List api_Expr} (h : nodeE c (.mk 2 nm n k) = 0) : n = 0 ∨ n = 1 := by
  rw [nodeE_mk] at h
  by_cases hb : badForm c (.mk 2 nm n k) = true
  · rw [if_pos hb] at h; cases h
  · rw [if_neg hb, if_neg (by decide), show mostOp c 2 = some 1 from rfl] at h
    simp only at h
    by_cases hn : n < 0 ∨ 1 < n
    · rw [if_pos hn] at h; cases h
    · omega
theorem cv_cases {a : api_Expr} {t x : Int} (h : cvO a = some (t, x)) : (∃ nm k, a = .mk 1 nm x k ∧ t = 1) ∨ (∃ nm k, a = .mk 2 nm x k ∧ t = 2) ∨ (∃ nm n nm' k, a = .mk 7 nm n [.mk 1 nm' x k] ∧ t = 3) := by
  obtain ⟨op, nm, n, k⟩ := a
  rw [cvO_mk] at h
  by_cases h1 : op = 1
  · rw [if_pos h1] at h
    injection h with h
    injection h with e1 e2
    subst e1; subst e2; subst h1
    exact .inl ⟨nm, k, rfl, rfl⟩
  by_cases h2 : op = 2
  · rw [if_neg h1, if_pos h2] at h
    injection h with h
    injection h with e1 e2
    subst e1; subst e2; subst h2
    exact .inr (.inl ⟨nm, k, rfl, rfl⟩)
  by_cases h7 : op = 7
  · rw [if_neg h1, if_neg h2, if_pos h7] at h
    subst h7
    match k, h with
    | [], h => cases h
    | [⟨xop, xnm, xn, xk⟩], h =>
      have h : (if xop = 1 then some ((3 : Int), xn) else none) = some (t, x) := h
      by_cases hx : xop = 1
      · rw [if_pos hx] at h
        injection h with h
        injection h with e1 e2
        subst e1; subst e2; subst hx
        exact .inr (.inr ⟨nm, n, xnm, xk, rfl, rfl⟩)
      · rw [if_neg hx] at h; cases h
    | _ :: _ :: _, h => cases h
  · rw [if_neg h1, if_neg h2, if_neg h7] at h; cases h
/-- the value of a constant that is accepted: its type, its bounds -/
theorem cv_ok {c : Bool} {a : api_Expr} {t x : Int} (h : cvO a = some (t, x)) (hc : chkE c a = 0) : (t = 1 ∨ t = 2 ∨ t = 3) ∧ inZ x = true ∧ (t = 2 → x = 0 ∨ x = 1) := by
  rcases cv_cases h with ⟨nm, k, rfl, rfl⟩ | ⟨nm, k, rfl, rfl⟩ | ⟨nm, n, nm', k, rfl, rfl⟩
  · exact ⟨.inl rfl, nodeE_int (chk_node hc).1, fun h => by omega⟩
  · have := nodeE_bool (chk_node hc).1
    exact ⟨.inr (.inl rfl), (inZ_iff _).2 (by omega), fun _ => this⟩
  · have hx := chkL_mem (chk_node hc).2 (.mk 1 nm' x k) (by simp)
    exact ⟨.inr (.inr rfl), nodeE_int (chk_node hx).1, fun h => by omega⟩
theorem divZ_in (a b : Int) : -1000000000000 ≤ divZ a b ∧ divZ a b ≤ 1000000000000 ∧ (clipZ b ≠ 0 → (-1000000000000 ≤ modZ a b ∧ modZ a b ≤ 1000000000000)) := by
  obtain ⟨a1, a2⟩ := clipZ_in a
  obtain ⟨b1, b2⟩ := clipZ_in b
  unfold modZ divZ
  generalize clipZ a = x at *
  generalize clipZ b = y at *
  by_cases h0 : y = 0
  · rw [if_pos h0]; exact ⟨by omega, by omega, fun h => absurd h0 h⟩
  rw [if_neg h0]
  have e := Int.tmod_add_mul_tdiv x y
  have hlt : (Int.tmod x y).natAbs < y.natAbs := by
    rw [Int.natAbs_tmod]; exact Nat.mod_lt _ (by omega)
  have hq : (Int.tdiv x y).natAbs ≤ x.natAbs := by
    rw [Int.natAbs_tdiv]; exact Nat.div_le_self _ _
  have hs : 0 ≤ x → 0 ≤ Int.tmod x y := fun h => Int.tmod_nonneg y h
  have hs2 : x ≤ 0 → Int.tmod x y ≤ 0 := fun h => by
    have := Int.tmod_nonneg (-y) (show 0 ≤ -x by omega)
    rw [Int.neg_tmod, Int.tmod_neg] at this
    omega
  have hm : y * (Int.tdiv x y - 1) = y * Int.tdiv x y - y := by rw [Int.mul_sub, Int.mul_one]
  have hz : 0 ≤ x → 0 < y → 0 ≤ Int.tdiv x y := fun h1 h2 => Int.tdiv_nonneg h1 (by omega)
  have hz2 : x ≤ 0 → y < 0 → 0 ≤ Int.tdiv x y := fun h1 h2 => by
    have := Int.tdiv_nonneg (show 0 ≤ -x by omega) (show 0 ≤ -y by omega)
    rwa [Int.neg_tdiv, Int.tdiv_neg, Int.neg_neg] at this
  split
  · rename_i h
    obtain ⟨h1, h2⟩ := h
    rw [hm]
    by_cases p : x < 0 <;> by_cases q : y < 0
    · simp [p, q] at h2
    · refine ⟨?_, by omega, fun _ => by omega⟩
      rcases Nat.lt_or_ge (Int.tdiv x y).natAbs x.natAbs with h3 | h3
      · omega
      · by_cases y1 : y = 1
        · subst y1; rw [Int.tmod_one] at h1; exact absurd rfl h1
        · have h4 : (Int.tdiv x y).natAbs * 2 ≤ x.natAbs := by
            rw [Int.natAbs_tdiv]
            have : x.natAbs / y.natAbs ≤ x.natAbs / 2 := Nat.div_le_div_left (by omega) (by omega)
            exact Nat.le_trans (Nat.mul_le_mul_right 2 this) (Nat.div_mul_le_self _ 2)
          omega
    · refine ⟨?_, by omega, fun _ => by omega⟩
      by_cases y1 : y = -1
      · subst y1
        rw [show (-1 : Int) = -(1) from rfl, Int.tmod_neg, Int.tmod_one] at h1
        exact absurd rfl h1
      · have h4 : (Int.tdiv x y).natAbs * 2 ≤ x.natAbs := by
          rw [Int.natAbs_tdiv]
          have : x.natAbs / y.natAbs ≤ x.natAbs / 2 := Nat.div_le_div_left (by omega) (by omega)
          exact Nat.le_trans (Nat.mul_le_mul_right 2 this) (Nat.div_mul_le_self _ 2)
        omega
    · simp [p, q] at h2
  · rename_i h
    refine ⟨by omega, by omega, fun _ => by omega⟩
theorem modZ_in (a b : Int) : -1000000000000 ≤ modZ a b ∧ modZ a b ≤ 1000000000000 := by
  by_cases h : clipZ b = 0
  · obtain ⟨a1, a2⟩ := clipZ_in a
    unfold modZ
    rw [h, Int.zero_mul, Int.sub_zero]; exact ⟨a1, a2⟩
  · exact (divZ_in a b).2.2 h
theorem b01_in (b : Bool) : b01 b = 0 ∨ b01 b = 1 := by cases b <;> simp [b01]
theorem unV_in {op t x : Int} (hx : inZ x = true) (h : unT op t ≠ 0) : inZ (unV op x) = true ∧ (unT op t = 2 → unV op x = 0 ∨ unV op x = 1) := by
  have h1 := clipZ_in x
  have h2 := b01_in (x == 0)
  rw [inZ_iff] at hx ⊢
  unfold unT meas at *
  unfold unV
  by_cases e5 : op = 5
  · subst e5; simp only [if_true]; refine ⟨by omega, fun h => ?_⟩; simp at h; grind
  by_cases e6 : op = 6
  · subst e6; simp; omega
  by_cases e7 : op = 7 ∨ op = 8
  · rw [if_neg e5, if_neg e6, if_pos e7]; exact ⟨hx, fun h => by exfalso; grind⟩
  · exfalso; grind
theorem binV_in {op t u x y : Int} (hx : inZ x = true) (hy : inZ y = true) (h : binT op t u ≠ 0) : inZ (binV op x y) = true ∧ (binT op t u = 2 → binV op x y = 0 ∨ binV op x y = 1) := by
  have a1 := clipZ_in (clipZ x + clipZ y)
  have a2 := clipZ_in (clipZ x + clipZ (-clipZ y))
  have a3 := clipZ_in (clipZ x * clipZ y)
  have a4 := divZ_in x y
  have a5 := modZ_in x y
  have a6 := b01_in (holdsZ op x y)
  rw [inZ_iff] at hx hy ⊢
  unfold binV addZ mulZ
  have hT : (op = 9 ∨ op = 10 ∨ op = 11 ∨ op = 12 ∨ op = 13 ∨ op = 20 ∨ op = 21) → binT op t u ≠ 2 := by unfold binT meas; grind
  by_cases e : op = 9 ∨ op = 10 ∨ op = 11 ∨ op = 12 ∨ op = 13 ∨ op = 20 ∨ op = 21
  · refine ⟨?_, fun h => absurd h (hT e)⟩
    rcases e with rfl | rfl | rfl | rfl | rfl | rfl | rfl
    · simpa using a1
    · simpa using a2
    · simpa using a3
    · simpa using ⟨a4.1, a4.2.1⟩
    · simpa using a5
    · simp; split <;> omega
    · simp; split <;> omega
  · rw [if_neg (by omega), if_neg (by omega), if_neg (by omega), if_neg (by omega), if_neg (by omega), if_neg (by omega), if_neg (by omega)]
    exact ⟨by omega, fun _ => a6⟩
theorem chk_cst (c : Bool) {t n : Int} (h : t = 1 ∨ t = 2 ∨ t = 3) (hn : inZ n = true) : chkE c (cstE t n) = 0 := by
  have h0 : ∀ m : Int, inZ m = true → nodeE c (.mk 1 eS m []) = 0 := fun m hm => by
    unfold nodeE
    have : badForm c (.mk 1 eS m []) = false := by cases c <;> rfl
    rw [this]
    simp [hm, api_Expr.cp_eq, api_Expr.Op, api_Expr.Name, api_Expr.N, api_Expr.Kids, api_Expr.eta]
  rcases h with rfl | rfl | rfl
  · show chkE c (.mk 1 eS n []) = 0
    rw [chkE, h0 n hn]; rfl
  · show chkE c (.mk 2 eS (if n = 0 then 0 else 1) []) = 0
    have : nodeE c (.mk 2 eS (if n = 0 then 0 else 1) []) = 0 := by by_cases h : n = 0 <;> simp only [h, if_true, if_false] <;> cases c <;> decide
    rw [chkE, this]; rfl
  · show chkE c (.mk 7 eS 0 [.mk 1 eS n []]) = 0
    have : nodeE c (.mk 7 eS 0 [.mk 1 eS n []]) = 0 := by
      unfold nodeE
      have : badForm c (.mk 7 eS 0 [.mk 1 eS n []]) = false := by cases c <;> rfl
      rw [this]
      cases c <;> rfl
    rw [chkE, this, chkL, chkE, h0 n hn]; rfl
theorem nodeE_len {c : Bool} {op : Int} {nm : ByteArray} {n : Int} {k k' : List api_Expr} (h : k.length = k'.length) : nodeE c (.mk op nm n k) = nodeE c (.mk op nm n k') := by
  have e : badForm c (.mk op nm n k) = badForm c (.mk op nm n k') := by
    show (!knownOp c op || decide ((k.length : Int) ≠ arity op) || (!decide (nm = ⟨#[]⟩) && !namedOp c op)) = (!knownOp c op || decide ((k'.length : Int) ≠ arity op) || (!decide (nm = ⟨#[]⟩) && !namedOp c op))
    rw [h]
  rw [nodeE_mk, nodeE_mk, e]
mutual
theorem chk_fold (c : Bool) : ∀ e : api_Expr, chkE c e = 0 → chkE c (foldE e) = 0
  | .mk op nm n k, h => by
    obtain ⟨h1, h2⟩ := chk_node h
    have h3 := chkL_fold c k h2
    rw [foldE]
    rcases nodeF_or op nm n (foldL k) with h | ⟨_, a, t, x, e, e1, h5, h6⟩ | ⟨_, a, b, t, u, x, y, e, e1, e2, h5, h6⟩
    · rw [h, chkE, nodeE_len (foldL_len k), h1, h3]; rfl
    · rw [h6]
      have hx := cv_ok e1 (chkL_mem h3 a (by rw [e]; simp))
      exact chk_cst c ((unT_123 op t).resolve_left h5) (unV_in hx.2.1 h5).1
    · rw [h6]
      have hx := cv_ok e1 (chkL_mem h3 a (by rw [e]; simp))
      have hy := cv_ok e2 (chkL_mem h3 b (by rw [e]; simp))
      exact chk_cst c ((binT_123 op t u).resolve_left h5) (binV_in hx.2.1 hy.2.1 h5).1
theorem chkL_fold (c : Bool) : ∀ k : List api_Expr, chkL c k = 0 → chkL c (foldL k) = 0
  | [], _ => by rw [foldL, chkL]
  | x :: k, h => by
    rw [chkL] at h
    split at h
    · rename_i h1; exact absurd h h1
    · rename_i h1
      rw [foldL, chkL, chk_fold c x (Decidable.not_not.1 h1), chkL_fold c k h]; rfl
end
theorem nE_pos : ∀ e : api_Expr, 1 ≤ nE e
  | .mk op nm n k => by rw [nE]; omega
theorem dE_pos : ∀ e : api_Expr, 1 ≤ dE e
  | .mk op nm n k => by rw [dE]; omega
theorem cst_size {t n : Int} (h : t = 1 ∨ t = 2 ∨ t = 3) : nE (cstE t n) ≤ 2 ∧ dE (cstE t n) ≤ 2 ∧ (t ≠ 3 → nE (cstE t n) = 1 ∧ dE (cstE t n) = 1) := by
  rcases h with rfl | rfl | rfl
  · exact ⟨by show nE (.mk 1 eS n []) ≤ 2; simp [nE, nEs], by show dE (.mk 1 eS n []) ≤ 2; simp [dE, dEs], fun _ => ⟨by show nE (.mk 1 eS n []) = 1; simp [nE, nEs], by show dE (.mk 1 eS n []) = 1; simp [dE, dEs]⟩⟩
  · exact ⟨by show nE (.mk 2 eS _ []) ≤ 2; simp [nE, nEs], by show dE (.mk 2 eS _ []) ≤ 2; simp [dE, dEs], fun _ => ⟨by show nE (.mk 2 eS _ []) = 1; simp [nE, nEs], by show dE (.mk 2 eS _ []) = 1; simp [dE, dEs]⟩⟩
  · exact ⟨by show nE (.mk 7 eS 0 [.mk 1 eS n []]) ≤ 2; simp [nE, nEs], by show dE (.mk 7 eS 0 [.mk 1 eS n []]) ≤ 2; simp [dE, dEs], fun h => absurd rfl h⟩
mutual
theorem fold_size : ∀ e : api_Expr, nE (foldE e) ≤ nE e ∧ dE (foldE e) ≤ dE e
  | .mk op nm n k => by
    obtain ⟨h1, h2⟩ := foldL_size k
    rw [foldE]
    rcases nodeF_or op nm n (foldL k) with h | ⟨_, a, t, x, e, e1, h5, h6⟩ | ⟨_, a, b, t, u, x, y, e, e1, e2, h5, h6⟩
    · rw [h, nE, dE, nE, dE]; omega
    · rw [h6]
      have hk : k ≠ [] := fun hk => by rw [hk] at e; cases e
      have := cst_size (n := unV op x) ((unT_123 op t).resolve_left h5)
      rw [nE, dE]
      match k, hk with
      | z :: r, _ =>
        have := nE_pos z; have := dE_pos z
        rw [nEs, dEs]; omega
    · rw [h6]
      have hk : k ≠ [] := fun hk => by rw [hk] at e; cases e
      have := cst_size (n := binV op x y) ((binT_123 op t u).resolve_left h5)
      rw [nE, dE]
      match k, hk with
      | z :: r, _ =>
        have := nE_pos z; have := dE_pos z
        rw [nEs, dEs]; omega
theorem foldL_size : ∀ k : List api_Expr, nEs (foldL k) ≤ nEs k ∧ dEs (foldL k) ≤ dEs k
  | [] => by rw [foldL]; exact ⟨Nat.le_refl _, Nat.le_refl _⟩
  | x :: k => by
    obtain ⟨h1, h2⟩ := fold_size x
    obtain ⟨h3, h4⟩ := foldL_size k
    rw [foldL, nEs, nEs, dEs, dEs]; omega
end
end Go.Proofs.YtonfmpiikdmndaaGreat.Ev
