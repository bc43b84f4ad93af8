/-  Chapters 11 and 14, plainly: kinds in the reference; types of expressions. -/
import Derived.Test.YtonfmpiikdmndaaGreatPe
namespace Go.Proofs.YtonfmpiikdmndaaGreat.Ev
open Go
set_option maxRecDepth 100000
set_option linter.unusedVariables false
set_option linter.unusedSimpArgs false
set_option linter.unnecessarySimpa false
/-- the type of the last local with a name -/
def locO (l : List api_Field) (s : ByteArray) : Option Int := (l.reverse.find? fun f => decide (f.Name = s)).map (·.Type_)
def valO (l : List api_Value) (s : ByteArray) : Option Int := (l.find? fun x => decide (x.Name = s)).map (·.Type_)
def o2 : Option Int → Int × Bool
  | some t => (t, true)
  | none => (0, false)
/-- the type of a name -/
def findT (v : api_Env) (s : ByteArray) : Option Int := match locO v.Locals s with
  | some t => some t
  | none => match valO v.Site.Vars s with
    | some t => some t
    | none => valO v.Params s
theorem lp_typing_local (L : Nat) (l : List api_Field) (s : ByteArray) (hl : l.length ≤ maxLen) : ∀ (j n : Nat), j ≤ l.length → j < n →
    ∃ i, lp_typing_local_1 L l s n 0 false ((j : Int) - 1) = some (match (l.take j).reverse.find? (fun f => decide (f.Name = s)) with | some f => (0, (f.Type_, true, i)) | none => (1, (0, false, i))) := by
  intro j
  induction j with
  | zero =>
    intro n _ hn
    obtain ⟨n, rfl⟩ : ∃ k, n = k + 1 := ⟨n - 1, by omega⟩
    exact ⟨_, by simp only [lp_typing_local_1, lb_typing_local_1, anO_cn, anO_lf]; rfl⟩
  | succ j ih =>
    intro n hj hn
    obtain ⟨n, rfl⟩ : ∃ k, n = k + 1 := ⟨n - 1, by omega⟩
    have hlt : j < l.length := by omega
    have e0 : ((j + 1 : Nat) : Int) - 1 = (j : Int) := by omega
    have e1 : decide ((j : Int) ≥ 0) = true := decide_eq_true (by omega)
    have et : (l.take (j + 1)).reverse = l.getD j default :: (l.take j).reverse := by
      rw [List.take_succ_eq_append_getElem hlt, List.reverse_append, getD_eq l j hlt]; rfl
    obtain ⟨i, hi⟩ := ih n (by omega) (by omega)
    rw [et]
    rw [List.find?_cons]
    cases hb : decide ((l.getD j default).Name = s) with
    | true => exact ⟨(j : Int), by simp only [lp_typing_local_1, lb_typing_local_1, anO_cn, anO_gd, anO_lf, str_eq, e0, e1, nn, ltI hlt, toN, hb, cond_true, if_true, decide_true]⟩
    | false => exact ⟨i, by simp only [lp_typing_local_1, lb_typing_local_1, anO_cn, anO_gd, anO_lf, str_eq, e0, e1, nn, ltI hlt, toN, hb, cond_true, cond_false, if_true, decide_true, w64_pred (show j ≤ maxLen by omega), hi]⟩
theorem ok_typing_local (L : Nat) (l : List api_Field) (s : ByteArray) (hl : l.length ≤ maxLen) (hL : l.length < L) : F_typing_local L l s = some (o2 (locO l s)) := by
  obtain ⟨i, hi⟩ := lp_typing_local L l s hl l.length L (Nat.le_refl _) hL
  rw [List.take_length] at hi
  simp only [T_typing_local, F_typing_local, anO_bd, anO_sl, anO_lf, w64_pred hl, hi, locO]
  cases l.reverse.find? (fun f => decide (f.Name = s)) <;> rfl
theorem q_typing_Find_1 (L : Nat) (s : ByteArray) (v0 : api_Env) : ∀ (k : List api_Value) (i : Nat) (v : Int) (w : Bool), ∃ j, lq_typing_Find_1 L s v0 k i v w = some (match k.find? (fun x => decide (x.Name = s)) with | some x => (0, (x.Type_, true, j)) | none => (1, (v, w, j))) := by
  intro k
  induction k with
  | nil => intro i v w; exact ⟨i, rfl⟩
  | cons x k ih =>
    intro i v w
    obtain ⟨j, hj⟩ := ih (i + 1) v w
    rw [lq_typing_Find_1, List.find?_cons, str_eq]
    cases decide (x.Name = s) with
    | true => exact ⟨i, rfl⟩
    | false => exact ⟨j, hj⟩
theorem q_typing_Find_2 (L : Nat) (s : ByteArray) (v0 : api_Env) : ∀ (k : List api_Value) (i : Nat) (v : Int) (w : Bool), ∃ j, lq_typing_Find_2 L s v0 k i v w = some (match k.find? (fun x => decide (x.Name = s)) with | some x => (0, (x.Type_, true, j)) | none => (1, (v, w, j))) := by
  intro k
  induction k with
  | nil => intro i v w; exact ⟨i, rfl⟩
  | cons x k ih =>
    intro i v w
    obtain ⟨j, hj⟩ := ih (i + 1) v w
    rw [lq_typing_Find_2, List.find?_cons, str_eq]
    cases decide (x.Name = s) with
    | true => exact ⟨i, rfl⟩
    | false => exact ⟨j, hj⟩
theorem ok_typing_Find (L : Nat) (v : api_Env) (s : ByteArray) (h : Ok_api_Env v) (hL : maxLen < L) : F_typing_Find L v s = some (o2 (findT v s)) := by
  obtain ⟨⟨h1, _⟩, ⟨h2, _⟩, h3⟩ := h
  have h4 := h3.len.1
  obtain ⟨j1, e1⟩ := q_typing_Find_1 L s v v.Site.Vars 0 0 false
  obtain ⟨j2, e2⟩ := q_typing_Find_2 L s v v.Params 0 0 false
  simp only [T_typing_Find, F_typing_Find, anO_bd, anO_fl, anO_cn, anO_gd, anO_fk, anO_sl, anO_lf, anO_jb, anO_jp, anO_ap, anO_nj, ok_typing_local L _ s h2 (by omega), lq0_typing_Find_1 L s v L h4 (by omega), lq0_typing_Find_2 L s v L h1 (by omega), e1, Option.bind_some, findT, valO]
  cases locO v.Locals s with
  | some t => rfl
  | none =>
    simp only [o2, cond_false]
    cases v.Site.Vars.find? (fun x => decide (x.Name = s)) with
    | some t => rfl
    | none =>
      simp only [sel1, e2, Option.bind_some, Option.map_none]
      cases v.Params.find? (fun x => decide (x.Name = s)) <;> rfl
def meas (t : Int) : Bool := t == 1 || t == 3
def unT (op a : Int) : Int := if (op = 5 ∧ meas a = true) ∨ (op = 6 ∧ a = 2) then a else if op = 7 ∧ a = 1 then 3 else if op = 8 ∧ a = 3 then 1 else 0
def binT (op a b : Int) : Int :=
  if op = 9 ∨ op = 10 ∨ op = 13 ∨ op = 20 ∨ op = 21 then (if a = b ∧ meas a = true then a else 0)
  else if op = 11 then (if a = 1 ∧ b = 1 then 1 else if meas a = true ∧ meas b = true ∧ a ≠ b then 3 else 0)
  else if op = 12 then (if (a = 1 ∧ b = 1) ∨ (a = 3 ∧ b = 3) then 1 else if a = 3 ∧ b = 1 then 3 else 0)
  else if op = 14 ∨ op = 15 then (if a = b then 2 else 0)
  else if op = 16 ∨ op = 17 then (if a = b ∧ meas a = true then 2 else 0)
  else if op = 18 ∨ op = 19 then (if a = 2 ∧ b = 2 then 2 else 0)
  else 0
def objK (op : Int) (k : ByteArray) : Bool := if op = 22 then decide (k = kw_resource) else if op = 23 then decide (k = kw_store) else decide (k = kw_resource) || decide (k = kw_queue)
theorem ok_typing_measures (L : Nat) (t : Int) : F_typing_measures L t = some (meas t) := by
  simp only [T_typing_measures, F_typing_measures, anO_bd, anO_fl, anO_cn, anO_gd, anO_fk, anO_sl, anO_lf, anO_jb, anO_jp, anO_ap, anO_nj, bor_c, meas]
theorem ok_typing_unary (L : Nat) (op a : Int) : F_typing_unary L op a = some (unT op a) := by
  simp only [T_typing_unary, F_typing_unary, anO_bd, anO_fl, anO_cn, anO_gd, anO_fk, anO_sl, anO_lf, anO_jb, anO_jp, anO_ap, anO_nj, ok_typing_measures, Option.bind_some, cond_ss, band_c, bor_c, unT]
  congr 1
  by_cases h5 : op = 5
  · subst h5; cases meas a <;> simp
  by_cases h6 : op = 6
  · subst h6; by_cases h : a = 2 <;> first | (simp [h]; done) | (simp [h, beq_false_of_ne h]; done)
  by_cases h7 : op = 7
  · subst h7; by_cases h : a = 1 <;> first | (simp [h]; done) | (simp [h, beq_false_of_ne h]; done)
  by_cases h8 : op = 8
  · subst h8; by_cases h : a = 3 <;> first | (simp [h]; done) | (simp [h, beq_false_of_ne h]; done)
  have b5 : (op == 5) = false := beq_false_of_ne h5
  have b6 : (op == 6) = false := beq_false_of_ne h6
  have b7 : (op == 7) = false := beq_false_of_ne h7
  have b8 : (op == 8) = false := beq_false_of_ne h8
  simp [h5, h6, h7, h8, b5, b6, b7, b8]
theorem ok_typing_binary (L : Nat) (op a b : Int) : F_typing_binary L op a b = some (binT op a b) := by
  simp only [tx_typing_binary_2, tx_typing_binary_5, sx_typing_binary_4, tx_typing_binary_4, sx_typing_binary_3, tx_typing_binary_3, sx_typing_binary_1, tx_typing_binary_1, sx_typing_binary_0, T_typing_binary, F_typing_binary, anO_bd, anO_fl, anO_cn, anO_gd, anO_fk, anO_sl, anO_lf, anO_jb, anO_jp, anO_ap, anO_nj, ok_typing_measures, Option.bind_some, cond_ss, band_c, bor_c, binT, meas]
  congr 1
  rcases opCases op with rfl | rfl | rfl | rfl | rfl | rfl | rfl | rfl | rfl | rfl | rfl | rfl | rfl | rfl | rfl | rfl | rfl | rfl | rfl | rfl | rfl | rfl | rfl | rfl | rfl | rfl | hop | hop
  all_goals first | (simp; done) | (simp; grind) | grind
theorem ok_typing_object (L : Nat) (op : Int) (k : ByteArray) : F_typing_object L op k = some (objK op k) := by
  simp only [T_typing_object, F_typing_object, anO_bd, anO_fl, anO_cn, anO_gd, anO_fk, anO_sl, anO_lf, anO_jb, anO_jp, anO_ap, anO_nj, str_eq, bor_c, cond_ss, objK, kw_resource, kw_store, kw_queue]
  congr 1
  by_cases h : op = 22
  · subst h; rfl
  by_cases h' : op = 23
  · subst h'; rfl
  have b : (op == 22) = false := beq_false_of_ne h
  have b' : (op == 23) = false := beq_false_of_ne h'
  simp only [h, h', b, b', cond_false, if_false]
  rfl
end Go.Proofs.YtonfmpiikdmndaaGreat.Ev
