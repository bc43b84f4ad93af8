/-  Chapter 11, plainly: the kind of a name. -/
import Derived.Test.YtonfmpiikdmndaaGreatQ1
import Derived.Test.YtonfmpiikdmndaaGreatPd
namespace Go.Proofs.YtonfmpiikdmndaaGreat.Ev
open Go
set_option maxRecDepth 100000
set_option linter.unusedVariables false
set_option linter.unusedSimpArgs false
set_option linter.unnecessarySimpa false
def kw_var : ByteArray := ⟨#[118, 97, 114]⟩
def kw_resource : ByteArray := ⟨#[114, 101, 115, 111, 117, 114, 99, 101]⟩
def kw_store : ByteArray := ⟨#[115, 116, 111, 114, 101]⟩
def kw_belt : ByteArray := ⟨#[98, 101, 108, 116]⟩
def kw_queue : ByteArray := ⟨#[113, 117, 101, 117, 101]⟩
def kw_stream : ByteArray := ⟨#[115, 116, 114, 101, 97, 109]⟩
def kw_tally : ByteArray := ⟨#[116, 97, 108, 108, 121]⟩
def kw_level : ByteArray := ⟨#[108, 101, 118, 101, 108]⟩
def kw_count : ByteArray := ⟨#[99, 111, 117, 110, 116]⟩
def kw_routine : ByteArray := ⟨#[114, 111, 117, 116, 105, 110, 101]⟩
theorem q_model_place_1 (L : Nat) (l : List api_Value) (s : api_SiteDecl) (n : ByteArray) : ∀ (k : List api_Value) (i : Nat) (v : Int), lq_model_place_1 L l s n k i v = some (match k.findIdx? (fun x => x.Name.toList == n.toList) with | some j => (0, (((i + j : Nat) : Int), ((i + j : Nat) : Int))) | none => (1, (v, ((i + k.length : Nat) : Int)))) := by
  intro k
  induction k with
  | nil => intro i v; rfl
  | cons x k ih =>
    intro i v
    rw [lq_model_place_1, ih, List.findIdx?_cons]
    cases hc : (fun x => x.Name.toList == n.toList) x with
    | true => simp only [hc, cond_true, if_true]; rfl
    | false =>
      simp only [hc, cond_false, if_false, Bool.false_eq_true]
      cases k.findIdx? (fun x => x.Name.toList == n.toList) with
      | some j => simp [Nat.add_assoc, Nat.add_comm 1]
      | none => simp [Nat.add_assoc, Nat.add_comm 1]
theorem ok_ic_model_place_1 (L : Nat) (l : List api_Value) (s : api_SiteDecl) (n : ByteArray) (hl : l.length ≤ maxLen) (hL : l.length < L) : ic_model_place_1 L l s n = some (idxI (l.findIdx? (fun x => decide (x.Name = n)))) := by
  simp only [ic_model_place_1, ib_model_place_1, anO_bd, anO_fl, anO_cn, anO_gd, anO_fk, anO_sl, anO_lf, anO_jb, anO_jp, anO_ap, anO_nj, lq0_model_place_1 _ _ _ _ _ hl hL, q_model_place_1, str_eq, Option.bind_some]
  cases l.findIdx? (fun x => decide (x.Name = n)) with
  | none => rfl
  | some i => simp [idxI, sel0]
theorem q_model_place_2 (L : Nat) (l : List api_ResourceDecl) (s : api_SiteDecl) (n : ByteArray) : ∀ (k : List api_ResourceDecl) (i : Nat) (v : Int), lq_model_place_2 L l s n k i v = some (match k.findIdx? (fun x => x.Name.toList == n.toList) with | some j => (0, (((i + j : Nat) : Int), ((i + j : Nat) : Int))) | none => (1, (v, ((i + k.length : Nat) : Int)))) := by
  intro k
  induction k with
  | nil => intro i v; rfl
  | cons x k ih =>
    intro i v
    rw [lq_model_place_2, ih, List.findIdx?_cons]
    cases hc : (fun x => x.Name.toList == n.toList) x with
    | true => simp only [hc, cond_true, if_true]; rfl
    | false =>
      simp only [hc, cond_false, if_false, Bool.false_eq_true]
      cases k.findIdx? (fun x => x.Name.toList == n.toList) with
      | some j => simp [Nat.add_assoc, Nat.add_comm 1]
      | none => simp [Nat.add_assoc, Nat.add_comm 1]
theorem ok_ic_model_place_2 (L : Nat) (l : List api_ResourceDecl) (s : api_SiteDecl) (n : ByteArray) (hl : l.length ≤ maxLen) (hL : l.length < L) : ic_model_place_2 L l s n = some (idxI (l.findIdx? (fun x => decide (x.Name = n)))) := by
  simp only [ic_model_place_2, ib_model_place_2, anO_bd, anO_fl, anO_cn, anO_gd, anO_fk, anO_sl, anO_lf, anO_jb, anO_jp, anO_ap, anO_nj, lq0_model_place_2 _ _ _ _ _ hl hL, q_model_place_2, str_eq, Option.bind_some]
  cases l.findIdx? (fun x => decide (x.Name = n)) with
  | none => rfl
  | some i => simp [idxI, sel0]
theorem q_model_place_3 (L : Nat) (l : List api_StoreDecl) (s : api_SiteDecl) (n : ByteArray) : ∀ (k : List api_StoreDecl) (i : Nat) (v : Int), lq_model_place_3 L l s n k i v = some (match k.findIdx? (fun x => x.Name.toList == n.toList) with | some j => (0, (((i + j : Nat) : Int), ((i + j : Nat) : Int))) | none => (1, (v, ((i + k.length : Nat) : Int)))) := by
  intro k
  induction k with
  | nil => intro i v; rfl
  | cons x k ih =>
    intro i v
    rw [lq_model_place_3, ih, List.findIdx?_cons]
    cases hc : (fun x => x.Name.toList == n.toList) x with
    | true => simp only [hc, cond_true, if_true]; rfl
    | false =>
      simp only [hc, cond_false, if_false, Bool.false_eq_true]
      cases k.findIdx? (fun x => x.Name.toList == n.toList) with
      | some j => simp [Nat.add_assoc, Nat.add_comm 1]
      | none => simp [Nat.add_assoc, Nat.add_comm 1]
theorem ok_ic_model_place_3 (L : Nat) (l : List api_StoreDecl) (s : api_SiteDecl) (n : ByteArray) (hl : l.length ≤ maxLen) (hL : l.length < L) : ic_model_place_3 L l s n = some (idxI (l.findIdx? (fun x => decide (x.Name = n)))) := by
  simp only [ic_model_place_3, ib_model_place_3, anO_bd, anO_fl, anO_cn, anO_gd, anO_fk, anO_sl, anO_lf, anO_jb, anO_jp, anO_ap, anO_nj, lq0_model_place_3 _ _ _ _ _ hl hL, q_model_place_3, str_eq, Option.bind_some]
  cases l.findIdx? (fun x => decide (x.Name = n)) with
  | none => rfl
  | some i => simp [idxI, sel0]
theorem q_model_place_4 (L : Nat) (l : List api_BeltDecl) (s : api_SiteDecl) (n : ByteArray) : ∀ (k : List api_BeltDecl) (i : Nat) (v : Int), lq_model_place_4 L l s n k i v = some (match k.findIdx? (fun x => x.Name.toList == n.toList) with | some j => (0, (((i + j : Nat) : Int), ((i + j : Nat) : Int))) | none => (1, (v, ((i + k.length : Nat) : Int)))) := by
  intro k
  induction k with
  | nil => intro i v; rfl
  | cons x k ih =>
    intro i v
    rw [lq_model_place_4, ih, List.findIdx?_cons]
    cases hc : (fun x => x.Name.toList == n.toList) x with
    | true => simp only [hc, cond_true, if_true]; rfl
    | false =>
      simp only [hc, cond_false, if_false, Bool.false_eq_true]
      cases k.findIdx? (fun x => x.Name.toList == n.toList) with
      | some j => simp [Nat.add_assoc, Nat.add_comm 1]
      | none => simp [Nat.add_assoc, Nat.add_comm 1]
theorem ok_ic_model_place_4 (L : Nat) (l : List api_BeltDecl) (s : api_SiteDecl) (n : ByteArray) (hl : l.length ≤ maxLen) (hL : l.length < L) : ic_model_place_4 L l s n = some (idxI (l.findIdx? (fun x => decide (x.Name = n)))) := by
  simp only [ic_model_place_4, ib_model_place_4, anO_bd, anO_fl, anO_cn, anO_gd, anO_fk, anO_sl, anO_lf, anO_jb, anO_jp, anO_ap, anO_nj, lq0_model_place_4 _ _ _ _ _ hl hL, q_model_place_4, str_eq, Option.bind_some]
  cases l.findIdx? (fun x => decide (x.Name = n)) with
  | none => rfl
  | some i => simp [idxI, sel0]
theorem q_model_Routine_1 (L : Nat) (l : List api_Routine) (s : api_SiteDecl) (n : ByteArray) : ∀ (k : List api_Routine) (i : Nat) (v : Int), lq_model_Routine_1 L l s n k i v = some (match k.findIdx? (fun x => x.Name.toList == n.toList) with | some j => (0, (((i + j : Nat) : Int), ((i + j : Nat) : Int))) | none => (1, (v, ((i + k.length : Nat) : Int)))) := by
  intro k
  induction k with
  | nil => intro i v; rfl
  | cons x k ih =>
    intro i v
    rw [lq_model_Routine_1, ih, List.findIdx?_cons]
    cases hc : (fun x => x.Name.toList == n.toList) x with
    | true => simp only [hc, cond_true, if_true]; rfl
    | false =>
      simp only [hc, cond_false, if_false, Bool.false_eq_true]
      cases k.findIdx? (fun x => x.Name.toList == n.toList) with
      | some j => simp [Nat.add_assoc, Nat.add_comm 1]
      | none => simp [Nat.add_assoc, Nat.add_comm 1]
theorem ok_ic_model_Routine_1 (L : Nat) (l : List api_Routine) (s : api_SiteDecl) (n : ByteArray) (hl : l.length ≤ maxLen) (hL : l.length < L) : ic_model_Routine_1 L l s n = some (idxI (l.findIdx? (fun x => decide (x.Name = n)))) := by
  simp only [ic_model_Routine_1, ib_model_Routine_1, anO_bd, anO_fl, anO_cn, anO_gd, anO_fk, anO_sl, anO_lf, anO_jb, anO_jp, anO_ap, anO_nj, lq0_model_Routine_1 _ _ _ _ _ hl hL, q_model_Routine_1, str_eq, Option.bind_some]
  cases l.findIdx? (fun x => decide (x.Name = n)) with
  | none => rfl
  | some i => simp [idxI, sel0]
theorem q_slices_Index_string_1 (L : Nat) (l : List ByteArray) (n : ByteArray) : ∀ (k : List ByteArray) (i : Nat) (v : Int), lq_slices_Index_string_1 L l n k i v = some (match k.findIdx? (fun x => n.toList == x.toList) with | some j => (0, (((i + j : Nat) : Int), ((i + j : Nat) : Int))) | none => (1, (v, ((i + k.length : Nat) : Int)))) := by
  intro k
  induction k with
  | nil => intro i v; rfl
  | cons x k ih =>
    intro i v
    rw [lq_slices_Index_string_1, ih, List.findIdx?_cons]
    cases hc : (fun x => n.toList == x.toList) x with
    | true => simp only [hc, cond_true, if_true]; rfl
    | false =>
      simp only [hc, cond_false, if_false, Bool.false_eq_true]
      cases k.findIdx? (fun x => n.toList == x.toList) with
      | some j => simp [Nat.add_assoc, Nat.add_comm 1]
      | none => simp [Nat.add_assoc, Nat.add_comm 1]
theorem ok_slices_Index_string (L : Nat) (l : List ByteArray) (n : ByteArray) (hl : l.length ≤ maxLen) (hL : l.length < L) : F_slices_Index_string L l n = some (idxI (l.findIdx? (fun x => decide (n = x)))) := by
  simp only [F_slices_Index_string, T_slices_Index_string, anO_bd, anO_fl, anO_cn, anO_gd, anO_fk, anO_sl, anO_lf, anO_jb, anO_jp, anO_ap, anO_nj, lq0_slices_Index_string_1 _ _ _ _ hl hL, q_slices_Index_string_1, str_eq, Option.bind_some]
  cases l.findIdx? (fun x => decide (n = x)) with
  | none => rfl
  | some i => simp [idxI, sel0]
/-- the place of a routine, or -1 -/
def routineI (s : api_SiteDecl) (n : ByteArray) : Int := idxI (s.Routines.findIdx? fun x => decide (x.Name = n))
theorem ok_model_Routine (L : Nat) (s : api_SiteDecl) (n : ByteArray) (hl : s.Routines.length ≤ maxLen) (hL : s.Routines.length < L) : F_model_Routine L s n = some (routineI s n) := by
  simp only [T_model_Routine, F_model_Routine, anO_bd, anO_fl, anO_cn, anO_gd, anO_fk, anO_sl, anO_lf, anO_jb, anO_jp, anO_ap, anO_nj, ok_ic_model_Routine_1 L _ s n hl hL, Option.bind_some, routineI]
/-- what a name is, and its number -/
def placeS (s : api_SiteDecl) (n : ByteArray) : ByteArray × Int :=
  bif s.Vars.any (fun x => decide (x.Name = n)) then (kw_var, idxI (s.Vars.findIdx? fun x => decide (x.Name = n)))
  else bif s.Resources.any (fun x => decide (x.Name = n)) then (kw_resource, idxI (s.Resources.findIdx? fun x => decide (x.Name = n)))
  else bif s.Stores.any (fun x => decide (x.Name = n)) then (kw_store, idxI (s.Stores.findIdx? fun x => decide (x.Name = n)))
  else bif s.Belts.any (fun x => decide (x.Name = n)) then (kw_belt, idxI (s.Belts.findIdx? fun x => decide (x.Name = n)))
  else bif s.Queues.any (fun x => decide (n = x)) then (kw_queue, idxI (s.Queues.findIdx? fun x => decide (n = x)))
  else bif s.Streams.any (fun x => decide (n = x)) then (kw_stream, idxI (s.Streams.findIdx? fun x => decide (n = x)))
  else bif s.Tallies.any (fun x => decide (n = x)) then (kw_tally, idxI (s.Tallies.findIdx? fun x => decide (n = x)))
  else bif s.Levels.any (fun x => decide (n = x)) then (kw_level, idxI (s.Levels.findIdx? fun x => decide (n = x)))
  else bif s.Counts.any (fun x => decide (n = x)) then (kw_count, idxI (s.Counts.findIdx? fun x => decide (n = x)))
  else bif s.Routines.any (fun x => decide (x.Name = n)) then (kw_routine, routineI s n)
  else (⟨#[]⟩, -1)
def kindS (s : api_SiteDecl) (n : ByteArray) : ByteArray := (placeS s n).1
/-- the lists of a site have at most m elements -/
def lenS (s : api_SiteDecl) (m : Nat) : Prop := s.Vars.length ≤ m ∧ s.Resources.length ≤ m ∧ s.Stores.length ≤ m ∧ s.Belts.length ≤ m ∧ s.Queues.length ≤ m ∧ s.Streams.length ≤ m ∧ s.Tallies.length ≤ m ∧ s.Levels.length ≤ m ∧ s.Counts.length ≤ m ∧ s.Routines.length ≤ m
theorem Ok_api_SiteDecl.len {s : api_SiteDecl} (h : Ok_api_SiteDecl s) : lenS s maxLen := by
  unfold Ok_api_SiteDecl at h
  unfold lenS
  simp only [h, and_self]
theorem ok_model_place (L : Nat) (s : api_SiteDecl) (n : ByteArray) (h : lenS s maxLen) (hL : maxLen < L) : F_model_place L s n = some (placeS s n) := by
  obtain ⟨h0, h1, h2, h3, h4, h5, h6, h7, h8, h9⟩ := h
  have hR : decide (routineI s n ≥ 0) = s.Routines.any (fun x => decide (x.Name = n)) := idxI_ge _ _
  simp only [T_model_place, F_model_place, anO_bd, anO_fl, anO_cn, anO_gd, anO_fk, anO_sl, anO_lf, anO_jb, anO_jp, anO_ap, anO_nj, ok_ic_model_place_1 L _ s n h0 (by omega), ok_ic_model_place_2 L _ s n h1 (by omega), ok_ic_model_place_3 L _ s n h2 (by omega), ok_ic_model_place_4 L _ s n h3 (by omega),
    ok_slices_Index_string L _ n h4 (by omega), ok_slices_Index_string L _ n h5 (by omega), ok_slices_Index_string L _ n h6 (by omega), ok_slices_Index_string L _ n h7 (by omega), ok_slices_Index_string L _ n h8 (by omega), ok_model_Routine L s n h9 (by omega),
    Option.bind_some, cond_ss, idxI_ge, hR, placeS]
  simp only [kw_var, kw_resource, kw_store, kw_belt, kw_queue, kw_stream, kw_tally, kw_level, kw_count, kw_routine]
theorem ok_model_Kind (L : Nat) (s : api_SiteDecl) (n : ByteArray) (h : lenS s maxLen) (hL : maxLen < L) : F_model_Kind L s n = some (kindS s n) := by
  simp only [T_model_Kind, F_model_Kind, anO_bd, anO_fl, anO_cn, anO_gd, anO_fk, anO_sl, anO_lf, anO_jb, anO_jp, anO_ap, anO_nj, ok_model_place L s n h hL, Option.bind_some, kindS]
end Go.Proofs.YtonfmpiikdmndaaGreat.Ev
