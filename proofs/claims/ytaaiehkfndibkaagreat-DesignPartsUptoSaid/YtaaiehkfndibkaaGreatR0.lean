/-  What is read. -/
import Derived.Test.YtaaiehkfndibkaaGreatG0
import Derived.Test.YtaaiehkfndibkaaGreatFy
namespace Go.Proofs.YtaaiehkfndibkaaGreat.Ev
open Go
set_option maxRecDepth 100000
set_option linter.unusedVariables false
set_option linter.unusedSimpArgs false
set_option linter.unnecessarySimpa false
def Ok_api_Factor (x : api_Factor) : Prop := okS x.Name ∧ (x.Levels.length ≤ maxLen ∧ ∀ y ∈ x.Levels, okI .i64 y)
theorem lx3 (x : LX) (h : x.e = 3) : ∃ l, x = .t3 l := by
  cases x <;> first | exact ⟨_, rfl⟩ | (simp [LX.e] at h)
theorem lx59 (x : LX) (h : x.e = 59) : ∃ l, x = .t59 l := by
  cases x <;> first | exact ⟨_, rfl⟩ | (simp [LX.e] at h)
theorem mk59 (n : Nat) (l : List PV) (h : Shp Tryz.prog n 59 l) : ∃ y : api_Factor, l = enapi_Factor y := by
  obtain ⟨m, _, h⟩ := shp_st Tryz.underlying59 h
  change Shps (Shp Tryz.prog m) [9, 35] l at h
  obtain ⟨a0, b0, rfl, h0, a1, b1, rfl, h1, rfl⟩ := h
  obtain ⟨z0, rfl, _⟩ := shp_str Tryz.underlying9 h0
  obtain ⟨x1, rfl, e1, _, _, _, _⟩ := shp_sl Tryz.underlying35 h1
  obtain ⟨z1, rfl⟩ := lx3 x1 e1
  exact ⟨.mk z0 z1, rfl⟩
theorem okl35 (n : Nat) (x : (List Int)) (h : Shp Tryz.prog n 35 [.lst false (.t3 x)]) : (x.length ≤ maxLen ∧ ∀ y ∈ x, okI .i64 y) := by
  obtain ⟨h1, m, _, h2⟩ := ok_sl Tryz.underlying35 h
  exact ⟨h1, fun y hy => ok_int Tryz.underlying3 (all_rows (row := row3) h2 y hy)⟩
theorem ok59 (n : Nat) (y : api_Factor) (h : Shp Tryz.prog n 59 (enapi_Factor y)) : Ok_api_Factor y := by
  obtain ⟨m, _, h⟩ := shp_st Tryz.underlying59 h
  change Shps (Shp Tryz.prog m) [9, 35] (enapi_Factor y) at h
  obtain ⟨g0, h⟩ := shps_cons (w_str Tryz.underlying9 m) h
  obtain ⟨g1, h⟩ := shps_cons (w_sl Tryz.underlying35 m) h
  exact ⟨ok_str Tryz.underlying9 g0, okl35 m _ g1⟩
theorem okl27 (n : Nat) (x : (List api_Factor)) (h : Shp Tryz.prog n 27 [.lst false (.t59 x)]) : (x.length ≤ maxLen ∧ ∀ y ∈ x, Ok_api_Factor y) := by
  obtain ⟨h1, m, _, h2⟩ := ok_sl Tryz.underlying27 h
  exact ⟨h1, fun y hy => ok59 _ _ (all_rows (row := row59) h2 y hy)⟩
theorem rows3 (n m : Nat) (f : Nat → List PV) (hf : ∀ i, i < m → Shp Tryz.prog n 3 (f i)) : ∃ x : LX, x.e = 3 ∧ x.len = m ∧ x.sz = Tryz.prog.cellsOf 3 ∧ ∀ i, i < m → x.row i = f i := by
  obtain ⟨l, h1, h2⟩ := list_of row3 m f (fun i hi => let ⟨z, h, _⟩ := shp_int Tryz.underlying3 (hf i hi); ⟨z, h⟩)
  exact ⟨.t3 l, rfl, h1, by kernel_rfl, h2⟩
theorem rows9 (n m : Nat) (f : Nat → List PV) (hf : ∀ i, i < m → Shp Tryz.prog n 9 (f i)) : ∃ x : LX, x.e = 9 ∧ x.len = m ∧ x.sz = Tryz.prog.cellsOf 9 ∧ ∀ i, i < m → x.row i = f i := by
  obtain ⟨l, h1, h2⟩ := list_of row9 m f (fun i hi => let ⟨z, h, _⟩ := shp_str Tryz.underlying9 (hf i hi); ⟨z, h⟩)
  exact ⟨.t9 l, rfl, h1, by kernel_rfl, h2⟩
theorem rows35 (n m : Nat) (f : Nat → List PV) (hf : ∀ i, i < m → Shp Tryz.prog n 35 (f i)) : ∃ x : LX, x.e = 35 ∧ x.len = m ∧ x.sz = Tryz.prog.cellsOf 35 ∧ ∀ i, i < m → x.row i = f i := by
  obtain ⟨l, h1, h2⟩ := list_of row35 m f (fun i hi => by
    obtain ⟨x, h, he, _⟩ := shp_sl Tryz.underlying35 (hf i hi)
    obtain ⟨z, rfl⟩ := lx3 x he
    exact ⟨z, h⟩)
  exact ⟨.t35 l, rfl, h1, by kernel_rfl, h2⟩
theorem rows59 (n m : Nat) (f : Nat → List PV) (hf : ∀ i, i < m → Shp Tryz.prog n 59 (f i)) : ∃ x : LX, x.e = 59 ∧ x.len = m ∧ x.sz = Tryz.prog.cellsOf 59 ∧ ∀ i, i < m → x.row i = f i := by
  obtain ⟨l, h1, h2⟩ := list_of row59 m f (fun i hi => mk59 n _ (hf i hi))
  exact ⟨.t59 l, rfl, h1, by kernel_rfl, h2⟩
def rdL : List Nat := [3, 9, 27, 35, 59]
theorem rdMk : MkRows Tryz.prog rdL := by
  intro e n m f he hs hf
  simp only [rdL, List.mem_cons, List.not_mem_nil, or_false] at he
  rcases he with rfl | rfl | rfl | rfl | rfl
  · exact rows3 n m f hf
  · exact rows9 n m f hf
  · exact nomatch hs
  · exact rows35 n m f hf
  · exact rows59 n m f hf
theorem rdOk : okAll Tryz.prog rdL = true := by kernel_rfl
end Go.Proofs.YtaaiehkfndibkaaGreat.Ev
