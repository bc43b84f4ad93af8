/-  What is read: its bulk. -/
import Derived.Test.YtaaiehkfndibkaaGreatR0
import Derived.Test.YtaaiehkfndibkaaGreatFz
namespace Go.Proofs.YtaaiehkfndibkaaGreat.Ev
open Go
set_option maxRecDepth 100000
set_option linter.unusedVariables false
set_option linter.unusedSimpArgs false
set_option linter.unnecessarySimpa false
def bk_api_Factor (x : api_Factor) : Nat := (x.Name.size + 1) + (sumL (fun (z : Int) => 1) x.Levels + 1) + 1
theorem bkp35 (n : Nat) (x : (List Int)) (b : Nat) (h : ShpB Tryz.prog n 35 [.lst false (.t3 x)] b) : (sumL (fun (z : Int) => 1) x + 1) ≤ b := by
  obtain ⟨m, f, _, h1, h2⟩ := shpB_sl Tryz.underlying35 h
  have := bulk_rows (row := row3) (Q := ShpB Tryz.prog m 3) (g := (fun (z : Int) => 1)) (fun y b h => shpB_one h) (l := x) (f := f) h2
  change sumTo f x.length + 1 ≤ b at h1
  omega
theorem bkp59 (n : Nat) (y : api_Factor) (b : Nat) (h : ShpB Tryz.prog n 59 (enapi_Factor y) b) : bk_api_Factor y ≤ b := by
  obtain ⟨m, b0, _, hb, h⟩ := shpB_st Tryz.underlying59 h
  change ShpsB (ShpB Tryz.prog m) [9, 35] (enapi_Factor y) b0 at h
  obtain ⟨c0, d0, e0, g0, h⟩ := shpsB_cons (w_str Tryz.underlying9 m) h
  obtain ⟨c1, d1, e1, g1, h⟩ := shpsB_cons (w_sl Tryz.underlying35 m) h
  have q0 : (y.Name.size + 1) ≤ c0 := shpB_str Tryz.underlying9 g0
  have q1 : (sumL (fun (z : Int) => 1) y.Levels + 1) ≤ c1 := bkp35 m _ _ g1
  unfold bk_api_Factor
  omega
theorem bkp27 (n : Nat) (x : (List api_Factor)) (b : Nat) (h : ShpB Tryz.prog n 27 [.lst false (.t59 x)] b) : (sumL bk_api_Factor x + 1) ≤ b := by
  obtain ⟨m, f, _, h1, h2⟩ := shpB_sl Tryz.underlying27 h
  have := bulk_rows (row := row59) (Q := ShpB Tryz.prog m 59) (g := bk_api_Factor) (fun y b h => bkp59 _ y b h) (l := x) (f := f) h2
  change sumTo f x.length + 1 ≤ b at h1
  omega
end Go.Proofs.YtaaiehkfndibkaaGreat.Ev
