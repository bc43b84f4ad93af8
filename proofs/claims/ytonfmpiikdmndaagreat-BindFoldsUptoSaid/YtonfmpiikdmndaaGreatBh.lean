/-  Chapter 16: the law of Fold. -/
import Derived.Test.YtonfmpiikdmndaaGreatQ5
import Derived.Test.YtonfmpiikdmndaaGreatBg
namespace Go.Proofs.YtonfmpiikdmndaaGreat.Ev
open Go
set_option maxRecDepth 100000
set_option linter.unusedVariables false
set_option linter.unusedSimpArgs false
set_option linter.unnecessarySimpa false
theorem awake16F (L : Nat) : F_L16_awake L = some true := rfl
theorem law_BindFolds (e : api_Expr) (he : Ok_api_Expr e) (hb : bk_api_Expr e ≤ 1048576) : ∃ L, F_L16_BindFolds L e = some true := by
  refine ⟨2 * maxLen + 2 * dE e + 100, ?_⟩
  have hL : 2 * maxLen + 2 * dE e < 2 * maxLen + 2 * dE e + 100 := by omega
  generalize 2 * maxLen + 2 * dE e + 100 = L at hL
  have n1 := nE_bk e
  by_cases hc : checkE false e = 0
  · obtain ⟨c1, c2, c3⟩ := check_parts hb hc
    have hs := fold_size e
    have hf : foldT e = foldE e := by unfold foldT; rw [if_pos hc]
    have ho := ok_fold e he c3
    have h1 := ok_bind_Fold he hb L (by omega)
    have h2 := ok_R16_Fold he hb L (by omega)
    have h3 := ok_bind_Fold2 ho (by omega) (by omega) (chk_fold false e c3) L (by omega)
    rw [fold_fold] at h3
    rw [hf] at h1 h2
    have hn : decide (nodesE (foldE e) > nodesE e) = false := decide_eq_false (by rw [nodesE_eq _ (by omega), nodesE_eq _ (by omega)]; omega)
    simp only [T_L16_BindFolds, F_L16_BindFolds, anO_bd, anO_fl, anO_cn, anO_gd, anO_fk, anO_sl, anO_lf, anO_jb, anO_jp, anO_ap, anO_nj, api_Expr.cp_eq, awake16F, h1, h2, h3, ok_R09_Same ho L (by omega), ok_R09_Nodes he L (by omega), ok_R09_Nodes ho L (by omega), ok_R09_Check he L (by omega), ok_R09_Check ho L (by omega), check_fold hb hc, hc, hn, Option.bind_some]
    simp [cond_ss]
  · have hf : foldT e = e := by unfold foldT; rw [if_neg hc]
    have h1 := ok_bind_Fold he hb L (by omega)
    have h2 := ok_R16_Fold he hb L (by omega)
    rw [hf] at h1 h2
    have hn : decide (nodesE e > nodesE e) = false := decide_eq_false (by omega)
    simp only [T_L16_BindFolds, F_L16_BindFolds, anO_bd, anO_fl, anO_cn, anO_gd, anO_fk, anO_sl, anO_lf, anO_jb, anO_jp, anO_ap, anO_nj, api_Expr.cp_eq, awake16F, h1, h2, ok_R09_Same he L (by omega), ok_R09_Nodes he L (by omega), ok_R09_Check he L (by omega), hn, Option.bind_some]
    simp [cond_ss]
end Go.Proofs.YtonfmpiikdmndaaGreat.Ev
