/-  Chapter 16: the laws of types and values. -/
import Derived.Test.YtonfmpiikdmndaaGreatQ5
import Derived.Test.YtonfmpiikdmndaaGreatBf
namespace Go.Proofs.YtonfmpiikdmndaaGreat.Ev
open Go
set_option maxRecDepth 100000
set_option linter.unusedVariables false
set_option linter.unusedSimpArgs false
set_option linter.unnecessarySimpa false
theorem awake16 (L : Nat) : F_L16_awake L = some true := rfl
theorem ok_small16 (L : Nat) (s : api_SiteDecl) : ∃ b, F_L16_small L s = some b := Option.isSome_iff_exists.1 (by simp only [T_L16_small, F_L16_small, anO_bd, anO_fl, anO_cn, anO_gd, anO_fk, anO_sl, anO_lf, anO_jb, anO_jp, anO_ap, anO_nj]; rfl)
theorem law_BindTypes (v : api_Env) (e : api_Expr) (hv : Ok_api_Env v) (he : Ok_api_Expr e) (hb : bk_api_Env v + bk_api_Expr e ≤ 1048576) : ∃ L, F_L16_BindTypes L v e = some true := by
  refine ⟨2 * maxLen + dE e + 100, ?_⟩
  have hL : 2 * maxLen + dE e < 2 * maxLen + dE e + 100 := by omega
  generalize 2 * maxLen + dE e + 100 = L at hL
  obtain ⟨b, hs⟩ := ok_small16 L v.Site
  by_cases ht : (exprT v e).2 = 0
  · obtain ⟨hc, h2⟩ := exprT_ok ht
    obtain ⟨c1, c2, c3⟩ := check_parts (by omega) hc
    have hs4 := fold_size e
    rw [h2] at ht
    have hf : foldT e = foldE e := by unfold foldT; rw [if_pos hc]
    have h3 : exprT v (foldE e) = tyE v e := by
      unfold exprT
      rw [check_fold (by omega) hc, ty_fold v e c3 ht]; rfl
    simp only [T_L16_BindTypes, F_L16_BindTypes, anO_bd, anO_fl, anO_cn, anO_gd, anO_fk, anO_sl, anO_lf, anO_jb, anO_jp, anO_ap, anO_nj, api_Expr.cp_eq, awake16, hs, ok_R09_Nodes he L (by omega), ok_typing_Expr he v hv L (by omega), ok_bind_Fold he (by omega) L hL, hf, ok_typing_Expr (ok_fold e he c3) v hv L (by omega), h2, h3, ht, Option.bind_some]
    simp [cond_ss]
  · simp only [T_L16_BindTypes, F_L16_BindTypes, anO_bd, anO_fl, anO_cn, anO_gd, anO_fk, anO_sl, anO_lf, anO_jb, anO_jp, anO_ap, anO_nj, api_Expr.cp_eq, awake16, hs, ok_R09_Nodes he L (by omega), ok_typing_Expr he v hv L (by omega), ne0 ht, Option.bind_some]
    simp [cond_ss]
theorem law_BindValues (e : api_Expr) (now : Int) (he : Ok_api_Expr e) (hn : okI .i64 now) (hb : bk_api_Expr e ≤ 1048576) : ∃ L, F_L16_BindValues L e now = some true := by
  refine ⟨2 * maxLen + dE e + 100, ?_⟩
  have hL : 2 * maxLen + dE e < 2 * maxLen + dE e + 100 := by omega
  generalize 2 * maxLen + dE e + 100 = L at hL
  have e1 := ok_R09_Check he L (by omega)
  have e2 := ok_R09_CheckCode he L (by omega)
  by_cases hc : checkE false e = 0
  · by_cases hd : checkE true e = 0
    · obtain ⟨c1, c2, c3⟩ := check_parts (by omega) hc
      have hs4 := fold_size e
      have hf : foldT e = foldE e := by unfold foldT; rw [if_pos hc]
      have h1 := ok_eval_Expr now he L (by omega)
      have h2 := ok_eval_Expr now (ok_fold e he c3) L (by omega)
      rw [if_pos hd] at h1
      rw [if_pos (check_fold (by omega) hd), val_fold now e c3] at h2
      unfold vw at h1 h2
      simp only [T_L16_BindValues, F_L16_BindValues, anO_bd, anO_fl, anO_cn, anO_gd, anO_fk, anO_sl, anO_lf, anO_jb, anO_jp, anO_ap, anO_nj, api_Expr.cp_eq, awake16, ok_R09_Nodes he L (by omega), e1, e2, hc, hd, ok_bind_Fold he (by omega) L hL, hf, h1, h2, Option.bind_some]
      simp [cond_ss]
    · simp only [T_L16_BindValues, F_L16_BindValues, anO_bd, anO_fl, anO_cn, anO_gd, anO_fk, anO_sl, anO_lf, anO_jb, anO_jp, anO_ap, anO_nj, api_Expr.cp_eq, awake16, ok_R09_Nodes he L (by omega), e1, e2, hc, ne0 hd, Option.bind_some]
      simp [cond_ss]
  · simp only [T_L16_BindValues, F_L16_BindValues, anO_bd, anO_fl, anO_cn, anO_gd, anO_fk, anO_sl, anO_lf, anO_jb, anO_jp, anO_ap, anO_nj, api_Expr.cp_eq, awake16, ok_R09_Nodes he L (by omega), e1, e2, ne0 hc, Option.bind_some]
    simp [cond_ss]
end Go.Proofs.YtonfmpiikdmndaaGreat.Ev
