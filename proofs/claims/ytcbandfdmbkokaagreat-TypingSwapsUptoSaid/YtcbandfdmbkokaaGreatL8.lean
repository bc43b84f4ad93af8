/-  TypingSwaps, plainly. -/
import Derived.Test.YtcbandfdmbkokaaGreatPh
namespace Go.Proofs.YtcbandfdmbkokaaGreat.Ev
open Go
set_option linter.unusedVariables false
set_option linter.unusedSimpArgs false
set_option linter.unnecessarySimpa false

theorem law_TypingSwaps (v : api_Env) (s : L14_Swap) (hv : Ok_api_Env v) (hs : Ok_L14_Swap s) (hb : bk_api_Env v + bk_L14_Swap s ≤ 1048576) : ∃ L, F_L14_TypingSwaps L v s = some true := by
  obtain ⟨he, hy, hn⟩ := hs
  unfold bk_L14_Swap at hb
  let x := replE s.Name s.By s.E
  have hx : Ok_api_Expr x := replE_Ok hy he
  refine ⟨maxLen + dE s.E + dE s.By + dE x + 100, ?_⟩
  generalize hLd : maxLen + dE s.E + dE s.By + dE x + 100 = L
  have hl := ok_L14_light L v (by omega)
  have hrep : F_expr_Replace L s.E s.Name s.By = some x := ok_expr_Replace he s.Name s.By L (by omega) (by omega)
  simp only [F_L14_TypingSwaps, T_L14_TypingSwaps, anO_bd, anO_fl, anO_cn, anO_gd, anO_fk, anO_sl, anO_lf, anO_jb, anO_jp, anO_ap, anO_nj, api_Expr.cp_eq, hl, awake_ok L (by omega), ok_typing_Expr he v hv L (by omega), ok_typing_Expr hy v hv L (by omega), ok_typing_Find L v s.Name hv (by omega), hrep, ok_R09_Check hx L (by omega), ok_typing_Expr hx v hv L (by omega), Option.bind_some, bor_c, band_c]
  cases lightE v with
  | false => rfl
  | true =>
    simp only [Bool.not_true, cond_false]
    by_cases h1 : (exprT v s.E).2 = 0
    · by_cases h2 : (exprT v s.By).2 = 0
      · cases hf : findT v s.Name with
        | none => simp [o2]
        | some w =>
          by_cases h3 : (exprT v s.By).1 = w
          · by_cases h4 : checkE false x = 0
            · have e1 := (exprT_ok h1).2
              have e2 := (exprT_ok h2).2
              have hyw : tyE v s.By = (w, 0) := by
                rw [← e2]; exact Prod.ext h3 h2
              have e3 : exprT v x = tyE v s.E := by
                have : exprT v x = tyE v x := by unfold exprT; simp [h4]
                rw [this]
                exact tyE_repl hf hyw s.E (by rw [← e1]; exact h1)
              rw [e1] at h1 ⊢
              simp [h1, h2, h3, h4, e3, o2]
            · simp [h1, h2, h3, ne0 h4, o2]
          · have : ((exprT v s.By).1 != w) = true := ne0' h3
            simp [h1, h2, this, o2]
      · simp [h1, ne0 h2]
    · simp [ne0 h1]
end Go.Proofs.YtcbandfdmbkokaaGreat.Ev
