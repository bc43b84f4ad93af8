/-  TypingExprs, plainly. -/
import Derived.Test.YtcbandfdmbkokaaGreatPg
namespace Go.Proofs.YtcbandfdmbkokaaGreat.Ev
open Go
set_option linter.unusedVariables false
set_option linter.unusedSimpArgs false
set_option linter.unnecessarySimpa false

theorem law_TypingExprs (v : api_Env) (e : api_Expr) (s : ByteArray) (hv : Ok_api_Env v) (he : Ok_api_Expr e) (hs : okS s) (hb : bk_api_Env v + bk_api_Expr e + (s.size + 1) ≤ 1048576) : ∃ L, F_L14_TypingExprs L v e s = some true := by
  refine ⟨maxLen + dE e + 100, ?_⟩
  have hL : maxLen + dE e < maxLen + dE e + 100 := by omega
  have hl := ok_L14_light (maxLen + dE e + 100) v (by omega)
  have hb' : bk_api_Env v ≤ 1048576 := by omega
  unfold bk_api_Env at hb'
  have hS : lenS v.Site 1099511627776 := (len_site v.Site).mono (by omega)
  simp only [F_L14_TypingExprs, T_L14_TypingExprs, anO_bd, anO_fl, anO_cn, anO_gd, anO_fk, anO_sl, anO_lf, anO_jb, anO_jp, anO_ap, anO_nj, api_Expr.cp_eq, hl, awake_ok (maxLen + dE e + 100) (by omega), ok_typing_Expr he v hv _ hL, ok_R14_Expr he v hv hS _ hL, ok_typing_Find _ v s hv (show maxLen < maxLen + dE e + 100 by omega), ok_R14_Find _ v s hv (show maxLen < maxLen + dE e + 100 by omega), Option.bind_some]
  cases lightE v <;> simp
end Go.Proofs.YtcbandfdmbkokaaGreat.Ev
