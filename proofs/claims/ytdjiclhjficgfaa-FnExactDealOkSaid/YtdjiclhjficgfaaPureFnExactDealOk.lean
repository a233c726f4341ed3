/- DealOk of the program and of the reference agree. -/
import Derived.Test.YtdjiclhjficgfaaDealPa
import Derived.Test.YtdjiclhjficgfaaPXx15
namespace Go.Proofs.Ytdjiclhjficgfaa.Pure
open Go.RowKit Go.Proofs.Ytdjiclhjficgfaa.PX Go.Proofs.YtdjiclhjficgfaaW.PrintWords Go.Proofs.YtdjiclhjficgfaaW.PrintLast Go.Proofs.Ytdjiclhjficgfaa.PB
set_option linter.unusedVariables false
theorem FnExactDealOk : laws_FnExactDealOk.Pure := by
  intro l0 h0
  obtain ⟨h0, _⟩ := h0
  have hm : maxLen = 9223372036854775807 := rfl
  refine Ev.rounds (g := fun k => laws_FnExactDealOk.f k l0) ?_
  unfold laws_FnExactDealOk.f
  by_cases b0 : l0.length ≤ 1048576
  · have e0 : laws_szStatementS.f l0 1048576 = some (1048576 - (l0.length : Int)) := by
      unfold laws_szStatementS.f
      rw [wrap_in (by omega) (by omega), if_neg (by omega)]
    refine Ev.eq e0 (Ev.neg (by omega) ?_)
    have c0 : (convSt l0).length = l0.length := by simp [convSt]
    have t0 := toStatementS_ev l0 b0
    refine Ev.bind t0 (Ev.bind (spec_DealOk_ev _) (Ev.bind t0 (Ev.bind (impl_DealOk_ev _) (Ev.neg (by simp) ?_))))
    exact Ev.bind t0 (Ev.bind (eqStatementS_ev _ (by omega)) (Ev.pos rfl (Ev.ret rfl)))
  · have e0 : laws_szStatementS.f l0 1048576 = some (-1) := by
      unfold laws_szStatementS.f
      rw [wrap_in (by omega) (by omega), if_pos (by omega)]
    exact Ev.eq e0 (Ev.pos (by omega) (Ev.ret rfl))
end Go.Proofs.Ytdjiclhjficgfaa.Pure
