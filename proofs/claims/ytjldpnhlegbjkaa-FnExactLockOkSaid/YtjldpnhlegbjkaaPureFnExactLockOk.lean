/- The law FnExactLockOk: the program's LockOk answers as the reference's, and leaves its argument as it was; no condition but what the row says of what came in. -/
import Derived.Test.YtjldpnhlegbjkaaLockPb
import Derived.Test.YtjldpnhlegbjkaaPYx18
namespace Go.Proofs.Ytjldpnhlegbjkaa.Pure
open Go.RowKit Go.Proofs.Ytjldpnhlegbjkaa.PY Go.Proofs.YtjldpnhlegbjkaaW.PrintWords Go.Proofs.YtjldpnhlegbjkaaW.PrintLast Go.Proofs.Ytjldpnhlegbjkaa.PB
set_option linter.unusedVariables false
theorem FnExactLockOk : laws_FnExactLockOk.Pure := by
  intro s h w hB
  have hx : maxLen = 9223372036854775807 := rfl
  have hh : h.length ≤ 9223372036854775807 := by have := hB; simp only [B24] at this; omega
  have hw : w.length ≤ 9223372036854775807 := by have := hB; simp only [B24] at this; omega
  clear hB
  refine Ev.rounds (g := fun k => laws_FnExactLockOk.f k s h w) ?_
  unfold laws_FnExactLockOk.f
  obtain ⟨z, hz, hzz⟩ := szLock_eq s h w hh hw
  refine Ev.eq hz ?_
  by_cases z0 : z < 0
  · exact Ev.pos z0 (Ev.ret rfl)
  have hb := hzz (by omega)
  have e1 := convH_len h
  have e2 := convH_len w
  have b1 : (convH h).length ≤ 1048576 := by omega
  have b2 : (convH w).length ≤ 1048576 := by omega
  have hto := toLock_ev s h w (by omega) (by omega)
  refine Ev.neg z0 (Ev.bind hto (Ev.bind (spec_LockOk_ev s (convH h) (convH w) b1 b2) (Ev.bind hto (Ev.eq (impl_LockOk_eq s (convH h) (convH w) b1 b2) (Ev.neg (by simp) (Ev.bind hto (Ev.bind (eqLock_ev s _ _ b1 b2) (Ev.pos rfl (Ev.ret rfl)))))))))
end Go.Proofs.Ytjldpnhlegbjkaa.Pure
