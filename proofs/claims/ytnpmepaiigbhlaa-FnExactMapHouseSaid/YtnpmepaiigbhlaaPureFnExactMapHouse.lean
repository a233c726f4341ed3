/- The law FnExactMapHouse: MapHouse answers as the reference does, and leaves its argument as it was; no condition but that the arguments can be read. -/
import Derived.Test.YtnpmepaiigbhlaaMapPb
import Derived.Test.YtnpmepaiigbhlaaPXx30
namespace Go.Proofs.Ytnpmepaiigbhlaa.Pure
open Go.RowKit Go.Proofs.Ytnpmepaiigbhlaa.PX Go.Proofs.YtnpmepaiigbhlaaW.PrintWords Go.Proofs.YtnpmepaiigbhlaaW.PrintLast Go.Proofs.Ytnpmepaiigbhlaa.PB
set_option linter.unusedVariables false
theorem FnExactMapHouse : laws_FnExactMapHouse.Pure := by
  intro v l key hB _
  have hlen : l.length ≤ 9223372036854775807 := hB.2.1
  refine Ev.rounds (g := fun k => laws_FnExactMapHouse.f k v l key) ?_
  unfold laws_FnExactMapHouse.f
  refine Ev.eq (szMap_eq v l hlen) ?_
  by_cases h : l.length ≤ 1048576
  · rw [if_pos h]
    refine Ev.neg (by omega) ?_
    refine Ev.bind (toMap_ev v l h) (Ev.bind (spec_MapHouse_ev v l key h) (Ev.bind (toMap_ev v l h) (Ev.bind (impl_MapHouse_ev v l key h) ?_)))
    refine Ev.pos rfl (Ev.bind (toMap_ev v l h) (Ev.bind (eqMap_ev v v l l hlen) ?_))
    exact Ev.pos (by simp) (Ev.ret rfl)
  · rw [if_neg h]
    exact Ev.pos (by omega) (Ev.ret rfl)

end Go.Proofs.Ytnpmepaiigbhlaa.Pure
