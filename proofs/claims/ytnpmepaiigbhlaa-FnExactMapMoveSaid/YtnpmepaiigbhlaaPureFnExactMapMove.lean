/- The law FnExactMapMove: MapMove answers as the reference does, leaves its arguments as they were, and its answer is memory of its own; no condition but that the arguments can be read. -/
import Derived.Test.YtnpmepaiigbhlaaMapPc
import Derived.Test.YtnpmepaiigbhlaaMapPm
import Derived.Test.YtnpmepaiigbhlaaPXx31
namespace Go.Proofs.Ytnpmepaiigbhlaa.Pure
open Go.RowKit Go.Proofs.Ytnpmepaiigbhlaa.PX Go.Proofs.YtnpmepaiigbhlaaW.PrintWords Go.Proofs.YtnpmepaiigbhlaaW.PrintLast Go.Proofs.Ytnpmepaiigbhlaa.PB
set_option linter.unusedVariables false
theorem FnExactMapMove : laws_FnExactMapMove.Pure := by
  intro v l s t hB _ _
  have hlen : l.length ≤ 9223372036854775807 := hB.2.1
  refine Ev.rounds (g := fun k => laws_FnExactMapMove.f k v l s t) ?_
  unfold laws_FnExactMapMove.f
  refine Ev.eq (szMap_eq v l hlen) ?_
  by_cases h : l.length ≤ 1048576
  · rw [if_pos h]
    refine Ev.neg (by omega) ?_
    have hml := move_len v l s t h
    refine Ev.bind (toMap_ev v l h) (Ev.bind (spec_MapMove_ev v l s t h) (Ev.bind (toMap_ev v l h) (Ev.bind (impl_MapMove_ev v l s t h) ?_)))
    generalize hm : mapMv v l s t = m at *
    obtain ⟨m1, m2, m3⟩ := m
    have hml : m2.length ≤ 1048576 := hml
    refine Ev.bind (eqMap_ev m1 m1 m2 m2 (by first | omega | (simp only; omega))) (Ev.pos (by simp) ?_)
    refine Ev.step (fun k => by simp only [laws_FnExactMapMove.j0]; rfl) ?_
    refine Ev.neg (by simp) (Ev.bind (toMap_ev v l h) (Ev.bind (eqMap_ev v v l l hlen) (Ev.pos (by simp) (Ev.bind (markMap_ev v l h) ?_))))
    refine Ev.neg (by first | omega | (simp only; omega)) (Ev.bind (eqMap_ev m1 m1 m2 m2 (by omega)) (Ev.pos (by simp) ?_))
    refine Ev.step (fun k => by simp only [laws_FnExactMapMove.j1]; rfl) ?_
    refine Ev.neg (by simp) (Ev.bind (markMap_ev m1 m2 (by omega)) (Ev.bind (heldMap_ev m1 m2.length (by omega)) ?_))
    refine Ev.neg (by omega) (Ev.pos (by simp) (Ev.bind (toMap_ev v l h) (Ev.bind (impl_MapMove_ev v l s t h) ?_)))
    rw [hm]
    refine Ev.bind (eqMap_ev m1 m1 m2 m2 (by first | omega | (simp only; omega))) (Ev.pos (by simp) ?_)
    refine Ev.step (fun k => by simp only [laws_FnExactMapMove.j2]; rfl) ?_
    refine Ev.neg (by simp) (Ev.bind (heldMap_ev m1 m2.length (by omega)) ?_)
    exact Ev.neg (by omega) (Ev.pos (by simp) (Ev.ret rfl))
  · rw [if_neg h]
    exact Ev.pos (by omega) (Ev.ret rfl)

end Go.Proofs.Ytnpmepaiigbhlaa.Pure
