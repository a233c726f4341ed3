/- The law FnMapMove (P12): a move of a drawn map changes the house of one slot alone, by the next version; with a code it is as it was; no condition but that the bytes can be read. -/
import Derived.Test.YtnpmepaiigbhlaaMapLaws
import Derived.Test.YtnpmepaiigbhlaaPXx33
namespace Go.Proofs.Ytnpmepaiigbhlaa.Pure
open Go.RowKit Go.Proofs.Ytnpmepaiigbhlaa.PX Go.Proofs.YtnpmepaiigbhlaaW.PrintWords Go.Proofs.YtnpmepaiigbhlaaW.PrintLast Go.Proofs.Ytnpmepaiigbhlaa.PB
set_option linter.unusedVariables false
set_option linter.unusedSimpArgs false
theorem FnMapMove : laws_FnMapMove.Pure := by
  intro code hlen _ hb
  refine Ev.rounds (g := fun k => laws_FnMapMove.f k code) ?_
  unfold laws_FnMapMove.f
  by_cases h : (code.length : Int) > 1048576
  · exact Ev.pos h (Ev.ret rfl)
  refine Ev.neg h ?_
  obtain ⟨v, l, s, t, hd, hl⟩ := DrawMapMove_ev code hb
  refine Ev.bind hd (Ev.bind (spec_MapMove_ev v l s t (by first | omega | (simp only; omega))) (Ev.bind (spec_MapOk_ev v l (by first | omega | (simp only; omega))) (Ev.bind (impl_MapMove_ev v l s t (by first | omega | (simp only; omega))) ?_)))
  have hml := move_len v l s t (by omega)
  refine Ev.pos rfl (Ev.bind (loMap_ev _ _ _ _ (by omega)) ?_)
  refine Ev.step (fun k => by rw [laws_FnMapMove.j0]) ?_
  refine Ev.neg (by simp) ?_
  by_cases ho : mapOk v l = true
  · refine Ev.pos ho ?_
    rcases mv_cases v l s t ho with ⟨c, hc, hc0⟩ | ⟨hs, ht, h99, hr, hm⟩
    · rw [hc]
      exact Ev.neg hc0 (Ev.bind (loMap_ev v v l l (by omega)) (Ev.ret (by simp)))
    · have hmo := mapMv_ok v l s t ho
      rw [hm] at hmo ⊢
      simp only at hmo ⊢
      have h8 := mapOk_len ho
      have hv := mapOk_ver ho
      refine Ev.pos (by first | rfl | trivial) ?_
      have key : ∀ i : Nat, i ≤ 8 → Ev (fun k => laws_FnMapMove.l0 k s t (i : Int) v l (v + 1) (l.set s.toNat t)) true := by
        refine loop_down 8 ?_ ?_
        · refine Ev.step (fun k => by rw [laws_FnMapMove.l0]) ?_
          refine Ev.neg (by decide) (Ev.pos hs.1 (Ev.pos (by simp; omega) (Ev.pos (rd_set_eq l s t (by omega)) (Ev.pos (by rw [wrap_in (by omega) (by omega)]) (Ev.bind (impl_MapOk_ev _ _ (by simp; omega)) (Ev.ret hmo))))))
        · intro i hi ih
          have hw : wrap64 ((i : Int) + 1) = ((i + 1 : Nat) : Int) := by rw [wrap_in (by omega) (by omega)]; omega
          refine Ev.step (fun k => by rw [laws_FnMapMove.l0]) ?_
          refine Ev.pos (by omega) ?_
          rw [hw]
          by_cases his : (i : Int) = s
          · exact Ev.pos his ih
          · exact Ev.neg his (Ev.pos (by omega) (Ev.pos (by simp; omega) (Ev.pos (by omega) (Ev.pos (rd_set_ne l s i t hs.1 (by omega) (fun e => his e.symm)) ih))))
      exact key 0 (by omega)
  · rw [mv_bad v l s t ho]
    exact Ev.neg ho (Ev.pos rfl (Ev.ret rfl))

end Go.Proofs.Ytnpmepaiigbhlaa.Pure
