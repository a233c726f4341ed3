/- The law FnMapBack (P13): of a drawn map a slot that is moved and moved back is where it was, two versions later; no condition but that the bytes can be read. -/
import Derived.Test.YtnpmepaiigbhlaaMapDraw
import Derived.Test.YtnpmepaiigbhlaaPXx32
namespace Go.Proofs.Ytnpmepaiigbhlaa.Pure
open Go.RowKit Go.Proofs.Ytnpmepaiigbhlaa.PX Go.Proofs.YtnpmepaiigbhlaaW.PrintWords Go.Proofs.YtnpmepaiigbhlaaW.PrintLast Go.Proofs.Ytnpmepaiigbhlaa.PB
set_option linter.unusedVariables false
set_option linter.unusedSimpArgs false
theorem FnMapBack : laws_FnMapBack.Pure := by
  intro code hlen _ hb
  refine Ev.rounds (g := fun k => laws_FnMapBack.f k code) ?_
  unfold laws_FnMapBack.f
  by_cases h : (code.length : Int) > 1048576
  · exact Ev.pos h (Ev.ret rfl)
  refine Ev.neg h ?_
  obtain ⟨v, l, s, t, hd, hl⟩ := DrawMapMove_ev code hb
  refine Ev.bind hd (Ev.bind (spec_MapMove_ev v l s t (by first | omega | (simp only; omega))) (Ev.bind (impl_MapMove_ev v l s t (by first | omega | (simp only; omega))) ?_))
  have hml := move_len v l s t (by omega)
  have hbk := move_back v l s t
  generalize hm : mapMv v l s t = m at *
  obtain ⟨m1, m2, m3⟩ := m
  simp only at hml hbk
  refine Ev.pos rfl (Ev.bind (loMap_ev m1 m1 m2 m2 (by first | omega | (simp only; omega))) (Ev.pos (by simp) ?_))
  by_cases h3 : m3 = 0
  · refine Ev.step (fun k => by rw [laws_FnMapBack.j0]) ?_
    refine Ev.neg (by simp [h3]) ?_
    obtain ⟨hs0, hs1, hb⟩ := hbk h3
    refine Ev.pos hs0 (Ev.pos (by first | omega | (simp only; omega)) (Ev.bind (impl_MapMove_ev m1 m2 s (rd l s) (by first | omega | (simp only; omega))) ?_))
    rcases hb with hb | hb
    · exact Ev.pos (by first | exact hb | (simp only; exact hb) | simp [hb]) (Ev.ret rfl)
    · rw [hb]
      refine Ev.neg (by simp) (Ev.pos rfl (Ev.bind (loInts_ev l l (by omega)) (Ev.pos (by simp) (Ev.ret (by simp)))))
  · refine Ev.step (fun k => by rw [laws_FnMapBack.j0]) ?_
    refine Ev.pos (by simp [h3]) (Ev.pos rfl (Ev.bind (loMap_ev m1 m1 m2 m2 (by first | omega | (simp only; omega))) (Ev.ret (by simp))))

end Go.Proofs.Ytnpmepaiigbhlaa.Pure
