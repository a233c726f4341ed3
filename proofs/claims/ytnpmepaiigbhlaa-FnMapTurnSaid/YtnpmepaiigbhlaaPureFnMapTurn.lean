/- The law FnMapTurn (P14): moves of two slots of a drawn map can change places; no condition but that the bytes can be read. -/
import Derived.Test.YtnpmepaiigbhlaaMapLaws
import Derived.Test.YtnpmepaiigbhlaaPXx34
namespace Go.Proofs.Ytnpmepaiigbhlaa.Pure
open Go.RowKit Go.Proofs.Ytnpmepaiigbhlaa.PX Go.Proofs.YtnpmepaiigbhlaaW.PrintWords Go.Proofs.YtnpmepaiigbhlaaW.PrintLast Go.Proofs.Ytnpmepaiigbhlaa.PB
set_option linter.unusedVariables false
set_option linter.unusedSimpArgs false
theorem FnMapTurn : laws_FnMapTurn.Pure := by
  intro code more hlen _ hb hlen2 _ hb2
  refine Ev.rounds (g := fun k => laws_FnMapTurn.f k code more) ?_
  unfold laws_FnMapTurn.f
  by_cases h : (code.length : Int) > 1048576
  · exact Ev.pos h (Ev.step (fun k => by rw [laws_FnMapTurn.j0]) (Ev.pos rfl (Ev.ret rfl)))
  refine Ev.neg h (Ev.step (fun k => by rw [laws_FnMapTurn.j0]) ?_)
  by_cases h2 : (more.length : Int) > 1048576
  · exact Ev.pos (by simpa using h2) (Ev.ret rfl)
  refine Ev.neg (by simpa using h2) ?_
  obtain ⟨v, l, s, t, hd, hl⟩ := DrawMapMove_ev code hb
  obtain ⟨v2, l2, o, a, hd2, hl2⟩ := DrawMapMove_ev more hb2
  have hml := move_len v l s t (by omega)
  refine Ev.bind hd (Ev.bind hd2 (Ev.bind (spec_MapMove_ev v l s t (by first | omega | (simp only; omega))) (Ev.bind (impl_MapMove_ev v l s t (by first | omega | (simp only; omega))) ?_)))
  refine Ev.pos rfl (Ev.bind (loMap_ev _ _ _ _ (by omega)) (Ev.pos (by simp) ?_))
  have hlast : ∀ (k : Nat → Option Bool), True := fun _ => trivial
  by_cases h0 : (mapMv v l s t).2.2 = 0
  · refine Ev.pos h0 ?_
    refine Ev.step (fun k => by rw [laws_FnMapTurn.j1]) ?_
    by_cases hso : s = o
    · exact Ev.pos (by simp [hso]) (Ev.pos rfl (Ev.bind (loMap_ev _ _ _ _ (by omega)) (Ev.ret (by simp))))
    · refine Ev.neg (by simp [hso]) ?_
      have ho : mapOk v l = true := by
        by_cases z : mapOk v l = true
        · exact z
        · rw [mv_bad v l s t z] at h0; simp at h0
      have hyl := move_len (mapMv v l s t).1 (mapMv v l s t).2.1 o a (by omega)
      have hzl := move_len v l o a (by omega)
      have hcase := mv_turn v l s t o a ho h0 hso _ _ rfl rfl
      refine Ev.bind (impl_MapMove_ev _ _ o a (by omega)) (Ev.bind (impl_MapMove_ev v l o a (by first | omega | (simp only; omega))) ?_)
      generalize mapMv (mapMv v l s t).1 (mapMv v l s t).2.1 o a = y at *
      generalize mapMv v l o a = z at *
      rcases hcase with ⟨hy, hz, hw⟩ | ⟨hn, hw⟩
      · refine Ev.pos hy (Ev.step (fun k => by rw [laws_FnMapTurn.j2]) ?_)
        refine Ev.neg (by simp [hz]) (Ev.bind (impl_MapMove_ev z.1 z.2.1 s t (by omega)) ?_)
        rw [hw]
        exact Ev.pos hy (Ev.bind (loMap_ev _ _ _ _ (by omega)) (Ev.ret (by simp)))
      · by_cases hy : y.2.2 = 0
        · refine Ev.pos hy (Ev.step (fun k => by rw [laws_FnMapTurn.j2]) ?_)
          refine Ev.pos (by simp; exact fun z => hn ⟨hy, z⟩) ?_
          by_cases e : y.2.2 = z.2.2
          · exact Ev.pos e (Ev.ret rfl)
          · exact Ev.neg e (Ev.ret (by rcases hw with hw | hw; exact absurd hw e; simp [hw]))
        · refine Ev.neg hy (Ev.step (fun k => by rw [laws_FnMapTurn.j2]) ?_)
          refine Ev.pos rfl ?_
          by_cases e : y.2.2 = z.2.2
          · exact Ev.pos e (Ev.ret rfl)
          · exact Ev.neg e (Ev.ret (by rcases hw with hw | hw; exact absurd hw e; simp [hw]))
  · refine Ev.neg h0 ?_
    refine Ev.step (fun k => by rw [laws_FnMapTurn.j1]) ?_
    exact Ev.pos rfl (Ev.pos rfl (Ev.bind (loMap_ev _ _ _ _ (by omega)) (Ev.ret (by simp))))

end Go.Proofs.Ytnpmepaiigbhlaa.Pure
