/- What MapMove comes to. -/
import Derived.Test.YtnpmepaiigbhlaaBase
import Derived.Test.YtnpmepaiigbhlaaMapPa
import Derived.Test.YtnpmepaiigbhlaaPXx14
import Derived.Test.YtnpmepaiigbhlaaPXx15
namespace Go.Proofs.Ytnpmepaiigbhlaa.PB
open Go.RowKit Go.Proofs.Ytnpmepaiigbhlaa.PX Go.Proofs.YtnpmepaiigbhlaaW.PrintWords Go.Proofs.YtnpmepaiigbhlaaW.PrintLast
set_option linter.unusedVariables false
/-- What a move comes to. -/
def mapMv (v : Int) (l : List Int) (s t : Int) : Int × List Int × Int := if mapOk v l = true then moved v l s t else (0, [], 9)
theorem impl_MapMove_ev (v : Int) (l : List Int) (s t : Int) (hl : l.length ≤ 1048576) : Ev (fun k => impl_MapMove.f k v l s t) (mapMv v l s t) := by
  unfold impl_MapMove.f mapMv
  refine Ev.bind (impl_MapOk_ev v l (by omega)) ?_
  by_cases h : mapOk v l = true
  · rw [show (if mapOk v l = true then moved v l s t else (0, [], 9)) = moved v l s t from if_pos h]
    exact Ev.pos h (Ev.pos (mapOk_len h) (Ev.ret rfl))
  · rw [show (if mapOk v l = true then moved v l s t else (0, [], 9)) = (0, [], 9) from if_neg h]
    exact Ev.neg h (Ev.ret rfl)
theorem spec_MapMove_ev (v : Int) (l : List Int) (s t : Int) (hl : l.length ≤ 1048576) : Ev (fun k => spec_MapMove.f k v l s t) (mapMv v l s t) := by
  unfold spec_MapMove.f mapMv
  refine Ev.bind (spec_MapOk_ev v l (by omega)) ?_
  by_cases h : mapOk v l = true
  · have h8 := mapOk_len h
    have hv := mapOk_ver h
    rw [show (if mapOk v l = true then moved v l s t else (0, [], 9)) = moved v l s t from if_pos h]
    have hc : spec_l2Copy.f v l = some (v, l) := by
      unfold spec_l2Copy.f
      simp only [Option.bind_some]
      rw [if_pos (by simp; omega)]
      simp
    refine Ev.pos h (Ev.eq hc (Ev.eq (l6In_eq _ _ _) ?_))
    have hj : ∀ b : Bool, (b = false → 0 ≤ s ∧ s ≤ 7) → Ev (fun k => spec_MapMove.j0 k s t b v l v l) (if b = true then (v, l, 9) else if v = 99 then (v, l, 2) else if rd l s = t then (v, l, 3) else (wrap64 (v + 1), l.set s.toNat t, 0)) := by
      intro b hb
      refine Ev.step (f := fun k => if b = true then some (v, l, 9) else (if v ≥ 99 then some (v, l, 2) else (if 0 ≤ s then (if s < (l.length : Int) then (if rd l s = t then some (v, l, 3) else (if s < (l.length : Int) then some (wrap64 (v + 1), l.set s.toNat t, 0) else none)) else none) else none))) (fun k => by simp only [spec_MapMove.j0]) ?_
      cases b with
      | true => exact Ev.pos rfl (Ev.ret rfl)
      | false =>
        have := hb rfl
        refine Ev.neg (by decide) ?_
        by_cases h99 : v = 99
        · exact Ev.pos (by omega) (Ev.ret (by simp [h99]))
        · refine Ev.neg (by omega) (Ev.pos (by omega) (Ev.pos (by omega) ?_))
          by_cases hr : rd l s = t
          · exact Ev.pos hr (Ev.ret (by simp [h99, hr]))
          · exact Ev.neg hr (Ev.pos (by omega) (Ev.ret (by simp [h99, hr])))
    unfold moved
    by_cases hs : 0 ≤ s ∧ s ≤ 7
    · rw [if_pos hs]
      refine Ev.pos (by simpa using hs) (Ev.eq (l6In_eq _ _ _) ?_)
      refine evTo (hj _ (fun _ => hs)) ?_
      by_cases ht : 0 ≤ t ∧ t ≤ 2
      · rw [if_pos ht]; simp [ht]
      · rw [if_neg ht]; simp [ht]
    · rw [if_neg hs]
      exact Ev.neg (by simpa using hs) (evTo (hj true (by simp)) rfl)
  · rw [show (if mapOk v l = true then moved v l s t else (0, [], 9)) = (0, [], 9) from if_neg h]
    exact Ev.neg h (Ev.ret rfl)
theorem move_len (v : Int) (l : List Int) (s t : Int) (h : l.length ≤ 1048576) : (mapMv v l s t).2.1.length ≤ 1048576 := by
  unfold mapMv moved
  repeat' split
  all_goals simp
  all_goals omega
end Go.Proofs.Ytnpmepaiigbhlaa.PB
