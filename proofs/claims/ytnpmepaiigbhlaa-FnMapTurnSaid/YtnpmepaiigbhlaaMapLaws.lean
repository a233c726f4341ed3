/- What two moves come to. -/
import Derived.Test.YtnpmepaiigbhlaaMapDraw
namespace Go.Proofs.Ytnpmepaiigbhlaa.PB
open Go.RowKit Go.Proofs.Ytnpmepaiigbhlaa.PX Go.Proofs.YtnpmepaiigbhlaaW.PrintWords Go.Proofs.YtnpmepaiigbhlaaW.PrintLast
set_option linter.unusedVariables false
theorem mv_cases (v : Int) (l : List Int) (s t : Int) (ho : mapOk v l = true) :
    (∃ c, mapMv v l s t = (v, l, c) ∧ c ≠ 0) ∨ ((0 ≤ s ∧ s ≤ 7) ∧ (0 ≤ t ∧ t ≤ 2) ∧ v ≠ 99 ∧ rd l s ≠ t ∧ mapMv v l s t = (v + 1, l.set s.toNat t, 0)) := by
  have hv := mapOk_ver ho
  unfold mapMv moved
  rw [if_pos ho]
  by_cases hs : 0 ≤ s ∧ s ≤ 7
  · rw [if_pos hs]
    by_cases ht : 0 ≤ t ∧ t ≤ 2
    · rw [if_pos ht]
      by_cases h99 : v = 99
      · rw [if_pos h99]; exact .inl ⟨2, rfl, by omega⟩
      · rw [if_neg h99]
        by_cases hr : rd l s = t
        · rw [if_pos hr]; exact .inl ⟨3, rfl, by omega⟩
        · rw [if_neg hr, wrap_in (by omega) (by omega)]; exact .inr ⟨hs, ht, h99, hr, rfl⟩
    · rw [if_neg ht]; exact .inl ⟨9, rfl, by omega⟩
  · rw [if_neg hs]; exact .inl ⟨9, rfl, by omega⟩
theorem mv_bad (v : Int) (l : List Int) (s t : Int) (ho : ¬ mapOk v l = true) : mapMv v l s t = (0, [], 9) := by
  unfold mapMv; rw [if_neg ho]
theorem rd_set_ne (l : List Int) (i j t : Int) (hi : 0 ≤ i) (hj : 0 ≤ j) (h : i ≠ j) : rd (l.set i.toNat t) j = rd l j := by
  have : i.toNat ≠ j.toNat := by omega
  simp [rd, List.getD_eq_getElem?_getD, List.getElem?_set_ne this]
theorem rd_set_eq (l : List Int) (i t : Int) (h : i.toNat < l.length) : rd (l.set i.toNat t) i = t := by
  simp [rd, List.getD_eq_getElem?_getD, h]
theorem mv_turn (v : Int) (l : List Int) (s t o a : Int) (ho : mapOk v l = true) (h0 : (mapMv v l s t).2.2 = 0) (hne : s ≠ o) (y z : Int × List Int × Int) (hy : mapMv (mapMv v l s t).1 (mapMv v l s t).2.1 o a = y) (hz : mapMv v l o a = z) :
    (y.2.2 = 0 ∧ z.2.2 = 0 ∧ mapMv z.1 z.2.1 s t = y) ∨ (¬ (y.2.2 = 0 ∧ z.2.2 = 0) ∧ (y.2.2 = z.2.2 ∨ y.2.2 = 2)) := by
  rcases mv_cases v l s t ho with ⟨c, hc, hc0⟩ | ⟨hs, ht, h99, hr, hm⟩
  · rw [hc] at h0; exact absurd h0 hc0
  have hmo := mapMv_ok v l s t ho
  rw [hm] at hy hmo
  simp only at hy hmo
  have hv := mapOk_ver ho
  subst hy hz
  by_cases hso : 0 ≤ o ∧ o ≤ 7
  · by_cases hta : 0 ≤ a ∧ a ≤ 2
    · have hro : rd (l.set s.toNat t) o = rd l o := rd_set_ne l s o t hs.1 hso.1 hne
      by_cases h98 : v + 1 = 99
      · right
        have e : (mapMv (v + 1) (l.set s.toNat t) o a).2.2 = 2 := by
          unfold mapMv moved; rw [if_pos hmo, if_pos hso, if_pos hta, if_pos h98]
        exact ⟨fun z => by rw [e] at z; omega, .inr e⟩
      · by_cases hra : rd l o = a
        · right
          have e : (mapMv (v + 1) (l.set s.toNat t) o a).2.2 = 3 := by
            unfold mapMv moved; rw [if_pos hmo, if_pos hso, if_pos hta, if_neg h98, if_pos (by rw [hro]; exact hra)]
          have e2 : (mapMv v l o a).2.2 = 3 := by
            unfold mapMv moved; rw [if_pos ho, if_pos hso, if_pos hta, if_neg h99, if_pos hra]
          exact ⟨fun z => by rw [e] at z; omega, .inl (by rw [e, e2])⟩
        · left
          have e : mapMv (v + 1) (l.set s.toNat t) o a = (v + 1 + 1, (l.set s.toNat t).set o.toNat a, 0) := by
            unfold mapMv moved; rw [if_pos hmo, if_pos hso, if_pos hta, if_neg h98, if_neg (by rw [hro]; exact hra), wrap_in (by omega) (by omega)]
          have e2 : mapMv v l o a = (v + 1, l.set o.toNat a, 0) := by
            unfold mapMv moved; rw [if_pos ho, if_pos hso, if_pos hta, if_neg h99, if_neg hra, wrap_in (by omega) (by omega)]
          have hzo := mapMv_ok v l o a ho
          rw [e2] at hzo
          simp only at hzo
          rw [e, e2]
          refine ⟨rfl, rfl, ?_⟩
          simp only
          unfold mapMv moved
          rw [if_pos hzo, if_pos hs, if_pos ht, if_neg h98, if_neg (by rw [rd_set_ne l o s a hso.1 hs.1 (fun e => hne e.symm)]; exact hr), wrap_in (by omega) (by omega), List.set_comm _ _ (by omega)]
    · right
      have e : (mapMv (v + 1) (l.set s.toNat t) o a).2.2 = 9 := by
        unfold mapMv moved; rw [if_pos hmo, if_pos hso, if_neg hta]
      have e2 : (mapMv v l o a).2.2 = 9 := by
        unfold mapMv moved; rw [if_pos ho, if_pos hso, if_neg hta]
      exact ⟨fun z => by rw [e] at z; omega, .inl (by rw [e, e2])⟩
  · right
    have e : (mapMv (v + 1) (l.set s.toNat t) o a).2.2 = 9 := by
      unfold mapMv moved; rw [if_pos hmo, if_neg hso]
    have e2 : (mapMv v l o a).2.2 = 9 := by
      unfold mapMv moved; rw [if_pos ho, if_neg hso]
    exact ⟨fun z => by rw [e] at z; omega, .inl (by rw [e, e2])⟩
end Go.Proofs.Ytnpmepaiigbhlaa.PB
