/- What MapSlot and MapHouse come to. -/
import Derived.Test.YtnpmepaiigbhlaaBase
import Derived.Test.YtnpmepaiigbhlaaMapPa
import Derived.Test.YtnpmepaiigbhlaaPXx11
import Derived.Test.YtnpmepaiigbhlaaPXx13
import Derived.Test.YtnpmepaiigbhlaaPXx10
import Derived.Test.YtnpmepaiigbhlaaPXx12
namespace Go.Proofs.Ytnpmepaiigbhlaa.PB
open Go.RowKit Go.Proofs.Ytnpmepaiigbhlaa.PX Go.Proofs.YtnpmepaiigbhlaaW.PrintWords Go.Proofs.YtnpmepaiigbhlaaW.PrintLast
set_option linter.unusedVariables false
theorem MapSlot_eq (s : Int) : spec_MapSlot.f s = some (if 0 ≤ s ∧ s ≤ 31 then s * 8 / 32 else -1) := by
  unfold spec_MapSlot.f
  rw [l6In_eq]
  by_cases h : 0 ≤ s ∧ s ≤ 31
  · simp only [Option.bind_some, if_pos h, decide_eq_true h, if_true]
    rw [show wrap64 (s * 8) = s * 8 from wrap_in (by omega) (by omega), Int.tdiv_eq_ediv_of_nonneg (by omega), wrap_in (by omega) (by omega)]
  · simp [h]
theorem MapSlot_eq' (s : Int) : impl_MapSlot.f s = some (if 0 ≤ s ∧ s ≤ 31 then s * 8 / 32 else -1) := by
  unfold impl_MapSlot.f impl_isKey.f
  rw [within_eq]
  by_cases h : 0 ≤ s ∧ s ≤ 31
  · simp only [Option.bind_some, if_pos h, decide_eq_true h, if_true]
    rw [show wrap64 (s * 8) = s * 8 from wrap_in (by omega) (by omega), Int.tdiv_eq_ediv_of_nonneg (by omega), wrap_in (by omega) (by omega)]
  · simp [h]
def houseOf (v : Int) (l : List Int) (key : Int) : Int := if mapOk v l = true ∧ 0 ≤ key ∧ key ≤ 31 then rd l (key * 8 / 32) else -1
theorem spec_MapHouse_ev (v : Int) (l : List Int) (key : Int) (hl : l.length ≤ 1048576) : Ev (fun k => spec_MapHouse.f k v l key) (houseOf v l key) := by
  unfold spec_MapHouse.f houseOf
  refine Ev.bind (spec_MapOk_ev v l (by omega)) ?_
  by_cases h : mapOk v l = true
  · have h8 := mapOk_len h
    refine Ev.pos h (Ev.eq (MapSlot_eq key) ?_)
    by_cases hk : 0 ≤ key ∧ key ≤ 31
    · have hh : mapOk v l = true ∧ 0 ≤ key ∧ key ≤ 31 := ⟨h, hk⟩
      rw [if_pos hk, if_pos hh]
      exact Ev.neg (by omega) (Ev.pos (by omega) (Ev.ret rfl))
    · have hh : ¬ (mapOk v l = true ∧ 0 ≤ key ∧ key ≤ 31) := fun z => hk z.2
      rw [if_neg hk, if_neg hh]
      exact Ev.pos (by omega) (Ev.ret rfl)
  · have hh : ¬ (mapOk v l = true ∧ 0 ≤ key ∧ key ≤ 31) := fun z => h z.1
    rw [if_neg hh]
    exact Ev.neg h (Ev.ret rfl)
theorem impl_MapHouse_ev (v : Int) (l : List Int) (key : Int) (hl : l.length ≤ 1048576) : Ev (fun k => impl_MapHouse.f k v l key) (houseOf v l key) := by
  unfold impl_MapHouse.f houseOf
  refine Ev.bind (impl_MapOk_ev v l (by omega)) (Ev.eq (MapSlot_eq' key) ?_)
  by_cases h : mapOk v l = true
  · have h8 := mapOk_len h
    refine Ev.pos h (Ev.pos h8 ?_)
    by_cases hk : 0 ≤ key ∧ key ≤ 31
    · have hh : mapOk v l = true ∧ 0 ≤ key ∧ key ≤ 31 := ⟨h, hk⟩
      rw [if_pos hk, if_pos hh]
      exact Ev.pos (by omega) (Ev.ret rfl)
    · have hh : ¬ (mapOk v l = true ∧ 0 ≤ key ∧ key ≤ 31) := fun z => hk z.2
      rw [if_neg hk, if_neg hh]
      exact Ev.neg (by omega) (Ev.ret rfl)
  · have hh : ¬ (mapOk v l = true ∧ 0 ≤ key ∧ key ≤ 31) := fun z => h z.1
    rw [if_neg hh]
    exact Ev.neg h (Ev.ret rfl)
end Go.Proofs.Ytnpmepaiigbhlaa.PB
