/- The law FnMapKeys (P11): of a drawn map each key has just one house, that of its slot; no condition but that the bytes can be read. -/
import Derived.Test.YtnpmepaiigbhlaaMapDraw
import Derived.Test.YtnpmepaiigbhlaaMapPb
import Derived.Test.YtnpmepaiigbhlaaPXx35
import Derived.Test.YtnpmepaiigbhlaaPXx18
namespace Go.Proofs.Ytnpmepaiigbhlaa.Pure
open Go.RowKit Go.Proofs.Ytnpmepaiigbhlaa.PX Go.Proofs.YtnpmepaiigbhlaaW.PrintWords Go.Proofs.YtnpmepaiigbhlaaW.PrintLast Go.Proofs.Ytnpmepaiigbhlaa.PB
set_option linter.unusedVariables false
set_option linter.unusedSimpArgs false
theorem DrawMapOk_ev (code : List Int) (h : ∀ x ∈ code, (Lit.int .u8 x).wf = true) : ∃ (v : Int) (l : List Int), Ev (fun k => spec_DrawMapOk.f k code) (v, l) ∧ l.length ≤ 8 := by
  obtain ⟨b, ho, hs⟩ := open_eq code h
  obtain ⟨v, l, p, hm, hl, p0, p1⟩ := l72Map_ev b 0 hs (by omega) (by omega)
  unfold spec_DrawMapOk.f
  exact ⟨_, _, Ev.eq ho (Ev.bind hm (Ev.ret rfl)), hl⟩
theorem house_in (v : Int) (l : List Int) (h : mapOk v l = true) (s : Int) (h0 : 0 ≤ s) (h7 : s ≤ 7) : 0 ≤ rd l s := by
  have h8 := mapOk_len h
  have : s.toNat < l.length := by omega
  have hin : rd l s = l[s.toNat] := by simp [rd, List.getD_eq_getElem?_getD, List.getElem?_eq_getElem this]
  have ha := h
  simp only [mapOk, Bool.and_eq_true, List.all_eq_true] at ha
  have hb := ha.2 _ (List.getElem_mem this)
  simp only [houseB, decide_eq_true_eq] at hb
  omega
def slotOf (x : Int) : Int := if 0 ≤ x ∧ x ≤ 31 then x * 8 / 32 else -1
theorem house_sign (v : Int) (l : List Int) (x : Int) : (0 ≤ houseOf v l x ↔ mapOk v l = true ∧ 0 ≤ x ∧ x ≤ 31) := by
  unfold houseOf
  by_cases h : mapOk v l = true ∧ 0 ≤ x ∧ x ≤ 31
  · rw [if_pos h]
    exact ⟨fun _ => h, fun _ => house_in v l h.1 _ (by omega) (by omega)⟩
  · rw [if_neg h]
    exact ⟨fun z => by omega, fun z => absurd z h⟩
theorem house_same (v : Int) (l : List Int) (x : Int) (h0 : 0 < x) (hx : x ≤ 32) (h : slotOf x = slotOf (x - 1)) : houseOf v l x = houseOf v l (x - 1) := by
  unfold slotOf at h
  unfold houseOf
  by_cases h31 : x ≤ 31
  · rw [if_pos (show 0 ≤ x ∧ x ≤ 31 by omega), if_pos (show 0 ≤ x - 1 ∧ x - 1 ≤ 31 by omega)] at h
    by_cases ho : mapOk v l = true
    · rw [if_pos (show mapOk v l = true ∧ 0 ≤ x ∧ x ≤ 31 from ⟨ho, by omega, by omega⟩), if_pos (show mapOk v l = true ∧ 0 ≤ x - 1 ∧ x - 1 ≤ 31 from ⟨ho, by omega, by omega⟩), h]
    · rw [if_neg (fun z => ho z.1), if_neg (fun z => ho z.1)]
  · rw [if_neg (show ¬ (0 ≤ x ∧ x ≤ 31) by omega), if_pos (show 0 ≤ x - 1 ∧ x - 1 ≤ 31 by omega)] at h
    omega
theorem slot_up (x : Int) (h0 : 0 < x) (h : 0 ≤ slotOf x) : ¬ slotOf x < slotOf (x - 1) := by
  unfold slotOf at *
  by_cases h1 : 0 ≤ x ∧ x ≤ 31
  · rw [if_pos h1, if_pos (show 0 ≤ x - 1 ∧ x - 1 ≤ 31 by omega)]
    omega
  · rw [if_neg h1] at h; omega
theorem keys_loop (v : Int) (l : List Int) (hl : l.length ≤ 8) : ∀ n : Nat, n ≤ 34 → Ev (fun k => laws_FnMapKeys.l0 k (mapOk v l) ((n : Int) - 1) v l) true := by
  refine loop_down 34 ?_ ?_
  · exact Ev.step (fun k => by rw [laws_FnMapKeys.l0]) (Ev.neg (by decide) (Ev.ret rfl))
  · intro n hn ih
    generalize hx : ((n : Int) - 1) = x
    have hw : wrap64 (x + 1) = ((n + 1 : Nat) : Int) - 1 := by rw [wrap_in (by omega) (by omega)]; omega
    have hw1 : wrap64 (x - 1) = x - 1 := wrap_in (by omega) (by omega)
    have hsg := house_sign v l x
    have ih' : Ev (fun k => laws_FnMapKeys.l0 k (mapOk v l) (wrap64 (x + 1)) v l) true := by rw [hw]; exact ih
    have hj : Ev (fun k => laws_FnMapKeys.j2 k (mapOk v l) x (houseOf v l x) (slotOf x) false v l) true := by
      refine Ev.step (fun k => by rw [laws_FnMapKeys.j2]) (Ev.neg (by decide) ?_)
      by_cases h0 : x > 0
      · refine Ev.pos h0 ?_
        rw [hw1]
        refine Ev.eq (MapSlot_eq' (x - 1)) ?_
        by_cases hs : slotOf x = slotOf (x - 1)
        · refine Ev.pos hs (Ev.bind (impl_MapHouse_ev v l (x - 1) (by omega)) (Ev.pos (house_same v l x h0 (by omega) hs) ?_))
          by_cases hp : slotOf x ≥ 0
          · exact Ev.pos hp (Ev.eq (MapSlot_eq' (x - 1)) (Ev.neg (slot_up x h0 hp) ih'))
          · exact Ev.neg hp ih'
        · refine Ev.neg hs ?_
          by_cases hp : slotOf x ≥ 0
          · exact Ev.pos hp (Ev.eq (MapSlot_eq' (x - 1)) (Ev.neg (slot_up x h0 hp) ih'))
          · exact Ev.neg hp ih'
      · refine Ev.neg h0 ?_
        by_cases hp : slotOf x ≥ 0
        · exact Ev.pos hp ih'
        · exact Ev.neg hp ih'
    refine Ev.step (fun k => by rw [laws_FnMapKeys.l0]) (Ev.pos (by omega) (Ev.bind (impl_MapHouse_ev v l x (by omega)) (Ev.eq (MapSlot_eq' x) (Ev.bind (spec_MapHouse_ev v l x (by omega)) (Ev.pos rfl (Ev.eq (MapSlot_eq x) (Ev.pos rfl ?_)))))))
    cases ho : mapOk v l with
    | true =>
      rw [ho] at hj hsg
      refine Ev.pos rfl ?_
      by_cases hx0 : x ≥ 0
      · refine Ev.pos hx0 ?_
        have e : (decide (houseOf v l x ≥ 0) != decide (x < 32)) = false := by
          by_cases h : x < 32
          · have : houseOf v l x ≥ 0 := hsg.2 ⟨rfl, by omega, by omega⟩
            simp [h, this]
          · have : ¬ houseOf v l x ≥ 0 := fun z => h (by have := hsg.1 z; omega)
            simp [h, this]
        rw [e]; exact hj
      · refine Ev.neg hx0 ?_
        have e : (decide (houseOf v l x ≥ 0) != false) = false := by
          have : ¬ houseOf v l x ≥ 0 := fun z => hx0 (by have := hsg.1 z; omega)
          simp [this]
        rw [e]; exact hj
    | false =>
      rw [ho] at hj hsg
      refine Ev.neg (by decide) ?_
      have e : (decide (houseOf v l x ≥ 0) != false) = false := by
        have : ¬ houseOf v l x ≥ 0 := fun z => by have := hsg.1 z; simp at this
        simp [this]
      rw [e]; exact hj
theorem FnMapKeys : laws_FnMapKeys.Pure := by
  intro code hlen _ hb
  refine Ev.rounds (g := fun k => laws_FnMapKeys.f k code) ?_
  unfold laws_FnMapKeys.f
  by_cases h : (code.length : Int) > 1048576
  · exact Ev.pos h (Ev.ret rfl)
  refine Ev.neg h ?_
  obtain ⟨v, l, hd, hl⟩ := DrawMapOk_ev code hb
  refine Ev.bind hd (Ev.bind (spec_MapOk_ev v l (by first | omega | (simp only; omega))) (Ev.bind (impl_MapOk_ev v l (by first | omega | (simp only; omega))) (Ev.neg (by simp) ?_)))
  have hst : Ev (fun k => (impl_MapStart.f).bind fun a => ((spec_MapStart.f k).bind fun b => ((laws_loMap.f k a.1 a.2 b.1 b.2).bind fun t => (laws_FnMapKeys.j0 k (mapOk v l) (!t) v l)))) true := by
    have hi : ∃ a, impl_MapStart.f = some a ∧ a = ((1 : Int), [0, 1, 2, 0, 1, 2, 0, 1]) := ⟨_, rfl, by decide +kernel⟩
    obtain ⟨a, ha, rfl⟩ := hi
    refine Ev.eq ha (Ev.bind MapStart_ev (Ev.bind (loMap_ev _ _ _ _ (by decide)) ?_))
    refine Ev.step (f := fun k => laws_FnMapKeys.l0 k (mapOk v l) (-1) v l) (fun k => by simp [laws_FnMapKeys.j0]) ?_
    exact keys_loop v l hl 0 (by omega)
  exact hst
end Go.Proofs.Ytnpmepaiigbhlaa.Pure
