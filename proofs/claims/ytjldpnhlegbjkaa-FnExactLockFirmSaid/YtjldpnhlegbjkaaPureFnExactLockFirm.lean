/- The law FnExactLockFirm: the program's LockFirm answers as the reference's, leaves its arguments as they were, and hands back memory of its own; no condition but what the row says of what came in. -/
import Derived.Test.YtjldpnhlegbjkaaLockPc
import Derived.Test.YtjldpnhlegbjkaaPZx16
import Derived.Test.YtjldpnhlegbjkaaPZx14
import Derived.Test.YtjldpnhlegbjkaaPZx7
import Derived.Test.YtjldpnhlegbjkaaPZx6
import Derived.Test.YtjldpnhlegbjkaaPZx10
namespace Go.Proofs.Ytjldpnhlegbjkaa.Pure
open Go.RowKit Go.Proofs.Ytjldpnhlegbjkaa.PZ Go.Proofs.YtjldpnhlegbjkaaW.PrintWords Go.Proofs.YtjldpnhlegbjkaaW.PrintLast Go.Proofs.Ytjldpnhlegbjkaa.PB
set_option linter.unusedVariables false
set_option linter.unusedSimpArgs false
theorem l11At_ev (h : List S45) (t : Int) (hl : h.length ≤ 1048576) (hs : Asc h) : Ev (fun k => spec_l11At.f k h t) (if hasOf h t = true then placeOf h t else -1) := by
  unfold spec_l11At.f
  have key : ∀ i, i ≤ h.length → (∀ j : Nat, j < i → (rd_T45 h (j : Int)).f0 ≠ t) → Ev (fun k => spec_l11At.l0 k h t (i : Int)) (if hasOf h t = true then placeOf h t else -1) := by
    refine loop_down h.length ?_ ?_
    · intro hn
      refine Ev.step (fun k => by rw [spec_l11At.l0]) ?_
      refine Ev.neg (by omega) (Ev.ret ?_)
      have : hasOf h t = false := by
        unfold hasOf
        rw [List.any_eq_false]
        intro x hx
        obtain ⟨j, hj, rfl⟩ := List.getElem_of_mem hx
        have := hn j hj
        rw [rdH hj] at this
        simpa using this
      rw [this]; rfl
    · intro i hi ih hn
      have hw : wrap64 ((i : Int) + 1) = ((i + 1 : Nat) : Int) := wrap_in (by omega) (by omega)
      refine Ev.step (fun k => by rw [spec_l11At.l0]) ?_
      refine Ev.pos (by omega) (Ev.pos (by omega) ?_)
      rw [hw]
      by_cases he : (rd_T45 h (i : Int)).f0 = t
      · refine Ev.pos he (Ev.ret ?_)
        have h1 : ∀ x : Nat, x < i → (rd_T45 h (x : Int)).f0 < t := fun x hx => by have := asc_lt hs hx hi; omega
        have h2 : ∀ x : Nat, i ≤ x → x < h.length → t ≤ (rd_T45 h (x : Int)).f0 := fun x hx hxl => by
          rcases Nat.lt_or_ge i x with q | q
          · have := asc_lt hs q hxl; omega
          · rw [show x = i by omega]; omega
        rw [has_at t i h1 h2 hs hi, decide_eq_true he, if_pos rfl, place_at t i (by omega) h1 h2]
      · refine Ev.neg he (ih (fun j hj => ?_))
        by_cases hji : j = i
        · subst hji; exact he
        · exact hn j (by omega)
  exact key 0 (by omega) (fun j hj => absurd hj (by omega))
theorem lock_asc {s : Int} {h w : List S45} (q : lockB s h w = true) : Asc h ∧ h.length + w.length ≤ 16 := by
  unfold lockB at q
  simp only [Bool.and_eq_true, decide_eq_true_eq] at q
  have h3 := q.2.2.1
  unfold holdsB at h3
  rw [Bool.and_eq_true] at h3
  exact ⟨of_decide_eq_true h3.2, q.2.1⟩
theorem copy_eq (s : Int) (h w : List S45) (hh : h.length ≤ 1048576) (hw : w.length ≤ 1048576) : spec_l11Copy.f s h w = some (s, h, w) := by
  unfold spec_l11Copy.f
  simp only [Option.bind_some, List.nil_append, List.length_nil, Nat.zero_add]
  rw [if_pos (by omega), if_pos (by omega)]
theorem clone_eq (s : Int) (h w : List S45) (hh : h.length ≤ 1048576) (hw : w.length ≤ 1048576) : impl_lockClone.f s h w = some (s, h, w) := by
  unfold impl_lockClone.f impl_Hold_56.f
  rw [if_pos (by omega), if_pos (by omega)]; rfl
def firmed (h : List S45) (t : Int) : List S45 := h.set (placeOf h t).toNat (⟨(rd_T45 h (placeOf h t)).f0, (rd_T45 h (placeOf h t)).f1, (rd_T45 h (placeOf h t)).f2, true⟩ : S45)
def firmOf (s : Int) (h w : List S45) (t y : Int) : Int × List S45 × List S45 × Bool :=
  if lockB s h w = true then (if hasOf h t = true then (if (rd_T45 h (placeOf h t)).f1 = y then (s, firmed h t, w, true) else (s, h, w, false)) else (s, h, w, false)) else (0, [], [], false)
theorem place_in {h : List S45} {t : Int} (q : hasOf h t = true) : 0 ≤ placeOf h t ∧ placeOf h t < (h.length : Int) := by
  unfold placeOf
  refine ⟨by omega, ?_⟩
  have h1 : (h.filter (fun x => decide (x.f0 < t))).length < h.length := by
    rw [← List.countP_eq_length_filter]
    refine Nat.lt_of_le_of_ne List.countP_le_length (fun e => ?_)
    have h2 := List.countP_eq_length.1 e
    unfold hasOf at q
    obtain ⟨x, hx, hxt⟩ := List.any_eq_true.1 q
    have h3 := of_decide_eq_true (h2 x hx)
    have h4 := of_decide_eq_true hxt
    omega
  omega
theorem impl_firm_eq (s : Int) (h w : List S45) (t y : Int) (hh : h.length ≤ 1048576) (hw : w.length ≤ 1048576) : impl_LockFirm.f s h w t y = some (firmOf s h w t y) := by
  unfold impl_LockFirm.f firmOf
  rw [impl_LockOk_eq s h w hh hw, Option.bind_some]
  by_cases q : lockB s h w = true
  · rw [if_pos q, if_pos q, clone_eq s h w hh hw, Option.bind_some]
    obtain ⟨ha, hl⟩ := lock_asc q
    simp only
    rw [place_eq t ha (by omega), Option.bind_some]
    simp only
    by_cases c : hasOf h t = true
    · have hp := place_in c
      rw [if_pos c, if_pos c, if_pos hp.1, if_pos hp.2]
      split <;> rfl
    · rw [if_neg c, if_neg c]
  · rw [if_neg q, if_neg q]
theorem spec_firm_ev (s : Int) (h w : List S45) (t y : Int) (hh : h.length ≤ 1048576) (hw : w.length ≤ 1048576) : Ev (fun k => spec_LockFirm.f k s h w t y) (firmOf s h w t y) := by
  unfold spec_LockFirm.f firmOf
  refine Ev.bind (spec_LockOk_ev s h w hh hw) ?_
  by_cases q : lockB s h w = true
  · refine Ev.pos q ?_
    rw [if_pos q]
    obtain ⟨ha, hl⟩ := lock_asc q
    refine Ev.eq (copy_eq s h w hh hw) (Ev.bind (l11At_ev h t hh ha) ?_)
    by_cases c : hasOf h t = true
    · have hp := place_in c
      rw [if_pos c, if_pos c]
      refine Ev.neg (by omega) (Ev.pos hp.1 (Ev.pos hp.2 ?_))
      by_cases e : (rd_T45 h (placeOf h t)).f1 = y
      · exact Ev.pos e (Ev.ret (by rw [if_pos e]; rfl))
      · exact Ev.neg e (Ev.ret (by rw [if_neg e]))
    · rw [if_neg c, if_neg c]
      exact Ev.pos (by decide) (Ev.ret rfl)
  · rw [if_neg q]
    exact Ev.neg q (Ev.ret rfl)
theorem firm_len (s : Int) (h w : List S45) (t y : Int) (hh : h.length ≤ 1048576) (hw : w.length ≤ 1048576) : (firmOf s h w t y).2.1.length ≤ 1048576 ∧ (firmOf s h w t y).2.2.1.length ≤ 1048576 := by
  unfold firmOf firmed
  split
  · split
    · split
      · simpa using ⟨hh, hw⟩
      · exact ⟨hh, hw⟩
    · exact ⟨hh, hw⟩
  · simp
theorem FnExactLockFirm : laws_FnExactLockFirm.Pure := by
  intro s h w t y hB _ _
  have hx : maxLen = 9223372036854775807 := rfl
  have hh : h.length ≤ 9223372036854775807 := by have := hB; simp only [B24] at this; omega
  have hw : w.length ≤ 9223372036854775807 := by have := hB; simp only [B24] at this; omega
  clear hB
  refine Ev.rounds (g := fun k => laws_FnExactLockFirm.f k s h w t y) ?_
  unfold laws_FnExactLockFirm.f
  obtain ⟨z, hz, hzz⟩ := szLock_eq s h w hh hw
  refine Ev.eq hz ?_
  by_cases z0 : z < 0
  · exact Ev.pos z0 (Ev.ret rfl)
  have hb := hzz (by omega)
  have e1 := convH_len h
  have e2 := convH_len w
  have b1 : (convH h).length ≤ 1048576 := by omega
  have b2 : (convH w).length ≤ 1048576 := by omega
  have hto := toLock_ev s h w (by omega) (by omega)
  have hsp := spec_firm_ev s (convH h) (convH w) t y b1 b2
  have him := impl_firm_eq s (convH h) (convH w) t y b1 b2
  obtain ⟨l1, l2⟩ := firm_len s (convH h) (convH w) t y b1 b2
  generalize firmOf s (convH h) (convH w) t y = R at hsp him l1 l2
  obtain ⟨r0, r1, r2, r3⟩ := R
  simp only at l1 l2
  have heq := eqLock_ev r0 r1 r2 l1 l2
  have hne : ¬ ((r3 != r3) = true) := by simp
  have hmk := markLock_ev r0 r1 r2 1 (by omega) (by omega) l1 l2
  have hhe := heldLock_ev r0 r1.length r2.length 1 (by omega) (by omega) l1 l2
  refine Ev.neg z0 (Ev.bind hto (Ev.bind hsp (Ev.bind hto (Ev.eq him (Ev.bind heq (Ev.pos rfl ?_))))))
  refine Ev.step (fun k => by rw [laws_FnExactLockFirm.j0]) ?_
  refine Ev.neg hne (Ev.bind hto (Ev.bind (eqLock_ev s (convH h) (convH w) b1 b2) (Ev.pos rfl (Ev.bind (markLock_ev s (convH h) (convH w) 1 (by omega) (by omega) b1 b2) (Ev.neg (show ¬ (1 + 4 * ((convH h).length : Int) + 4 * ((convH w).length : Int) < 0) by omega) (Ev.bind heq (Ev.pos rfl ?_)))))))
  refine Ev.step (fun k => by rw [laws_FnExactLockFirm.j1]) ?_
  refine Ev.neg hne (Ev.bind hmk (Ev.bind hhe (Ev.neg (by omega) (Ev.pos rfl (Ev.bind hto (Ev.eq him (Ev.bind heq (Ev.pos rfl ?_))))))))
  refine Ev.step (fun k => by rw [laws_FnExactLockFirm.j2]) ?_
  exact Ev.neg hne (Ev.bind hhe (Ev.neg (by omega) (Ev.pos rfl (Ev.ret rfl))))
end Go.Proofs.Ytjldpnhlegbjkaa.Pure
