/- What the reference's LockFirm comes to (firmOf), and the plain numbers of what LockAsk, LockFree and LockFirm leave. -/
import Derived.Test.YtjldpnhlegbjkaaSpecPa
import Derived.Test.YtjldpnhlegbjkaaS3
import Derived.Test.YtjldpnhlegbjkaaS4
import Derived.Test.YtjldpnhlegbjkaaPAx36
import Derived.Test.YtjldpnhlegbjkaaPAx26
import Derived.Test.YtjldpnhlegbjkaaPAx15
import Derived.Test.YtjldpnhlegbjkaaPAx16
namespace Go.Proofs.Ytjldpnhlegbjkaa.PB
open Go.RowKit Go.Proofs.Ytjldpnhlegbjkaa.PA Go.Proofs.YtjldpnhlegbjkaaW.PrintWords Go.Proofs.YtjldpnhlegbjkaaW.PrintLast
set_option linter.unusedVariables false
set_option linter.unusedSimpArgs false
theorem lock_len {s : Int} {l1 l2 : List S45} (h : ¬ (lockB s l1 l2 = false)) : l1.length + l2.length ≤ 16 := by
  have h' : lockB s l1 l2 = true := by simpa using h
  unfold lockB at h'
  simp only [Bool.and_eq_true, decide_eq_true_eq] at h'
  exact h'.2.1
theorem lock_asc2' {s : Int} {l1 l2 : List S45} (h : lockB s l1 l2 = true) : Asc l1 ∧ l1.length + l2.length ≤ 16 := by
  refine ⟨?_, lock_len (by rw [h]; exact Bool.noConfusion)⟩
  unfold lockB at h
  simp only [Bool.and_eq_true, decide_eq_true_eq] at h
  have h3 := h.2.2.1
  unfold holdsB at h3
  rw [Bool.and_eq_true] at h3
  exact of_decide_eq_true h3.2
def firmed (h : List S45) (t : Int) : List S45 := h.set (placeOf h t).toNat (⟨(rd_T45 h (placeOf h t)).f0, (rd_T45 h (placeOf h t)).f1, (rd_T45 h (placeOf h t)).f2, true⟩ : S45)
def firmOf (s : Int) (h w : List S45) (t y : Int) : Int × List S45 × List S45 × Bool :=
  if lockB s h w = true then (if hasOf h t = true then (if (rd_T45 h (placeOf h t)).f1 = y then (s, firmed h t, w, true) else (s, h, w, false)) else (s, h, w, false)) else (0, [], [], false)
theorem spec_firm_ev (s : Int) (h w : List S45) (t y : Int) (hh : h.length ≤ 1048576) (hw : w.length ≤ 1048576) : Ev (fun k => spec_LockFirm.f k s h w t y) (firmOf s h w t y) := by
  unfold spec_LockFirm.f firmOf
  refine Ev.eq (show impl_LockOk.f s h w = some (lockB s h w) from if_pos ⟨hh, hw⟩) ?_
  by_cases q : lockB s h w = true
  · refine Ev.pos q ?_
    rw [if_pos q]
    obtain ⟨ha, hl⟩ := lock_asc2' q
    refine Ev.eq (copy_eq s h w hh hw) (Ev.bind (l11At_ev h t hh ha) ?_)
    by_cases c : hasOf h t = true
    · have hp := place_in c
      rw [if_pos c, if_pos c]
      refine Ev.neg (by omega) (Ev.pos hp.1 (Ev.pos hp.2 ?_))
      by_cases e : (rd_T45 h (placeOf h t)).f1 = y
      · exact Ev.pos e (Ev.ret (by rw [if_pos e]; rfl))
      · exact Ev.neg e (Ev.ret (by rw [if_neg e]))
    · rw [if_neg c, if_neg c]
      exact Ev.pos (by decide) (Ev.ret rfl)
  · rw [if_neg q]
    exact Ev.neg q (Ev.ret rfl)
theorem firm_len (s : Int) (l1 l2 : List S45) (t y : Int) : (firmOf s l1 l2 t y).2.1.length ≤ 16 ∧ (firmOf s l1 l2 t y).2.2.1.length ≤ 16 := by
  unfold firmOf firmed
  split
  · rename_i h
    have hl := lock_len (s := s) (l1 := l1) (l2 := l2) (by rw [h]; exact Bool.noConfusion)
    split
    · split
      · simp only [List.length_set]; omega
      · simp only; omega
    · simp only; omega
  · simp
theorem ask_len (s : Int) (l1 l2 : List S45) (x : S45) : (askF s l1 l2 x).2.1.length ≤ 17 ∧ (askF s l1 l2 x).2.2.1.length ≤ 17 := by
  unfold askF
  split
  · simp
  · rename_i h
    have hl := lock_len h
    split
    · simp only; omega
    · split
      · simp only; omega
      · split
        · simp only; omega
        · unfold tailF
          have f1 : ∀ (p q : S45 → Bool), ((l1.filter p).filter q).length ≤ l1.length := fun p q => Nat.le_trans (List.length_filter_le _ _) (List.length_filter_le _ _)
          have f2 : ∀ (p : S45 → Bool), (l2.filter p).length ≤ l2.length := fun p => List.length_filter_le _ _
          split
          · simp only; omega
          · split
            · simp only [put_length]
              have a1 := f1 (fun y => !decide (y.f0 = x.f0)) (fun y => !tkB x y)
              have a2 := f2 (fun y => !decide (y.f0 = x.f0))
              omega
            · simp only [put_length]
              have a1 := f1 (fun y => !decide (y.f0 = x.f0)) (fun y => !tkB x y)
              have a2 := f2 (fun y => !decide (y.f0 = x.f0))
              omega
theorem step_len (l : List S45) : ∀ p : List S45 × List S45 × List S45, (l.foldl stepF p).1.length ≤ p.1.length + l.length ∧ (l.foldl stepF p).2.1.length ≤ p.2.1.length := by
  induction l with
  | nil => intro p; simp
  | cons x m ih =>
    intro p
    rw [List.foldl_cons]
    have h := ih (stepF p x)
    have h2 : (stepF p x).1.length ≤ p.1.length + 1 ∧ (stepF p x).2.1.length ≤ p.2.1.length := by
      unfold stepF
      split
      · simp only [put_length]
        exact ⟨Nat.le_refl _, List.length_filter_le _ _⟩
      · exact ⟨by omega, Nat.le_refl _⟩
    simp only [List.length_cons]
    omega
theorem free_len (s : Int) (l1 l2 : List S45) (t y : Int) : (freeF s l1 l2 t y).2.1.length ≤ 32 ∧ (freeF s l1 l2 t y).2.2.1.length ≤ 32 := by
  unfold freeF
  split
  · simp
  · rename_i h
    have hl := lock_len h
    have h1 := step_len (l2.filter (fun z => !goneB t y z)) (l1.filter (fun z => !goneB t y z), l2.filter (fun z => !goneB t y z), [])
    have h2 := List.length_filter_le (fun z => !goneB t y z) l1
    have h3 := List.length_filter_le (fun z => !goneB t y z) l2
    simp only at h1 ⊢
    omega
end Go.Proofs.Ytjldpnhlegbjkaa.PB
