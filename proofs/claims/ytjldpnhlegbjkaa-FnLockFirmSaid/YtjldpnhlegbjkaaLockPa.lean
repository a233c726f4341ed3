/- Words for what the reference's LockOk comes to. -/
import Derived.Test.YtjldpnhlegbjkaaBase
import Derived.Test.YtjldpnhlegbjkaaPAx26
import Derived.Test.YtjldpnhlegbjkaaPAx13
import Derived.Test.YtjldpnhlegbjkaaPAx12
namespace Go.Proofs.Ytjldpnhlegbjkaa.PB
open Go.RowKit Go.Proofs.Ytjldpnhlegbjkaa.PA Go.Proofs.YtjldpnhlegbjkaaW.PrintWords Go.Proofs.YtjldpnhlegbjkaaW.PrintLast
set_option linter.unusedVariables false
set_option linter.unusedSimpArgs false
theorem l6In_eq (n a b : Int) : spec_l6In.f n a b = some (decide (a ≤ n ∧ n ≤ b)) := by
  unfold spec_l6In.f
  by_cases h : a ≤ n <;> simp [h]
theorem all_drop {α : Type} (p : α → Bool) (l : List α) (i : Nat) (h : i < l.length) : (l.drop i).all p = (p l[i] && (l.drop (i + 1)).all p) := by
  rw [List.drop_eq_getElem_cons h]; rfl
theorem rng_drop (p : Nat → Bool) (n i : Nat) (h : i < n) : ((List.range n).drop i).all p = (p i && ((List.range n).drop (i + 1)).all p) := by
  rw [all_drop _ _ _ (by simpa using h), List.getElem_range]
theorem rng_end (p : Nat → Bool) (n : Nat) : ((List.range n).drop n).all p = true := by
  rw [List.drop_of_length_le (by simp)]; rfl
theorem shold_eq (h : S45) : spec_l11HoldOk.f h.f0 h.f1 h.f2 h.f3 = some (holdB h) := by
  unfold spec_l11HoldOk.f holdB
  rw [l6In_eq, l6In_eq]
  by_cases h1 : 1 ≤ h.f0 ∧ h.f0 ≤ 9999
  · simp [h1]
  · simp [h1]
theorem smeet_eq (a b : S45) : spec_l11Meet.f a.f0 a.f1 a.f2 a.f3 b.f0 b.f1 b.f2 b.f3 = some (meetB a b) := by
  unfold spec_l11Meet.f meetB
  by_cases h1 : a.f0 = b.f0
  · simp [h1]
  · cases h2 : a.f2 <;> cases h3 : b.f2 <;> simp [h1, h2, h3]
def waitB (h w : List S45) (j : Nat) : Bool := holdB (rd_T45 w (j : Int)) && (!(rd_T45 w (j : Int)).f3 && ((decide (j = 0) || decide ((rd_T45 w ((j - 1 : Nat) : Int)).f0 < (rd_T45 w (j : Int)).f0)) && h.all (fun a => !decide (a.f0 = (rd_T45 w (j : Int)).f0))))
def heldB (h : List S45) (j : Nat) : Bool := holdB (rd_T45 h (j : Int)) && (decide (j = 0) || (decide ((rd_T45 h ((j - 1 : Nat) : Int)).f0 < (rd_T45 h (j : Int)).f0) && !meetB (rd_T45 h 0) (rd_T45 h (j : Int))))
theorem rng_all {p : Nat → Bool} {n : Nat} : (List.range n).all p = true ↔ ∀ j, j < n → p j = true := by
  rw [List.all_eq_true]
  exact ⟨fun h j hj => h j (List.mem_range.2 hj), fun h j hj => h j (List.mem_range.1 hj)⟩
theorem all_rd {l : List S45} {p : S45 → Bool} : l.all p = true ↔ ∀ j, j < l.length → p (rd_T45 l (j : Int)) = true := by
  rw [List.all_eq_true]
  constructor
  · intro h j hj; rw [rdH hj]; exact h _ (List.getElem_mem hj)
  · intro h x hx
    obtain ⟨j, hj, rfl⟩ := List.getElem_of_mem hx
    have := h j hj
    rwa [rdH hj] at this
theorem asc_iff (l : List S45) : Asc l ↔ ∀ j, j < l.length → 0 < j → (rd_T45 l ((j - 1 : Nat) : Int)).f0 < (rd_T45 l (j : Int)).f0 :=
  ⟨fun h j hj h0 => (asc_of l).2 h j (by omega) hj h0, fun h => (asc_of l).1 (fun j _ hj h0 => h j hj h0)⟩
theorem has_all (h : List S45) (t : Int) : h.all (fun a => !decide (a.f0 = t)) = !hasOf h t := by
  unfold hasOf
  induction h with
  | nil => rfl
  | cons a l ih => rw [List.all_cons, List.any_cons, ih, Bool.not_or]
theorem waits_eq (h w : List S45) : (List.range w.length).all (waitB h w) = (holdsB w && w.all (fun x => !hasOf h x.f0 && !x.f3)) := by
  rw [Bool.eq_iff_iff, rng_all]
  unfold holdsB
  rw [Bool.and_eq_true, Bool.and_eq_true, decide_eq_true_iff, all_rd, all_rd, asc_iff]
  unfold waitB
  simp only [has_all, Bool.and_eq_true, Bool.or_eq_true, decide_eq_true_eq]
  constructor
  · intro q
    exact ⟨⟨fun j hj => (q j hj).1, fun j hj h0 => ((q j hj).2.2.1).resolve_left (by omega)⟩, fun j hj => ⟨(q j hj).2.2.2, (q j hj).2.1⟩⟩
  · rintro ⟨⟨q1, q2⟩, q3⟩ j hj
    refine ⟨q1 j hj, (q3 j hj).2, ?_, (q3 j hj).1⟩
    by_cases h0 : j = 0
    · exact Or.inl h0
    · exact Or.inr (q2 j hj (by omega))
theorem meet_no (a b : S45) : meetB a b = false ↔ a.f0 = b.f0 ∨ (a.f2 = true ∧ b.f2 = true) := by
  unfold meetB
  by_cases h : a.f0 = b.f0
  · simp [h]
  · simp [h]
theorem held_eq (h : List S45) : (List.range h.length).all (heldB h) = (holdsB h && h.all (fun a => !h.any (meetB a))) := by
  rw [Bool.eq_iff_iff, rng_all]
  unfold holdsB
  rw [Bool.and_eq_true, Bool.and_eq_true, decide_eq_true_iff, all_rd, all_rd, asc_iff]
  unfold heldB
  simp only [Bool.and_eq_true, Bool.or_eq_true, decide_eq_true_eq, Bool.not_eq_true']
  constructor
  · intro q
    have hasc : ∀ j, j < h.length → 0 < j → (rd_T45 h ((j - 1 : Nat) : Int)).f0 < (rd_T45 h (j : Int)).f0 := fun j hj h0 => (((q j hj).2).resolve_left (by omega)).1
    refine ⟨⟨fun j hj => (q j hj).1, hasc⟩, fun j hj => ?_⟩
    rw [List.any_eq_false]
    intro b hb
    obtain ⟨i, hi, rfl⟩ := List.getElem_of_mem hb
    rw [← rdH hi, Bool.not_eq_true, meet_no]
    by_cases hij : i = j
    · subst hij; exact Or.inl rfl
    · right
      have hA := (asc_iff h).2 hasc
      have sh : ∀ x : Nat, x < h.length → 0 < x → (rd_T45 h 0).f2 = true ∧ (rd_T45 h (x : Int)).f2 = true := by
        intro x hx h0
        have h1 := (((q x hx).2).resolve_left (by omega)).2
        rw [meet_no] at h1
        refine h1.resolve_left (fun e => ?_)
        have h2 : (rd_T45 h ((0 : Nat) : Int)).f0 < (rd_T45 h (x : Int)).f0 := asc_lt hA h0 hx
        have e' : (rd_T45 h ((0 : Nat) : Int)).f0 = (rd_T45 h (x : Int)).f0 := e
        omega
      have all : ∀ x : Nat, x < h.length → 2 ≤ h.length → (rd_T45 h (x : Int)).f2 = true := by
        intro x hx h2
        by_cases h0 : x = 0
        · subst h0; exact (sh 1 (by omega) (by omega)).1
        · exact (sh x hx (by omega)).2
      exact ⟨all j hj (by omega), all i hi (by omega)⟩
  · rintro ⟨⟨q1, q2⟩, q3⟩ j hj
    refine ⟨q1 j hj, ?_⟩
    by_cases h0 : j = 0
    · exact Or.inl h0
    · refine Or.inr ⟨q2 j hj (by omega), ?_⟩
      have h1 := q3 0 (by omega)
      rw [List.any_eq_false] at h1
      have h2 := h1 _ (List.getElem_mem hj)
      rw [← rdH hj] at h2
      simpa using h2
end Go.Proofs.Ytjldpnhlegbjkaa.PB
