/- More of what a run comes to. -/
import Derived.Test.YtdjiclhjficgfaaDealDraw
namespace Go.Proofs.Ytdjiclhjficgfaa.PB
open Go.RowKit Go.Proofs.Ytdjiclhjficgfaa.PX Go.Proofs.YtdjiclhjficgfaaW.PrintWords Go.Proofs.YtdjiclhjficgfaaW.PrintLast
set_option linter.unusedVariables false
set_option linter.unusedSimpArgs false
theorem runOf_fail (l : List S46) (m : List S48) (h : (runOf l m).1 ≠ 0) : (runOf l m).2.1 = [] ∧ (runOf l m).2.2 = [] := by
  by_cases hy : dealOk l = true ∧ PairsOk m
  · rw [runOf_yes hy] at h ⊢
    unfold runOut at h ⊢
    simp only at h ⊢
    split
    · rename_i h0; rw [if_pos h0] at h; exact absurd rfl h
    · exact ⟨rfl, rfl⟩
  · rw [runOf_no hy]; exact ⟨rfl, rfl⟩
/-- A run from the start. -/
def run0 (l : List S46) (m : List S48) : Int × List Int × List Bool × List Int := runFrom l (prPutAll prZeros m) falses []
theorem runOf_good {l : List S46} {m : List S48} (h : dealOk l = true ∧ PairsOk m) : runOf l m = if (run0 l m).1 = 0 then (0, (run0 l m).2.2.2, chOut (run0 l m).2.1 (run0 l m).2.2.1 32) else ((run0 l m).1, [], []) := by
  rw [runOf_yes h]; rfl
theorem good_key {l : List S46} (h : dealOk l = true) : ∀ s ∈ l, 0 ≤ s.f1 ∧ s.f1 ≤ 31 := by
  intro s hs
  obtain ⟨i, hi, rfl⟩ := List.getElem_of_mem hs
  exact ((stOk_iff _).1 ((dealOk_st h).2.2 i hi)).1
theorem first_of {m : List S48} (h : PairsOk m) (j : Int) (hj : 0 ≤ j ∧ j ≤ 31) : firstOf m j = (prPutAll prZeros m).getD j.toNat 0 := by
  have := same_start h j.toNat (by omega)
  rwa [Int.toNat_of_nonneg hj.1] at this
theorem outs_ok (p : Nat → Bool) (f : Nat → Int) (h : ∀ j : Nat, j < 32 → p j = true → -9999 ≤ f j ∧ f j ≤ 9999) : PairsOk (((List.range 32).filter p).map (fun j : Nat => (⟨(j : Int), f j⟩ : S48))) := by
  have hm : ∀ q ∈ ((List.range 32).filter p).map (fun j : Nat => (⟨(j : Int), f j⟩ : S48)), ∃ j : Nat, j < 32 ∧ p j = true ∧ q = ⟨(j : Int), f j⟩ := by
    intro q hq
    obtain ⟨j, hj, rfl⟩ := List.mem_map.1 hq
    obtain ⟨h1, h2⟩ := List.mem_filter.1 hj
    exact ⟨j, List.mem_range.1 h1, h2, rfl⟩
  refine pairsOk_of ?_ ?_ ?_ ?_
  · rw [List.length_map]; exact Nat.le_trans (List.length_filter_le _ _) (by simp)
  · intro q hq
    obtain ⟨j, hj, _, rfl⟩ := hm q hq
    simp only; omega
  · intro q hq
    obtain ⟨j, hj, hp, rfl⟩ := hm q hq
    exact h j hj hp
  · rw [List.pairwise_map]
    refine List.Pairwise.filter _ (List.pairwise_lt_range.imp ?_)
    intro a b hab
    simp only; omega
def InR (a : List Int) : Prop := a.length = 32 ∧ ∀ j : Nat, j < 32 → -9999 ≤ a.getD j 0 ∧ a.getD j 0 ≤ 9999
theorem InR.start {m : List S48} (h : PairsOk m) : InR (prPutAll prZeros m) := by
  refine ⟨by rw [prPutAll_length]; rfl, fun j hj => ?_⟩
  rw [← same_start h j hj, first_last _ _ h.asc]
  exact lastOf_in _ _ _ h.vals (by omega)
theorem InR.set {a : List Int} (h : InR a) (k : Nat) (y : Int) (hy : -9999 ≤ y ∧ y ≤ 9999) : InR (a.set k y) := by
  refine ⟨by rw [List.length_set]; exact h.1, fun j hj => ?_⟩
  by_cases hjk : k = j
  · subst hjk
    have : (a.set k y).getD k 0 = y := by simp [List.getD_eq_getElem?_getD, List.getElem?_set, h.1, hj]
    rw [this]; exact hy
  · have : (a.set k y).getD j 0 = a.getD j 0 := by simp [List.getD_eq_getElem?_getD, List.getElem?_set, hjk]
    rw [this]; exact h.2 j hj
theorem chOut_ok {a : List Int} {c : List Bool} (h : InR a) : PairsOk (chOut a c 32) := outs_ok _ _ (fun j hj _ => h.2 j hj)
theorem putArr_in {l m : List S48} (hl : PairsOk l) (hm : PairsOk m) : InR (putArr l m) := by
  refine ⟨by unfold putArr; rw [prPutAll_length, prPutAll_length]; rfl, fun j hj => ?_⟩
  rw [putArr_at l m hl hm j hj, first_last _ _ hl.asc]
  exact lastOf_in _ _ _ hm.vals (lastOf_in _ _ _ hl.vals (by omega))
theorem prOut_ok {a : List Int} (h : InR a) : PairsOk (prOut a 32) := outs_ok _ _ (fun j hj _ => h.2 j hj)
end Go.Proofs.Ytdjiclhjficgfaa.PB
