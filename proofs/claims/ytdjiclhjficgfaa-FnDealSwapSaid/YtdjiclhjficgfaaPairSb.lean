/- The program's put of pairs and the reference's come to the same. -/
import Derived.Test.YtdjiclhjficgfaaPairSa
import Derived.Test.YtdjiclhjficgfaaPXx10
import Derived.Test.YtdjiclhjficgfaaPXx3
namespace Go.Proofs.Ytdjiclhjficgfaa.PB
open Go.RowKit Go.Proofs.Ytdjiclhjficgfaa.PX Go.Proofs.YtdjiclhjficgfaaW.PrintWords Go.Proofs.YtdjiclhjficgfaaW.PrintLast
set_option linter.unusedVariables false
set_option linter.unusedSimpArgs false
def lastOf (l : List S48) (j d : Int) : Int := l.foldl (fun d p => if p.f0 = j then p.f1 else d) d
def firstOf : List S48 → Int → Int
  | [], _ => 0
  | p :: l, j => if p.f0 = j then p.f1 else firstOf l j
theorem lastOf_cons (p : S48) (l : List S48) (j d : Int) : lastOf (p :: l) j d = lastOf l j (if p.f0 = j then p.f1 else d) := rfl
theorem lastOf_none (l : List S48) (j d : Int) (h : ∀ p ∈ l, p.f0 ≠ j) : lastOf l j d = d := by
  induction l with
  | nil => rfl
  | cons p l ih =>
    rw [lastOf_cons, if_neg (h p (by simp))]
    exact ih (fun q hq => h q (by simp [hq]))
theorem first_last (l : List S48) (j : Int) (h : l.Pairwise (fun p q => p.f0 < q.f0)) : firstOf l j = lastOf l j 0 := by
  induction l with
  | nil => rfl
  | cons p l ih =>
    rw [List.pairwise_cons] at h
    rw [lastOf_cons]
    unfold firstOf
    by_cases hp : p.f0 = j
    · rw [if_pos hp, if_pos hp, lastOf_none]
      intro q hq
      have := h.1 q hq
      omega
    · rw [if_neg hp, if_neg hp]
      exact ih h.2
theorem lastOf_const (l : List S48) (j : Int) : (∀ d, lastOf l j d = d) ∨ (∃ c, ∀ d, lastOf l j d = c) := by
  induction l with
  | nil => exact .inl fun d => rfl
  | cons p l ih =>
    by_cases hp : p.f0 = j
    · exact .inr ⟨lastOf l j p.f1, fun d => by rw [lastOf_cons, if_pos hp]⟩
    · rcases ih with h | ⟨c, h⟩
      · exact .inl fun d => by rw [lastOf_cons, if_neg hp, h]
      · exact .inr ⟨c, fun d => by rw [lastOf_cons, if_neg hp, h]⟩
theorem lastOf_idem (l : List S48) (j d : Int) : lastOf l j (lastOf l j d) = lastOf l j d := by
  rcases lastOf_const l j with h | ⟨c, h⟩
  · rw [h, h]
  · rw [h, h]
theorem lastOf_in (l : List S48) (j d : Int) (hl : ∀ p ∈ l, -9999 ≤ p.f1 ∧ p.f1 ≤ 9999) (hd : -9999 ≤ d ∧ d ≤ 9999) : -9999 ≤ lastOf l j d ∧ lastOf l j d ≤ 9999 := by
  induction l generalizing d with
  | nil => exact hd
  | cons p l ih =>
    rw [lastOf_cons]
    refine ih _ (fun q hq => hl q (by simp [hq])) ?_
    by_cases hp : p.f0 = j
    · rw [if_pos hp]; exact hl p (by simp)
    · rw [if_neg hp]; exact hd
theorem PairsOk.keys {l : List S48} (h : PairsOk l) : ∀ p ∈ l, 0 ≤ p.f0 ∧ p.f0 ≤ 31 := by
  intro p hp
  obtain ⟨i, hi, rfl⟩ := List.getElem_of_mem hp
  exact (h.2 i hi).1
theorem PairsOk.vals {l : List S48} (h : PairsOk l) : ∀ p ∈ l, -9999 ≤ p.f1 ∧ p.f1 ≤ 9999 := by
  intro p hp
  obtain ⟨i, hi, rfl⟩ := List.getElem_of_mem hp
  exact (h.2 i hi).2.1
theorem PairsOk.keysIn {l : List S48} (h : PairsOk l) : prKeysIn l = true := by
  unfold prKeysIn
  rw [List.all_eq_true]
  intro p hp
  have := h.keys p hp
  exact decide_eq_true (by omega)
theorem PairsOk.asc {l : List S48} (h : PairsOk l) : l.Pairwise (fun p q => p.f0 < q.f0) := by
  rw [List.pairwise_iff_getElem]
  intro i j hi hj hij
  have key : ∀ d, ∀ (hd : i + d + 1 < l.length), l[i].f0 < l[i + d + 1].f0 := by
    intro d
    induction d with
    | zero => intro hd; have := (h.2 (i + 0 + 1) hd).2.2 (by omega); simpa using this
    | succ d ih =>
      intro hd
      have h1 := ih (by omega)
      have h2 := (h.2 (i + (d + 1) + 1) hd).2.2 (by omega)
      simp only [show i + (d + 1) + 1 - 1 = i + d + 1 by omega] at h2
      omega
  have := key (j - i - 1) (by omega)
  simpa only [show i + (j - i - 1) + 1 = j by omega] using this
theorem pairsOk_of {l : List S48} (hl : l.length ≤ 32) (hk : ∀ p ∈ l, 0 ≤ p.f0 ∧ p.f0 ≤ 31) (hv : ∀ p ∈ l, -9999 ≤ p.f1 ∧ p.f1 ≤ 9999) (ha : l.Pairwise (fun p q => p.f0 < q.f0)) : PairsOk l := by
  refine ⟨hl, fun j h => ⟨hk _ (List.getElem_mem h), hv _ (List.getElem_mem h), fun h0 => ?_⟩⟩
  exact (List.pairwise_iff_getElem.1 ha) (j - 1) j (by omega) h (by omega)
theorem putAll_at (j : Nat) (hj : j < 32) : ∀ (l : List S48) (a : List Int), a.length = 32 → (∀ p ∈ l, 0 ≤ p.f0 ∧ p.f0 ≤ 31) → (prPutAll a l).getD j 0 = lastOf l (j : Int) (a.getD j 0) := by
  intro l
  induction l with
  | nil => intro a _ _; rfl
  | cons p l ih =>
    intro a ha hk
    have h1 := hk p (by simp)
    show (prPutAll (a.set p.f0.toNat p.f1) l).getD j 0 = _
    rw [ih _ (by simpa using ha) (fun q hq => hk q (by simp [hq])), lastOf_cons]
    congr 1
    by_cases hp : p.f0 = j
    · rw [if_pos hp, show p.f0.toNat = j by omega]
      simp [List.getD_eq_getElem?_getD, ha, hj]
    · rw [if_neg hp]
      have : p.f0.toNat ≠ j := by omega
      simp [List.getD_eq_getElem?_getD, this]
theorem zeros_at (j : Nat) (hj : j < 32) : prZeros.getD j 0 = 0 := by
  have key : ∀ j, j < 32 → prZeros.getD j 0 = 0 := by decide
  exact key j hj
theorem l1Get_ev (l : List S48) (j : Int) (hl : l.length ≤ 1048576) : Ev (fun k => spec_l1Get.f k l j) (firstOf l j) := by
  unfold spec_l1Get.f
  have key : ∀ i, i ≤ l.length → Ev (fun k => spec_l1Get.l0 k l j (i : Int)) (firstOf (l.drop i) j) := by
    refine loop_down l.length ?_ ?_
    · refine Ev.step (f := fun _ => some 0) (fun k => ?_) (Ev.ret (by rw [List.drop_of_length_le (Nat.le_refl _)]; rfl))
      simp only [spec_l1Get.l0]; rw [if_neg (by omega)]
    · intro i hi ih
      refine Ev.step (f := fun k => if l[i].f0 = j then some l[i].f1 else spec_l1Get.l0 k l j ((i + 1 : Nat) : Int)) (fun k => ?_) ?_
      · simp only [spec_l1Get.l0]; rw [if_pos (by omega), if_pos (by omega), rd58_lt hi, wrap_in (by omega) (by omega)]; rfl
      · rw [List.drop_eq_getElem_cons hi]
        unfold firstOf
        by_cases h : l[i].f0 = j
        · rw [if_pos h]; exact Ev.pos h (Ev.ret rfl)
        · rw [if_neg h]; exact Ev.neg h ih
  simpa using key 0 (by omega)
def putArr (l m : List S48) : List Int := prPutAll (prPutAll prZeros l) m
theorem putArr_at (l m : List S48) (hl : PairsOk l) (hm : PairsOk m) (j : Nat) (hj : j < 32) : (putArr l m).getD j 0 = lastOf m (j : Int) (firstOf l (j : Int)) := by
  unfold putArr
  rw [putAll_at j hj m _ (by rw [prPutAll_length]; rfl) hm.keys, putAll_at j hj l _ rfl hl.keys, zeros_at j hj, first_last _ _ hl.asc]
end Go.Proofs.Ytdjiclhjficgfaa.PB
