/- The law FnPairsPut (P7): of drawn pairs what is put is there, and nothing else changes; no condition but that the bytes can be read. -/
import Derived.Test.YtnpmepaiigbhlaaPairDraw
import Derived.Test.YtnpmepaiigbhlaaPXx37
namespace Go.Proofs.Ytnpmepaiigbhlaa.Pure
open Go.RowKit Go.Proofs.Ytnpmepaiigbhlaa.PX Go.Proofs.YtnpmepaiigbhlaaW.PrintWords Go.Proofs.YtnpmepaiigbhlaaW.PrintLast Go.Proofs.Ytnpmepaiigbhlaa.PB
set_option linter.unusedVariables false
set_option linter.unusedSimpArgs false
theorem firstOf_append (l m : List S58) (j : Int) (h : ∀ p ∈ l, p.f0 ≠ j) : firstOf (l ++ m) j = firstOf m j := by
  induction l with
  | nil => rfl
  | cons p l ih =>
    show (if p.f0 = j then p.f1 else firstOf (l ++ m) j) = _
    rw [if_neg (h p (by simp)), ih (fun q hq => h q (by simp [hq]))]
theorem firstOf_none (l : List S58) (j : Int) (h : ∀ p ∈ l, p.f0 ≠ j) : firstOf l j = 0 := by
  have := firstOf_append l [] j h
  simpa [firstOf] using this
theorem prOut_mem {a : List Int} {k : Nat} {p : S58} (h : p ∈ prOut a k) : ∃ j : Nat, j < k ∧ p = ⟨(j : Int), a.getD j 0⟩ := by
  unfold prOut at h
  rw [List.mem_map] at h
  obtain ⟨j, hj, rfl⟩ := h
  rw [List.mem_filter, List.mem_range] at hj
  exact ⟨j, hj.1, rfl⟩
theorem prOut_first (a : List Int) (n : Nat) : ∀ k, n < k → firstOf (prOut a k) (n : Int) = a.getD n 0 := by
  intro k
  induction k with
  | zero => intro h; omega
  | succ k ih =>
    intro h
    by_cases hk : n = k
    · subst hk
      by_cases hz : a.getD n 0 = 0
      · rw [prOut_zero _ _ hz, hz]
        refine firstOf_none _ _ fun p hp => ?_
        obtain ⟨j, hj, rfl⟩ := prOut_mem hp
        simp only; omega
      · rw [prOut_one _ _ hz, firstOf_append]
        · simp [firstOf]
        · intro p hp
          obtain ⟨j, hj, rfl⟩ := prOut_mem hp
          simp only; omega
    · have ih := ih (by omega)
      by_cases hz : a.getD k 0 = 0
      · rw [prOut_zero _ _ hz, ih]
      · rw [prOut_one _ _ hz]
        by_cases hn : ∀ p ∈ prOut a k, p.f0 ≠ (n : Int)
        · rw [firstOf_append _ _ _ hn]
          rw [firstOf_none _ _ hn] at ih
          rw [← ih]
          simp [firstOf]; omega
        · rw [← ih]
          have key : ∀ l : List S58, (¬ ∀ p ∈ l, p.f0 ≠ (n : Int)) → ∀ m, firstOf (l ++ m) n = firstOf l n := by
            intro l
            induction l with
            | nil => intro h; exact absurd (by simp) h
            | cons p l ihl =>
              intro h m
              show (if p.f0 = (n : Int) then p.f1 else firstOf (l ++ m) n) = (if p.f0 = (n : Int) then p.f1 else firstOf l n)
              by_cases hp : p.f0 = (n : Int)
              · rw [if_pos hp, if_pos hp]
              · rw [if_neg hp, if_neg hp]
                refine ihl (fun hq => h ?_) m
                intro q hq2
                rcases List.mem_cons.1 hq2 with rfl | hq2
                · exact hp
                · exact hq q hq2
          exact key _ hn _
theorem prOut_ok (a : List Int) (hv : ∀ j, j < 32 → -9999 ≤ a.getD j 0 ∧ a.getD j 0 ≤ 9999) : PairsOk (prOut a 32) := by
  refine pairsOk_of (prOut_length a 32) (fun p hp => ?_) (fun p hp => ?_) ?_
  · obtain ⟨j, hj, rfl⟩ := prOut_mem hp
    simp only; omega
  · obtain ⟨j, hj, rfl⟩ := prOut_mem hp
    exact hv j hj
  · unfold prOut
    rw [List.pairwise_map]
    refine List.Pairwise.filter _ ?_
    refine List.Pairwise.imp ?_ (List.pairwise_lt_range (n := 32))
    intro x y hxy
    simp only; omega
theorem ext_at {a b : List Int} (ha : a.length = 32) (hb : b.length = 32) (h : ∀ j, j < 32 → a.getD j 0 = b.getD j 0) : a = b := by
  refine List.ext_getElem (by omega) fun i h1 h2 => ?_
  have := h i (by omega)
  simpa [List.getD_eq_getElem?_getD, List.getElem?_eq_getElem h1, List.getElem?_eq_getElem h2] using this
theorem put_again (l m : List S58) (hl : PairsOk l) (hm : PairsOk m) : putOf (putOf l m) m = putOf l m := by
  have hlen : ∀ x y : List S58, (putArr x y).length = 32 := fun x y => by unfold putArr; rw [prPutAll_length, prPutAll_length]; rfl
  have hv : ∀ j, j < 32 → -9999 ≤ (putArr l m).getD j 0 ∧ (putArr l m).getD j 0 ≤ 9999 := by
    intro j hj
    rw [putArr_at l m hl hm j hj]
    refine lastOf_in _ _ _ hm.vals ?_
    rw [first_last _ _ hl.asc]
    exact lastOf_in _ _ _ hl.vals (by omega)
  have hok := prOut_ok _ hv
  rw [putOf_yes ⟨hl, hm⟩, putOf_yes ⟨hok, hm⟩]
  congr 1
  refine ext_at (hlen _ _) (hlen _ _) fun j hj => ?_
  rw [putArr_at _ m hok hm j hj, prOut_first _ _ _ hj, putArr_at l m hl hm j hj, lastOf_idem]
theorem FnPairsPut : laws_FnPairsPut.Pure := by
  intro code hlen _ hb
  refine Ev.rounds (g := fun k => laws_FnPairsPut.f k code) ?_
  unfold laws_FnPairsPut.f
  by_cases h : (code.length : Int) > 1048576
  · exact Ev.pos h (Ev.ret rfl)
  refine Ev.neg h ?_
  obtain ⟨l, m, hd, hl, hm⟩ := DrawPairsPut_ev code hb
  have hpl : (putOf l m).length ≤ 32 := by
    by_cases h : PairsOk l ∧ PairsOk m
    · rw [putOf_yes h]; exact prOut_length _ _
    · rw [putOf_no h]; simp
  refine Ev.bind hd (Ev.bind (spec_put_ev l m) (Ev.bind (impl_put_ev l m) (Ev.bind (loPairs_ev _ (by omega)) (Ev.pos rfl ?_))))
  refine Ev.step (fun k => by rw [laws_FnPairsPut.j0]) ?_
  by_cases h0 : (putOf l m).length = 0
  · exact Ev.pos (by simp [h0]) (Ev.bind (loPairs_ev _ (by omega)) (Ev.ret rfl))
  · refine Ev.neg (by simpa using h0) ?_
    have hok : PairsOk l ∧ PairsOk m := by
      by_cases h : PairsOk l ∧ PairsOk m
      · exact h
      · rw [putOf_no h] at h0; simp at h0
    have key : ∀ n : Nat, n ≤ 32 → Ev (fun k => laws_FnPairsPut.l0 k l m (putOf l m) (n : Int)) true := by
      refine loop_down 32 ?_ ?_
      · refine Ev.step (fun k => by rw [laws_FnPairsPut.l0]) (Ev.neg (by decide) (Ev.bind (impl_put_ev _ _) ?_))
        rw [put_again l m hok.1 hok.2]
        exact Ev.bind (loPairs_ev _ (by omega)) (Ev.ret rfl)
      · intro n hn ih
        refine Ev.step (fun k => by rw [laws_FnPairsPut.l0]) (Ev.pos (by omega) (Ev.bind (loGet_ev l n (by omega)) ?_))
        have hw : wrap64 ((n : Int) + 1) = ((n + 1 : Nat) : Int) := wrap_in (by omega) (by omega)
        have key : ∀ i, i ≤ m.length → ∀ x : Int, lastOf (m.drop i) n x = (putArr l m).getD n 0 → Ev (fun k => laws_FnPairsPut.l1 k l m (putOf l m) (n : Int) x (i : Int)) true := by
          refine loop_down m.length ?_ ?_
          · intro x hx
            rw [List.drop_of_length_le (Nat.le_refl _)] at hx
            have hx : x = (putArr l m).getD n 0 := hx
            have hfo : firstOf (putOf l m) (n : Int) = x := by rw [putOf_yes hok, prOut_first _ _ _ hn, hx]
            refine Ev.step (fun k => by rw [laws_FnPairsPut.l1]) ?_
            refine Ev.neg (by omega) (Ev.bind (loGet_ev _ n (by omega)) (Ev.pos hfo ?_))
            rw [hw]; exact ih
          · intro i hi ihi x hx
            rw [List.drop_eq_getElem_cons hi, lastOf_cons] at hx
            refine Ev.step (f := fun k => if m[i].f0 = (n : Int) then laws_FnPairsPut.l1 k l m (putOf l m) (n : Int) m[i].f1 ((i + 1 : Nat) : Int) else laws_FnPairsPut.l1 k l m (putOf l m) (n : Int) x ((i + 1 : Nat) : Int)) (fun k => ?_) ?_
            · simp only [laws_FnPairsPut.l1]; rw [if_pos (by omega), if_pos (by omega), rd58_lt hi, wrap_in (by omega) (by omega)]; rfl
            · by_cases h : m[i].f0 = (n : Int)
              · rw [if_pos h] at hx; exact Ev.pos h (ihi _ hx)
              · rw [if_neg h] at hx; exact Ev.neg h (ihi _ hx)
        refine key 0 (by omega) _ ?_
        rw [putArr_at l m hok.1 hok.2 n hn]; rfl
    exact key 0 (by omega)
end Go.Proofs.Ytnpmepaiigbhlaa.Pure
