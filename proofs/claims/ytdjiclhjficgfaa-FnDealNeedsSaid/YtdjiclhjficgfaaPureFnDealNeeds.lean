/- A deal that only needs is done just if all that it needs is there. -/
import Derived.Test.YtdjiclhjficgfaaRunPb
import Derived.Test.YtdjiclhjficgfaaPXx26
namespace Go.Proofs.Ytdjiclhjficgfaa.Pure
open Go.RowKit Go.Proofs.Ytdjiclhjficgfaa.PX Go.Proofs.YtdjiclhjficgfaaW.PrintWords Go.Proofs.YtdjiclhjficgfaaW.PrintLast Go.Proofs.Ytdjiclhjficgfaa.PB
set_option linter.unusedVariables false
set_option linter.unusedSimpArgs false
def there (a : List Int) (l : List S46) : Bool := l.all (fun s => decide (a.getD s.f1.toNat 0 ≥ s.f2))
theorem run_needs (l : List S46) (hl : ∀ s ∈ l, s.f0 = 4) : ∀ (a : List Int) (c : List Bool) (g : List Int), (runFrom l a c g).2.1 = a ∧ (runFrom l a c g).2.2.1 = c ∧ (runFrom l a c g).2.2.2 = g ∧ (runFrom l a c g).1 = if there a l = true then 0 else 1 := by
  induction l with
  | nil => intro a c g; exact ⟨rfl, rfl, rfl, rfl⟩
  | cons s l ih =>
    intro a c g
    have h1 := hl s (by simp)
    have ih := ih (fun t ht => hl t (by simp [ht]))
    have n1 : ¬ s.f0 = 1 := by omega
    have n2 : ¬ s.f0 = 2 := by omega
    have n3 : ¬ s.f0 = 3 := by omega
    have et : there a (s :: l) = (decide (a.getD s.f1.toNat 0 ≥ s.f2) && there a l) := rfl
    unfold runFrom
    by_cases hlt : a.getD s.f1.toNat 0 < s.f2
    · have e1 : stepCode s a = 1 := by unfold stepCode; rw [if_neg n1, if_neg n2, if_neg n3, if_pos hlt]
      rw [if_neg (by omega), et, decide_eq_false (by omega)]
      exact ⟨rfl, rfl, rfl, e1⟩
    · have e1 : stepCode s a = 0 := by unfold stepCode; rw [if_neg n1, if_neg n2, if_neg n3, if_neg hlt]
      have e2 : stepVals s a = a := by unfold stepVals; rw [if_neg n1, if_neg n2, if_neg n3]
      have e3 : stepChg s c = c := by unfold stepChg; rw [if_neg n1, if_neg n2, if_neg n3]
      have e4 : stepGot s a g = g := by unfold stepGot; rw [if_neg n1]
      rw [if_pos e1, e2, e3, e4, et, decide_eq_true (show a.getD s.f1.toNat 0 ≥ s.f2 by omega), Bool.true_and]
      exact ih a c g
def needs (l : List S46) : List S46 := l.filter (fun s => decide (s.f0 = 4))
theorem needs_l0 (l : List S46) (m : List S48) (hl : l.length ≤ 7) (hfin : ∀ i : Int, (l.length : Int) ≤ i → Ev (fun k => laws_FnDealNeeds.l0 k l m (needs l) i) true) :
    ∀ i, i ≤ l.length → ∀ z : List S46, z.length ≤ i → z ++ needs (l.drop i) = needs l → Ev (fun k => laws_FnDealNeeds.l0 k l m z (i : Int)) true := by
  refine loop_down l.length ?_ ?_
  · intro z hz he
    rw [List.drop_of_length_le (Nat.le_refl _)] at he
    have he : z ++ [] = needs l := he
    rw [List.append_nil] at he
    rw [he]
    exact hfin _ (by omega)
  · intro i hi ih z hz he
    have hrd : rd_T46 l (i : Int) = l[i] := rdSt_lt hi
    have hw : wrap64 ((i : Int) + 1) = ((i + 1 : Nat) : Int) := wrap_in (by omega) (by omega)
    rw [List.drop_eq_getElem_cons hi] at he
    unfold needs at he
    rw [List.filter_cons] at he
    refine Ev.step (fun k => by rw [laws_FnDealNeeds.l0]) ?_
    refine Ev.pos (by omega) (Ev.pos (by omega) ?_)
    rw [hrd, hw]
    by_cases h1 : l[i].f0 = 4
    · rw [if_pos (by simp [h1])] at he
      refine Ev.pos h1 (Ev.pos (show z.length < 5864062014805 by omega) (ih _ (by simp; omega) ?_))
      rw [List.append_assoc]; exact he
    · rw [if_neg (by simp [h1])] at he
      exact Ev.neg h1 (ih z (by omega) he)
theorem needs_l1 (m : List S48) (d : List S46) (a : List Int) (n : Int) (hd : d.length ≤ 7) (hm : m.length ≤ 13) (hs : ∀ s ∈ d, firstOf m s.f1 = a.getD s.f1.toNat 0) :
    ∀ i, i ≤ d.length → ∀ b : Bool, (n == 0) = (b && there a (d.drop i)) → Ev (fun k => laws_FnDealNeeds.l1 k m d n [] [] b (i : Int)) true := by
  refine loop_down d.length ?_ ?_
  · intro b hb
    rw [List.drop_of_length_le (Nat.le_refl _)] at hb
    have hb : (n == 0) = (b && true) := hb
    rw [Bool.and_true] at hb
    refine Ev.step (fun k => by rw [laws_FnDealNeeds.l1]) ?_
    refine Ev.neg (by omega) (Ev.pos ?_ (Ev.ret ?_))
    · exact wrap_in (x := 0) (by omega) (by omega)
    · rw [hb]; simp
  · intro i hi ih b hb
    have hrd : rd_T46 d (i : Int) = d[i] := rdSt_lt hi
    have hw : wrap64 ((i : Int) + 1) = ((i + 1 : Nat) : Int) := wrap_in (by omega) (by omega)
    rw [List.drop_eq_getElem_cons hi] at hb
    have et : there a (d[i] :: d.drop (i + 1)) = (decide (a.getD d[i].f1.toNat 0 ≥ d[i].f2) && there a (d.drop (i + 1))) := rfl
    rw [et] at hb
    refine Ev.step (fun k => by rw [laws_FnDealNeeds.l1]) ?_
    refine Ev.pos (by omega) ?_
    rw [hrd, hw]
    cases b with
    | true =>
      refine Ev.pos rfl (Ev.pos (by omega) (Ev.bind (loGet_ev m _ (by omega)) ?_))
      rw [hs _ (List.getElem_mem hi)]
      exact ih _ (by rw [hb, Bool.true_and])
    | false => exact Ev.neg (by decide) (ih false (by rw [hb]; rfl))
theorem FnDealNeeds : laws_FnDealNeeds.Pure := by
  intro l0 _ _ hb
  refine Ev.rounds (g := fun k => laws_FnDealNeeds.f k l0) ?_
  unfold laws_FnDealNeeds.f
  by_cases h0 : (l0.length : Int) > 1048576
  · exact Ev.pos h0 (Ev.ret rfl)
  refine Ev.neg h0 ?_
  obtain ⟨l, m, hd, hl, hm⟩ := DrawDealRun_ev l0 hb
  refine Ev.bind hd (needs_l0 l m hl ?_ 0 (by omega) [] (by simp) rfl)
  intro i hi
  have hp := runOf_lens (needs l) m
  have hdl : (needs l).length ≤ 7 := Nat.le_trans (List.length_filter_le _ _) hl
  have hda : ∀ s ∈ needs l, s.f0 = 4 := by
    intro s hs
    have := (List.mem_filter.1 hs).2
    simpa using this
  have li := loInts_ev (runOf (needs l) m).2.1 (by omega)
  have lp := loPairs_ev (runOf (needs l) m).2.2 (by omega)
  refine Ev.step (fun k => by rw [laws_FnDealNeeds.l0]) ?_
  refine Ev.neg (by omega) ?_
  refine Ev.bind (spec_DealRun_ev _ m) (Ev.bind (impl_DealRun_ev _ m) ?_)
  refine Ev.pos rfl (Ev.bind li (Ev.pos rfl (Ev.bind lp (Ev.pos rfl ?_))))
  by_cases hy : dealOk (needs l) = true ∧ PairsOk m
  · have hr := runOf_good hy
    obtain ⟨r1, r2, r3, r4⟩ := run_needs (needs l) hda (prPutAll prZeros m) falses []
    have r1 : (run0 (needs l) m).2.1 = prPutAll prZeros m := r1
    have r2 : (run0 (needs l) m).2.2.1 = falses := r2
    have r3 : (run0 (needs l) m).2.2.2 = [] := r3
    have r4 : (run0 (needs l) m).1 = if there (prPutAll prZeros m) (needs l) = true then 0 else 1 := r4
    have hall : ∃ n : Int, runOf (needs l) m = (n, [], []) ∧ n ≠ 9 ∧ (n == 0) = there (prPutAll prZeros m) (needs l) := by
      rw [r1, r2, r3, ch_start] at hr
      cases ht : there (prPutAll prZeros m) (needs l) with
      | true =>
        rw [ht, if_pos rfl] at r4
        rw [if_pos r4] at hr
        exact ⟨0, hr, by decide, rfl⟩
      | false =>
        rw [ht, if_neg (by decide)] at r4
        rw [if_neg (by omega), r4] at hr
        exact ⟨1, hr, by decide, rfl⟩
    obtain ⟨n, hn, h9, hq⟩ := hall
    rw [hn]
    have q9 : (n == 9) = false := beq_eq_false_iff_ne.mpr h9
    simp only
    rw [q9]
    refine Ev.step (fun k => by rw [laws_FnDealNeeds.j1]) ?_
    refine Ev.neg (by decide) ?_
    refine needs_l1 m (needs l) (prPutAll prZeros m) n hdl hm (fun s hs => first_of hy.2 _ (good_key hy.1 s hs)) 0 (by omega) true ?_
    rw [List.drop_zero, Bool.true_and]; exact hq
  · rw [runOf_no hy] at li lp ⊢
    refine Ev.step (fun k => by rw [laws_FnDealNeeds.j1]) ?_
    refine Ev.pos rfl (Ev.pos rfl ?_)
    exact Ev.bind li (Ev.pos rfl (Ev.bind lp (Ev.ret rfl)))
end Go.Proofs.Ytdjiclhjficgfaa.Pure
