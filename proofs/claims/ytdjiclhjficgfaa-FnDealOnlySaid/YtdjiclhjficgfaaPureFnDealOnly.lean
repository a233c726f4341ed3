/- A deal hangs on the keys that it names alone. -/
import Derived.Test.YtdjiclhjficgfaaRunPb
import Derived.Test.YtdjiclhjficgfaaPXx24
namespace Go.Proofs.Ytdjiclhjficgfaa.Pure
open Go.RowKit Go.Proofs.Ytdjiclhjficgfaa.PX Go.Proofs.YtdjiclhjficgfaaW.PrintWords Go.Proofs.YtdjiclhjficgfaaW.PrintLast Go.Proofs.Ytdjiclhjficgfaa.PB
set_option linter.unusedVariables false
set_option linter.unusedSimpArgs false
theorem getD_set {α : Type} (a : List α) (k j : Nat) (y d : α) (hk : k < a.length) : (a.set k y).getD j d = if j = k then y else a.getD j d := by
  by_cases h : j = k
  · subst h; simp [List.getD_eq_getElem?_getD, List.getElem?_set, hk]
  · rw [if_neg h]; simp [List.getD_eq_getElem?_getD, List.getElem?_set, show k ≠ j from fun e => h e.symm]
theorem run_only (K : Nat → Prop) (l : List S46) (hl : ∀ s ∈ l, K s.f1.toNat ∧ s.f1.toNat < 32) : ∀ (a b : List Int) (c : List Bool) (g : List Int), a.length = 32 → b.length = 32 → c.length = 32 → (∀ j : Nat, K j → a.getD j 0 = b.getD j 0) → (∀ j : Nat, c.getD j false = true → K j) →
    (runFrom l a c g).1 = (runFrom l b c g).1 ∧ (runFrom l a c g).2.2.2 = (runFrom l b c g).2.2.2 ∧ (runFrom l a c g).2.2.1 = (runFrom l b c g).2.2.1 ∧ (∀ j : Nat, K j → (runFrom l a c g).2.1.getD j 0 = (runFrom l b c g).2.1.getD j 0) ∧ (∀ j : Nat, (runFrom l a c g).2.2.1.getD j false = true → K j) := by
  induction l with
  | nil => intro a b c g _ _ _ h1 h2; exact ⟨rfl, rfl, rfl, h1, h2⟩
  | cons s l ih =>
    intro a b c g la lb lc h1 h2
    obtain ⟨hk, hk2⟩ := hl s (by simp)
    have ih := ih (fun t ht => hl t (by simp [ht]))
    have e := h1 _ hk
    have ec : stepCode s a = stepCode s b := by unfold stepCode; rw [e]
    have eg : stepGot s a g = stepGot s b g := by unfold stepGot; rw [e]
    have ea : (stepVals s a).length = 32 := by unfold stepVals; split; exact la; split; simpa using la; split; simpa using la; exact la
    have eb : (stepVals s b).length = 32 := by unfold stepVals; split; exact lb; split; simpa using lb; split; simpa using lb; exact lb
    have el : (stepChg s c).length = 32 := by unfold stepChg; split; exact lc; split; simpa using lc; split; simpa using lc; exact lc
    have ev : ∀ j : Nat, K j → (stepVals s a).getD j 0 = (stepVals s b).getD j 0 := by
      intro j hj
      have hj' := h1 j hj
      unfold stepVals
      split
      · exact hj'
      · split
        · rw [getD_set _ _ _ _ _ (by omega), getD_set _ _ _ _ _ (by omega), hj']
        · split
          · rw [getD_set _ _ _ _ _ (by omega), getD_set _ _ _ _ _ (by omega), hj', e]
          · exact hj'
    have eq : ∀ j : Nat, (stepChg s c).getD j false = true → K j := by
      intro j hj
      have put : (c.set s.f1.toNat true).getD j false = true → K j := by
        intro h
        rw [getD_set _ _ _ _ _ (by omega)] at h
        by_cases hjk : j = s.f1.toNat
        · rw [hjk]; exact hk
        · rw [if_neg hjk] at h; exact h2 j h
      unfold stepChg at hj
      split at hj
      · exact h2 j hj
      · split at hj
        · exact put hj
        · split at hj
          · exact put hj
          · exact h2 j hj
    unfold runFrom
    by_cases h0 : stepCode s a = 0
    · rw [if_pos h0, if_pos (ec ▸ h0), eg]
      exact ih _ _ _ _ ea eb el ev eq
    · rw [if_neg h0, if_neg (ec ▸ h0)]
      exact ⟨ec, rfl, rfl, h1, h2⟩
def named (d : List S46) (q : Int) : Bool := d.any (fun s => s.f1 == q)
def own (d : List S46) (m : List S48) : List S48 := m.filter (fun p => named d p.f0)
theorem first_own (d : List S46) (m : List S48) (q : Int) (h : named d q = true) : firstOf (own d m) q = firstOf m q := by
  induction m with
  | nil => rfl
  | cons p m ih =>
    unfold own at ih ⊢
    rw [List.filter_cons]
    conv => rhs; unfold firstOf
    by_cases hq : p.f0 = q
    · rw [if_pos (by rw [hq]; exact h), if_pos hq]
      conv => lhs; unfold firstOf
      rw [if_pos hq]
    · rw [if_neg hq]
      split
      · conv => lhs; unfold firstOf
        rw [if_neg hq]; exact ih
      · exact ih
theorem own_ok {d : List S46} {m : List S48} (h : PairsOk m) : PairsOk (own d m) :=
  pairsOk_of (Nat.le_trans (List.length_filter_le _ _) h.1) (fun p hp => h.keys p (List.mem_filter.1 hp).1) (fun p hp => h.vals p (List.mem_filter.1 hp).1) (h.asc.filter _)
theorem any_drop {α : Type} (p : α → Bool) (l : List α) (i : Nat) (h : i < l.length) : (l.drop i).any p = (p l[i] || (l.drop (i + 1)).any p) := by
  rw [List.drop_eq_getElem_cons h]; rfl
theorem only_l1 (d : List S46) (m : List S48) (n : Int) (g : List Int) (ch z : List S48) (i : Nat) (hi : i < m.length) (hd : d.length ≤ 7) (hm : m.length ≤ 13) (hz : z.length ≤ 13)
    (hc : Ev (fun k => laws_FnDealOnly.l0 k d m n g ch (if named d m[i].f0 = true then z ++ [m[i]] else z) ((i + 1 : Nat) : Int)) true) :
    ∀ j, j ≤ d.length → ∀ b : Bool, (b || (d.drop j).any (fun s => s.f1 == m[i].f0)) = named d m[i].f0 → Ev (fun k => laws_FnDealOnly.l1 k d m n g ch z (i : Int) b (j : Int)) true := by
  have hrm : rd_T48 m (i : Int) = m[i] := by simp [rd_T48, List.getD_eq_getElem?_getD, List.getElem?_eq_getElem hi]
  have hwi : wrap64 ((i : Int) + 1) = ((i + 1 : Nat) : Int) := wrap_in (by omega) (by omega)
  refine loop_down d.length ?_ ?_
  · intro b hb
    rw [List.drop_of_length_le (Nat.le_refl _)] at hb
    have hb : (b || false) = named d m[i].f0 := hb
    rw [Bool.or_false] at hb
    refine Ev.step (fun k => by rw [laws_FnDealOnly.l1]) ?_
    refine Ev.neg (by omega) ?_
    rw [hrm, hwi]
    rw [← hb] at hc
    cases b with
    | true => exact Ev.pos rfl (Ev.pos (by omega) (Ev.pos (by omega) (Ev.pos (show z.length < 8796093022208 by omega) hc)))
    | false => exact Ev.neg (by decide) hc
  · intro j hj ih b hb
    have hrd : rd_T46 d (j : Int) = d[j] := rdSt_lt hj
    have hw : wrap64 ((j : Int) + 1) = ((j + 1 : Nat) : Int) := wrap_in (by omega) (by omega)
    rw [any_drop _ _ _ hj] at hb
    refine Ev.step (fun k => by rw [laws_FnDealOnly.l1]) ?_
    refine Ev.pos (by omega) ?_
    rw [hrd, hrm, hw]
    cases b with
    | true => exact Ev.pos rfl (ih true (by rw [← hb]; rfl))
    | false => exact Ev.neg (by decide) (Ev.pos (by omega) (Ev.pos (by omega) (Ev.pos (by omega) (ih _ (by rw [← hb]; rfl)))))
theorem only_l0 (d : List S46) (m : List S48) (n : Int) (g : List Int) (ch : List S48) (hd : d.length ≤ 7) (hm : m.length ≤ 13)
    (hfin : ∀ i : Int, (m.length : Int) ≤ i → Ev (fun k => laws_FnDealOnly.l0 k d m n g ch (own d m) i) true) :
    ∀ i, i ≤ m.length → ∀ z : List S48, z.length ≤ i → z ++ own d (m.drop i) = own d m → Ev (fun k => laws_FnDealOnly.l0 k d m n g ch z (i : Int)) true := by
  refine loop_down m.length ?_ ?_
  · intro z hz he
    rw [List.drop_of_length_le (Nat.le_refl _)] at he
    have he : z ++ [] = own d m := he
    rw [List.append_nil] at he
    rw [he]
    exact hfin _ (by omega)
  · intro i hi ih z hz he
    rw [List.drop_eq_getElem_cons hi] at he
    unfold own at he
    rw [List.filter_cons] at he
    refine Ev.step (fun k => by rw [laws_FnDealOnly.l0]) ?_
    refine Ev.pos (by omega) ?_
    refine only_l1 d m n g ch z i hi hd hm (by omega) ?_ 0 (by omega) false (by rw [List.drop_zero]; rfl)
    by_cases hn : named d m[i].f0 = true
    · rw [if_pos hn] at he ⊢
      refine ih _ (by simp; omega) ?_
      rw [List.append_assoc]; exact he
    · rw [if_neg hn] at he ⊢
      exact ih z (by omega) he
theorem only_l3 (d : List S46) (n n2 : Int) (g g2 : List Int) (ch c2 : List S48) (i : Nat) (hi : i < c2.length) (hd : d.length ≤ 7) (hm : c2.length ≤ 32) (hnm : named d c2[i].f0 = true)
    (hc : Ev (fun k => laws_FnDealOnly.l2 k d n g ch n2 g2 c2 ((i + 1 : Nat) : Int)) true) :
    ∀ j, j ≤ d.length → ∀ b : Bool, (b || (d.drop j).any (fun s => s.f1 == c2[i].f0)) = true → Ev (fun k => laws_FnDealOnly.l3 k d n g ch n2 g2 c2 (i : Int) b (j : Int)) true := by
  have hrm : rd_T48 c2 (i : Int) = c2[i] := by simp [rd_T48, List.getD_eq_getElem?_getD, List.getElem?_eq_getElem hi]
  have hwi : wrap64 ((i : Int) + 1) = ((i + 1 : Nat) : Int) := wrap_in (by omega) (by omega)
  refine loop_down d.length ?_ ?_
  · intro b hb
    rw [List.drop_of_length_le (Nat.le_refl _)] at hb
    have hb : (b || false) = true := hb
    rw [Bool.or_false] at hb
    refine Ev.step (fun k => by rw [laws_FnDealOnly.l3]) ?_
    refine Ev.neg (by omega) (Ev.pos hb ?_)
    rw [hwi]; exact hc
  · intro j hj ih b hb
    have hrd : rd_T46 d (j : Int) = d[j] := rdSt_lt hj
    have hw : wrap64 ((j : Int) + 1) = ((j + 1 : Nat) : Int) := wrap_in (by omega) (by omega)
    rw [any_drop _ _ _ hj] at hb
    refine Ev.step (fun k => by rw [laws_FnDealOnly.l3]) ?_
    refine Ev.pos (by omega) ?_
    rw [hrd, hrm, hw]
    cases b with
    | true => exact Ev.pos rfl (ih true rfl)
    | false => exact Ev.neg (by decide) (Ev.pos (by omega) (Ev.pos (by omega) (Ev.pos (by omega) (ih _ (by rw [← hb]; rfl)))))
theorem only_l2 (d : List S46) (n : Int) (g : List Int) (c : List S48) (hd : d.length ≤ 7) (hg : g.length ≤ 6) (hm : c.length ≤ 32) (hnm : ∀ p ∈ c, named d p.f0 = true) :
    ∀ i, i ≤ c.length → Ev (fun k => laws_FnDealOnly.l2 k d n g c n g c (i : Int)) true := by
  refine loop_down c.length ?_ ?_
  · refine Ev.step (fun k => by rw [laws_FnDealOnly.l2]) ?_
    exact Ev.neg (by omega) (Ev.pos rfl (Ev.bind (loInts_ev _ (by omega)) (Ev.pos rfl (Ev.bind (loPairs_ev _ (by omega)) (Ev.ret rfl)))))
  · intro i hi ih
    refine Ev.step (fun k => by rw [laws_FnDealOnly.l2]) ?_
    refine Ev.pos (by omega) ?_
    have hn := hnm _ (List.getElem_mem hi)
    exact only_l3 d n n g g c c i hi hd hm hn ih 0 (by omega) false (by rw [List.drop_zero]; exact hn)
theorem FnDealOnly : laws_FnDealOnly.Pure := by
  intro l0 _ _ hb
  refine Ev.rounds (g := fun k => laws_FnDealOnly.f k l0) ?_
  unfold laws_FnDealOnly.f
  by_cases h0 : (l0.length : Int) > 1048576
  · exact Ev.pos h0 (Ev.ret rfl)
  refine Ev.neg h0 ?_
  obtain ⟨d, m, hd, hl, hm⟩ := DrawDealRun_ev l0 hb
  have hp := runOf_lens d m
  refine Ev.bind hd (Ev.bind (spec_DealRun_ev d m) ?_)
  by_cases h9 : (runOf d m).1 = 9
  · exact Ev.pos h9 (Ev.bind (impl_DealRun_ev d m) (Ev.ret (by simp)))
  refine Ev.neg h9 (only_l0 d m _ _ _ hl hm ?_ 0 (by omega) [] (by simp) rfl)
  intro i hi
  refine Ev.step (fun k => by rw [laws_FnDealOnly.l0]) ?_
  refine Ev.neg (by omega) (Ev.bind (impl_DealRun_ev d (own d m)) ?_)
  by_cases hy : dealOk d = true ∧ PairsOk m
  · have hks : ∀ s ∈ d, named d (s.f1.toNat : Int) = true ∧ s.f1.toNat < 32 := by
      intro s hs
      have := good_key hy.1 s hs
      refine ⟨?_, by omega⟩
      unfold named
      rw [Int.toNat_of_nonneg this.1]
      exact List.any_eq_true.2 ⟨s, hs, by simp⟩
    obtain ⟨q1, q2, q3, q4, q5⟩ := run_only (fun j => named d (j : Int) = true ∧ j < 32) d (fun s hs => ⟨⟨(hks s hs).1, (hks s hs).2⟩, (hks s hs).2⟩) (prPutAll prZeros (own d m)) (prPutAll prZeros m) falses [] (by rw [prPutAll_length]; rfl) (by rw [prPutAll_length]; rfl) rfl
      (fun j hj => by rw [← same_start (own_ok hy.2) j hj.2, ← same_start hy.2 j hj.2]; exact first_own d m _ hj.1)
      (fun j hj => by
        exfalso
        have hfa : ∀ j : Nat, j < 32 → falses.getD j false = false := by decide
        by_cases h32 : j < 32
        · rw [hfa j h32] at hj; cases hj
        · rw [List.getD_eq_getElem?_getD, List.getElem?_eq_none (show falses.length ≤ j by show 32 ≤ j; omega)] at hj; cases hj)
    have r1 := runOf_good hy
    have r2 := runOf_good (m := own d m) ⟨hy.1, own_ok hy.2⟩
    have hch : ∀ p ∈ chOut (run0 d (own d m)).2.1 (run0 d (own d m)).2.2.1 32, named d p.f0 = true := by
      intro p hpm
      unfold chOut at hpm
      obtain ⟨j, hj, rfl⟩ := List.mem_map.1 hpm
      exact (q5 j (List.mem_filter.1 hj).2).1
    have ech : chOut (run0 d (own d m)).2.1 (run0 d (own d m)).2.2.1 32 = chOut (run0 d m).2.1 (run0 d m).2.2.1 32 := by
      have e3 : (run0 d (own d m)).2.2.1 = (run0 d m).2.2.1 := q3
      rw [← e3]
      unfold chOut
      refine List.map_congr_left (fun j hj => ?_)
      have := q4 j (q5 j (List.mem_filter.1 hj).2)
      exact congrArg (fun y => (⟨(j : Int), y⟩ : S48)) this
    have e : runOf d (own d m) = runOf d m := by
      rw [r1, r2]
      have e1 : (run0 d (own d m)).1 = (run0 d m).1 := q1
      have e2 : (run0 d (own d m)).2.2.2 = (run0 d m).2.2.2 := q2
      rw [e1, e2, ech]
    rw [e]
    refine only_l2 d _ _ _ hl hp.1 hp.2 ?_ 0 (by omega)
    rw [r1]
    split
    · intro p hpm; rw [← ech] at hpm; exact hch p hpm
    · intro p hpm; simp at hpm
  · exact absurd (by rw [runOf_no hy]) h9
end Go.Proofs.Ytdjiclhjficgfaa.Pure
