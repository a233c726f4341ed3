/- A deal that only puts does the same however often it is done. -/
import Derived.Test.YtdjiclhjficgfaaRunPb
import Derived.Test.YtdjiclhjficgfaaPairSd
import Derived.Test.YtdjiclhjficgfaaPXx29
namespace Go.Proofs.Ytdjiclhjficgfaa.Pure
open Go.RowKit Go.Proofs.Ytdjiclhjficgfaa.PX Go.Proofs.YtdjiclhjficgfaaW.PrintWords Go.Proofs.YtdjiclhjficgfaaW.PrintLast Go.Proofs.Ytdjiclhjficgfaa.PB
set_option linter.unusedVariables false
set_option linter.unusedSimpArgs false
theorem getD_set {α : Type} (a : List α) (k j : Nat) (y d : α) (hk : k < a.length) : (a.set k y).getD j d = if j = k then y else a.getD j d := by
  by_cases h : j = k
  · subst h; simp [List.getD_eq_getElem?_getD, List.getElem?_set, hk]
  · rw [if_neg h]; simp [List.getD_eq_getElem?_getD, List.getElem?_set, show k ≠ j from fun e => h e.symm]
theorem run_puts (l : List S46) (hl : ∀ s ∈ l, s.f0 = 2 ∧ (0 ≤ s.f1 ∧ s.f1 ≤ 31) ∧ -9999 ≤ s.f2 ∧ s.f2 ≤ 9999) : ∀ (a b : List Int) (c : List Bool) (g : List Int), InR a → InR b → c.length = 32 → (∀ j : Nat, j < 32 → c.getD j false = true → a.getD j 0 = b.getD j 0) →
    (runFrom l a c g).1 = 0 ∧ (runFrom l a c g).2.2.2 = g ∧ InR (runFrom l a c g).2.1 ∧ (runFrom l b c g).2.2.1 = (runFrom l a c g).2.2.1 ∧ ∀ j : Nat, j < 32 → (runFrom l a c g).2.2.1.getD j false = true → (runFrom l a c g).2.1.getD j 0 = (runFrom l b c g).2.1.getD j 0 := by
  induction l with
  | nil => intro a b c g ha hb hc h; exact ⟨rfl, rfl, ha, rfl, h⟩
  | cons s l ih =>
    intro a b c g ha hb hc h
    obtain ⟨h1, h2, h3⟩ := hl s (by simp)
    have ih := ih (fun t ht => hl t (by simp [ht]))
    have n1 : ¬ s.f0 = 1 := by omega
    have e1 : ∀ a, stepCode s a = 0 := by intro a; unfold stepCode; rw [if_neg n1, if_pos h1]
    have e2 : ∀ a, stepVals s a = a.set s.f1.toNat s.f2 := by intro a; unfold stepVals; rw [if_neg n1, if_pos h1]
    have e3 : stepChg s c = c.set s.f1.toNat true := by unfold stepChg; rw [if_neg n1, if_pos h1]
    have e4 : ∀ a, stepGot s a g = g := by intro a; unfold stepGot; rw [if_neg n1]
    have er : ∀ a, runFrom (s :: l) a c g = runFrom l (a.set s.f1.toNat s.f2) (c.set s.f1.toNat true) g := by
      intro a
      conv => lhs; unfold runFrom
      rw [if_pos (e1 a), e2, e3, e4]
    rw [er a, er b]
    refine ih _ _ _ g (ha.set _ _ h3) (hb.set _ _ h3) (by simpa using hc) ?_
    intro j hj hcj
    have ha1 := ha.1
    have hb1 := hb.1
    rw [getD_set _ _ _ _ _ (by omega)] at hcj
    rw [getD_set _ _ _ _ _ (by omega), getD_set _ _ _ _ _ (by omega)]
    split
    · rfl
    · rename_i hne
      rw [if_neg hne] at hcj
      exact h j hj hcj
theorem chOut_congr {a b : List Int} {c : List Bool} (h : ∀ j : Nat, j < 32 → c.getD j false = true → a.getD j 0 = b.getD j 0) : chOut a c 32 = chOut b c 32 := by
  unfold chOut
  refine List.map_congr_left (fun j hj => ?_)
  obtain ⟨h1, h2⟩ := List.mem_filter.1 hj
  rw [h j (List.mem_range.1 h1) h2]
def puts (l : List S46) : List S46 := l.filter (fun s => decide (s.f0 = 2))
theorem puts_l0 (l : List S46) (m : List S48) (hl : l.length ≤ 7) (hfin : ∀ i : Int, (l.length : Int) ≤ i → Ev (fun k => laws_FnDealPuts.l0 k l m (puts l) i) true) :
    ∀ i, i ≤ l.length → ∀ z : List S46, z.length ≤ i → z ++ puts (l.drop i) = puts l → Ev (fun k => laws_FnDealPuts.l0 k l m z (i : Int)) true := by
  refine loop_down l.length ?_ ?_
  · intro z hz he
    rw [List.drop_of_length_le (Nat.le_refl _)] at he
    have he : z ++ [] = puts l := he
    rw [List.append_nil] at he
    rw [he]
    exact hfin _ (by omega)
  · intro i hi ih z hz he
    have hrd : rd_T46 l (i : Int) = l[i] := rdSt_lt hi
    have hw : wrap64 ((i : Int) + 1) = ((i + 1 : Nat) : Int) := wrap_in (by omega) (by omega)
    rw [List.drop_eq_getElem_cons hi] at he
    unfold puts at he
    rw [List.filter_cons] at he
    refine Ev.step (fun k => by rw [laws_FnDealPuts.l0]) ?_
    refine Ev.pos (by omega) (Ev.pos (by omega) ?_)
    rw [hrd, hw]
    by_cases h1 : l[i].f0 = 2
    · rw [if_pos (by simp [h1])] at he
      refine Ev.pos h1 (Ev.pos (show z.length < 5864062014805 by omega) (ih _ (by simp; omega) ?_))
      rw [List.append_assoc]; exact he
    · rw [if_neg (by simp [h1])] at he
      exact Ev.neg h1 (ih z (by omega) he)
theorem FnDealPuts : laws_FnDealPuts.Pure := by
  intro l0 _ _ hb
  refine Ev.rounds (g := fun k => laws_FnDealPuts.f k l0) ?_
  unfold laws_FnDealPuts.f
  by_cases h0 : (l0.length : Int) > 1048576
  · exact Ev.pos h0 (Ev.ret rfl)
  refine Ev.neg h0 ?_
  obtain ⟨l, m, hd, hl, hm⟩ := DrawDealRun_ev l0 hb
  refine Ev.bind hd (puts_l0 l m hl ?_ 0 (by omega) [] (by simp) rfl)
  intro i hi
  have hp := runOf_lens (puts l) m
  have hda : ∀ s ∈ puts l, s.f0 = 2 := by
    intro s hs
    have := (List.mem_filter.1 hs).2
    simpa using this
  have li := loInts_ev (runOf (puts l) m).2.1 (by omega)
  have lp := loPairs_ev (runOf (puts l) m).2.2 (by omega)
  refine Ev.step (fun k => by rw [laws_FnDealPuts.l0]) ?_
  refine Ev.neg (by omega) ?_
  refine Ev.bind (spec_DealRun_ev _ m) (Ev.bind (impl_DealRun_ev _ m) ?_)
  refine Ev.pos rfl (Ev.bind li (Ev.pos rfl (Ev.bind lp (Ev.pos rfl ?_))))
  by_cases hy : dealOk (puts l) = true ∧ PairsOk m
  · have hst : ∀ s ∈ puts l, s.f0 = 2 ∧ (0 ≤ s.f1 ∧ s.f1 ≤ 31) ∧ -9999 ≤ s.f2 ∧ s.f2 ≤ 9999 := by
      intro s hs
      obtain ⟨i, hi, rfl⟩ := List.getElem_of_mem hs
      obtain ⟨q1, q2, _⟩ := (stOk_iff _).1 ((dealOk_st hy.1).2.2 i hi)
      exact ⟨hda _ hs, q1, q2⟩
    have hfa : ∀ j : Nat, j < 32 → falses.getD j false = false := by decide
    have all : ∀ n : List S48, PairsOk n → runOf (puts l) n = (0, [], chOut (run0 (puts l) m).2.1 (run0 (puts l) m).2.2.1 32) := by
      intro n hn
      obtain ⟨q1, q2, q3, q4, q5⟩ := run_puts (puts l) hst (prPutAll prZeros n) (prPutAll prZeros m) falses [] (InR.start hn) (InR.start hy.2) rfl (fun j hj h => by rw [hfa j hj] at h; cases h)
      have hr := runOf_good (l := puts l) ⟨hy.1, hn⟩
      rw [if_pos (show (run0 (puts l) n).1 = 0 from q1)] at hr
      rw [hr]
      have e2 : (run0 (puts l) n).2.2.2 = [] := q2
      rw [e2]
      have e4 : (run0 (puts l) m).2.2.1 = (run0 (puts l) n).2.2.1 := q4
      rw [e4]
      exact congrArg (fun z => ((0 : Int), ([] : List Int), z)) (chOut_congr (a := (run0 (puts l) n).2.1) (b := (run0 (puts l) m).2.1) q5)
    have hin : InR (run0 (puts l) m).2.1 := (run_puts (puts l) hst (prPutAll prZeros m) (prPutAll prZeros m) falses [] (InR.start hy.2) (InR.start hy.2) rfl (fun _ _ _ => rfl)).2.2.1
    have hok : PairsOk (chOut (run0 (puts l) m).2.1 (run0 (puts l) m).2.2.1 32) := chOut_ok hin
    have hnil : PairsOk ([] : List S48) := ⟨by simp, fun j h => absurd h (by simp)⟩
    have em := all m hy.2
    rw [em] at lp ⊢
    refine Ev.step (fun k => by rw [laws_FnDealPuts.j1]) ?_
    refine Ev.neg (show ¬ (((0 : Int) != 0) = true) by decide) ?_
    have hput := impl_put_ev m (chOut (run0 (puts l) m).2.1 (run0 (puts l) m).2.2.1 32)
    rw [putOf_yes ⟨hy.2, hok⟩] at hput
    have r1 := impl_DealRun_ev (puts l) (prOut (putArr m (chOut (run0 (puts l) m).2.1 (run0 (puts l) m).2.2.1 32)) 32)
    rw [all _ (prOut_ok (putArr_in hy.2 hok))] at r1
    have r2 := impl_DealRun_ev (puts l) []
    rw [all _ hnil] at r2
    exact Ev.bind hput (Ev.bind r1 (Ev.bind r2 (Ev.pos rfl (Ev.pos rfl (Ev.bind lp (Ev.pos rfl (Ev.bind lp (Ev.ret rfl))))))))
  · rw [runOf_no hy] at li lp ⊢
    refine Ev.step (fun k => by rw [laws_FnDealPuts.j1]) ?_
    refine Ev.pos rfl (Ev.pos rfl ?_)
    exact Ev.bind li (Ev.pos rfl (Ev.bind lp (Ev.ret rfl)))
end Go.Proofs.Ytdjiclhjficgfaa.Pure
