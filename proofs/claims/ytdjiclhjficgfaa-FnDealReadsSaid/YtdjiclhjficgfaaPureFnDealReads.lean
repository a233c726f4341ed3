/- Who only looks changes nothing. -/
import Derived.Test.YtdjiclhjficgfaaRunPb
import Derived.Test.YtdjiclhjficgfaaPXx27
namespace Go.Proofs.Ytdjiclhjficgfaa.Pure
open Go.RowKit Go.Proofs.Ytdjiclhjficgfaa.PX Go.Proofs.YtdjiclhjficgfaaW.PrintWords Go.Proofs.YtdjiclhjficgfaaW.PrintLast Go.Proofs.Ytdjiclhjficgfaa.PB
set_option linter.unusedVariables false
set_option linter.unusedSimpArgs false
def getsOf (a : List Int) : List S46 → List Int
  | [] => []
  | s :: l => (if s.f0 = 1 then [a.getD s.f1.toNat 0] else []) ++ getsOf a l
theorem run_reads (l : List S46) (hl : ∀ s ∈ l, s.f0 = 1 ∨ s.f0 = 4) : ∀ (a : List Int) (c : List Bool) (g : List Int), (runFrom l a c g).2.1 = a ∧ (runFrom l a c g).2.2.1 = c ∧ ((runFrom l a c g).1 = 0 ∧ (runFrom l a c g).2.2.2 = g ++ getsOf a l ∨ (runFrom l a c g).1 = 1) := by
  induction l with
  | nil => intro a c g; exact ⟨rfl, rfl, .inl ⟨rfl, by simp [runFrom, getsOf]⟩⟩
  | cons s l ih =>
    intro a c g
    have h1 := hl s (by simp)
    have ih := ih (fun t ht => hl t (by simp [ht]))
    unfold runFrom
    rcases h1 with h1 | h1
    · have e1 : stepCode s a = 0 := by unfold stepCode; rw [if_pos h1]
      have e2 : stepVals s a = a := by unfold stepVals; rw [if_pos h1]
      have e3 : stepChg s c = c := by unfold stepChg; rw [if_pos h1]
      have e4 : stepGot s a g = g ++ [a.getD s.f1.toNat 0] := by unfold stepGot; rw [if_pos h1]
      have e5 : getsOf a (s :: l) = [a.getD s.f1.toNat 0] ++ getsOf a l := by rw [getsOf, if_pos h1]
      rw [if_pos e1, e2, e3, e4, e5, ← List.append_assoc]
      exact ih a c _
    · have n1 : ¬ s.f0 = 1 := by omega
      have n2 : ¬ s.f0 = 2 := by omega
      have n3 : ¬ s.f0 = 3 := by omega
      by_cases hlt : a.getD s.f1.toNat 0 < s.f2
      · have e1 : stepCode s a = 1 := by unfold stepCode; rw [if_neg n1, if_neg n2, if_neg n3, if_pos hlt]
        rw [if_neg (by omega)]
        exact ⟨rfl, rfl, .inr e1⟩
      · have e1 : stepCode s a = 0 := by unfold stepCode; rw [if_neg n1, if_neg n2, if_neg n3, if_neg hlt]
        have e2 : stepVals s a = a := by unfold stepVals; rw [if_neg n1, if_neg n2, if_neg n3]
        have e3 : stepChg s c = c := by unfold stepChg; rw [if_neg n1, if_neg n2, if_neg n3]
        have e4 : stepGot s a g = g := by unfold stepGot; rw [if_neg n1]
        have e5 : getsOf a (s :: l) = getsOf a l := by rw [getsOf, if_neg n1]; rfl
        rw [if_pos e1, e2, e3, e4, e5]
        exact ih a c g
def looks (l : List S46) : List S46 := l.filter (fun s => decide (s.f0 = 1) || decide (s.f0 = 4))
theorem looks_l0 (l : List S46) (m : List S48) (hl : l.length ≤ 7) (hfin : ∀ i : Int, (l.length : Int) ≤ i → Ev (fun k => laws_FnDealReads.l0 k l m (looks l) i) true) :
    ∀ i, i ≤ l.length → ∀ z : List S46, z.length ≤ i → z ++ looks (l.drop i) = looks l → Ev (fun k => laws_FnDealReads.l0 k l m z (i : Int)) true := by
  refine loop_down l.length ?_ ?_
  · intro z hz he
    rw [List.drop_of_length_le (Nat.le_refl _)] at he
    have he : z ++ [] = looks l := he
    rw [List.append_nil] at he
    rw [he]
    exact hfin _ (by omega)
  · intro i hi ih z hz he
    have hrd : rd_T46 l (i : Int) = l[i] := rdSt_lt hi
    have hw : wrap64 ((i : Int) + 1) = ((i + 1 : Nat) : Int) := wrap_in (by omega) (by omega)
    rw [List.drop_eq_getElem_cons hi] at he
    unfold looks at he
    rw [List.filter_cons] at he
    refine Ev.step (fun k => by rw [laws_FnDealReads.l0]) ?_
    refine Ev.pos (by omega) (Ev.pos (by omega) ?_)
    rw [hrd, hw]
    by_cases h1 : l[i].f0 = 1
    · rw [if_pos (by simp [h1])] at he
      refine Ev.pos h1 (Ev.pos (show z.length < 5864062014805 by omega) (ih _ (by simp; omega) ?_))
      rw [List.append_assoc]; exact he
    · refine Ev.neg h1 ?_
      by_cases h4 : l[i].f0 = 4
      · rw [if_pos (by simp [h4])] at he
        refine Ev.pos h4 (Ev.pos (show z.length < 5864062014805 by omega) (ih _ (by simp; omega) ?_))
        rw [List.append_assoc]; exact he
      · rw [if_neg (by simp [h1, h4])] at he
        exact Ev.neg h4 (ih z (by omega) he)
theorem reads_l1 (m : List S48) (d : List S46) (got : List Int) (a : List Int) (hd : d.length ≤ 7) (hm : m.length ≤ 13) (hg : got.length ≤ 6) (hs : ∀ s ∈ d, firstOf m s.f1 = a.getD s.f1.toNat 0) :
    ∀ i, i ≤ d.length → ∀ c : Nat, c ≤ got.length → got.drop c = getsOf a (d.drop i) → Ev (fun k => laws_FnDealReads.l1 k m d 0 got [] (c : Int) (i : Int)) true := by
  refine loop_down d.length ?_ ?_
  · intro c hc he
    refine Ev.step (fun k => by rw [laws_FnDealReads.l1]) ?_
    refine Ev.neg (by omega) ?_
    refine Ev.step (fun k => by rw [laws_FnDealReads.j3]) ?_
    exact Ev.neg (by decide) (Ev.pos rfl (Ev.ret rfl))
  · intro i hi ih c hc he
    have hrd : rd_T46 d (i : Int) = d[i] := rdSt_lt hi
    have hw : wrap64 ((i : Int) + 1) = ((i + 1 : Nat) : Int) := wrap_in (by omega) (by omega)
    have hv : wrap64 ((c : Int) + 1) = ((c + 1 : Nat) : Int) := wrap_in (by omega) (by omega)
    rw [List.drop_eq_getElem_cons hi, getsOf] at he
    refine Ev.step (fun k => by rw [laws_FnDealReads.l1]) ?_
    refine Ev.pos (by omega) ?_
    refine Ev.step (fun k => by rw [laws_FnDealReads.j3]) ?_
    refine Ev.pos rfl (Ev.pos (by omega) (Ev.pos (by omega) ?_))
    rw [hrd, hw, hv]
    by_cases h1 : d[i].f0 = 1
    · rw [if_pos h1] at he
      have hlt : c < got.length := by
        rcases Nat.lt_or_ge c got.length with h | h
        · exact h
        · rw [List.drop_of_length_le h] at he; simp at he
      rw [List.drop_eq_getElem_cons hlt] at he
      simp only [List.cons_append, List.nil_append, List.cons.injEq] at he
      refine Ev.pos h1 (Ev.neg (by omega) (Ev.pos (by omega) (Ev.pos (by omega) (Ev.bind (loGet_ev m _ (by omega)) (Ev.pos ?_ (ih (c + 1) (by omega) he.2))))))
      rw [rd_lt hlt, he.1, hs _ (List.getElem_mem hi)]
    · rw [if_neg h1] at he
      exact Ev.neg h1 (ih c hc he)
theorem FnDealReads : laws_FnDealReads.Pure := by
  intro l0 _ _ hb
  refine Ev.rounds (g := fun k => laws_FnDealReads.f k l0) ?_
  unfold laws_FnDealReads.f
  by_cases h0 : (l0.length : Int) > 1048576
  · exact Ev.pos h0 (Ev.ret rfl)
  refine Ev.neg h0 ?_
  obtain ⟨l, m, hd, hl, hm⟩ := DrawDealRun_ev l0 hb
  refine Ev.bind hd (looks_l0 l m hl ?_ 0 (by omega) [] (by simp) rfl)
  intro i hi
  have hp := runOf_lens (looks l) m
  have hdl : (looks l).length ≤ 7 := Nat.le_trans (List.length_filter_le _ _) hl
  have hda : ∀ s ∈ looks l, s.f0 = 1 ∨ s.f0 = 4 := by
    intro s hs
    have := (List.mem_filter.1 hs).2
    simpa using this
  refine Ev.step (fun k => by rw [laws_FnDealReads.l0]) ?_
  refine Ev.neg (by omega) ?_
  refine Ev.bind (spec_DealRun_ev _ m) (Ev.bind (impl_DealRun_ev _ m) ?_)
  refine Ev.pos rfl (Ev.bind (loInts_ev _ (by omega)) (Ev.pos rfl (Ev.bind (loPairs_ev _ (by omega)) ?_)))
  refine Ev.step (fun k => by rw [laws_FnDealReads.j1]) ?_
  refine Ev.neg (by decide) ?_
  have fail : ∀ n : Int, n ≠ 0 → n ≠ 2 → runOf (looks l) m = (n, [], []) → Ev (fun k => laws_FnDealReads.l1 k m (looks l) (runOf (looks l) m).1 (runOf (looks l) m).2.1 (runOf (looks l) m).2.2 0 0) true := by
    intro n hn hn2 he
    rw [he]
    have hq : (n == 0) = false := beq_eq_false_iff_ne.mpr hn
    have hq2 : (n != 2) = true := bne_iff_ne.mpr hn2
    have hend : Ev (fun k => laws_FnDealReads.j3 k m (looks l) n [] [] 0 0 false) true := by
      refine Ev.step (fun k => by rw [laws_FnDealReads.j3]) ?_
      exact Ev.neg (by decide) (Ev.pos rfl (Ev.ret hq2))
    refine Ev.step (fun k => by rw [laws_FnDealReads.l1]) ?_
    simp only
    rw [hq]
    by_cases hpos : (0 : Int) < ((looks l).length : Int)
    · exact Ev.pos hpos hend
    · exact Ev.neg hpos hend
  by_cases hy : dealOk (looks l) = true ∧ PairsOk m
  · have hr := runOf_good hy
    obtain ⟨r1, r2, r3⟩ := run_reads (looks l) hda (prPutAll prZeros m) falses []
    have r1 : (run0 (looks l) m).2.1 = prPutAll prZeros m := r1
    have r2 : (run0 (looks l) m).2.2.1 = falses := r2
    rcases r3 with ⟨r3, r4⟩ | r3
    · have r3 : (run0 (looks l) m).1 = 0 := r3
      have r4 : (run0 (looks l) m).2.2.2 = [] ++ getsOf (prPutAll prZeros m) (looks l) := r4
      rw [if_pos r3, r1, r2, ch_start] at hr
      rw [hr] at hp
      rw [hr]
      refine reads_l1 m (looks l) _ (prPutAll prZeros m) hdl hm hp.1 (fun s hs => first_of hy.2 _ (good_key hy.1 s hs)) 0 (by omega) 0 (by omega) ?_
      rw [List.drop_zero, List.drop_zero, r4]; rfl
    · have r3 : (run0 (looks l) m).1 = 1 := r3
      rw [if_neg (by omega), r3] at hr
      exact fail 1 (by decide) (by decide) hr
  · exact fail 9 (by decide) (by decide) (runOf_no hy)
end Go.Proofs.Ytdjiclhjficgfaa.Pure
