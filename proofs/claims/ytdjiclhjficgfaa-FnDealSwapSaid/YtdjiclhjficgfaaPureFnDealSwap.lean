/- Two statements that name unlike keys can change places, if neither looks. -/
import Derived.Test.YtdjiclhjficgfaaRunPb
import Derived.Test.YtdjiclhjficgfaaPXx25
namespace Go.Proofs.Ytdjiclhjficgfaa.Pure
open Go.RowKit Go.Proofs.Ytdjiclhjficgfaa.PX Go.Proofs.YtdjiclhjficgfaaW.PrintWords Go.Proofs.YtdjiclhjficgfaaW.PrintLast Go.Proofs.Ytdjiclhjficgfaa.PB
set_option linter.unusedVariables false
set_option linter.unusedSimpArgs false
theorem getD_off {α : Type} (a : List α) (k j : Nat) (y d : α) (h : j ≠ k) : (a.set k y).getD j d = a.getD j d := by
  simp [List.getD_eq_getElem?_getD, List.getElem?_set, show k ≠ j from fun e => h e.symm]
def Mv (s : S46) : Prop := s.f0 = 2 ∨ s.f0 = 3
def nv (s : S46) (a : List Int) : Int := if s.f0 = 2 then s.f2 else wrap64 (a.getD s.f1.toNat 0 + s.f2)
theorem mv_vals {s : S46} (h : Mv s) (a : List Int) : stepVals s a = a.set s.f1.toNat (nv s a) := by
  unfold stepVals nv
  rcases h with h | h
  · rw [if_neg (by omega), if_pos h, if_pos h]
  · rw [if_neg (by omega), if_neg (by omega), if_pos h, if_neg (by omega)]
theorem mv_chg {s : S46} (h : Mv s) (c : List Bool) : stepChg s c = c.set s.f1.toNat true := by
  unfold stepChg
  rcases h with h | h
  · rw [if_neg (by omega), if_pos h]
  · rw [if_neg (by omega), if_neg (by omega), if_pos h]
theorem mv_got {s : S46} (h : Mv s) (a g : List Int) : stepGot s a g = g := by
  unfold stepGot
  rcases h with h | h <;> rw [if_neg (by omega)]
theorem run_cons (s : S46) (l : List S46) (a : List Int) (c : List Bool) (g : List Int) : runFrom (s :: l) a c g = if stepCode s a = 0 then runFrom l (stepVals s a) (stepChg s c) (stepGot s a g) else (stepCode s a, a, c, g) := rfl
theorem run_got (l : List S46) (hl : ∀ s ∈ l, Mv s) : ∀ (a : List Int) (c : List Bool) (g : List Int), (runFrom l a c g).2.2.2 = g := by
  induction l with
  | nil => intro a c g; rfl
  | cons s l ih =>
    intro a c g
    rw [run_cons]
    split
    · rw [mv_got (hl s (by simp))]; exact ih (fun t ht => hl t (by simp [ht])) _ _ _
    · rfl
theorem code_off {s t : S46} (h : t.f1.toNat ≠ s.f1.toNat) (hs : Mv s) (a : List Int) : stepCode t (stepVals s a) = stepCode t a := by
  rw [mv_vals hs]; unfold stepCode; rw [getD_off _ _ _ _ _ h]
theorem nv_off {s t : S46} (h : t.f1.toNat ≠ s.f1.toNat) (hs : Mv s) (a : List Int) : nv t (stepVals s a) = nv t a := by
  rw [mv_vals hs]; unfold nv; rw [getD_off _ _ _ _ _ h]
theorem run_swap {s t : S46} (hs : Mv s) (ht : Mv t) (hk : s.f1.toNat ≠ t.f1.toNat) (l : List S46) (a : List Int) (c : List Bool) (g : List Int) (h : (runFrom (s :: t :: l) a c g).1 = 0) : runFrom (t :: s :: l) a c g = runFrom (s :: t :: l) a c g := by
  rw [run_cons] at h
  by_cases h1 : stepCode s a = 0
  · rw [if_pos h1, run_cons] at h
    rw [code_off (fun e => hk e.symm) hs] at h
    by_cases h2 : stepCode t a = 0
    · rw [run_cons t, run_cons s, run_cons s, run_cons t, code_off hk ht, code_off (fun e => hk e.symm) hs, if_pos h1, if_pos h2, if_pos h1, if_pos h2]
      rw [mv_got ht, mv_got hs, mv_got hs, mv_got ht]
      rw [mv_chg ht, mv_chg hs, mv_chg hs, mv_chg ht]
      rw [mv_vals hs (stepVals t a), mv_vals ht (stepVals s a), nv_off hk ht, nv_off (fun e => hk e.symm) hs, mv_vals hs, mv_vals ht]
      rw [List.set_comm _ _ hk, List.set_comm _ _ hk]
    · rw [if_neg h2] at h; exact absurd h h2
  · rw [if_neg h1] at h; exact absurd h h1
theorem dealOk_sub {d l : List S46} (h : dealOk d = true) (hs : ∀ s ∈ l, s ∈ d) (h1 : 1 ≤ l.length) (h6 : l.length ≤ 6) : dealOk l = true := by
  unfold dealOk at h ⊢
  rw [Bool.and_eq_true] at h ⊢
  exact ⟨decide_eq_true ⟨h1, h6⟩, List.all_eq_true.2 (fun s hl => List.all_eq_true.1 h.2 s (hs s hl))⟩
def mvs (l : List S46) : List S46 := l.filter (fun s => decide (s.f0 = 2 ∨ s.f0 = 3))
theorem mvs_l0 (l : List S46) (m : List S48) (hl : l.length ≤ 7) (hfin : ∀ i : Int, (l.length : Int) ≤ i → Ev (fun k => laws_FnDealSwap.l0 k l m (mvs l) i) true) :
    ∀ i, i ≤ l.length → ∀ z : List S46, z.length ≤ i → z ++ mvs (l.drop i) = mvs l → Ev (fun k => laws_FnDealSwap.l0 k l m z (i : Int)) true := by
  refine loop_down l.length ?_ ?_
  · intro z hz he
    rw [List.drop_of_length_le (Nat.le_refl _)] at he
    have he : z ++ [] = mvs l := he
    rw [List.append_nil] at he
    rw [he]
    exact hfin _ (by omega)
  · intro i hi ih z hz he
    have hrd : rd_T46 l (i : Int) = l[i] := rdSt_lt hi
    have hw : wrap64 ((i : Int) + 1) = ((i + 1 : Nat) : Int) := wrap_in (by omega) (by omega)
    rw [List.drop_eq_getElem_cons hi] at he
    unfold mvs at he
    rw [List.filter_cons] at he
    refine Ev.step (fun k => by rw [laws_FnDealSwap.l0]) ?_
    refine Ev.pos (by omega) (Ev.pos (by omega) ?_)
    rw [hrd, hw]
    by_cases h1 : l[i].f0 = 2
    · rw [if_pos (by simp [h1])] at he
      refine Ev.pos h1 (Ev.pos (show z.length < 5864062014805 by omega) (ih _ (by simp; omega) ?_))
      rw [List.append_assoc]; exact he
    · by_cases h2 : l[i].f0 = 3
      · rw [if_pos (by simp [h2])] at he
        refine Ev.neg h1 (Ev.pos h2 (Ev.pos (show z.length < 5864062014805 by omega) (ih _ (by simp; omega) ?_)))
        rw [List.append_assoc]; exact he
      · rw [if_neg (by simp [h1, h2])] at he
        exact Ev.neg h1 (Ev.neg h2 (ih z (by omega) he))
theorem FnDealSwap : laws_FnDealSwap.Pure := by
  intro l0 _ _ hb
  refine Ev.rounds (g := fun k => laws_FnDealSwap.f k l0) ?_
  unfold laws_FnDealSwap.f
  by_cases h0 : (l0.length : Int) > 1048576
  · exact Ev.pos h0 (Ev.ret rfl)
  refine Ev.neg h0 ?_
  obtain ⟨l, m, hd, hl, hm⟩ := DrawDealRun_ev l0 hb
  refine Ev.bind hd (mvs_l0 l m hl ?_ 0 (by omega) [] (by simp) rfl)
  intro i hi
  have hp := runOf_lens (mvs l) m
  have hmv : ∀ s ∈ mvs l, Mv s := by
    intro s hs
    have := (List.mem_filter.1 hs).2
    exact of_decide_eq_true (p := s.f0 = 2 ∨ s.f0 = 3) this
  have hlen : (mvs l).length ≤ 7 := Nat.le_trans (List.length_filter_le _ _) hl
  have li := loInts_ev (runOf (mvs l) m).2.1 (by omega)
  have lp := loPairs_ev (runOf (mvs l) m).2.2 (by omega)
  refine Ev.step (fun k => by rw [laws_FnDealSwap.l0]) ?_
  refine Ev.neg (by omega) ?_
  refine Ev.bind (spec_DealRun_ev _ m) (Ev.bind (impl_DealRun_ev _ m) ?_)
  refine Ev.pos rfl (Ev.bind li (Ev.pos rfl (Ev.bind lp (Ev.pos rfl ?_))))
  have out : Ev (fun k => laws_FnDealSwap.j1 k m (mvs l) (runOf (mvs l) m).1 (runOf (mvs l) m).2.1 (runOf (mvs l) m).2.2 (runOf (mvs l) m).1 (runOf (mvs l) m).2.1 (runOf (mvs l) m).2.2 true) true := by
    refine Ev.step (fun k => by rw [laws_FnDealSwap.j1]) ?_
    exact Ev.pos rfl (Ev.pos rfl (Ev.bind li (Ev.pos rfl (Ev.bind lp (Ev.ret rfl)))))
  by_cases h2 : ((mvs l).length : Int) < 2
  · exact Ev.pos h2 out
  refine Ev.neg h2 ?_
  by_cases hc : (runOf (mvs l) m).1 = 0
  · refine Ev.pos hc (Ev.pos (by omega) (Ev.pos (by omega) ?_))
    obtain ⟨s0, s1, rest, he⟩ : ∃ s0 s1 rest, mvs l = s0 :: s1 :: rest := by
      match hq : mvs l with
      | [] => rw [hq] at h2; exact absurd (by simp) h2
      | [_] => rw [hq] at h2; exact absurd (by simp) h2
      | s0 :: s1 :: rest => exact ⟨s0, s1, rest, rfl⟩
    have r0 : rd_T46 (mvs l) 0 = s0 := by rw [he]; rfl
    have r1 : rd_T46 (mvs l) 1 = s1 := by rw [he]; rfl
    rw [r0, r1]
    by_cases hk : s0.f1 = s1.f1
    · rw [beq_iff_eq.mpr hk]
      exact out
    · rw [beq_eq_false_iff_ne.mpr hk]
      have hy : dealOk (mvs l) = true ∧ PairsOk m := by
        by_cases hy : dealOk (mvs l) = true ∧ PairsOk m
        · exact hy
        · rw [runOf_no hy] at hc; cases hc
      have g0 := good_key hy.1 s0 (by rw [he]; simp)
      have g1 := good_key hy.1 s1 (by rw [he]; simp)
      have hr := runOf_good hy
      have h6 := (dealOk_st hy.1).1
      have hok2 : dealOk (s1 :: s0 :: rest) = true := dealOk_sub hy.1 (fun s hs => by
        rw [he]
        simp only [List.mem_cons] at hs ⊢
        rcases hs with h | h | h
        · exact Or.inr (Or.inl h)
        · exact Or.inl h
        · exact Or.inr (Or.inr h)) (by simp) (by have := (dealOk_st hy.1).2.1; rw [he] at this h6; simp only [List.length_cons] at this h6 ⊢; omega)
      have hz : (run0 (mvs l) m).1 = 0 := by
        by_cases hz : (run0 (mvs l) m).1 = 0
        · exact hz
        · rw [hr, if_neg hz] at hc; exact absurd hc hz
      have hsw : run0 (s1 :: s0 :: rest) m = run0 (mvs l) m := by
        rw [he] at hz ⊢
        exact run_swap (hmv s0 (by rw [he]; simp)) (hmv s1 (by rw [he]; simp)) (by omega) rest _ _ _ hz
      have hrr : runOf (s1 :: s0 :: rest) m = runOf (mvs l) m := by
        rw [hr, runOf_good ⟨hok2, hy.2⟩, hsw]
      have hgot : (runOf (mvs l) m).2.1 = [] := by
        rw [hr, if_pos hz]
        exact run_got (mvs l) hmv _ _ _
      have hl2 : ([(⟨s1.f0, s1.f1, s1.f2⟩ : S46), (⟨s0.f0, s0.f1, s0.f2⟩ : S46)] ++ (mvs l).drop 2) = s1 :: s0 :: rest := by rw [he]; rfl
      have hdl : ((mvs l).drop 2).length ≤ 7 := by rw [List.length_drop]; omega
      refine Ev.step (fun k => by rw [laws_FnDealSwap.j1]) ?_
      rw [r0, r1]
      refine Ev.neg (by decide) (Ev.pos (by omega) (Ev.pos (by omega) (Ev.bind (Ev.ret rfl) (Ev.pos (by omega) (Ev.bind (Ev.ret rfl) (Ev.pos (show 2 + ((mvs l).drop 2).length < 5864062014805 by omega) ?_))))))
      rw [hl2]
      have hrun := impl_DealRun_ev (s1 :: s0 :: rest) m
      rw [hrr] at hrun
      exact Ev.bind hrun (Ev.pos rfl (Ev.pos (by rw [hgot]; rfl) (Ev.bind lp (Ev.ret rfl))))
  · exact Ev.neg hc out
end Go.Proofs.Ytdjiclhjficgfaa.Pure
