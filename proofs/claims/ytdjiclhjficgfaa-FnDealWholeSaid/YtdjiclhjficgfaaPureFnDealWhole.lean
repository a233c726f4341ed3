/- A deal is done wholly or not at all. -/
import Derived.Test.YtdjiclhjficgfaaDealDraw
import Derived.Test.YtdjiclhjficgfaaPXx28
namespace Go.Proofs.Ytdjiclhjficgfaa.Pure
open Go.RowKit Go.Proofs.Ytdjiclhjficgfaa.PX Go.Proofs.YtdjiclhjficgfaaW.PrintWords Go.Proofs.YtdjiclhjficgfaaW.PrintLast Go.Proofs.Ytdjiclhjficgfaa.PB
set_option linter.unusedVariables false
def gets : List S46 → Nat
  | [] => 0
  | s :: l => (if s.f0 = 1 then 1 else 0) + gets l
theorem runFrom_gets (l : List S46) : ∀ (a : List Int) (c : List Bool) (g : List Int), (runFrom l a c g).1 = 0 → (runFrom l a c g).2.2.2.length = g.length + gets l := by
  induction l with
  | nil => intro a c g _; rfl
  | cons s l ih =>
    intro a c g h
    unfold runFrom at h ⊢
    by_cases hc : stepCode s a = 0
    · rw [if_pos hc] at h ⊢
      rw [ih _ _ _ h]
      rw [show gets (s :: l) = (if s.f0 = 1 then 1 else 0) + gets l from rfl]
      unfold stepGot
      by_cases h1 : s.f0 = 1
      · rw [if_pos h1, if_pos h1]; simp; omega
      · rw [if_neg h1, if_neg h1]; omega
    · rw [if_neg hc] at h; exact absurd h hc
theorem runOf_fail (l : List S46) (m : List S48) (h : (runOf l m).1 ≠ 0) : (runOf l m).2.1 = [] ∧ (runOf l m).2.2 = [] := by
  by_cases hy : dealOk l = true ∧ PairsOk m
  · rw [runOf_yes hy] at h ⊢
    unfold runOut at h ⊢
    simp only at h ⊢
    split
    · rename_i h0; rw [if_pos h0] at h; exact absurd rfl h
    · exact ⟨rfl, rfl⟩
  · rw [runOf_no hy]; exact ⟨rfl, rfl⟩
theorem runOf_done (l : List S46) (m : List S48) (h : (runOf l m).1 = 0) : dealOk l = true ∧ PairsOk m ∧ (runFrom l (prPutAll prZeros m) falses []).1 = 0 ∧ (runOf l m).2.1 = (runFrom l (prPutAll prZeros m) falses []).2.2.2 := by
  by_cases hy : dealOk l = true ∧ PairsOk m
  · rw [runOf_yes hy] at h ⊢
    unfold runOut at h ⊢
    simp only at h ⊢
    split
    · rename_i h0; exact ⟨hy.1, hy.2, h0, rfl⟩
    · rename_i h0; rw [if_neg h0] at h; exact absurd h h0
  · rw [runOf_no hy] at h; simp at h
theorem whole_l0 (l : List S46) (m : List S48) (got : List Int) (hl : l.length ≤ 7) (hm : m.length ≤ 13) (hfirst : ∀ (h : 0 < l.length), l[0].f0 = 4 → ¬ firstOf m l[0].f1 < l[0].f2) :
    ∀ i, i ≤ l.length → ∀ c : Nat, c ≤ i → c + gets (l.drop i) = got.length → Ev (fun k => laws_FnDealWhole.l0 k l m got (c : Int) (i : Int)) true := by
  refine loop_down l.length ?_ ?_
  · intro c hc hg
    rw [List.drop_of_length_le (Nat.le_refl _)] at hg
    have hg : c + 0 = got.length := hg
    refine Ev.step (fun k => by rw [laws_FnDealWhole.l0]) ?_
    refine Ev.neg (by omega) (Ev.ret ?_)
    rw [beq_iff_eq]; omega
  · intro i hi ih c hc hg
    rw [List.drop_eq_getElem_cons hi] at hg
    unfold gets at hg
    have hrd : rd_T46 l (i : Int) = l[i] := rdSt_lt hi
    have hw : wrap64 ((i : Int) + 1) = ((i + 1 : Nat) : Int) := wrap_in (by omega) (by omega)
    have hv : wrap64 ((c : Int) + 1) = ((c + 1 : Nat) : Int) := wrap_in (by omega) (by omega)
    refine Ev.step (fun k => by rw [laws_FnDealWhole.l0]) ?_
    refine Ev.pos (by omega) (Ev.pos (by omega) ?_)
    rw [hrd, hw, hv]
    by_cases h1 : l[i].f0 = 1
    · rw [if_pos h1] at hg
      exact Ev.pos h1 (Ev.neg (by omega) (ih (c + 1) (by omega) (by omega)))
    · rw [if_neg h1] at hg
      refine Ev.neg h1 ?_
      by_cases h4 : l[i].f0 = 4
      · refine Ev.pos h4 ?_
        by_cases h0 : i = 0
        · subst h0
          refine Ev.pos (by omega) (Ev.bind (loGet_ev m _ (by omega)) (Ev.neg (hfirst hi h4) ?_))
          exact ih c (by omega) (by omega)
        · exact Ev.neg (by omega) (ih c (by omega) (by omega))
      · exact Ev.neg h4 (ih c (by omega) (by omega))
theorem FnDealWhole : laws_FnDealWhole.Pure := by
  intro l0 _ _ hb
  refine Ev.rounds (g := fun k => laws_FnDealWhole.f k l0) ?_
  unfold laws_FnDealWhole.f
  by_cases h0 : (l0.length : Int) > 1048576
  · exact Ev.pos h0 (Ev.ret rfl)
  refine Ev.neg h0 ?_
  obtain ⟨l, m, hd, hl, hm⟩ := DrawDealRun_ev l0 hb
  refine Ev.bind hd (Ev.bind (spec_DealRun_ev l m) (Ev.bind (impl_DealRun_ev l m) ?_))
  have hp := runOf_lens l m
  refine Ev.pos rfl (Ev.bind (loInts_ev _ (by omega)) (Ev.pos rfl (Ev.bind (loPairs_ev _ (by omega)) ?_)))
  refine Ev.step (fun k => by rw [laws_FnDealWhole.j0]) ?_
  refine Ev.neg (by decide) ?_
  by_cases hc : (runOf l m).1 = 0
  · refine Ev.pos hc ?_
    obtain ⟨h1, h2, h3, h4⟩ := runOf_done l m hc
    have hg := runFrom_gets l (prPutAll prZeros m) falses [] h3
    refine whole_l0 l m _ hl hm ?_ 0 (by omega) 0 (by omega) ?_
    · intro hpos hf4 hlt
      cases l with
      | nil => simp at hpos
      | cons s l =>
        simp only [List.getElem_cons_zero] at hf4 hlt
        have hst := (dealOk_st h1).2.2 0 hpos
        simp only [List.getElem_cons_zero] at hst
        obtain ⟨hk, _, _⟩ := (stOk_iff _).1 hst
        have hsame := same_start h2 s.f1.toNat (by omega)
        rw [Int.toNat_of_nonneg hk.1] at hsame
        rw [hsame] at hlt
        have hcode : stepCode s (prPutAll prZeros m) = 1 := by
          unfold stepCode
          rw [if_neg (by omega), if_neg (by omega), if_neg (by omega), if_pos hlt]
        unfold runFrom at h3
        rw [if_neg (by omega)] at h3
        simp only at h3
        omega
    · rw [h4, hg]; simp
  · obtain ⟨h1, h2⟩ := runOf_fail l m hc
    refine Ev.neg hc (Ev.ret ?_)
    rw [h1, h2, beq_iff_eq]; exact wrap_in (x := 0) (by omega) (by omega)
end Go.Proofs.Ytdjiclhjficgfaa.Pure
