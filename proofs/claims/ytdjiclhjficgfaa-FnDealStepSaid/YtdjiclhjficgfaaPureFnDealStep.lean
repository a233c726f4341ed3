/- A deal is done statement by statement. -/
import Derived.Test.YtdjiclhjficgfaaRunPb
import Derived.Test.YtdjiclhjficgfaaPairSd
import Derived.Test.YtdjiclhjficgfaaPXx30
namespace Go.Proofs.Ytdjiclhjficgfaa.Pure
open Go.RowKit Go.Proofs.Ytdjiclhjficgfaa.PX Go.Proofs.YtdjiclhjficgfaaW.PrintWords Go.Proofs.YtdjiclhjficgfaaW.PrintLast Go.Proofs.Ytdjiclhjficgfaa.PB
set_option linter.unusedVariables false
set_option linter.unusedSimpArgs false
theorem getD_set {α : Type} (a : List α) (k j : Nat) (y d : α) (hk : k < a.length) : (a.set k y).getD j d = if j = k then y else a.getD j d := by
  by_cases h : j = k
  · subst h; simp [List.getD_eq_getElem?_getD, List.getElem?_set, hk]
  · rw [if_neg h]; simp [List.getD_eq_getElem?_getD, List.getElem?_set, show k ≠ j from fun e => h e.symm]
theorem run_append (l l2 : List S46) : ∀ (a : List Int) (c : List Bool) (g : List Int), runFrom (l ++ l2) a c g = if (runFrom l a c g).1 = 0 then runFrom l2 (runFrom l a c g).2.1 (runFrom l a c g).2.2.1 (runFrom l a c g).2.2.2 else runFrom l a c g := by
  induction l with
  | nil => intro a c g; rfl
  | cons s l ih =>
    intro a c g
    have er : ∀ x, runFrom (s :: x) a c g = if stepCode s a = 0 then runFrom x (stepVals s a) (stepChg s c) (stepGot s a g) else (stepCode s a, a, c, g) := fun x => rfl
    rw [List.cons_append, er, er]
    by_cases h : stepCode s a = 0
    · rw [if_pos h, if_pos h]; exact ih _ _ _
    · rw [if_neg h, if_neg h, if_neg h]
def Good (l : List S46) : Prop := ∀ s ∈ l, s.f1.toNat < 32 ∧ (-9999 ≤ s.f2 ∧ s.f2 ≤ 9999)
theorem run_keep (l : List S46) (hl : Good l) : ∀ (a : List Int) (c : List Bool) (g : List Int), InR a → c.length = 32 →
    InR (runFrom l a c g).2.1 ∧ (runFrom l a c g).2.2.1.length = 32 ∧ ∀ j : Nat, (runFrom l a c g).2.2.1.getD j false = false → (runFrom l a c g).2.1.getD j 0 = a.getD j 0 ∧ c.getD j false = false := by
  induction l with
  | nil => intro a c g ha hc; exact ⟨ha, hc, fun j h => ⟨rfl, h⟩⟩
  | cons s l ih =>
    intro a c g ha hc
    obtain ⟨hk, hv⟩ := hl s (by simp)
    have ih := ih (fun t ht => hl t (by simp [ht]))
    have la := ha.1
    unfold runFrom
    by_cases h0 : stepCode s a = 0
    · rw [if_pos h0]
      have put : ∀ y : Int, -9999 ≤ y ∧ y ≤ 9999 → InR (runFrom l (a.set s.f1.toNat y) (c.set s.f1.toNat true) g).2.1 ∧ (runFrom l (a.set s.f1.toNat y) (c.set s.f1.toNat true) g).2.2.1.length = 32 ∧ ∀ j : Nat, (runFrom l (a.set s.f1.toNat y) (c.set s.f1.toNat true) g).2.2.1.getD j false = false → (runFrom l (a.set s.f1.toNat y) (c.set s.f1.toNat true) g).2.1.getD j 0 = a.getD j 0 ∧ c.getD j false = false := by
        intro y hy
        obtain ⟨q1, q2, q3⟩ := ih (a.set s.f1.toNat y) (c.set s.f1.toNat true) g (ha.set _ _ hy) (by simpa using hc)
        refine ⟨q1, q2, fun j hj => ?_⟩
        obtain ⟨q4, q5⟩ := q3 j hj
        rw [getD_set _ _ _ _ _ (by omega)] at q4 q5
        by_cases hjk : j = s.f1.toNat
        · rw [if_pos hjk] at q5; cases q5
        · rw [if_neg hjk] at q4 q5; exact ⟨q4, q5⟩
      by_cases h1 : s.f0 = 1
      · have e2 : stepVals s a = a := by unfold stepVals; rw [if_pos h1]
        have e3 : stepChg s c = c := by unfold stepChg; rw [if_pos h1]
        rw [e2, e3]; exact ih a c _ ha hc
      · have e4 : stepGot s a g = g := by unfold stepGot; rw [if_neg h1]
        rw [e4]
        by_cases h2 : s.f0 = 2
        · have e2 : stepVals s a = a.set s.f1.toNat s.f2 := by unfold stepVals; rw [if_neg h1, if_pos h2]
          have e3 : stepChg s c = c.set s.f1.toNat true := by unfold stepChg; rw [if_neg h1, if_pos h2]
          rw [e2, e3]; exact put _ hv
        · by_cases h3 : s.f0 = 3
          · have e2 : stepVals s a = a.set s.f1.toNat (wrap64 (a.getD s.f1.toNat 0 + s.f2)) := by unfold stepVals; rw [if_neg h1, if_neg h2, if_pos h3]
            have e3 : stepChg s c = c.set s.f1.toNat true := by unfold stepChg; rw [if_neg h1, if_neg h2, if_pos h3]
            rw [e2, e3]
            refine put _ ?_
            unfold stepCode at h0
            rw [if_neg h1, if_neg h2, if_pos h3] at h0
            by_cases hi : isVl (wrap64 (a.getD s.f1.toNat 0 + s.f2)) = true
            · exact of_decide_eq_true hi
            · rw [if_neg hi] at h0; cases h0
          · have e2 : stepVals s a = a := by unfold stepVals; rw [if_neg h1, if_neg h2, if_neg h3]
            have e3 : stepChg s c = c := by unfold stepChg; rw [if_neg h1, if_neg h2, if_neg h3]
            rw [e2, e3]; exact ih a c _ ha hc
    · rw [if_neg h0]; exact ⟨ha, hc, fun j h => ⟨rfl, h⟩⟩
theorem run_shift (l : List S46) (hl : Good l) (c0 : List Bool) (g0 : List Int) : ∀ (a : List Int) (c c2 : List Bool) (g : List Int), c.length = 32 → c2.length = 32 → (∀ j : Nat, c.getD j false = (c0.getD j false || c2.getD j false)) →
    (runFrom l a c (g0 ++ g)).1 = (runFrom l a c2 g).1 ∧ (runFrom l a c (g0 ++ g)).2.1 = (runFrom l a c2 g).2.1 ∧ (runFrom l a c (g0 ++ g)).2.2.2 = g0 ++ (runFrom l a c2 g).2.2.2 ∧ ∀ j : Nat, (runFrom l a c (g0 ++ g)).2.2.1.getD j false = (c0.getD j false || (runFrom l a c2 g).2.2.1.getD j false) := by
  induction l with
  | nil => intro a c c2 g _ _ h; exact ⟨rfl, rfl, rfl, h⟩
  | cons s l ih =>
    intro a c c2 g lc lc2 h
    obtain ⟨hk, hv⟩ := hl s (by simp)
    have ih := ih (fun t ht => hl t (by simp [ht]))
    unfold runFrom
    by_cases h0 : stepCode s a = 0
    · rw [if_pos h0, if_pos h0]
      have eg : stepGot s a (g0 ++ g) = g0 ++ stepGot s a g := by unfold stepGot; split <;> simp
      rw [eg]
      have e1 : (stepChg s c).length = 32 := by unfold stepChg; split; exact lc; split; simpa using lc; split; simpa using lc; exact lc
      have e2 : (stepChg s c2).length = 32 := by unfold stepChg; split; exact lc2; split; simpa using lc2; split; simpa using lc2; exact lc2
      refine ih _ _ _ _ e1 e2 ?_
      intro j
      have put : (c.set s.f1.toNat true).getD j false = (c0.getD j false || (c2.set s.f1.toNat true).getD j false) := by
        rw [getD_set _ _ _ _ _ (by omega), getD_set _ _ _ _ _ (by omega)]
        split
        · simp
        · exact h j
      unfold stepChg
      split
      · exact h j
      · split
        · exact put
        · split
          · exact put
          · exact h j
    · rw [if_neg h0, if_neg h0]; exact ⟨rfl, rfl, rfl, h⟩
theorem lastOf_append (l l2 : List S48) (j d : Int) : lastOf (l ++ l2) j d = lastOf l2 j (lastOf l j d) := by
  induction l generalizing d with
  | nil => rfl
  | cons p l ih => rw [List.cons_append, lastOf_cons, lastOf_cons, ih]
theorem outs_last (p : Nat → Bool) (f : Nat → Int) (j : Nat) (d : Int) : ∀ n : Nat, lastOf (((List.range n).filter p).map (fun i : Nat => (⟨(i : Int), f i⟩ : S48))) (j : Int) d = if j < n ∧ p j = true then f j else d
  | 0 => by rw [if_neg (by omega)]; rfl
  | n + 1 => by
    rw [List.range_succ, List.filter_append, List.map_append, lastOf_append, outs_last p f j d n]
    by_cases hp : p n = true
    · rw [show (List.filter p [n]) = [n] by simp [hp]]
      show (if ((n : Int)) = (j : Int) then f n else _) = _
      by_cases hj : j = n
      · subst hj; rw [if_pos rfl, if_pos ⟨by omega, hp⟩]
      · rw [if_neg (by omega)]
        by_cases h : j < n ∧ p j = true
        · rw [if_pos h, if_pos ⟨by omega, h.2⟩]
        · rw [if_neg h, if_neg (fun h2 => h ⟨by omega, h2.2⟩)]
    · rw [show (List.filter p [n]) = [] by simp [hp]]
      show (if _ then _ else _) = _
      by_cases h : j < n ∧ p j = true
      · rw [if_pos h, if_pos ⟨by omega, h.2⟩]
      · rw [if_neg h, if_neg (fun h2 => by
          rcases Nat.lt_or_ge j n with h3 | h3
          · exact h ⟨h3, h2.2⟩
          · have e : j = n := by omega
            rw [e] at h2
            exact hp h2.2)]
theorem ext32 {a b : List Int} (ha : a.length = 32) (hb : b.length = 32) (h : ∀ j : Nat, j < 32 → a.getD j 0 = b.getD j 0) : a = b := by
  refine List.ext_getElem (by omega) (fun j h1 h2 => ?_)
  have := h j (by omega)
  simpa [List.getD_eq_getElem?_getD, List.getElem?_eq_getElem h1, List.getElem?_eq_getElem h2] using this
theorem put_run (l : List S46) (m : List S48) (hl : Good l) (hm : PairsOk m) : putArr m (chOut (run0 l m).2.1 (run0 l m).2.2.1 32) = (run0 l m).2.1 := by
  obtain ⟨q1, q2, q3⟩ := run_keep l hl (prPutAll prZeros m) falses [] (InR.start hm) rfl
  have q1 : InR (run0 l m).2.1 := q1
  refine ext32 (putArr_in hm (chOut_ok q1)).1 q1.1 (fun j hj => ?_)
  rw [putArr_at m _ hm (chOut_ok q1) j hj]
  unfold chOut
  rw [outs_last]
  by_cases hc : (run0 l m).2.2.1.getD j false = true
  · rw [if_pos ⟨hj, hc⟩]
  · rw [if_neg (fun h => hc h.2)]
    have hc' : (run0 l m).2.2.1.getD j false = false := by simpa using hc
    have h := (q3 j hc').1
    have h : (run0 l m).2.1.getD j 0 = (prPutAll prZeros m).getD j 0 := h
    rw [h]; exact same_start hm j hj
theorem put_out {x : List Int} (h : InR x) : prPutAll prZeros (prOut x 32) = x := by
  refine ext32 (by rw [prPutAll_length]; rfl) h.1 (fun j hj => ?_)
  rw [putAll_at j hj _ _ rfl (prOut_ok h).keys, zeros_at j hj]
  unfold prOut
  rw [outs_last]
  by_cases hc : x.getD j 0 = 0
  · rw [if_neg (by rw [hc]; simp), hc]
  · rw [if_pos ⟨hj, by simpa using hc⟩]
theorem falses_at (j : Nat) : falses.getD j false = false := by
  have hfa : ∀ j : Nat, j < 32 → falses.getD j false = false := by decide
  by_cases h32 : j < 32
  · exact hfa j h32
  · rw [List.getD_eq_getElem?_getD, List.getElem?_eq_none (show falses.length ≤ j by show 32 ≤ j; omega)]; rfl
theorem dealOk_sub {d l : List S46} (h : dealOk d = true) (hs : ∀ s ∈ l, s ∈ d) (h1 : 1 ≤ l.length) (h6 : l.length ≤ 6) : dealOk l = true := by
  unfold dealOk at h ⊢
  rw [Bool.and_eq_true] at h ⊢
  exact ⟨decide_eq_true ⟨h1, h6⟩, List.all_eq_true.2 (fun s hl => List.all_eq_true.1 h.2 s (hs s hl))⟩
theorem good_of {d : List S46} (h : dealOk d = true) : Good d := by
  intro s hs
  obtain ⟨i, hi, rfl⟩ := List.getElem_of_mem hs
  obtain ⟨q1, q2, _⟩ := (stOk_iff _).1 ((dealOk_st h).2.2 i hi)
  exact ⟨by omega, q2⟩
theorem FnDealStep : laws_FnDealStep.Pure := by
  intro l0 l1 _ _ hb _ _ _
  refine Ev.rounds (g := fun k => laws_FnDealStep.f k l0 l1) ?_
  unfold laws_FnDealStep.f
  have yes : Ev (fun k => laws_FnDealStep.j0 k l0 l1 true) true := by
    refine Ev.step (fun k => by rw [laws_FnDealStep.j0]) ?_
    exact Ev.pos rfl (Ev.ret rfl)
  by_cases h0 : (l0.length : Int) > 1048576
  · exact Ev.pos h0 yes
  refine Ev.neg h0 ?_
  by_cases h1 : (l1.length : Int) > 1048576
  · rw [decide_eq_true h1]; exact yes
  rw [decide_eq_false h1]
  refine Ev.step (fun k => by rw [laws_FnDealStep.j0]) ?_
  refine Ev.neg (by decide) ?_
  obtain ⟨d, m, hd, hl, hm⟩ := DrawDealRun_ev l0 hb
  have hp := runOf_lens d m
  have li := loInts_ev (runOf d m).2.1 (by omega)
  have lp := loPairs_ev (runOf d m).2.2 (by omega)
  refine Ev.bind hd (Ev.bind (spec_DealRun_ev d m) (Ev.bind (impl_DealRun_ev d m) (Ev.pos rfl (Ev.bind li (Ev.pos rfl (Ev.bind lp (Ev.pos rfl ?_)))))))
  have out : Ev (fun k => laws_FnDealStep.j1 k l1 d m (runOf d m).1 (runOf d m).2.1 (runOf d m).2.2 (runOf d m).1 (runOf d m).2.1 (runOf d m).2.2 true) true := by
    refine Ev.step (fun k => by rw [laws_FnDealStep.j1]) ?_
    exact Ev.pos rfl (Ev.pos rfl (Ev.bind li (Ev.pos rfl (Ev.bind lp (Ev.ret rfl)))))
  by_cases hc : (runOf d m).1 = 0
  · refine Ev.pos hc ?_
    by_cases h2 : (d.length : Int) < 2
    · rw [decide_eq_true h2]; exact out
    rw [decide_eq_false h2]
    have hy : dealOk d = true ∧ PairsOk m := by
      by_cases hy : dealOk d = true ∧ PairsOk m
      · exact hy
      · rw [runOf_no hy] at hc; cases hc
    have h6 := (dealOk_st hy.1).1
    have hr := runOf_good hy
    have hcode : (run0 d m).1 = 0 := by
      by_cases h : (run0 d m).1 = 0
      · exact h
      · rw [hr, if_neg h] at hc; exact absurd hc h
    rw [if_pos hcode] at hr
    refine Ev.step (fun k => by rw [laws_FnDealStep.j1]) ?_
    have hw : wrap64 ((d.length : Int) - 1) = (d.length : Int) - 1 := wrap_in (by omega) (by omega)
    rw [hw]
    have hm0 := Int.emod_nonneg (l1.length : Int) (show (d.length : Int) - 1 ≠ 0 by omega)
    have hm1 := Int.emod_lt_of_pos (l1.length : Int) (show (0 : Int) < (d.length : Int) - 1 by omega)
    obtain ⟨cut, hcut, c1, c2⟩ : ∃ cut : Nat, wrap64 (1 + (l1.length : Int) % ((d.length : Int) - 1)) = (cut : Int) ∧ 1 ≤ cut ∧ cut < d.length := by
      refine ⟨(1 + (l1.length : Int) % ((d.length : Int) - 1)).toNat, ?_, by omega, by omega⟩
      rw [wrap_in (by omega) (by omega)]; omega
    rw [hcut]
    refine Ev.neg (by decide) (Ev.neg (show ¬ ((d.length : Int) - 1 = 0) by omega) (Ev.pos (show (0 : Int) ≤ (cut : Int) by omega) (Ev.pos (show (cut : Int) ≤ (d.length : Int) by omega) ?_)))
    rw [Int.toNat_natCast]
    have hA : dealOk (d.take cut) = true := dealOk_sub hy.1 (fun s hs => List.mem_of_mem_take hs) (by rw [List.length_take]; omega) (by rw [List.length_take]; omega)
    have hB : dealOk (d.drop cut) = true := dealOk_sub hy.1 (fun s hs => List.mem_of_mem_drop hs) (by rw [List.length_drop]; omega) (by rw [List.length_drop]; omega)
    have happ : run0 d m = if (run0 (d.take cut) m).1 = 0 then runFrom (d.drop cut) (run0 (d.take cut) m).2.1 (run0 (d.take cut) m).2.2.1 (run0 (d.take cut) m).2.2.2 else run0 (d.take cut) m := by
      have := run_append (d.take cut) (d.drop cut) (prPutAll prZeros m) falses []
      rw [List.take_append_drop] at this
      exact this
    have hA0 : (run0 (d.take cut) m).1 = 0 := by
      by_cases h : (run0 (d.take cut) m).1 = 0
      · exact h
      · rw [if_neg h] at happ; rw [happ] at hcode; exact hcode
    rw [if_pos hA0] at happ
    have rA := runOf_good (l := d.take cut) (m := m) ⟨hA, hy.2⟩
    rw [if_pos hA0] at rA
    obtain ⟨k1, k2, _⟩ := run_keep (d.take cut) (good_of hA) (prPutAll prZeros m) falses [] (InR.start hy.2) rfl
    have k1 : InR (run0 (d.take cut) m).2.1 := k1
    have k2 : (run0 (d.take cut) m).2.2.1.length = 32 := k2
    have pA := put_run (d.take cut) m (good_of hA) hy.2
    have hleft := chOut_ok (c := (run0 (d.take cut) m).2.2.1) k1
    have hput := impl_put_ev m (chOut (run0 (d.take cut) m).2.1 (run0 (d.take cut) m).2.2.1 32)
    rw [putOf_yes ⟨hy.2, hleft⟩, pA] at hput
    have hnow := prOut_ok k1
    have eB : run0 (d.drop cut) (prOut (run0 (d.take cut) m).2.1 32) = runFrom (d.drop cut) (run0 (d.take cut) m).2.1 falses [] := by
      show runFrom (d.drop cut) (prPutAll prZeros (prOut (run0 (d.take cut) m).2.1 32)) falses [] = _
      rw [put_out k1]
    obtain ⟨s1, s2, s3, _⟩ := run_shift (d.drop cut) (good_of hB) (run0 (d.take cut) m).2.2.1 (run0 (d.take cut) m).2.2.2 (run0 (d.take cut) m).2.1 (run0 (d.take cut) m).2.2.1 falses [] k2 rfl (fun j => by rw [falses_at, Bool.or_false])
    rw [List.append_nil, ← happ, ← eB] at s1 s2 s3
    have rB := runOf_good (l := d.drop cut) (m := prOut (run0 (d.take cut) m).2.1 32) ⟨hB, hnow⟩
    rw [if_pos (s1 ▸ hcode)] at rB
    have i1 := impl_DealRun_ev (d.take cut) m
    rw [rA] at i1
    have i2 := impl_DealRun_ev (d.drop cut) (prOut (run0 (d.take cut) m).2.1 32)
    rw [rB] at i2
    have pB := put_run (d.drop cut) (prOut (run0 (d.take cut) m).2.1 32) (good_of hB) hnow
    obtain ⟨kb, _, _⟩ := run_keep (d.drop cut) (good_of hB) (prPutAll prZeros (prOut (run0 (d.take cut) m).2.1 32)) falses [] (InR.start hnow) rfl
    have kb : InR (run0 (d.drop cut) (prOut (run0 (d.take cut) m).2.1 32)).2.1 := kb
    have put2 := impl_put_ev (prOut (run0 (d.take cut) m).2.1 32) (chOut (run0 (d.drop cut) (prOut (run0 (d.take cut) m).2.1 32)).2.1 (run0 (d.drop cut) (prOut (run0 (d.take cut) m).2.1 32)).2.2.1 32)
    rw [putOf_yes ⟨hnow, chOut_ok kb⟩, pB] at put2
    replace put2 := evTo put2 (congrArg (fun z => prOut z 32) s2.symm)
    have pD := put_run d m (good_of hy.1) hy.2
    have kd : InR (run0 d m).2.1 := (run_keep d (good_of hy.1) (prPutAll prZeros m) falses [] (InR.start hy.2) rfl).1
    have put3 := impl_put_ev m (chOut (run0 d m).2.1 (run0 d m).2.2.1 32)
    rw [putOf_yes ⟨hy.2, chOut_ok kd⟩, pD] at put3
    rw [hr] at li hp ⊢
    have hlen := hp.1
    simp only at hlen
    have hlen2 := congrArg List.length s3
    rw [List.length_append] at hlen2
    refine Ev.bind i1 (Ev.bind hput (Ev.bind i2 (Ev.pos rfl (Ev.pos rfl (Ev.eq rfl (Ev.pos (by simp only [List.length_nil]; omega) (Ev.eq rfl (Ev.pos (by simp only [List.nil_append]; omega) ?_))))))))
    have hgot : ([] ++ (run0 (d.take cut) m).2.2.2) ++ (run0 (d.drop cut) (prOut (run0 (d.take cut) m).2.1 32)).2.2.2 = (run0 d m).2.2.2 := by rw [List.nil_append, s3]
    simp only
    rw [hgot]
    have hpo := prOut_length (run0 d m).2.1 32
    exact Ev.bind li (Ev.pos rfl (Ev.bind put2 (Ev.bind put3 (Ev.bind (loPairs_ev _ (by omega)) (Ev.ret rfl)))))
  · exact Ev.neg hc out
end Go.Proofs.Ytdjiclhjficgfaa.Pure
