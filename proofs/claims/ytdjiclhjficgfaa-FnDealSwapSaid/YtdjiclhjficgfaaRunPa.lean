/- What DealRun comes to on both sides: the reference's lists, the program's tables. -/
import Derived.Test.YtdjiclhjficgfaaPairSb
import Derived.Test.YtdjiclhjficgfaaDealPa
import Derived.Test.YtdjiclhjficgfaaPXx11
import Derived.Test.YtdjiclhjficgfaaPXx13
import Derived.Test.YtdjiclhjficgfaaPXx10
namespace Go.Proofs.Ytdjiclhjficgfaa.PB
open Go.RowKit Go.Proofs.Ytdjiclhjficgfaa.PX Go.Proofs.YtdjiclhjficgfaaW.PrintWords Go.Proofs.YtdjiclhjficgfaaW.PrintLast
set_option linter.unusedVariables false
set_option linter.unusedSimpArgs false
/-- A key set in a list: ahead of the first that is not below it. -/
def setF : List S48 → Int → Int → Bool → List S48
  | [], x, y, b => if b = true then [] else [⟨x, y⟩]
  | p :: l, x, y, b => if b = true then (if p.f0 = x then setF l x y true else p :: setF l x y true) else (if p.f0 ≥ x then ⟨x, y⟩ :: (if p.f0 = x then setF l x y true else p :: setF l x y true) else (if p.f0 = x then setF l x y false else p :: setF l x y false))
theorem setF_length (l : List S48) (x y : Int) (b : Bool) : (setF l x y b).length ≤ l.length + (if b = true then 0 else 1) := by
  induction l generalizing b with
  | nil => unfold setF; cases b <;> simp
  | cons p l ih =>
    have h1 := ih true
    have h2 := ih false
    simp only [if_true, Bool.false_eq_true, if_false] at h1 h2
    unfold setF
    cases b with
    | true => rw [if_pos rfl, if_pos rfl]; split <;> simp <;> omega
    | false =>
      simp only [Bool.false_eq_true, if_false]
      split
      · split <;> simp <;> omega
      · split <;> simp <;> omega
theorem setF_ev (l : List S48) (x y : Int) (hl : l.length ≤ 1048576) : Ev (fun k => spec_l1Set.f k l x y) (setF l x y false) := by
  unfold spec_l1Set.f
  have key : ∀ i, i ≤ l.length → ∀ (z : List S48) (b : Bool), z.length ≤ i + (if b = true then 1 else 0) → Ev (fun k => spec_l1Set.l0 k l x y z b (i : Int)) (z ++ setF (l.drop i) x y b) := by
    refine loop_down l.length ?_ ?_
    · intro z b hz
      rw [List.drop_of_length_le (Nat.le_refl _)]
      cases b with
      | true =>
        refine Ev.step (fun k => by rw [spec_l1Set.l0]) ?_
        exact Ev.neg (by omega) (Ev.pos rfl (Ev.ret (by simp [setF])))
      | false =>
        have hz : z.length ≤ l.length := by simpa using hz
        refine Ev.step (fun k => by rw [spec_l1Set.l0]) ?_
        exact Ev.neg (by omega) (Ev.neg (by decide) (Ev.pos (by omega) (Ev.ret (by simp [setF]))))
    · intro i hi ih z b hz
      have hw : wrap64 ((i : Int) + 1) = ((i + 1 : Nat) : Int) := wrap_in (by omega) (by omega)
      have hrd : rd_T48 l (i : Int) = l[i] := rd58_lt hi
      rw [List.drop_eq_getElem_cons hi]
      cases b with
      | true =>
        have hz : z.length ≤ i + 1 := by simpa using hz
        refine Ev.step (fun k => by rw [spec_l1Set.l0]) ?_
        refine Ev.pos (by omega) (Ev.pos rfl ?_)
        refine Ev.step (fun k => by rw [spec_l1Set.j1]) ?_
        refine Ev.neg (by decide) (Ev.pos (by omega) (Ev.pos (by omega) ?_))
        rw [hw, hrd]
        unfold setF
        rw [if_pos rfl]
        by_cases hx : l[i].f0 = x
        · rw [if_pos hx]; exact Ev.pos hx (ih z true (by simp; omega))
        · rw [if_neg hx]; exact Ev.neg hx (Ev.pos (by omega) (evTo (ih _ true (by simp; omega)) (by simp)))
      | false =>
        have hz : z.length ≤ i := by simpa using hz
        refine Ev.step (fun k => by rw [spec_l1Set.l0]) ?_
        refine Ev.pos (by omega) (Ev.neg (by decide) (Ev.pos (by omega) ?_))
        rw [hrd]
        unfold setF
        rw [if_neg (by decide)]
        by_cases hge : l[i].f0 ≥ x
        · rw [decide_eq_true hge, if_pos hge]
          refine Ev.step (fun k => by rw [spec_l1Set.j1]) ?_
          refine Ev.pos rfl (Ev.pos (by omega) (Ev.eq rfl (Ev.pos (by omega) (Ev.pos (by omega) ?_))))
          rw [hw, hrd]
          by_cases hx : l[i].f0 = x
          · rw [if_pos hx]; exact Ev.pos hx (evTo (ih (z ++ [(⟨x, y⟩ : S48)]) true (by simp; omega)) (by simp))
          · rw [if_neg hx]; exact Ev.neg hx (Ev.pos (by simp; omega) (evTo (ih (z ++ [(⟨x, y⟩ : S48)] ++ [(⟨l[i].f0, l[i].f1⟩ : S48)]) true (by simp; omega)) (by simp)))
        · rw [decide_eq_false hge, if_neg hge]
          refine Ev.step (fun k => by rw [spec_l1Set.j1]) ?_
          refine Ev.neg (by decide) (Ev.pos (by omega) (Ev.pos (by omega) ?_))
          rw [hw, hrd]
          by_cases hx : l[i].f0 = x
          · rw [if_pos hx]; exact Ev.pos hx (ih z false (by simp; omega))
          · rw [if_neg hx]; exact Ev.neg hx (Ev.pos (by omega) (evTo (ih (z ++ [(⟨l[i].f0, l[i].f1⟩ : S48)]) false (by simp; omega)) (by simp)))
  simpa using key 0 (by omega) [] false (by simp)
theorem first_set_same (l : List S48) (x y : Int) : firstOf (setF l x y false) x = y := by
  induction l with
  | nil => simp [setF, firstOf]
  | cons p l ih =>
    unfold setF
    rw [if_neg (by decide)]
    by_cases hge : p.f0 ≥ x
    · rw [if_pos hge]; simp [firstOf]
    · rw [if_neg hge, if_neg (by omega)]
      unfold firstOf
      rw [if_neg (by omega)]
      exact ih
theorem first_set_other (l : List S48) (x y j : Int) (b : Bool) (hj : j ≠ x) : firstOf (setF l x y b) j = firstOf l j := by
  induction l generalizing b with
  | nil => unfold setF; cases b <;> simp [firstOf]; intro h; exact absurd h.symm hj
  | cons p l ih =>
    have hs : ∀ b, firstOf (if p.f0 = x then setF l x y b else p :: setF l x y b) j = firstOf (p :: l) j := by
      intro b
      by_cases hx : p.f0 = x
      · rw [if_pos hx, ih]
        conv => rhs; unfold firstOf
        rw [if_neg (by omega)]
      · rw [if_neg hx]
        unfold firstOf
        rw [ih]
    unfold setF
    cases b with
    | true => rw [if_pos rfl]; exact hs true
    | false =>
      rw [if_neg (by decide)]
      by_cases hge : p.f0 ≥ x
      · rw [if_pos hge]
        conv => lhs; unfold firstOf
        rw [if_neg (by simpa using Ne.symm hj)]
        exact hs true
      · rw [if_neg hge]; exact hs false
/-- The keys from s on, m of them, that have changed. -/
def chFrom (a : List Int) (c : List Bool) (s m : Nat) : List S48 := ((List.range' s m).filter (fun j => c.getD j false)).map (fun j : Nat => (⟨(j : Int), a.getD j 0⟩ : S48))
theorem chFrom_zero (a : List Int) (c : List Bool) (s : Nat) : chFrom a c s 0 = [] := rfl
theorem chFrom_succ (a : List Int) (c : List Bool) (s m : Nat) : chFrom a c s (m + 1) = if c.getD s false = true then ⟨(s : Int), a.getD s 0⟩ :: chFrom a c (s + 1) m else chFrom a c (s + 1) m := by
  unfold chFrom
  rw [List.range'_succ, List.filter_cons]
  split <;> rfl
theorem chOut_from (a : List Int) (c : List Bool) : chOut a c 32 = chFrom a c 0 32 := by
  unfold chOut chFrom
  rw [List.range_eq_range']
theorem chFrom_ge (a : List Int) (c : List Bool) : ∀ (m s : Nat), ∀ p ∈ chFrom a c s m, (s : Int) ≤ p.f0
  | 0, s, p, hp => by simp [chFrom_zero] at hp
  | m + 1, s, p, hp => by
    rw [chFrom_succ] at hp
    split at hp
    · rcases List.mem_cons.1 hp with rfl | hp
      · exact Int.le_refl _
      · have := chFrom_ge a c m (s + 1) p hp; omega
    · have := chFrom_ge a c m (s + 1) p hp; omega
theorem setF_id (l : List S48) (x y : Int) (h : ∀ p ∈ l, p.f0 ≠ x) : setF l x y true = l := by
  induction l with
  | nil => rfl
  | cons p l ih =>
    unfold setF
    rw [if_pos rfl, if_neg (h p (by simp)), ih (fun q hq => h q (by simp [hq]))]
theorem setF_front (l : List S48) (x y : Int) (h : ∀ p ∈ l, x < p.f0) : setF l x y false = ⟨x, y⟩ :: l := by
  cases l with
  | nil => rfl
  | cons p l =>
    have := h p (by simp)
    unfold setF
    rw [if_neg (by decide), if_pos (by omega), if_neg (by omega), setF_id l x y (fun q hq => by have := h q (by simp [hq]); omega)]
theorem chFrom_other (a : List Int) (c : List Bool) (k : Nat) (y : Int) : ∀ (m s : Nat), k < s → chFrom (a.set k y) (c.set k true) s m = chFrom a c s m
  | 0, s, h => rfl
  | m + 1, s, h => by
    rw [chFrom_succ, chFrom_succ, chFrom_other a c k y m (s + 1) (by omega)]
    have e1 : (c.set k true).getD s false = c.getD s false := by simp [List.getD_eq_getElem?_getD, List.getElem?_set, show k ≠ s by omega]
    have e2 : (a.set k y).getD s 0 = a.getD s 0 := by simp [List.getD_eq_getElem?_getD, List.getElem?_set, show k ≠ s by omega]
    rw [e1, e2]
theorem chFrom_set (a : List Int) (c : List Bool) (k : Nat) (y : Int) (ha : k < a.length) (hc : k < c.length) : ∀ (m s : Nat), s ≤ k → k < s + m → setF (chFrom a c s m) (k : Int) y false = chFrom (a.set k y) (c.set k true) s m
  | 0, s, h1, h2 => by omega
  | m + 1, s, h1, h2 => by
    rw [chFrom_succ, chFrom_succ]
    by_cases hs : s = k
    · subst hs
      have hrest : ∀ p ∈ chFrom a c (s + 1) m, (s : Int) < p.f0 := fun p hp => by have := chFrom_ge a c m (s + 1) p hp; omega
      rw [chFrom_other a c s y m (s + 1) (by omega)]
      have e1 : (c.set s true).getD s false = true := by simp [List.getD_eq_getElem?_getD, hc]
      have e2 : (a.set s y).getD s 0 = y := by simp [List.getD_eq_getElem?_getD, ha]
      rw [e1, e2, if_pos rfl]
      split
      · unfold setF
        simp only
        rw [if_neg (by decide), if_pos (Int.le_refl _), if_pos trivial, setF_id _ _ _ (fun p hp => by have := hrest p hp; omega)]
      · exact setF_front _ _ _ hrest
    · have ih := chFrom_set a c k y ha hc m (s + 1) (by omega) (by omega)
      have e1 : (c.set k true).getD s false = c.getD s false := by simp [List.getD_eq_getElem?_getD, List.getElem?_set, show k ≠ s by omega]
      have e2 : (a.set k y).getD s 0 = a.getD s 0 := by simp [List.getD_eq_getElem?_getD, List.getElem?_set, show k ≠ s by omega]
      rw [e1, e2]
      split
      · conv => lhs; unfold setF
        simp only
        rw [if_neg (by decide), if_neg (by omega), if_neg (by omega), ih]
      · exact ih
theorem chOut_set (a : List Int) (c : List Bool) (k : Nat) (y : Int) (ha : a.length = 32) (hc : c.length = 32) (hk : k < 32) : setF (chOut a c 32) (k : Int) y false = chOut (a.set k y) (c.set k true) 32 := by
  rw [chOut_from, chOut_from]
  exact chFrom_set a c k y (by omega) (by omega) 32 0 (by omega) (by omega)
/-- The reference's values are the program's. -/
def Same (now : List S48) (a : List Int) : Prop := ∀ j : Nat, j < 32 → firstOf now (j : Int) = a.getD j 0
theorem Same.set {now : List S48} {a : List Int} (h : Same now a) (ha : a.length = 32) (k : Nat) (hk : k < 32) (y : Int) : Same (setF now (k : Int) y false) (a.set k y) := by
  intro j hj
  by_cases hjk : j = k
  · subst hjk
    rw [first_set_same]
    simp [List.getD_eq_getElem?_getD, ha, hk]
  · rw [first_set_other _ _ _ _ _ (by omega), h j hj]
    simp [List.getD_eq_getElem?_getD, List.getElem?_set, show k ≠ j from fun h => hjk h.symm]
def outOf (r : Int × List Int × List Bool × List Int) : Int × List Int × List S48 := if r.1 = 0 then (0, r.2.2.2, chOut r.2.1 r.2.2.1 32) else (r.1, [], [])
theorem spec_run_l0 (l : List S46) (hl : l.length ≤ 6) (hs : ∀ i (h : i < l.length), stOk l[i] = true) : ∀ i, i ≤ l.length → ∀ (now : List S48) (a : List Int) (c : List Bool) (g : List Int), a.length = 32 → c.length = 32 → Same now a → now.length ≤ 1000 + i → g.length ≤ i →
    Ev (fun k => spec_DealRun.l0 k l now g (chOut a c 32) (i : Int)) (outOf (runFrom (l.drop i) a c g)) := by
  refine loop_down l.length ?_ ?_
  · intro now a c g ha hc hsame hn hg
    rw [List.drop_of_length_le (Nat.le_refl _)]
    refine Ev.step (f := fun _ => some (0, g, chOut a c 32)) (fun k => ?_) (Ev.ret rfl)
    simp only [spec_DealRun.l0]; rw [if_neg (by omega)]
  · intro i hi ih now a c g ha hc hsame hn hg
    have hst := hs i hi
    obtain ⟨hk, hv, hd⟩ := (stOk_iff _).1 hst
    have hw : wrap64 ((i : Int) + 1) = ((i + 1 : Nat) : Int) := wrap_in (by omega) (by omega)
    have hrd : rd_T46 l (i : Int) = l[i] := rdSt_lt hi
    rw [List.drop_eq_getElem_cons hi]
    have hrun : runFrom (l[i] :: l.drop (i + 1)) a c g = if stepCode l[i] a = 0 then runFrom (l.drop (i + 1)) (stepVals l[i] a) (stepChg l[i] c) (stepGot l[i] a g) else (stepCode l[i] a, a, c, g) := rfl
    rw [hrun]
    generalize l[i] = s at hst hk hv hd hrd ⊢
    obtain ⟨d, q, n⟩ := s
    simp only at hk hv hd
    have hq : firstOf now q = a.getD q.toNat 0 := by have := hsame q.toNat (by omega); rwa [Int.toNat_of_nonneg hk.1] at this
    have hqn : ((q.toNat : Nat) : Int) = q := Int.toNat_of_nonneg hk.1
    have hchl := chOut_length a c 32
    have hset : ∀ y : Int, Ev (fun k => (spec_l1Set.f k now q y).bind fun t => (spec_l1Set.f k (chOut a c 32) q y).bind fun u => spec_DealRun.l0 k l t g u ((i + 1 : Nat) : Int)) (outOf (runFrom (l.drop (i + 1)) (a.set q.toNat y) (c.set q.toNat true) g)) := by
      intro y
      refine Ev.bind (setF_ev now q y (by omega)) (Ev.bind (setF_ev _ q y (by omega)) ?_)
      have hn' := setF_length now q y false
      simp only [Bool.false_eq_true, if_false] at hn'
      have h1 := chOut_set a c q.toNat y ha hc (by omega)
      rw [hqn] at h1
      rw [h1]
      have h2 := hsame.set ha q.toNat (by omega) y
      rw [hqn] at h2
      exact ih _ _ _ _ (by simpa using ha) (by simpa using hc) h2 (by omega) (by omega)
    refine Ev.step (fun k => by rw [spec_DealRun.l0]) ?_
    refine Ev.pos (by omega) (Ev.pos (by omega) ?_)
    rw [hrd, hw]
    simp only
    refine Ev.bind (l1Get_ev now q (by omega)) ?_
    rw [hq]
    rcases hd with ⟨rfl, rfl⟩ | rfl | rfl | rfl
    · refine Ev.pos rfl (Ev.pos (by omega) ?_)
      exact ih now a c (g ++ [a.getD q.toNat 0]) ha hc hsame (by omega) (by simp; omega)
    · refine Ev.neg (by decide) (Ev.neg (by decide) (Ev.neg (by decide) ?_))
      refine Ev.step (fun k => by rw [spec_DealRun.j2]) ?_
      refine Ev.eq (l1ValEq _) (Ev.pos (decide_eq_true hv) ?_)
      rw [hw]
      exact hset n
    · refine Ev.neg (by decide) (Ev.neg (by decide) (Ev.pos rfl ?_))
      refine Ev.step (fun k => by rw [spec_DealRun.j2]) ?_
      refine Ev.eq (l1ValEq _) ?_
      rw [hw, stepCode_add]
      by_cases hv : -9999 ≤ wrap64 (a.getD q.toNat 0 + n) ∧ wrap64 (a.getD q.toNat 0 + n) ≤ 9999
      · rw [if_pos (show isVl _ = true from decide_eq_true hv), if_pos rfl]
        exact Ev.pos (decide_eq_true hv) (hset _)
      · rw [if_neg (fun h : isVl _ = true => hv (of_decide_eq_true h))]
        exact Ev.neg (by simpa using hv) (Ev.ret rfl)
    · refine Ev.neg (by decide) (Ev.pos rfl ?_)
      rw [stepCode_need]
      by_cases hlt : a.getD q.toNat 0 < n
      · rw [if_pos hlt]
        exact Ev.pos hlt (Ev.ret rfl)
      · rw [if_neg hlt, if_pos rfl]
        exact Ev.neg hlt (ih now a c g ha hc hsame (by omega) (by omega))
noncomputable def runOf (l : List S46) (m : List S48) : Int × List Int × List S48 := @ite _ (dealOk l = true ∧ PairsOk m) (Classical.propDecidable _) (runOut l m) (9, [], [])
theorem runOf_yes {l : List S46} {m : List S48} (h : dealOk l = true ∧ PairsOk m) : runOf l m = runOut l m := by unfold runOf; rw [if_pos h]
theorem runOf_no {l : List S46} {m : List S48} (h : ¬ (dealOk l = true ∧ PairsOk m)) : runOf l m = (9, [], []) := by unfold runOf; rw [if_neg h]
theorem dealOk_st {l : List S46} (h : dealOk l = true) : l.length ≤ 6 ∧ 1 ≤ l.length ∧ ∀ i (hi : i < l.length), stOk l[i] = true := by
  unfold dealOk at h
  rw [Bool.and_eq_true] at h
  have h1 := of_decide_eq_true h.1
  exact ⟨h1.2, h1.1, fun i hi => List.all_eq_true.1 h.2 _ (List.getElem_mem hi)⟩
theorem same_start {m : List S48} (h : PairsOk m) : Same m (prPutAll prZeros m) := by
  intro j hj
  rw [putAll_at j hj m _ rfl h.keys, zeros_at j hj]
  exact first_last _ _ h.asc
theorem ch_start (a : List Int) : chOut a falses 32 = [] := by
  unfold chOut
  rw [show (List.range 32).filter (fun j => falses.getD j false) = [] by decide]
  rfl
theorem spec_DealRun_ev (l : List S46) (m : List S48) : Ev (fun k => spec_DealRun.f k l m) (runOf l m) := by
  unfold spec_DealRun.f
  obtain ⟨b, hb, _, hB⟩ := pairsOk_ev m
  have hj : ∀ t : Bool, (t = false → dealOk l = true ∧ PairsOk m) → Ev (fun k => spec_DealRun.j0 k l m t) (if t = true then (9, [], []) else runOut l m) := by
    intro t ht
    refine Ev.step (fun k => by rw [spec_DealRun.j0]) ?_
    cases t with
    | true => exact Ev.pos rfl (Ev.ret rfl)
    | false =>
      obtain ⟨h1, h2⟩ := ht rfl
      obtain ⟨h3, _, h4⟩ := dealOk_st h1
      have := spec_run_l0 l h3 h4 0 (by omega) m (prPutAll prZeros m) falses [] (by rw [prPutAll_length]; rfl) rfl (same_start h2) (by have := h2.1; omega) (by simp)
      rw [ch_start] at this
      exact Ev.neg (by decide) this
  refine Ev.bind (spec_DealOk_ev l) ?_
  by_cases hd : dealOk l = true
  · refine Ev.pos hd (Ev.bind hb ?_)
    cases b with
    | true =>
      have h := hB.1 rfl
      refine evTo (hj _ (fun _ => ⟨hd, h⟩)) ?_
      rw [runOf_yes ⟨hd, h⟩]; rfl
    | false =>
      refine evTo (hj _ (fun h => by cases h)) ?_
      rw [runOf_no (fun h => by simpa using hB.2 h.2)]; rfl
  · refine Ev.neg hd (evTo (hj _ (fun h => by cases h)) ?_)
    rw [runOf_no (fun h => hd h.1)]; rfl
theorem impl_DealRun_ev (l : List S46) (m : List S48) : Ev (fun k => impl_DealRun.f k l m) (runOf l m) := by
  unfold impl_DealRun.f
  obtain ⟨b, _, hb, hB⟩ := pairsOk_ev m
  by_cases hd : dealOk l = true
  · refine Ev.pos hd (Ev.bind hb ?_)
    cases b with
    | true =>
      have h := hB.1 rfl
      exact Ev.pos rfl (Ev.pos h.keysIn (Ev.ret (runOf_yes ⟨hd, h⟩).symm))
    | false => exact Ev.neg (by decide) (Ev.ret (runOf_no (fun h => by simpa using hB.2 h.2)).symm)
  · exact Ev.neg hd (Ev.ret (runOf_no (fun h => hd h.1)).symm)
theorem runFrom_got (l : List S46) : ∀ (a : List Int) (c : List Bool) (g : List Int), (runFrom l a c g).2.2.2.length ≤ g.length + l.length := by
  induction l with
  | nil => intro a c g; simp [runFrom]
  | cons s l ih =>
    intro a c g
    unfold runFrom
    split
    · have := ih (stepVals s a) (stepChg s c) (stepGot s a g)
      have := stepGot_length s a g
      simp
      omega
    · simp
theorem runOf_lens (l : List S46) (m : List S48) : (runOf l m).2.1.length ≤ 6 ∧ (runOf l m).2.2.length ≤ 32 := by
  by_cases h : dealOk l = true ∧ PairsOk m
  · rw [runOf_yes h]
    have h6 := (dealOk_st h.1).1
    have hg := runFrom_got l (prPutAll prZeros m) falses []
    unfold runOut
    simp only
    split
    · refine ⟨?_, chOut_length _ _ _⟩
      simp at hg ⊢
      omega
    · simp
  · rw [runOf_no h]; simp
end Go.Proofs.Ytdjiclhjficgfaa.PB
