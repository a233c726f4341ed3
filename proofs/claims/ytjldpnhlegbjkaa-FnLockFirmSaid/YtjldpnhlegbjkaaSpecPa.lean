/- What the reference's small helpers on locks come to. -/
import Derived.Test.YtjldpnhlegbjkaaLockPa
import Derived.Test.YtjldpnhlegbjkaaS2
import Derived.Test.YtjldpnhlegbjkaaPAx16
import Derived.Test.YtjldpnhlegbjkaaPAx15
import Derived.Test.YtjldpnhlegbjkaaPAx17
import Derived.Test.YtjldpnhlegbjkaaPAx18
import Derived.Test.YtjldpnhlegbjkaaPAx19
namespace Go.Proofs.Ytjldpnhlegbjkaa.PB
open Go.RowKit Go.Proofs.Ytjldpnhlegbjkaa.PA Go.Proofs.YtjldpnhlegbjkaaW.PrintWords Go.Proofs.YtjldpnhlegbjkaaW.PrintLast
set_option linter.unusedVariables false
set_option linter.unusedSimpArgs false
theorem l11At_ev (h : List S45) (t : Int) (hl : h.length ≤ 1048576) (hs : Asc h) : Ev (fun k => spec_l11At.f k h t) (if hasOf h t = true then placeOf h t else -1) := by
  unfold spec_l11At.f
  have key : ∀ i, i ≤ h.length → (∀ j : Nat, j < i → (rd_T45 h (j : Int)).f0 ≠ t) → Ev (fun k => spec_l11At.l0 k h t (i : Int)) (if hasOf h t = true then placeOf h t else -1) := by
    refine loop_down h.length ?_ ?_
    · intro hn
      refine Ev.step (fun k => by rw [spec_l11At.l0]) ?_
      refine Ev.neg (by omega) (Ev.ret ?_)
      have : hasOf h t = false := by
        unfold hasOf
        rw [List.any_eq_false]
        intro x hx
        obtain ⟨j, hj, rfl⟩ := List.getElem_of_mem hx
        have := hn j hj
        rw [rdH hj] at this
        simpa using this
      rw [this]; rfl
    · intro i hi ih hn
      have hw : wrap64 ((i : Int) + 1) = ((i + 1 : Nat) : Int) := wrap_in (by omega) (by omega)
      refine Ev.step (fun k => by rw [spec_l11At.l0]) ?_
      refine Ev.pos (by omega) (Ev.pos (by omega) ?_)
      rw [hw]
      by_cases he : (rd_T45 h (i : Int)).f0 = t
      · refine Ev.pos he (Ev.ret ?_)
        have h1 : ∀ x : Nat, x < i → (rd_T45 h (x : Int)).f0 < t := fun x hx => by have := asc_lt hs hx hi; omega
        have h2 : ∀ x : Nat, i ≤ x → x < h.length → t ≤ (rd_T45 h (x : Int)).f0 := fun x hx hxl => by
          rcases Nat.lt_or_ge i x with q | q
          · have := asc_lt hs q hxl; omega
          · rw [show x = i by omega]; omega
        rw [has_at t i h1 h2 hs hi, decide_eq_true he, if_pos rfl, place_at t i (by omega) h1 h2]
      · refine Ev.neg he (ih (fun j hj => ?_))
        by_cases hji : j = i
        · subst hji; exact he
        · exact hn j (by omega)
  exact key 0 (by omega) (fun j hj => absurd hj (by omega))
theorem copy_eq (s : Int) (h w : List S45) (hh : h.length ≤ 1048576) (hw : w.length ≤ 1048576) : spec_l11Copy.f s h w = some (s, h, w) := by
  unfold spec_l11Copy.f
  simp only [Option.bind_some, List.nil_append, List.length_nil, Nat.zero_add]
  rw [if_pos (by omega), if_pos (by omega)]
theorem filter_drop (p : S45 → Bool) (l : List S45) (i : Nat) (h : i < l.length) : (l.drop i).filter p = (if p l[i] = true then [l[i]] else []) ++ (l.drop (i + 1)).filter p := by
  rw [List.drop_eq_getElem_cons h, List.filter_cons]
  cases p l[i] <;> simp
theorem without_ev (l : List S45) (t y : Int) (hl : l.length ≤ 1048576) : Ev (fun k => spec_l11Without.f k l t y) (l.filter (fun z => !decide (z.f0 = t ∧ z.f1 ≤ y))) := by
  unfold spec_l11Without.f
  have key : ∀ i, i ≤ l.length → ∀ m : List S45, m.length ≤ i → Ev (fun k => spec_l11Without.l0 k l t y m (i : Int)) (m ++ (l.drop i).filter (fun z => !decide (z.f0 = t ∧ z.f1 ≤ y))) := by
    refine loop_down l.length ?_ ?_
    · intro m hm
      refine Ev.step (fun k => by rw [spec_l11Without.l0]) ?_
      refine Ev.neg (by omega) (Ev.ret ?_)
      rw [List.drop_length]; simp
    · intro i hi ih m hm
      have hw : wrap64 ((i : Int) + 1) = ((i + 1 : Nat) : Int) := wrap_in (by omega) (by omega)
      refine Ev.step (fun k => by rw [spec_l11Without.l0]) ?_
      refine Ev.pos (by omega) (Ev.pos (by omega) ?_)
      rw [hw, rdH hi, filter_drop _ _ _ hi]
      have keep : Ev (fun k => spec_l11Without.l0 k l t y (m ++ [l[i]]) ((i + 1 : Nat) : Int)) (m ++ ([l[i]] ++ (l.drop (i + 1)).filter (fun z => !decide (z.f0 = t ∧ z.f1 ≤ y)))) := by
        rw [← List.append_assoc]; exact ih _ (by simp; omega)
      by_cases h1 : l[i].f0 = t
      · refine Ev.pos h1 ?_
        by_cases h2 : l[i].f1 > y
        · rw [if_pos (by simp; omega)]
          exact Ev.pos h2 (Ev.pos (by omega) keep)
        · rw [if_neg (by simp; omega)]
          exact Ev.neg h2 (ih m (by omega))
      · rw [if_pos (by simp [h1])]
        exact Ev.neg h1 (Ev.pos (by omega) keep)
  exact key 0 (by omega) [] (by simp)
theorem meet_comm (a b : S45) : meetB a b = meetB b a := by
  unfold meetB
  rw [Bool.and_comm a.f2]
  by_cases h : a.f0 = b.f0
  · simp [h]
  · simp [h, show ¬ b.f0 = a.f0 from fun e => h e.symm]
theorem any_drop {α : Type} (p : α → Bool) (l : List α) (i : Nat) (h : i < l.length) : (l.drop i).any p = (p l[i] || (l.drop (i + 1)).any p) := by
  rw [List.drop_eq_getElem_cons h]; rfl
theorem may_ev (s : Int) (h w : List S45) (x : S45) (hh : h.length ≤ 1048576) (hw : w.length ≤ 1048576) : Ev (fun k => spec_l11May.f k s h w x.f0 x.f1 x.f2 x.f3) (mayB h w x) := by
  unfold spec_l11May.f mayB
  have key2 : ∀ i, i ≤ w.length → Ev (fun k => spec_l11May.l1 k (i : Int) s h w x.f0 x.f1 x.f2 x.f3) (!(w.drop i).any (fun y => decide (y.f0 < x.f0) && meetB x y)) := by
    refine loop_down w.length ?_ ?_
    · refine Ev.step (fun k => by rw [spec_l11May.l1]) ?_
      refine Ev.neg (by omega) (Ev.ret ?_)
      rw [List.drop_length]; rfl
    · intro i hi ih
      have hwi : wrap64 ((i : Int) + 1) = ((i + 1 : Nat) : Int) := wrap_in (by omega) (by omega)
      refine Ev.step (fun k => by rw [spec_l11May.l1]) ?_
      refine Ev.pos (by omega) (Ev.pos (by omega) ?_)
      rw [hwi, rdH hi, any_drop _ _ _ hi]
      by_cases h1 : w[i].f0 < x.f0
      · refine Ev.pos h1 (Ev.eq (smeet_eq _ _) ?_)
        rw [decide_eq_true h1, meet_comm]
        cases hm : meetB x w[i] with
        | true => exact Ev.pos rfl (Ev.ret rfl)
        | false => exact Ev.neg (by decide) (evTo ih (by simp))
      · refine Ev.neg h1 (evTo ih ?_)
        rw [decide_eq_false h1]; simp
  have key1 : ∀ i, i ≤ h.length → Ev (fun k => spec_l11May.l0 k (i : Int) s h w x.f0 x.f1 x.f2 x.f3) (!(h.drop i).any (meetB x) && !w.any (fun y => decide (y.f0 < x.f0) && meetB x y)) := by
    refine loop_down h.length ?_ ?_
    · refine Ev.step (fun k => by rw [spec_l11May.l0]) ?_
      refine Ev.neg (by omega) (evTo (key2 0 (by omega)) ?_)
      rw [List.drop_length]; simp
    · intro i hi ih
      have hwi : wrap64 ((i : Int) + 1) = ((i + 1 : Nat) : Int) := wrap_in (by omega) (by omega)
      refine Ev.step (fun k => by rw [spec_l11May.l0]) ?_
      refine Ev.pos (by omega) (Ev.pos (by omega) (Ev.eq (smeet_eq _ _) ?_))
      rw [hwi, rdH hi, any_drop _ _ _ hi, meet_comm]
      cases hm : meetB x h[i] with
      | true => exact Ev.pos rfl (Ev.ret (by simp))
      | false => exact Ev.neg (by decide) (evTo ih (by simp))
  exact evTo (key1 0 (by omega)) (by simp)
theorem place_split (l : List S45) (t : Int) (ha : Asc l) : ∃ p : Nat, p ≤ l.length ∧ placeOf l t = (p : Int) ∧ (∀ j : Nat, j < p → (rd_T45 l (j : Int)).f0 < t) ∧ (∀ j : Nat, p ≤ j → j < l.length → t ≤ (rd_T45 l (j : Int)).f0) := by
  have h1 : ∀ j : Nat, j < l.findIdx (fun z => decide (t ≤ z.f0)) → (rd_T45 l (j : Int)).f0 < t := by
    intro j hj
    have hjl : j < l.length := Nat.lt_of_lt_of_le hj List.findIdx_le_length
    have := List.not_of_lt_findIdx hj
    rw [rdH hjl]
    simpa using this
  have h2 : ∀ j : Nat, l.findIdx (fun z => decide (t ≤ z.f0)) ≤ j → j < l.length → t ≤ (rd_T45 l (j : Int)).f0 := by
    intro j hj hjl
    have hq := List.findIdx_getElem (w := Nat.lt_of_le_of_lt hj hjl)
    have hq' := of_decide_eq_true hq
    rw [← rdH] at hq'
    rcases Nat.lt_or_ge (l.findIdx (fun z => decide (t ≤ z.f0))) j with q | q
    · have := asc_lt ha q hjl; omega
    · rw [show j = l.findIdx (fun z => decide (t ≤ z.f0)) by omega]; exact hq'
  exact ⟨_, List.findIdx_le_length, place_at t _ List.findIdx_le_length h1 h2, h1, h2⟩
theorem put_ev (l : List S45) (x : S45) (hl : l.length ≤ 1048576) (ha : Asc l) (hn : hasOf l x.f0 = false) : Ev (fun k => spec_l11Put.f k l x.f0 x.f1 x.f2 x.f3) (putOf l x) := by
  unfold spec_l11Put.f
  obtain ⟨p, hp, hpl, h1, h2⟩ := place_split l x.f0 ha
  have hpo : putOf l x = l.take p ++ x :: l.drop p := by unfold putOf placeN; rw [hpl, Int.toNat_natCast]
  rw [hpo]
  have h3 : ∀ j : Nat, p ≤ j → j < l.length → (rd_T45 l (j : Int)).f0 > x.f0 := by
    intro j hj hjl
    have h4 := h2 j hj hjl
    unfold hasOf at hn
    rw [List.any_eq_false] at hn
    have h5 := hn _ (List.getElem_mem hjl)
    rw [← rdH hjl] at h5
    have h6 : (rd_T45 l (j : Int)).f0 ≠ x.f0 := by simpa using h5
    omega
  have kd : ∀ i, i ≤ l.length → ∀ m : List S45, m.length ≤ i + 1 → Ev (fun k => spec_l11Put.l0 k l m true (i : Int) x.f0 x.f1 x.f2 x.f3) (m ++ l.drop i) := by
    refine loop_down l.length ?_ ?_
    · intro m hm
      refine Ev.step (fun k => by rw [spec_l11Put.l0]) ?_
      refine Ev.neg (by omega) (Ev.pos rfl (Ev.ret ?_))
      rw [List.drop_length]; simp
    · intro i hi ih m hm
      have hw : wrap64 ((i : Int) + 1) = ((i + 1 : Nat) : Int) := wrap_in (by omega) (by omega)
      refine Ev.step (fun k => by rw [spec_l11Put.l0]) ?_
      refine Ev.pos (by omega) (Ev.pos rfl (Ev.pos (by omega) (Ev.pos (by omega) ?_)))
      rw [hw, rdH hi]
      refine evTo (ih (m ++ [l[i]]) (by simp; omega)) ?_
      rw [List.drop_eq_getElem_cons hi]; simp
  have kn : ∀ d i, i + d = p → ∀ m : List S45, m.length ≤ i → Ev (fun k => spec_l11Put.l0 k l m false (i : Int) x.f0 x.f1 x.f2 x.f3) (m ++ (l.drop i).take d ++ x :: l.drop p) := by
    intro d
    induction d with
    | zero =>
      intro i hi m hm
      have hip : i = p := by omega
      subst hip
      refine Ev.step (fun k => by rw [spec_l11Put.l0]) ?_
      rw [List.take_zero, List.append_nil]
      by_cases hpl2 : i < l.length
      · have hw : wrap64 ((i : Int) + 1) = ((i + 1 : Nat) : Int) := wrap_in (by omega) (by omega)
        refine Ev.pos (by omega) (Ev.neg (by decide) (Ev.pos (by omega) (Ev.pos (h3 i (Nat.le_refl _) hpl2) (Ev.pos (by omega) ?_))))
        refine Ev.eq rfl (Ev.pos (by simp; omega) ?_)
        rw [hw, rdH hpl2]
        refine evTo (kd (i + 1) (by omega) (m ++ [x] ++ [l[i]]) (by simp; omega)) ?_
        rw [List.drop_eq_getElem_cons hpl2]; simp
      · refine Ev.neg (by omega) (Ev.neg (by decide) (Ev.pos (by omega) (Ev.ret ?_)))
        rw [List.drop_of_length_le (by omega)]
    | succ d ih =>
      intro i hi m hm
      have hil : i < l.length := by omega
      have hw : wrap64 ((i : Int) + 1) = ((i + 1 : Nat) : Int) := wrap_in (by omega) (by omega)
      have h4 := h1 i (by omega)
      refine Ev.step (fun k => by rw [spec_l11Put.l0]) ?_
      refine Ev.pos (by omega) (Ev.neg (by decide) (Ev.pos (by omega) (Ev.neg (by omega) (Ev.pos (by omega) ?_))))
      rw [hw, rdH hil]
      refine evTo (ih (i + 1) (by omega) (m ++ [l[i]]) (by simp; omega)) ?_
      rw [List.drop_eq_getElem_cons hil, List.take_succ_cons]; simp
  exact evTo (kn p 0 (by omega) [] (by simp)) (by simp)
theorem at_place {l : List S45} {t : Int} (ha : Asc l) {z : S45} (hz : z ∈ l) (ht : z.f0 = t) : rd_T45 l (placeOf l t) = z := by
  obtain ⟨j, hj, rfl⟩ := List.getElem_of_mem hz
  have e : (rd_T45 l (j : Int)).f0 = t := by rw [rdH hj]; exact ht
  rw [place_at t j (by omega) (fun x hx => by have := asc_lt ha hx hj; omega) (fun x hx hxl => by
    rcases Nat.lt_or_ge j x with q | q
    · have := asc_lt ha q hxl; omega
    · rw [show x = j by omega]; omega), rdH hj]
theorem without_eq {l : List S45} {t y : Int} (ha : Asc l) (h : hasOf l t = true → (rd_T45 l (placeOf l t)).f1 ≤ y) : l.filter (fun z => !decide (z.f0 = t ∧ z.f1 ≤ y)) = l.filter (fun z => !decide (z.f0 = t)) := by
  refine List.filter_congr (fun z hz => ?_)
  by_cases h1 : z.f0 = t
  · have h2 : hasOf l t = true := by
      unfold hasOf; rw [List.any_eq_true]; exact ⟨z, hz, decide_eq_true h1⟩
    have h3 := h h2
    rw [at_place ha hz h1] at h3
    simp [h1, h3]
  · simp [h1]
theorem has_gone (l : List S45) (t : Int) (q : S45 → Bool) : hasOf ((l.filter (fun z => !decide (z.f0 = t))).filter q) t = false := by
  unfold hasOf
  rw [List.any_eq_false]
  intro z hz
  have h1 := (List.mem_filter.1 (List.mem_filter.1 hz).1).2
  simpa using h1
theorem has_gone1 (l : List S45) (t : Int) : hasOf (l.filter (fun z => !decide (z.f0 = t))) t = false := by
  unfold hasOf
  rw [List.any_eq_false]
  intro z hz
  have h1 := (List.mem_filter.1 hz).2
  simpa using h1
theorem place_in {h : List S45} {t : Int} (q : hasOf h t = true) : 0 ≤ placeOf h t ∧ placeOf h t < (h.length : Int) := by
  unfold placeOf
  refine ⟨by omega, ?_⟩
  have h1 : (h.filter (fun x => decide (x.f0 < t))).length < h.length := by
    rw [← List.countP_eq_length_filter]
    refine Nat.lt_of_le_of_ne List.countP_le_length (fun e => ?_)
    have h2 := List.countP_eq_length.1 e
    unfold hasOf at q
    obtain ⟨x, hx, hxt⟩ := List.any_eq_true.1 q
    have h3 := of_decide_eq_true (h2 x hx)
    have h4 := of_decide_eq_true hxt
    omega
  omega
end Go.Proofs.Ytjldpnhlegbjkaa.PB
