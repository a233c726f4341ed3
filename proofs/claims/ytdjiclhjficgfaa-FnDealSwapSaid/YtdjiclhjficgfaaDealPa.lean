/- What DealOk comes to on both sides. -/
import Derived.Test.YtdjiclhjficgfaaBase
import Derived.Test.YtdjiclhjficgfaaPXx5
import Derived.Test.YtdjiclhjficgfaaPXx7
namespace Go.Proofs.Ytdjiclhjficgfaa.PB
open Go.RowKit Go.Proofs.Ytdjiclhjficgfaa.PX Go.Proofs.YtdjiclhjficgfaaW.PrintWords Go.Proofs.YtdjiclhjficgfaaW.PrintLast
set_option linter.unusedVariables false
theorem l6InEq (n a b : Int) : spec_l6In.f n a b = some (decide (a ≤ n ∧ n ≤ b)) := by
  unfold spec_l6In.f
  by_cases h : a ≤ n <;> simp [h]
theorem l1ValEq (n : Int) : spec_l1Val.f n = some (decide (-9999 ≤ n ∧ n ≤ 9999)) := by
  unfold spec_l1Val.f
  rw [l6InEq]; rfl
theorem rdSt_lt {l : List S46} {i : Nat} (h : i < l.length) : rd_T46 l (i : Int) = l[i] := by simp [rd_T46, List.getD_eq_getElem?_getD, List.getElem?_eq_getElem h]
theorem allDrop {α : Type} (p : α → Bool) (l : List α) (i : Nat) (h : i < l.length) : (l.drop i).all p = (p l[i] && (l.drop (i + 1)).all p) := by
  rw [List.drop_eq_getElem_cons h]; rfl
theorem spec_DealOk_l0 (l : List S46) (hl : l.length ≤ 6) : ∀ i, i ≤ l.length → Ev (fun k => spec_DealOk.l0 k l (i : Int)) ((l.drop i).all stOk) := by
  refine loop_down l.length ?_ ?_
  · refine Ev.step (f := fun _ => some true) (fun k => ?_) (Ev.ret (by simp))
    simp only [spec_DealOk.l0]; rw [if_neg (by omega)]
  · intro i hi ih
    refine Ev.step (f := fun k => if stOk l[i] = true then spec_DealOk.l0 k l ((i + 1 : Nat) : Int) else some false) (fun k => ?_) ?_
    · simp only [spec_DealOk.l0]
      rw [if_pos (by omega), if_pos (by omega), rdSt_lt hi, wrap_in (by omega) (by omega)]
      simp only [l6InEq, l1ValEq, Option.bind_some]
      by_cases h1 : 1 ≤ l[i].f0 ∧ l[i].f0 ≤ 4
      · by_cases h2 : 0 ≤ l[i].f1 ∧ l[i].f1 ≤ 31
        · by_cases h3 : -9999 ≤ l[i].f2 ∧ l[i].f2 ≤ 9999
          · by_cases h4 : l[i].f0 = 1
            · by_cases h5 : l[i].f2 = 0
              · have hs : stOk l[i] = true := (stOk_iff _).2 ⟨h2, h3, .inl ⟨h4, h5⟩⟩
                rw [if_pos (decide_eq_true h1), if_pos (decide_eq_true h2), if_pos (decide_eq_true h3), if_pos h4, if_pos h5, if_pos hs]; rfl
              · have hs : ¬ stOk l[i] = true := fun hs => by
                  obtain ⟨_, _, h⟩ := (stOk_iff _).1 hs
                  omega
                rw [if_pos (decide_eq_true h1), if_pos (decide_eq_true h2), if_pos (decide_eq_true h3), if_pos h4, if_neg h5, if_neg hs]
            · have hs : stOk l[i] = true := (stOk_iff _).2 ⟨h2, h3, by omega⟩
              rw [if_pos (decide_eq_true h1), if_pos (decide_eq_true h2), if_pos (decide_eq_true h3), if_neg h4, if_pos hs]; rfl
          · have hs : ¬ stOk l[i] = true := fun hs => h3 ((stOk_iff _).1 hs).2.1
            rw [if_pos (decide_eq_true h1), if_pos (decide_eq_true h2), if_neg (by simpa using h3), if_neg hs]
        · have hs : ¬ stOk l[i] = true := fun hs => h2 ((stOk_iff _).1 hs).1
          rw [if_pos (decide_eq_true h1), if_neg (by simpa using h2), if_neg hs]
      · have hs : ¬ stOk l[i] = true := fun hs => by
          obtain ⟨_, _, h⟩ := (stOk_iff _).1 hs
          omega
        rw [if_neg (by simpa using h1), if_neg hs]
    · rw [allDrop _ _ _ hi]
      cases h : stOk l[i] with
      | true => refine Ev.pos rfl ?_; simpa using ih
      | false => exact Ev.neg (by simp) (Ev.ret (by simp))
theorem spec_DealOk_ev (l : List S46) : Ev (fun k => spec_DealOk.f k l) (dealOk l) := by
  unfold spec_DealOk.f dealOk
  have hj : ∀ b : Bool, (b = false → l.length ≤ 6) → Ev (fun k => spec_DealOk.j0 k l b) (!b && l.all stOk) := by
    intro b hb
    refine Ev.step (f := fun k => if b = true then some false else spec_DealOk.l0 k l 0) (fun k => by simp only [spec_DealOk.j0]) ?_
    cases b with
    | true => exact Ev.pos rfl (Ev.ret rfl)
    | false => exact Ev.neg (by decide) (by simpa using spec_DealOk_l0 l (hb rfl) 0 (by omega))
  by_cases h1 : l.length < 1
  · refine Ev.pos (by omega) (evTo (hj true (fun h => by cases h)) ?_)
    rw [decide_eq_false (by omega)]; rfl
  · refine Ev.neg (by omega) (evTo (hj _ (fun h => by have := of_decide_eq_false h; omega)) ?_)
    congr 1
    by_cases h6 : l.length ≤ 6
    · rw [decide_eq_true (show 1 ≤ l.length ∧ l.length ≤ 6 by omega), decide_eq_false (by omega)]; rfl
    · rw [decide_eq_false (show ¬ (1 ≤ l.length ∧ l.length ≤ 6) by omega), decide_eq_true (by omega)]; rfl
theorem impl_DealOk_ev (l : List S46) : Ev (fun _ => impl_DealOk.f l) (dealOk l) := Ev.ret rfl
end Go.Proofs.Ytdjiclhjficgfaa.PB
