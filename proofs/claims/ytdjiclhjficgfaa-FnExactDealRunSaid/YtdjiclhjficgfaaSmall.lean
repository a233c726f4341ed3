/- Small words: bounds, lists of numbers copied, compared, marked. -/
import Derived.Test.YtdjiclhjficgfaaBase
import Derived.Test.YtdjiclhjficgfaaPXx4
import Derived.Test.YtdjiclhjficgfaaPXx5
import Derived.Test.YtdjiclhjficgfaaPXx13
import Derived.Test.YtdjiclhjficgfaaPXx15
namespace Go.Proofs.Ytdjiclhjficgfaa.PB
open Go.RowKit Go.Proofs.Ytdjiclhjficgfaa.PX Go.Proofs.YtdjiclhjficgfaaW.PrintWords Go.Proofs.YtdjiclhjficgfaaW.PrintLast
set_option linter.unusedVariables false
theorem l6In_eq (n a b : Int) : spec_l6In.f n a b = some (decide (a ≤ n ∧ n ≤ b)) := by
  unfold spec_l6In.f
  by_cases h : a ≤ n <;> simp [h]
theorem within_eq (n a b : Int) : impl_within.f n a b = some (decide (a ≤ n ∧ n ≤ b)) := by
  unfold impl_within.f
  by_cases h : a ≤ n <;> simp [h]
theorem all_drop {α : Type} (p : α → Bool) (l : List α) (i : Nat) (h : i < l.length) : (l.drop i).all p = (p l[i] && (l.drop (i + 1)).all p) := by
  rw [List.drop_eq_getElem_cons h]; rfl
theorem eqIntS_ev (l m : List Int) (hl : l.length ≤ 9223372036854775807) : Ev (fun k => laws_eqIntS.f k l m) (decide (l = m)) := by
  unfold laws_eqIntS.f
  by_cases hlen : l.length = m.length
  · refine Ev.pos (by omega) ?_
    have key : ∀ i, i ≤ l.length → Ev (fun k => laws_eqIntS.l0 k l m (i : Int)) (decide (l.drop i = m.drop i)) := by
      refine loop_down l.length ?_ ?_
      · refine Ev.step (f := fun _ => some true) (fun k => ?_) (Ev.ret (by simp [hlen]))
        simp only [laws_eqIntS.l0]; rw [if_neg (by omega)]
      · intro i hi ih
        refine Ev.step (f := fun k => if l[i] = m[i] then laws_eqIntS.l0 k l m ((i + 1 : Nat) : Int) else some false) (fun k => ?_) ?_
        · simp only [laws_eqIntS.l0]; rw [if_pos (by omega), if_pos (by omega), if_pos (by omega), rd_lt hi, rd_lt (show i < m.length by omega), wrap_in (by omega) (by omega)]; rfl
        · rw [List.drop_eq_getElem_cons hi, List.drop_eq_getElem_cons (show i < m.length by omega)]
          by_cases h : l[i] = m[i]
          · refine Ev.pos h (evTo ih ?_); simp only [List.cons.injEq, h, true_and]
          · exact Ev.neg h (Ev.ret (by simp only [List.cons.injEq, h, false_and, decide_false]))
    simpa using key 0 (by omega)
  · refine Ev.neg (by omega) (Ev.ret ?_)
    have : l ≠ m := fun h => hlen (by rw [h])
    simp [this]
/-- The marks that the laws lay: a, a + 1, .. -/
def marks (a : Int) (n : Nat) : List Int := (List.range n).map (fun j : Nat => a + (j : Int))
theorem marks_length (a : Int) (n : Nat) : (marks a n).length = n := by simp [marks]
theorem marks_at (a : Int) (n i : Nat) (h : i < n) : (marks a n)[i]'(by rw [marks_length]; exact h) = a + i := by simp [marks]
theorem marks_succ (a : Int) (n : Nat) : marks a (n + 1) = marks a n ++ [a + n] := by simp [marks, List.range_succ]
theorem markIntS_ev (l : List Int) (a : Int) (h0 : 0 ≤ a) (h1 : a ≤ 4611686018427387904) (hl : l.length ≤ 4611686018427387903) : Ev (fun k => laws_markIntS.f k l a) (a + l.length, marks a l.length) := by
  unfold laws_markIntS.f
  have key : ∀ i, i ≤ l.length → ∀ m : List Int, m.length = l.length → Ev (fun k => laws_markIntS.l0 k m (a + i) (i : Int)) (a + l.length, m.take i ++ (marks a l.length).drop i) := by
    refine loop_down l.length ?_ ?_
    · intro m hm
      refine Ev.step (f := fun _ => some (a + l.length, m)) (fun k => ?_) (Ev.ret (by rw [List.take_of_length_le (by omega), List.drop_of_length_le (by rw [marks_length]; omega)]; simp))
      simp only [laws_markIntS.l0]; rw [if_neg (by omega)]
    · intro i hi ih m hm
      refine Ev.step (f := fun k => laws_markIntS.l0 k (m.set i (a + i)) (a + ((i + 1 : Nat) : Int)) ((i + 1 : Nat) : Int)) (fun k => ?_) (evTo (ih (m.set i (a + i)) (by simpa using hm)) ?_)
      · simp only [laws_markIntS.l0]; rw [if_pos (by omega), if_pos (by omega), wrap_in (by omega) (by omega), wrap_in (by omega) (by omega)]; simp; rw [show a + (i : Int) + 1 = a + ((i : Int) + 1) by omega]
      · have hmi : i < m.length := by omega
        rw [List.take_succ_eq_append_getElem (by simpa using hmi), take_set_self]
        rw [show (marks a l.length).drop i = (a + i) :: (marks a l.length).drop (i + 1) by rw [List.drop_eq_getElem_cons (by rw [marks_length]; exact hi), marks_at _ _ _ hi]]
        simp
  have := key 0 (by omega) l rfl
  simpa using this
theorem heldIntS_ev (n : Nat) (a : Int) (h0 : 0 ≤ a) (h1 : a ≤ 4611686018427387904) (hl : n ≤ 4611686018427387903) : Ev (fun k => laws_heldIntS.f k (marks a n) a) (a + n) := by
  unfold laws_heldIntS.f
  have key : ∀ i, i ≤ n → Ev (fun k => laws_heldIntS.l0 k (marks a n) (a + i) (i : Int)) (a + n) := by
    refine loop_down n ?_ ?_
    · refine Ev.step (f := fun _ => some (a + n)) (fun k => ?_) (Ev.ret rfl)
      simp only [laws_heldIntS.l0]; rw [marks_length, if_neg (by omega)]
    · intro i hi ih
      refine Ev.step (f := fun k => laws_heldIntS.l0 k (marks a n) (a + ((i + 1 : Nat) : Int)) ((i + 1 : Nat) : Int)) (fun k => ?_) ih
      simp only [laws_heldIntS.l0]
      rw [marks_length, if_pos (by omega), if_pos (by omega), rd_lt (by rw [marks_length]; exact hi), marks_at _ _ _ hi, if_pos rfl, wrap_in (by omega) (by omega), wrap_in (by omega) (by omega)]
      rw [show a + (i : Int) + 1 = a + ((i + 1 : Nat) : Int) by omega, show (i : Int) + 1 = ((i + 1 : Nat) : Int) by omega]
  have := key 0 (by omega)
  simpa using this
end Go.Proofs.Ytdjiclhjficgfaa.PB
