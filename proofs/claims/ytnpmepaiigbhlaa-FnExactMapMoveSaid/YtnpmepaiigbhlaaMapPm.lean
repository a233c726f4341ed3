/- Marks laid into a map, and read. -/
import Derived.Test.YtnpmepaiigbhlaaBase
import Derived.Test.YtnpmepaiigbhlaaMapPa
import Derived.Test.YtnpmepaiigbhlaaPXx7
import Derived.Test.YtnpmepaiigbhlaaPXx8
namespace Go.Proofs.Ytnpmepaiigbhlaa.PB
open Go.RowKit Go.Proofs.Ytnpmepaiigbhlaa.PX Go.Proofs.YtnpmepaiigbhlaaW.PrintWords Go.Proofs.YtnpmepaiigbhlaaW.PrintLast
set_option linter.unusedVariables false
/-- The marks that the laws lay: a, a + 1, .. -/
def marks (a : Int) (n : Nat) : List Int := (List.range n).map (fun j : Nat => a + (j : Int))
theorem marks_length (a : Int) (n : Nat) : (marks a n).length = n := by simp [marks]
theorem marks_at (a : Int) (n i : Nat) (h : i < n) : (marks a n)[i]'(by rw [marks_length]; exact h) = a + i := by simp [marks]
theorem marks_succ (a : Int) (n : Nat) : marks a (n + 1) = marks a n ++ [a + n] := by simp [marks, List.range_succ]
theorem markIntS_ev (l : List Int) (a : Int) (h0 : 0 ≤ a) (h1 : a ≤ 4611686018427387904) (hl : l.length ≤ 4611686018427387903) : Ev (fun k => laws_markIntS.f k l a) (a + l.length, marks a l.length) := by
  unfold laws_markIntS.f
  have key : ∀ i, i ≤ l.length → ∀ m : List Int, m.length = l.length → Ev (fun k => laws_markIntS.l0 k m (a + i) (i : Int)) (a + l.length, m.take i ++ (marks a l.length).drop i) := by
    refine loop_down l.length ?_ ?_
    · intro m hm
      refine Ev.step (f := fun _ => some (a + l.length, m)) (fun k => ?_) (Ev.ret (by rw [List.take_of_length_le (by omega), List.drop_of_length_le (by rw [marks_length]; omega)]; simp))
      simp only [laws_markIntS.l0]; rw [if_neg (by omega)]
    · intro i hi ih m hm
      refine Ev.step (f := fun k => laws_markIntS.l0 k (m.set i (a + i)) (a + ((i + 1 : Nat) : Int)) ((i + 1 : Nat) : Int)) (fun k => ?_) (evTo (ih (m.set i (a + i)) (by simpa using hm)) ?_)
      · simp only [laws_markIntS.l0]; rw [if_pos (by omega), if_pos (by omega), wrap_in (by omega) (by omega), wrap_in (by omega) (by omega)]; simp; rw [show a + (i : Int) + 1 = a + ((i : Int) + 1) by omega]
      · have hmi : i < m.length := by omega
        rw [List.take_succ_eq_append_getElem (by simpa using hmi), take_set_self]
        rw [show (marks a l.length).drop i = (a + i) :: (marks a l.length).drop (i + 1) by rw [List.drop_eq_getElem_cons (by rw [marks_length]; exact hi), marks_at _ _ _ hi]]
        simp
  have := key 0 (by omega) l rfl
  simpa using this
theorem heldIntS_ev (n : Nat) (a : Int) (h0 : 0 ≤ a) (h1 : a ≤ 4611686018427387904) (hl : n ≤ 4611686018427387903) : Ev (fun k => laws_heldIntS.f k (marks a n) a) (a + n) := by
  unfold laws_heldIntS.f
  have key : ∀ i, i ≤ n → Ev (fun k => laws_heldIntS.l0 k (marks a n) (a + i) (i : Int)) (a + n) := by
    refine loop_down n ?_ ?_
    · refine Ev.step (f := fun _ => some (a + n)) (fun k => ?_) (Ev.ret rfl)
      simp only [laws_heldIntS.l0]; rw [marks_length, if_neg (by omega)]
    · intro i hi ih
      refine Ev.step (f := fun k => laws_heldIntS.l0 k (marks a n) (a + ((i + 1 : Nat) : Int)) ((i + 1 : Nat) : Int)) (fun k => ?_) ih
      simp only [laws_heldIntS.l0]
      rw [marks_length, if_pos (by omega), if_pos (by omega), rd_lt (by rw [marks_length]; exact hi), marks_at _ _ _ hi, if_pos rfl, wrap_in (by omega) (by omega), wrap_in (by omega) (by omega)]
      rw [show a + (i : Int) + 1 = a + ((i + 1 : Nat) : Int) by omega, show (i : Int) + 1 = ((i + 1 : Nat) : Int) by omega]
  have := key 0 (by omega)
  simpa using this
theorem markMap_ev (v : Int) (l : List Int) (hl : l.length ≤ 1048576) : Ev (fun k => laws_markMap.f k v l 1) (1 + (l.length : Int), marks 1 l.length) := by
  unfold laws_markMap.f
  exact Ev.bind (markIntS_ev l 1 (by omega) (by omega) (by omega)) (Ev.ret rfl)
theorem heldMap_ev (v : Int) (n : Nat) (hl : n ≤ 1048576) : Ev (fun k => laws_heldMap.f k v (marks 1 n) 1) (1 + (n : Int)) := by
  unfold laws_heldMap.f
  exact Ev.bind (heldIntS_ev n 1 (by omega) (by omega) (by omega)) (Ev.neg (by omega) (Ev.ret rfl))
end Go.Proofs.Ytnpmepaiigbhlaa.PB
