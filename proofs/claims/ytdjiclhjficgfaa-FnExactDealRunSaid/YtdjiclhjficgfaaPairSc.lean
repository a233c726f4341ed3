/- Copies, marks and compares of pairs. -/
import Derived.Test.YtdjiclhjficgfaaPairSb
import Derived.Test.YtdjiclhjficgfaaPXx7
import Derived.Test.YtdjiclhjficgfaaPXx11
import Derived.Test.YtdjiclhjficgfaaPXx14
import Derived.Test.YtdjiclhjficgfaaPXx15
import Derived.Test.YtdjiclhjficgfaaPXx16
namespace Go.Proofs.Ytdjiclhjficgfaa.PB
open Go.RowKit Go.Proofs.Ytdjiclhjficgfaa.PX Go.Proofs.YtdjiclhjficgfaaW.PrintWords Go.Proofs.YtdjiclhjficgfaaW.PrintLast
set_option linter.unusedVariables false
def conv (l : List S80) : List S48 := l.map (fun p => ⟨p.f0, p.f1⟩)
theorem rd71_lt {l : List S80} {i : Nat} (h : i < l.length) : rd_T80 l (i : Int) = l[i] := by simp [rd_T80, List.getD_eq_getElem?_getD, List.getElem?_eq_getElem h]
theorem toPairS_ev (l : List S80) (hl : l.length ≤ 1048576) : Ev (fun k => laws_toPairS.f k l) (conv l) := by
  unfold laws_toPairS.f
  refine Ev.pos (by omega) (Ev.pos (by omega) ?_)
  have hcl : (conv l).length = l.length := by simp [conv]
  have key : ∀ i, i ≤ l.length → ∀ m : List S48, m.length = l.length → Ev (fun k => laws_toPairS.l0 k l m (i : Int)) (m.take i ++ (conv l).drop i) := by
    refine loop_down l.length ?_ ?_
    · intro m hm
      refine Ev.step (f := fun _ => some m) (fun k => ?_) (Ev.ret (by rw [List.take_of_length_le (by omega), List.drop_of_length_le (by omega)]; simp))
      simp only [laws_toPairS.l0]; rw [if_neg (by omega)]
    · intro i hi ih m hm
      refine Ev.step (f := fun k => laws_toPairS.l0 k l (m.set i ⟨l[i].f0, l[i].f1⟩) ((i + 1 : Nat) : Int)) (fun k => ?_) (evTo (ih (m.set i ⟨l[i].f0, l[i].f1⟩) (by simpa using hm)) ?_)
      · simp only [laws_toPairS.l0, laws_toPair.f]; rw [if_pos (by omega), if_pos (by omega)]; simp only [Option.bind_some]; rw [if_pos (by omega), rd71_lt hi, wrap_in (by omega) (by omega)]; simp
      · have hmi : i < m.length := by omega
        rw [List.take_succ_eq_append_getElem (by simpa using hmi), take_set_self, List.drop_eq_getElem_cons (show i < (conv l).length by omega)]
        simp [conv]
  have := key 0 (by omega) (List.replicate ((l.length : Int)).toNat z48) (by simp)
  simpa using this
theorem eqPairS_ev (l : List S48) (hl : l.length ≤ 1048576) : Ev (fun k => laws_eqPairS.f k l l) true := by
  unfold laws_eqPairS.f
  refine Ev.pos rfl ?_
  have key : ∀ i, i ≤ l.length → Ev (fun k => laws_eqPairS.l0 k l l (i : Int)) true := by
    refine loop_down l.length ?_ ?_
    · refine Ev.step (f := fun _ => some true) (fun k => ?_) (Ev.ret rfl)
      simp only [laws_eqPairS.l0]; rw [if_neg (by omega)]
    · intro i hi ih
      refine Ev.step (f := fun k => laws_eqPairS.l0 k l l ((i + 1 : Nat) : Int)) (fun k => ?_) ih
      simp only [laws_eqPairS.l0, laws_eqPair.f]; rw [if_pos (by omega), if_pos (by omega), if_pos (by omega), wrap_in (by omega) (by omega)]; simp
  simpa using key 0 (by omega)
/-- The marks that the laws lay: (a, a + 1), (a + 2, a + 3), .. -/
def pmarks (a : Int) (n : Nat) : List S48 := (List.range n).map (fun j : Nat => ⟨a + 2 * (j : Int), a + 2 * (j : Int) + 1⟩)
theorem pmarks_length (a : Int) (n : Nat) : (pmarks a n).length = n := by simp [pmarks]
theorem pmarks_at (a : Int) (n i : Nat) (h : i < n) : (pmarks a n)[i]'(by rw [pmarks_length]; exact h) = ⟨a + 2 * (i : Int), a + 2 * (i : Int) + 1⟩ := by simp [pmarks]
theorem markPairS_ev (l : List S48) (a : Int) (h0 : 0 ≤ a) (h1 : a ≤ 4000000) (hl : l.length ≤ 1048576) : Ev (fun k => laws_markPairS.f k l a) (a + 2 * (l.length : Int), pmarks a l.length) := by
  unfold laws_markPairS.f
  have key : ∀ i, i ≤ l.length → ∀ m : List S48, m.length = l.length → Ev (fun k => laws_markPairS.l0 k m (a + 2 * (i : Int)) (i : Int)) (a + 2 * (l.length : Int), m.take i ++ (pmarks a l.length).drop i) := by
    refine loop_down l.length ?_ ?_
    · intro m hm
      refine Ev.step (f := fun _ => some (a + 2 * (l.length : Int), m)) (fun k => ?_) (Ev.ret (by rw [List.take_of_length_le (by omega), List.drop_of_length_le (by rw [pmarks_length]; omega)]; simp))
      simp only [laws_markPairS.l0]; rw [if_neg (by omega)]
    · intro i hi ih m hm
      have hmi : i < m.length := by omega
      refine Ev.step (f := fun k => laws_markPairS.l0 k (m.set i ⟨a + 2 * (i : Int), a + 2 * (i : Int) + 1⟩) (a + 2 * ((i + 1 : Nat) : Int)) ((i + 1 : Nat) : Int)) (fun k => ?_) (evTo (ih (m.set i ⟨a + 2 * (i : Int), a + 2 * (i : Int) + 1⟩) (by simpa using hm)) ?_)
      · simp only [laws_markPairS.l0]; rw [if_pos (by omega), if_pos (by omega)]
        simp only [Option.bind_some]
        rw [rd58_lt (show i < (m.set (i : Int).toNat (⟨a + 2 * (i : Int), (rd_T48 m (i : Int)).f1⟩ : S48)).length by simpa using hmi)]
        rw [show wrap64 (a + 2 * (i : Int) + 1) = a + 2 * (i : Int) + 1 from wrap_in (by omega) (by omega), show wrap64 (a + 2 * (i : Int) + 1 + 1) = a + 2 * ((i + 1 : Nat) : Int) by rw [wrap_in (by omega) (by omega)]; omega, show wrap64 ((i : Int) + 1) = ((i + 1 : Nat) : Int) from wrap_in (by omega) (by omega)]
        simp
      · rw [List.take_succ_eq_append_getElem (by simpa using hmi), take_set_self]
        rw [show (pmarks a l.length).drop i = ⟨a + 2 * (i : Int), a + 2 * (i : Int) + 1⟩ :: (pmarks a l.length).drop (i + 1) by rw [List.drop_eq_getElem_cons (by rw [pmarks_length]; exact hi), pmarks_at _ _ _ hi]]
        simp
  have := key 0 (by omega) l rfl
  simpa using this
theorem heldPairS_ev (n : Nat) (a : Int) (h0 : 0 ≤ a) (h1 : a ≤ 4000000) (hl : n ≤ 1048576) : Ev (fun k => laws_heldPairS.f k (pmarks a n) a) (a + 2 * (n : Int)) := by
  unfold laws_heldPairS.f
  have key : ∀ i, i ≤ n → Ev (fun k => laws_heldPairS.l0 k (pmarks a n) (a + 2 * (i : Int)) (i : Int)) (a + 2 * (n : Int)) := by
    refine loop_down n ?_ ?_
    · refine Ev.step (f := fun _ => some (a + 2 * (n : Int))) (fun k => ?_) (Ev.ret rfl)
      simp only [laws_heldPairS.l0]; rw [pmarks_length, if_neg (by omega)]
    · intro i hi ih
      refine Ev.step (f := fun k => laws_heldPairS.l0 k (pmarks a n) (a + 2 * ((i + 1 : Nat) : Int)) ((i + 1 : Nat) : Int)) (fun k => ?_) ih
      simp only [laws_heldPairS.l0]
      rw [pmarks_length, if_pos (by omega), if_pos (by omega), rd58_lt (by rw [pmarks_length]; exact hi), pmarks_at _ _ _ hi, if_pos rfl]
      rw [show wrap64 (a + 2 * (i : Int) + 1) = a + 2 * (i : Int) + 1 from wrap_in (by omega) (by omega), if_pos rfl, show wrap64 (a + 2 * (i : Int) + 1 + 1) = a + 2 * ((i + 1 : Nat) : Int) by rw [wrap_in (by omega) (by omega)]; omega, show wrap64 ((i : Int) + 1) = ((i + 1 : Nat) : Int) from wrap_in (by omega) (by omega)]
  have := key 0 (by omega)
  simpa using this
end Go.Proofs.Ytdjiclhjficgfaa.PB
