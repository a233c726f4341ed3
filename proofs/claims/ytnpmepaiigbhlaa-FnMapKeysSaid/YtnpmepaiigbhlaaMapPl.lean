/- Maps compared. -/
import Derived.Test.YtnpmepaiigbhlaaBase
import Derived.Test.YtnpmepaiigbhlaaPXx18
namespace Go.Proofs.Ytnpmepaiigbhlaa.PB
open Go.RowKit Go.Proofs.Ytnpmepaiigbhlaa.PX Go.Proofs.YtnpmepaiigbhlaaW.PrintWords Go.Proofs.YtnpmepaiigbhlaaW.PrintLast
set_option linter.unusedVariables false
theorem loInts_ev (l m : List Int) (hl : l.length ≤ 9223372036854775807) : Ev (fun k => laws_loInts.f k l m) (decide (l = m)) := by
  unfold laws_loInts.f
  by_cases hlen : l.length = m.length
  · refine Ev.pos (by omega) ?_
    have key : ∀ i, i ≤ l.length → Ev (fun k => laws_loInts.l0 k l m (i : Int)) (decide (l.drop i = m.drop i)) := by
      refine loop_down l.length ?_ ?_
      · refine Ev.step (f := fun _ => some true) (fun k => ?_) (Ev.ret (by simp [hlen]))
        simp only [laws_loInts.l0]; rw [if_neg (by omega)]
      · intro i hi ih
        refine Ev.step (f := fun k => if l[i] = m[i] then laws_loInts.l0 k l m ((i + 1 : Nat) : Int) else some false) (fun k => ?_) ?_
        · simp only [laws_loInts.l0]; rw [if_pos (by omega), if_pos (by omega), if_pos (by omega), rd_lt hi, rd_lt (show i < m.length by omega), wrap_in (by omega) (by omega)]; rfl
        · rw [List.drop_eq_getElem_cons hi, List.drop_eq_getElem_cons (show i < m.length by omega)]
          by_cases h : l[i] = m[i]
          · refine Ev.pos h (evTo ih ?_); simp only [List.cons.injEq, h, true_and]
          · exact Ev.neg h (Ev.ret (by simp only [List.cons.injEq, h, false_and, decide_false]))
    simpa using key 0 (by omega)
  · refine Ev.neg (by omega) (Ev.ret ?_)
    have : l ≠ m := fun h => hlen (by rw [h])
    simp [this]
theorem loMap_ev (v w : Int) (l m : List Int) (hl : l.length ≤ 9223372036854775807) : Ev (fun k => laws_loMap.f k v l w m) (decide (v = w ∧ l = m)) := by
  unfold laws_loMap.f
  by_cases h : v = w
  · refine Ev.pos h (Ev.bind (loInts_ev l m hl) (Ev.ret (by simp [h])))
  · exact Ev.neg h (Ev.ret (by simp [h]))
end Go.Proofs.Ytnpmepaiigbhlaa.PB
