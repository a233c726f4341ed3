/- Copies and compares of pairs. -/
import Derived.Test.YtdjiclhjficgfaaPairSa
import Derived.Test.YtdjiclhjficgfaaPBx7
import Derived.Test.YtdjiclhjficgfaaPBx12
import Derived.Test.YtdjiclhjficgfaaPBx4
namespace Go.Proofs.Ytdjiclhjficgfaa.PB
open Go.RowKit Go.Proofs.Ytdjiclhjficgfaa.PB Go.Proofs.YtdjiclhjficgfaaW.PrintWords Go.Proofs.YtdjiclhjficgfaaW.PrintLast
set_option linter.unusedVariables false
def conv (l : List S80) : List S48 := l.map (fun p => ⟨p.f0, p.f1⟩)
theorem rd71_lt {l : List S80} {i : Nat} (h : i < l.length) : rd_T80 l (i : Int) = l[i] := by simp [rd_T80, List.getD_eq_getElem?_getD, List.getElem?_eq_getElem h]
theorem toPairS_ev (l : List S80) (hl : l.length ≤ 1048576) : Ev (fun k => laws_toPairS.f k l) (conv l) := by
  unfold laws_toPairS.f
  refine Ev.pos (by omega) (Ev.pos (by omega) ?_)
  have hcl : (conv l).length = l.length := by simp [conv]
  have key : ∀ i, i ≤ l.length → ∀ m : List S48, m.length = l.length → Ev (fun k => laws_toPairS.l0 k l m (i : Int)) (m.take i ++ (conv l).drop i) := by
    refine loop_down l.length ?_ ?_
    · intro m hm
      refine Ev.step (f := fun _ => some m) (fun k => ?_) (Ev.ret (by rw [List.take_of_length_le (by omega), List.drop_of_length_le (by omega)]; simp))
      simp only [laws_toPairS.l0]; rw [if_neg (by omega)]
    · intro i hi ih m hm
      refine Ev.step (f := fun k => laws_toPairS.l0 k l (m.set i ⟨l[i].f0, l[i].f1⟩) ((i + 1 : Nat) : Int)) (fun k => ?_) (evTo (ih (m.set i ⟨l[i].f0, l[i].f1⟩) (by simpa using hm)) ?_)
      · simp only [laws_toPairS.l0, laws_toPair.f]; rw [if_pos (by omega), if_pos (by omega)]; simp only [Option.bind_some]; rw [if_pos (by omega), rd71_lt hi, wrap_in (by omega) (by omega)]; simp
      · have hmi : i < m.length := by omega
        rw [List.take_succ_eq_append_getElem (by simpa using hmi), take_set_self, List.drop_eq_getElem_cons (show i < (conv l).length by omega)]
        simp [conv]
  have := key 0 (by omega) (List.replicate ((l.length : Int)).toNat z48) (by simp)
  simpa using this
theorem eqPairS_ev (l : List S48) (hl : l.length ≤ 1048576) : Ev (fun k => laws_eqPairS.f k l l) true := by
  unfold laws_eqPairS.f
  refine Ev.pos rfl ?_
  have key : ∀ i, i ≤ l.length → Ev (fun k => laws_eqPairS.l0 k l l (i : Int)) true := by
    refine loop_down l.length ?_ ?_
    · refine Ev.step (f := fun _ => some true) (fun k => ?_) (Ev.ret rfl)
      simp only [laws_eqPairS.l0]; rw [if_neg (by omega)]
    · intro i hi ih
      refine Ev.step (f := fun k => laws_eqPairS.l0 k l l ((i + 1 : Nat) : Int)) (fun k => ?_) ih
      simp only [laws_eqPairS.l0, laws_eqPair.f]; rw [if_pos (by omega), if_pos (by omega), if_pos (by omega), wrap_in (by omega) (by omega)]; simp
  simpa using key 0 (by omega)
end Go.Proofs.Ytdjiclhjficgfaa.PB
