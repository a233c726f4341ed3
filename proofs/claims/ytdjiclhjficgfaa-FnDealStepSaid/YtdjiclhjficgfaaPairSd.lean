/- The program's put of pairs. -/
import Derived.Test.YtdjiclhjficgfaaPairSb
import Derived.Test.YtdjiclhjficgfaaPXx21
namespace Go.Proofs.Ytdjiclhjficgfaa.PB
open Go.RowKit Go.Proofs.Ytdjiclhjficgfaa.PX Go.Proofs.YtdjiclhjficgfaaW.PrintWords Go.Proofs.YtdjiclhjficgfaaW.PrintLast
set_option linter.unusedVariables false
noncomputable def putOf (l m : List S48) : List S48 := @ite _ (PairsOk l ∧ PairsOk m) (Classical.propDecidable _) (prOut (putArr l m) 32) []
theorem putOf_yes {l m : List S48} (h : PairsOk l ∧ PairsOk m) : putOf l m = prOut (putArr l m) 32 := by unfold putOf; rw [if_pos h]
theorem putOf_no {l m : List S48} (h : ¬ (PairsOk l ∧ PairsOk m)) : putOf l m = [] := by unfold putOf; rw [if_neg h]
theorem impl_put_ev (l m : List S48) : Ev (fun k => impl_PairsPut.f k l m) (putOf l m) := by
  unfold impl_PairsPut.f
  obtain ⟨a, _, ha, hA⟩ := pairsOk_ev l
  obtain ⟨b, _, hb, hB⟩ := pairsOk_ev m
  refine Ev.bind ha ?_
  cases a with
  | true =>
    refine Ev.pos rfl (Ev.bind hb ?_)
    cases b with
    | true =>
      have h : PairsOk l ∧ PairsOk m := ⟨hA.1 rfl, hB.1 rfl⟩
      refine Ev.pos rfl (Ev.pos (by rw [h.1.keysIn, h.2.keysIn]; rfl) (Ev.ret ?_))
      rw [putOf_yes h]; rfl
    | false => exact Ev.neg (by decide) (Ev.ret (by rw [putOf_no (fun h => by simpa using hB.2 h.2)]))
  | false => exact Ev.neg (by decide) (Ev.ret (by rw [putOf_no (fun h => by simpa using hA.2 h.1)]))
end Go.Proofs.Ytdjiclhjficgfaa.PB
