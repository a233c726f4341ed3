import Derived.Test.YtnpmepaiigbhlaaPairPc
import Derived.Test.YtnpmepaiigbhlaaPXx36
namespace Go.Proofs.Ytnpmepaiigbhlaa.Pure
open Go.RowKit Go.Proofs.Ytnpmepaiigbhlaa.PX Go.Proofs.YtnpmepaiigbhlaaW.PrintWords Go.Proofs.YtnpmepaiigbhlaaW.PrintLast Go.Proofs.Ytnpmepaiigbhlaa.PB
set_option linter.unusedVariables false
theorem FnExactPairsPut : laws_FnExactPairsPut.Pure := by
  intro l0 l1 h0 h1
  obtain ⟨h0, _⟩ := h0
  obtain ⟨h1, _⟩ := h1
  have hm : maxLen = 9223372036854775807 := rfl
  refine Ev.rounds (g := fun k => laws_FnExactPairsPut.f k l0 l1) ?_
  unfold laws_FnExactPairsPut.f
  by_cases b0 : l0.length ≤ 1048576
  · have e0 : laws_szPairS.f l0 1048576 = some (1048576 - (l0.length : Int)) := by
      unfold laws_szPairS.f
      rw [wrap_in (by omega) (by omega), if_neg (by omega)]
    refine Ev.eq e0 (Ev.neg (by omega) ?_)
    by_cases b1 : (l1.length : Int) ≤ 1048576 - (l0.length : Int)
    · have e1 : laws_szPairS.f l1 (1048576 - (l0.length : Int)) = some (1048576 - (l0.length : Int) - (l1.length : Int)) := by
        unfold laws_szPairS.f
        rw [wrap_in (by omega) (by omega), if_neg (by omega)]
      refine Ev.eq e1 (Ev.neg (by omega) ?_)
      have c0 : (conv l0).length = l0.length := by simp [conv]
      have c1 : (conv l1).length = l1.length := by simp [conv]
      have hp := putOf_length (conv l0) (conv l1)
      have t0 := toPairS_ev l0 (by omega)
      have t1 := toPairS_ev l1 (by omega)
      refine Ev.bind t0 (Ev.bind t1 (Ev.bind (spec_put_ev _ _) (Ev.bind t0 (Ev.bind t1 (Ev.bind (impl_put_ev _ _) (Ev.bind (eqPairS_ev _ (by omega)) (Ev.pos rfl ?_)))))))
      refine Ev.bind t0 (Ev.bind (eqPairS_ev _ (by omega)) (Ev.pos rfl (Ev.bind t1 (Ev.bind (eqPairS_ev _ (by omega)) (Ev.pos rfl ?_)))))
      refine Ev.bind (markPairS_ev (conv l0) 1 (by omega) (by omega) (by omega)) (Ev.bind (markPairS_ev (conv l1) _ (by omega) (by omega) (by omega)) (Ev.neg (by simp only; omega) ?_))
      refine Ev.bind (eqPairS_ev _ (by omega)) ?_
      refine Ev.step (f := fun k => (laws_markPairS.f k (putOf (conv l0) (conv l1)) 1).bind fun bt140035 => ((laws_heldPairS.f k bt140035.2 1).bind fun t140037 => (if t140037 < 0 then (some false) else (if t140037 = bt140035.1 then ((laws_toPairS.f k l0).bind fun t140038 => ((laws_toPairS.f k l1).bind fun t140041 => ((impl_PairsPut.f k t140038 t140041).bind fun t140044 => ((laws_eqPairS.f k t140044 (putOf (conv l0) (conv l1))).bind fun t140047 => (if t140047 = true then ((laws_heldPairS.f k bt140035.2 1).bind fun t140048 => (if t140048 < 0 then (some false) else (if t140048 = bt140035.1 then (some true) else (some false)))) else (some false)))))) else (some false))))) (fun k => by simp [laws_FnExactPairsPut.j0]) ?_
      have hh := heldPairS_ev (putOf (conv l0) (conv l1)).length 1 (by omega) (by omega) (by omega)
      refine Ev.bind (markPairS_ev _ 1 (by omega) (by omega) (by omega)) (Ev.bind hh (Ev.neg (by omega) (Ev.pos rfl ?_)))
      refine Ev.bind t0 (Ev.bind t1 (Ev.bind (impl_put_ev _ _) (Ev.bind (eqPairS_ev _ (by omega)) (Ev.pos rfl ?_))))
      exact Ev.bind hh (Ev.neg (by omega) (Ev.pos rfl (Ev.ret rfl)))
    · have e1 : laws_szPairS.f l1 (1048576 - (l0.length : Int)) = some (-1) := by
        unfold laws_szPairS.f
        rw [wrap_in (by omega) (by omega), if_pos (by omega)]
      exact Ev.eq e1 (Ev.pos (by omega) (Ev.ret rfl))
  · have e0 : laws_szPairS.f l0 1048576 = some (-1) := by
      unfold laws_szPairS.f
      rw [wrap_in (by omega) (by omega), if_pos (by omega)]
    exact Ev.eq e0 (Ev.pos (by omega) (Ev.ret rfl))
end Go.Proofs.Ytnpmepaiigbhlaa.Pure
