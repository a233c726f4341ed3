/- DealRun of the program and of the reference agree, each in memory of its own. -/
import Derived.Test.YtdjiclhjficgfaaRunPa
import Derived.Test.YtdjiclhjficgfaaPairSc
import Derived.Test.YtdjiclhjficgfaaPXx18
import Derived.Test.YtdjiclhjficgfaaPXx15
namespace Go.Proofs.Ytdjiclhjficgfaa.Pure
open Go.RowKit Go.Proofs.Ytdjiclhjficgfaa.PX Go.Proofs.YtdjiclhjficgfaaW.PrintWords Go.Proofs.YtdjiclhjficgfaaW.PrintLast Go.Proofs.Ytdjiclhjficgfaa.PB
set_option linter.unusedVariables false
theorem markStatementS_ev (l : List S46) (hl : l.length ≤ 1048576) : ∃ r : List S46, Ev (fun k => laws_markStatementS.f k l 1) (1 + 3 * (l.length : Int), r) := by
  unfold laws_markStatementS.f
  have key : ∀ i, i ≤ l.length → ∀ m : List S46, m.length = l.length → ∃ r : List S46, Ev (fun k => laws_markStatementS.l0 k m (1 + 3 * (i : Int)) (i : Int)) (1 + 3 * (l.length : Int), r) := by
    refine loop_down l.length ?_ ?_
    · intro m hm
      refine ⟨m, Ev.step (fun k => by rw [laws_markStatementS.l0]) ?_⟩
      exact Ev.neg (by omega) (Ev.ret rfl)
    · intro i hi ih m hm
      obtain ⟨r, hr⟩ := ih _ (show ((((m.set (i : Int).toNat (⟨1 + 3 * (i : Int), (rd_T46 m (i : Int)).f1, (rd_T46 m (i : Int)).f2⟩ : S46)).set (i : Int).toNat (⟨(rd_T46 (m.set (i : Int).toNat (⟨1 + 3 * (i : Int), (rd_T46 m (i : Int)).f1, (rd_T46 m (i : Int)).f2⟩ : S46)) (i : Int)).f0, wrap64 (1 + 3 * (i : Int) + 1), (rd_T46 (m.set (i : Int).toNat (⟨1 + 3 * (i : Int), (rd_T46 m (i : Int)).f1, (rd_T46 m (i : Int)).f2⟩ : S46)) (i : Int)).f2⟩ : S46)).set (i : Int).toNat _)).length = l.length by simpa using hm)
      refine ⟨r, Ev.step (fun k => by rw [laws_markStatementS.l0]) ?_⟩
      refine Ev.pos (by omega) (Ev.pos (by omega) (Ev.eq rfl (Ev.eq rfl ?_)))
      rw [show wrap64 (wrap64 (wrap64 (1 + 3 * (i : Int) + 1) + 1) + 1) = 1 + 3 * ((i + 1 : Nat) : Int) by
        rw [wrap_in (x := 1 + 3 * (i : Int) + 1) (by omega) (by omega), wrap_in (x := 1 + 3 * (i : Int) + 1 + 1) (by omega) (by omega), wrap_in (by omega) (by omega)]; omega, show wrap64 ((i : Int) + 1) = ((i + 1 : Nat) : Int) from wrap_in (by omega) (by omega)]
      exact hr
  simpa using key 0 (by omega) l rfl
theorem FnExactDealRun : laws_FnExactDealRun.Pure := by
  intro l0 l1 h0 h1
  obtain ⟨h0, _⟩ := h0
  obtain ⟨h1, _⟩ := h1
  have hm : maxLen = 9223372036854775807 := rfl
  refine Ev.rounds (g := fun k => laws_FnExactDealRun.f k l0 l1) ?_
  unfold laws_FnExactDealRun.f
  by_cases b0 : l0.length ≤ 1048576
  · have e0 : laws_szStatementS.f l0 1048576 = some (1048576 - (l0.length : Int)) := by
      unfold laws_szStatementS.f
      rw [wrap_in (by omega) (by omega), if_neg (by omega)]
    refine Ev.eq e0 (Ev.neg (by omega) ?_)
    by_cases b1 : (l1.length : Int) ≤ 1048576 - (l0.length : Int)
    · have e1 : laws_szPairS.f l1 (1048576 - (l0.length : Int)) = some (1048576 - (l0.length : Int) - (l1.length : Int)) := by
        unfold laws_szPairS.f
        rw [wrap_in (by omega) (by omega), if_neg (by omega)]
      refine Ev.eq e1 (Ev.neg (by omega) ?_)
      have c0 : (convSt l0).length = l0.length := by simp [convSt]
      have c1 : (conv l1).length = l1.length := by simp [conv]
      have hp := runOf_lens (convSt l0) (conv l1)
      have t0 := toStatementS_ev l0 b0
      have t1 := toPairS_ev l1 (by omega)
      obtain ⟨ms, hms⟩ := markStatementS_ev (convSt l0) (by omega)
      have q0 := spec_DealRun_ev (convSt l0) (conv l1)
      have q1 := impl_DealRun_ev (convSt l0) (conv l1)
      generalize runOf (convSt l0) (conv l1) = R at hp q0 q1
      obtain ⟨R0, R1, R2⟩ := R
      simp only at hp
      have ei := evTo (eqIntS_ev R1 R1 (by omega)) (decide_eq_true rfl)
      have ep := eqPairS_ev R2 (by omega)
      refine Ev.bind t0 (Ev.bind t1 (Ev.bind q0 (Ev.bind t0 (Ev.bind t1 (Ev.bind q1 (Ev.pos rfl (Ev.bind ei (Ev.pos rfl (Ev.bind ep ?_)))))))))
      refine Ev.step (fun k => by rw [laws_FnExactDealRun.j0]) ?_
      refine Ev.neg (by decide) ?_
      refine Ev.bind t0 (Ev.bind (eqStatementS_ev _ (by omega)) (Ev.pos rfl (Ev.bind t1 (Ev.bind (eqPairS_ev _ (by omega)) (Ev.pos rfl ?_)))))
      refine Ev.bind hms (Ev.bind (markPairS_ev (conv l1) _ (by simp only; omega) (by simp only; omega) (by omega)) (Ev.neg (by simp only; omega) (Ev.pos rfl ?_)))
      refine Ev.bind ei (Ev.pos rfl (Ev.bind ep ?_))
      refine Ev.step (fun k => by rw [laws_FnExactDealRun.j1]) ?_
      refine Ev.neg (by decide) ?_
      have hi := heldIntS_ev R1.length 1 (by omega) (by omega) (by omega)
      have hh := heldPairS_ev R2.length (1 + (R1.length : Int)) (by omega) (by omega) (by omega)
      refine Ev.bind (markIntS_ev R1 1 (by omega) (by omega) (by omega)) (Ev.bind (markPairS_ev R2 _ (by simp only; omega) (by simp only; omega) (by omega)) ?_)
      refine Ev.bind hi (Ev.neg (by omega) (Ev.bind hh (Ev.neg (by omega) (Ev.pos rfl ?_))))
      refine Ev.bind t0 (Ev.bind t1 (Ev.bind q1 (Ev.pos rfl (Ev.bind ei (Ev.pos rfl (Ev.bind ep ?_))))))
      refine Ev.step (fun k => by rw [laws_FnExactDealRun.j2]) ?_
      refine Ev.neg (by decide) ?_
      exact Ev.bind hi (Ev.neg (by omega) (Ev.bind hh (Ev.neg (by omega) (Ev.pos rfl (Ev.ret rfl)))))
    · have e1 : laws_szPairS.f l1 (1048576 - (l0.length : Int)) = some (-1) := by
        unfold laws_szPairS.f
        rw [wrap_in (by omega) (by omega), if_pos (by omega)]
      exact Ev.eq e1 (Ev.pos (by omega) (Ev.ret rfl))
  · have e0 : laws_szStatementS.f l0 1048576 = some (-1) := by
      unfold laws_szStatementS.f
      rw [wrap_in (by omega) (by omega), if_pos (by omega)]
    exact Ev.eq e0 (Ev.pos (by omega) (Ev.ret rfl))
end Go.Proofs.Ytdjiclhjficgfaa.Pure
