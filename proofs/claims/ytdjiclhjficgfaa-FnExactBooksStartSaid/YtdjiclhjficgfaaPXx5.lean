-- Written by a program of this workplace (wip/xprint.py over the kit's print.py) out of the translation.
import Derived.Test.YtdjiclhjficgfaaPXx0
import Derived.Test.YtdjiclhjficgfaaPXx1
import Derived.Test.YtdjiclhjficgfaaPXx4
namespace Go.Proofs.Ytdjiclhjficgfaa.PX
open Go.RowKit Go.Proofs.YtdjiclhjficgfaaW.PrintWords Go.Proofs.YtdjiclhjficgfaaW.PrintLast Go.Proofs.YtdjiclhjficgfaaW.PrintMore
attribute [local go_sem] max2_int min2_int max_two min_two max_three min_three max_four min_four   -- for this text's walks alone
set_option linter.unusedVariables false
set_option linter.unusedSimpArgs false

/-! ### impl_MapStart: function 61 -/
def impl_MapStart.f  : Option (Int × List Int) := some (1, [0, 1, 2, 0, 1, 2, 0, 1])
set_option maxHeartbeats 8000000 in
set_option maxRecDepth 100000 in
theorem impl_MapStart.calls  (r1 : Int) (r2 : List Int) (w : World) (h : impl_MapStart.f  = some (r1, r2)) :
    Calls Try.prog 61 #[] w fun e w' => ∃ v1_ : Value, e = .returned (.agg #[.int .i64 r1, v1_]) ∧ Kd.R (Kd.int .i64) 3 w' w.heap.size (fun _ => True) v1_ r2 ∧ Below w.heap.size w w' := by
  have H : some ((1 : Int), ([0, 1, 2, 0, 1, 2, 0, 1] : List Int)) = some (r1, r2) := h
  clear h
  simp only [Option.some.injEq, Prod.mk.injEq] at H
  obtain ⟨rfl, rfl⟩ := H
  have hu1 := Try.underlying53
  have hu2 := Try.underlying127
  go_enter Try.func61, Try.ntmps61
  go_wp2
  refine wp_loop_rounds 9 ?_
  repeat any_goals (rw [rounds_succ]; go_wp2_with (fail))
  generalize hW : (World.alloc (World.alloc w (Obj.cells #[Value.int IntKind.i64 0, Value.slice none 0 0] 53)) (Obj.cells #[Value.int IntKind.i64 0, Value.int IntKind.i64 1, Value.int IntKind.i64 2, Value.int IntKind.i64 0, Value.int IntKind.i64 1, Value.int IntKind.i64 2, Value.int IntKind.i64 0, Value.int IntKind.i64 1] 127)) = W
  obtain ⟨hb0, hb1, hbw⟩ := two_new w _ _ hW
  refine (slices_Clone_int_int.calls _ _ [0,1,2,0,1,2,0,1] _ _ (C_int_blk (t := 127) (fr := (0, 0)) hb1 (by decide)) (by decide) rfl).mono ?_
  rintro e w' ⟨v, rfl, ho, hb⟩
  have HO := Aside0.mk ho
  have HB := Aside0.mk (below_then hbw hbw.size hb)
  have BK := Aside0.mk (blk_below hb0 hb)
  have HW := Aside0.mk hbw.size
  clear ho hb hb1 hb0 hbw hW
  obtain ⟨A, c, ev⟩ := Kd.R_slice HO.out
  subst ev
  have hc0 : w'.cell? ⟨w.heap.size, 0, none⟩ = some (.int .i64 0) := (blk_cell BK.out 0).trans rfl
  have hc1 : w'.cell? ⟨w.heap.size, 1, none⟩ = some (.slice none 0 0) := (blk_cell BK.out 1).trans rfl
  have hz0 := blk_frozen BK.out 0
  have hz1 := blk_frozen BK.out 1
  go_wp2
  refine bodyPost_ret (results_cell_row rfl _ _ w.heap.size 53 #[.int .i64 1, .slice A 8 c] (0, 0) _ rfl (by refine blk_put (cs := #[.int .i64 1, .slice none 0 0]) ?_ 1 _ rfl; refine blk_put (cs := #[.int .i64 0, .slice none 0 0]) ?_ 0 _ rfl; exact BK.out) Try.underlying53 rfl (by kernel_rfl)) rfl ?_
  refine ⟨_, rfl, ?_, below_set (below_set HB.out (Nat.le_refl _)) (Nat.le_refl _)⟩
  exact Kd.R_mono (Kd.R_far (p := ⟨w.heap.size, 1, none⟩) (Kd.R_far (p := ⟨w.heap.size, 0, none⟩) (Kd.R_types (Kd.R_lower HO.out HW.out) BK.out (by decide)) (fun _ hk => hk.2) _) (fun _ hk => hk.2) _) (fun _ hk => trivial)

end Go.Proofs.Ytdjiclhjficgfaa.PX
