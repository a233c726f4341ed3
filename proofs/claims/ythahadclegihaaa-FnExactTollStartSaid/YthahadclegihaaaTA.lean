/- What the compares, marks and holds come to on empty lists and on a gate at first. -/
import Derived.Test.YthahadclegihaaaHouseWalk
import Derived.Deep.Cut
namespace Go.Proofs.Ythahadclegihaaa.PX
open Go.RowKit Go.Proofs.YthahadclegihaaaW.PrintWords Go.Proofs.YthahadclegihaaaW.PrintLast Go.Proofs.YthahadclegihaaaW.PrintMore
attribute [local go_sem] max2_int min2_int max_two min_two max_three min_three max_four min_four
set_option linter.unusedVariables false
set_option linter.unusedSimpArgs false
set_option maxHeartbeats 8000000 in
set_option maxRecDepth 100000 in
theorem nil43 (w : World) : Calls Try.prog 43 #[.slice none 0 0, .slice none 0 0] w fun e w' => e = .returned (.bool true) ∧ Drawn0 w w' := by
 go_enter Try.func43, Try.ntmps43
 go_wp2
 refine wp_loop_rounds 1 ?_
 repeat any_goals (rw [rounds_succ]; go_wp2_with (fail))
 go_ret
 exact ⟨rfl, by repeat (first | exact Drawn0.refl _ | apply Drawn0.step)⟩
set_option maxHeartbeats 8000000 in
set_option maxRecDepth 100000 in
theorem nil44 (w : World) : Calls Try.prog 44 #[.slice none 0 0, .slice none 0 0] w fun e w' => e = .returned (.bool true) ∧ Drawn0 w w' := by
 go_enter Try.func44, Try.ntmps44
 go_wp2
 refine wp_loop_rounds 1 ?_
 repeat any_goals (rw [rounds_succ]; go_wp2_with (fail))
 go_ret
 exact ⟨rfl, by repeat (first | exact Drawn0.refl _ | apply Drawn0.step)⟩
set_option maxHeartbeats 8000000 in
set_option maxRecDepth 100000 in
theorem nil45 (w : World) : Calls Try.prog 45 #[.slice none 0 0, .slice none 0 0] w fun e w' => e = .returned (.bool true) ∧ Drawn0 w w' := by
 go_enter Try.func45, Try.ntmps45
 go_wp2
 refine wp_loop_rounds 1 ?_
 repeat any_goals (rw [rounds_succ]; go_wp2_with (fail))
 go_ret
 exact ⟨rfl, by repeat (first | exact Drawn0.refl _ | apply Drawn0.step)⟩
set_option maxHeartbeats 8000000 in
set_option maxRecDepth 100000 in
theorem nil35 (w : World) : Calls Try.prog 35 #[.slice none 0 0, .slice none 0 0] w fun e w' => e = .returned (.bool true) ∧ Drawn0 w w' := by
 go_enter Try.func35, Try.ntmps35
 go_wp2
 refine wp_loop_rounds 1 ?_
 repeat any_goals (rw [rounds_succ]; go_wp2_with (fail))
 go_ret
 exact ⟨rfl, by repeat (first | exact Drawn0.refl _ | apply Drawn0.step)⟩
set_option maxHeartbeats 8000000 in
set_option maxRecDepth 100000 in
theorem nil36 (w : World) : Calls Try.prog 36 #[.slice none 0 0, .slice none 0 0] w fun e w' => e = .returned (.bool true) ∧ Drawn0 w w' := by
 go_enter Try.func36, Try.ntmps36
 go_wp2
 refine wp_loop_rounds 1 ?_
 repeat any_goals (rw [rounds_succ]; go_wp2_with (fail))
 go_ret
 exact ⟨rfl, by repeat (first | exact Drawn0.refl _ | apply Drawn0.step)⟩
set_option maxHeartbeats 8000000 in
set_option maxRecDepth 100000 in
theorem nil46 (a : Int) (w : World) : Calls Try.prog 46 #[.slice none 0 0, .int .i64 a] w fun e w' => e = .returned (.int .i64 a) ∧ Drawn0 w w' := by
 go_enter Try.func46, Try.ntmps46
 go_wp2
 refine wp_loop_rounds 1 ?_
 repeat any_goals (rw [rounds_succ]; go_wp2_with (fail))
 go_ret
 exact ⟨rfl, by repeat (first | exact Drawn0.refl _ | apply Drawn0.step)⟩
set_option maxHeartbeats 8000000 in
set_option maxRecDepth 100000 in
theorem nil47 (a : Int) (w : World) : Calls Try.prog 47 #[.slice none 0 0, .int .i64 a] w fun e w' => e = .returned (.int .i64 a) ∧ Drawn0 w w' := by
 go_enter Try.func47, Try.ntmps47
 go_wp2
 refine wp_loop_rounds 1 ?_
 repeat any_goals (rw [rounds_succ]; go_wp2_with (fail))
 go_ret
 exact ⟨rfl, by repeat (first | exact Drawn0.refl _ | apply Drawn0.step)⟩
set_option maxHeartbeats 8000000 in
set_option maxRecDepth 100000 in
theorem nil48 (a : Int) (w : World) : Calls Try.prog 48 #[.slice none 0 0, .int .i64 a] w fun e w' => e = .returned (.int .i64 a) ∧ Drawn0 w w' := by
 go_enter Try.func48, Try.ntmps48
 go_wp2
 refine wp_loop_rounds 1 ?_
 repeat any_goals (rw [rounds_succ]; go_wp2_with (fail))
 go_ret
 exact ⟨rfl, by repeat (first | exact Drawn0.refl _ | apply Drawn0.step)⟩
set_option maxHeartbeats 8000000 in
set_option maxRecDepth 100000 in
theorem nil49 (a : Int) (w : World) : Calls Try.prog 49 #[.slice none 0 0, .int .i64 a] w fun e w' => e = .returned (.int .i64 a) ∧ Drawn0 w w' := by
 go_enter Try.func49, Try.ntmps49
 go_wp2
 refine wp_loop_rounds 1 ?_
 repeat any_goals (rw [rounds_succ]; go_wp2_with (fail))
 go_ret
 exact ⟨rfl, by repeat (first | exact Drawn0.refl _ | apply Drawn0.step)⟩
set_option maxHeartbeats 8000000 in
set_option maxRecDepth 100000 in
theorem nil50 (a : Int) (w : World) : Calls Try.prog 50 #[.slice none 0 0, .int .i64 a] w fun e w' => e = .returned (.int .i64 a) ∧ Drawn0 w w' := by
 go_enter Try.func50, Try.ntmps50
 go_wp2
 refine wp_loop_rounds 1 ?_
 repeat any_goals (rw [rounds_succ]; go_wp2_with (fail))
 go_ret
 exact ⟨rfl, by repeat (first | exact Drawn0.refl _ | apply Drawn0.step)⟩
set_option maxHeartbeats 8000000 in
set_option maxRecDepth 100000 in
theorem nil51 (a : Int) (w : World) : Calls Try.prog 51 #[.slice none 0 0, .int .i64 a] w fun e w' => e = .returned (.int .i64 a) ∧ Drawn0 w w' := by
 go_enter Try.func51, Try.ntmps51
 go_wp2
 refine wp_loop_rounds 1 ?_
 repeat any_goals (rw [rounds_succ]; go_wp2_with (fail))
 go_ret
 exact ⟨rfl, by repeat (first | exact Drawn0.refl _ | apply Drawn0.step)⟩
set_option maxHeartbeats 8000000 in
set_option maxRecDepth 100000 in
theorem nil38 (a : Int) (w : World) : Calls Try.prog 38 #[.slice none 0 0, .int .i64 a] w fun e w' => e = .returned (.int .i64 a) ∧ Drawn0 w w' := by
 go_enter Try.func38, Try.ntmps38
 go_wp2
 refine wp_loop_rounds 1 ?_
 repeat any_goals (rw [rounds_succ]; go_wp2_with (fail))
 go_ret
 exact ⟨rfl, by repeat (first | exact Drawn0.refl _ | apply Drawn0.step)⟩
set_option maxHeartbeats 8000000 in
set_option maxRecDepth 100000 in
theorem nil39 (a : Int) (w : World) : Calls Try.prog 39 #[.slice none 0 0, .int .i64 a] w fun e w' => e = .returned (.int .i64 a) ∧ Drawn0 w w' := by
 go_enter Try.func39, Try.ntmps39
 go_wp2
 refine wp_loop_rounds 1 ?_
 repeat any_goals (rw [rounds_succ]; go_wp2_with (fail))
 go_ret
 exact ⟨rfl, by repeat (first | exact Drawn0.refl _ | apply Drawn0.step)⟩
set_option maxHeartbeats 8000000 in
set_option maxRecDepth 100000 in
theorem nil41 (a : Int) (w : World) : Calls Try.prog 41 #[.slice none 0 0, .int .i64 a] w fun e w' => e = .returned (.int .i64 a) ∧ Drawn0 w w' := by
 go_enter Try.func41, Try.ntmps41
 go_wp2
 refine wp_loop_rounds 1 ?_
 repeat any_goals (rw [rounds_succ]; go_wp2_with (fail))
 go_ret
 exact ⟨rfl, by repeat (first | exact Drawn0.refl _ | apply Drawn0.step)⟩
set_option maxHeartbeats 8000000 in
set_option maxRecDepth 100000 in
theorem nil42 (a : Int) (w : World) : Calls Try.prog 42 #[.slice none 0 0, .int .i64 a] w fun e w' => e = .returned (.int .i64 a) ∧ Drawn0 w w' := by
 go_enter Try.func42, Try.ntmps42
 go_wp2
 refine wp_loop_rounds 1 ?_
 repeat any_goals (rw [rounds_succ]; go_wp2_with (fail))
 go_ret
 exact ⟨rfl, by repeat (first | exact Drawn0.refl _ | apply Drawn0.step)⟩
theorem below_drewN_ {B : Nat} {w W : World} (h : Below B w W) (n : Nat) : Below B w (W.drewN n) := pw_below_drewN h n
set_option maxHeartbeats 8000000 in
set_option maxRecDepth 100000 in
theorem eqGate0 (w : World) : Calls Try.prog 18 #[.agg #[.bool true, .int .i64 1, .int .i64 1, .slice none 0 0, .slice none 0 0, .slice none 0 0], .agg #[.bool true, .int .i64 1, .int .i64 1, .slice none 0 0, .slice none 0 0, .slice none 0 0]] w fun e w' => e = .returned (.bool true) ∧ Below w.heap.size w w' := by
 go_enter Try.func18, Try.ntmps18
 go_wp2_with (fail)
 refine (nil43 _).mono ?_
 rintro e w1 ⟨rfl, ⟨nd43, rfl⟩⟩
 go_wp2_with (fail)
 refine (nil44 _).mono ?_
 rintro e w1 ⟨rfl, ⟨nd44, rfl⟩⟩
 go_wp2_with (fail)
 refine (nil45 _).mono ?_
 rintro e w1 ⟨rfl, ⟨nd45, rfl⟩⟩
 go_wp2_with (fail)
 go_ret
 exact ⟨rfl, by repeat (first | exact Below.refl _ _ | (refine below_drewN_ ?_ _) | (refine below_alloc ?_ _))⟩
set_option maxHeartbeats 8000000 in
set_option maxRecDepth 100000 in
theorem markGate0 (w : World) : Calls Try.prog 19 #[.agg #[.bool true, .int .i64 1, .int .i64 1, .slice none 0 0, .slice none 0 0, .slice none 0 0], .int .i64 1] w fun e w' => e = .returned (.int .i64 1) ∧ Below w.heap.size w w' := by
 go_enter Try.func19, Try.ntmps19
 go_wp2_with (fail)
 refine (nil46 1 _).mono ?_
 rintro e w1 ⟨rfl, ⟨nd46, rfl⟩⟩
 go_wp2_with (fail)
 refine (nil47 1 _).mono ?_
 rintro e w1 ⟨rfl, ⟨nd47, rfl⟩⟩
 go_wp2_with (fail)
 refine (nil48 1 _).mono ?_
 rintro e w1 ⟨rfl, ⟨nd48, rfl⟩⟩
 go_wp2_with (fail)
 go_ret
 exact ⟨rfl, by repeat (first | exact Below.refl _ _ | (refine below_drewN_ ?_ _) | (refine below_alloc ?_ _))⟩
set_option maxHeartbeats 8000000 in
set_option maxRecDepth 100000 in
theorem heldGate0 (w : World) : Calls Try.prog 20 #[.agg #[.bool true, .int .i64 1, .int .i64 1, .slice none 0 0, .slice none 0 0, .slice none 0 0], .int .i64 1] w fun e w' => e = .returned (.int .i64 1) ∧ Below w.heap.size w w' := by
 go_enter Try.func20, Try.ntmps20
 go_wp2_with (fail)
 refine (nil49 1 _).mono ?_
 rintro e w1 ⟨rfl, ⟨nd49, rfl⟩⟩
 go_wp2_with (fail)
 refine (nil50 1 _).mono ?_
 rintro e w1 ⟨rfl, ⟨nd50, rfl⟩⟩
 go_wp2_with (fail)
 refine (nil51 1 _).mono ?_
 rintro e w1 ⟨rfl, ⟨nd51, rfl⟩⟩
 go_wp2_with (fail)
 go_ret
 exact ⟨rfl, by repeat (first | exact Below.refl _ _ | (refine below_drewN_ ?_ _) | (refine below_alloc ?_ _))⟩
set_option maxHeartbeats 8000000 in
set_option maxRecDepth 100000 in
theorem gate16 (w : World) : Calls Try.prog 16 #[] w fun e w' => e = .returned (.agg #[.bool true, .int .i64 1, .int .i64 1, .slice none 0 0, .slice none 0 0, .slice none 0 0]) ∧ Below w.heap.size w w' := by
 have hu := Try.underlying35
 go_enter Try.func16, Try.ntmps16
 go_wp2_with (first | ((with_reducible refine gate_dst (N := 0) rfl ?_); (refine box_event ?hg (N := 0) ?hd (cs := #[.bool false, .int .i64 0, .int .i64 0, .slice none 0 0, .slice none 0 0, .slice none 0 0]) (t := 35) ?hr ?_; (case hd => rfl); (case hg => rfl); (case hr => first | (go_simp; done) | (go_simp; rfl)); intro b0 hb5 W1 hbox hA; have HA := Aside0.mk hA; have P0 := Aside0.mk hbox; have HB5 := Aside0.mk hb5; clear hA hbox hb5)) | ((with_reducible refine gate_store (t := 35) (p := 0) rfl ?_); (refine wpList_store_row rfl 35 (.tmp 0) (.tmp 1) rfl b0 #[.bool true, .int .i64 1, .int .i64 1, .slice none 0 0, .slice none 0 0, .slice none 0 0] rfl rfl 35 #[.bool false, .int .i64 0, .int .i64 0, .slice none 0 0, .slice none 0 0, .slice none 0 0] P0.out (by kernel_rfl) rfl (by simp [Value.oneCell']) ?_; replace HA : Aside0 (Below w.heap.size w (W1.setRow b0 #[.bool true, .int .i64 1, .int .i64 1, .slice none 0 0, .slice none 0 0, .slice none 0 0])) := ⟨HA.out.trans ⟨rfl, rfl, rfl, by simp, fun k hk => setRow_other _ _ _ _ (by have := HB5.out; omega)⟩⟩; replace P0 := Aside0.mk (setRow_heap W1 b0 _ #[.bool true, .int .i64 1, .int .i64 1, .slice none 0 0, .slice none 0 0, .slice none 0 0] 35 (0, 0) P0.out); generalize W1.setRow b0 #[.bool true, .int .i64 1, .int .i64 1, .slice none 0 0, .slice none 0 0, .slice none 0 0] = W2 at HA P0 ⊢)))
 refine bodyPost_ret (results_cell_row rfl _ _ b0 35 #[.bool true, .int .i64 1, .int .i64 1, .slice none 0 0, .slice none 0 0, .slice none 0 0] (0, 0) _ rfl P0.out Try.underlying35 rfl (by kernel_rfl)) rfl ?_
 exact ⟨rfl, HA.out⟩
set_option maxHeartbeats 8000000 in
set_option maxRecDepth 100000 in
theorem gate17 (w : World) : Calls Try.prog 17 #[] w fun e w' => e = .returned (.agg #[.bool true, .int .i64 1, .int .i64 1, .slice none 0 0, .slice none 0 0, .slice none 0 0]) ∧ Below w.heap.size w w' := by
 have hu := Try.underlying35
 go_enter Try.func17, Try.ntmps17
 go_wp2_with (first | ((with_reducible refine gate_dst (N := 0) rfl ?_); (refine box_event ?hg (N := 0) ?hd (cs := #[.bool false, .int .i64 0, .int .i64 0, .slice none 0 0, .slice none 0 0, .slice none 0 0]) (t := 35) ?hr ?_; (case hd => rfl); (case hg => rfl); (case hr => first | (go_simp; done) | (go_simp; rfl)); intro b0 hb5 W1 hbox hA; have HA := Aside0.mk hA; have P0 := Aside0.mk hbox; have HB5 := Aside0.mk hb5; clear hA hbox hb5)) | ((with_reducible refine gate_store (t := 35) (p := 0) rfl ?_); (refine wpList_store_row rfl 35 (.tmp 0) (.tmp 1) rfl b0 #[.bool true, .int .i64 1, .int .i64 1, .slice none 0 0, .slice none 0 0, .slice none 0 0] rfl rfl 35 #[.bool false, .int .i64 0, .int .i64 0, .slice none 0 0, .slice none 0 0, .slice none 0 0] P0.out (by kernel_rfl) rfl (by simp [Value.oneCell']) ?_; replace HA : Aside0 (Below w.heap.size w (W1.setRow b0 #[.bool true, .int .i64 1, .int .i64 1, .slice none 0 0, .slice none 0 0, .slice none 0 0])) := ⟨HA.out.trans ⟨rfl, rfl, rfl, by simp, fun k hk => setRow_other _ _ _ _ (by have := HB5.out; omega)⟩⟩; replace P0 := Aside0.mk (setRow_heap W1 b0 _ #[.bool true, .int .i64 1, .int .i64 1, .slice none 0 0, .slice none 0 0, .slice none 0 0] 35 (0, 0) P0.out); generalize W1.setRow b0 #[.bool true, .int .i64 1, .int .i64 1, .slice none 0 0, .slice none 0 0, .slice none 0 0] = W2 at HA P0 ⊢)))
 refine bodyPost_ret (results_cell_row rfl _ _ b0 35 #[.bool true, .int .i64 1, .int .i64 1, .slice none 0 0, .slice none 0 0, .slice none 0 0] (0, 0) _ rfl P0.out Try.underlying35 rfl (by kernel_rfl)) rfl ?_
 exact ⟨rfl, HA.out⟩
end Go.Proofs.Ythahadclegihaaa.PX
