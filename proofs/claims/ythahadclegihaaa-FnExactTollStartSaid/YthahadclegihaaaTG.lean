/- heldHouseS on three marked houses. -/
import Derived.Test.YthahadclegihaaaTE
import Derived.Deep.Cut
namespace Go.Proofs.Ythahadclegihaaa.PX
open Go.RowKit Go.Proofs.YthahadclegihaaaW.PrintWords Go.Proofs.YthahadclegihaaaW.PrintLast Go.Proofs.YthahadclegihaaaW.PrintMore
attribute [local go_sem] max2_int min2_int max_two min_two max_three min_three max_four min_four
set_option linter.unusedVariables false
set_option linter.unusedSimpArgs false
set_option maxHeartbeats 8000000 in
set_option maxRecDepth 100000 in
theorem heldHouseS_ (g : Nat) (c base : Nat) (h : Nat → HV) (I : Nat → Nat → Prop) (w : World) (a1 : At w g (mcells h)) (s0 : Kd.S k70 70 w base (I 0) (.slice (h 0).a4 8 (h 0).c4) (lmarks 4 8)) (s1 : Kd.S k70 70 w base (I 1) (.slice (h 1).a4 8 (h 1).c4) (lmarks 15 8)) (s2 : Kd.S k70 70 w base (I 2) (.slice (h 2).a4 8 (h 2).c4) (lmarks 26 8)) : Calls Try.prog 40 #[.slice (some ⟨g, 0, none⟩) 3 c, .int .i64 1] w fun e w' => e = .returned (.int .i64 34) ∧ Below w.heap.size w w' := by
 have AT := Aside0.mk a1
 have SA0 := Aside0.mk s0
 have SA1 := Aside0.mk s1
 have SA2 := Aside0.mk s2
 clear a1 s0 s1 s2
 have HB := Aside0.mk (Below.refl w.heap.size w)
 go_enter Try.func40, Try.ntmps40
 go_wp2_with (fail)
 refine wp_loop_rounds 4 ?_
 rw [rounds_succ]
 have hc0 := AT.out.cell 0 (u := .int .i64 1) rfl
 have hc1 := AT.out.cell 1 (u := .bool false) rfl
 have hc2 := AT.out.cell 2 (u := .slice (h 0).a2 0 (h 0).c2) rfl
 go_wp2_with (fail)
 clear hc0 hc1 hc2
 refine (laws_heldRecS.calls 40 (h 0).a2 (h 0).c2 [] 3 3 w (C_nil _ _ _) (Nat.zero_le _) (by kernel_rfl)).mono ?_
 rintro e wz_ ⟨rfl, ⟨nd, rfl⟩⟩
 have hb := pw_below_drewN (Below.refl w.heap.size w) nd
 generalize w.drewN nd = W1 at hb ⊢
 have AT := Aside0.mk (At.below AT.out (hb))
 have SA0 := Aside0.mk (Kd.S_below SA0.out (hb))
 have SA1 := Aside0.mk (Kd.S_below SA1.out (hb))
 have SA2 := Aside0.mk (Kd.S_below SA2.out (hb))
 have HB := Aside0.mk (below_step HB.out (hb))
 clear hb
 have hc3 := AT.out.cell 3 (u := .int .i64 3) rfl
 have hc4 := AT.out.cell 4 (u := .slice (h 0).a4 8 (h 0).c4) rfl
 go_wp2_with (fail)
 clear hc3 hc4
 have hh := laws_heldLockS.calls 40 (h 0).a4 (h 0).c4 (lmarks 4 8) 4 12 W1 (lk SA0.out).2.2 (lk SA0.out).2.1 (by kernel_rfl)
 rw [lmarks_length] at hh
 refine hh.mono ?_
 clear hh
 rintro e wz_ ⟨rfl, ⟨nd, rfl⟩⟩
 have hb := pw_below_drewN (Below.refl W1.heap.size W1) nd
 generalize W1.drewN nd = W2 at hb ⊢
 have AT := Aside0.mk (At.below AT.out (hb))
 have SA0 := Aside0.mk (Kd.S_below SA0.out (hb))
 have SA1 := Aside0.mk (Kd.S_below SA1.out (hb))
 have SA2 := Aside0.mk (Kd.S_below SA2.out (hb))
 have HB := Aside0.mk (below_step HB.out (hb))
 clear hb
 have hc5 := AT.out.cell 5 (u := .slice (h 0).a5 0 (h 0).c5) rfl
 go_wp2_with (fail)
 clear hc5
 refine (laws_heldWorkS.calls 40 (h 0).a5 (h 0).c5 [] 12 12 W2 (C_nil _ _ _) (Nat.zero_le _) (by kernel_rfl)).mono ?_
 rintro e wz_ ⟨rfl, ⟨nd, rfl⟩⟩
 have hb := pw_below_drewN (Below.refl W2.heap.size W2) nd
 generalize W2.drewN nd = W3 at hb ⊢
 have AT := Aside0.mk (At.below AT.out (hb))
 have SA0 := Aside0.mk (Kd.S_below SA0.out (hb))
 have SA1 := Aside0.mk (Kd.S_below SA1.out (hb))
 have SA2 := Aside0.mk (Kd.S_below SA2.out (hb))
 have HB := Aside0.mk (below_step HB.out (hb))
 clear hb
 go_wp2_with (fail)
 rw [rounds_succ]
 have hc0 := AT.out.cell 6 (u := .int .i64 12) rfl
 have hc1 := AT.out.cell 7 (u := .bool false) rfl
 have hc2 := AT.out.cell 8 (u := .slice (h 1).a2 0 (h 1).c2) rfl
 go_wp2_with (fail)
 clear hc0 hc1 hc2
 refine (laws_heldRecS.calls 40 (h 1).a2 (h 1).c2 [] 14 14 W3 (C_nil _ _ _) (Nat.zero_le _) (by kernel_rfl)).mono ?_
 rintro e wz_ ⟨rfl, ⟨nd, rfl⟩⟩
 have hb := pw_below_drewN (Below.refl W3.heap.size W3) nd
 generalize W3.drewN nd = W4 at hb ⊢
 have AT := Aside0.mk (At.below AT.out (hb))
 have SA0 := Aside0.mk (Kd.S_below SA0.out (hb))
 have SA1 := Aside0.mk (Kd.S_below SA1.out (hb))
 have SA2 := Aside0.mk (Kd.S_below SA2.out (hb))
 have HB := Aside0.mk (below_step HB.out (hb))
 clear hb
 have hc3 := AT.out.cell 9 (u := .int .i64 14) rfl
 have hc4 := AT.out.cell 10 (u := .slice (h 1).a4 8 (h 1).c4) rfl
 go_wp2_with (fail)
 clear hc3 hc4
 have hh := laws_heldLockS.calls 40 (h 1).a4 (h 1).c4 (lmarks 15 8) 15 23 W4 (lk SA1.out).2.2 (lk SA1.out).2.1 (by kernel_rfl)
 rw [lmarks_length] at hh
 refine hh.mono ?_
 clear hh
 rintro e wz_ ⟨rfl, ⟨nd, rfl⟩⟩
 have hb := pw_below_drewN (Below.refl W4.heap.size W4) nd
 generalize W4.drewN nd = W5 at hb ⊢
 have AT := Aside0.mk (At.below AT.out (hb))
 have SA0 := Aside0.mk (Kd.S_below SA0.out (hb))
 have SA1 := Aside0.mk (Kd.S_below SA1.out (hb))
 have SA2 := Aside0.mk (Kd.S_below SA2.out (hb))
 have HB := Aside0.mk (below_step HB.out (hb))
 clear hb
 have hc5 := AT.out.cell 11 (u := .slice (h 1).a5 0 (h 1).c5) rfl
 go_wp2_with (fail)
 clear hc5
 refine (laws_heldWorkS.calls 40 (h 1).a5 (h 1).c5 [] 23 23 W5 (C_nil _ _ _) (Nat.zero_le _) (by kernel_rfl)).mono ?_
 rintro e wz_ ⟨rfl, ⟨nd, rfl⟩⟩
 have hb := pw_below_drewN (Below.refl W5.heap.size W5) nd
 generalize W5.drewN nd = W6 at hb ⊢
 have AT := Aside0.mk (At.below AT.out (hb))
 have SA0 := Aside0.mk (Kd.S_below SA0.out (hb))
 have SA1 := Aside0.mk (Kd.S_below SA1.out (hb))
 have SA2 := Aside0.mk (Kd.S_below SA2.out (hb))
 have HB := Aside0.mk (below_step HB.out (hb))
 clear hb
 go_wp2_with (fail)
 rw [rounds_succ]
 have hc0 := AT.out.cell 12 (u := .int .i64 23) rfl
 have hc1 := AT.out.cell 13 (u := .bool true) rfl
 have hc2 := AT.out.cell 14 (u := .slice (h 2).a2 0 (h 2).c2) rfl
 go_wp2_with (fail)
 clear hc0 hc1 hc2
 refine (laws_heldRecS.calls 40 (h 2).a2 (h 2).c2 [] 25 25 W6 (C_nil _ _ _) (Nat.zero_le _) (by kernel_rfl)).mono ?_
 rintro e wz_ ⟨rfl, ⟨nd, rfl⟩⟩
 have hb := pw_below_drewN (Below.refl W6.heap.size W6) nd
 generalize W6.drewN nd = W7 at hb ⊢
 have AT := Aside0.mk (At.below AT.out (hb))
 have SA0 := Aside0.mk (Kd.S_below SA0.out (hb))
 have SA1 := Aside0.mk (Kd.S_below SA1.out (hb))
 have SA2 := Aside0.mk (Kd.S_below SA2.out (hb))
 have HB := Aside0.mk (below_step HB.out (hb))
 clear hb
 have hc3 := AT.out.cell 15 (u := .int .i64 25) rfl
 have hc4 := AT.out.cell 16 (u := .slice (h 2).a4 8 (h 2).c4) rfl
 go_wp2_with (fail)
 clear hc3 hc4
 have hh := laws_heldLockS.calls 40 (h 2).a4 (h 2).c4 (lmarks 26 8) 26 34 W7 (lk SA2.out).2.2 (lk SA2.out).2.1 (by kernel_rfl)
 rw [lmarks_length] at hh
 refine hh.mono ?_
 clear hh
 rintro e wz_ ⟨rfl, ⟨nd, rfl⟩⟩
 have hb := pw_below_drewN (Below.refl W7.heap.size W7) nd
 generalize W7.drewN nd = W8 at hb ⊢
 have AT := Aside0.mk (At.below AT.out (hb))
 have SA0 := Aside0.mk (Kd.S_below SA0.out (hb))
 have SA1 := Aside0.mk (Kd.S_below SA1.out (hb))
 have SA2 := Aside0.mk (Kd.S_below SA2.out (hb))
 have HB := Aside0.mk (below_step HB.out (hb))
 clear hb
 have hc5 := AT.out.cell 17 (u := .slice (h 2).a5 0 (h 2).c5) rfl
 go_wp2_with (fail)
 clear hc5
 refine (laws_heldWorkS.calls 40 (h 2).a5 (h 2).c5 [] 34 34 W8 (C_nil _ _ _) (Nat.zero_le _) (by kernel_rfl)).mono ?_
 rintro e wz_ ⟨rfl, ⟨nd, rfl⟩⟩
 have hb := pw_below_drewN (Below.refl W8.heap.size W8) nd
 generalize W8.drewN nd = W9 at hb ⊢
 have AT := Aside0.mk (At.below AT.out (hb))
 have SA0 := Aside0.mk (Kd.S_below SA0.out (hb))
 have SA1 := Aside0.mk (Kd.S_below SA1.out (hb))
 have SA2 := Aside0.mk (Kd.S_below SA2.out (hb))
 have HB := Aside0.mk (below_step HB.out (hb))
 clear hb
 go_wp2_with (fail)
 rw [rounds_succ]
 go_wp2_with (fail)
 go_ret
 exact ⟨rfl, HB.out⟩
end Go.Proofs.Ythahadclegihaaa.PX
