/- The walk of the law FnExactTollStart. -/
import Derived.Test.YthahadclegihaaaTC
import Derived.Test.YthahadclegihaaaTD
import Derived.Test.YthahadclegihaaaTH
import Derived.Deep.Cut
namespace Go.Proofs.Ythahadclegihaaa.PX
open Go.RowKit Go.Proofs.YthahadclegihaaaW.PrintWords Go.Proofs.YthahadclegihaaaW.PrintLast Go.Proofs.YthahadclegihaaaW.PrintMore
attribute [local go_sem] max2_int min2_int max_two min_two max_three min_three max_four min_four
set_option linter.unusedVariables false
set_option linter.unusedSimpArgs false
set_option maxHeartbeats 8000000 in
set_option maxRecDepth 100000 in
theorem toll_walk (w : World) : Calls Try.prog 4 #[] w fun e w' => e = .returned (.bool true) ∧ Below w.heap.size w w' := by
 have hu40 := Try.underlying40
 have HB := Aside0.mk (Below.refl w.heap.size w)
 go_enter Try.func4, Try.ntmps4
 go_wp2_with (fail)
 refine (toll11 w).mono ?_
 rintro e W1 ⟨A, c, h, I, rfl, hs, hb⟩
 have HB := Aside0.mk (below_step HB.out (hb))
 clear hb
 have H0 := Aside0.mk hs
 clear hs
 have hb := below_alloc (Below.refl W1.heap.size W1) (.cells #[.int .i64 0, .bool true, .int .i64 1, .int .i64 1, .slice none 0 0, .slice none 0 0, .slice none 0 0, .slice A 3 c, .slice none 0 0, .slice none 0 0] 40 (0, 0))
 have H0 := Aside0.mk (HS.below H0.out (hb))
 have HB := Aside0.mk (below_step HB.out (hb))
 clear hb
 have P1 := Aside0.mk (blk_new W1 (.cells #[.int .i64 0, .bool true, .int .i64 1, .int .i64 1, .slice none 0 0, .slice none 0 0, .slice none 0 0, .slice A 3 c, .slice none 0 0, .slice none 0 0] 40 (0, 0)))
 go_wp2_with (fail)
 generalize W1.alloc (.cells #[.int .i64 0, .bool true, .int .i64 1, .int .i64 1, .slice none 0 0, .slice none 0 0, .slice none 0 0, .slice A 3 c, .slice none 0 0, .slice none 0 0] 40 (0, 0)) = W2 at P1 H0 HB ⊢
 obtain ⟨b1, hq_⟩ : ∃ b1, b1 = W1.heap.size := ⟨_, rfl⟩
 rw [← hq_] at P1 ⊢
 clear hq_
 have Q1 := P1
 have Q0 := H0
 have QB := HB
 have B2 := Aside0.mk (Below.refl W2.heap.size W2)
 refine (toll12 W2).mono ?_
 rintro e W3 ⟨B, d, y, J, rfl, hs, hb⟩
 have P1 := kb P1 (hb)
 have H0 := Aside0.mk (HS.below H0.out (hb))
 have B2 := Aside0.mk (below_step B2.out (hb))
 have HB := Aside0.mk (below_step HB.out (hb))
 clear hb
 have H1 := Aside0.mk hs
 clear hs
 have hb := below_alloc (Below.refl W3.heap.size W3) (.cells #[.int .i64 0, .bool true, .int .i64 1, .int .i64 1, .slice none 0 0, .slice none 0 0, .slice none 0 0, .slice B 3 d, .slice none 0 0, .slice none 0 0] 40 (0, 0))
 have P1 := kb P1 (hb)
 have H0 := Aside0.mk (HS.below H0.out (hb))
 have B2 := Aside0.mk (below_step B2.out (hb))
 have H1 := Aside0.mk (HS.below H1.out (hb))
 have HB := Aside0.mk (below_step HB.out (hb))
 clear hb
 have P2 := Aside0.mk (blk_new W3 (.cells #[.int .i64 0, .bool true, .int .i64 1, .int .i64 1, .slice none 0 0, .slice none 0 0, .slice none 0 0, .slice B 3 d, .slice none 0 0, .slice none 0 0] 40 (0, 0)))
 go_wp2_with (first | ((with_reducible refine gate_dst (N := 8) rfl ?_); refine wpList_load_row rfl 40 (.tmp 2) rfl W3.heap.size rfl 40 #[.int .i64 0, .bool true, .int .i64 1, .int .i64 1, .slice none 0 0, .slice none 0 0, .slice none 0 0, .slice B 3 d, .slice none 0 0, .slice none 0 0] (0, 0) _ P2.out hu40 rfl (by kernel_rfl) ?_) | ((with_reducible refine gate_dst (N := 9) rfl ?_); refine wpList_load_row rfl 40 (.tmp 1) rfl b1 rfl 40 #[.int .i64 0, .bool true, .int .i64 1, .int .i64 1, .slice none 0 0, .slice none 0 0, .slice none 0 0, .slice A 3 c, .slice none 0 0, .slice none 0 0] (0, 0) _ P1.out hu40 rfl (by kernel_rfl) ?_))
 generalize W3.alloc (.cells #[.int .i64 0, .bool true, .int .i64 1, .int .i64 1, .slice none 0 0, .slice none 0 0, .slice none 0 0, .slice B 3 d, .slice none 0 0, .slice none 0 0] 40 (0, 0)) = W4 at P1 P2 H0 B2 H1 HB ⊢
 obtain ⟨b2, hq_⟩ : ∃ b2, b2 = W3.heap.size := ⟨_, rfl⟩
 rw [← hq_] at P2 ⊢
 clear hq_
 refine (eqTollWorld_ _ _ B d y J A c h I W4 H1.out H0.out).mono ?_
 rintro e W5 ⟨rfl, hb⟩
 have P1 := kb P1 (hb)
 have P2 := kb P2 (hb)
 have H0 := Aside0.mk (HS.below H0.out (hb))
 have B2 := Aside0.mk (below_step B2.out (hb))
 have H1 := Aside0.mk (HS.below H1.out (hb))
 have HB := Aside0.mk (below_step HB.out (hb))
 clear hb
 go_wp2_with (((with_reducible refine gate_dst (N := 12) rfl ?_); refine wpList_load_row rfl 40 (.tmp 2) rfl b2 rfl 40 #[.int .i64 0, .bool true, .int .i64 1, .int .i64 1, .slice none 0 0, .slice none 0 0, .slice none 0 0, .slice B 3 d, .slice none 0 0, .slice none 0 0] (0, 0) _ P2.out hu40 rfl (by kernel_rfl) ?_))
 refine (markTollWorld_ W2 B d y J W5 H1.out B2.out).mono ?_
 rintro e W6 ⟨rfl, hb, hk, g, rfl, a1, s0, s1, s2⟩
 have P1 := kb Q1 hb
 have P2 := Aside0.mk (hk.2 _ _ _ P2.out)
 have H0 := Aside0.mk (HS.below Q0.out hb)
 have HB := Aside0.mk (below_step QB.out hb)
 have AT := Aside0.mk a1
 have SA0 := Aside0.mk s0
 have SA1 := Aside0.mk s1
 have SA2 := Aside0.mk s2
 clear hb hk a1 s0 s1 s2 H1 B2 Q1 Q0 QB
 go_wp2_with (((with_reducible refine gate_dst (N := 15) rfl ?_); refine wpList_load_row rfl 40 (.tmp 2) rfl b2 rfl 40 #[.int .i64 0, .bool true, .int .i64 1, .int .i64 1, .slice none 0 0, .slice none 0 0, .slice none 0 0, .slice (some ⟨g, 0, none⟩) 3 d, .slice none 0 0, .slice none 0 0] (0, 0) _ P2.out hu40 rfl (by kernel_rfl) ?_))
 refine (heldTollWorld_ g d _ y J W6 AT.out SA0.out SA1.out SA2.out).mono ?_
 rintro e W7 ⟨rfl, hb⟩
 have P1 := kb P1 (hb)
 have P2 := kb P2 (hb)
 have H0 := Aside0.mk (HS.below H0.out (hb))
 have AT := Aside0.mk (At.below AT.out (hb))
 have SA0 := Aside0.mk (Kd.S_below SA0.out (hb))
 have SA1 := Aside0.mk (Kd.S_below SA1.out (hb))
 have SA2 := Aside0.mk (Kd.S_below SA2.out (hb))
 have HB := Aside0.mk (below_step HB.out (hb))
 clear hb
 go_wp2_with (fail)
 refine (toll12 W7).mono ?_
 rintro e W8 ⟨D, f, z, L, rfl, hs, hb⟩
 have P1 := kb P1 (hb)
 have P2 := kb P2 (hb)
 have H0 := Aside0.mk (HS.below H0.out (hb))
 have AT := Aside0.mk (At.below AT.out (hb))
 have SA0 := Aside0.mk (Kd.S_below SA0.out (hb))
 have SA1 := Aside0.mk (Kd.S_below SA1.out (hb))
 have SA2 := Aside0.mk (Kd.S_below SA2.out (hb))
 have HB := Aside0.mk (below_step HB.out (hb))
 clear hb
 have H1 := Aside0.mk hs
 clear hs
 have hb := below_alloc (Below.refl W8.heap.size W8) (.cells #[.int .i64 0, .bool true, .int .i64 1, .int .i64 1, .slice none 0 0, .slice none 0 0, .slice none 0 0, .slice D 3 f, .slice none 0 0, .slice none 0 0] 40 (0, 0))
 have P1 := kb P1 (hb)
 have P2 := kb P2 (hb)
 have H0 := Aside0.mk (HS.below H0.out (hb))
 have AT := Aside0.mk (At.below AT.out (hb))
 have SA0 := Aside0.mk (Kd.S_below SA0.out (hb))
 have SA1 := Aside0.mk (Kd.S_below SA1.out (hb))
 have SA2 := Aside0.mk (Kd.S_below SA2.out (hb))
 have H1 := Aside0.mk (HS.below H1.out (hb))
 have HB := Aside0.mk (below_step HB.out (hb))
 clear hb
 have P3 := Aside0.mk (blk_new W8 (.cells #[.int .i64 0, .bool true, .int .i64 1, .int .i64 1, .slice none 0 0, .slice none 0 0, .slice none 0 0, .slice D 3 f, .slice none 0 0, .slice none 0 0] 40 (0, 0)))
 go_wp2_with (first | ((with_reducible refine gate_dst (N := 24) rfl ?_); refine wpList_load_row rfl 40 (.tmp 5) rfl W8.heap.size rfl 40 #[.int .i64 0, .bool true, .int .i64 1, .int .i64 1, .slice none 0 0, .slice none 0 0, .slice none 0 0, .slice D 3 f, .slice none 0 0, .slice none 0 0] (0, 0) _ P3.out hu40 rfl (by kernel_rfl) ?_) | ((with_reducible refine gate_dst (N := 25) rfl ?_); refine wpList_load_row rfl 40 (.tmp 1) rfl b1 rfl 40 #[.int .i64 0, .bool true, .int .i64 1, .int .i64 1, .slice none 0 0, .slice none 0 0, .slice none 0 0, .slice A 3 c, .slice none 0 0, .slice none 0 0] (0, 0) _ P1.out hu40 rfl (by kernel_rfl) ?_))
 generalize W8.alloc (.cells #[.int .i64 0, .bool true, .int .i64 1, .int .i64 1, .slice none 0 0, .slice none 0 0, .slice none 0 0, .slice D 3 f, .slice none 0 0, .slice none 0 0] 40 (0, 0)) = W9 at P1 P2 P3 H0 AT SA0 SA1 SA2 H1 HB ⊢
 obtain ⟨b3, hq_⟩ : ∃ b3, b3 = W8.heap.size := ⟨_, rfl⟩
 rw [← hq_] at P3 ⊢
 clear hq_
 refine (eqTollWorld_ _ _ D f z L A c h I W9 H1.out H0.out).mono ?_
 rintro e W10 ⟨rfl, hb⟩
 have P1 := kb P1 (hb)
 have P2 := kb P2 (hb)
 have P3 := kb P3 (hb)
 have H0 := Aside0.mk (HS.below H0.out (hb))
 have AT := Aside0.mk (At.below AT.out (hb))
 have SA0 := Aside0.mk (Kd.S_below SA0.out (hb))
 have SA1 := Aside0.mk (Kd.S_below SA1.out (hb))
 have SA2 := Aside0.mk (Kd.S_below SA2.out (hb))
 have H1 := Aside0.mk (HS.below H1.out (hb))
 have HB := Aside0.mk (below_step HB.out (hb))
 clear hb
 go_wp2_with (((with_reducible refine gate_dst (N := 28) rfl ?_); refine wpList_load_row rfl 40 (.tmp 2) rfl b2 rfl 40 #[.int .i64 0, .bool true, .int .i64 1, .int .i64 1, .slice none 0 0, .slice none 0 0, .slice none 0 0, .slice (some ⟨g, 0, none⟩) 3 d, .slice none 0 0, .slice none 0 0] (0, 0) _ P2.out hu40 rfl (by kernel_rfl) ?_))
 refine (heldTollWorld_ g d _ y J W10 AT.out SA0.out SA1.out SA2.out).mono ?_
 rintro e W11 ⟨rfl, hb⟩
 have P1 := kb P1 (hb)
 have P2 := kb P2 (hb)
 have P3 := kb P3 (hb)
 have H0 := Aside0.mk (HS.below H0.out (hb))
 have AT := Aside0.mk (At.below AT.out (hb))
 have SA0 := Aside0.mk (Kd.S_below SA0.out (hb))
 have SA1 := Aside0.mk (Kd.S_below SA1.out (hb))
 have SA2 := Aside0.mk (Kd.S_below SA2.out (hb))
 have H1 := Aside0.mk (HS.below H1.out (hb))
 have HB := Aside0.mk (below_step HB.out (hb))
 clear hb
 go_wp2_with (fail)
 go_ret
 exact ⟨rfl, HB.out⟩
end Go.Proofs.Ythahadclegihaaa.PX
