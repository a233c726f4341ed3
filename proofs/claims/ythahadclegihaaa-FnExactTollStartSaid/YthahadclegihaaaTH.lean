/- A world at first is compared, marked and held. -/
import Derived.Test.YthahadclegihaaaTA
import Derived.Test.YthahadclegihaaaTE
import Derived.Test.YthahadclegihaaaTF
import Derived.Test.YthahadclegihaaaTG
import Derived.Deep.Cut
namespace Go.Proofs.Ythahadclegihaaa.PX
open Go.RowKit Go.Proofs.YthahadclegihaaaW.PrintWords Go.Proofs.YthahadclegihaaaW.PrintLast Go.Proofs.YthahadclegihaaaW.PrintMore
attribute [local go_sem] max2_int min2_int max_two min_two max_three min_three max_four min_four
set_option linter.unusedVariables false
set_option linter.unusedSimpArgs false
set_option maxHeartbeats 8000000 in
set_option maxRecDepth 100000 in
theorem eqTollWorld_ (base1 base2 : Nat) (A : Option Addr) (c : Nat) (h : Nat → HV) (I : Nat → Nat → Prop) (B : Option Addr) (d : Nat) (y : Nat → HV) (J : Nat → Nat → Prop) (w : World) (ha : HS base1 w 3 (.slice A 3 c) h I) (hb : HS base2 w 3 (.slice B 3 d) y J) : Calls Try.prog 13 #[.agg #[.int .i64 0, .bool true, .int .i64 1, .int .i64 1, .slice none 0 0, .slice none 0 0, .slice none 0 0, .slice A 3 c, .slice none 0 0, .slice none 0 0], .agg #[.int .i64 0, .bool true, .int .i64 1, .int .i64 1, .slice none 0 0, .slice none 0 0, .slice none 0 0, .slice B 3 d, .slice none 0 0, .slice none 0 0]] w fun e w' => e = .returned (.bool true) ∧ Below w.heap.size w w' := by
 have hu40 := Try.underlying40
 have hu35 := Try.underlying35
 have H1 := Aside0.mk ha
 have H2 := Aside0.mk hb
 clear ha hb
 have HB := Aside0.mk (Below.refl w.heap.size w)
 have hb := below_alloc (Below.refl w.heap.size w) (.cells #[.int .i64 0, .bool true, .int .i64 1, .int .i64 1, .slice none 0 0, .slice none 0 0, .slice none 0 0, .slice A 3 c, .slice none 0 0, .slice none 0 0] 40 (0, 0))
 have H1 := Aside0.mk (HS.below H1.out (hb))
 have H2 := Aside0.mk (HS.below H2.out (hb))
 have HB := Aside0.mk (below_step HB.out (hb))
 clear hb
 have P1 := Aside0.mk (blk_new w (.cells #[.int .i64 0, .bool true, .int .i64 1, .int .i64 1, .slice none 0 0, .slice none 0 0, .slice none 0 0, .slice A 3 c, .slice none 0 0, .slice none 0 0] 40 (0, 0)))
 have hb := below_alloc (Below.refl (w.alloc (.cells #[.int .i64 0, .bool true, .int .i64 1, .int .i64 1, .slice none 0 0, .slice none 0 0, .slice none 0 0, .slice A 3 c, .slice none 0 0, .slice none 0 0] 40 (0, 0))).heap.size (w.alloc (.cells #[.int .i64 0, .bool true, .int .i64 1, .int .i64 1, .slice none 0 0, .slice none 0 0, .slice none 0 0, .slice A 3 c, .slice none 0 0, .slice none 0 0] 40 (0, 0)))) (.cells #[.int .i64 0, .bool true, .int .i64 1, .int .i64 1, .slice none 0 0, .slice none 0 0, .slice none 0 0, .slice B 3 d, .slice none 0 0, .slice none 0 0] 40 (0, 0))
 have P1 := kb P1 (hb)
 have H1 := Aside0.mk (HS.below H1.out (hb))
 have H2 := Aside0.mk (HS.below H2.out (hb))
 have HB := Aside0.mk (below_step HB.out (hb))
 clear hb
 have P2 := Aside0.mk (blk_new (w.alloc (.cells #[.int .i64 0, .bool true, .int .i64 1, .int .i64 1, .slice none 0 0, .slice none 0 0, .slice none 0 0, .slice A 3 c, .slice none 0 0, .slice none 0 0] 40 (0, 0))) (.cells #[.int .i64 0, .bool true, .int .i64 1, .int .i64 1, .slice none 0 0, .slice none 0 0, .slice none 0 0, .slice B 3 d, .slice none 0 0, .slice none 0 0] 40 (0, 0)))
 go_enter Try.func13, Try.ntmps13
 go_upto_region 1 with (fail)
 have hz_ : (w.alloc (.cells #[.int .i64 0, .bool true, .int .i64 1, .int .i64 1, .slice none 0 0, .slice none 0 0, .slice none 0 0, .slice A 3 c, .slice none 0 0, .slice none 0 0] 40 (0, 0))).heap.size = w.heap.size + 1 := by simp
 rw [hz_] at P2
 clear hz_
 generalize (w.alloc (.cells #[.int .i64 0, .bool true, .int .i64 1, .int .i64 1, .slice none 0 0, .slice none 0 0, .slice none 0 0, .slice A 3 c, .slice none 0 0, .slice none 0 0] 40 (0, 0))).alloc (.cells #[.int .i64 0, .bool true, .int .i64 1, .int .i64 1, .slice none 0 0, .slice none 0 0, .slice none 0 0, .slice B 3 d, .slice none 0 0, .slice none 0 0] 40 (0, 0)) = W1 at P1 P2 H1 H2 HB ⊢
 have hc0 := (blk_cell P1.out 0).trans (show _ = some (.int .i64 0) from rfl)
 have hc1 := (blk_cell P1.out 1).trans (show _ = some (.bool true) from rfl)
 have hc2 := (blk_cell P1.out 2).trans (show _ = some (.int .i64 1) from rfl)
 have hc3 := (blk_cell P1.out 3).trans (show _ = some (.int .i64 1) from rfl)
 have hc4 := (blk_cell P1.out 4).trans (show _ = some (.slice none 0 0) from rfl)
 have hc5 := (blk_cell P1.out 5).trans (show _ = some (.slice none 0 0) from rfl)
 have hc6 := (blk_cell P1.out 6).trans (show _ = some (.slice none 0 0) from rfl)
 have hd0 := (blk_cell P2.out 0).trans (show _ = some (.int .i64 0) from rfl)
 have hd1 := (blk_cell P2.out 1).trans (show _ = some (.bool true) from rfl)
 have hd2 := (blk_cell P2.out 2).trans (show _ = some (.int .i64 1) from rfl)
 have hd3 := (blk_cell P2.out 3).trans (show _ = some (.int .i64 1) from rfl)
 have hd4 := (blk_cell P2.out 4).trans (show _ = some (.slice none 0 0) from rfl)
 have hd5 := (blk_cell P2.out 5).trans (show _ = some (.slice none 0 0) from rfl)
 have hd6 := (blk_cell P2.out 6).trans (show _ = some (.slice none 0 0) from rfl)
 go_wp2_with (fail)
 clear hc0 hc1 hc2 hc3 hc4 hc5 hc6 hd0 hd1 hd2 hd3 hd4 hd5 hd6
 refine (eqGate0 W1).mono ?_
 rintro e W2 ⟨rfl, hb⟩
 have P1 := kb P1 (hb)
 have P2 := kb P2 (hb)
 have H1 := Aside0.mk (HS.below H1.out (hb))
 have H2 := Aside0.mk (HS.below H2.out (hb))
 have HB := Aside0.mk (below_step HB.out (hb))
 clear hb
 have hc7 := (blk_cell P1.out 7).trans (show _ = some (.slice A 3 c) from rfl)
 have hd7 := (blk_cell P2.out 7).trans (show _ = some (.slice B 3 d) from rfl)
 go_wp2_with (fail)
 clear hc7 hd7
 refine (eqHouseS_ base1 base2 A c h I B d y J W2 H1.out H2.out).mono ?_
 rintro e W3 ⟨rfl, hb⟩
 have P1 := kb P1 (hb)
 have P2 := kb P2 (hb)
 have H1 := Aside0.mk (HS.below H1.out (hb))
 have H2 := Aside0.mk (HS.below H2.out (hb))
 have HB := Aside0.mk (below_step HB.out (hb))
 clear hb
 have hc8 := (blk_cell P1.out 8).trans (show _ = some (.slice none 0 0) from rfl)
 have hd8 := (blk_cell P2.out 8).trans (show _ = some (.slice none 0 0) from rfl)
 go_wp2_with (fail)
 clear hc8 hd8
 refine (nil35 W3).mono ?_
 rintro e wz_ ⟨rfl, ⟨nd, rfl⟩⟩
 have hb := pw_below_drewN (Below.refl W3.heap.size W3) nd
 generalize W3.drewN nd = W4 at hb ⊢
 have P1 := kb P1 (hb)
 have P2 := kb P2 (hb)
 have H1 := Aside0.mk (HS.below H1.out (hb))
 have H2 := Aside0.mk (HS.below H2.out (hb))
 have HB := Aside0.mk (below_step HB.out (hb))
 clear hb
 have hc9 := (blk_cell P1.out 9).trans (show _ = some (.slice none 0 0) from rfl)
 have hd9 := (blk_cell P2.out 9).trans (show _ = some (.slice none 0 0) from rfl)
 go_wp2_with (fail)
 clear hc9 hd9
 refine (nil36 W4).mono ?_
 rintro e wz_ ⟨rfl, ⟨nd, rfl⟩⟩
 have hb := pw_below_drewN (Below.refl W4.heap.size W4) nd
 generalize W4.drewN nd = W5 at hb ⊢
 have P1 := kb P1 (hb)
 have P2 := kb P2 (hb)
 have H1 := Aside0.mk (HS.below H1.out (hb))
 have H2 := Aside0.mk (HS.below H2.out (hb))
 have HB := Aside0.mk (below_step HB.out (hb))
 clear hb
 go_wp2_with (fail)
 go_ret
 exact ⟨rfl, HB.out⟩
set_option maxHeartbeats 8000000 in
set_option maxRecDepth 100000 in
theorem markTollWorld_ (w0 : World) (A : Option Addr) (c : Nat) (h : Nat → HV) (I : Nat → Nat → Prop) (w : World) (ha : HS w0.heap.size w 3 (.slice A 3 c) h I) (hB : Below w0.heap.size w0 w) : Calls Try.prog 14 #[.agg #[.int .i64 0, .bool true, .int .i64 1, .int .i64 1, .slice none 0 0, .slice none 0 0, .slice none 0 0, .slice A 3 c, .slice none 0 0, .slice none 0 0], .int .i64 1] w fun e w' => e = .returned (.int .i64 34) ∧ Below w0.heap.size w0 w' ∧ K40 w w' ∧ ∃ g, A = some ⟨g, 0, none⟩ ∧ At w' g (mcells h) ∧ Kd.S k70 70 w' w0.heap.size (I 0) (.slice (h 0).a4 8 (h 0).c4) (lmarks 4 8) ∧ Kd.S k70 70 w' w0.heap.size (I 1) (.slice (h 1).a4 8 (h 1).c4) (lmarks 15 8) ∧ Kd.S k70 70 w' w0.heap.size (I 2) (.slice (h 2).a4 8 (h 2).c4) (lmarks 26 8) := by
 have hu40 := Try.underlying40
 have hu35 := Try.underlying35
 have H1 := Aside0.mk ha
 have KQ := Aside0.mk (K40.refl w)
 have HB := Aside0.mk hB
 clear ha hB
 have hb := below_alloc (Below.refl w.heap.size w) (.cells #[.int .i64 0, .bool true, .int .i64 1, .int .i64 1, .slice none 0 0, .slice none 0 0, .slice none 0 0, .slice A 3 c, .slice none 0 0, .slice none 0 0] 40 (0, 0))
 have H1 := Aside0.mk (HS.below H1.out (hb))
 have KQ := Aside0.mk (K40.below KQ.out (hb))
 have HB := Aside0.mk (below_step HB.out (hb))
 clear hb
 have P1 := Aside0.mk (blk_new w (.cells #[.int .i64 0, .bool true, .int .i64 1, .int .i64 1, .slice none 0 0, .slice none 0 0, .slice none 0 0, .slice A 3 c, .slice none 0 0, .slice none 0 0] 40 (0, 0)))
 go_enter Try.func14, Try.ntmps14
 go_upto_region 1 with (fail)
 generalize w.alloc (.cells #[.int .i64 0, .bool true, .int .i64 1, .int .i64 1, .slice none 0 0, .slice none 0 0, .slice none 0 0, .slice A 3 c, .slice none 0 0, .slice none 0 0] 40 (0, 0)) = W1 at P1 H1 KQ HB ⊢
 obtain ⟨b1, hq_⟩ : ∃ b1, b1 = w.heap.size := ⟨_, rfl⟩
 rw [← hq_] at P1 ⊢
 clear hq_
 have hc1 := (blk_cell P1.out 1).trans (show _ = some (.bool true) from rfl)
 have hc2 := (blk_cell P1.out 2).trans (show _ = some (.int .i64 1) from rfl)
 have hc3 := (blk_cell P1.out 3).trans (show _ = some (.int .i64 1) from rfl)
 have hc4 := (blk_cell P1.out 4).trans (show _ = some (.slice none 0 0) from rfl)
 have hc5 := (blk_cell P1.out 5).trans (show _ = some (.slice none 0 0) from rfl)
 have hc6 := (blk_cell P1.out 6).trans (show _ = some (.slice none 0 0) from rfl)
 go_wp2_with (fail)
 clear hc1 hc2 hc3 hc4 hc5 hc6
 refine (markGate0 W1).mono ?_
 rintro e W2 ⟨rfl, hb⟩
 have P1 := kb P1 (hb)
 have H1 := Aside0.mk (HS.below H1.out (hb))
 have KQ := Aside0.mk (K40.below KQ.out (hb))
 have HB := Aside0.mk (below_step HB.out (hb))
 clear hb
 have hc7 := (blk_cell P1.out 7).trans (show _ = some (.slice A 3 c) from rfl)
 go_wp2_with (fail)
 clear hc7
 refine (markHouseS_ w0 A c h I W2 H1.out HB.out).mono ?_
 rintro e W3 ⟨rfl, hb, hk, g, rfl, a1, s0, s1, s2⟩
 have P1 := Aside0.mk (hk.2 _ _ _ P1.out)
 have KQ := Aside0.mk (show K40 w W3 from ⟨Nat.le_trans KQ.out.1 hk.1, fun b cs fr hc => hk.2 b cs fr (KQ.out.2 b cs fr hc)⟩)
 have AT := Aside0.mk a1
 have SA0 := Aside0.mk s0
 have SA1 := Aside0.mk s1
 have SA2 := Aside0.mk s2
 have HB := Aside0.mk hb
 clear hb hk a1 s0 s1 s2 H1
 have hc8 := (blk_cell P1.out 8).trans (show _ = some (.slice none 0 0) from rfl)
 go_wp2_with (fail)
 clear hc8
 refine (nil38 34 W3).mono ?_
 rintro e wz_ ⟨rfl, ⟨nd, rfl⟩⟩
 have hb := pw_below_drewN (Below.refl W3.heap.size W3) nd
 generalize W3.drewN nd = W4 at hb ⊢
 have P1 := kb P1 (hb)
 have KQ := Aside0.mk (K40.below KQ.out (hb))
 have AT := Aside0.mk (At.below AT.out (hb))
 have SA0 := Aside0.mk (Kd.S_below SA0.out (hb))
 have SA1 := Aside0.mk (Kd.S_below SA1.out (hb))
 have SA2 := Aside0.mk (Kd.S_below SA2.out (hb))
 have HB := Aside0.mk (below_step HB.out (hb))
 clear hb
 have hc9 := (blk_cell P1.out 9).trans (show _ = some (.slice none 0 0) from rfl)
 go_wp2_with (fail)
 clear hc9
 refine (nil39 34 W4).mono ?_
 rintro e wz_ ⟨rfl, ⟨nd, rfl⟩⟩
 have hb := pw_below_drewN (Below.refl W4.heap.size W4) nd
 generalize W4.drewN nd = W5 at hb ⊢
 have P1 := kb P1 (hb)
 have KQ := Aside0.mk (K40.below KQ.out (hb))
 have AT := Aside0.mk (At.below AT.out (hb))
 have SA0 := Aside0.mk (Kd.S_below SA0.out (hb))
 have SA1 := Aside0.mk (Kd.S_below SA1.out (hb))
 have SA2 := Aside0.mk (Kd.S_below SA2.out (hb))
 have HB := Aside0.mk (below_step HB.out (hb))
 clear hb
 go_wp2_with (fail)
 go_ret
 exact ⟨rfl, HB.out, KQ.out, g, rfl, AT.out, SA0.out, SA1.out, SA2.out⟩
set_option maxHeartbeats 8000000 in
set_option maxRecDepth 100000 in
theorem heldTollWorld_ (g : Nat) (c base : Nat) (h : Nat → HV) (I : Nat → Nat → Prop) (w : World) (a1 : At w g (mcells h)) (s0 : Kd.S k70 70 w base (I 0) (.slice (h 0).a4 8 (h 0).c4) (lmarks 4 8)) (s1 : Kd.S k70 70 w base (I 1) (.slice (h 1).a4 8 (h 1).c4) (lmarks 15 8)) (s2 : Kd.S k70 70 w base (I 2) (.slice (h 2).a4 8 (h 2).c4) (lmarks 26 8)) : Calls Try.prog 15 #[.agg #[.int .i64 0, .bool true, .int .i64 1, .int .i64 1, .slice none 0 0, .slice none 0 0, .slice none 0 0, .slice (some ⟨g, 0, none⟩) 3 c, .slice none 0 0, .slice none 0 0], .int .i64 1] w fun e w' => e = .returned (.int .i64 34) ∧ Below w.heap.size w w' := by
 have hu40 := Try.underlying40
 have hu35 := Try.underlying35
 have AT := Aside0.mk a1
 have SA0 := Aside0.mk s0
 have SA1 := Aside0.mk s1
 have SA2 := Aside0.mk s2
 clear a1 s0 s1 s2
 have HB := Aside0.mk (Below.refl w.heap.size w)
 have hb := below_alloc (Below.refl w.heap.size w) (.cells #[.int .i64 0, .bool true, .int .i64 1, .int .i64 1, .slice none 0 0, .slice none 0 0, .slice none 0 0, .slice (some ⟨g, 0, none⟩) 3 c, .slice none 0 0, .slice none 0 0] 40 (0, 0))
 have AT := Aside0.mk (At.below AT.out (hb))
 have SA0 := Aside0.mk (Kd.S_below SA0.out (hb))
 have SA1 := Aside0.mk (Kd.S_below SA1.out (hb))
 have SA2 := Aside0.mk (Kd.S_below SA2.out (hb))
 have HB := Aside0.mk (below_step HB.out (hb))
 clear hb
 have P1 := Aside0.mk (blk_new w (.cells #[.int .i64 0, .bool true, .int .i64 1, .int .i64 1, .slice none 0 0, .slice none 0 0, .slice none 0 0, .slice (some ⟨g, 0, none⟩) 3 c, .slice none 0 0, .slice none 0 0] 40 (0, 0)))
 go_enter Try.func15, Try.ntmps15
 go_upto_region 1 with (fail)
 generalize w.alloc (.cells #[.int .i64 0, .bool true, .int .i64 1, .int .i64 1, .slice none 0 0, .slice none 0 0, .slice none 0 0, .slice (some ⟨g, 0, none⟩) 3 c, .slice none 0 0, .slice none 0 0] 40 (0, 0)) = W1 at P1 AT SA0 SA1 SA2 HB ⊢
 obtain ⟨b1, hq_⟩ : ∃ b1, b1 = w.heap.size := ⟨_, rfl⟩
 rw [← hq_] at P1 ⊢
 clear hq_
 have hc1 := (blk_cell P1.out 1).trans (show _ = some (.bool true) from rfl)
 have hc2 := (blk_cell P1.out 2).trans (show _ = some (.int .i64 1) from rfl)
 have hc3 := (blk_cell P1.out 3).trans (show _ = some (.int .i64 1) from rfl)
 have hc4 := (blk_cell P1.out 4).trans (show _ = some (.slice none 0 0) from rfl)
 have hc5 := (blk_cell P1.out 5).trans (show _ = some (.slice none 0 0) from rfl)
 have hc6 := (blk_cell P1.out 6).trans (show _ = some (.slice none 0 0) from rfl)
 go_wp2_with (fail)
 clear hc1 hc2 hc3 hc4 hc5 hc6
 refine (heldGate0 W1).mono ?_
 rintro e W2 ⟨rfl, hb⟩
 have P1 := kb P1 (hb)
 have AT := Aside0.mk (At.below AT.out (hb))
 have SA0 := Aside0.mk (Kd.S_below SA0.out (hb))
 have SA1 := Aside0.mk (Kd.S_below SA1.out (hb))
 have SA2 := Aside0.mk (Kd.S_below SA2.out (hb))
 have HB := Aside0.mk (below_step HB.out (hb))
 clear hb
 have hc7 := (blk_cell P1.out 7).trans (show _ = some (.slice (some ⟨g, 0, none⟩) 3 c) from rfl)
 go_wp2_with (fail)
 clear hc7
 refine (heldHouseS_ g c base h I W2 AT.out SA0.out SA1.out SA2.out).mono ?_
 rintro e W3 ⟨rfl, hb⟩
 have P1 := kb P1 (hb)
 have AT := Aside0.mk (At.below AT.out (hb))
 have SA0 := Aside0.mk (Kd.S_below SA0.out (hb))
 have SA1 := Aside0.mk (Kd.S_below SA1.out (hb))
 have SA2 := Aside0.mk (Kd.S_below SA2.out (hb))
 have HB := Aside0.mk (below_step HB.out (hb))
 clear hb
 have hc8 := (blk_cell P1.out 8).trans (show _ = some (.slice none 0 0) from rfl)
 go_wp2_with (fail)
 clear hc8
 refine (nil41 34 W3).mono ?_
 rintro e wz_ ⟨rfl, ⟨nd, rfl⟩⟩
 have hb := pw_below_drewN (Below.refl W3.heap.size W3) nd
 generalize W3.drewN nd = W4 at hb ⊢
 have P1 := kb P1 (hb)
 have AT := Aside0.mk (At.below AT.out (hb))
 have SA0 := Aside0.mk (Kd.S_below SA0.out (hb))
 have SA1 := Aside0.mk (Kd.S_below SA1.out (hb))
 have SA2 := Aside0.mk (Kd.S_below SA2.out (hb))
 have HB := Aside0.mk (below_step HB.out (hb))
 clear hb
 have hc9 := (blk_cell P1.out 9).trans (show _ = some (.slice none 0 0) from rfl)
 go_wp2_with (fail)
 clear hc9
 refine (nil42 34 W4).mono ?_
 rintro e wz_ ⟨rfl, ⟨nd, rfl⟩⟩
 have hb := pw_below_drewN (Below.refl W4.heap.size W4) nd
 generalize W4.drewN nd = W5 at hb ⊢
 have P1 := kb P1 (hb)
 have AT := Aside0.mk (At.below AT.out (hb))
 have SA0 := Aside0.mk (Kd.S_below SA0.out (hb))
 have SA1 := Aside0.mk (Kd.S_below SA1.out (hb))
 have SA2 := Aside0.mk (Kd.S_below SA2.out (hb))
 have HB := Aside0.mk (below_step HB.out (hb))
 clear hb
 go_wp2_with (fail)
 go_ret
 exact ⟨rfl, HB.out⟩
end Go.Proofs.Ythahadclegihaaa.PX
