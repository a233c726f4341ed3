/- The law FnLockWait, walked by hand: who waits does not hold, and who holds does not wait; for every code that draws a lock and who asks, no other condition. -/
import Derived.Test.YtjldpnhlegbjkaaD3
import Derived.Test.YtjldpnhlegbjkaaFreeQ
import Derived.Deep.Cut
namespace Go.Proofs.Ytjldpnhlegbjkaa.PA
open Go.RowKit Go.Proofs.YtjldpnhlegbjkaaW.PrintWords Go.Proofs.YtjldpnhlegbjkaaW.PrintLast Go.Proofs.YtjldpnhlegbjkaaW.PrintMore Go.Proofs.Ytjldpnhlegbjkaa.PB
attribute [local go_sem] max2_int min2_int max_two min_two max_three min_three max_four min_four
set_option linter.unusedVariables false
set_option linter.unusedSimpArgs false
set_option maxHeartbeats 8000000 in
set_option maxRecDepth 100000 in
theorem FnLockWait_main (A0 : Option Addr) (c0 : Nat) (l0 : List Int) (w : World) (hr0 : Kd.C (Kd.int .u8) w A0 l0.length l0) (hc0 : l0.length ≤ c0) (hw : ∀ x ∈ l0, (Lit.int .u8 x).wf = true) :
 Calls Try.prog 13 #[.slice A0 l0.length c0] w fun e w' => e = .returned (.bool true) ∧ Below w.heap.size w w' := by
 have hu29 := Try.underlying29
 have hu45 := Try.underlying45
 have HR0 := Aside0.mk hr0
 have HC0 := Aside0.mk hc0
 have HW := Aside0.mk hw
 have HB := Aside0.mk (Below.refl w.heap.size w)
 clear hr0 hc0 hw
 by_cases hz : 1048576 < l0.length
 ·have hzd : decide (1048576 < (l0.length : Int)) = true := decide_eq_true (by omega)
  go_enter Try.func13, Try.ntmps13
  go_wp2_with (fail)
  go_ret
  exact ⟨rfl, HB.out⟩
 ·have hzd : decide (1048576 < (l0.length : Int)) = false := decide_eq_false (by omega)
  clear hz
  go_enter Try.func13, Try.ntmps13
  go_wp2_with (fail)
  clear hzd
  refine (drawAsk_calls A0 c0 l0 w HR0.out HC0.out HW.out).mono ?_
  rintro e W1 ⟨s, l1, l2, v1, v2, x, hx9, rfl, q1, q2, hl, hb⟩
  have HX9 := Aside0.mk hx9
  clear hx9
  obtain ⟨A1, c1, e0⟩ := Kd.R_slice q1
  subst e0
  obtain ⟨A2, c2, e0⟩ := Kd.R_slice q2
  subst e0
  have SEP := Aside0.mk (show ∀ k, (Value.slice A1 l1.length c1).ownBlock = some k → (Value.slice A2 l2.length c2).ownBlock ≠ some k from fun k hk e => (q1.1 k hk) e.symm)
  have q1 := Rw.of q1 HB.out.size
  have q2 := Rw.of q2 HB.out.size
  have HL := Aside0.mk hl
  clear hl
  have Z11 := Aside0.mk ((hb).size)
  have HB := kh HB (hb)
  clear hb
  have R1 := Aside0.mk q1
  have R2 := Aside0.mk q2
  clear q1 q2
  have hb := below_alloc (Below.refl W1.heap.size W1) (.cells #[.int .i64 0, .slice none 0 0, .slice none 0 0] 29 (0, 0))
  have Z12 := Aside0.mk ((hb).size)
  have R1 := kw R1 (hb)
  have R2 := kw R2 (hb)
  have HB := kh HB (hb)
  clear hb
  have P3 := Aside0.mk (blk_new W1 (.cells #[.int .i64 0, .slice none 0 0, .slice none 0 0] 29 (0, 0)))
  have Z13 := Aside0.mk (blk_lt P3.out)
  have hb := below_alloc (Below.refl (W1.alloc (.cells #[.int .i64 0, .slice none 0 0, .slice none 0 0] 29 (0, 0))).heap.size (W1.alloc (.cells #[.int .i64 0, .slice none 0 0, .slice none 0 0] 29 (0, 0)))) (.cells #[.int .i64 0, .int .i64 0, .bool false, .bool false] 45 (0, 0))
  have Z14 := Aside0.mk ((hb).size)
  have P3 := kb P3 (hb)
  have R1 := kw R1 (hb)
  have R2 := kw R2 (hb)
  have HB := kh HB (hb)
  clear hb
  have P4 := Aside0.mk (blk_new (W1.alloc (.cells #[.int .i64 0, .slice none 0 0, .slice none 0 0] 29 (0, 0))) (.cells #[.int .i64 0, .int .i64 0, .bool false, .bool false] 45 (0, 0)))
  have Z15 := Aside0.mk (blk_lt P4.out)
  have hs1 : (W1.alloc (.cells #[.int .i64 0, .slice none 0 0, .slice none 0 0] 29 (0, 0))).heap.size = W1.heap.size + 1 := by simp
  rw [hs1] at P4 Z15
  clear hs1
  go_wp2_with (((with_reducible refine gate_store (t := 29) (p := 3) rfl ?_); refine wpList_store_row rfl 29 (.tmp 3) (.tmp 25) rfl W1.heap.size #[.int .i64 s, .slice A1 l1.length c1, .slice A2 l2.length c2] rfl rfl 29 #[.int .i64 0, .slice none 0 0, .slice none 0 0] P3.out (by kernel_rfl) rfl (by simp [Value.oneCell']) ?_; refine Aside0.out ?_))
  generalize (W1.alloc (.cells #[.int .i64 0, .slice none 0 0, .slice none 0 0] 29 (0, 0))).alloc (.cells #[.int .i64 0, .int .i64 0, .bool false, .bool false] 45 (0, 0)) = W2 at Z12 Z13 Z14 Z15 P3 P4 R1 R2 HB ⊢
  obtain ⟨b4, hb4⟩ : ∃ b4, b4 = W1.heap.size + 1 := ⟨_, rfl⟩
  rw [← hb4] at P4 Z15 ⊢
  obtain ⟨b3, hb3⟩ : ∃ b3, b3 = W1.heap.size := ⟨_, rfl⟩
  rw [← hb3] at P3 ⊢
  have Z16 := Aside0.mk (hb3)
  have Z17 := Aside0.mk (hb4)
  clear hb3 hb4
  obtain ⟨W3, e_⟩ : ∃ X, X = W2.setRow b3 #[.int .i64 s, .slice A1 l1.length c1, .slice A2 l2.length c2] := ⟨_, rfl⟩
  rw [← e_]
  have P4 := kbs P4 e_ (by have := Z11.out; have := Z12.out; have := Z13.out; have := Z14.out; have := Z15.out; have := Z16.out; have := Z17.out; omega)
  have R1 := kws R1 e_ (by have := Z11.out; have := Z12.out; have := Z13.out; have := Z14.out; have := Z15.out; have := Z16.out; have := Z17.out; omega)
  have R2 := kws R2 e_ (by have := Z11.out; have := Z12.out; have := Z13.out; have := Z14.out; have := Z15.out; have := Z16.out; have := Z17.out; omega)
  have P3 := kps P3 e_
  have HB := khs HB e_ (by have := Z11.out; have := Z12.out; have := Z13.out; have := Z14.out; have := Z15.out; have := Z16.out; have := Z17.out; omega)
  have Z18 := Aside0.mk (kzs e_)
  clear e_
  refine Aside0.mk ?_
  go_wp2_with (((with_reducible refine gate_store (t := 45) (p := 4) rfl ?_); refine wpList_store_row rfl 45 (.tmp 4) (.tmp 26) rfl b4 #[.int .i64 x.f0, .int .i64 x.f1, .bool x.f2, .bool x.f3] rfl rfl 45 #[.int .i64 0, .int .i64 0, .bool false, .bool false] P4.out (by kernel_rfl) rfl (by simp [Value.oneCell']) ?_; refine Aside0.out ?_))
  obtain ⟨W4, e_⟩ : ∃ X, X = W3.setRow b4 #[.int .i64 x.f0, .int .i64 x.f1, .bool x.f2, .bool x.f3] := ⟨_, rfl⟩
  rw [← e_]
  have P3 := kbs P3 e_ (by have := Z11.out; have := Z12.out; have := Z13.out; have := Z14.out; have := Z15.out; have := Z16.out; have := Z17.out; have := Z18.out; omega)
  have R1 := kws R1 e_ (by have := Z11.out; have := Z12.out; have := Z13.out; have := Z14.out; have := Z15.out; have := Z16.out; have := Z17.out; have := Z18.out; omega)
  have R2 := kws R2 e_ (by have := Z11.out; have := Z12.out; have := Z13.out; have := Z14.out; have := Z15.out; have := Z16.out; have := Z17.out; have := Z18.out; omega)
  have P4 := kps P4 e_
  have HB := khs HB e_ (by have := Z11.out; have := Z12.out; have := Z13.out; have := Z14.out; have := Z15.out; have := Z16.out; have := Z17.out; have := Z18.out; omega)
  have Z19 := Aside0.mk (kzs e_)
  clear e_
  refine Aside0.mk ?_
  obtain ⟨r1, r2, r3, r4, r5, hF⟩ : ∃ r1 r2 r3 r4 r5, askF s l1 l2 x = (r1, r2, r3, r4, r5) := ⟨_, _, _, _, _, rfl⟩
  have hln := ask_len s l1 l2 x
  have hln5 := ask_len5 s l1 l2 x
  rw [hF] at hln hln5
  simp only at hln hln5
  have HLR := Aside0.mk (And.intro hln hln5)
  have HASK := Aside0.mk hF
  clear hln hln5 hF
  go_wp2_with (first | ((with_reducible refine gate_dst (N := 28) rfl ?_); refine wpList_load_row rfl 29 (.tmp 3) rfl b3 rfl 29 #[.int .i64 s, .slice A1 l1.length c1, .slice A2 l2.length c2] (0, 0) _ P3.out hu29 rfl (by kernel_rfl) ?_) | ((with_reducible refine gate_dst (N := 29) rfl ?_); refine wpList_load_row rfl 45 (.tmp 4) rfl b4 rfl 45 #[.int .i64 x.f0, .int .i64 x.f1, .bool x.f2, .bool x.f3] (0, 0) _ P4.out hu45 rfl (by kernel_rfl) ?_))
  refine (sask_calls s A1 c1 l1 A2 c2 l2 x r1 r2 r3 r4 r5 W4 (R1.out.reads).2.2 (R1.out.reads).2.1 (R2.out.reads).2.2 (R2.out.reads).2.1 (by have := HL.out; omega) (by have := HL.out; omega) HASK.out).mono ?_
  rintro e W5 ⟨v1, v2, v4, rfl, q1, q2, q4, hb⟩
  have SAa := Aside0.mk (show ∀ k, v1.ownBlock = some k → v2.ownBlock ≠ some k ∧ v4.ownBlock ≠ some k from fun k hk => ⟨fun e => (q1.1 k hk).1 e.symm, fun e => (q1.1 k hk).2 e.symm⟩)
  have SBa := Aside0.mk (show ∀ k, v2.ownBlock = some k → v4.ownBlock ≠ some k from fun k hk e => (q2.1 k hk).2 e.symm)
  have q1 := Rw.of q1 HB.out.size
  have q2 := Rw.of q2 HB.out.size
  have q4 := Rw.of q4 HB.out.size
  have Z20 := Aside0.mk ((hb).size)
  have P3 := kb P3 (hb)
  have P4 := kb P4 (hb)
  have R1 := kw R1 (hb)
  have R2 := kw R2 (hb)
  have HB := kh HB (hb)
  clear hb
  have QW1 := Aside0.mk q1
  have QW2 := Aside0.mk q2
  have QW5 := Aside0.mk q4
  clear q1 q2 q4
  obtain ⟨V1, v1_, e0⟩ := Rw.slice QW1.out
  subst e0
  obtain ⟨V2, v2_, e0⟩ := Rw.slice QW2.out
  subst e0
  obtain ⟨V5, v5_, e0⟩ := Rw.slice QW5.out
  subst e0
  have hb := below_alloc (Below.refl W5.heap.size W5) (.cells #[.int .i64 r1, .slice V1 r2.length v1_, .slice V2 r3.length v2_] 29 (0, 0))
  have Z21 := Aside0.mk ((hb).size)
  have P3 := kb P3 (hb)
  have P4 := kb P4 (hb)
  have R1 := kw R1 (hb)
  have R2 := kw R2 (hb)
  have QW1 := kw QW1 (hb)
  have QW2 := kw QW2 (hb)
  have QW5 := kw QW5 (hb)
  have HB := kh HB (hb)
  clear hb
  have P5 := Aside0.mk (blk_new W5 (.cells #[.int .i64 r1, .slice V1 r2.length v1_, .slice V2 r3.length v2_] 29 (0, 0)))
  have Z22 := Aside0.mk (blk_lt P5.out)
  go_wp2_with (first | ((with_reducible refine gate_dst (N := 35) rfl ?_); refine wpList_load_row rfl 29 (.tmp 3) rfl b3 rfl 29 #[.int .i64 s, .slice A1 l1.length c1, .slice A2 l2.length c2] (0, 0) _ P3.out hu29 rfl (by kernel_rfl) ?_) | ((with_reducible refine gate_dst (N := 36) rfl ?_); refine wpList_load_row rfl 45 (.tmp 4) rfl b4 rfl 45 #[.int .i64 x.f0, .int .i64 x.f1, .bool x.f2, .bool x.f3] (0, 0) _ P4.out hu45 rfl (by kernel_rfl) ?_))
  generalize W5.alloc (.cells #[.int .i64 r1, .slice V1 r2.length v1_, .slice V2 r3.length v2_] 29 (0, 0)) = W6 at Z21 Z22 P3 P4 P5 R1 R2 QW1 QW2 QW5 HB ⊢
  obtain ⟨b5, hq_⟩ : ∃ b5, b5 = W5.heap.size := ⟨_, rfl⟩
  rw [← hq_] at P5 Z22 ⊢
  have Z23 := Aside0.mk (hq_)
  clear hq_
  refine (ask_calls s A1 c1 l1 A2 c2 l2 x r1 r2 r3 r4 r5 W6 (R1.out.reads).2.2 (R1.out.reads).2.1 (R2.out.reads).2.2 (R2.out.reads).2.1 (by have := HL.out; omega) (by have := HL.out; omega) HASK.out).mono ?_
  rintro e W7 ⟨v1, v2, v4, rfl, q1, q2, q4, hb⟩
  have SAb := Aside0.mk (show ∀ k, v1.ownBlock = some k → v2.ownBlock ≠ some k ∧ v4.ownBlock ≠ some k from fun k hk => ⟨fun e => (q1.1 k hk).1 e.symm, fun e => (q1.1 k hk).2 e.symm⟩)
  have SBb := Aside0.mk (show ∀ k, v2.ownBlock = some k → v4.ownBlock ≠ some k from fun k hk e => (q2.1 k hk).2 e.symm)
  have q1 := Rw.of q1 HB.out.size
  have q2 := Rw.of q2 HB.out.size
  have q4 := Rw.of q4 HB.out.size
  have Z24 := Aside0.mk ((hb).size)
  have P3 := kb P3 (hb)
  have P4 := kb P4 (hb)
  have P5 := kb P5 (hb)
  have R1 := kw R1 (hb)
  have R2 := kw R2 (hb)
  have QW1 := kw QW1 (hb)
  have QW2 := kw QW2 (hb)
  have QW5 := kw QW5 (hb)
  have HB := kh HB (hb)
  clear hb
  have QG1 := Aside0.mk q1
  have QG2 := Aside0.mk q2
  have QG5 := Aside0.mk q4
  clear q1 q2 q4
  obtain ⟨H1, h1_, e0⟩ := Rw.slice QG1.out
  subst e0
  obtain ⟨H2, h2_, e0⟩ := Rw.slice QG2.out
  subst e0
  obtain ⟨H5, h5_, e0⟩ := Rw.slice QG5.out
  subst e0
  have hb := below_alloc (Below.refl W7.heap.size W7) (.cells #[.int .i64 r1, .slice H1 r2.length h1_, .slice H2 r3.length h2_] 29 (0, 0))
  have Z25 := Aside0.mk ((hb).size)
  have P3 := kb P3 (hb)
  have P4 := kb P4 (hb)
  have P5 := kb P5 (hb)
  have R1 := kw R1 (hb)
  have R2 := kw R2 (hb)
  have QW1 := kw QW1 (hb)
  have QW2 := kw QW2 (hb)
  have QW5 := kw QW5 (hb)
  have QG1 := kw QG1 (hb)
  have QG2 := kw QG2 (hb)
  have QG5 := kw QG5 (hb)
  have HB := kh HB (hb)
  clear hb
  have P8 := Aside0.mk (blk_new W7 (.cells #[.int .i64 r1, .slice H1 r2.length h1_, .slice H2 r3.length h2_] 29 (0, 0)))
  have Z26 := Aside0.mk (blk_lt P8.out)
  have hP8_0 := (blk_cell P8.out 0).trans (show _ = some (.int .i64 r1) from rfl)
  have hP8_1 := (blk_cell P8.out 1).trans (show _ = some (.slice H1 r2.length h1_) from rfl)
  have hP8_2 := (blk_cell P8.out 2).trans (show _ = some (.slice H2 r3.length h2_) from rfl)
  have hP5_0 := (blk_cell P5.out 0).trans (show _ = some (.int .i64 r1) from rfl)
  have hP5_1 := (blk_cell P5.out 1).trans (show _ = some (.slice V1 r2.length v1_) from rfl)
  have hP5_2 := (blk_cell P5.out 2).trans (show _ = some (.slice V2 r3.length v2_) from rfl)
  go_wp2_with (fail)
  clear hP8_0 hP8_1 hP8_2 hP5_0 hP5_1 hP5_2
  generalize W7.alloc (.cells #[.int .i64 r1, .slice H1 r2.length h1_, .slice H2 r3.length h2_] 29 (0, 0)) = W8 at Z25 Z26 P3 P4 P5 P8 R1 R2 QW1 QW2 QW5 QG1 QG2 QG5 HB ⊢
  obtain ⟨b8, hq_⟩ : ∃ b8, b8 = W7.heap.size := ⟨_, rfl⟩
  rw [← hq_] at P8 Z26 ⊢
  have Z27 := Aside0.mk (hq_)
  clear hq_
  refine (loLock_eq r1 H1 h1_ r2 H2 h2_ r3 V1 v1_ V2 v2_ W8 (QG1.out.reads).2.2 (QG1.out.reads).2.1 (QG2.out.reads).2.2 (QG2.out.reads).2.1 (QW1.out.reads).2.2 (QW1.out.reads).2.1 (QW2.out.reads).2.2 (QW2.out.reads).2.1 (by have := HLR.out; omega) (by have := HLR.out; omega)).mono ?_
  rintro e W9 ⟨rfl, hb⟩
  have Z28 := Aside0.mk ((hb).size)
  have P3 := kb P3 (hb)
  have P4 := kb P4 (hb)
  have P5 := kb P5 (hb)
  have P8 := kb P8 (hb)
  have R1 := kw R1 (hb)
  have R2 := kw R2 (hb)
  have QW1 := kw QW1 (hb)
  have QW2 := kw QW2 (hb)
  have QW5 := kw QW5 (hb)
  have QG1 := kw QG1 (hb)
  have QG2 := kw QG2 (hb)
  have QG5 := kw QG5 (hb)
  have HB := kh HB (hb)
  clear hb
  go_wp2_with (fail)
  refine (loHolds_eq H5 h5_ r5 V5 v5_ W9 (QG5.out.reads).2.2 (QG5.out.reads).2.1 (QW5.out.reads).2.2 (QW5.out.reads).2.1 (by have := HLR.out; omega)).mono ?_
  rintro e W10 ⟨rfl, hb⟩
  have Z29 := Aside0.mk ((hb).size)
  have P3 := kb P3 (hb)
  have P4 := kb P4 (hb)
  have P5 := kb P5 (hb)
  have P8 := kb P8 (hb)
  have R1 := kw R1 (hb)
  have R2 := kw R2 (hb)
  have QW1 := kw QW1 (hb)
  have QW2 := kw QW2 (hb)
  have QW5 := kw QW5 (hb)
  have QG1 := kw QG1 (hb)
  have QG2 := kw QG2 (hb)
  have QG5 := kw QG5 (hb)
  have HB := kh HB (hb)
  clear hb
  have hP4_0 := (blk_cell P4.out 0).trans (show _ = some (.int .i64 x.f0) from rfl)
  have hP4_1 := (blk_cell P4.out 1).trans (show _ = some (.int .i64 x.f1) from rfl)
  have hP4_2 := (blk_cell P4.out 2).trans (show _ = some (.bool x.f2) from rfl)
  have hP4_3 := (blk_cell P4.out 3).trans (show _ = some (.bool x.f3) from rfl)
  go_wp2_with (((with_reducible refine gate_dst (N := 57) rfl ?_); refine wpList_load_row rfl 29 (.tmp 8) rfl b8 rfl 29 #[.int .i64 r1, .slice H1 r2.length h1_, .slice H2 r3.length h2_] (0, 0) _ P8.out hu29 rfl (by kernel_rfl) ?_))
  clear hP4_0 hP4_1 hP4_2 hP4_3
  obtain ⟨t1, t2, t3, t4, hF⟩ : ∃ t1 t2 t3 t4, freeF r1 r2 r3 x.f0 x.f1 = (t1, t2, t3, t4) := ⟨_, _, _, _, rfl⟩
  have hln := free_len r1 r2 r3 x.f0 x.f1
  have hln4 := free_len4 r1 r2 r3 x.f0 x.f1
  rw [hF] at hln hln4
  simp only at hln hln4
  have HLY := Aside0.mk (And.intro hln hln4)
  have HFR := Aside0.mk hF
  clear hln hln4 hF
  have ZZ := Aside0.mk (And.intro Z11.out (And.intro Z12.out (And.intro Z13.out (And.intro Z14.out (And.intro Z15.out (And.intro Z16.out (And.intro Z17.out (And.intro Z18.out (And.intro Z19.out (And.intro Z20.out (And.intro Z21.out (And.intro Z22.out (And.intro Z23.out (And.intro Z24.out (And.intro Z25.out (And.intro Z26.out (And.intro Z27.out (And.intro Z28.out Z29.out))))))))))))))))))
  refine (free_calls r1 H1 h1_ r2 H2 h2_ r3 x.f0 x.f1 t1 t2 t3 t4 W10 (QG1.out.reads).2.2 (QG1.out.reads).2.1 (QG2.out.reads).2.2 (QG2.out.reads).2.1 (by have := HLR.out; omega) (by have := HLR.out; omega) HFR.out).mono ?_
  rintro e W11 ⟨v1, v2, v4, rfl, q1, q2, q4, hb⟩
  have SAc := Aside0.mk (show ∀ k, v1.ownBlock = some k → v2.ownBlock ≠ some k ∧ v4.ownBlock ≠ some k from fun k hk => ⟨fun e => (q1.1 k hk).1 e.symm, fun e => (q1.1 k hk).2 e.symm⟩)
  have SBc := Aside0.mk (show ∀ k, v2.ownBlock = some k → v4.ownBlock ≠ some k from fun k hk e => (q2.1 k hk).2 e.symm)
  have q1 := Rw.of q1 HB.out.size
  have q2 := Rw.of q2 HB.out.size
  have q4 := Rw.of q4 HB.out.size
  have ZZ := Aside0.mk (And.intro ZZ.out ((hb).size))
  have P3 := kb P3 (hb)
  have P4 := kb P4 (hb)
  have P5 := kb P5 (hb)
  have P8 := kb P8 (hb)
  have R1 := kw R1 (hb)
  have R2 := kw R2 (hb)
  have QW1 := kw QW1 (hb)
  have QW2 := kw QW2 (hb)
  have QW5 := kw QW5 (hb)
  have QG1 := kw QG1 (hb)
  have QG2 := kw QG2 (hb)
  have QG5 := kw QG5 (hb)
  have HB := kh HB (hb)
  clear hb
  have QM1 := Aside0.mk q1
  have QM2 := Aside0.mk q2
  have QM5 := Aside0.mk q4
  clear q1 q2 q4
  obtain ⟨M1, m1_, e0⟩ := Rw.slice QM1.out
  subst e0
  obtain ⟨M2, m2_, e0⟩ := Rw.slice QM2.out
  subst e0
  obtain ⟨M5, m5_, e0⟩ := Rw.slice QM5.out
  subst e0
  have hb := below_alloc (Below.refl W11.heap.size W11) (.cells #[.int .i64 t1, .slice M1 t2.length m1_, .slice M2 t3.length m2_] 29 (0, 0))
  have ZZ := Aside0.mk (And.intro ZZ.out ((hb).size))
  have P3 := kb P3 (hb)
  have P4 := kb P4 (hb)
  have P5 := kb P5 (hb)
  have P8 := kb P8 (hb)
  have R1 := kw R1 (hb)
  have R2 := kw R2 (hb)
  have QW1 := kw QW1 (hb)
  have QW2 := kw QW2 (hb)
  have QW5 := kw QW5 (hb)
  have QG1 := kw QG1 (hb)
  have QG2 := kw QG2 (hb)
  have QG5 := kw QG5 (hb)
  have QM1 := kw QM1 (hb)
  have QM2 := kw QM2 (hb)
  have QM5 := kw QM5 (hb)
  have HB := kh HB (hb)
  clear hb
  have PB := Aside0.mk (blk_new W11 (.cells #[.int .i64 t1, .slice M1 t2.length m1_, .slice M2 t3.length m2_] 29 (0, 0)))
  have ZZ := Aside0.mk (And.intro ZZ.out (blk_lt PB.out))
  have hP4_0 := (blk_cell P4.out 0).trans (show _ = some (.int .i64 x.f0) from rfl)
  have hP4_1 := (blk_cell P4.out 1).trans (show _ = some (.int .i64 x.f1) from rfl)
  have hP4_2 := (blk_cell P4.out 2).trans (show _ = some (.bool x.f2) from rfl)
  have hP4_3 := (blk_cell P4.out 3).trans (show _ = some (.bool x.f3) from rfl)
  go_wp2_with (((with_reducible refine gate_dst (N := 66) rfl ?_); refine wpList_load_row rfl 29 (.tmp 8) rfl b8 rfl 29 #[.int .i64 r1, .slice H1 r2.length h1_, .slice H2 r3.length h2_] (0, 0) _ P8.out hu29 rfl (by kernel_rfl) ?_))
  clear hP4_0 hP4_1 hP4_2 hP4_3
  generalize W11.alloc (.cells #[.int .i64 t1, .slice M1 t2.length m1_, .slice M2 t3.length m2_] 29 (0, 0)) = W12 at ZZ P3 P4 P5 P8 PB R1 R2 QW1 QW2 QW5 QG1 QG2 QG5 QM1 QM2 QM5 HB ⊢
  obtain ⟨bB, hq_⟩ : ∃ bB, bB = W11.heap.size := ⟨_, rfl⟩
  rw [← hq_] at PB ZZ ⊢
  have ZZ := Aside0.mk (And.intro ZZ.out (hq_))
  clear hq_
  refine (sfree_calls r1 H1 h1_ r2 H2 h2_ r3 x.f0 x.f1 t1 t2 t3 t4 W12 (QG1.out.reads).2.2 (QG1.out.reads).2.1 (QG2.out.reads).2.2 (QG2.out.reads).2.1 (by have := HLR.out; omega) (by have := HLR.out; omega) HFR.out).mono ?_
  rintro e W13 ⟨v1, v2, v4, rfl, q1, q2, q4, hb⟩
  have SAd := Aside0.mk (show ∀ k, v1.ownBlock = some k → v2.ownBlock ≠ some k ∧ v4.ownBlock ≠ some k from fun k hk => ⟨fun e => (q1.1 k hk).1 e.symm, fun e => (q1.1 k hk).2 e.symm⟩)
  have SBd := Aside0.mk (show ∀ k, v2.ownBlock = some k → v4.ownBlock ≠ some k from fun k hk e => (q2.1 k hk).2 e.symm)
  have q1 := Rw.of q1 HB.out.size
  have q2 := Rw.of q2 HB.out.size
  have q4 := Rw.of q4 HB.out.size
  have ZZ := Aside0.mk (And.intro ZZ.out ((hb).size))
  have P3 := kb P3 (hb)
  have P4 := kb P4 (hb)
  have P5 := kb P5 (hb)
  have P8 := kb P8 (hb)
  have PB := kb PB (hb)
  have R1 := kw R1 (hb)
  have R2 := kw R2 (hb)
  have QW1 := kw QW1 (hb)
  have QW2 := kw QW2 (hb)
  have QW5 := kw QW5 (hb)
  have QG1 := kw QG1 (hb)
  have QG2 := kw QG2 (hb)
  have QG5 := kw QG5 (hb)
  have QM1 := kw QM1 (hb)
  have QM2 := kw QM2 (hb)
  have QM5 := kw QM5 (hb)
  have HB := kh HB (hb)
  clear hb
  have QN1 := Aside0.mk q1
  have QN2 := Aside0.mk q2
  have QN5 := Aside0.mk q4
  clear q1 q2 q4
  obtain ⟨N1, n1_, e0⟩ := Rw.slice QN1.out
  subst e0
  obtain ⟨N2, n2_, e0⟩ := Rw.slice QN2.out
  subst e0
  obtain ⟨N5, n5_, e0⟩ := Rw.slice QN5.out
  subst e0
  have hb := below_alloc (Below.refl W13.heap.size W13) (.cells #[.int .i64 t1, .slice N1 t2.length n1_, .slice N2 t3.length n2_] 29 (0, 0))
  have ZZ := Aside0.mk (And.intro ZZ.out ((hb).size))
  have P3 := kb P3 (hb)
  have P4 := kb P4 (hb)
  have P5 := kb P5 (hb)
  have P8 := kb P8 (hb)
  have PB := kb PB (hb)
  have R1 := kw R1 (hb)
  have R2 := kw R2 (hb)
  have QW1 := kw QW1 (hb)
  have QW2 := kw QW2 (hb)
  have QW5 := kw QW5 (hb)
  have QG1 := kw QG1 (hb)
  have QG2 := kw QG2 (hb)
  have QG5 := kw QG5 (hb)
  have QM1 := kw QM1 (hb)
  have QM2 := kw QM2 (hb)
  have QM5 := kw QM5 (hb)
  have QN1 := kw QN1 (hb)
  have QN2 := kw QN2 (hb)
  have QN5 := kw QN5 (hb)
  have HB := kh HB (hb)
  clear hb
  have PD := Aside0.mk (blk_new W13 (.cells #[.int .i64 t1, .slice N1 t2.length n1_, .slice N2 t3.length n2_] 29 (0, 0)))
  have ZZ := Aside0.mk (And.intro ZZ.out (blk_lt PD.out))
  go_wp2_with (first | ((with_reducible refine gate_dst (N := 74) rfl ?_); refine wpList_load_row rfl 29 (.tmp 11) rfl bB rfl 29 #[.int .i64 t1, .slice M1 t2.length m1_, .slice M2 t3.length m2_] (0, 0) _ PB.out hu29 rfl (by kernel_rfl) ?_) | ((with_reducible refine gate_dst (N := 75) rfl ?_); refine wpList_load_row rfl 29 (.tmp 13) rfl W13.heap.size rfl 29 #[.int .i64 t1, .slice N1 t2.length n1_, .slice N2 t3.length n2_] (0, 0) _ PD.out hu29 rfl (by kernel_rfl) ?_))
  generalize W13.alloc (.cells #[.int .i64 t1, .slice N1 t2.length n1_, .slice N2 t3.length n2_] 29 (0, 0)) = W14 at ZZ P3 P4 P5 P8 PB PD R1 R2 QW1 QW2 QW5 QG1 QG2 QG5 QM1 QM2 QM5 QN1 QN2 QN5 HB ⊢
  obtain ⟨bD, hq_⟩ : ∃ bD, bD = W13.heap.size := ⟨_, rfl⟩
  rw [← hq_] at PD ZZ ⊢
  have ZZ := Aside0.mk (And.intro ZZ.out (hq_))
  clear hq_
  refine (loLock_eq t1 M1 m1_ t2 M2 m2_ t3 N1 n1_ N2 n2_ W14 (QM1.out.reads).2.2 (QM1.out.reads).2.1 (QM2.out.reads).2.2 (QM2.out.reads).2.1 (QN1.out.reads).2.2 (QN1.out.reads).2.1 (QN2.out.reads).2.2 (QN2.out.reads).2.1 (by have := HLY.out; omega) (by have := HLY.out; omega)).mono ?_
  rintro e W15 ⟨rfl, hb⟩
  have ZZ := Aside0.mk (And.intro ZZ.out ((hb).size))
  have P3 := kb P3 (hb)
  have P4 := kb P4 (hb)
  have P5 := kb P5 (hb)
  have P8 := kb P8 (hb)
  have PB := kb PB (hb)
  have PD := kb PD (hb)
  have R1 := kw R1 (hb)
  have R2 := kw R2 (hb)
  have QW1 := kw QW1 (hb)
  have QW2 := kw QW2 (hb)
  have QW5 := kw QW5 (hb)
  have QG1 := kw QG1 (hb)
  have QG2 := kw QG2 (hb)
  have QG5 := kw QG5 (hb)
  have QM1 := kw QM1 (hb)
  have QM2 := kw QM2 (hb)
  have QM5 := kw QM5 (hb)
  have QN1 := kw QN1 (hb)
  have QN2 := kw QN2 (hb)
  have QN5 := kw QN5 (hb)
  have HB := kh HB (hb)
  clear hb
  go_wp2_with (fail)
  refine (loHolds_eq M5 m5_ t4 N5 n5_ W15 (QM5.out.reads).2.2 (QM5.out.reads).2.1 (QN5.out.reads).2.2 (QN5.out.reads).2.1 (by have := HLY.out; omega)).mono ?_
  rintro e W16 ⟨rfl, hb⟩
  have ZZ := Aside0.mk (And.intro ZZ.out ((hb).size))
  have P3 := kb P3 (hb)
  have P4 := kb P4 (hb)
  have P5 := kb P5 (hb)
  have P8 := kb P8 (hb)
  have PB := kb PB (hb)
  have PD := kb PD (hb)
  have R1 := kw R1 (hb)
  have R2 := kw R2 (hb)
  have QW1 := kw QW1 (hb)
  have QW2 := kw QW2 (hb)
  have QW5 := kw QW5 (hb)
  have QG1 := kw QG1 (hb)
  have QG2 := kw QG2 (hb)
  have QG5 := kw QG5 (hb)
  have QM1 := kw QM1 (hb)
  have QM2 := kw QM2 (hb)
  have QM5 := kw QM5 (hb)
  have QN1 := kw QN1 (hb)
  have QN2 := kw QN2 (hb)
  have QN5 := kw QN5 (hb)
  have HB := kh HB (hb)
  clear hb
  have hP3_0 := (blk_cell P3.out 0).trans (show _ = some (.int .i64 s) from rfl)
  have hP3_1 := (blk_cell P3.out 1).trans (show _ = some (.slice A1 l1.length c1) from rfl)
  have hP3_2 := (blk_cell P3.out 2).trans (show _ = some (.slice A2 l2.length c2) from rfl)
  go_wp2_with (fail)
  clear hP3_0 hP3_1 hP3_2
  refine (okS s A1 c1 l1 A2 c2 l2 W16 (R1.out.reads).2.2 (R1.out.reads).2.1 (R2.out.reads).2.2 (R2.out.reads).2.1 (by have := HL.out; omega) (by have := HL.out; omega)).mono ?_
  rintro e W17 ⟨rfl, hb⟩
  have ZZ := Aside0.mk (And.intro ZZ.out ((hb).size))
  have P3 := kb P3 (hb)
  have P4 := kb P4 (hb)
  have P5 := kb P5 (hb)
  have P8 := kb P8 (hb)
  have PB := kb PB (hb)
  have PD := kb PD (hb)
  have R1 := kw R1 (hb)
  have R2 := kw R2 (hb)
  have QW1 := kw QW1 (hb)
  have QW2 := kw QW2 (hb)
  have QW5 := kw QW5 (hb)
  have QG1 := kw QG1 (hb)
  have QG2 := kw QG2 (hb)
  have QG5 := kw QG5 (hb)
  have QM1 := kw QM1 (hb)
  have QM2 := kw QM2 (hb)
  have QM5 := kw QM5 (hb)
  have QN1 := kw QN1 (hb)
  have QN2 := kw QN2 (hb)
  have QN5 := kw QN5 (hb)
  have HB := kh HB (hb)
  clear hb
  cases hok : lockB s l1 l2 with
  | false =>
   go_wp2_with (first | ((with_reducible refine gate_dst (N := 89) rfl ?_); refine wpList_load_row rfl 29 (.tmp 11) rfl bB rfl 29 #[.int .i64 t1, .slice M1 t2.length m1_, .slice M2 t3.length m2_] (0, 0) _ PB.out hu29 rfl (by kernel_rfl) ?_) | ((with_reducible refine gate_dst (N := 90) rfl ?_); refine wpList_load_row rfl 29 (.tmp 13) rfl bD rfl 29 #[.int .i64 t1, .slice N1 t2.length n1_, .slice N2 t3.length n2_] (0, 0) _ PD.out hu29 rfl (by kernel_rfl) ?_))
   refine (loLock_eq t1 M1 m1_ t2 M2 m2_ t3 N1 n1_ N2 n2_ W17 (QM1.out.reads).2.2 (QM1.out.reads).2.1 (QM2.out.reads).2.2 (QM2.out.reads).2.1 (QN1.out.reads).2.2 (QN1.out.reads).2.1 (QN2.out.reads).2.2 (QN2.out.reads).2.1 (by have := HLY.out; omega) (by have := HLY.out; omega)).mono ?_
   rintro e W18 ⟨rfl, hb⟩
   have ZZ := Aside0.mk (And.intro ZZ.out ((hb).size))
   have P3 := kb P3 (hb)
   have P4 := kb P4 (hb)
   have P5 := kb P5 (hb)
   have P8 := kb P8 (hb)
   have PB := kb PB (hb)
   have PD := kb PD (hb)
   have R1 := kw R1 (hb)
   have R2 := kw R2 (hb)
   have QW1 := kw QW1 (hb)
   have QW2 := kw QW2 (hb)
   have QW5 := kw QW5 (hb)
   have QG1 := kw QG1 (hb)
   have QG2 := kw QG2 (hb)
   have QG5 := kw QG5 (hb)
   have QM1 := kw QM1 (hb)
   have QM2 := kw QM2 (hb)
   have QM5 := kw QM5 (hb)
   have QN1 := kw QN1 (hb)
   have QN2 := kw QN2 (hb)
   have QN5 := kw QN5 (hb)
   have HB := kh HB (hb)
   clear hb
   go_wp2_with (fail)
   refine (loHolds_eq M5 m5_ t4 N5 n5_ W18 (QM5.out.reads).2.2 (QM5.out.reads).2.1 (QN5.out.reads).2.2 (QN5.out.reads).2.1 (by have := HLY.out; omega)).mono ?_
   rintro e W19 ⟨rfl, hb⟩
   have ZZ := Aside0.mk (And.intro ZZ.out ((hb).size))
   have P3 := kb P3 (hb)
   have P4 := kb P4 (hb)
   have P5 := kb P5 (hb)
   have P8 := kb P8 (hb)
   have PB := kb PB (hb)
   have PD := kb PD (hb)
   have R1 := kw R1 (hb)
   have R2 := kw R2 (hb)
   have QW1 := kw QW1 (hb)
   have QW2 := kw QW2 (hb)
   have QW5 := kw QW5 (hb)
   have QG1 := kw QG1 (hb)
   have QG2 := kw QG2 (hb)
   have QG5 := kw QG5 (hb)
   have QM1 := kw QM1 (hb)
   have QM2 := kw QM2 (hb)
   have QM5 := kw QM5 (hb)
   have QN1 := kw QN1 (hb)
   have QN2 := kw QN2 (hb)
   have QN5 := kw QN5 (hb)
   have HB := kh HB (hb)
   clear hb
   go_wp2_with (fail)
   go_ret
   exact ⟨rfl, HB.out⟩
  | true =>
   have HOK2 := Aside0.mk (ask_ok hok HASK.out)
   have HOK3 := Aside0.mk (free_ok HOK2.out HFR.out)
   clear hok
   have HLZ : Aside0 (r2.length ≤ 64 ∧ r3.length ≤ 64 ∧ t2.length ≤ 64 ∧ t3.length ≤ 64) := ⟨by have := HLR.out; have := HLY.out; omega⟩
   go_wp2_with (fail)
   go_loopw [15] (fun i wr => ∃ n : Nat, i = .int .i64 (n : Int) ∧ Aside0 (n ≤ 2) ∧ Aside0 (Below W17.heap.size W17 wr) ∧ Aside0 (True)) (fun i _ => 2 - (intOf i).toNat)
   case atStart => exact ⟨0, rfl, ⟨Nat.zero_le _⟩, ⟨Below.refl _ _⟩, ⟨trivial⟩⟩
   case round =>
    obtain ⟨W20, e_⟩ : ∃ X, X = wr := ⟨_, rfl⟩
    subst e_
    obtain ⟨n, rfl, HXn, HLn, HIn⟩ := hrel
    have ZZ := Aside0.mk (And.intro ZZ.out ((HLn.out).size))
    have P3 := kb P3 (HLn.out)
    have P4 := kb P4 (HLn.out)
    have P5 := kb P5 (HLn.out)
    have P8 := kb P8 (HLn.out)
    have PB := kb PB (HLn.out)
    have PD := kb PD (HLn.out)
    have R1 := kw R1 (HLn.out)
    have R2 := kw R2 (HLn.out)
    have QW1 := kw QW1 (HLn.out)
    have QW2 := kw QW2 (HLn.out)
    have QW5 := kw QW5 (HLn.out)
    have QG1 := kw QG1 (HLn.out)
    have QG2 := kw QG2 (HLn.out)
    have QG5 := kw QG5 (HLn.out)
    have QM1 := kw QM1 (HLn.out)
    have QM2 := kw QM2 (HLn.out)
    have QM5 := kw QM5 (HLn.out)
    have QN1 := kw QN1 (HLn.out)
    have QN2 := kw QN2 (HLn.out)
    have QN5 := kw QN5 (HLn.out)
    have HB := kh HB (HLn.out)
    by_cases hlt : n < 2
    ·have HTn := Aside0.mk hlt
     have hdl : decide (n < 2) = true := decide_eq_true hlt
     have hwn : wrap64 ((n : Int) + 1) = (n : Int) + 1 := by unfold wrap64; have := HLZ.out; omega
     have hdl : decide ((n : Int) < 2) = true := decide_eq_true (by omega)
     have P8o := P8
     have hb := below_alloc (Below.refl W20.heap.size W20) (.cells #[.int .i64 r1, .slice H1 r2.length h1_, .slice H2 r3.length h2_] 29 (0, 0))
     have ZZ := Aside0.mk (And.intro ZZ.out ((hb).size))
     have P3 := kb P3 (hb)
     have P4 := kb P4 (hb)
     have P5 := kb P5 (hb)
     have P8 := kb P8 (hb)
     have PB := kb PB (hb)
     have PD := kb PD (hb)
     have R1 := kw R1 (hb)
     have R2 := kw R2 (hb)
     have QW1 := kw QW1 (hb)
     have QW2 := kw QW2 (hb)
     have QW5 := kw QW5 (hb)
     have QG1 := kw QG1 (hb)
     have QG2 := kw QG2 (hb)
     have QG5 := kw QG5 (hb)
     have QM1 := kw QM1 (hb)
     have QM2 := kw QM2 (hb)
     have QM5 := kw QM5 (hb)
     have QN1 := kw QN1 (hb)
     have QN2 := kw QN2 (hb)
     have QN5 := kw QN5 (hb)
     have HB := kh HB (hb)
     have HLn := kh HLn (hb)
     clear hb
     have PV := Aside0.mk (blk_new W20 (.cells #[.int .i64 r1, .slice H1 r2.length h1_, .slice H2 r3.length h2_] 29 (0, 0)))
     have ZZ := Aside0.mk (And.intro ZZ.out (blk_lt PV.out))
     by_cases h1_ : n = 1
     ·have hn1 : ((n : Int) == 1) = true := beq_iff_eq.mpr (by omega)
      clear h1_
      go_wp2_with (first | ((with_reducible refine gate_dst (N := 101) rfl ?_); refine wpList_load_row rfl 29 (.tmp 8) rfl b8 rfl 29 #[.int .i64 r1, .slice H1 r2.length h1_, .slice H2 r3.length h2_] (0, 0) _ P8o.out hu29 rfl (by kernel_rfl) ?_) | ((with_reducible refine gate_dst (N := 104) rfl ?_); refine wpList_load_row rfl 29 (.tmp 11) rfl bB rfl 29 #[.int .i64 t1, .slice M1 t2.length m1_, .slice M2 t3.length m2_] (0, 0) _ PB.out hu29 rfl (by kernel_rfl) ?_) | ((with_reducible refine gate_store (t := 29) (p := 16) rfl ?_); refine wpList_store_row rfl 29 (.tmp 16) (.tmp 104) rfl W20.heap.size #[.int .i64 t1, .slice M1 t2.length m1_, .slice M2 t3.length m2_] rfl rfl 29 #[.int .i64 r1, .slice H1 r2.length h1_, .slice H2 r3.length h2_] PV.out (by kernel_rfl) rfl (by simp [Value.oneCell']) ?_; refine Aside0.out ?_))
      clear hn1
      generalize W20.alloc (.cells #[.int .i64 r1, .slice H1 r2.length h1_, .slice H2 r3.length h2_] 29 (0, 0)) = W21 at ZZ P3 P4 P5 P8 PB PD PV R1 R2 QW1 QW2 QW5 QG1 QG2 QG5 QM1 QM2 QM5 QN1 QN2 QN5 HB HLn ⊢
      obtain ⟨bV, hq_⟩ : ∃ bV, bV = W20.heap.size := ⟨_, rfl⟩
      rw [← hq_] at PV ZZ ⊢
      have ZZ := Aside0.mk (And.intro ZZ.out (hq_))
      clear hq_
      obtain ⟨W22, e_⟩ : ∃ X, X = W21.setRow bV #[.int .i64 t1, .slice M1 t2.length m1_, .slice M2 t3.length m2_] := ⟨_, rfl⟩
      rw [← e_]
      have P3 := kbs P3 e_ (by have := ZZ.out; omega)
      have P4 := kbs P4 e_ (by have := ZZ.out; omega)
      have P5 := kbs P5 e_ (by have := ZZ.out; omega)
      have P8 := kbs P8 e_ (by have := ZZ.out; omega)
      have PB := kbs PB e_ (by have := ZZ.out; omega)
      have PD := kbs PD e_ (by have := ZZ.out; omega)
      have R1 := kws R1 e_ (by have := ZZ.out; omega)
      have R2 := kws R2 e_ (by have := ZZ.out; omega)
      have QW1 := kws QW1 e_ (by have := ZZ.out; omega)
      have QW2 := kws QW2 e_ (by have := ZZ.out; omega)
      have QW5 := kws QW5 e_ (by have := ZZ.out; omega)
      have QG1 := kws QG1 e_ (by have := ZZ.out; omega)
      have QG2 := kws QG2 e_ (by have := ZZ.out; omega)
      have QG5 := kws QG5 e_ (by have := ZZ.out; omega)
      have QM1 := kws QM1 e_ (by have := ZZ.out; omega)
      have QM2 := kws QM2 e_ (by have := ZZ.out; omega)
      have QM5 := kws QM5 e_ (by have := ZZ.out; omega)
      have QN1 := kws QN1 e_ (by have := ZZ.out; omega)
      have QN2 := kws QN2 e_ (by have := ZZ.out; omega)
      have QN5 := kws QN5 e_ (by have := ZZ.out; omega)
      have PV := kps PV e_
      have HB := khs HB e_ (by have := ZZ.out; omega)
      have HLn := khs HLn e_ (by have := ZZ.out; omega)
      have ZZ := Aside0.mk (And.intro ZZ.out (kzs e_))
      clear e_
      refine Aside0.mk ?_
      go_wp2_with (fail)
      go_loopw [17] (fun i wr => ∃ na : Nat, i = .int .i64 (na : Int) ∧ Aside0 (na ≤ t2.length) ∧ Aside0 (Below W22.heap.size W22 wr) ∧ Aside0 (True)) (fun i _ => t2.length - (intOf i).toNat)
      case atStart => exact ⟨0, rfl, ⟨Nat.zero_le _⟩, ⟨Below.refl _ _⟩, ⟨trivial⟩⟩
      case round =>
       obtain ⟨W23, e_⟩ : ∃ X, X = wr := ⟨_, rfl⟩
       subst e_
       obtain ⟨na, rfl, HXna, HLna, HIna⟩ := hrel
       have ZZ := Aside0.mk (And.intro ZZ.out ((HLna.out).size))
       have P3 := kb P3 (HLna.out)
       have P4 := kb P4 (HLna.out)
       have P5 := kb P5 (HLna.out)
       have P8 := kb P8 (HLna.out)
       have PB := kb PB (HLna.out)
       have PD := kb PD (HLna.out)
       have PV := kb PV (HLna.out)
       have R1 := kw R1 (HLna.out)
       have R2 := kw R2 (HLna.out)
       have QW1 := kw QW1 (HLna.out)
       have QW2 := kw QW2 (HLna.out)
       have QW5 := kw QW5 (HLna.out)
       have QG1 := kw QG1 (HLna.out)
       have QG2 := kw QG2 (HLna.out)
       have QG5 := kw QG5 (HLna.out)
       have QM1 := kw QM1 (HLna.out)
       have QM2 := kw QM2 (HLna.out)
       have QM5 := kw QM5 (HLna.out)
       have QN1 := kw QN1 (HLna.out)
       have QN2 := kw QN2 (HLna.out)
       have QN5 := kw QN5 (HLna.out)
       have HB := kh HB (HLna.out)
       have HLn := kh HLn (HLna.out)
       by_cases hlt : na < t2.length
       ·have HTna := Aside0.mk hlt
        have hdl : decide (na < t2.length) = true := decide_eq_true hlt
        have hwna : wrap64 ((na : Int) + 1) = (na : Int) + 1 := by unfold wrap64; have := HLZ.out; omega
        obtain ⟨adna, hA, y0, y1, y2, y3⟩ := at_T45 (QM1.out.reads).2.2 (na : Int) (by omega) (by have := HTna.out; omega)
        subst hA
        simp only [Int.toNat_natCast] at y0 y1 y2 y3
        have hrd := rdH HTna.out
        rw [hrd] at y0 y1 y2 y3
        generalize hyx_ : t2[na]'(HTna.out) = y at y0 y1 y2 y3
        have HYy := Aside0.mk hyx_
        clear hrd hyx_
        have HYM : Aside0 (y ∈ t2) := ⟨by rw [← HYy.out]; exact List.getElem_mem _⟩
        have hb1 := (blk_cell PV.out 1).trans (show _ = some (.slice (some adna) t2.length m1_) from rfl)
        go_wp2_with (fail)
        clear hb1 y0 y1 y2 y3
        go_loopw [18] (fun i wr => ∃ nb : Nat, i = .int .i64 (nb : Int) ∧ Aside0 (nb ≤ t3.length) ∧ Aside0 (Below W23.heap.size W23 wr) ∧ Aside0 (True)) (fun i _ => t3.length - (intOf i).toNat)
        case atStart => exact ⟨0, rfl, ⟨Nat.zero_le _⟩, ⟨Below.refl _ _⟩, ⟨trivial⟩⟩
        case round =>
         obtain ⟨W24, e_⟩ : ∃ X, X = wr := ⟨_, rfl⟩
         subst e_
         obtain ⟨nb, rfl, HXnb, HLnb, HInb⟩ := hrel
         have ZZ := Aside0.mk (And.intro ZZ.out ((HLnb.out).size))
         have P3 := kb P3 (HLnb.out)
         have P4 := kb P4 (HLnb.out)
         have P5 := kb P5 (HLnb.out)
         have P8 := kb P8 (HLnb.out)
         have PB := kb PB (HLnb.out)
         have PD := kb PD (HLnb.out)
         have PV := kb PV (HLnb.out)
         have R1 := kw R1 (HLnb.out)
         have R2 := kw R2 (HLnb.out)
         have QW1 := kw QW1 (HLnb.out)
         have QW2 := kw QW2 (HLnb.out)
         have QW5 := kw QW5 (HLnb.out)
         have QG1 := kw QG1 (HLnb.out)
         have QG2 := kw QG2 (HLnb.out)
         have QG5 := kw QG5 (HLnb.out)
         have QM1 := kw QM1 (HLnb.out)
         have QM2 := kw QM2 (HLnb.out)
         have QM5 := kw QM5 (HLnb.out)
         have QN1 := kw QN1 (HLnb.out)
         have QN2 := kw QN2 (HLnb.out)
         have QN5 := kw QN5 (HLnb.out)
         have HB := kh HB (HLnb.out)
         have HLn := kh HLn (HLnb.out)
         have HLna := kh HLna (HLnb.out)
         by_cases hlt : nb < t3.length
         ·have HTnb := Aside0.mk hlt
          have hdl : decide (nb < t3.length) = true := decide_eq_true hlt
          have hwnb : wrap64 ((nb : Int) + 1) = (nb : Int) + 1 := by unfold wrap64; have := HLZ.out; omega
          obtain ⟨ad', hA', y0, y1, y2, y3⟩ := at_T45 (QM1.out.reads).2.2 (na : Int) (by have := HTna.out; omega) (by have := HTna.out; omega)
          obtain rfl : adna = ad' := Option.some.inj hA'
          clear hA'
          simp only [Int.toNat_natCast] at y0 y1 y2 y3
          rw [rdH HTna.out, HYy.out] at y0 y1 y2 y3
          obtain ⟨adnb, hA, z0, z1, z2, z3⟩ := at_T45 (QM2.out.reads).2.2 (nb : Int) (by omega) (by have := HTnb.out; omega)
          subst hA
          simp only [Int.toNat_natCast] at z0 z1 z2 z3
          have hrd := rdH HTnb.out
          rw [hrd] at z0 z1 z2 z3
          generalize hyx_ : t3[nb]'(HTnb.out) = z at z0 z1 z2 z3
          have HYz := Aside0.mk hyx_
          clear hrd hyx_
          obtain ⟨hze, hz3⟩ := waits_not HOK3.out HYM.out (show z ∈ t3 by rw [← HYz.out]; exact List.getElem_mem _)
          rw [hz3] at z3
          clear hz3
          have hlt1 : na < t2.length := HTna.out
          have hb2 := (blk_cell PV.out 2).trans (show _ = some (.slice (some adnb) t3.length m2_) from rfl)
          go_wp2_with (fail)
          clear hb2
          have P3 := kbd P3
          have P4 := kbd P4
          have P5 := kbd P5
          have P8 := kbd P8
          have PB := kbd PB
          have PD := kbd PD
          have PV := kbd PV
          have R1 := kwd R1
          have R2 := kwd R2
          have QW1 := kwd QW1
          have QW2 := kwd QW2
          have QW5 := kwd QW5
          have QG1 := kwd QG1
          have QG2 := kwd QG2
          have QG5 := kwd QG5
          have QM1 := kwd QM1
          have QM2 := kwd QM2
          have QM5 := kwd QM5
          have QN1 := kwd QN1
          have QN2 := kwd QN2
          have QN5 := kwd QN5
          have HB := khd HB
          have HLn := khd HLn
          have HLna := khd HLna
          have HLnb := khd HLnb
          have ZZ := Aside0.mk (And.intro ZZ.out (show W24.heap.size ≤ (W24.drew).heap.size from Nat.le_refl _))
          have HSS := (show (W24.drew).cell? ⟨bV, 1, none⟩ = some (.slice (some adna) t2.length m1_) ∧ (W24.drew).cell? ⟨bV, 2, none⟩ = some (.slice (some adnb) t3.length m2_) ∧ (W24.drew).cell? (adna.add (na * 4)) = some (.int .i64 y.f0) ∧ (W24.drew).cell? (adnb.add (nb * 4)) = some (.int .i64 z.f0) ∧ (W24.drew).cell? ⟨(adnb.add (nb * 4)).block, (adnb.add (nb * 4)).off + 3, none⟩ = some (.bool false) from ⟨(blk_cell PV.out 1).trans rfl, (blk_cell PV.out 2).trans rfl, y0, z0, z3⟩)
          refine start_ (n := 21) (S := fun w' => w'.cell? ⟨bV, 1, none⟩ = some (.slice (some adna) t2.length m1_) ∧ w'.cell? ⟨bV, 2, none⟩ = some (.slice (some adnb) t3.length m2_) ∧ w'.cell? (adna.add (na * 4)) = some (.int .i64 y.f0) ∧ w'.cell? (adnb.add (nb * 4)) = some (.int .i64 z.f0) ∧ w'.cell? ⟨(adnb.add (nb * 4)).block, (adnb.add (nb * 4)).off + 3, none⟩ = some (.bool false)) (ds := []) (bt_ 21 0) (by kernel_rfl) rfl rfl HSS (fun hHeld => ?_)
          clear HSS y0 y1 y2 y3 z0 z1 z2 z3
          generalize W24.drew = W25 at P3 P4 P5 P8 PB PD PV R1 R2 QW1 QW2 QW5 QG1 QG2 QG5 QM1 QM2 QM5 QN1 QN2 QN5 HB HLn HLna HLnb ZZ hHeld ⊢
          refine pu_ 0 (some 119) (bt_ 21 1) (by kernel_rfl) ?_
          refine tk_ 1 (some 120) (bt_ 21 3) (by kernel_rfl) hHeld ?_
          refine pu_ 2 (some 121) (bt_ 21 7) (by kernel_rfl) ?_
          refine pu_ 3 (some 122) (bt_ 21 15) (by kernel_rfl) ?_
          refine pu_ 4 (some 123) (bt_ 21 31) (by kernel_rfl) ?_
          refine tk_ 5 (some 124) (bt_ 21 63) (by kernel_rfl) hHeld ?_
          refine pu_ 6 (some 125) (bt_ 21 127) (by kernel_rfl) ?_
          refine tk_ 7 (some 126) (bt_ 21 255) (by kernel_rfl) hHeld ?_
          refine pu_ 8 (some 127) (bt_ 21 511) (by kernel_rfl) ?_
          refine pu_ 9 (some 128) (bt_ 21 1023) (by kernel_rfl) ?_
          refine pu_ 10 (some 129) (bt_ 21 2047) (by kernel_rfl) ?_
          refine tk_ 11 (some 130) (bt_ 21 4095) (by kernel_rfl) hHeld ?_
          refine pu_ 12 (some 131) (bt_ 21 8191) (by kernel_rfl) ?_
          refine pu_ 13 (some 132) (bt_ 21 16383) (by kernel_rfl) ?_
          refine pu_ 14 (some 133) (bt_ 21 32767) (by kernel_rfl) ?_
          refine tk_ 15 (some 134) (bt_ 21 65535) (by kernel_rfl) hHeld ?_
          refine pu_ 16 (some 135) (bt_ 21 131071) (by kernel_rfl) ?_
          refine pu_ 17 (some 136) (bt_ 21 262143) (by kernel_rfl) ?_
          refine pu_ 18 (some 137) (bt_ 21 524287) (by kernel_rfl) ?_
          refine tk_ 19 (some 138) (bt_ 21 1048575) (by kernel_rfl) hHeld ?_
          refine pu_ 20 (some 139) (bt_ 21 2097151) (by kernel_rfl) ?_
          clear hHeld
          refine done_ (by kernel_rfl) ?_
          go_wp2_with (fail)
          try (go_wp2_with (fail))
          go_roundw
          case rel => exact ⟨nb + 1, (by first | rfl | exact congrArg (Value.int .i64) (by omega)), ⟨HTnb.out⟩, HLnb, ⟨trivial⟩⟩
          case measure =>
           (try rw [hwnb])
           show t3.length - ((nb : Int) + 1).toNat < t3.length - (nb : Int).toNat
           have := HTnb.out
           omega
         ·have hdl : decide (nb < t3.length) = false := decide_eq_false hlt
          obtain rfl : t3.length = nb := by have := HXnb.out; omega
          clear hlt
          have hb2 := (blk_cell PV.out 2).trans (show _ = some (.slice M2 t3.length m2_) from rfl)
          go_wp2_with (fail)
          clear hb2
          try (go_wp2_with (fail))
          go_roundw
          case rel => exact ⟨na + 1, (by first | rfl | exact congrArg (Value.int .i64) (by omega)), ⟨HTna.out⟩, HLna, ⟨trivial⟩⟩
          case measure =>
           (try rw [hwna])
           show t2.length - ((na : Int) + 1).toNat < t2.length - (na : Int).toNat
           have := HTna.out
           omega
       ·have hdl : decide (na < t2.length) = false := decide_eq_false hlt
        obtain rfl : t2.length = na := by have := HXna.out; omega
        clear hlt
        have hb1 := (blk_cell PV.out 1).trans (show _ = some (.slice M1 t2.length m1_) from rfl)
        go_wp2_with (fail)
        clear hb1
        try (go_wp2_with (fail))
        go_roundw
        case rel => exact ⟨n + 1, (by first | rfl | exact congrArg (Value.int .i64) (by omega)), ⟨HTn.out⟩, HLn, ⟨trivial⟩⟩
        case measure =>
         (try rw [hwn])
         show 2 - ((n : Int) + 1).toNat < 2 - (n : Int).toNat
         have := HTn.out
         omega
     ·have hn1 : ((n : Int) == 1) = false := beq_eq_false_iff_ne.mpr (by omega)
      clear h1_
      go_wp2_with (((with_reducible refine gate_dst (N := 101) rfl ?_); refine wpList_load_row rfl 29 (.tmp 8) rfl b8 rfl 29 #[.int .i64 r1, .slice H1 r2.length h1_, .slice H2 r3.length h2_] (0, 0) _ P8o.out hu29 rfl (by kernel_rfl) ?_))
      clear hn1
      generalize W20.alloc (.cells #[.int .i64 r1, .slice H1 r2.length h1_, .slice H2 r3.length h2_] 29 (0, 0)) = W26 at ZZ P3 P4 P5 P8 PB PD PV R1 R2 QW1 QW2 QW5 QG1 QG2 QG5 QM1 QM2 QM5 QN1 QN2 QN5 HB HLn ⊢
      obtain ⟨bV, hq_⟩ : ∃ bV, bV = W20.heap.size := ⟨_, rfl⟩
      rw [← hq_] at PV ZZ ⊢
      have ZZ := Aside0.mk (And.intro ZZ.out (hq_))
      clear hq_
      go_loopw [17] (fun i wr => ∃ na : Nat, i = .int .i64 (na : Int) ∧ Aside0 (na ≤ r2.length) ∧ Aside0 (Below W26.heap.size W26 wr) ∧ Aside0 (True)) (fun i _ => r2.length - (intOf i).toNat)
      case atStart => exact ⟨0, rfl, ⟨Nat.zero_le _⟩, ⟨Below.refl _ _⟩, ⟨trivial⟩⟩
      case round =>
       obtain ⟨W27, e_⟩ : ∃ X, X = wr := ⟨_, rfl⟩
       subst e_
       obtain ⟨na, rfl, HXna, HLna, HIna⟩ := hrel
       have ZZ := Aside0.mk (And.intro ZZ.out ((HLna.out).size))
       have P3 := kb P3 (HLna.out)
       have P4 := kb P4 (HLna.out)
       have P5 := kb P5 (HLna.out)
       have P8 := kb P8 (HLna.out)
       have PB := kb PB (HLna.out)
       have PD := kb PD (HLna.out)
       have PV := kb PV (HLna.out)
       have R1 := kw R1 (HLna.out)
       have R2 := kw R2 (HLna.out)
       have QW1 := kw QW1 (HLna.out)
       have QW2 := kw QW2 (HLna.out)
       have QW5 := kw QW5 (HLna.out)
       have QG1 := kw QG1 (HLna.out)
       have QG2 := kw QG2 (HLna.out)
       have QG5 := kw QG5 (HLna.out)
       have QM1 := kw QM1 (HLna.out)
       have QM2 := kw QM2 (HLna.out)
       have QM5 := kw QM5 (HLna.out)
       have QN1 := kw QN1 (HLna.out)
       have QN2 := kw QN2 (HLna.out)
       have QN5 := kw QN5 (HLna.out)
       have HB := kh HB (HLna.out)
       have HLn := kh HLn (HLna.out)
       by_cases hlt : na < r2.length
       ·have HTna := Aside0.mk hlt
        have hdl : decide (na < r2.length) = true := decide_eq_true hlt
        have hwna : wrap64 ((na : Int) + 1) = (na : Int) + 1 := by unfold wrap64; have := HLZ.out; omega
        obtain ⟨adna, hA, y0, y1, y2, y3⟩ := at_T45 (QG1.out.reads).2.2 (na : Int) (by omega) (by have := HTna.out; omega)
        subst hA
        simp only [Int.toNat_natCast] at y0 y1 y2 y3
        have hrd := rdH HTna.out
        rw [hrd] at y0 y1 y2 y3
        generalize hyx_ : r2[na]'(HTna.out) = y at y0 y1 y2 y3
        have HYy := Aside0.mk hyx_
        clear hrd hyx_
        have HYM : Aside0 (y ∈ r2) := ⟨by rw [← HYy.out]; exact List.getElem_mem _⟩
        have hb1 := (blk_cell PV.out 1).trans (show _ = some (.slice (some adna) r2.length h1_) from rfl)
        go_wp2_with (fail)
        clear hb1 y0 y1 y2 y3
        go_loopw [18] (fun i wr => ∃ nb : Nat, i = .int .i64 (nb : Int) ∧ Aside0 (nb ≤ r3.length) ∧ Aside0 (Below W27.heap.size W27 wr) ∧ Aside0 (True)) (fun i _ => r3.length - (intOf i).toNat)
        case atStart => exact ⟨0, rfl, ⟨Nat.zero_le _⟩, ⟨Below.refl _ _⟩, ⟨trivial⟩⟩
        case round =>
         obtain ⟨W28, e_⟩ : ∃ X, X = wr := ⟨_, rfl⟩
         subst e_
         obtain ⟨nb, rfl, HXnb, HLnb, HInb⟩ := hrel
         have ZZ := Aside0.mk (And.intro ZZ.out ((HLnb.out).size))
         have P3 := kb P3 (HLnb.out)
         have P4 := kb P4 (HLnb.out)
         have P5 := kb P5 (HLnb.out)
         have P8 := kb P8 (HLnb.out)
         have PB := kb PB (HLnb.out)
         have PD := kb PD (HLnb.out)
         have PV := kb PV (HLnb.out)
         have R1 := kw R1 (HLnb.out)
         have R2 := kw R2 (HLnb.out)
         have QW1 := kw QW1 (HLnb.out)
         have QW2 := kw QW2 (HLnb.out)
         have QW5 := kw QW5 (HLnb.out)
         have QG1 := kw QG1 (HLnb.out)
         have QG2 := kw QG2 (HLnb.out)
         have QG5 := kw QG5 (HLnb.out)
         have QM1 := kw QM1 (HLnb.out)
         have QM2 := kw QM2 (HLnb.out)
         have QM5 := kw QM5 (HLnb.out)
         have QN1 := kw QN1 (HLnb.out)
         have QN2 := kw QN2 (HLnb.out)
         have QN5 := kw QN5 (HLnb.out)
         have HB := kh HB (HLnb.out)
         have HLn := kh HLn (HLnb.out)
         have HLna := kh HLna (HLnb.out)
         by_cases hlt : nb < r3.length
         ·have HTnb := Aside0.mk hlt
          have hdl : decide (nb < r3.length) = true := decide_eq_true hlt
          have hwnb : wrap64 ((nb : Int) + 1) = (nb : Int) + 1 := by unfold wrap64; have := HLZ.out; omega
          obtain ⟨ad', hA', y0, y1, y2, y3⟩ := at_T45 (QG1.out.reads).2.2 (na : Int) (by have := HTna.out; omega) (by have := HTna.out; omega)
          obtain rfl : adna = ad' := Option.some.inj hA'
          clear hA'
          simp only [Int.toNat_natCast] at y0 y1 y2 y3
          rw [rdH HTna.out, HYy.out] at y0 y1 y2 y3
          obtain ⟨adnb, hA, z0, z1, z2, z3⟩ := at_T45 (QG2.out.reads).2.2 (nb : Int) (by omega) (by have := HTnb.out; omega)
          subst hA
          simp only [Int.toNat_natCast] at z0 z1 z2 z3
          have hrd := rdH HTnb.out
          rw [hrd] at z0 z1 z2 z3
          generalize hyx_ : r3[nb]'(HTnb.out) = z at z0 z1 z2 z3
          have HYz := Aside0.mk hyx_
          clear hrd hyx_
          obtain ⟨hze, hz3⟩ := waits_not HOK2.out HYM.out (show z ∈ r3 by rw [← HYz.out]; exact List.getElem_mem _)
          rw [hz3] at z3
          clear hz3
          have hlt1 : na < r2.length := HTna.out
          have hb2 := (blk_cell PV.out 2).trans (show _ = some (.slice (some adnb) r3.length h2_) from rfl)
          go_wp2_with (fail)
          clear hb2
          have P3 := kbd P3
          have P4 := kbd P4
          have P5 := kbd P5
          have P8 := kbd P8
          have PB := kbd PB
          have PD := kbd PD
          have PV := kbd PV
          have R1 := kwd R1
          have R2 := kwd R2
          have QW1 := kwd QW1
          have QW2 := kwd QW2
          have QW5 := kwd QW5
          have QG1 := kwd QG1
          have QG2 := kwd QG2
          have QG5 := kwd QG5
          have QM1 := kwd QM1
          have QM2 := kwd QM2
          have QM5 := kwd QM5
          have QN1 := kwd QN1
          have QN2 := kwd QN2
          have QN5 := kwd QN5
          have HB := khd HB
          have HLn := khd HLn
          have HLna := khd HLna
          have HLnb := khd HLnb
          have ZZ := Aside0.mk (And.intro ZZ.out (show W28.heap.size ≤ (W28.drew).heap.size from Nat.le_refl _))
          have HSS := (show (W28.drew).cell? ⟨bV, 1, none⟩ = some (.slice (some adna) r2.length h1_) ∧ (W28.drew).cell? ⟨bV, 2, none⟩ = some (.slice (some adnb) r3.length h2_) ∧ (W28.drew).cell? (adna.add (na * 4)) = some (.int .i64 y.f0) ∧ (W28.drew).cell? (adnb.add (nb * 4)) = some (.int .i64 z.f0) ∧ (W28.drew).cell? ⟨(adnb.add (nb * 4)).block, (adnb.add (nb * 4)).off + 3, none⟩ = some (.bool false) from ⟨(blk_cell PV.out 1).trans rfl, (blk_cell PV.out 2).trans rfl, y0, z0, z3⟩)
          refine start_ (n := 21) (S := fun w' => w'.cell? ⟨bV, 1, none⟩ = some (.slice (some adna) r2.length h1_) ∧ w'.cell? ⟨bV, 2, none⟩ = some (.slice (some adnb) r3.length h2_) ∧ w'.cell? (adna.add (na * 4)) = some (.int .i64 y.f0) ∧ w'.cell? (adnb.add (nb * 4)) = some (.int .i64 z.f0) ∧ w'.cell? ⟨(adnb.add (nb * 4)).block, (adnb.add (nb * 4)).off + 3, none⟩ = some (.bool false)) (ds := []) (bt_ 21 0) (by kernel_rfl) rfl rfl HSS (fun hHeld => ?_)
          clear HSS y0 y1 y2 y3 z0 z1 z2 z3
          generalize W28.drew = W29 at P3 P4 P5 P8 PB PD PV R1 R2 QW1 QW2 QW5 QG1 QG2 QG5 QM1 QM2 QM5 QN1 QN2 QN5 HB HLn HLna HLnb ZZ hHeld ⊢
          refine pu_ 0 (some 119) (bt_ 21 1) (by kernel_rfl) ?_
          refine tk_ 1 (some 120) (bt_ 21 3) (by kernel_rfl) hHeld ?_
          refine pu_ 2 (some 121) (bt_ 21 7) (by kernel_rfl) ?_
          refine pu_ 3 (some 122) (bt_ 21 15) (by kernel_rfl) ?_
          refine pu_ 4 (some 123) (bt_ 21 31) (by kernel_rfl) ?_
          refine tk_ 5 (some 124) (bt_ 21 63) (by kernel_rfl) hHeld ?_
          refine pu_ 6 (some 125) (bt_ 21 127) (by kernel_rfl) ?_
          refine tk_ 7 (some 126) (bt_ 21 255) (by kernel_rfl) hHeld ?_
          refine pu_ 8 (some 127) (bt_ 21 511) (by kernel_rfl) ?_
          refine pu_ 9 (some 128) (bt_ 21 1023) (by kernel_rfl) ?_
          refine pu_ 10 (some 129) (bt_ 21 2047) (by kernel_rfl) ?_
          refine tk_ 11 (some 130) (bt_ 21 4095) (by kernel_rfl) hHeld ?_
          refine pu_ 12 (some 131) (bt_ 21 8191) (by kernel_rfl) ?_
          refine pu_ 13 (some 132) (bt_ 21 16383) (by kernel_rfl) ?_
          refine pu_ 14 (some 133) (bt_ 21 32767) (by kernel_rfl) ?_
          refine tk_ 15 (some 134) (bt_ 21 65535) (by kernel_rfl) hHeld ?_
          refine pu_ 16 (some 135) (bt_ 21 131071) (by kernel_rfl) ?_
          refine pu_ 17 (some 136) (bt_ 21 262143) (by kernel_rfl) ?_
          refine pu_ 18 (some 137) (bt_ 21 524287) (by kernel_rfl) ?_
          refine tk_ 19 (some 138) (bt_ 21 1048575) (by kernel_rfl) hHeld ?_
          refine pu_ 20 (some 139) (bt_ 21 2097151) (by kernel_rfl) ?_
          clear hHeld
          refine done_ (by kernel_rfl) ?_
          go_wp2_with (fail)
          try (go_wp2_with (fail))
          go_roundw
          case rel => exact ⟨nb + 1, (by first | rfl | exact congrArg (Value.int .i64) (by omega)), ⟨HTnb.out⟩, HLnb, ⟨trivial⟩⟩
          case measure =>
           (try rw [hwnb])
           show r3.length - ((nb : Int) + 1).toNat < r3.length - (nb : Int).toNat
           have := HTnb.out
           omega
         ·have hdl : decide (nb < r3.length) = false := decide_eq_false hlt
          obtain rfl : r3.length = nb := by have := HXnb.out; omega
          clear hlt
          have hb2 := (blk_cell PV.out 2).trans (show _ = some (.slice H2 r3.length h2_) from rfl)
          go_wp2_with (fail)
          clear hb2
          try (go_wp2_with (fail))
          go_roundw
          case rel => exact ⟨na + 1, (by first | rfl | exact congrArg (Value.int .i64) (by omega)), ⟨HTna.out⟩, HLna, ⟨trivial⟩⟩
          case measure =>
           (try rw [hwna])
           show r2.length - ((na : Int) + 1).toNat < r2.length - (na : Int).toNat
           have := HTna.out
           omega
       ·have hdl : decide (na < r2.length) = false := decide_eq_false hlt
        obtain rfl : r2.length = na := by have := HXna.out; omega
        clear hlt
        have hb1 := (blk_cell PV.out 1).trans (show _ = some (.slice H1 r2.length h1_) from rfl)
        go_wp2_with (fail)
        clear hb1
        try (go_wp2_with (fail))
        go_roundw
        case rel => exact ⟨n + 1, (by first | rfl | exact congrArg (Value.int .i64) (by omega)), ⟨HTn.out⟩, HLn, ⟨trivial⟩⟩
        case measure =>
         (try rw [hwn])
         show 2 - ((n : Int) + 1).toNat < 2 - (n : Int).toNat
         have := HTn.out
         omega
    ·have hdl : decide (n < 2) = false := decide_eq_false hlt
     obtain rfl : 2 = n := by have := HXn.out; omega
     clear hlt
     have hdl : decide ((2 : Nat) < 2) = false := rfl
     go_wp2_with (fail)
     go_ret
     exact ⟨rfl, HB.out⟩
theorem laws_FnLockWait.walk (a0 : Option Addr) (len0 cap0 : Nat) (z0 : List Int) (w : World) (w0 : ((a0 = none ∧ len0 = 0 ∧ cap0 = 0 ∧ z0 = []) ∨ ∃ x, a0 = some x ∧ len0 ≤ cap0 ∧ cap0 ≤ maxLen ∧ z0.length = cap0 ∧ (∀ i, i < z0.length → w.cell? (x.add i) = some (.int .u8 (z0.getD i 0))) ∧ ∀ n ∈ z0, (Lit.int .u8 n).wf = true)) : Calls Try.prog 13 #[.slice a0 len0 cap0] w fun e w' => e = .returned (.bool true) ∧ Below w.heap.size w w' := by
 obtain ⟨l0, rfl, hr0, hm0, hw0, hc0⟩ := ReadsInt.ofRowC w0
 exact FnLockWait_main _ _ l0 w (Kd.C_of_reads (d := (0 : Int)) (h1 := fun _ => rfl) hr0) hc0 hw0
end Go.Proofs.Ytjldpnhlegbjkaa.PA
