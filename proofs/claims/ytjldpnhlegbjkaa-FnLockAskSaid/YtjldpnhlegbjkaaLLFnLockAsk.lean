/- The law FnLockAsk, walked by hand: nobody holds a lock together with one who must not; for every code that draws a lock and who asks, no other condition. -/
import Derived.Test.YtjldpnhlegbjkaaD3
import Derived.Test.YtjldpnhlegbjkaaAskQ
import Derived.Deep.Cut
namespace Go.Proofs.Ytjldpnhlegbjkaa.PA
open Go.RowKit Go.Proofs.YtjldpnhlegbjkaaW.PrintWords Go.Proofs.YtjldpnhlegbjkaaW.PrintLast Go.Proofs.YtjldpnhlegbjkaaW.PrintMore Go.Proofs.Ytjldpnhlegbjkaa.PB
attribute [local go_sem] max2_int min2_int max_two min_two max_three min_three max_four min_four
set_option linter.unusedVariables false
set_option linter.unusedSimpArgs false
set_option maxHeartbeats 8000000 in
set_option maxRecDepth 100000 in
theorem FnLockAsk_main (A0 : Option Addr) (c0 : Nat) (l0 : List Int) (w : World) (hr0 : Kd.C (Kd.int .u8) w A0 l0.length l0) (hc0 : l0.length ≤ c0) (hw : ∀ x ∈ l0, (Lit.int .u8 x).wf = true) :
 Calls Try.prog 8 #[.slice A0 l0.length c0] w fun e w' => e = .returned (.bool true) ∧ Below w.heap.size w w' := by
 have hu29 := Try.underlying29
 have hu45 := Try.underlying45
 have HR0 := Aside0.mk hr0
 have HC0 := Aside0.mk hc0
 have HW := Aside0.mk hw
 have HB := Aside0.mk (Below.refl w.heap.size w)
 clear hr0 hc0 hw
 by_cases hz : 1048576 < l0.length
 ·have hzd : decide (1048576 < (l0.length : Int)) = true := decide_eq_true (by omega)
  go_enter Try.func8, Try.ntmps8
  go_wp2_with (fail)
  go_ret
  exact ⟨rfl, HB.out⟩
 ·have hzd : decide (1048576 < (l0.length : Int)) = false := decide_eq_false (by omega)
  clear hz
  go_enter Try.func8, Try.ntmps8
  go_wp2_with (fail)
  clear hzd
  refine (drawAsk_calls A0 c0 l0 w HR0.out HC0.out HW.out).mono ?_
  rintro e W1 ⟨s, l1, l2, v1, v2, x, hx9, rfl, q1, q2, hl, hb⟩
  have HX9 := Aside0.mk hx9
  clear hx9
  obtain ⟨A1, c1, e0⟩ := Kd.R_slice q1
  subst e0
  obtain ⟨A2, c2, e0⟩ := Kd.R_slice q2
  subst e0
  have SEP := Aside0.mk (show ∀ k, (Value.slice A1 l1.length c1).ownBlock = some k → (Value.slice A2 l2.length c2).ownBlock ≠ some k from fun k hk e => (q1.1 k hk) e.symm)
  have q1 := Rw.of q1 HB.out.size
  have q2 := Rw.of q2 HB.out.size
  have HL := Aside0.mk hl
  clear hl
  have Z11 := Aside0.mk ((hb).size)
  have HB := kh HB (hb)
  clear hb
  have R1 := Aside0.mk q1
  have R2 := Aside0.mk q2
  clear q1 q2
  have hb := below_alloc (Below.refl W1.heap.size W1) (.cells #[.int .i64 0, .slice none 0 0, .slice none 0 0] 29 (0, 0))
  have Z12 := Aside0.mk ((hb).size)
  have R1 := kw R1 (hb)
  have R2 := kw R2 (hb)
  have HB := kh HB (hb)
  clear hb
  have P3 := Aside0.mk (blk_new W1 (.cells #[.int .i64 0, .slice none 0 0, .slice none 0 0] 29 (0, 0)))
  have Z13 := Aside0.mk (blk_lt P3.out)
  have hb := below_alloc (Below.refl (W1.alloc (.cells #[.int .i64 0, .slice none 0 0, .slice none 0 0] 29 (0, 0))).heap.size (W1.alloc (.cells #[.int .i64 0, .slice none 0 0, .slice none 0 0] 29 (0, 0)))) (.cells #[.int .i64 0, .int .i64 0, .bool false, .bool false] 45 (0, 0))
  have Z14 := Aside0.mk ((hb).size)
  have P3 := kb P3 (hb)
  have R1 := kw R1 (hb)
  have R2 := kw R2 (hb)
  have HB := kh HB (hb)
  clear hb
  have P4 := Aside0.mk (blk_new (W1.alloc (.cells #[.int .i64 0, .slice none 0 0, .slice none 0 0] 29 (0, 0))) (.cells #[.int .i64 0, .int .i64 0, .bool false, .bool false] 45 (0, 0)))
  have Z15 := Aside0.mk (blk_lt P4.out)
  have hs1 : (W1.alloc (.cells #[.int .i64 0, .slice none 0 0, .slice none 0 0] 29 (0, 0))).heap.size = W1.heap.size + 1 := by simp
  rw [hs1] at P4 Z15
  clear hs1
  go_wp2_with (((with_reducible refine gate_store (t := 29) (p := 3) rfl ?_); refine wpList_store_row rfl 29 (.tmp 3) (.tmp 22) rfl W1.heap.size #[.int .i64 s, .slice A1 l1.length c1, .slice A2 l2.length c2] rfl rfl 29 #[.int .i64 0, .slice none 0 0, .slice none 0 0] P3.out (by kernel_rfl) rfl (by simp [Value.oneCell']) ?_; refine Aside0.out ?_))
  generalize (W1.alloc (.cells #[.int .i64 0, .slice none 0 0, .slice none 0 0] 29 (0, 0))).alloc (.cells #[.int .i64 0, .int .i64 0, .bool false, .bool false] 45 (0, 0)) = W2 at Z12 Z13 Z14 Z15 P3 P4 R1 R2 HB ⊢
  obtain ⟨b4, hb4⟩ : ∃ b4, b4 = W1.heap.size + 1 := ⟨_, rfl⟩
  rw [← hb4] at P4 Z15 ⊢
  obtain ⟨b3, hb3⟩ : ∃ b3, b3 = W1.heap.size := ⟨_, rfl⟩
  rw [← hb3] at P3 ⊢
  have Z16 := Aside0.mk (hb3)
  have Z17 := Aside0.mk (hb4)
  clear hb3 hb4
  obtain ⟨W3, e_⟩ : ∃ X, X = W2.setRow b3 #[.int .i64 s, .slice A1 l1.length c1, .slice A2 l2.length c2] := ⟨_, rfl⟩
  rw [← e_]
  have P4 := kbs P4 e_ (by have := Z11.out; have := Z12.out; have := Z13.out; have := Z14.out; have := Z15.out; have := Z16.out; have := Z17.out; omega)
  have R1 := kws R1 e_ (by have := Z11.out; have := Z12.out; have := Z13.out; have := Z14.out; have := Z15.out; have := Z16.out; have := Z17.out; omega)
  have R2 := kws R2 e_ (by have := Z11.out; have := Z12.out; have := Z13.out; have := Z14.out; have := Z15.out; have := Z16.out; have := Z17.out; omega)
  have P3 := kps P3 e_
  have HB := khs HB e_ (by have := Z11.out; have := Z12.out; have := Z13.out; have := Z14.out; have := Z15.out; have := Z16.out; have := Z17.out; omega)
  have Z18 := Aside0.mk (kzs e_)
  clear e_
  refine Aside0.mk ?_
  go_wp2_with (((with_reducible refine gate_store (t := 45) (p := 4) rfl ?_); refine wpList_store_row rfl 45 (.tmp 4) (.tmp 23) rfl b4 #[.int .i64 x.f0, .int .i64 x.f1, .bool x.f2, .bool x.f3] rfl rfl 45 #[.int .i64 0, .int .i64 0, .bool false, .bool false] P4.out (by kernel_rfl) rfl (by simp [Value.oneCell']) ?_; refine Aside0.out ?_))
  obtain ⟨W4, e_⟩ : ∃ X, X = W3.setRow b4 #[.int .i64 x.f0, .int .i64 x.f1, .bool x.f2, .bool x.f3] := ⟨_, rfl⟩
  rw [← e_]
  have P3 := kbs P3 e_ (by have := Z11.out; have := Z12.out; have := Z13.out; have := Z14.out; have := Z15.out; have := Z16.out; have := Z17.out; have := Z18.out; omega)
  have R1 := kws R1 e_ (by have := Z11.out; have := Z12.out; have := Z13.out; have := Z14.out; have := Z15.out; have := Z16.out; have := Z17.out; have := Z18.out; omega)
  have R2 := kws R2 e_ (by have := Z11.out; have := Z12.out; have := Z13.out; have := Z14.out; have := Z15.out; have := Z16.out; have := Z17.out; have := Z18.out; omega)
  have P4 := kps P4 e_
  have HB := khs HB e_ (by have := Z11.out; have := Z12.out; have := Z13.out; have := Z14.out; have := Z15.out; have := Z16.out; have := Z17.out; have := Z18.out; omega)
  have Z19 := Aside0.mk (kzs e_)
  clear e_
  refine Aside0.mk ?_
  obtain ⟨r1, r2, r3, r4, r5, hF⟩ : ∃ r1 r2 r3 r4 r5, askF s l1 l2 x = (r1, r2, r3, r4, r5) := ⟨_, _, _, _, _, rfl⟩
  have hln := ask_len s l1 l2 x
  have hln5 := ask_len5 s l1 l2 x
  rw [hF] at hln hln5
  simp only at hln hln5
  have HLR := Aside0.mk (And.intro hln hln5)
  have HASK := Aside0.mk hF
  clear hln hln5 hF
  have HLZ : Aside0 (r5.length ≤ 64 ∧ r2.length ≤ 64) := ⟨by have := HLR.out; omega⟩
  go_wp2_with (first | ((with_reducible refine gate_dst (N := 25) rfl ?_); refine wpList_load_row rfl 29 (.tmp 3) rfl b3 rfl 29 #[.int .i64 s, .slice A1 l1.length c1, .slice A2 l2.length c2] (0, 0) _ P3.out hu29 rfl (by kernel_rfl) ?_) | ((with_reducible refine gate_dst (N := 26) rfl ?_); refine wpList_load_row rfl 45 (.tmp 4) rfl b4 rfl 45 #[.int .i64 x.f0, .int .i64 x.f1, .bool x.f2, .bool x.f3] (0, 0) _ P4.out hu45 rfl (by kernel_rfl) ?_))
  refine (sask_calls s A1 c1 l1 A2 c2 l2 x r1 r2 r3 r4 r5 W4 (R1.out.reads).2.2 (R1.out.reads).2.1 (R2.out.reads).2.2 (R2.out.reads).2.1 (by have := HL.out; omega) (by have := HL.out; omega) HASK.out).mono ?_
  rintro e W5 ⟨v1, v2, v4, rfl, q1, q2, q4, hb⟩
  have SAa := Aside0.mk (show ∀ k, v1.ownBlock = some k → v2.ownBlock ≠ some k ∧ v4.ownBlock ≠ some k from fun k hk => ⟨fun e => (q1.1 k hk).1 e.symm, fun e => (q1.1 k hk).2 e.symm⟩)
  have SBa := Aside0.mk (show ∀ k, v2.ownBlock = some k → v4.ownBlock ≠ some k from fun k hk e => (q2.1 k hk).2 e.symm)
  have q1 := Rw.of q1 HB.out.size
  have q2 := Rw.of q2 HB.out.size
  have q4 := Rw.of q4 HB.out.size
  have Z20 := Aside0.mk ((hb).size)
  have P3 := kb P3 (hb)
  have P4 := kb P4 (hb)
  have R1 := kw R1 (hb)
  have R2 := kw R2 (hb)
  have HB := kh HB (hb)
  clear hb
  have QW1 := Aside0.mk q1
  have QW2 := Aside0.mk q2
  have QW5 := Aside0.mk q4
  clear q1 q2 q4
  obtain ⟨V1, v1_, e0⟩ := Rw.slice QW1.out
  subst e0
  obtain ⟨V2, v2_, e0⟩ := Rw.slice QW2.out
  subst e0
  obtain ⟨V5, v5_, e0⟩ := Rw.slice QW5.out
  subst e0
  have hb := below_alloc (Below.refl W5.heap.size W5) (.cells #[.int .i64 r1, .slice V1 r2.length v1_, .slice V2 r3.length v2_] 29 (0, 0))
  have Z21 := Aside0.mk ((hb).size)
  have P3 := kb P3 (hb)
  have P4 := kb P4 (hb)
  have R1 := kw R1 (hb)
  have R2 := kw R2 (hb)
  have QW1 := kw QW1 (hb)
  have QW2 := kw QW2 (hb)
  have QW5 := kw QW5 (hb)
  have HB := kh HB (hb)
  clear hb
  have P5 := Aside0.mk (blk_new W5 (.cells #[.int .i64 r1, .slice V1 r2.length v1_, .slice V2 r3.length v2_] 29 (0, 0)))
  have Z22 := Aside0.mk (blk_lt P5.out)
  go_wp2_with (((with_reducible refine gate_dst (N := 31) rfl ?_); refine wpList_load_row rfl 29 (.tmp 3) rfl b3 rfl 29 #[.int .i64 s, .slice A1 l1.length c1, .slice A2 l2.length c2] (0, 0) _ P3.out hu29 rfl (by kernel_rfl) ?_))
  generalize W5.alloc (.cells #[.int .i64 r1, .slice V1 r2.length v1_, .slice V2 r3.length v2_] 29 (0, 0)) = W6 at Z21 Z22 P3 P4 P5 R1 R2 QW1 QW2 QW5 HB ⊢
  obtain ⟨b5, hq_⟩ : ∃ b5, b5 = W5.heap.size := ⟨_, rfl⟩
  rw [← hq_] at P5 Z22 ⊢
  have Z23 := Aside0.mk (hq_)
  clear hq_
  refine (okS s A1 c1 l1 A2 c2 l2 W6 (R1.out.reads).2.2 (R1.out.reads).2.1 (R2.out.reads).2.2 (R2.out.reads).2.1 (by have := HL.out; omega) (by have := HL.out; omega)).mono ?_
  rintro e W7 ⟨rfl, hb⟩
  have Z24 := Aside0.mk ((hb).size)
  have P3 := kb P3 (hb)
  have P4 := kb P4 (hb)
  have P5 := kb P5 (hb)
  have R1 := kw R1 (hb)
  have R2 := kw R2 (hb)
  have QW1 := kw QW1 (hb)
  have QW2 := kw QW2 (hb)
  have QW5 := kw QW5 (hb)
  have HB := kh HB (hb)
  clear hb
  go_wp2_with (first | ((with_reducible refine gate_dst (N := 34) rfl ?_); refine wpList_load_row rfl 29 (.tmp 3) rfl b3 rfl 29 #[.int .i64 s, .slice A1 l1.length c1, .slice A2 l2.length c2] (0, 0) _ P3.out hu29 rfl (by kernel_rfl) ?_) | ((with_reducible refine gate_dst (N := 35) rfl ?_); refine wpList_load_row rfl 45 (.tmp 4) rfl b4 rfl 45 #[.int .i64 x.f0, .int .i64 x.f1, .bool x.f2, .bool x.f3] (0, 0) _ P4.out hu45 rfl (by kernel_rfl) ?_))
  refine (ask_calls s A1 c1 l1 A2 c2 l2 x r1 r2 r3 r4 r5 W7 (R1.out.reads).2.2 (R1.out.reads).2.1 (R2.out.reads).2.2 (R2.out.reads).2.1 (by have := HL.out; omega) (by have := HL.out; omega) HASK.out).mono ?_
  rintro e W8 ⟨v1, v2, v4, rfl, q1, q2, q4, hb⟩
  have SAb := Aside0.mk (show ∀ k, v1.ownBlock = some k → v2.ownBlock ≠ some k ∧ v4.ownBlock ≠ some k from fun k hk => ⟨fun e => (q1.1 k hk).1 e.symm, fun e => (q1.1 k hk).2 e.symm⟩)
  have SBb := Aside0.mk (show ∀ k, v2.ownBlock = some k → v4.ownBlock ≠ some k from fun k hk e => (q2.1 k hk).2 e.symm)
  have q1 := Rw.of q1 HB.out.size
  have q2 := Rw.of q2 HB.out.size
  have q4 := Rw.of q4 HB.out.size
  have Z25 := Aside0.mk ((hb).size)
  have P3 := kb P3 (hb)
  have P4 := kb P4 (hb)
  have P5 := kb P5 (hb)
  have R1 := kw R1 (hb)
  have R2 := kw R2 (hb)
  have QW1 := kw QW1 (hb)
  have QW2 := kw QW2 (hb)
  have QW5 := kw QW5 (hb)
  have HB := kh HB (hb)
  clear hb
  have QG1 := Aside0.mk q1
  have QG2 := Aside0.mk q2
  have QG5 := Aside0.mk q4
  clear q1 q2 q4
  obtain ⟨H1, h1_, e0⟩ := Rw.slice QG1.out
  subst e0
  obtain ⟨H2, h2_, e0⟩ := Rw.slice QG2.out
  subst e0
  obtain ⟨H5, h5_, e0⟩ := Rw.slice QG5.out
  subst e0
  have hb := below_alloc (Below.refl W8.heap.size W8) (.cells #[.int .i64 r1, .slice H1 r2.length h1_, .slice H2 r3.length h2_] 29 (0, 0))
  have Z26 := Aside0.mk ((hb).size)
  have P3 := kb P3 (hb)
  have P4 := kb P4 (hb)
  have P5 := kb P5 (hb)
  have R1 := kw R1 (hb)
  have R2 := kw R2 (hb)
  have QW1 := kw QW1 (hb)
  have QW2 := kw QW2 (hb)
  have QW5 := kw QW5 (hb)
  have QG1 := kw QG1 (hb)
  have QG2 := kw QG2 (hb)
  have QG5 := kw QG5 (hb)
  have HB := kh HB (hb)
  clear hb
  have P9 := Aside0.mk (blk_new W8 (.cells #[.int .i64 r1, .slice H1 r2.length h1_, .slice H2 r3.length h2_] 29 (0, 0)))
  have Z27 := Aside0.mk (blk_lt P9.out)
  have hP9_0 := (blk_cell P9.out 0).trans (show _ = some (.int .i64 r1) from rfl)
  have hP9_1 := (blk_cell P9.out 1).trans (show _ = some (.slice H1 r2.length h1_) from rfl)
  have hP9_2 := (blk_cell P9.out 2).trans (show _ = some (.slice H2 r3.length h2_) from rfl)
  have hP5_0 := (blk_cell P5.out 0).trans (show _ = some (.int .i64 r1) from rfl)
  have hP5_1 := (blk_cell P5.out 1).trans (show _ = some (.slice V1 r2.length v1_) from rfl)
  have hP5_2 := (blk_cell P5.out 2).trans (show _ = some (.slice V2 r3.length v2_) from rfl)
  go_wp2_with (fail)
  clear hP9_0 hP9_1 hP9_2 hP5_0 hP5_1 hP5_2
  generalize W8.alloc (.cells #[.int .i64 r1, .slice H1 r2.length h1_, .slice H2 r3.length h2_] 29 (0, 0)) = W9 at Z26 Z27 P3 P4 P5 P9 R1 R2 QW1 QW2 QW5 QG1 QG2 QG5 HB ⊢
  obtain ⟨b9, hq_⟩ : ∃ b9, b9 = W8.heap.size := ⟨_, rfl⟩
  rw [← hq_] at P9 Z27 ⊢
  have Z28 := Aside0.mk (hq_)
  clear hq_
  refine (loLock_eq r1 H1 h1_ r2 H2 h2_ r3 V1 v1_ V2 v2_ W9 (QG1.out.reads).2.2 (QG1.out.reads).2.1 (QG2.out.reads).2.2 (QG2.out.reads).2.1 (QW1.out.reads).2.2 (QW1.out.reads).2.1 (QW2.out.reads).2.2 (QW2.out.reads).2.1 (by have := HLR.out; omega) (by have := HLR.out; omega)).mono ?_
  rintro e W10 ⟨rfl, hb⟩
  have Z29 := Aside0.mk ((hb).size)
  have P3 := kb P3 (hb)
  have P4 := kb P4 (hb)
  have P5 := kb P5 (hb)
  have P9 := kb P9 (hb)
  have R1 := kw R1 (hb)
  have R2 := kw R2 (hb)
  have QW1 := kw QW1 (hb)
  have QW2 := kw QW2 (hb)
  have QW5 := kw QW5 (hb)
  have QG1 := kw QG1 (hb)
  have QG2 := kw QG2 (hb)
  have QG5 := kw QG5 (hb)
  have HB := kh HB (hb)
  clear hb
  go_wp2_with (fail)
  refine (loHolds_eq H5 h5_ r5 V5 v5_ W10 (QG5.out.reads).2.2 (QG5.out.reads).2.1 (QW5.out.reads).2.2 (QW5.out.reads).2.1 (by have := HLR.out; omega)).mono ?_
  rintro e W11 ⟨rfl, hb⟩
  have Z30 := Aside0.mk ((hb).size)
  have P3 := kb P3 (hb)
  have P4 := kb P4 (hb)
  have P5 := kb P5 (hb)
  have P9 := kb P9 (hb)
  have R1 := kw R1 (hb)
  have R2 := kw R2 (hb)
  have QW1 := kw QW1 (hb)
  have QW2 := kw QW2 (hb)
  have QW5 := kw QW5 (hb)
  have QG1 := kw QG1 (hb)
  have QG2 := kw QG2 (hb)
  have QG5 := kw QG5 (hb)
  have HB := kh HB (hb)
  clear hb
  have hP3_0 := (blk_cell P3.out 0).trans (show _ = some (.int .i64 s) from rfl)
  have hP3_1 := (blk_cell P3.out 1).trans (show _ = some (.slice A1 l1.length c1) from rfl)
  have hP3_2 := (blk_cell P3.out 2).trans (show _ = some (.slice A2 l2.length c2) from rfl)
  go_wp2_with (fail)
  clear hP3_0 hP3_1 hP3_2
  refine (okI s A1 c1 l1 A2 c2 l2 W11 (R1.out.reads).2.2 (R1.out.reads).2.1 (R2.out.reads).2.2 (R2.out.reads).2.1 (by have := HL.out; omega) (by have := HL.out; omega)).mono ?_
  rintro e W12 ⟨rfl, hb⟩
  have Z31 := Aside0.mk ((hb).size)
  have P3 := kb P3 (hb)
  have P4 := kb P4 (hb)
  have P5 := kb P5 (hb)
  have P9 := kb P9 (hb)
  have R1 := kw R1 (hb)
  have R2 := kw R2 (hb)
  have QW1 := kw QW1 (hb)
  have QW2 := kw QW2 (hb)
  have QW5 := kw QW5 (hb)
  have QG1 := kw QG1 (hb)
  have QG2 := kw QG2 (hb)
  have QG5 := kw QG5 (hb)
  have HB := kh HB (hb)
  clear hb
  cases hok : lockB s l1 l2 with
  | false =>
   have hn := HASK.out
   rw [ask_none hok] at hn
   simp only [Prod.mk.injEq] at hn
   obtain ⟨rfl, rfl, rfl, rfl, rfl⟩ := hn
   go_wp2_with (fail)
   go_ret
   exact ⟨rfl, HB.out⟩
  | true =>
   have HOK := Aside0.mk hok
   have HTK := Aside0.mk (ask_taken hok HASK.out)
   have HOK2 := Aside0.mk (ask_ok hok HASK.out)
   clear hok
   go_wp2_with (fail)
   have ZZ := Aside0.mk (And.intro Z11.out (And.intro Z12.out (And.intro Z13.out (And.intro Z14.out (And.intro Z15.out (And.intro Z16.out (And.intro Z17.out (And.intro Z18.out (And.intro Z19.out (And.intro Z20.out (And.intro Z21.out (And.intro Z22.out (And.intro Z23.out (And.intro Z24.out (And.intro Z25.out (And.intro Z26.out (And.intro Z27.out (And.intro Z28.out (And.intro Z29.out (And.intro Z30.out Z31.out))))))))))))))))))))
   go_loopw [12] (fun i wr => ∃ n : Nat, i = .int .i64 (n : Int) ∧ Aside0 (n ≤ r5.length) ∧ Aside0 (Below W12.heap.size W12 wr) ∧ Aside0 (True)) (fun i _ => r5.length - (intOf i).toNat)
   case atStart => exact ⟨0, rfl, ⟨Nat.zero_le _⟩, ⟨Below.refl _ _⟩, ⟨trivial⟩⟩
   case round =>
    obtain ⟨W13, e_⟩ : ∃ X, X = wr := ⟨_, rfl⟩
    subst e_
    obtain ⟨n, rfl, HXn, HLn, HIn⟩ := hrel
    have ZZ := Aside0.mk (And.intro ZZ.out ((HLn.out).size))
    have P3 := kb P3 (HLn.out)
    have P4 := kb P4 (HLn.out)
    have P5 := kb P5 (HLn.out)
    have P9 := kb P9 (HLn.out)
    have R1 := kw R1 (HLn.out)
    have R2 := kw R2 (HLn.out)
    have QW1 := kw QW1 (HLn.out)
    have QW2 := kw QW2 (HLn.out)
    have QW5 := kw QW5 (HLn.out)
    have QG1 := kw QG1 (HLn.out)
    have QG2 := kw QG2 (HLn.out)
    have QG5 := kw QG5 (HLn.out)
    have HB := kh HB (HLn.out)
    by_cases hlt : n < r5.length
    ·have HTn := Aside0.mk hlt
     have hdl : decide (n < r5.length) = true := decide_eq_true hlt
     have hwn : wrap64 ((n : Int) + 1) = (n : Int) + 1 := by unfold wrap64; have := HLZ.out; omega
     obtain ⟨adn, hA, y0, y1, y2, y3⟩ := at_T45 (QG5.out.reads).2.2 (n : Int) (by omega) (by have := HTn.out; omega)
     subst hA
     simp only [Int.toNat_natCast] at y0 y1 y2 y3
     have hrd := rdH HTn.out
     rw [hrd] at y0 y1 y2 y3
     generalize hyx_ : r5[n]'(HTn.out) = y at y0 y1 y2 y3
     have HYy := Aside0.mk hyx_
     clear hrd hyx_
     have HYM : Aside0 (y ∈ r5) := ⟨by rw [← HYy.out]; exact List.getElem_mem _⟩
     obtain ⟨⟨hk1, hk2⟩, hk3⟩ := HTK.out y HYM.out
     have HK2 := Aside0.mk hk2
     have HK3 := Aside0.mk hk3
     have hld : decide (y.f0 ≤ x.f0) = false := decide_eq_false (by omega)
     rw [hk1] at y3
     clear hk1 hk2 hk3
     go_wp2_with (fail)
     have P3 := kbd P3
     have P4 := kbd P4
     have P5 := kbd P5
     have P9 := kbd P9
     have R1 := kwd R1
     have R2 := kwd R2
     have QW1 := kwd QW1
     have QW2 := kwd QW2
     have QW5 := kwd QW5
     have QG1 := kwd QG1
     have QG2 := kwd QG2
     have QG5 := kwd QG5
     have HB := khd HB
     have HLn := khd HLn
     have ZZ := Aside0.mk (And.intro ZZ.out (show W13.heap.size ≤ (W13.drew).heap.size from Nat.le_refl _))
     have HSS := (show (W13.drew).cell? ⟨(adn.add (n * 4)).block, (adn.add (n * 4)).off + 3, none⟩ = some (.bool false) ∧ (W13.drew).cell? (adn.add (n * 4)) = some (.int .i64 y.f0) ∧ (W13.drew).cell? ⟨b4, 0, none⟩ = some (.int .i64 x.f0) from ⟨y3, y0, (blk_cell P4.out 0).trans rfl⟩)
     refine start_ (n := 15) (S := fun w' => w'.cell? ⟨(adn.add (n * 4)).block, (adn.add (n * 4)).off + 3, none⟩ = some (.bool false) ∧ w'.cell? (adn.add (n * 4)) = some (.int .i64 y.f0) ∧ w'.cell? ⟨b4, 0, none⟩ = some (.int .i64 x.f0)) (ds := []) (bt_ 15 0) (by kernel_rfl) rfl rfl HSS (fun hHeld => ?_)
     clear HSS y0 y1 y2 y3
     generalize W13.drew = W14 at P3 P4 P5 P9 R1 R2 QW1 QW2 QW5 QG1 QG2 QG5 HB HLn ZZ hHeld ⊢
     refine pu_ 0 (some 76) (bt_ 15 1) (by kernel_rfl) ?_
     refine pu_ 1 (some 77) (bt_ 15 3) (by kernel_rfl) ?_
     refine pu_ 2 (some 78) (bt_ 15 7) (by kernel_rfl) ?_
     refine pu_ 3 (some 79) (bt_ 15 15) (by kernel_rfl) ?_
     refine tk_ 4 (some 80) (bt_ 15 31) (by kernel_rfl) hHeld ?_
     refine pu_ 5 (some 81) (bt_ 15 63) (by kernel_rfl) ?_
     refine pu_ 6 (some 82) (bt_ 15 127) (by kernel_rfl) ?_
     refine pu_ 7 (some 83) (bt_ 15 255) (by kernel_rfl) ?_
     refine pu_ 8 (some 84) (bt_ 15 511) (by kernel_rfl) ?_
     refine pu_ 9 (some 85) (bt_ 15 1023) (by kernel_rfl) ?_
     refine tk_ 10 (some 86) (bt_ 15 2047) (by kernel_rfl) hHeld ?_
     refine pu_ 11 (some 87) (bt_ 15 4095) (by kernel_rfl) ?_
     refine tk_ 12 (some 88) (bt_ 15 8191) (by kernel_rfl) hHeld ?_
     refine pu_ 13 (some 89) (bt_ 15 16383) (by kernel_rfl) ?_
     refine pu_ 14 (some 90) (bt_ 15 32767) (by kernel_rfl) ?_
     clear hHeld
     refine done_ (by kernel_rfl) ?_
     go_wp2_with (fail)
     go_loopw [13] (fun i wr => ∃ m : Nat, i = .int .i64 (m : Int) ∧ Aside0 (m ≤ r2.length) ∧ Aside0 (Below W14.heap.size W14 wr) ∧ Aside0 (True)) (fun i _ => r2.length - (intOf i).toNat)
     case atStart => exact ⟨0, rfl, ⟨Nat.zero_le _⟩, ⟨Below.refl _ _⟩, ⟨trivial⟩⟩
     case round =>
      obtain ⟨W15, e_⟩ : ∃ X, X = wr := ⟨_, rfl⟩
      subst e_
      obtain ⟨m, rfl, HXm, HLm, HIm⟩ := hrel
      have ZZ := Aside0.mk (And.intro ZZ.out ((HLm.out).size))
      have P3 := kb P3 (HLm.out)
      have P4 := kb P4 (HLm.out)
      have P5 := kb P5 (HLm.out)
      have P9 := kb P9 (HLm.out)
      have R1 := kw R1 (HLm.out)
      have R2 := kw R2 (HLm.out)
      have QW1 := kw QW1 (HLm.out)
      have QW2 := kw QW2 (HLm.out)
      have QW5 := kw QW5 (HLm.out)
      have QG1 := kw QG1 (HLm.out)
      have QG2 := kw QG2 (HLm.out)
      have QG5 := kw QG5 (HLm.out)
      have HB := kh HB (HLm.out)
      have HLn := kh HLn (HLm.out)
      by_cases hlt : m < r2.length
      ·have HTm := Aside0.mk hlt
       have hdl : decide (m < r2.length) = true := decide_eq_true hlt
       have hwm : wrap64 ((m : Int) + 1) = (m : Int) + 1 := by unfold wrap64; have := HLZ.out; omega
       obtain ⟨ad', hA', y0, y1, y2, y3⟩ := at_T45 (QG5.out.reads).2.2 (n : Int) (by have := HTn.out; omega) (by have := HTn.out; omega)
       obtain rfl : adn = ad' := Option.some.inj hA'
       clear hA'
       simp only [Int.toNat_natCast] at y0 y1 y2 y3
       rw [rdH HTn.out, HYy.out] at y0 y1 y2 y3
       obtain ⟨adm, hA, z0, z1, z2, z3⟩ := at_T45 (QG1.out.reads).2.2 (m : Int) (by omega) (by have := HTm.out; omega)
       subst hA
       simp only [Int.toNat_natCast] at z0 z1 z2 z3
       have hrd := rdH HTm.out
       rw [hrd] at z0 z1 z2 z3
       generalize hyx_ : r2[m]'(HTm.out) = z at z0 z1 z2 z3
       have HYz := Aside0.mk hyx_
       clear hrd hyx_
       have hze : (z.f0 == y.f0) = false := beq_eq_false_iff_ne.mpr (HK3.out z (by rw [← HYz.out]; exact List.getElem_mem _))
       have hb1 := (blk_cell P9.out 1).trans (show _ = some (.slice (some adm) r2.length h1_) from rfl)
       go_wp2_with (fail)
       clear hb1
       have P3 := kbd P3
       have P4 := kbd P4
       have P5 := kbd P5
       have P9 := kbd P9
       have R1 := kwd R1
       have R2 := kwd R2
       have QW1 := kwd QW1
       have QW2 := kwd QW2
       have QW5 := kwd QW5
       have QG1 := kwd QG1
       have QG2 := kwd QG2
       have QG5 := kwd QG5
       have HB := khd HB
       have HLn := khd HLn
       have HLm := khd HLm
       have ZZ := Aside0.mk (And.intro ZZ.out (show W15.heap.size ≤ (W15.drew).heap.size from Nat.le_refl _))
       have HSS := (show (W15.drew).cell? ⟨b9, 1, none⟩ = some (.slice (some adm) r2.length h1_) ∧ (W15.drew).cell? (adm.add (m * 4)) = some (.int .i64 z.f0) ∧ (W15.drew).cell? (adn.add (n * 4)) = some (.int .i64 y.f0) from ⟨(blk_cell P9.out 1).trans rfl, z0, y0⟩)
       refine start_ (n := 12) (S := fun w' => w'.cell? ⟨b9, 1, none⟩ = some (.slice (some adm) r2.length h1_) ∧ w'.cell? (adm.add (m * 4)) = some (.int .i64 z.f0) ∧ w'.cell? (adn.add (n * 4)) = some (.int .i64 y.f0)) (ds := []) (bt_ 12 0) (by kernel_rfl) rfl rfl HSS (fun hHeld => ?_)
       clear HSS y0 y1 y2 y3 z0 z1 z2 z3
       generalize W15.drew = W16 at P3 P4 P5 P9 R1 R2 QW1 QW2 QW5 QG1 QG2 QG5 HB HLn HLm ZZ hHeld ⊢
       refine pu_ 0 (some 98) (bt_ 12 1) (by kernel_rfl) ?_
       refine tk_ 1 (some 99) (bt_ 12 3) (by kernel_rfl) hHeld ?_
       refine pu_ 2 (some 100) (bt_ 12 7) (by kernel_rfl) ?_
       refine pu_ 3 (some 101) (bt_ 12 15) (by kernel_rfl) ?_
       refine pu_ 4 (some 102) (bt_ 12 31) (by kernel_rfl) ?_
       refine tk_ 5 (some 103) (bt_ 12 63) (by kernel_rfl) hHeld ?_
       refine pu_ 6 (some 104) (bt_ 12 127) (by kernel_rfl) ?_
       refine pu_ 7 (some 105) (bt_ 12 255) (by kernel_rfl) ?_
       refine pu_ 8 (some 106) (bt_ 12 511) (by kernel_rfl) ?_
       refine pu_ 9 (some 107) (bt_ 12 1023) (by kernel_rfl) ?_
       refine tk_ 10 (some 108) (bt_ 12 2047) (by kernel_rfl) hHeld ?_
       refine pu_ 11 (some 109) (bt_ 12 4095) (by kernel_rfl) ?_
       clear hHeld
       refine done_ (by kernel_rfl) ?_
       go_wp2_with (fail)
       try (go_wp2_with (fail))
       go_roundw
       case rel => exact ⟨m + 1, (by first | rfl | exact congrArg (Value.int .i64) (by omega)), ⟨HTm.out⟩, HLm, ⟨trivial⟩⟩
       case measure =>
        (try rw [hwm])
        show r2.length - ((m : Int) + 1).toNat < r2.length - (m : Int).toNat
        have := HTm.out
        omega
      ·have hdl : decide (m < r2.length) = false := decide_eq_false hlt
       obtain rfl : r2.length = m := by have := HXm.out; omega
       clear hlt
       have hb1 := (blk_cell P9.out 1).trans (show _ = some (.slice H1 r2.length h1_) from rfl)
       go_wp2_with (fail)
       clear hb1
       try (go_wp2_with (fail))
       go_roundw
       case rel => exact ⟨n + 1, (by first | rfl | exact congrArg (Value.int .i64) (by omega)), ⟨HTn.out⟩, HLn, ⟨trivial⟩⟩
       case measure =>
        (try rw [hwn])
        show r5.length - ((n : Int) + 1).toNat < r5.length - (n : Int).toNat
        have := HTn.out
        omega
    ·have hdl : decide (n < r5.length) = false := decide_eq_false hlt
     obtain rfl : r5.length = n := by have := HXn.out; omega
     clear hlt
     go_wp2_with (fail)
     clear hdl
     go_loopw [14] (fun i wr => ∃ na : Nat, i = .int .i64 (na : Int) ∧ Aside0 (na ≤ r2.length) ∧ Aside0 (Below W13.heap.size W13 wr) ∧ Aside0 (True)) (fun i _ => r2.length - (intOf i).toNat)
     case atStart => exact ⟨0, rfl, ⟨Nat.zero_le _⟩, ⟨Below.refl _ _⟩, ⟨trivial⟩⟩
     case round =>
      obtain ⟨W17, e_⟩ : ∃ X, X = wr := ⟨_, rfl⟩
      subst e_
      obtain ⟨na, rfl, HXna, HLna, HIna⟩ := hrel
      have ZZ := Aside0.mk (And.intro ZZ.out ((HLna.out).size))
      have P3 := kb P3 (HLna.out)
      have P4 := kb P4 (HLna.out)
      have P5 := kb P5 (HLna.out)
      have P9 := kb P9 (HLna.out)
      have R1 := kw R1 (HLna.out)
      have R2 := kw R2 (HLna.out)
      have QW1 := kw QW1 (HLna.out)
      have QW2 := kw QW2 (HLna.out)
      have QW5 := kw QW5 (HLna.out)
      have QG1 := kw QG1 (HLna.out)
      have QG2 := kw QG2 (HLna.out)
      have QG5 := kw QG5 (HLna.out)
      have HB := kh HB (HLna.out)
      by_cases hlt : na < r2.length
      ·have HTna := Aside0.mk hlt
       have hdl : decide (na < r2.length) = true := decide_eq_true hlt
       have hwna : wrap64 ((na : Int) + 1) = (na : Int) + 1 := by unfold wrap64; have := HLZ.out; omega
       obtain ⟨adna, hA, y0, y1, y2, y3⟩ := at_T45 (QG1.out.reads).2.2 (na : Int) (by omega) (by have := HTna.out; omega)
       subst hA
       simp only [Int.toNat_natCast] at y0 y1 y2 y3
       have hrd := rdH HTna.out
       rw [hrd] at y0 y1 y2 y3
       generalize hyx_ : r2[na]'(HTna.out) = y at y0 y1 y2 y3
       have HYy := Aside0.mk hyx_
       clear hrd hyx_
       have hb1 := (blk_cell P9.out 1).trans (show _ = some (.slice (some adna) r2.length h1_) from rfl)
       go_wp2_with (fail)
       clear hb1 y0 y1 y2 y3
       have HLZ := HLZ
       go_loopw [15] (fun i wr => ∃ m : Nat, i = .int .i64 (m : Int) ∧ Aside0 (m ≤ na) ∧ Aside0 (Below W17.heap.size W17 wr) ∧ Aside0 (True)) (fun i _ => na - (intOf i).toNat)
       case atStart => exact ⟨0, rfl, ⟨Nat.zero_le _⟩, ⟨Below.refl _ _⟩, ⟨trivial⟩⟩
       case round =>
        obtain ⟨W18, e_⟩ : ∃ X, X = wr := ⟨_, rfl⟩
        subst e_
        obtain ⟨m, rfl, HXm, HLm, HIm⟩ := hrel
        have ZZ := Aside0.mk (And.intro ZZ.out ((HLm.out).size))
        have P3 := kb P3 (HLm.out)
        have P4 := kb P4 (HLm.out)
        have P5 := kb P5 (HLm.out)
        have P9 := kb P9 (HLm.out)
        have R1 := kw R1 (HLm.out)
        have R2 := kw R2 (HLm.out)
        have QW1 := kw QW1 (HLm.out)
        have QW2 := kw QW2 (HLm.out)
        have QW5 := kw QW5 (HLm.out)
        have QG1 := kw QG1 (HLm.out)
        have QG2 := kw QG2 (HLm.out)
        have QG5 := kw QG5 (HLm.out)
        have HB := kh HB (HLm.out)
        have HLna := kh HLna (HLm.out)
        by_cases hlt : m < na
        ·have HTm := Aside0.mk hlt
         have hdl : decide (m < na) = true := decide_eq_true hlt
         have hwm : wrap64 ((m : Int) + 1) = (m : Int) + 1 := by unfold wrap64; have := HLZ.out; omega
         obtain ⟨ad', hA', y0, y1, y2, y3⟩ := at_T45 (QG1.out.reads).2.2 (na : Int) (by have := HTna.out; omega) (by have := HTna.out; omega)
         obtain rfl : adna = ad' := Option.some.inj hA'
         clear hA'
         simp only [Int.toNat_natCast] at y0 y1 y2 y3
         rw [rdH HTna.out, HYy.out] at y0 y1 y2 y3
         have HTm2 : Aside0 (m < r2.length) := ⟨by have := HTna.out; have := HTm.out; omega⟩
         obtain ⟨ad', hA', z0, z1, z2, z3⟩ := at_T45 (QG1.out.reads).2.2 (m : Int) (by omega) (by have := HTm2.out; omega)
         obtain rfl : adna = ad' := Option.some.inj hA'
         clear hA'
         simp only [Int.toNat_natCast] at z0 z1 z2 z3
         rw [rdH HTm2.out] at z0 z1 z2 z3
         obtain ⟨hs1, hs2⟩ := held_share HOK2.out HTna.out HTm.out
         rw [HYy.out] at hs1
         rw [hs1] at y2
         rw [hs2] at z2
         clear hs1 hs2 y0 y1 y3 z0 z1 z3
         have hlt2 : m < r2.length := HTm2.out
         have hlt3 : na < r2.length := HTna.out
         have hb1 := (blk_cell P9.out 1).trans (show _ = some (.slice (some adna) r2.length h1_) from rfl)
         go_wp2_with (fail)
         try (go_wp2_with (fail))
         go_roundw
         case rel => exact ⟨m + 1, (by first | rfl | exact congrArg (Value.int .i64) (by omega)), ⟨HTm.out⟩, HLm, ⟨trivial⟩⟩
         case measure =>
          (try rw [hwm])
          show na - ((m : Int) + 1).toNat < na - (m : Int).toNat
          have := HTm.out
          omega
        ·have hdl : decide (m < na) = false := decide_eq_false hlt
         obtain rfl : na = m := by have := HXm.out; omega
         clear hlt
         go_wp2_with (fail)
         try (go_wp2_with (fail))
         go_roundw
         case rel => exact ⟨na + 1, (by first | rfl | exact congrArg (Value.int .i64) (by omega)), ⟨HTna.out⟩, HLna, ⟨trivial⟩⟩
         case measure =>
          (try rw [hwna])
          show r2.length - ((na : Int) + 1).toNat < r2.length - (na : Int).toNat
          have := HTna.out
          omega
      ·have hdl : decide (na < r2.length) = false := decide_eq_false hlt
       obtain rfl : r2.length = na := by have := HXna.out; omega
       clear hlt
       have hb1 := (blk_cell P9.out 1).trans (show _ = some (.slice H1 r2.length h1_) from rfl)
       go_wp2_with (((with_reducible refine gate_dst (N := 138) rfl ?_); refine wpList_load_row rfl 29 (.tmp 9) rfl b9 rfl 29 #[.int .i64 r1, .slice H1 r2.length h1_, .slice H2 r3.length h2_] (0, 0) _ P9.out hu29 rfl (by kernel_rfl) ?_))
       clear hb1 hdl
       refine (okI r1 H1 h1_ r2 H2 h2_ r3 W17 (QG1.out.reads).2.2 (QG1.out.reads).2.1 (QG2.out.reads).2.2 (QG2.out.reads).2.1 (by have := HLR.out; omega) (by have := HLR.out; omega)).mono ?_
       rintro e W19 ⟨rfl, hb⟩
       have ZZ := Aside0.mk (And.intro ZZ.out ((hb).size))
       have P3 := kb P3 (hb)
       have P4 := kb P4 (hb)
       have P5 := kb P5 (hb)
       have P9 := kb P9 (hb)
       have R1 := kw R1 (hb)
       have R2 := kw R2 (hb)
       have QW1 := kw QW1 (hb)
       have QW2 := kw QW2 (hb)
       have QW5 := kw QW5 (hb)
       have QG1 := kw QG1 (hb)
       have QG2 := kw QG2 (hb)
       have QG5 := kw QG5 (hb)
       have HB := kh HB (hb)
       clear hb
       have hok2 : lockB r1 r2 r3 = true := HOK2.out
       rw [hok2]
       go_wp2_with (fail)
       go_ret
       exact ⟨rfl, HB.out⟩
theorem laws_FnLockAsk.walk (a0 : Option Addr) (len0 cap0 : Nat) (z0 : List Int) (w : World) (w0 : ((a0 = none ∧ len0 = 0 ∧ cap0 = 0 ∧ z0 = []) ∨ ∃ x, a0 = some x ∧ len0 ≤ cap0 ∧ cap0 ≤ maxLen ∧ z0.length = cap0 ∧ (∀ i, i < z0.length → w.cell? (x.add i) = some (.int .u8 (z0.getD i 0))) ∧ ∀ n ∈ z0, (Lit.int .u8 n).wf = true)) : Calls Try.prog 8 #[.slice a0 len0 cap0] w fun e w' => e = .returned (.bool true) ∧ Below w.heap.size w w' := by
 obtain ⟨l0, rfl, hr0, hm0, hw0, hc0⟩ := ReadsInt.ofRowC w0
 exact FnLockAsk_main _ _ l0 w (Kd.C_of_reads (d := (0 : Int)) (h1 := fun _ => rfl) hr0) hc0 hw0
end Go.Proofs.Ytjldpnhlegbjkaa.PA
