/- The law FnLockTwice, walked by hand: who asks twice holds it once; for every code that draws a lock and who asks, no other condition. -/
import Derived.Test.YtjldpnhlegbjkaaD3
import Derived.Test.YtjldpnhlegbjkaaAskQ
import Derived.Deep.Cut
namespace Go.Proofs.Ytjldpnhlegbjkaa.PA
open Go.RowKit Go.Proofs.YtjldpnhlegbjkaaW.PrintWords Go.Proofs.YtjldpnhlegbjkaaW.PrintLast Go.Proofs.YtjldpnhlegbjkaaW.PrintMore Go.Proofs.Ytjldpnhlegbjkaa.PB
attribute [local go_sem] max2_int min2_int max_two min_two max_three min_three max_four min_four
set_option linter.unusedVariables false
set_option linter.unusedSimpArgs false
set_option maxHeartbeats 8000000 in
set_option maxRecDepth 100000 in
theorem FnLockTwice_main (A0 : Option Addr) (c0 : Nat) (l0 : List Int) (w : World) (hr0 : Kd.C (Kd.int .u8) w A0 l0.length l0) (hc0 : l0.length ≤ c0) (hw : ∀ x ∈ l0, (Lit.int .u8 x).wf = true) :
 Calls Try.prog 12 #[.slice A0 l0.length c0] w fun e w' => e = .returned (.bool true) ∧ Below w.heap.size w w' := by
 have hu29 := Try.underlying29
 have hu45 := Try.underlying45
 have HR0 := Aside0.mk hr0
 have HC0 := Aside0.mk hc0
 have HW := Aside0.mk hw
 have HB := Aside0.mk (Below.refl w.heap.size w)
 clear hr0 hc0 hw
 by_cases hz : 1048576 < l0.length
 ·have hzd : decide (1048576 < (l0.length : Int)) = true := decide_eq_true (by omega)
  go_enter Try.func12, Try.ntmps12
  go_wp2_with (fail)
  go_ret
  exact ⟨rfl, HB.out⟩
 ·have hzd : decide (1048576 < (l0.length : Int)) = false := decide_eq_false (by omega)
  clear hz
  go_enter Try.func12, Try.ntmps12
  go_wp2_with (fail)
  clear hzd
  refine (drawAsk_calls A0 c0 l0 w HR0.out HC0.out HW.out).mono ?_
  rintro e W1 ⟨s, l1, l2, v1, v2, x, hx9, rfl, q1, q2, hl, hb⟩
  have HX9 := Aside0.mk hx9
  clear hx9
  obtain ⟨A1, c1, e0⟩ := Kd.R_slice q1
  subst e0
  obtain ⟨A2, c2, e0⟩ := Kd.R_slice q2
  subst e0
  have SEP := Aside0.mk (show ∀ k, (Value.slice A1 l1.length c1).ownBlock = some k → (Value.slice A2 l2.length c2).ownBlock ≠ some k from fun k hk e => (q1.1 k hk) e.symm)
  have q1 := Rw.of q1 HB.out.size
  have q2 := Rw.of q2 HB.out.size
  have HL := Aside0.mk hl
  clear hl
  have Z11 := Aside0.mk ((hb).size)
  have HB := kh HB (hb)
  clear hb
  have R1 := Aside0.mk q1
  have R2 := Aside0.mk q2
  clear q1 q2
  have hb := below_alloc (Below.refl W1.heap.size W1) (.cells #[.int .i64 0, .slice none 0 0, .slice none 0 0] 29 (0, 0))
  have Z12 := Aside0.mk ((hb).size)
  have R1 := kw R1 (hb)
  have R2 := kw R2 (hb)
  have HB := kh HB (hb)
  clear hb
  have P3 := Aside0.mk (blk_new W1 (.cells #[.int .i64 0, .slice none 0 0, .slice none 0 0] 29 (0, 0)))
  have Z13 := Aside0.mk (blk_lt P3.out)
  have hb := below_alloc (Below.refl (W1.alloc (.cells #[.int .i64 0, .slice none 0 0, .slice none 0 0] 29 (0, 0))).heap.size (W1.alloc (.cells #[.int .i64 0, .slice none 0 0, .slice none 0 0] 29 (0, 0)))) (.cells #[.int .i64 0, .int .i64 0, .bool false, .bool false] 45 (0, 0))
  have Z14 := Aside0.mk ((hb).size)
  have P3 := kb P3 (hb)
  have R1 := kw R1 (hb)
  have R2 := kw R2 (hb)
  have HB := kh HB (hb)
  clear hb
  have P4 := Aside0.mk (blk_new (W1.alloc (.cells #[.int .i64 0, .slice none 0 0, .slice none 0 0] 29 (0, 0))) (.cells #[.int .i64 0, .int .i64 0, .bool false, .bool false] 45 (0, 0)))
  have Z15 := Aside0.mk (blk_lt P4.out)
  have hs1 : (W1.alloc (.cells #[.int .i64 0, .slice none 0 0, .slice none 0 0] 29 (0, 0))).heap.size = W1.heap.size + 1 := by simp
  rw [hs1] at P4 Z15
  clear hs1
  go_wp2_with (((with_reducible refine gate_store (t := 29) (p := 3) rfl ?_); refine wpList_store_row rfl 29 (.tmp 3) (.tmp 20) rfl W1.heap.size #[.int .i64 s, .slice A1 l1.length c1, .slice A2 l2.length c2] rfl rfl 29 #[.int .i64 0, .slice none 0 0, .slice none 0 0] P3.out (by kernel_rfl) rfl (by simp [Value.oneCell']) ?_; refine Aside0.out ?_))
  generalize (W1.alloc (.cells #[.int .i64 0, .slice none 0 0, .slice none 0 0] 29 (0, 0))).alloc (.cells #[.int .i64 0, .int .i64 0, .bool false, .bool false] 45 (0, 0)) = W2 at Z12 Z13 Z14 Z15 P3 P4 R1 R2 HB ⊢
  obtain ⟨b4, hb4⟩ : ∃ b4, b4 = W1.heap.size + 1 := ⟨_, rfl⟩
  rw [← hb4] at P4 Z15 ⊢
  obtain ⟨b3, hb3⟩ : ∃ b3, b3 = W1.heap.size := ⟨_, rfl⟩
  rw [← hb3] at P3 ⊢
  have Z16 := Aside0.mk (hb3)
  have Z17 := Aside0.mk (hb4)
  clear hb3 hb4
  obtain ⟨W3, e_⟩ : ∃ X, X = W2.setRow b3 #[.int .i64 s, .slice A1 l1.length c1, .slice A2 l2.length c2] := ⟨_, rfl⟩
  rw [← e_]
  have P4 := kbs P4 e_ (by have := Z11.out; have := Z12.out; have := Z13.out; have := Z14.out; have := Z15.out; have := Z16.out; have := Z17.out; omega)
  have R1 := kws R1 e_ (by have := Z11.out; have := Z12.out; have := Z13.out; have := Z14.out; have := Z15.out; have := Z16.out; have := Z17.out; omega)
  have R2 := kws R2 e_ (by have := Z11.out; have := Z12.out; have := Z13.out; have := Z14.out; have := Z15.out; have := Z16.out; have := Z17.out; omega)
  have P3 := kps P3 e_
  have HB := khs HB e_ (by have := Z11.out; have := Z12.out; have := Z13.out; have := Z14.out; have := Z15.out; have := Z16.out; have := Z17.out; omega)
  have Z18 := Aside0.mk (kzs e_)
  clear e_
  refine Aside0.mk ?_
  go_wp2_with (((with_reducible refine gate_store (t := 45) (p := 4) rfl ?_); refine wpList_store_row rfl 45 (.tmp 4) (.tmp 21) rfl b4 #[.int .i64 x.f0, .int .i64 x.f1, .bool x.f2, .bool x.f3] rfl rfl 45 #[.int .i64 0, .int .i64 0, .bool false, .bool false] P4.out (by kernel_rfl) rfl (by simp [Value.oneCell']) ?_; refine Aside0.out ?_))
  obtain ⟨W4, e_⟩ : ∃ X, X = W3.setRow b4 #[.int .i64 x.f0, .int .i64 x.f1, .bool x.f2, .bool x.f3] := ⟨_, rfl⟩
  rw [← e_]
  have P3 := kbs P3 e_ (by have := Z11.out; have := Z12.out; have := Z13.out; have := Z14.out; have := Z15.out; have := Z16.out; have := Z17.out; have := Z18.out; omega)
  have R1 := kws R1 e_ (by have := Z11.out; have := Z12.out; have := Z13.out; have := Z14.out; have := Z15.out; have := Z16.out; have := Z17.out; have := Z18.out; omega)
  have R2 := kws R2 e_ (by have := Z11.out; have := Z12.out; have := Z13.out; have := Z14.out; have := Z15.out; have := Z16.out; have := Z17.out; have := Z18.out; omega)
  have P4 := kps P4 e_
  have HB := khs HB e_ (by have := Z11.out; have := Z12.out; have := Z13.out; have := Z14.out; have := Z15.out; have := Z16.out; have := Z17.out; have := Z18.out; omega)
  have Z19 := Aside0.mk (kzs e_)
  clear e_
  refine Aside0.mk ?_
  obtain ⟨r1, r2, r3, r4, r5, hF⟩ : ∃ r1 r2 r3 r4 r5, askF s l1 l2 x = (r1, r2, r3, r4, r5) := ⟨_, _, _, _, _, rfl⟩
  have hln := ask_len s l1 l2 x
  have hln5 := ask_len5 s l1 l2 x
  rw [hF] at hln hln5
  simp only at hln hln5
  have HLR := Aside0.mk (And.intro hln hln5)
  have HASK := Aside0.mk hF
  clear hln hln5 hF
  go_wp2_with (first | ((with_reducible refine gate_dst (N := 23) rfl ?_); refine wpList_load_row rfl 29 (.tmp 3) rfl b3 rfl 29 #[.int .i64 s, .slice A1 l1.length c1, .slice A2 l2.length c2] (0, 0) _ P3.out hu29 rfl (by kernel_rfl) ?_) | ((with_reducible refine gate_dst (N := 24) rfl ?_); refine wpList_load_row rfl 45 (.tmp 4) rfl b4 rfl 45 #[.int .i64 x.f0, .int .i64 x.f1, .bool x.f2, .bool x.f3] (0, 0) _ P4.out hu45 rfl (by kernel_rfl) ?_))
  refine (sask_calls s A1 c1 l1 A2 c2 l2 x r1 r2 r3 r4 r5 W4 (R1.out.reads).2.2 (R1.out.reads).2.1 (R2.out.reads).2.2 (R2.out.reads).2.1 (by have := HL.out; omega) (by have := HL.out; omega) HASK.out).mono ?_
  rintro e W5 ⟨v1, v2, v4, rfl, q1, q2, q4, hb⟩
  have SAa := Aside0.mk (show ∀ k, v1.ownBlock = some k → v2.ownBlock ≠ some k ∧ v4.ownBlock ≠ some k from fun k hk => ⟨fun e => (q1.1 k hk).1 e.symm, fun e => (q1.1 k hk).2 e.symm⟩)
  have SBa := Aside0.mk (show ∀ k, v2.ownBlock = some k → v4.ownBlock ≠ some k from fun k hk e => (q2.1 k hk).2 e.symm)
  have q1 := Rw.of q1 HB.out.size
  have q2 := Rw.of q2 HB.out.size
  have q4 := Rw.of q4 HB.out.size
  have Z20 := Aside0.mk ((hb).size)
  have P3 := kb P3 (hb)
  have P4 := kb P4 (hb)
  have R1 := kw R1 (hb)
  have R2 := kw R2 (hb)
  have HB := kh HB (hb)
  clear hb
  have QW1 := Aside0.mk q1
  have QW2 := Aside0.mk q2
  have QW5 := Aside0.mk q4
  clear q1 q2 q4
  obtain ⟨V1, v1_, e0⟩ := Rw.slice QW1.out
  subst e0
  obtain ⟨V2, v2_, e0⟩ := Rw.slice QW2.out
  subst e0
  obtain ⟨V5, v5_, e0⟩ := Rw.slice QW5.out
  subst e0
  have hb := below_alloc (Below.refl W5.heap.size W5) (.cells #[.int .i64 r1, .slice V1 r2.length v1_, .slice V2 r3.length v2_] 29 (0, 0))
  have Z21 := Aside0.mk ((hb).size)
  have P3 := kb P3 (hb)
  have P4 := kb P4 (hb)
  have R1 := kw R1 (hb)
  have R2 := kw R2 (hb)
  have QW1 := kw QW1 (hb)
  have QW2 := kw QW2 (hb)
  have QW5 := kw QW5 (hb)
  have HB := kh HB (hb)
  clear hb
  have P5 := Aside0.mk (blk_new W5 (.cells #[.int .i64 r1, .slice V1 r2.length v1_, .slice V2 r3.length v2_] 29 (0, 0)))
  have Z22 := Aside0.mk (blk_lt P5.out)
  go_wp2_with (first | ((with_reducible refine gate_dst (N := 30) rfl ?_); refine wpList_load_row rfl 29 (.tmp 3) rfl b3 rfl 29 #[.int .i64 s, .slice A1 l1.length c1, .slice A2 l2.length c2] (0, 0) _ P3.out hu29 rfl (by kernel_rfl) ?_) | ((with_reducible refine gate_dst (N := 31) rfl ?_); refine wpList_load_row rfl 45 (.tmp 4) rfl b4 rfl 45 #[.int .i64 x.f0, .int .i64 x.f1, .bool x.f2, .bool x.f3] (0, 0) _ P4.out hu45 rfl (by kernel_rfl) ?_))
  generalize W5.alloc (.cells #[.int .i64 r1, .slice V1 r2.length v1_, .slice V2 r3.length v2_] 29 (0, 0)) = W6 at Z21 Z22 P3 P4 P5 R1 R2 QW1 QW2 QW5 HB ⊢
  obtain ⟨b5, hq_⟩ : ∃ b5, b5 = W5.heap.size := ⟨_, rfl⟩
  rw [← hq_] at P5 Z22 ⊢
  have Z23 := Aside0.mk (hq_)
  clear hq_
  refine (ask_calls s A1 c1 l1 A2 c2 l2 x r1 r2 r3 r4 r5 W6 (R1.out.reads).2.2 (R1.out.reads).2.1 (R2.out.reads).2.2 (R2.out.reads).2.1 (by have := HL.out; omega) (by have := HL.out; omega) HASK.out).mono ?_
  rintro e W7 ⟨v1, v2, v4, rfl, q1, q2, q4, hb⟩
  have SAb := Aside0.mk (show ∀ k, v1.ownBlock = some k → v2.ownBlock ≠ some k ∧ v4.ownBlock ≠ some k from fun k hk => ⟨fun e => (q1.1 k hk).1 e.symm, fun e => (q1.1 k hk).2 e.symm⟩)
  have SBb := Aside0.mk (show ∀ k, v2.ownBlock = some k → v4.ownBlock ≠ some k from fun k hk e => (q2.1 k hk).2 e.symm)
  have q1 := Rw.of q1 HB.out.size
  have q2 := Rw.of q2 HB.out.size
  have q4 := Rw.of q4 HB.out.size
  have Z24 := Aside0.mk ((hb).size)
  have P3 := kb P3 (hb)
  have P4 := kb P4 (hb)
  have P5 := kb P5 (hb)
  have R1 := kw R1 (hb)
  have R2 := kw R2 (hb)
  have QW1 := kw QW1 (hb)
  have QW2 := kw QW2 (hb)
  have QW5 := kw QW5 (hb)
  have HB := kh HB (hb)
  clear hb
  have QG1 := Aside0.mk q1
  have QG2 := Aside0.mk q2
  have QG5 := Aside0.mk q4
  clear q1 q2 q4
  obtain ⟨H1, h1_, e0⟩ := Rw.slice QG1.out
  subst e0
  obtain ⟨H2, h2_, e0⟩ := Rw.slice QG2.out
  subst e0
  obtain ⟨H5, h5_, e0⟩ := Rw.slice QG5.out
  subst e0
  have hb := below_alloc (Below.refl W7.heap.size W7) (.cells #[.int .i64 r1, .slice H1 r2.length h1_, .slice H2 r3.length h2_] 29 (0, 0))
  have Z25 := Aside0.mk ((hb).size)
  have P3 := kb P3 (hb)
  have P4 := kb P4 (hb)
  have P5 := kb P5 (hb)
  have R1 := kw R1 (hb)
  have R2 := kw R2 (hb)
  have QW1 := kw QW1 (hb)
  have QW2 := kw QW2 (hb)
  have QW5 := kw QW5 (hb)
  have QG1 := kw QG1 (hb)
  have QG2 := kw QG2 (hb)
  have QG5 := kw QG5 (hb)
  have HB := kh HB (hb)
  clear hb
  have P8 := Aside0.mk (blk_new W7 (.cells #[.int .i64 r1, .slice H1 r2.length h1_, .slice H2 r3.length h2_] 29 (0, 0)))
  have Z26 := Aside0.mk (blk_lt P8.out)
  have hP8_0 := (blk_cell P8.out 0).trans (show _ = some (.int .i64 r1) from rfl)
  have hP8_1 := (blk_cell P8.out 1).trans (show _ = some (.slice H1 r2.length h1_) from rfl)
  have hP8_2 := (blk_cell P8.out 2).trans (show _ = some (.slice H2 r3.length h2_) from rfl)
  have hP5_0 := (blk_cell P5.out 0).trans (show _ = some (.int .i64 r1) from rfl)
  have hP5_1 := (blk_cell P5.out 1).trans (show _ = some (.slice V1 r2.length v1_) from rfl)
  have hP5_2 := (blk_cell P5.out 2).trans (show _ = some (.slice V2 r3.length v2_) from rfl)
  go_wp2_with (fail)
  clear hP8_0 hP8_1 hP8_2 hP5_0 hP5_1 hP5_2
  generalize W7.alloc (.cells #[.int .i64 r1, .slice H1 r2.length h1_, .slice H2 r3.length h2_] 29 (0, 0)) = W8 at Z25 Z26 P3 P4 P5 P8 R1 R2 QW1 QW2 QW5 QG1 QG2 QG5 HB ⊢
  obtain ⟨b8, hq_⟩ : ∃ b8, b8 = W7.heap.size := ⟨_, rfl⟩
  rw [← hq_] at P8 Z26 ⊢
  have Z27 := Aside0.mk (hq_)
  clear hq_
  refine (loLock_eq r1 H1 h1_ r2 H2 h2_ r3 V1 v1_ V2 v2_ W8 (QG1.out.reads).2.2 (QG1.out.reads).2.1 (QG2.out.reads).2.2 (QG2.out.reads).2.1 (QW1.out.reads).2.2 (QW1.out.reads).2.1 (QW2.out.reads).2.2 (QW2.out.reads).2.1 (by have := HLR.out; omega) (by have := HLR.out; omega)).mono ?_
  rintro e W9 ⟨rfl, hb⟩
  have Z28 := Aside0.mk ((hb).size)
  have P3 := kb P3 (hb)
  have P4 := kb P4 (hb)
  have P5 := kb P5 (hb)
  have P8 := kb P8 (hb)
  have R1 := kw R1 (hb)
  have R2 := kw R2 (hb)
  have QW1 := kw QW1 (hb)
  have QW2 := kw QW2 (hb)
  have QW5 := kw QW5 (hb)
  have QG1 := kw QG1 (hb)
  have QG2 := kw QG2 (hb)
  have QG5 := kw QG5 (hb)
  have HB := kh HB (hb)
  clear hb
  go_wp2_with (fail)
  refine (loHolds_eq H5 h5_ r5 V5 v5_ W9 (QG5.out.reads).2.2 (QG5.out.reads).2.1 (QW5.out.reads).2.2 (QW5.out.reads).2.1 (by have := HLR.out; omega)).mono ?_
  rintro e W10 ⟨rfl, hb⟩
  have Z29 := Aside0.mk ((hb).size)
  have P3 := kb P3 (hb)
  have P4 := kb P4 (hb)
  have P5 := kb P5 (hb)
  have P8 := kb P8 (hb)
  have R1 := kw R1 (hb)
  have R2 := kw R2 (hb)
  have QW1 := kw QW1 (hb)
  have QW2 := kw QW2 (hb)
  have QW5 := kw QW5 (hb)
  have QG1 := kw QG1 (hb)
  have QG2 := kw QG2 (hb)
  have QG5 := kw QG5 (hb)
  have HB := kh HB (hb)
  clear hb
  have hP3_0 := (blk_cell P3.out 0).trans (show _ = some (.int .i64 s) from rfl)
  have hP3_1 := (blk_cell P3.out 1).trans (show _ = some (.slice A1 l1.length c1) from rfl)
  have hP3_2 := (blk_cell P3.out 2).trans (show _ = some (.slice A2 l2.length c2) from rfl)
  go_wp2_with (fail)
  clear hP3_0 hP3_1 hP3_2
  refine (okS s A1 c1 l1 A2 c2 l2 W10 (R1.out.reads).2.2 (R1.out.reads).2.1 (R2.out.reads).2.2 (R2.out.reads).2.1 (by have := HL.out; omega) (by have := HL.out; omega)).mono ?_
  rintro e W11 ⟨rfl, hb⟩
  have Z30 := Aside0.mk ((hb).size)
  have P3 := kb P3 (hb)
  have P4 := kb P4 (hb)
  have P5 := kb P5 (hb)
  have P8 := kb P8 (hb)
  have R1 := kw R1 (hb)
  have R2 := kw R2 (hb)
  have QW1 := kw QW1 (hb)
  have QW2 := kw QW2 (hb)
  have QW5 := kw QW5 (hb)
  have QG1 := kw QG1 (hb)
  have QG2 := kw QG2 (hb)
  have QG5 := kw QG5 (hb)
  have HB := kh HB (hb)
  clear hb
  cases hok : lockB s l1 l2 with
  | false =>
   have hP8_0 := (blk_cell P8.out 0).trans (show _ = some (.int .i64 r1) from rfl)
   have hP8_1 := (blk_cell P8.out 1).trans (show _ = some (.slice H1 r2.length h1_) from rfl)
   have hP8_2 := (blk_cell P8.out 2).trans (show _ = some (.slice H2 r3.length h2_) from rfl)
   have hP5_0 := (blk_cell P5.out 0).trans (show _ = some (.int .i64 r1) from rfl)
   have hP5_1 := (blk_cell P5.out 1).trans (show _ = some (.slice V1 r2.length v1_) from rfl)
   have hP5_2 := (blk_cell P5.out 2).trans (show _ = some (.slice V2 r3.length v2_) from rfl)
   go_wp2_with (fail)
   clear hP8_0 hP8_1 hP8_2 hP5_0 hP5_1 hP5_2
   refine (loLock_eq r1 H1 h1_ r2 H2 h2_ r3 V1 v1_ V2 v2_ W11 (QG1.out.reads).2.2 (QG1.out.reads).2.1 (QG2.out.reads).2.2 (QG2.out.reads).2.1 (QW1.out.reads).2.2 (QW1.out.reads).2.1 (QW2.out.reads).2.2 (QW2.out.reads).2.1 (by have := HLR.out; omega) (by have := HLR.out; omega)).mono ?_
   rintro e W12 ⟨rfl, hb⟩
   have Z31 := Aside0.mk ((hb).size)
   have P3 := kb P3 (hb)
   have P4 := kb P4 (hb)
   have P5 := kb P5 (hb)
   have P8 := kb P8 (hb)
   have R1 := kw R1 (hb)
   have R2 := kw R2 (hb)
   have QW1 := kw QW1 (hb)
   have QW2 := kw QW2 (hb)
   have QW5 := kw QW5 (hb)
   have QG1 := kw QG1 (hb)
   have QG2 := kw QG2 (hb)
   have QG5 := kw QG5 (hb)
   have HB := kh HB (hb)
   clear hb
   go_wp2_with (fail)
   go_ret
   exact ⟨rfl, HB.out⟩
  | true =>
   have HTW := Aside0.mk (ask_twice hok HASK.out)
   clear hok
   go_wp2_with (first | ((with_reducible refine gate_dst (N := 65) rfl ?_); refine wpList_load_row rfl 29 (.tmp 8) rfl b8 rfl 29 #[.int .i64 r1, .slice H1 r2.length h1_, .slice H2 r3.length h2_] (0, 0) _ P8.out hu29 rfl (by kernel_rfl) ?_) | ((with_reducible refine gate_dst (N := 66) rfl ?_); refine wpList_load_row rfl 45 (.tmp 4) rfl b4 rfl 45 #[.int .i64 x.f0, .int .i64 x.f1, .bool x.f2, .bool x.f3] (0, 0) _ P4.out hu45 rfl (by kernel_rfl) ?_))
   refine (ask_calls r1 H1 h1_ r2 H2 h2_ r3 x r1 r2 r3 r4 [] W11 (QG1.out.reads).2.2 (QG1.out.reads).2.1 (QG2.out.reads).2.2 (QG2.out.reads).2.1 (by have := HLR.out; omega) (by have := HLR.out; omega) HTW.out).mono ?_
   rintro e W13 ⟨v1, v2, v4, rfl, q1, q2, q4, hb⟩
   have SAc := Aside0.mk (show ∀ k, v1.ownBlock = some k → v2.ownBlock ≠ some k ∧ v4.ownBlock ≠ some k from fun k hk => ⟨fun e => (q1.1 k hk).1 e.symm, fun e => (q1.1 k hk).2 e.symm⟩)
   have SBc := Aside0.mk (show ∀ k, v2.ownBlock = some k → v4.ownBlock ≠ some k from fun k hk e => (q2.1 k hk).2 e.symm)
   have q1 := Rw.of q1 HB.out.size
   have q2 := Rw.of q2 HB.out.size
   have q4 := Rw.of q4 HB.out.size
   have Z32 := Aside0.mk ((hb).size)
   have P3 := kb P3 (hb)
   have P4 := kb P4 (hb)
   have P5 := kb P5 (hb)
   have P8 := kb P8 (hb)
   have R1 := kw R1 (hb)
   have R2 := kw R2 (hb)
   have QW1 := kw QW1 (hb)
   have QW2 := kw QW2 (hb)
   have QW5 := kw QW5 (hb)
   have QG1 := kw QG1 (hb)
   have QG2 := kw QG2 (hb)
   have QG5 := kw QG5 (hb)
   have HB := kh HB (hb)
   clear hb
   have QM1 := Aside0.mk q1
   have QM2 := Aside0.mk q2
   have QM5 := Aside0.mk q4
   clear q1 q2 q4
   obtain ⟨M1, m1_, e0⟩ := Rw.slice QM1.out
   subst e0
   obtain ⟨M2, m2_, e0⟩ := Rw.slice QM2.out
   subst e0
   obtain ⟨M5, m5_, e0⟩ := Rw.slice QM5.out
   subst e0
   have hb := below_alloc (Below.refl W13.heap.size W13) (.cells #[.int .i64 r1, .slice M1 r2.length m1_, .slice M2 r3.length m2_] 29 (0, 0))
   have Z33 := Aside0.mk ((hb).size)
   have P3 := kb P3 (hb)
   have P4 := kb P4 (hb)
   have P5 := kb P5 (hb)
   have P8 := kb P8 (hb)
   have R1 := kw R1 (hb)
   have R2 := kw R2 (hb)
   have QW1 := kw QW1 (hb)
   have QW2 := kw QW2 (hb)
   have QW5 := kw QW5 (hb)
   have QG1 := kw QG1 (hb)
   have QG2 := kw QG2 (hb)
   have QG5 := kw QG5 (hb)
   have QM1 := kw QM1 (hb)
   have QM2 := kw QM2 (hb)
   have QM5 := kw QM5 (hb)
   have HB := kh HB (hb)
   clear hb
   have PB := Aside0.mk (blk_new W13 (.cells #[.int .i64 r1, .slice M1 r2.length m1_, .slice M2 r3.length m2_] 29 (0, 0)))
   have Z34 := Aside0.mk (blk_lt PB.out)
   go_wp2_with (first | ((with_reducible refine gate_dst (N := 71) rfl ?_); refine wpList_load_row rfl 29 (.tmp 11) rfl W13.heap.size rfl 29 #[.int .i64 r1, .slice M1 r2.length m1_, .slice M2 r3.length m2_] (0, 0) _ PB.out hu29 rfl (by kernel_rfl) ?_) | ((with_reducible refine gate_dst (N := 72) rfl ?_); refine wpList_load_row rfl 29 (.tmp 8) rfl b8 rfl 29 #[.int .i64 r1, .slice H1 r2.length h1_, .slice H2 r3.length h2_] (0, 0) _ P8.out hu29 rfl (by kernel_rfl) ?_))
   generalize W13.alloc (.cells #[.int .i64 r1, .slice M1 r2.length m1_, .slice M2 r3.length m2_] 29 (0, 0)) = W14 at Z33 Z34 P3 P4 P5 P8 PB R1 R2 QW1 QW2 QW5 QG1 QG2 QG5 QM1 QM2 QM5 HB ⊢
   obtain ⟨bB, hq_⟩ : ∃ bB, bB = W13.heap.size := ⟨_, rfl⟩
   rw [← hq_] at PB Z34 ⊢
   have Z35 := Aside0.mk (hq_)
   clear hq_
   refine (loLock_eq r1 M1 m1_ r2 M2 m2_ r3 H1 h1_ H2 h2_ W14 (QM1.out.reads).2.2 (QM1.out.reads).2.1 (QM2.out.reads).2.2 (QM2.out.reads).2.1 (QG1.out.reads).2.2 (QG1.out.reads).2.1 (QG2.out.reads).2.2 (QG2.out.reads).2.1 (by have := HLR.out; omega) (by have := HLR.out; omega)).mono ?_
   rintro e W15 ⟨rfl, hb⟩
   have Z36 := Aside0.mk ((hb).size)
   have P3 := kb P3 (hb)
   have P4 := kb P4 (hb)
   have P5 := kb P5 (hb)
   have P8 := kb P8 (hb)
   have PB := kb PB (hb)
   have R1 := kw R1 (hb)
   have R2 := kw R2 (hb)
   have QW1 := kw QW1 (hb)
   have QW2 := kw QW2 (hb)
   have QW5 := kw QW5 (hb)
   have QG1 := kw QG1 (hb)
   have QG2 := kw QG2 (hb)
   have QG5 := kw QG5 (hb)
   have QM1 := kw QM1 (hb)
   have QM2 := kw QM2 (hb)
   have QM5 := kw QM5 (hb)
   have HB := kh HB (hb)
   clear hb
   go_wp2_with (fail)
   go_ret
   exact ⟨rfl, HB.out⟩
theorem laws_FnLockTwice.walk (a0 : Option Addr) (len0 cap0 : Nat) (z0 : List Int) (w : World) (w0 : ((a0 = none ∧ len0 = 0 ∧ cap0 = 0 ∧ z0 = []) ∨ ∃ x, a0 = some x ∧ len0 ≤ cap0 ∧ cap0 ≤ maxLen ∧ z0.length = cap0 ∧ (∀ i, i < z0.length → w.cell? (x.add i) = some (.int .u8 (z0.getD i 0))) ∧ ∀ n ∈ z0, (Lit.int .u8 n).wf = true)) : Calls Try.prog 12 #[.slice a0 len0 cap0] w fun e w' => e = .returned (.bool true) ∧ Below w.heap.size w w' := by
 obtain ⟨l0, rfl, hr0, hm0, hw0, hc0⟩ := ReadsInt.ofRowC w0
 exact FnLockTwice_main _ _ l0 w (Kd.C_of_reads (d := (0 : Int)) (h1 := fun _ => rfl) hr0) hc0 hw0
end Go.Proofs.Ytjldpnhlegbjkaa.PA
