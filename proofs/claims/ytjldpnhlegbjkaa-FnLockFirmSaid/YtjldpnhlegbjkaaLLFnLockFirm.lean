/- The law FnLockFirm, walked by hand: what is promised is never taken; for every code that draws a lock and who asks, no other condition. -/
import Derived.Test.YtjldpnhlegbjkaaD3
import Derived.Test.YtjldpnhlegbjkaaFirmI
import Derived.Deep.Cut
namespace Go.Proofs.Ytjldpnhlegbjkaa.PA
open Go.RowKit Go.Proofs.YtjldpnhlegbjkaaW.PrintWords Go.Proofs.YtjldpnhlegbjkaaW.PrintLast Go.Proofs.YtjldpnhlegbjkaaW.PrintMore Go.Proofs.Ytjldpnhlegbjkaa.PB
attribute [local go_sem] max2_int min2_int max_two min_two max_three min_three max_four min_four
set_option linter.unusedVariables false
set_option linter.unusedSimpArgs false
set_option maxHeartbeats 8000000 in
set_option maxRecDepth 100000 in
theorem FnLockFirm_main (A0 : Option Addr) (c0 : Nat) (l0 : List Int) (B0 : Option Addr) (d0 : Nat) (m0 : List Int) (w : World) (hr0 : Kd.C (Kd.int .u8) w A0 l0.length l0) (hc0 : l0.length ≤ c0) (hw : ∀ x ∈ l0, (Lit.int .u8 x).wf = true) (hs0 : Kd.C (Kd.int .u8) w B0 m0.length m0) (hd0 : m0.length ≤ d0) (hv : ∀ x ∈ m0, (Lit.int .u8 x).wf = true) :
 Calls Try.prog 14 #[.slice A0 l0.length c0, .slice B0 m0.length d0] w fun e w' => e = .returned (.bool true) ∧ Below w.heap.size w w' := by
 have HS0 := Aside0.mk hs0
 have HD0 := Aside0.mk hd0
 have HV := Aside0.mk hv
 clear hs0 hd0 hv
 have hu29 := Try.underlying29
 have hu45 := Try.underlying45
 have HR0 := Aside0.mk hr0
 have HC0 := Aside0.mk hc0
 have HW := Aside0.mk hw
 have HB := Aside0.mk (Below.refl w.heap.size w)
 clear hr0 hc0 hw
 by_cases hz : 1048576 < l0.length
 ·have hzd : decide (1048576 < (l0.length : Int)) = true := decide_eq_true (by omega)
  go_enter Try.func14, Try.ntmps14
  go_wp2_with (fail)
  go_ret
  exact ⟨rfl, HB.out⟩
 ·by_cases hy : 1048576 < m0.length
  ·have hzd : decide (1048576 < (l0.length : Int)) = false := decide_eq_false (by omega)
   have hyd : decide (1048576 < (m0.length : Int)) = true := decide_eq_true (by omega)
   go_enter Try.func14, Try.ntmps14
   go_wp2_with (fail)
   go_ret
   exact ⟨rfl, HB.out⟩
  have hzd : decide (1048576 < (l0.length : Int)) = false := decide_eq_false (by omega)
  have hyd : decide (1048576 < (m0.length : Int)) = false := decide_eq_false (by omega)
  clear hz hy
  go_enter Try.func14, Try.ntmps14
  go_wp2_with (fail)
  clear hzd hyd
  refine (drawFirm_calls A0 c0 l0 w HR0.out HC0.out HW.out).mono ?_
  rintro e W1 ⟨s, l1, l2, v1, v2, st, ty, rfl, q1, q2, hl, hb⟩
  obtain ⟨A1, c1, e0⟩ := Kd.R_slice q1
  subst e0
  obtain ⟨A2, c2, e0⟩ := Kd.R_slice q2
  subst e0
  have q1 := Rw.of q1 HB.out.size
  have q2 := Rw.of q2 HB.out.size
  have HL := Aside0.mk hl
  clear hl
  have Z11 := Aside0.mk ((hb).size)
  have HB := kh HB (hb)
  clear hb
  have R1 := Aside0.mk q1
  have R2 := Aside0.mk q2
  clear q1 q2
  have hb := below_alloc (Below.refl W1.heap.size W1) (.cells #[.int .i64 s, .slice A1 l1.length c1, .slice A2 l2.length c2] 29 (0, 0))
  have Z12 := Aside0.mk ((hb).size)
  have R1 := kw R1 (hb)
  have R2 := kw R2 (hb)
  have HB := kh HB (hb)
  clear hb
  have P3 := Aside0.mk (blk_new W1 (.cells #[.int .i64 s, .slice A1 l1.length c1, .slice A2 l2.length c2] 29 (0, 0)))
  have Z13 := Aside0.mk (blk_lt P3.out)
  go_wp2_with (fail)
  generalize W1.alloc (.cells #[.int .i64 s, .slice A1 l1.length c1, .slice A2 l2.length c2] 29 (0, 0)) = W2 at Z12 Z13 P3 R1 R2 HB ⊢
  obtain ⟨b3, hq_⟩ : ∃ b3, b3 = W1.heap.size := ⟨_, rfl⟩
  rw [← hq_] at P3 Z13 ⊢
  have Z14 := Aside0.mk (hq_)
  clear hq_
  refine (drawAsk_calls B0 d0 m0 W2 (Kd.C_below HS0.out HB.out) HD0.out HV.out).mono ?_
  rintro e W3 ⟨s2, k1, k2, v1, v2, x, hx9, rfl, q1, q2, hl, hb⟩
  obtain ⟨B1, e1, e0⟩ := Kd.R_slice q1
  subst e0
  obtain ⟨B2, e2, e0⟩ := Kd.R_slice q2
  subst e0
  clear hx9 hl q1 q2
  have Z15 := Aside0.mk ((hb).size)
  have P3 := kb P3 (hb)
  have R1 := kw R1 (hb)
  have R2 := kw R2 (hb)
  have HB := kh HB (hb)
  clear hb
  have hb := below_alloc (Below.refl W3.heap.size W3) (.cells #[.int .i64 0, .slice none 0 0, .slice none 0 0] 29 (0, 0))
  have Z16 := Aside0.mk ((hb).size)
  have P3 := kb P3 (hb)
  have R1 := kw R1 (hb)
  have R2 := kw R2 (hb)
  have HB := kh HB (hb)
  clear hb
  have PX := Aside0.mk (blk_new W3 (.cells #[.int .i64 0, .slice none 0 0, .slice none 0 0] 29 (0, 0)))
  have Z17 := Aside0.mk (blk_lt PX.out)
  have hb := below_alloc (Below.refl (W3.alloc (.cells #[.int .i64 0, .slice none 0 0, .slice none 0 0] 29 (0, 0))).heap.size (W3.alloc (.cells #[.int .i64 0, .slice none 0 0, .slice none 0 0] 29 (0, 0)))) (.cells #[.int .i64 0, .int .i64 0, .bool false, .bool false] 45 (0, 0))
  have Z18 := Aside0.mk ((hb).size)
  have P3 := kb P3 (hb)
  have PX := kb PX (hb)
  have R1 := kw R1 (hb)
  have R2 := kw R2 (hb)
  have HB := kh HB (hb)
  clear hb
  have P4 := Aside0.mk (blk_new (W3.alloc (.cells #[.int .i64 0, .slice none 0 0, .slice none 0 0] 29 (0, 0))) (.cells #[.int .i64 0, .int .i64 0, .bool false, .bool false] 45 (0, 0)))
  have Z19 := Aside0.mk (blk_lt P4.out)
  have hs1 : (W3.alloc (.cells #[.int .i64 0, .slice none 0 0, .slice none 0 0] 29 (0, 0))).heap.size = W3.heap.size + 1 := by simp
  rw [hs1] at P4 Z19
  clear hs1
  go_wp2_with (((with_reducible refine gate_store (t := 29) (p := 8) rfl ?_); refine wpList_store_row rfl 29 (.tmp 8) (.tmp 36) rfl W3.heap.size #[.int .i64 s2, .slice B1 k1.length e1, .slice B2 k2.length e2] rfl rfl 29 #[.int .i64 0, .slice none 0 0, .slice none 0 0] PX.out (by kernel_rfl) rfl (by simp [Value.oneCell']) ?_; refine Aside0.out ?_))
  generalize (W3.alloc (.cells #[.int .i64 0, .slice none 0 0, .slice none 0 0] 29 (0, 0))).alloc (.cells #[.int .i64 0, .int .i64 0, .bool false, .bool false] 45 (0, 0)) = W4 at Z16 Z17 Z18 Z19 P3 PX P4 R1 R2 HB ⊢
  obtain ⟨b4, hb4⟩ : ∃ b4, b4 = W3.heap.size + 1 := ⟨_, rfl⟩
  rw [← hb4] at P4 Z19 ⊢
  obtain ⟨bX, hbX⟩ : ∃ bX, bX = W3.heap.size := ⟨_, rfl⟩
  rw [← hbX] at PX ⊢
  have Z20 := Aside0.mk (hbX)
  have Z21 := Aside0.mk (hb4)
  clear hbX hb4
  obtain ⟨W5, e_⟩ : ∃ X, X = W4.setRow bX #[.int .i64 s2, .slice B1 k1.length e1, .slice B2 k2.length e2] := ⟨_, rfl⟩
  rw [← e_]
  have P3 := kbs P3 e_ (by have := Z11.out; have := Z12.out; have := Z13.out; have := Z14.out; have := Z15.out; have := Z16.out; have := Z17.out; have := Z18.out; have := Z19.out; have := Z20.out; have := Z21.out; omega)
  have P4 := kbs P4 e_ (by have := Z11.out; have := Z12.out; have := Z13.out; have := Z14.out; have := Z15.out; have := Z16.out; have := Z17.out; have := Z18.out; have := Z19.out; have := Z20.out; have := Z21.out; omega)
  have R1 := kws R1 e_ (by have := Z11.out; have := Z12.out; have := Z13.out; have := Z14.out; have := Z15.out; have := Z16.out; have := Z17.out; have := Z18.out; have := Z19.out; have := Z20.out; have := Z21.out; omega)
  have R2 := kws R2 e_ (by have := Z11.out; have := Z12.out; have := Z13.out; have := Z14.out; have := Z15.out; have := Z16.out; have := Z17.out; have := Z18.out; have := Z19.out; have := Z20.out; have := Z21.out; omega)
  have PX := kps PX e_
  have HB := khs HB e_ (by have := Z11.out; have := Z12.out; have := Z13.out; have := Z14.out; have := Z15.out; have := Z16.out; have := Z17.out; have := Z18.out; have := Z19.out; have := Z20.out; have := Z21.out; omega)
  have Z22 := Aside0.mk (kzs e_)
  clear e_
  refine Aside0.mk ?_
  go_wp2_with (((with_reducible refine gate_store (t := 45) (p := 9) rfl ?_); refine wpList_store_row rfl 45 (.tmp 9) (.tmp 37) rfl b4 #[.int .i64 x.f0, .int .i64 x.f1, .bool x.f2, .bool x.f3] rfl rfl 45 #[.int .i64 0, .int .i64 0, .bool false, .bool false] P4.out (by kernel_rfl) rfl (by simp [Value.oneCell']) ?_; refine Aside0.out ?_))
  obtain ⟨W6, e_⟩ : ∃ X, X = W5.setRow b4 #[.int .i64 x.f0, .int .i64 x.f1, .bool x.f2, .bool x.f3] := ⟨_, rfl⟩
  rw [← e_]
  have P3 := kbs P3 e_ (by have := Z11.out; have := Z12.out; have := Z13.out; have := Z14.out; have := Z15.out; have := Z16.out; have := Z17.out; have := Z18.out; have := Z19.out; have := Z20.out; have := Z21.out; have := Z22.out; omega)
  have PX := kbs PX e_ (by have := Z11.out; have := Z12.out; have := Z13.out; have := Z14.out; have := Z15.out; have := Z16.out; have := Z17.out; have := Z18.out; have := Z19.out; have := Z20.out; have := Z21.out; have := Z22.out; omega)
  have R1 := kws R1 e_ (by have := Z11.out; have := Z12.out; have := Z13.out; have := Z14.out; have := Z15.out; have := Z16.out; have := Z17.out; have := Z18.out; have := Z19.out; have := Z20.out; have := Z21.out; have := Z22.out; omega)
  have R2 := kws R2 e_ (by have := Z11.out; have := Z12.out; have := Z13.out; have := Z14.out; have := Z15.out; have := Z16.out; have := Z17.out; have := Z18.out; have := Z19.out; have := Z20.out; have := Z21.out; have := Z22.out; omega)
  have P4 := kps P4 e_
  have HB := khs HB e_ (by have := Z11.out; have := Z12.out; have := Z13.out; have := Z14.out; have := Z15.out; have := Z16.out; have := Z17.out; have := Z18.out; have := Z19.out; have := Z20.out; have := Z21.out; have := Z22.out; omega)
  have Z23 := Aside0.mk (kzs e_)
  clear e_
  refine Aside0.mk ?_
  have ZZ := Aside0.mk (And.intro Z11.out (And.intro Z12.out (And.intro Z13.out (And.intro Z14.out (And.intro Z15.out (And.intro Z16.out (And.intro Z17.out (And.intro Z18.out (And.intro Z19.out (And.intro Z20.out (And.intro Z21.out (And.intro Z22.out Z23.out))))))))))))
  obtain ⟨r1, r2, r3, r4, hF⟩ : ∃ r1 r2 r3 r4, firmOf s l1 l2 st ty = (r1, r2, r3, r4) := ⟨_, _, _, _, rfl⟩
  have hln := firm_len s l1 l2 st ty
  rw [hF] at hln
  simp only at hln
  have HLR := Aside0.mk hln
  have HFM := Aside0.mk hF
  clear hln hF
  go_wp2_with (((with_reducible refine gate_dst (N := 39) rfl ?_); refine wpList_load_row rfl 29 (.tmp 5) rfl b3 rfl 29 #[.int .i64 s, .slice A1 l1.length c1, .slice A2 l2.length c2] (0, 0) _ P3.out hu29 rfl (by kernel_rfl) ?_))
  refine (firmS s A1 c1 l1 A2 c2 l2 st ty r1 r2 r3 r4 W6 (R1.out.reads).2.2 (R1.out.reads).2.1 (R2.out.reads).2.2 (R2.out.reads).2.1 (by have := HL.out; omega) (by have := HL.out; omega) HFM.out).mono ?_
  rintro e W7 ⟨v1, v2, rfl, q1, q2, hb⟩
  have SAa := Aside0.mk (show ∀ k, v1.ownBlock = some k → v2.ownBlock ≠ some k from fun k hk e => (q1.1 k hk) e.symm)
  have q1 := Rw.of q1 HB.out.size
  have q2 := Rw.of q2 HB.out.size
  have ZZ := Aside0.mk (And.intro ZZ.out ((hb).size))
  have P3 := kb P3 (hb)
  have P4 := kb P4 (hb)
  have R1 := kw R1 (hb)
  have R2 := kw R2 (hb)
  have HB := kh HB (hb)
  clear hb
  have QW1 := Aside0.mk q1
  have QW2 := Aside0.mk q2
  clear q1 q2
  obtain ⟨V1, v1_, e0⟩ := Rw.slice QW1.out
  subst e0
  obtain ⟨V2, v2_, e0⟩ := Rw.slice QW2.out
  subst e0
  have hb := below_alloc (Below.refl W7.heap.size W7) (.cells #[.int .i64 r1, .slice V1 r2.length v1_, .slice V2 r3.length v2_] 29 (0, 0))
  have ZZ := Aside0.mk (And.intro ZZ.out ((hb).size))
  have P3 := kb P3 (hb)
  have P4 := kb P4 (hb)
  have R1 := kw R1 (hb)
  have R2 := kw R2 (hb)
  have QW1 := kw QW1 (hb)
  have QW2 := kw QW2 (hb)
  have HB := kh HB (hb)
  clear hb
  have P5 := Aside0.mk (blk_new W7 (.cells #[.int .i64 r1, .slice V1 r2.length v1_, .slice V2 r3.length v2_] 29 (0, 0)))
  have ZZ := Aside0.mk (And.intro ZZ.out (blk_lt P5.out))
  go_wp2_with (((with_reducible refine gate_dst (N := 46) rfl ?_); refine wpList_load_row rfl 29 (.tmp 5) rfl b3 rfl 29 #[.int .i64 s, .slice A1 l1.length c1, .slice A2 l2.length c2] (0, 0) _ P3.out hu29 rfl (by kernel_rfl) ?_))
  generalize W7.alloc (.cells #[.int .i64 r1, .slice V1 r2.length v1_, .slice V2 r3.length v2_] 29 (0, 0)) = W8 at ZZ P3 P4 P5 R1 R2 QW1 QW2 HB ⊢
  obtain ⟨b5, hq_⟩ : ∃ b5, b5 = W7.heap.size := ⟨_, rfl⟩
  rw [← hq_] at P5 ZZ ⊢
  have ZZ := Aside0.mk (And.intro ZZ.out (hq_))
  clear hq_
  refine (firmI s A1 c1 l1 A2 c2 l2 st ty r1 r2 r3 r4 W8 (R1.out.reads).2.2 (R1.out.reads).2.1 (R2.out.reads).2.2 (R2.out.reads).2.1 (by have := HL.out; omega) (by have := HL.out; omega) HFM.out).mono ?_
  rintro e W9 ⟨v1, v2, rfl, q1, q2, hb⟩
  have SAb := Aside0.mk (show ∀ k, v1.ownBlock = some k → v2.ownBlock ≠ some k from fun k hk e => (q1.1 k hk) e.symm)
  have q1 := Rw.of q1 HB.out.size
  have q2 := Rw.of q2 HB.out.size
  have ZZ := Aside0.mk (And.intro ZZ.out ((hb).size))
  have P3 := kb P3 (hb)
  have P4 := kb P4 (hb)
  have P5 := kb P5 (hb)
  have R1 := kw R1 (hb)
  have R2 := kw R2 (hb)
  have QW1 := kw QW1 (hb)
  have QW2 := kw QW2 (hb)
  have HB := kh HB (hb)
  clear hb
  have QG1 := Aside0.mk q1
  have QG2 := Aside0.mk q2
  clear q1 q2
  obtain ⟨H1, h1_, e0⟩ := Rw.slice QG1.out
  subst e0
  obtain ⟨H2, h2_, e0⟩ := Rw.slice QG2.out
  subst e0
  have hb := below_alloc (Below.refl W9.heap.size W9) (.cells #[.int .i64 r1, .slice H1 r2.length h1_, .slice H2 r3.length h2_] 29 (0, 0))
  have ZZ := Aside0.mk (And.intro ZZ.out ((hb).size))
  have P3 := kb P3 (hb)
  have P4 := kb P4 (hb)
  have P5 := kb P5 (hb)
  have R1 := kw R1 (hb)
  have R2 := kw R2 (hb)
  have QW1 := kw QW1 (hb)
  have QW2 := kw QW2 (hb)
  have QG1 := kw QG1 (hb)
  have QG2 := kw QG2 (hb)
  have HB := kh HB (hb)
  clear hb
  have P6 := Aside0.mk (blk_new W9 (.cells #[.int .i64 r1, .slice H1 r2.length h1_, .slice H2 r3.length h2_] 29 (0, 0)))
  have ZZ := Aside0.mk (And.intro ZZ.out (blk_lt P6.out))
  have hP6_0 := (blk_cell P6.out 0).trans (show _ = some (.int .i64 r1) from rfl)
  have hP6_1 := (blk_cell P6.out 1).trans (show _ = some (.slice H1 r2.length h1_) from rfl)
  have hP6_2 := (blk_cell P6.out 2).trans (show _ = some (.slice H2 r3.length h2_) from rfl)
  have hP5_0 := (blk_cell P5.out 0).trans (show _ = some (.int .i64 r1) from rfl)
  have hP5_1 := (blk_cell P5.out 1).trans (show _ = some (.slice V1 r2.length v1_) from rfl)
  have hP5_2 := (blk_cell P5.out 2).trans (show _ = some (.slice V2 r3.length v2_) from rfl)
  go_wp2_with (fail)
  clear hP6_0 hP6_1 hP6_2 hP5_0 hP5_1 hP5_2
  generalize W9.alloc (.cells #[.int .i64 r1, .slice H1 r2.length h1_, .slice H2 r3.length h2_] 29 (0, 0)) = W10 at ZZ P3 P4 P5 P6 R1 R2 QW1 QW2 QG1 QG2 HB ⊢
  obtain ⟨b6, hq_⟩ : ∃ b6, b6 = W9.heap.size := ⟨_, rfl⟩
  rw [← hq_] at P6 ZZ ⊢
  have ZZ := Aside0.mk (And.intro ZZ.out (hq_))
  clear hq_
  refine (loLock_eq r1 H1 h1_ r2 H2 h2_ r3 V1 v1_ V2 v2_ W10 (QG1.out.reads).2.2 (QG1.out.reads).2.1 (QG2.out.reads).2.2 (QG2.out.reads).2.1 (QW1.out.reads).2.2 (QW1.out.reads).2.1 (QW2.out.reads).2.2 (QW2.out.reads).2.1 (by have := HLR.out; omega) (by have := HLR.out; omega)).mono ?_
  rintro e W11 ⟨rfl, hb⟩
  have ZZ := Aside0.mk (And.intro ZZ.out ((hb).size))
  have P3 := kb P3 (hb)
  have P4 := kb P4 (hb)
  have P5 := kb P5 (hb)
  have P6 := kb P6 (hb)
  have R1 := kw R1 (hb)
  have R2 := kw R2 (hb)
  have QW1 := kw QW1 (hb)
  have QW2 := kw QW2 (hb)
  have QG1 := kw QG1 (hb)
  have QG2 := kw QG2 (hb)
  have HB := kh HB (hb)
  clear hb
  cases r4 with
  | false =>
   have hP6_0 := (blk_cell P6.out 0).trans (show _ = some (.int .i64 r1) from rfl)
   have hP6_1 := (blk_cell P6.out 1).trans (show _ = some (.slice H1 r2.length h1_) from rfl)
   have hP6_2 := (blk_cell P6.out 2).trans (show _ = some (.slice H2 r3.length h2_) from rfl)
   have hP5_0 := (blk_cell P5.out 0).trans (show _ = some (.int .i64 r1) from rfl)
   have hP5_1 := (blk_cell P5.out 1).trans (show _ = some (.slice V1 r2.length v1_) from rfl)
   have hP5_2 := (blk_cell P5.out 2).trans (show _ = some (.slice V2 r3.length v2_) from rfl)
   go_wp2_with (fail)
   clear hP6_0 hP6_1 hP6_2 hP5_0 hP5_1 hP5_2
   refine (loLock_eq r1 H1 h1_ r2 H2 h2_ r3 V1 v1_ V2 v2_ W11 (QG1.out.reads).2.2 (QG1.out.reads).2.1 (QG2.out.reads).2.2 (QG2.out.reads).2.1 (QW1.out.reads).2.2 (QW1.out.reads).2.1 (QW2.out.reads).2.2 (QW2.out.reads).2.1 (by have := HLR.out; omega) (by have := HLR.out; omega)).mono ?_
   rintro e W12 ⟨rfl, hb⟩
   have ZZ := Aside0.mk (And.intro ZZ.out ((hb).size))
   have P3 := kb P3 (hb)
   have P4 := kb P4 (hb)
   have P5 := kb P5 (hb)
   have P6 := kb P6 (hb)
   have R1 := kw R1 (hb)
   have R2 := kw R2 (hb)
   have QW1 := kw QW1 (hb)
   have QW2 := kw QW2 (hb)
   have QG1 := kw QG1 (hb)
   have QG2 := kw QG2 (hb)
   have HB := kh HB (hb)
   clear hb
   go_wp2_with (fail)
   go_ret
   exact ⟨rfl, HB.out⟩
  | true =>
   obtain ⟨hok, z, hz, hz0, hz1, hz3⟩ := firm_ok HFM.out
   obtain ⟨t1, t2, t3, t4, t5, hF⟩ : ∃ t1 t2 t3 t4 t5, askF r1 r2 r3 x = (t1, t2, t3, t4, t5) := ⟨_, _, _, _, _, rfl⟩
   have hln := ask_len r1 r2 r3 x
   have hln5 := ask_len5 r1 r2 r3 x
   rw [hF] at hln hln5
   simp only at hln hln5
   have HLZ : Aside0 (t5.length ≤ 64 ∧ t2.length ≤ 64) := ⟨by omega⟩
   have HASK := Aside0.mk hF
   obtain ⟨hp1, hp2⟩ := ask_promise hok hz hz3 hF
   rw [hz0] at hp2
   have HP1 := Aside0.mk hp1
   have HP2 := Aside0.mk hp2
   have HZ0 := Aside0.mk (And.intro hz0 (And.intro hz1 hz3))
   clear hln hln5 hF hok hz hz0 hz1 hz3 hp1 hp2
   go_wp2_with (first | ((with_reducible refine gate_dst (N := 74) rfl ?_); refine wpList_load_row rfl 29 (.tmp 12) rfl b6 rfl 29 #[.int .i64 r1, .slice H1 r2.length h1_, .slice H2 r3.length h2_] (0, 0) _ P6.out hu29 rfl (by kernel_rfl) ?_) | ((with_reducible refine gate_dst (N := 75) rfl ?_); refine wpList_load_row rfl 45 (.tmp 9) rfl b4 rfl 45 #[.int .i64 x.f0, .int .i64 x.f1, .bool x.f2, .bool x.f3] (0, 0) _ P4.out hu45 rfl (by kernel_rfl) ?_))
   refine (ask_calls r1 H1 h1_ r2 H2 h2_ r3 x t1 t2 t3 t4 t5 W11 (QG1.out.reads).2.2 (QG1.out.reads).2.1 (QG2.out.reads).2.2 (QG2.out.reads).2.1 (by have := HLR.out; omega) (by have := HLR.out; omega) HASK.out).mono ?_
   rintro e W13 ⟨v1, v2, v4, rfl, q1, q2, q4, hb⟩
   have SAc := Aside0.mk (show ∀ k, v1.ownBlock = some k → v2.ownBlock ≠ some k ∧ v4.ownBlock ≠ some k from fun k hk => ⟨fun e => (q1.1 k hk).1 e.symm, fun e => (q1.1 k hk).2 e.symm⟩)
   have SBc := Aside0.mk (show ∀ k, v2.ownBlock = some k → v4.ownBlock ≠ some k from fun k hk e => (q2.1 k hk).2 e.symm)
   have q1 := Rw.of q1 HB.out.size
   have q2 := Rw.of q2 HB.out.size
   have q4 := Rw.of q4 HB.out.size
   have ZZ := Aside0.mk (And.intro ZZ.out ((hb).size))
   have P3 := kb P3 (hb)
   have P4 := kb P4 (hb)
   have P5 := kb P5 (hb)
   have P6 := kb P6 (hb)
   have R1 := kw R1 (hb)
   have R2 := kw R2 (hb)
   have QW1 := kw QW1 (hb)
   have QW2 := kw QW2 (hb)
   have QG1 := kw QG1 (hb)
   have QG2 := kw QG2 (hb)
   have HB := kh HB (hb)
   clear hb
   have QM1 := Aside0.mk q1
   have QM2 := Aside0.mk q2
   have QM5 := Aside0.mk q4
   clear q1 q2 q4
   obtain ⟨M1, m1_, e0⟩ := Rw.slice QM1.out
   subst e0
   obtain ⟨M2, m2_, e0⟩ := Rw.slice QM2.out
   subst e0
   obtain ⟨M5, m5_, e0⟩ := Rw.slice QM5.out
   subst e0
   have hb := below_alloc (Below.refl W13.heap.size W13) (.cells #[.int .i64 t1, .slice M1 t2.length m1_, .slice M2 t3.length m2_] 29 (0, 0))
   have ZZ := Aside0.mk (And.intro ZZ.out ((hb).size))
   have P3 := kb P3 (hb)
   have P4 := kb P4 (hb)
   have P5 := kb P5 (hb)
   have P6 := kb P6 (hb)
   have R1 := kw R1 (hb)
   have R2 := kw R2 (hb)
   have QW1 := kw QW1 (hb)
   have QW2 := kw QW2 (hb)
   have QG1 := kw QG1 (hb)
   have QG2 := kw QG2 (hb)
   have QM1 := kw QM1 (hb)
   have QM2 := kw QM2 (hb)
   have QM5 := kw QM5 (hb)
   have HB := kh HB (hb)
   clear hb
   have PB := Aside0.mk (blk_new W13 (.cells #[.int .i64 t1, .slice M1 t2.length m1_, .slice M2 t3.length m2_] 29 (0, 0)))
   have ZZ := Aside0.mk (And.intro ZZ.out (blk_lt PB.out))
   go_wp2_with (fail)
   generalize W13.alloc (.cells #[.int .i64 t1, .slice M1 t2.length m1_, .slice M2 t3.length m2_] 29 (0, 0)) = W14 at ZZ P3 P4 P5 P6 PB R1 R2 QW1 QW2 QG1 QG2 QM1 QM2 QM5 HB ⊢
   obtain ⟨bB, hq_⟩ : ∃ bB, bB = W13.heap.size := ⟨_, rfl⟩
   rw [← hq_] at PB ZZ ⊢
   have ZZ := Aside0.mk (And.intro ZZ.out (hq_))
   clear hq_
   clear P3 P4 P5 P6 R1 R2 QW1 QW2 QG1 QG2 QM2 PX
   go_loopw [17] (fun i wr => ∃ n : Nat, i = .int .i64 (n : Int) ∧ Aside0 (n ≤ t5.length) ∧ Aside0 (Below W14.heap.size W14 wr) ∧ Aside0 (True)) (fun i _ => t5.length - (intOf i).toNat)
   case atStart => exact ⟨0, rfl, ⟨Nat.zero_le _⟩, ⟨Below.refl _ _⟩, ⟨trivial⟩⟩
   case round =>
    obtain ⟨W15, e_⟩ : ∃ X, X = wr := ⟨_, rfl⟩
    subst e_
    obtain ⟨n, rfl, HXn, HLn, HIn⟩ := hrel
    have ZZ := Aside0.mk (And.intro ZZ.out ((HLn.out).size))
    have PB := kb PB (HLn.out)
    have QM1 := kw QM1 (HLn.out)
    have QM5 := kw QM5 (HLn.out)
    have HB := kh HB (HLn.out)
    by_cases hlt : n < t5.length
    ·have HTn := Aside0.mk hlt
     have hdl : decide (n < t5.length) = true := decide_eq_true hlt
     have hwn : wrap64 ((n : Int) + 1) = (n : Int) + 1 := by unfold wrap64; have := HLZ.out; omega
     obtain ⟨adn, hA, y0, y1, y2, y3⟩ := at_T45 (QM5.out.reads).2.2 (n : Int) (by omega) (by have := HTn.out; omega)
     subst hA
     simp only [Int.toNat_natCast] at y0 y1 y2 y3
     have hrd := rdH HTn.out
     rw [hrd] at y0 y1 y2 y3
     generalize hyx_ : t5[n]'(HTn.out) = y at y0 y1 y2 y3
     have HYy := Aside0.mk hyx_
     clear hrd hyx_
     have he : (y.f0 == st) = false := beq_eq_false_iff_ne.mpr (HP2.out y (by rw [← HYy.out]; exact List.getElem_mem _))
     go_wp2_with (fail)
     clear y0 y1 y2 y3
     try (go_wp2_with (fail))
     go_roundw
     case rel => exact ⟨n + 1, (by first | rfl | exact congrArg (Value.int .i64) (by omega)), ⟨HTn.out⟩, HLn, ⟨trivial⟩⟩
     case measure =>
      (try rw [hwn])
      show t5.length - ((n : Int) + 1).toNat < t5.length - (n : Int).toNat
      have := HTn.out
      omega
    ·have hdl : decide (n < t5.length) = false := decide_eq_false hlt
     obtain rfl : t5.length = n := by have := HXn.out; omega
     clear hlt
     go_wp2_with (fail)
     clear hdl
     go_loopw [18] (fun i wr => ∃ m : Nat, i = .int .i64 (m : Int) ∧ Aside0 (m ≤ t2.length) ∧ Aside0 (Below W15.heap.size W15 wr) ∧ Aside0 (∀ u ∈ t2.take m, ¬ (u.f0 = st ∧ u.f1 = ty ∧ u.f3 = true))) (fun i _ => t2.length - (intOf i).toNat)
     case atStart => exact ⟨0, rfl, ⟨Nat.zero_le _⟩, ⟨Below.refl _ _⟩, ⟨fun u hu => by simp at hu⟩⟩
     case round =>
      obtain ⟨W16, e_⟩ : ∃ X, X = wr := ⟨_, rfl⟩
      subst e_
      obtain ⟨m, rfl, HXm, HLm, HIm⟩ := hrel
      have ZZ := Aside0.mk (And.intro ZZ.out ((HLm.out).size))
      have PB := kb PB (HLm.out)
      have QM1 := kw QM1 (HLm.out)
      have QM5 := kw QM5 (HLm.out)
      have HB := kh HB (HLm.out)
      by_cases hlt : m < t2.length
      ·have HTm := Aside0.mk hlt
       have hdl : decide (m < t2.length) = true := decide_eq_true hlt
       have hwm : wrap64 ((m : Int) + 1) = (m : Int) + 1 := by unfold wrap64; have := HLZ.out; omega
       obtain ⟨adm, hA, y0, y1, y2, y3⟩ := at_T45 (QM1.out.reads).2.2 (m : Int) (by omega) (by have := HTm.out; omega)
       subst hA
       simp only [Int.toNat_natCast] at y0 y1 y2 y3
       have hrd := rdH HTm.out
       rw [hrd] at y0 y1 y2 y3
       generalize hyx_ : t2[m]'(HTm.out) = y at y0 y1 y2 y3
       have HYy := Aside0.mk hyx_
       clear hrd hyx_
       have hb1 := (blk_cell PB.out 1).trans (show _ = some (.slice (some adm) t2.length m1_) from rfl)
       by_cases he_ : y.f0 = st
       ·have he : (y.f0 == st) = true := beq_iff_eq.mpr he_
        clear he_
        by_cases hg_ : y.f1 = ty
        ·have hg : (y.f1 == ty) = true := beq_iff_eq.mpr hg_
         clear hg_
         cases hy3 : y.f3 with
         | true =>
          rw [hy3] at y3
          go_wp2_with (fail)
          go_ret
          exact ⟨rfl, HB.out⟩
         | false =>
          rw [hy3] at y3
          have HE_ := Aside0.mk hy3
          clear hy3
          go_wp2_with (fail)
          clear hb1 y0 y1 y2 y3
          try (go_wp2_with (fail))
          go_roundw
          case rel => exact ⟨m + 1, (by first | rfl | exact congrArg (Value.int .i64) (by omega)), ⟨HTm.out⟩, HLm, ⟨by rw [List.take_succ_eq_append_getElem HTm.out]; intro z hz; rcases List.mem_append.1 hz with hz | hz; exact HIm.out z hz; rw [List.mem_singleton.1 hz, HYy.out]; exact fun q => absurd (HE_.out.symm.trans q.2.2) (by decide)⟩⟩
          case measure =>
           (try rw [hwm])
           show t2.length - ((m : Int) + 1).toNat < t2.length - (m : Int).toNat
           have := HTm.out
           omega
        ·have hg : (y.f1 == ty) = false := beq_eq_false_iff_ne.mpr hg_
         have HE_ := Aside0.mk hg_
         clear hg_
         go_wp2_with (fail)
         clear hb1 y0 y1 y2 y3
         try (go_wp2_with (fail))
         go_roundw
         case rel => exact ⟨m + 1, (by first | rfl | exact congrArg (Value.int .i64) (by omega)), ⟨HTm.out⟩, HLm, ⟨by rw [List.take_succ_eq_append_getElem HTm.out]; intro z hz; rcases List.mem_append.1 hz with hz | hz; exact HIm.out z hz; rw [List.mem_singleton.1 hz, HYy.out]; exact fun q => HE_.out q.2.1⟩⟩
         case measure =>
          (try rw [hwm])
          show t2.length - ((m : Int) + 1).toNat < t2.length - (m : Int).toNat
          have := HTm.out
          omega
       ·have he : (y.f0 == st) = false := beq_eq_false_iff_ne.mpr he_
        have HE_ := Aside0.mk he_
        clear he_
        go_wp2_with (fail)
        clear hb1 y0 y1 y2 y3
        try (go_wp2_with (fail))
        go_roundw
        case rel => exact ⟨m + 1, (by first | rfl | exact congrArg (Value.int .i64) (by omega)), ⟨HTm.out⟩, HLm, ⟨by rw [List.take_succ_eq_append_getElem HTm.out]; intro z hz; rcases List.mem_append.1 hz with hz | hz; exact HIm.out z hz; rw [List.mem_singleton.1 hz, HYy.out]; exact fun q => HE_.out q.1⟩⟩
        case measure =>
         (try rw [hwm])
         show t2.length - ((m : Int) + 1).toNat < t2.length - (m : Int).toNat
         have := HTm.out
         omega
      ·have hdl : decide (m < t2.length) = false := decide_eq_false hlt
       obtain rfl : t2.length = m := by have := HXm.out; omega
       clear hlt
       exact absurd HZ0.out (by have h := HIm.out; rw [List.take_length] at h; exact h z HP1.out)
theorem laws_FnLockFirm.walk (a0 : Option Addr) (len0 cap0 : Nat) (z0 : List Int) (a1 : Option Addr) (len1 cap1 : Nat) (z1 : List Int) (w : World) (w0 : ((a0 = none ∧ len0 = 0 ∧ cap0 = 0 ∧ z0 = []) ∨ ∃ x, a0 = some x ∧ len0 ≤ cap0 ∧ cap0 ≤ maxLen ∧ z0.length = cap0 ∧ (∀ i, i < z0.length → w.cell? (x.add i) = some (.int .u8 (z0.getD i 0))) ∧ ∀ n ∈ z0, (Lit.int .u8 n).wf = true)) (w1 : ((a1 = none ∧ len1 = 0 ∧ cap1 = 0 ∧ z1 = []) ∨ ∃ x, a1 = some x ∧ len1 ≤ cap1 ∧ cap1 ≤ maxLen ∧ z1.length = cap1 ∧ (∀ i, i < z1.length → w.cell? (x.add i) = some (.int .u8 (z1.getD i 0))) ∧ ∀ n ∈ z1, (Lit.int .u8 n).wf = true)) : Calls Try.prog 14 #[.slice a0 len0 cap0, .slice a1 len1 cap1] w fun e w' => e = .returned (.bool true) ∧ Below w.heap.size w w' := by
 obtain ⟨l0, rfl, hr0, hm0, hw0, hc0⟩ := ReadsInt.ofRowC w0
 obtain ⟨l1, rfl, hr1, hm1, hw1, hc1⟩ := ReadsInt.ofRowC w1
 exact FnLockFirm_main _ _ l0 _ _ l1 w (Kd.C_of_reads (d := (0 : Int)) (h1 := fun _ => rfl) hr0) hc0 hw0 (Kd.C_of_reads (d := (0 : Int)) (h1 := fun _ => rfl) hr1) hc1 hw1
end Go.Proofs.Ytjldpnhlegbjkaa.PA
