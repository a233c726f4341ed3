/- The law FnLockFree, walked by hand: who lets go holds it no more, and who waits longest holds it next; for every code that draws a lock and who asks, no other condition. -/
import Derived.Test.YtjldpnhlegbjkaaD3
import Derived.Test.YtjldpnhlegbjkaaFreeQ
import Derived.Deep.Cut
namespace Go.Proofs.Ytjldpnhlegbjkaa.PA
open Go.RowKit Go.Proofs.YtjldpnhlegbjkaaW.PrintWords Go.Proofs.YtjldpnhlegbjkaaW.PrintLast Go.Proofs.YtjldpnhlegbjkaaW.PrintMore Go.Proofs.Ytjldpnhlegbjkaa.PB
attribute [local go_sem] max2_int min2_int max_two min_two max_three min_three max_four min_four
set_option linter.unusedVariables false
set_option linter.unusedSimpArgs false
set_option maxHeartbeats 8000000 in
set_option maxRecDepth 100000 in
theorem FnLockFree_main (A0 : Option Addr) (c0 : Nat) (l0 : List Int) (w : World) (hr0 : Kd.C (Kd.int .u8) w A0 l0.length l0) (hc0 : l0.length ≤ c0) (hw : ∀ x ∈ l0, (Lit.int .u8 x).wf = true) :
 Calls Try.prog 7 #[.slice A0 l0.length c0] w fun e w' => e = .returned (.bool true) ∧ Below w.heap.size w w' := by
 have hu29 := Try.underlying29
 have hu45 := Try.underlying45
 have HR0 := Aside0.mk hr0
 have HC0 := Aside0.mk hc0
 have HW := Aside0.mk hw
 have HB := Aside0.mk (Below.refl w.heap.size w)
 clear hr0 hc0 hw
 by_cases hz : 1048576 < l0.length
 ·have hzd : decide (1048576 < (l0.length : Int)) = true := decide_eq_true (by omega)
  go_enter Try.func7, Try.ntmps7
  go_wp2_with (fail)
  go_ret
  exact ⟨rfl, HB.out⟩
 ·have hzd : decide (1048576 < (l0.length : Int)) = false := decide_eq_false (by omega)
  clear hz
  go_enter Try.func7, Try.ntmps7
  go_wp2_with (fail)
  clear hzd
  refine (drawFree_calls A0 c0 l0 w HR0.out HC0.out HW.out).mono ?_
  rintro e W1 ⟨s, l1, l2, v1, v2, st, ty, rfl, q1, q2, hl, hb⟩
  obtain ⟨A1, c1, e0⟩ := Kd.R_slice q1
  subst e0
  obtain ⟨A2, c2, e0⟩ := Kd.R_slice q2
  subst e0
  have SEP := Aside0.mk (show ∀ k, (Value.slice A1 l1.length c1).ownBlock = some k → (Value.slice A2 l2.length c2).ownBlock ≠ some k from fun k hk e => (q1.1 k hk) e.symm)
  have q1 := Rw.of q1 HB.out.size
  have q2 := Rw.of q2 HB.out.size
  have HL := Aside0.mk hl
  clear hl
  have Z11 := Aside0.mk ((hb).size)
  have HB := kh HB (hb)
  clear hb
  have R1 := Aside0.mk q1
  have R2 := Aside0.mk q2
  clear q1 q2
  have hb := below_alloc (Below.refl W1.heap.size W1) (.cells #[.int .i64 s, .slice A1 l1.length c1, .slice A2 l2.length c2] 29 (0, 0))
  have Z12 := Aside0.mk ((hb).size)
  have R1 := kw R1 (hb)
  have R2 := kw R2 (hb)
  have HB := kh HB (hb)
  clear hb
  have P3 := Aside0.mk (blk_new W1 (.cells #[.int .i64 s, .slice A1 l1.length c1, .slice A2 l2.length c2] 29 (0, 0)))
  have Z13 := Aside0.mk (blk_lt P3.out)
  go_wp2_with (((with_reducible refine gate_dst (N := 27) rfl ?_); refine wpList_load_row rfl 29 (.tmp 3) rfl W1.heap.size rfl 29 #[.int .i64 s, .slice A1 l1.length c1, .slice A2 l2.length c2] (0, 0) _ P3.out hu29 rfl (by kernel_rfl) ?_))
  generalize W1.alloc (.cells #[.int .i64 s, .slice A1 l1.length c1, .slice A2 l2.length c2] 29 (0, 0)) = W2 at Z12 Z13 P3 R1 R2 HB ⊢
  obtain ⟨b3, hq_⟩ : ∃ b3, b3 = W1.heap.size := ⟨_, rfl⟩
  rw [← hq_] at P3 Z13 ⊢
  have Z14 := Aside0.mk (hq_)
  clear hq_
  have ZZ := Aside0.mk (And.intro Z11.out (And.intro Z12.out (And.intro Z13.out Z14.out)))
  obtain ⟨r1, r2, r3, r4, hF⟩ : ∃ r1 r2 r3 r4, freeF s l1 l2 st ty = (r1, r2, r3, r4) := ⟨_, _, _, _, rfl⟩
  have hln := free_len s l1 l2 st ty
  have hln4 := free_len4 s l1 l2 st ty
  rw [hF] at hln hln4
  simp only at hln hln4
  have HLR := Aside0.mk (And.intro hln hln4)
  have HFR := Aside0.mk hF
  clear hln hln4 hF
  refine (sfree_calls s A1 c1 l1 A2 c2 l2 st ty r1 r2 r3 r4 W2 (R1.out.reads).2.2 (R1.out.reads).2.1 (R2.out.reads).2.2 (R2.out.reads).2.1 (by have := HL.out; omega) (by have := HL.out; omega) HFR.out).mono ?_
  rintro e W3 ⟨v1, v2, v4, rfl, q1, q2, q4, hb⟩
  have SAa := Aside0.mk (show ∀ k, v1.ownBlock = some k → v2.ownBlock ≠ some k ∧ v4.ownBlock ≠ some k from fun k hk => ⟨fun e => (q1.1 k hk).1 e.symm, fun e => (q1.1 k hk).2 e.symm⟩)
  have SBa := Aside0.mk (show ∀ k, v2.ownBlock = some k → v4.ownBlock ≠ some k from fun k hk e => (q2.1 k hk).2 e.symm)
  have q1 := Rw.of q1 HB.out.size
  have q2 := Rw.of q2 HB.out.size
  have q4 := Rw.of q4 HB.out.size
  have ZZ := Aside0.mk (And.intro ZZ.out ((hb).size))
  have P3 := kb P3 (hb)
  have R1 := kw R1 (hb)
  have R2 := kw R2 (hb)
  have HB := kh HB (hb)
  clear hb
  have QW1 := Aside0.mk q1
  have QW2 := Aside0.mk q2
  have QW5 := Aside0.mk q4
  clear q1 q2 q4
  obtain ⟨V1, v1_, e0⟩ := Rw.slice QW1.out
  subst e0
  obtain ⟨V2, v2_, e0⟩ := Rw.slice QW2.out
  subst e0
  obtain ⟨V5, v5_, e0⟩ := Rw.slice QW5.out
  subst e0
  have hb := below_alloc (Below.refl W3.heap.size W3) (.cells #[.int .i64 r1, .slice V1 r2.length v1_, .slice V2 r3.length v2_] 29 (0, 0))
  have ZZ := Aside0.mk (And.intro ZZ.out ((hb).size))
  have P3 := kb P3 (hb)
  have R1 := kw R1 (hb)
  have R2 := kw R2 (hb)
  have QW1 := kw QW1 (hb)
  have QW2 := kw QW2 (hb)
  have QW5 := kw QW5 (hb)
  have HB := kh HB (hb)
  clear hb
  have P6 := Aside0.mk (blk_new W3 (.cells #[.int .i64 r1, .slice V1 r2.length v1_, .slice V2 r3.length v2_] 29 (0, 0)))
  have ZZ := Aside0.mk (And.intro ZZ.out (blk_lt P6.out))
  go_wp2_with (((with_reducible refine gate_dst (N := 33) rfl ?_); refine wpList_load_row rfl 29 (.tmp 3) rfl b3 rfl 29 #[.int .i64 s, .slice A1 l1.length c1, .slice A2 l2.length c2] (0, 0) _ P3.out hu29 rfl (by kernel_rfl) ?_))
  generalize W3.alloc (.cells #[.int .i64 r1, .slice V1 r2.length v1_, .slice V2 r3.length v2_] 29 (0, 0)) = W4 at ZZ P3 P6 R1 R2 QW1 QW2 QW5 HB ⊢
  obtain ⟨b6, hq_⟩ : ∃ b6, b6 = W3.heap.size := ⟨_, rfl⟩
  rw [← hq_] at P6 ZZ ⊢
  have ZZ := Aside0.mk (And.intro ZZ.out (hq_))
  clear hq_
  refine (okS s A1 c1 l1 A2 c2 l2 W4 (R1.out.reads).2.2 (R1.out.reads).2.1 (R2.out.reads).2.2 (R2.out.reads).2.1 (by have := HL.out; omega) (by have := HL.out; omega)).mono ?_
  rintro e W5 ⟨rfl, hb⟩
  have ZZ := Aside0.mk (And.intro ZZ.out ((hb).size))
  have P3 := kb P3 (hb)
  have P6 := kb P6 (hb)
  have R1 := kw R1 (hb)
  have R2 := kw R2 (hb)
  have QW1 := kw QW1 (hb)
  have QW2 := kw QW2 (hb)
  have QW5 := kw QW5 (hb)
  have HB := kh HB (hb)
  clear hb
  go_wp2_with (((with_reducible refine gate_dst (N := 36) rfl ?_); refine wpList_load_row rfl 29 (.tmp 3) rfl b3 rfl 29 #[.int .i64 s, .slice A1 l1.length c1, .slice A2 l2.length c2] (0, 0) _ P3.out hu29 rfl (by kernel_rfl) ?_))
  refine (free_calls s A1 c1 l1 A2 c2 l2 st ty r1 r2 r3 r4 W5 (R1.out.reads).2.2 (R1.out.reads).2.1 (R2.out.reads).2.2 (R2.out.reads).2.1 (by have := HL.out; omega) (by have := HL.out; omega) HFR.out).mono ?_
  rintro e W6 ⟨v1, v2, v4, rfl, q1, q2, q4, hb⟩
  have SAb := Aside0.mk (show ∀ k, v1.ownBlock = some k → v2.ownBlock ≠ some k ∧ v4.ownBlock ≠ some k from fun k hk => ⟨fun e => (q1.1 k hk).1 e.symm, fun e => (q1.1 k hk).2 e.symm⟩)
  have SBb := Aside0.mk (show ∀ k, v2.ownBlock = some k → v4.ownBlock ≠ some k from fun k hk e => (q2.1 k hk).2 e.symm)
  have q1 := Rw.of q1 HB.out.size
  have q2 := Rw.of q2 HB.out.size
  have q4 := Rw.of q4 HB.out.size
  have ZZ := Aside0.mk (And.intro ZZ.out ((hb).size))
  have P3 := kb P3 (hb)
  have P6 := kb P6 (hb)
  have R1 := kw R1 (hb)
  have R2 := kw R2 (hb)
  have QW1 := kw QW1 (hb)
  have QW2 := kw QW2 (hb)
  have QW5 := kw QW5 (hb)
  have HB := kh HB (hb)
  clear hb
  have QG1 := Aside0.mk q1
  have QG2 := Aside0.mk q2
  have QG5 := Aside0.mk q4
  clear q1 q2 q4
  obtain ⟨H1, h1_, e0⟩ := Rw.slice QG1.out
  subst e0
  obtain ⟨H2, h2_, e0⟩ := Rw.slice QG2.out
  subst e0
  obtain ⟨H5, h5_, e0⟩ := Rw.slice QG5.out
  subst e0
  have hb := below_alloc (Below.refl W6.heap.size W6) (.cells #[.int .i64 r1, .slice H1 r2.length h1_, .slice H2 r3.length h2_] 29 (0, 0))
  have ZZ := Aside0.mk (And.intro ZZ.out ((hb).size))
  have P3 := kb P3 (hb)
  have P6 := kb P6 (hb)
  have R1 := kw R1 (hb)
  have R2 := kw R2 (hb)
  have QW1 := kw QW1 (hb)
  have QW2 := kw QW2 (hb)
  have QW5 := kw QW5 (hb)
  have QG1 := kw QG1 (hb)
  have QG2 := kw QG2 (hb)
  have QG5 := kw QG5 (hb)
  have HB := kh HB (hb)
  clear hb
  have P9 := Aside0.mk (blk_new W6 (.cells #[.int .i64 r1, .slice H1 r2.length h1_, .slice H2 r3.length h2_] 29 (0, 0)))
  have ZZ := Aside0.mk (And.intro ZZ.out (blk_lt P9.out))
  go_wp2_with (first | ((with_reducible refine gate_dst (N := 42) rfl ?_); refine wpList_load_row rfl 29 (.tmp 9) rfl W6.heap.size rfl 29 #[.int .i64 r1, .slice H1 r2.length h1_, .slice H2 r3.length h2_] (0, 0) _ P9.out hu29 rfl (by kernel_rfl) ?_) | ((with_reducible refine gate_dst (N := 43) rfl ?_); refine wpList_load_row rfl 29 (.tmp 6) rfl b6 rfl 29 #[.int .i64 r1, .slice V1 r2.length v1_, .slice V2 r3.length v2_] (0, 0) _ P6.out hu29 rfl (by kernel_rfl) ?_))
  generalize W6.alloc (.cells #[.int .i64 r1, .slice H1 r2.length h1_, .slice H2 r3.length h2_] 29 (0, 0)) = W7 at ZZ P3 P6 P9 R1 R2 QW1 QW2 QW5 QG1 QG2 QG5 HB ⊢
  obtain ⟨b9, hq_⟩ : ∃ b9, b9 = W6.heap.size := ⟨_, rfl⟩
  rw [← hq_] at P9 ZZ ⊢
  have ZZ := Aside0.mk (And.intro ZZ.out (hq_))
  clear hq_
  refine (loLock_eq r1 H1 h1_ r2 H2 h2_ r3 V1 v1_ V2 v2_ W7 (QG1.out.reads).2.2 (QG1.out.reads).2.1 (QG2.out.reads).2.2 (QG2.out.reads).2.1 (QW1.out.reads).2.2 (QW1.out.reads).2.1 (QW2.out.reads).2.2 (QW2.out.reads).2.1 (by have := HLR.out; omega) (by have := HLR.out; omega)).mono ?_
  rintro e W8 ⟨rfl, hb⟩
  have ZZ := Aside0.mk (And.intro ZZ.out ((hb).size))
  have P3 := kb P3 (hb)
  have P6 := kb P6 (hb)
  have P9 := kb P9 (hb)
  have R1 := kw R1 (hb)
  have R2 := kw R2 (hb)
  have QW1 := kw QW1 (hb)
  have QW2 := kw QW2 (hb)
  have QW5 := kw QW5 (hb)
  have QG1 := kw QG1 (hb)
  have QG2 := kw QG2 (hb)
  have QG5 := kw QG5 (hb)
  have HB := kh HB (hb)
  clear hb
  go_wp2_with (fail)
  refine (loHolds_eq H5 h5_ r4 V5 v5_ W8 (QG5.out.reads).2.2 (QG5.out.reads).2.1 (QW5.out.reads).2.2 (QW5.out.reads).2.1 (by have := HLR.out; omega)).mono ?_
  rintro e W9 ⟨rfl, hb⟩
  have ZZ := Aside0.mk (And.intro ZZ.out ((hb).size))
  have P3 := kb P3 (hb)
  have P6 := kb P6 (hb)
  have P9 := kb P9 (hb)
  have R1 := kw R1 (hb)
  have R2 := kw R2 (hb)
  have QW1 := kw QW1 (hb)
  have QW2 := kw QW2 (hb)
  have QW5 := kw QW5 (hb)
  have QG1 := kw QG1 (hb)
  have QG2 := kw QG2 (hb)
  have QG5 := kw QG5 (hb)
  have HB := kh HB (hb)
  clear hb
  cases hok : lockB s l1 l2 with
  | false =>
   go_wp2_with (first | ((with_reducible refine gate_dst (N := 56) rfl ?_); refine wpList_load_row rfl 29 (.tmp 9) rfl b9 rfl 29 #[.int .i64 r1, .slice H1 r2.length h1_, .slice H2 r3.length h2_] (0, 0) _ P9.out hu29 rfl (by kernel_rfl) ?_) | ((with_reducible refine gate_dst (N := 57) rfl ?_); refine wpList_load_row rfl 29 (.tmp 6) rfl b6 rfl 29 #[.int .i64 r1, .slice V1 r2.length v1_, .slice V2 r3.length v2_] (0, 0) _ P6.out hu29 rfl (by kernel_rfl) ?_))
   refine (loLock_eq r1 H1 h1_ r2 H2 h2_ r3 V1 v1_ V2 v2_ W9 (QG1.out.reads).2.2 (QG1.out.reads).2.1 (QG2.out.reads).2.2 (QG2.out.reads).2.1 (QW1.out.reads).2.2 (QW1.out.reads).2.1 (QW2.out.reads).2.2 (QW2.out.reads).2.1 (by have := HLR.out; omega) (by have := HLR.out; omega)).mono ?_
   rintro e W10 ⟨rfl, hb⟩
   have ZZ := Aside0.mk (And.intro ZZ.out ((hb).size))
   have P3 := kb P3 (hb)
   have P6 := kb P6 (hb)
   have P9 := kb P9 (hb)
   have R1 := kw R1 (hb)
   have R2 := kw R2 (hb)
   have QW1 := kw QW1 (hb)
   have QW2 := kw QW2 (hb)
   have QW5 := kw QW5 (hb)
   have QG1 := kw QG1 (hb)
   have QG2 := kw QG2 (hb)
   have QG5 := kw QG5 (hb)
   have HB := kh HB (hb)
   clear hb
   go_wp2_with (fail)
   refine (loHolds_eq H5 h5_ r4 V5 v5_ W10 (QG5.out.reads).2.2 (QG5.out.reads).2.1 (QW5.out.reads).2.2 (QW5.out.reads).2.1 (by have := HLR.out; omega)).mono ?_
   rintro e W11 ⟨rfl, hb⟩
   have ZZ := Aside0.mk (And.intro ZZ.out ((hb).size))
   have P3 := kb P3 (hb)
   have P6 := kb P6 (hb)
   have P9 := kb P9 (hb)
   have R1 := kw R1 (hb)
   have R2 := kw R2 (hb)
   have QW1 := kw QW1 (hb)
   have QW2 := kw QW2 (hb)
   have QW5 := kw QW5 (hb)
   have QG1 := kw QG1 (hb)
   have QG2 := kw QG2 (hb)
   have QG5 := kw QG5 (hb)
   have HB := kh HB (hb)
   clear hb
   go_wp2_with (fail)
   go_ret
   exact ⟨rfl, HB.out⟩
  | true =>
   obtain ⟨-, HFI_⟩ := free_all hok HFR.out
   have HFI := Aside0.mk HFI_
   have HW3 := Aside0.mk (fun z hz => (waits_no3 hok (z := z) hz))
   have HOK2 := Aside0.mk (free_ok hok HFR.out)
   have HTW := Aside0.mk (free_twice hok HFR.out)
   clear hok HFI_
   have HLZ : Aside0 (r2.length ≤ 64 ∧ r4.length ≤ 64 ∧ l2.length ≤ 64) := ⟨by have := HLR.out; have := HL.out; omega⟩
   go_wp2_with (fail)
   go_loopw [11] (fun i wr => ∃ n : Nat, i = .int .i64 (n : Int) ∧ Aside0 (n ≤ r2.length) ∧ Aside0 (Below W9.heap.size W9 wr) ∧ Aside0 (True)) (fun i _ => r2.length - (intOf i).toNat)
   case atStart => exact ⟨0, rfl, ⟨Nat.zero_le _⟩, ⟨Below.refl _ _⟩, ⟨trivial⟩⟩
   case round =>
    obtain ⟨W12, e_⟩ : ∃ X, X = wr := ⟨_, rfl⟩
    subst e_
    obtain ⟨n, rfl, HXn, HLn, HIn⟩ := hrel
    have ZZ := Aside0.mk (And.intro ZZ.out ((HLn.out).size))
    have P3 := kb P3 (HLn.out)
    have P6 := kb P6 (HLn.out)
    have P9 := kb P9 (HLn.out)
    have R1 := kw R1 (HLn.out)
    have R2 := kw R2 (HLn.out)
    have QW1 := kw QW1 (HLn.out)
    have QW2 := kw QW2 (HLn.out)
    have QW5 := kw QW5 (HLn.out)
    have QG1 := kw QG1 (HLn.out)
    have QG2 := kw QG2 (HLn.out)
    have QG5 := kw QG5 (HLn.out)
    have HB := kh HB (HLn.out)
    by_cases hlt : n < r2.length
    ·have HTn := Aside0.mk hlt
     have hdl : decide (n < r2.length) = true := decide_eq_true hlt
     have hwn : wrap64 ((n : Int) + 1) = (n : Int) + 1 := by unfold wrap64; have := HLZ.out; omega
     obtain ⟨adn, hA, y0, y1, y2, y3⟩ := at_T45 (QG1.out.reads).2.2 (n : Int) (by omega) (by have := HTn.out; omega)
     subst hA
     simp only [Int.toNat_natCast] at y0 y1 y2 y3
     have hrd := rdH HTn.out
     rw [hrd] at y0 y1 y2 y3
     generalize hyx_ : r2[n]'(HTn.out) = y at y0 y1 y2 y3
     have HYy := Aside0.mk hyx_
     clear hrd hyx_
     have hg := HFI.out.g1 y (by rw [← HYy.out]; exact List.getElem_mem _)
     unfold goneB at hg
     have hb1 := (blk_cell P9.out 1).trans (show _ = some (.slice (some adn) r2.length h1_) from rfl)
     by_cases he_ : y.f0 = st
     ·have he : (y.f0 == st) = true := beq_iff_eq.mpr he_
      have hle : decide (y.f1 ≤ ty) = false := by rw [decide_eq_true he_] at hg; simpa using hg
      clear hg he_
      go_wp2_with (fail)
      clear hb1
      try (go_wp2_with (fail))
      go_roundw
      case rel => exact ⟨n + 1, (by first | rfl | exact congrArg (Value.int .i64) (by omega)), ⟨HTn.out⟩, HLn, ⟨trivial⟩⟩
      case measure =>
       (try rw [hwn])
       show r2.length - ((n : Int) + 1).toNat < r2.length - (n : Int).toNat
       have := HTn.out
       omega
     ·have he : (y.f0 == st) = false := beq_eq_false_iff_ne.mpr he_
      clear hg he_
      go_wp2_with (fail)
      clear hb1
      try (go_wp2_with (fail))
      go_roundw
      case rel => exact ⟨n + 1, (by first | rfl | exact congrArg (Value.int .i64) (by omega)), ⟨HTn.out⟩, HLn, ⟨trivial⟩⟩
      case measure =>
       (try rw [hwn])
       show r2.length - ((n : Int) + 1).toNat < r2.length - (n : Int).toNat
       have := HTn.out
       omega
    ·have hdl : decide (n < r2.length) = false := decide_eq_false hlt
     obtain rfl : r2.length = n := by have := HXn.out; omega
     clear hlt
     have hb1 := (blk_cell P9.out 1).trans (show _ = some (.slice H1 r2.length h1_) from rfl)
     go_wp2_with (fail)
     clear hb1 hdl
     go_loopw [12] (fun i wr => ∃ m : Nat, i = .int .i64 (m : Int) ∧ Aside0 (m ≤ r4.length) ∧ Aside0 (Below W12.heap.size W12 wr) ∧ Aside0 (True)) (fun i _ => r4.length - (intOf i).toNat)
     case atStart => exact ⟨0, rfl, ⟨Nat.zero_le _⟩, ⟨Below.refl _ _⟩, ⟨trivial⟩⟩
     case round =>
      obtain ⟨W13, e_⟩ : ∃ X, X = wr := ⟨_, rfl⟩
      subst e_
      obtain ⟨m, rfl, HXm, HLm, HIm⟩ := hrel
      have ZZ := Aside0.mk (And.intro ZZ.out ((HLm.out).size))
      have P3 := kb P3 (HLm.out)
      have P6 := kb P6 (HLm.out)
      have P9 := kb P9 (HLm.out)
      have R1 := kw R1 (HLm.out)
      have R2 := kw R2 (HLm.out)
      have QW1 := kw QW1 (HLm.out)
      have QW2 := kw QW2 (HLm.out)
      have QW5 := kw QW5 (HLm.out)
      have QG1 := kw QG1 (HLm.out)
      have QG2 := kw QG2 (HLm.out)
      have QG5 := kw QG5 (HLm.out)
      have HB := kh HB (HLm.out)
      by_cases hlt : m < r4.length
      ·have HTm := Aside0.mk hlt
       have hdl : decide (m < r4.length) = true := decide_eq_true hlt
       have hwm : wrap64 ((m : Int) + 1) = (m : Int) + 1 := by unfold wrap64; have := HLZ.out; omega
       obtain ⟨adm, hA, y0, y1, y2, y3⟩ := at_T45 (QG5.out.reads).2.2 (m : Int) (by omega) (by have := HTm.out; omega)
       subst hA
       simp only [Int.toNat_natCast] at y0 y1 y2 y3
       have hrd := rdH HTm.out
       rw [hrd] at y0 y1 y2 y3
       generalize hyx_ : r4[m]'(HTm.out) = y at y0 y1 y2 y3
       have HYy := Aside0.mk hyx_
       clear hrd hyx_
       have HYM : Aside0 (y ∈ l2) := ⟨HFI.out.g3 y (by rw [← HYy.out]; exact List.getElem_mem _)⟩
       have hy3_ : y.f3 = false := HW3.out y HYM.out
       have HY3 := Aside0.mk hy3_
       clear hy3_ y0 y1 y2 y3
       go_wp2_with (fail)
       go_loopw [13, 14] (fun v13 i wr => ∃ (k : Nat) (b : Bool), v13 = .bool b ∧ i = .int .i64 (k : Int) ∧ Aside0 (k ≤ l2.length) ∧ Aside0 (Below W13.heap.size W13 wr) ∧ Aside0 (∀ z ∈ l2.take k, z = y → b = true)) (fun _ i _ => l2.length - (intOf i).toNat)
       case atStart => exact ⟨0, false, rfl, rfl, ⟨Nat.zero_le _⟩, ⟨Below.refl _ _⟩, ⟨fun z hz => by simp at hz⟩⟩
       case round =>
        obtain ⟨W14, e_⟩ : ∃ X, X = wr := ⟨_, rfl⟩
        subst e_
        obtain ⟨k, b, rfl, rfl, HXk, HLk, HIk⟩ := hrel
        have ZZ := Aside0.mk (And.intro ZZ.out ((HLk.out).size))
        have P3 := kb P3 (HLk.out)
        have P6 := kb P6 (HLk.out)
        have P9 := kb P9 (HLk.out)
        have R1 := kw R1 (HLk.out)
        have R2 := kw R2 (HLk.out)
        have QW1 := kw QW1 (HLk.out)
        have QW2 := kw QW2 (HLk.out)
        have QW5 := kw QW5 (HLk.out)
        have QG1 := kw QG1 (HLk.out)
        have QG2 := kw QG2 (HLk.out)
        have QG5 := kw QG5 (HLk.out)
        have HB := kh HB (HLk.out)
        have HLm := kh HLm (HLk.out)
        by_cases hlt : k < l2.length
        ·have HTk := Aside0.mk hlt
         have hdl : decide (k < l2.length) = true := decide_eq_true hlt
         have hwk : wrap64 ((k : Int) + 1) = (k : Int) + 1 := by unfold wrap64; have := HLZ.out; omega
         cases hb_ : b with
         | true =>
          have hb2 := (blk_cell P3.out 2).trans (show _ = some (.slice A2 l2.length c2) from rfl)
          go_wp2_with (fail)
          clear hb2
          have P3 := kbd P3
          have P6 := kbd P6
          have P9 := kbd P9
          have R1 := kwd R1
          have R2 := kwd R2
          have QW1 := kwd QW1
          have QW2 := kwd QW2
          have QW5 := kwd QW5
          have QG1 := kwd QG1
          have QG2 := kwd QG2
          have QG5 := kwd QG5
          have HB := khd HB
          have HLm := khd HLm
          have HLk := khd HLk
          have ZZ := Aside0.mk (And.intro ZZ.out (show W14.heap.size ≤ (W14.drew).heap.size from Nat.le_refl _))
          have HSS := (show True from trivial)
          refine start_ (n := 14) (S := fun w' => True) (ds := []) (bt_ 14 0) (by kernel_rfl) rfl rfl HSS (fun hHeld => ?_)
          clear HSS
          generalize W14.drew = W15 at P3 P6 P9 R1 R2 QW1 QW2 QW5 QG1 QG2 QG5 HB HLm HLk ZZ hHeld ⊢
          refine pu_ 0 (some 102) (bt_ 14 1) (by kernel_rfl) ?_
          refine pu_ 1 (some 103) (bt_ 14 3) (by kernel_rfl) ?_
          refine pn_ 2 (some 104) (bt_ 14 7) (by kernel_rfl) ?_
          refine pn_ 3 (some 105) (bt_ 14 15) (by kernel_rfl) ?_
          refine pn_ 4 (some 106) (bt_ 14 31) (by kernel_rfl) ?_
          refine pn_ 5 (some 107) (bt_ 14 63) (by kernel_rfl) ?_
          refine pn_ 6 (some 108) (bt_ 14 127) (by kernel_rfl) ?_
          refine pn_ 7 (some 109) (bt_ 14 255) (by kernel_rfl) ?_
          refine pn_ 8 (some 110) (bt_ 14 511) (by kernel_rfl) ?_
          refine pn_ 9 (some 111) (bt_ 14 1023) (by kernel_rfl) ?_
          refine pn_ 10 (some 112) (bt_ 14 2047) (by kernel_rfl) ?_
          refine pn_ 11 (some 113) (bt_ 14 4095) (by kernel_rfl) ?_
          refine pu_ 12 (some 114) (bt_ 14 8191) (by kernel_rfl) ?_
          refine pu_ 13 (some 13) (bt_ 14 16383) (by kernel_rfl) ?_
          clear hHeld
          refine done_ (by kernel_rfl) ?_
          go_wp2_with (fail)
          try (go_wp2_with (fail))
          go_roundw
          case rel => exact ⟨k + 1, true, (by first | rfl | (simp; done)), (by first | rfl | exact congrArg (Value.int .i64) (by omega)), ⟨HTk.out⟩, HLk, ⟨by rw [List.take_succ_eq_append_getElem HTk.out]; intro z hz he; rfl⟩⟩
          case measure =>
           (try rw [hwk])
           show l2.length - ((k : Int) + 1).toNat < l2.length - (k : Int).toNat
           have := HTk.out
           omega
         | false =>
          obtain ⟨ad', hA', y0, y1, y2, y3⟩ := at_T45 (QG5.out.reads).2.2 (m : Int) (by have := HTm.out; omega) (by have := HTm.out; omega)
          obtain rfl : adm = ad' := Option.some.inj hA'
          clear hA'
          simp only [Int.toNat_natCast] at y0 y1 y2 y3
          rw [rdH HTm.out, HYy.out] at y0 y1 y2 y3
          obtain ⟨adk, hA, z0, z1, z2, z3⟩ := at_T45 (R2.out.reads).2.2 (k : Int) (by omega) (by have := HTk.out; omega)
          subst hA
          simp only [Int.toNat_natCast] at z0 z1 z2 z3
          have hrd := rdH HTk.out
          rw [hrd] at z0 z1 z2 z3
          generalize hyx_ : l2[k]'(HTk.out) = z at z0 z1 z2 z3
          have HYz := Aside0.mk hyx_
          clear hrd hyx_
          have hz3_ : z.f3 = false := HW3.out z (by rw [← HYz.out]; exact List.getElem_mem _)
          rw [hz3_] at z3
          have hq3 : y.f3 = false := HY3.out
          rw [hq3] at y3
          have HZ3 := Aside0.mk hz3_
          clear hq3 hz3_
          have hlt1 : m < r4.length := HTm.out
          have hb2 := (blk_cell P3.out 2).trans (show _ = some (.slice (some adk) l2.length c2) from rfl)
          go_wp2_with (fail)
          clear hb2
          have P3 := kbd P3
          have P6 := kbd P6
          have P9 := kbd P9
          have R1 := kwd R1
          have R2 := kwd R2
          have QW1 := kwd QW1
          have QW2 := kwd QW2
          have QW5 := kwd QW5
          have QG1 := kwd QG1
          have QG2 := kwd QG2
          have QG5 := kwd QG5
          have HB := khd HB
          have HLm := khd HLm
          have HLk := khd HLk
          have ZZ := Aside0.mk (And.intro ZZ.out (show W14.heap.size ≤ (W14.drew).heap.size from Nat.le_refl _))
          have HSS := (show (W14.drew).cell? ⟨b3, 2, none⟩ = some (.slice (some adk) l2.length c2) ∧ (W14.drew).cell? (adk.add (k * 4)) = some (.int .i64 z.f0) ∧ (W14.drew).cell? ⟨(adk.add (k * 4)).block, (adk.add (k * 4)).off + 1, none⟩ = some (.int .i64 z.f1) ∧ (W14.drew).cell? ⟨(adk.add (k * 4)).block, (adk.add (k * 4)).off + 2, none⟩ = some (.bool z.f2) ∧ (W14.drew).cell? ⟨(adk.add (k * 4)).block, (adk.add (k * 4)).off + 3, none⟩ = some (.bool false) ∧ (W14.drew).cell? (adm.add (m * 4)) = some (.int .i64 y.f0) ∧ (W14.drew).cell? ⟨(adm.add (m * 4)).block, (adm.add (m * 4)).off + 1, none⟩ = some (.int .i64 y.f1) ∧ (W14.drew).cell? ⟨(adm.add (m * 4)).block, (adm.add (m * 4)).off + 2, none⟩ = some (.bool y.f2) ∧ (W14.drew).cell? ⟨(adm.add (m * 4)).block, (adm.add (m * 4)).off + 3, none⟩ = some (.bool false) from ⟨(blk_cell P3.out 2).trans rfl, z0, z1, z2, z3, y0, y1, y2, y3⟩)
          refine start_ (n := 14) (S := fun w' => w'.cell? ⟨b3, 2, none⟩ = some (.slice (some adk) l2.length c2) ∧ w'.cell? (adk.add (k * 4)) = some (.int .i64 z.f0) ∧ w'.cell? ⟨(adk.add (k * 4)).block, (adk.add (k * 4)).off + 1, none⟩ = some (.int .i64 z.f1) ∧ w'.cell? ⟨(adk.add (k * 4)).block, (adk.add (k * 4)).off + 2, none⟩ = some (.bool z.f2) ∧ w'.cell? ⟨(adk.add (k * 4)).block, (adk.add (k * 4)).off + 3, none⟩ = some (.bool false) ∧ w'.cell? (adm.add (m * 4)) = some (.int .i64 y.f0) ∧ w'.cell? ⟨(adm.add (m * 4)).block, (adm.add (m * 4)).off + 1, none⟩ = some (.int .i64 y.f1) ∧ w'.cell? ⟨(adm.add (m * 4)).block, (adm.add (m * 4)).off + 2, none⟩ = some (.bool y.f2) ∧ w'.cell? ⟨(adm.add (m * 4)).block, (adm.add (m * 4)).off + 3, none⟩ = some (.bool false)) (ds := []) (bt_ 14 0) (by kernel_rfl) rfl rfl HSS (fun hHeld => ?_)
          clear HSS y0 y1 y2 y3 z0 z1 z2 z3
          generalize W14.drew = W16 at P3 P6 P9 R1 R2 QW1 QW2 QW5 QG1 QG2 QG5 HB HLm HLk ZZ hHeld ⊢
          refine pu_ 0 (some 102) (bt_ 14 1) (by kernel_rfl) ?_
          refine pu_ 1 (some 103) (bt_ 14 3) (by kernel_rfl) ?_
          refine pu_ 2 (some 104) (bt_ 14 7) (by kernel_rfl) ?_
          refine tk_ 3 (some 105) (bt_ 14 15) (by kernel_rfl) hHeld ?_
          refine pu_ 4 (some 106) (bt_ 14 31) (by kernel_rfl) ?_
          refine pu_ 5 (some 107) (bt_ 14 63) (by kernel_rfl) ?_
          refine tk_ 6 (some 108) (bt_ 14 127) (by kernel_rfl) hHeld ?_
          refine pu_ 7 (some 109) (bt_ 14 255) (by kernel_rfl) ?_
          refine pu_ 8 (some 110) (bt_ 14 511) (by kernel_rfl) ?_
          refine pu_ 9 (some 111) (bt_ 14 1023) (by kernel_rfl) ?_
          refine tk_ 10 (some 112) (bt_ 14 2047) (by kernel_rfl) hHeld ?_
          clear hHeld
          refine pu_ (v := .bool (eqH z y)) 11 (some 113) (bt_ 14 4095) (by kernel_rfl) (hr := by (intro w'; go_simp; exact eq9ff HZ3.out HY3.out (fun b => Result.ok (Next.value (Value.bool b)) w'))) ?_
          refine pu_ 12 (some 114) (bt_ 14 8191) (by kernel_rfl) ?_
          refine pu_ 13 (some 13) (bt_ 14 16383) (by kernel_rfl) ?_
          refine done_ (by kernel_rfl) ?_
          go_wp2_with (fail)
          try (go_wp2_with (fail))
          go_roundw
          case rel => exact ⟨k + 1, eqH z y, (by first | rfl | (simp; done)), (by first | rfl | exact congrArg (Value.int .i64) (by omega)), ⟨HTk.out⟩, HLk, ⟨by rw [List.take_succ_eq_append_getElem HTk.out]; intro z hz he; rcases List.mem_append.1 hz with hz | hz; exact absurd (HIk.out z hz he) (by simp [hb_]); rw [List.mem_singleton.1 hz, HYz.out] at he; rw [he]; exact eqH_self y⟩⟩
          case measure =>
           (try rw [hwk])
           show l2.length - ((k : Int) + 1).toNat < l2.length - (k : Int).toNat
           have := HTk.out
           omega
        ·have hdl : decide (k < l2.length) = false := decide_eq_false hlt
         obtain rfl : l2.length = k := by have := HXk.out; omega
         clear hlt
         obtain rfl : b = true := by have h := HIk.out; rw [List.take_length] at h; exact h y HYM.out rfl
         have hb2 := (blk_cell P3.out 2).trans (show _ = some (.slice A2 l2.length c2) from rfl)
         go_wp2_with (fail)
         clear hb2
         by_cases h0_ : 0 < m
         ·have hgd : decide (0 < m) = true := decide_eq_true h0_
          have hw1 : wrap64 ((m : Int) - 1) = (m : Int) - 1 := by unfold wrap64; have := HLZ.out; have := HTm.out; omega
          have pi_ : (1 ≤ (m : Int)) = True := eq_true (by omega)
          have qi_ : ((m : Int) - 1 < (r4.length : Int)) = True := eq_true (by have := HTm.out; omega)
          obtain ⟨ad', hA', y0, y1, y2, y3⟩ := at_T45 (QG5.out.reads).2.2 (m : Int) (by have := HTm.out; omega) (by have := HTm.out; omega)
          obtain rfl : adm = ad' := Option.some.inj hA'
          clear hA'
          simp only [Int.toNat_natCast] at y0 y1 y2 y3
          rw [rdH HTm.out, HYy.out] at y0 y1 y2 y3
          obtain ⟨ad', hA', u0, u1, u2, u3⟩ := at_T45 (QG5.out.reads).2.2 ((m - 1 : Nat) : Int) (by omega) (by have := HTm.out; omega)
          obtain rfl : adm = ad' := Option.some.inj hA'
          clear hA'
          simp only [Int.toNat_natCast] at u0
          have hpr := asc_prev HFI.out.a3 HTm.out h0_
          rw [HYy.out] at hpr
          generalize rd_T45 r4 ((m - 1 : Nat) : Int) = u at u0 hpr
          have hld : decide (y.f0 ≤ u.f0) = false := decide_eq_false (by omega)
          clear u1 u2 u3 hpr
          have hlt1 : m < r4.length := HTm.out
          have P3 := kbd P3
          have P6 := kbd P6
          have P9 := kbd P9
          have R1 := kwd R1
          have R2 := kwd R2
          have QW1 := kwd QW1
          have QW2 := kwd QW2
          have QW5 := kwd QW5
          have QG1 := kwd QG1
          have QG2 := kwd QG2
          have QG5 := kwd QG5
          have HB := khd HB
          have HLm := khd HLm
          have ZZ := Aside0.mk (And.intro ZZ.out (show W14.heap.size ≤ (W14.drew).heap.size from Nat.le_refl _))
          have HSS := (show (W14.drew).cell? (adm.add ((m - 1) * 4)) = some (.int .i64 u.f0) ∧ (W14.drew).cell? (adm.add (m * 4)) = some (.int .i64 y.f0) from ⟨u0, y0⟩)
          refine start_ (n := 20) (S := fun w' => w'.cell? (adm.add ((m - 1) * 4)) = some (.int .i64 u.f0) ∧ w'.cell? (adm.add (m * 4)) = some (.int .i64 y.f0)) (ds := []) (bt_ 20 0) (by kernel_rfl) rfl rfl HSS (fun hHeld => ?_)
          clear HSS u0 y0 y1 y2 y3
          generalize W14.drew = W17 at P3 P6 P9 R1 R2 QW1 QW2 QW5 QG1 QG2 QG5 HB HLm ZZ hHeld ⊢
          refine pu_ 0 (some 115) (bt_ 20 1) (by kernel_rfl) ?_
          refine pu_ 1 (some 116) (bt_ 20 3) (by kernel_rfl) ?_
          refine pu_ 2 (some 117) (bt_ 20 7) (by kernel_rfl) ?_
          refine pu_ 3 (some 118) (bt_ 20 15) (by kernel_rfl) ?_
          refine pu_ 4 (some 119) (bt_ 20 31) (by kernel_rfl) ?_
          refine pu_ 5 (some 120) (bt_ 20 63) (by kernel_rfl) ?_
          refine pu_ 6 (some 121) (bt_ 20 127) (by kernel_rfl) ?_
          refine pu_ 7 (some 122) (bt_ 20 255) (by kernel_rfl) ?_
          refine pu_ 8 (some 123) (bt_ 20 511) (by kernel_rfl) ?_
          refine pu_ 9 (some 124) (bt_ 20 1023) (by kernel_rfl) ?_
          refine pu_ 10 (some 125) (bt_ 20 2047) (by kernel_rfl) ?_
          refine tk_ 11 (some 126) (bt_ 20 4095) (by kernel_rfl) hHeld ?_
          refine pu_ 12 (some 127) (bt_ 20 8191) (by kernel_rfl) ?_
          refine pu_ 13 (some 128) (bt_ 20 16383) (by kernel_rfl) ?_
          refine pu_ 14 (some 129) (bt_ 20 32767) (by kernel_rfl) ?_
          refine pu_ 15 (some 130) (bt_ 20 65535) (by kernel_rfl) ?_
          refine tk_ 16 (some 131) (bt_ 20 131071) (by kernel_rfl) hHeld ?_
          refine pu_ 17 (some 132) (bt_ 20 262143) (by kernel_rfl) ?_
          refine pu_ 18 (some 133) (bt_ 20 524287) (by kernel_rfl) ?_
          refine pu_ 19 (some 134) (bt_ 20 1048575) (by kernel_rfl) ?_
          clear hHeld
          refine done_ (by kernel_rfl) ?_
          clear pi_ qi_ hw1
          go_wp2_with (fail)
          try (go_wp2_with (fail))
          go_roundw
          case rel => exact ⟨m + 1, (by first | rfl | exact congrArg (Value.int .i64) (by omega)), ⟨HTm.out⟩, HLm, ⟨trivial⟩⟩
          case measure =>
           (try rw [hwm])
           show r4.length - ((m : Int) + 1).toNat < r4.length - (m : Int).toNat
           have := HTm.out
           omega
         ·have hgd : decide (0 < m) = false := decide_eq_false h0_
          have P3 := kbd P3
          have P6 := kbd P6
          have P9 := kbd P9
          have R1 := kwd R1
          have R2 := kwd R2
          have QW1 := kwd QW1
          have QW2 := kwd QW2
          have QW5 := kwd QW5
          have QG1 := kwd QG1
          have QG2 := kwd QG2
          have QG5 := kwd QG5
          have HB := khd HB
          have HLm := khd HLm
          have ZZ := Aside0.mk (And.intro ZZ.out (show W14.heap.size ≤ (W14.drew).heap.size from Nat.le_refl _))
          have HSS := (show True from trivial)
          refine start_ (n := 20) (S := fun w' => True) (ds := []) (bt_ 20 0) (by kernel_rfl) rfl rfl HSS (fun hHeld => ?_)
          clear HSS
          generalize W14.drew = W18 at P3 P6 P9 R1 R2 QW1 QW2 QW5 QG1 QG2 QG5 HB HLm ZZ hHeld ⊢
          refine pu_ 0 (some 115) (bt_ 20 1) (by kernel_rfl) ?_
          refine pu_ 1 (some 116) (bt_ 20 3) (by kernel_rfl) ?_
          refine pu_ 2 (some 117) (bt_ 20 7) (by kernel_rfl) ?_
          refine pu_ 3 (some 118) (bt_ 20 15) (by kernel_rfl) ?_
          refine pu_ 4 (some 119) (bt_ 20 31) (by kernel_rfl) ?_
          refine pu_ 5 (some 120) (bt_ 20 63) (by kernel_rfl) ?_
          refine pn_ 6 (some 121) (bt_ 20 127) (by kernel_rfl) ?_
          refine pn_ 7 (some 122) (bt_ 20 255) (by kernel_rfl) ?_
          refine pn_ 8 (some 123) (bt_ 20 511) (by kernel_rfl) ?_
          refine pn_ 9 (some 124) (bt_ 20 1023) (by kernel_rfl) ?_
          refine pn_ 10 (some 125) (bt_ 20 2047) (by kernel_rfl) ?_
          refine pn_ 11 (some 126) (bt_ 20 4095) (by kernel_rfl) ?_
          refine pn_ 12 (some 127) (bt_ 20 8191) (by kernel_rfl) ?_
          refine pn_ 13 (some 128) (bt_ 20 16383) (by kernel_rfl) ?_
          refine pn_ 14 (some 129) (bt_ 20 32767) (by kernel_rfl) ?_
          refine pn_ 15 (some 130) (bt_ 20 65535) (by kernel_rfl) ?_
          refine pn_ 16 (some 131) (bt_ 20 131071) (by kernel_rfl) ?_
          refine pn_ 17 (some 132) (bt_ 20 262143) (by kernel_rfl) ?_
          refine pu_ 18 (some 133) (bt_ 20 524287) (by kernel_rfl) ?_
          refine pu_ 19 (some 134) (bt_ 20 1048575) (by kernel_rfl) ?_
          clear hHeld
          refine done_ (by kernel_rfl) ?_
          go_wp2_with (fail)
          try (go_wp2_with (fail))
          go_roundw
          case rel => exact ⟨m + 1, (by first | rfl | exact congrArg (Value.int .i64) (by omega)), ⟨HTm.out⟩, HLm, ⟨trivial⟩⟩
          case measure =>
           (try rw [hwm])
           show r4.length - ((m : Int) + 1).toNat < r4.length - (m : Int).toNat
           have := HTm.out
           omega
      ·have hdl : decide (m < r4.length) = false := decide_eq_false hlt
       obtain rfl : r4.length = m := by have := HXm.out; omega
       clear hlt
       go_wp2_with (((with_reducible refine gate_dst (N := 136) rfl ?_); refine wpList_load_row rfl 29 (.tmp 9) rfl b9 rfl 29 #[.int .i64 r1, .slice H1 r2.length h1_, .slice H2 r3.length h2_] (0, 0) _ P9.out hu29 rfl (by kernel_rfl) ?_))
       clear hdl
       refine (free_calls r1 H1 h1_ r2 H2 h2_ r3 st ty r1 r2 r3 [] W13 (QG1.out.reads).2.2 (QG1.out.reads).2.1 (QG2.out.reads).2.2 (QG2.out.reads).2.1 (by have := HLR.out; omega) (by have := HLR.out; omega) HTW.out).mono ?_
       rintro e W19 ⟨v1, v2, v4, rfl, q1, q2, q4, hb⟩
       have SAc := Aside0.mk (show ∀ k, v1.ownBlock = some k → v2.ownBlock ≠ some k ∧ v4.ownBlock ≠ some k from fun k hk => ⟨fun e => (q1.1 k hk).1 e.symm, fun e => (q1.1 k hk).2 e.symm⟩)
       have SBc := Aside0.mk (show ∀ k, v2.ownBlock = some k → v4.ownBlock ≠ some k from fun k hk e => (q2.1 k hk).2 e.symm)
       have q1 := Rw.of q1 HB.out.size
       have q2 := Rw.of q2 HB.out.size
       have q4 := Rw.of q4 HB.out.size
       have ZZ := Aside0.mk (And.intro ZZ.out ((hb).size))
       have P3 := kb P3 (hb)
       have P6 := kb P6 (hb)
       have P9 := kb P9 (hb)
       have R1 := kw R1 (hb)
       have R2 := kw R2 (hb)
       have QW1 := kw QW1 (hb)
       have QW2 := kw QW2 (hb)
       have QW5 := kw QW5 (hb)
       have QG1 := kw QG1 (hb)
       have QG2 := kw QG2 (hb)
       have QG5 := kw QG5 (hb)
       have HB := kh HB (hb)
       clear hb
       have QM1 := Aside0.mk q1
       have QM2 := Aside0.mk q2
       have QM5 := Aside0.mk q4
       clear q1 q2 q4
       obtain ⟨M1, m1_, e0⟩ := Rw.slice QM1.out
       subst e0
       obtain ⟨M2, m2_, e0⟩ := Rw.slice QM2.out
       subst e0
       obtain ⟨M5, m5_, e0⟩ := Rw.slice QM5.out
       subst e0
       have hb := below_alloc (Below.refl W19.heap.size W19) (.cells #[.int .i64 r1, .slice M1 r2.length m1_, .slice M2 r3.length m2_] 29 (0, 0))
       have ZZ := Aside0.mk (And.intro ZZ.out ((hb).size))
       have P3 := kb P3 (hb)
       have P6 := kb P6 (hb)
       have P9 := kb P9 (hb)
       have R1 := kw R1 (hb)
       have R2 := kw R2 (hb)
       have QW1 := kw QW1 (hb)
       have QW2 := kw QW2 (hb)
       have QW5 := kw QW5 (hb)
       have QG1 := kw QG1 (hb)
       have QG2 := kw QG2 (hb)
       have QG5 := kw QG5 (hb)
       have QM1 := kw QM1 (hb)
       have QM2 := kw QM2 (hb)
       have QM5 := kw QM5 (hb)
       have HB := kh HB (hb)
       clear hb
       have PF := Aside0.mk (blk_new W19 (.cells #[.int .i64 r1, .slice M1 r2.length m1_, .slice M2 r3.length m2_] 29 (0, 0)))
       have ZZ := Aside0.mk (And.intro ZZ.out (blk_lt PF.out))
       go_wp2_with (((with_reducible refine gate_dst (N := 142) rfl ?_); refine wpList_load_row rfl 29 (.tmp 9) rfl b9 rfl 29 #[.int .i64 r1, .slice H1 r2.length h1_, .slice H2 r3.length h2_] (0, 0) _ P9.out hu29 rfl (by kernel_rfl) ?_))
       generalize W19.alloc (.cells #[.int .i64 r1, .slice M1 r2.length m1_, .slice M2 r3.length m2_] 29 (0, 0)) = W20 at ZZ P3 P6 P9 PF R1 R2 QW1 QW2 QW5 QG1 QG2 QG5 QM1 QM2 QM5 HB ⊢
       obtain ⟨bF, hq_⟩ : ∃ bF, bF = W19.heap.size := ⟨_, rfl⟩
       rw [← hq_] at PF ZZ ⊢
       have ZZ := Aside0.mk (And.intro ZZ.out (hq_))
       clear hq_
       refine (okI r1 H1 h1_ r2 H2 h2_ r3 W20 (QG1.out.reads).2.2 (QG1.out.reads).2.1 (QG2.out.reads).2.2 (QG2.out.reads).2.1 (by have := HLR.out; omega) (by have := HLR.out; omega)).mono ?_
       rintro e W21 ⟨rfl, hb⟩
       have ZZ := Aside0.mk (And.intro ZZ.out ((hb).size))
       have P3 := kb P3 (hb)
       have P6 := kb P6 (hb)
       have P9 := kb P9 (hb)
       have PF := kb PF (hb)
       have R1 := kw R1 (hb)
       have R2 := kw R2 (hb)
       have QW1 := kw QW1 (hb)
       have QW2 := kw QW2 (hb)
       have QW5 := kw QW5 (hb)
       have QG1 := kw QG1 (hb)
       have QG2 := kw QG2 (hb)
       have QG5 := kw QG5 (hb)
       have QM1 := kw QM1 (hb)
       have QM2 := kw QM2 (hb)
       have QM5 := kw QM5 (hb)
       have HB := kh HB (hb)
       clear hb
       have hok2 : lockB r1 r2 r3 = true := HOK2.out
       rw [hok2]
       clear hok2
       have hPF_0 := (blk_cell PF.out 0).trans (show _ = some (.int .i64 r1) from rfl)
       have hPF_1 := (blk_cell PF.out 1).trans (show _ = some (.slice M1 r2.length m1_) from rfl)
       have hPF_2 := (blk_cell PF.out 2).trans (show _ = some (.slice M2 r3.length m2_) from rfl)
       have hP9_0 := (blk_cell P9.out 0).trans (show _ = some (.int .i64 r1) from rfl)
       have hP9_1 := (blk_cell P9.out 1).trans (show _ = some (.slice H1 r2.length h1_) from rfl)
       have hP9_2 := (blk_cell P9.out 2).trans (show _ = some (.slice H2 r3.length h2_) from rfl)
       go_wp2_with (fail)
       clear hPF_0 hPF_1 hPF_2 hP9_0 hP9_1 hP9_2
       refine (loLock_eq r1 M1 m1_ r2 M2 m2_ r3 H1 h1_ H2 h2_ W21 (QM1.out.reads).2.2 (QM1.out.reads).2.1 (QM2.out.reads).2.2 (QM2.out.reads).2.1 (QG1.out.reads).2.2 (QG1.out.reads).2.1 (QG2.out.reads).2.2 (QG2.out.reads).2.1 (by have := HLR.out; omega) (by have := HLR.out; omega)).mono ?_
       rintro e W22 ⟨rfl, hb⟩
       have ZZ := Aside0.mk (And.intro ZZ.out ((hb).size))
       have P3 := kb P3 (hb)
       have P6 := kb P6 (hb)
       have P9 := kb P9 (hb)
       have PF := kb PF (hb)
       have R1 := kw R1 (hb)
       have R2 := kw R2 (hb)
       have QW1 := kw QW1 (hb)
       have QW2 := kw QW2 (hb)
       have QW5 := kw QW5 (hb)
       have QG1 := kw QG1 (hb)
       have QG2 := kw QG2 (hb)
       have QG5 := kw QG5 (hb)
       have QM1 := kw QM1 (hb)
       have QM2 := kw QM2 (hb)
       have QM5 := kw QM5 (hb)
       have HB := kh HB (hb)
       clear hb
       go_wp2_with (fail)
       go_ret
       exact ⟨rfl, HB.out⟩
theorem laws_FnLockFree.walk (a0 : Option Addr) (len0 cap0 : Nat) (z0 : List Int) (w : World) (w0 : ((a0 = none ∧ len0 = 0 ∧ cap0 = 0 ∧ z0 = []) ∨ ∃ x, a0 = some x ∧ len0 ≤ cap0 ∧ cap0 ≤ maxLen ∧ z0.length = cap0 ∧ (∀ i, i < z0.length → w.cell? (x.add i) = some (.int .u8 (z0.getD i 0))) ∧ ∀ n ∈ z0, (Lit.int .u8 n).wf = true)) : Calls Try.prog 7 #[.slice a0 len0 cap0] w fun e w' => e = .returned (.bool true) ∧ Below w.heap.size w w' := by
 obtain ⟨l0, rfl, hr0, hm0, hw0, hc0⟩ := ReadsInt.ofRowC w0
 exact FnLockFree_main _ _ l0 w (Kd.C_of_reads (d := (0 : Int)) (h1 := fun _ => rfl) hr0) hc0 hw0
end Go.Proofs.Ytjldpnhlegbjkaa.PA
