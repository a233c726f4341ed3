/- The law FnWordOk, walked by hand: what is less than a word that is ok is ok; for every code that draws a word, no other condition. -/
import Derived.Test.YtbjdnfgalopfiaaQ5
import Derived.Test.YtbjdnfgalopfiaaWordQ
import Derived.Test.YtbjdnfgalopfiaaPDx10
import Derived.Test.YtbjdnfgalopfiaaPDx19
import Derived.Test.YtbjdnfgalopfiaaPDx34
import Derived.Deep.Cut
namespace Go.Proofs.Ytbjdnfgalopfiaa.PD
open Go.RowKit Go.Proofs.YtbjdnfgalopfiaaW.PrintWords Go.Proofs.YtbjdnfgalopfiaaW.PrintLast Go.Proofs.YtbjdnfgalopfiaaW.PrintMore Go.Proofs.Ytbjdnfgalopfiaa.PB
attribute [local go_sem] max2_int min2_int max_two min_two max_three min_three max_four min_four
set_option linter.unusedVariables false
set_option linter.unusedSimpArgs false
theorem wpList_load_on {P : Program} {ops : Array Oper} {rest : List Oper} {o : Oper} {a : Act} {w : World} {Q : Exit → Act → World → Prop} (hw : Region.wanted o (yielded ops a.tmps) = true) (ty : TypeId) (x : Operand) (ho : o.op = .load ty x)
 (g : Nat) (hx : a.eval x = .pointer (some ⟨g, 0, none⟩)) (t : TypeId) (cs : Array Value) (fr : Nat × Nat) (d : TypeDesc) (hg : w.heap[g]? = some (.cells cs t fr))
 (hu : P.underlying ty = some d) (hd : (match d with | .struct _ | .array _ _ => true | _ => false) = true) (hi : (P.info? ty).map (·.size) = some cs.size)
 (h : wpList P ops Q rest (a.put o.dst (.agg cs)) w) : wpList P ops Q (o :: rest) a w :=
 wpList_step fun K hK => by
  rw [if_pos hw]
  exact wp_load_row ty x ho g hx t cs fr d hg hu hd hi (hK _ _ h)
set_option maxHeartbeats 8000000 in
set_option maxRecDepth 100000 in
theorem drawW (A0 : Option Addr) (c0 : Nat) (l0 : List Int) (w : World) (hr0 : Kd.C (Kd.int .u8) w A0 l0.length l0) (hc0 : l0.length ≤ c0) (hw : ∀ x ∈ l0, (Lit.int .u8 x).wf = true) :
 Calls Try.prog 11 #[.slice A0 l0.length c0] w fun e w' => ∃ (n0 n1 n2 n3 n4 n5 : Int) (yes : Bool) (A7 : Option Addr) (c7 : Nat) (A8 : Option Addr) (c8 : Nat) (n9 : Int) (A10 : Option Addr) (c10 : Nat) (m0 m1 m2 : Int) (tx : ByteArray) (m4 m5 : Int) (ls : List Int) (lp : List S68) (lv : List Int), e = .returned (.agg #[.int .i64 n0, .int .i64 n1, .int .i64 n2, .int .i64 n3, .int .i64 n4, .int .i64 n5, .bool yes, .slice A7 ls.length c7, .slice A8 lp.length c8, .int .i64 n9, .slice A10 lv.length c10, .int .i64 m0, .int .i64 m1, .int .i64 m2, .string tx, .int .i64 m4, .int .i64 m5]) ∧ Kd.R (Kd.int .i64) 3 w' w.heap.size (fun _ => True) (.slice A7 ls.length c7) ls ∧ Kd.R k68 68 w' w.heap.size (fun _ => True) (.slice A8 lp.length c8) lp ∧ Kd.R (Kd.int .i64) 3 w' w.heap.size (fun _ => True) (.slice A10 lv.length c10) lv ∧ (ls.length ≤ 64 ∧ lp.length ≤ 64 ∧ lv.length ≤ 64) ∧ Below w.heap.size w w' := by
 have hu33 := Try.underlying33
 have HR0 := Aside0.mk hr0
 have HC0 := Aside0.mk hc0
 obtain ⟨s, ho, hs⟩ := open_eq l0 hw
 have HO := Aside0.mk ho
 have HS := Aside0.mk hs
 clear hr0 hc0 hw ho hs
 have HB := Aside0.mk (below_alloc (Below.refl w.heap.size w) (.cells #[.int .i64 0, .int .i64 0, .int .i64 0, .int .i64 0, .int .i64 0, .int .i64 0, .bool false, .slice none 0 0, .slice none 0 0, .int .i64 0, .slice none 0 0, .int .i64 0, .int .i64 0, .int .i64 0, .string ⟨#[]⟩, .int .i64 0, .int .i64 0] 33 (0, 0)))
 have P2 := Aside0.mk (blk_new w (.cells #[.int .i64 0, .int .i64 0, .int .i64 0, .int .i64 0, .int .i64 0, .int .i64 0, .bool false, .slice none 0 0, .slice none 0 0, .int .i64 0, .slice none 0 0, .int .i64 0, .int .i64 0, .int .i64 0, .string ⟨#[]⟩, .int .i64 0, .int .i64 0] 33 (0, 0)))
 go_enter Try.func11, Try.ntmps11
 go_wp2_with (fail)
 generalize w.alloc (.cells #[.int .i64 0, .int .i64 0, .int .i64 0, .int .i64 0, .int .i64 0, .int .i64 0, .bool false, .slice none 0 0, .slice none 0 0, .int .i64 0, .slice none 0 0, .int .i64 0, .int .i64 0, .int .i64 0, .string ⟨#[]⟩, .int .i64 0, .int .i64 0] 33 (0, 0)) = W1 at HB P2 ⊢
 refine (spec_l6Open.calls A0 c0 l0 s 0 w W1 HB.out HR0.out HC0.out HO.out).mono ?_
 rintro e W2 ⟨g, rfl, hi, hb2, hb⟩
 have P2 := kb P2 hb
 have HB := Aside0.mk hb2
 have I := Aside0.mk (RdS.start hi hb2 HS.out (by decide) (by decide : (0 : Int) ≤ 0))
 clear hi hb2 hb
 go_wp2_with (fail)
 refine (wordW w W2 g s 0 I.out (by decide)).mono ?_
 rintro e W3 ⟨n0, n1, n2, n3, n4, n5, yes, A7, c7, A8, c8, n9, A10, c10, m0, m1, m2, tx, m4, m5, ls, lp, lv, rfl, r7, r8, r10, hl, hi⟩
 have hk := hi.kept
 have P2 := Aside0.mk (I.out.blk hk P2.out (by decide))
 have HW := Aside0.mk hi.under
 have R7 := Aside0.mk (Kd.R_lower r7 HB.out.size)
 have R8 := Aside0.mk (Kd.R_lower r8 HB.out.size)
 have R10 := Aside0.mk (Kd.R_lower r10 HB.out.size)
 have HL := Aside0.mk hl
 clear r7 r8 r10 hl hi hk I
 go_wp2_with (((with_reducible refine gate_store (t := 33) (p := 2) rfl ?_); refine wpList_store_row rfl 33 (.tmp 2) (.tmp 5) rfl w.heap.size #[.int .i64 n0, .int .i64 n1, .int .i64 n2, .int .i64 n3, .int .i64 n4, .int .i64 n5, .bool yes, .slice A7 ls.length c7, .slice A8 lp.length c8, .int .i64 n9, .slice A10 lv.length c10, .int .i64 m0, .int .i64 m1, .int .i64 m2, .string tx, .int .i64 m4, .int .i64 m5] rfl rfl 33 #[.int .i64 0, .int .i64 0, .int .i64 0, .int .i64 0, .int .i64 0, .int .i64 0, .bool false, .slice none 0 0, .slice none 0 0, .int .i64 0, .slice none 0 0, .int .i64 0, .int .i64 0, .int .i64 0, .string ⟨#[]⟩, .int .i64 0, .int .i64 0] P2.out (by kernel_rfl) rfl (by simp [Value.oneCell']) ?_; refine Aside0.out ?_))
 have Q7 := Aside0.mk (rows_setRow R7.out P2.out (by decide) #[.int .i64 n0, .int .i64 n1, .int .i64 n2, .int .i64 n3, .int .i64 n4, .int .i64 n5, .bool yes, .slice A7 ls.length c7, .slice A8 lp.length c8, .int .i64 n9, .slice A10 lv.length c10, .int .i64 m0, .int .i64 m1, .int .i64 m2, .string tx, .int .i64 m4, .int .i64 m5])
 have Q8 := Aside0.mk (rows_setRow R8.out P2.out (by decide) #[.int .i64 n0, .int .i64 n1, .int .i64 n2, .int .i64 n3, .int .i64 n4, .int .i64 n5, .bool yes, .slice A7 ls.length c7, .slice A8 lp.length c8, .int .i64 n9, .slice A10 lv.length c10, .int .i64 m0, .int .i64 m1, .int .i64 m2, .string tx, .int .i64 m4, .int .i64 m5])
 have Q10 := Aside0.mk (rows_setRow R10.out P2.out (by decide) #[.int .i64 n0, .int .i64 n1, .int .i64 n2, .int .i64 n3, .int .i64 n4, .int .i64 n5, .bool yes, .slice A7 ls.length c7, .slice A8 lp.length c8, .int .i64 n9, .slice A10 lv.length c10, .int .i64 m0, .int .i64 m1, .int .i64 m2, .string tx, .int .i64 m4, .int .i64 m5])
 have HB := Aside0.mk (below_setRow' HW.out (Nat.le_refl _) #[.int .i64 n0, .int .i64 n1, .int .i64 n2, .int .i64 n3, .int .i64 n4, .int .i64 n5, .bool yes, .slice A7 ls.length c7, .slice A8 lp.length c8, .int .i64 n9, .slice A10 lv.length c10, .int .i64 m0, .int .i64 m1, .int .i64 m2, .string tx, .int .i64 m4, .int .i64 m5])
 have P2 := Aside0.mk (setRow_heap _ _ _ #[.int .i64 n0, .int .i64 n1, .int .i64 n2, .int .i64 n3, .int .i64 n4, .int .i64 n5, .bool yes, .slice A7 ls.length c7, .slice A8 lp.length c8, .int .i64 n9, .slice A10 lv.length c10, .int .i64 m0, .int .i64 m1, .int .i64 m2, .string tx, .int .i64 m4, .int .i64 m5] _ _ P2.out)
 refine Aside0.mk ?_
 iterate 12 (try go_step)
 refine bodyPost_ret (results_cell_row rfl _ _ w.heap.size 33 #[.int .i64 n0, .int .i64 n1, .int .i64 n2, .int .i64 n3, .int .i64 n4, .int .i64 n5, .bool yes, .slice A7 ls.length c7, .slice A8 lp.length c8, .int .i64 n9, .slice A10 lv.length c10, .int .i64 m0, .int .i64 m1, .int .i64 m2, .string tx, .int .i64 m4, .int .i64 m5] (0, 0) _ rfl P2.out hu33 rfl (by kernel_rfl)) rfl ?_
 exact ⟨n0, n1, n2, n3, n4, n5, yes, A7, c7, A8, c8, n9, A10, c10, m0, m1, m2, tx, m4, m5, ls, lp, lv, rfl, Q7.out, Q8.out, Q10.out, HL.out, HB.out⟩
set_option maxHeartbeats 8000000 in
set_option maxRecDepth 100000 in
theorem FnWordOk_main (A0 : Option Addr) (c0 : Nat) (l0 : List Int) (w : World) (hr0 : Kd.C (Kd.int .u8) w A0 l0.length l0) (hc0 : l0.length ≤ c0) (hw : ∀ x ∈ l0, (Lit.int .u8 x).wf = true) :
 Calls Try.prog 4 #[.slice A0 l0.length c0] w fun e w' => e = .returned (.bool true) ∧ Below w.heap.size w w' := by
 have hu33 := Try.underlying33
 have HR0 := Aside0.mk hr0
 have HC0 := Aside0.mk hc0
 have HW := Aside0.mk hw
 have HB := Aside0.mk (Below.refl w.heap.size w)
 have ZZ := Aside0.mk (Nat.le_refl w.heap.size)
 clear hr0 hc0 hw
 by_cases hz : 1048576 < l0.length
 ·have hzd : decide (1048576 < (l0.length : Int)) = true := decide_eq_true (by omega)
  go_enter Try.func4, Try.ntmps4
  go_wp2_with (fail)
  go_ret
  exact ⟨rfl, HB.out⟩
 ·have hzd : decide (1048576 < (l0.length : Int)) = false := decide_eq_false (by omega)
  clear hz
  go_enter Try.func4, Try.ntmps4
  go_wp2_with (fail)
  clear hzd
  refine (drawW A0 c0 l0 w HR0.out HC0.out HW.out).mono ?_
  rintro e W1 ⟨n0, n1, n2, n3, n4, n5, yes, A7, c7, A8, c8, n9, A10, c10, m0, m1, m2, tx, m4, m5, ls, lp, lv, rfl, r7, r8, r10, hl, hb⟩
  have R7 := Aside0.mk r7
  have R8 := Aside0.mk r8
  have R10 := Aside0.mk r10
  have HL := Aside0.mk hl
  clear r7 r8 r10 hl
  have HB := Aside0.mk (below_step HB.out hb)
  have ZZ := Aside0.mk (And.intro ZZ.out hb.size)
  clear hb HR0 HC0 HW
  obtain ⟨lz, hz1, hz2, hz3⟩ : ∃ lz : List Int, lz = ls.take lz.length ∧ wrap64 ((ls.length : Int) / 2) = (lz.length : Int) ∧ lz.length ≤ ls.length := by
   have hl := HL.out
   have e : (ls.take (ls.length / 2)).length = ls.length / 2 := by rw [List.length_take]; omega
   refine ⟨ls.take (ls.length / 2), by rw [e], ?_, by omega⟩
   rw [e, wrap_in (by omega) (by omega)]; omega
  obtain ⟨b, ⟨K1, k1⟩, ⟨K2, k2⟩, hb2⟩ := word_less n0 n1 n2 n3 n4 n5 yes ls lp n9 lv m0 m1 m2 tx m4 m5 (by have := HL.out; omega) (by have := HL.out; omega) lz.length (3 + (lv.length : Int) % 5) (by omega)
  have E1 := Aside0.mk (k1 K1 (Nat.le_refl _))
  have E2 := Aside0.mk (k2 K2 (Nat.le_refl _))
  have E3 := Aside0.mk hb2
  have HZ1 := Aside0.mk hz1
  have HZ2 := Aside0.mk hz2
  have HZ3 := Aside0.mk hz3
  clear k1 k2 hb2 hz1 hz2 hz3
  have hb := below_alloc (Below.refl W1.heap.size W1) (.cells #[.int .i64 n0, .int .i64 n1, .int .i64 n2, .int .i64 n3, .int .i64 n4, .int .i64 n5, .bool yes, .slice A7 ls.length c7, .slice A8 lp.length c8, .int .i64 n9, .slice A10 lv.length c10, .int .i64 m0, .int .i64 m1, .int .i64 m2, .string tx, .int .i64 m4, .int .i64 m5] 33 (0, 0))
  have ZZ := Aside0.mk (And.intro ZZ.out ((hb).size))
  have R7 := Aside0.mk (Kd.R_below R7.out (hb))
  have R8 := Aside0.mk (Kd.R_below R8.out (hb))
  have R10 := Aside0.mk (Kd.R_below R10.out (hb))
  have HB := Aside0.mk (below_step HB.out (hb))
  clear hb
  have P3 := Aside0.mk (blk_new W1 (.cells #[.int .i64 n0, .int .i64 n1, .int .i64 n2, .int .i64 n3, .int .i64 n4, .int .i64 n5, .bool yes, .slice A7 ls.length c7, .slice A8 lp.length c8, .int .i64 n9, .slice A10 lv.length c10, .int .i64 m0, .int .i64 m1, .int .i64 m2, .string tx, .int .i64 m4, .int .i64 m5] 33 (0, 0)))
  have ZZ := Aside0.mk (And.intro ZZ.out (blk_lt P3.out))
  go_wp2_with (((with_reducible refine gate_dst (N := 13) rfl ?_); refine wpList_load_row rfl 33 (.tmp 3) rfl W1.heap.size rfl 33 #[.int .i64 n0, .int .i64 n1, .int .i64 n2, .int .i64 n3, .int .i64 n4, .int .i64 n5, .bool yes, .slice A7 ls.length c7, .slice A8 lp.length c8, .int .i64 n9, .slice A10 lv.length c10, .int .i64 m0, .int .i64 m1, .int .i64 m2, .string tx, .int .i64 m4, .int .i64 m5] (0, 0) _ P3.out hu33 rfl (by kernel_rfl) ?_))
  generalize W1.alloc (.cells #[.int .i64 n0, .int .i64 n1, .int .i64 n2, .int .i64 n3, .int .i64 n4, .int .i64 n5, .bool yes, .slice A7 ls.length c7, .slice A8 lp.length c8, .int .i64 n9, .slice A10 lv.length c10, .int .i64 m0, .int .i64 m1, .int .i64 m2, .string tx, .int .i64 m4, .int .i64 m5] 33 (0, 0)) = W2 at ZZ P3 R7 R8 R10 HB ⊢
  obtain ⟨b3, hq_⟩ : ∃ b3, b3 = W1.heap.size := ⟨_, rfl⟩
  rw [← hq_] at P3 ZZ ⊢
  have ZZ := Aside0.mk (And.intro ZZ.out (hq_))
  clear hq_
  refine (spec_WordOk.calls K1 n0 n1 n2 n3 n4 n5 yes A7 c7 ls A8 c8 lp n9 A10 c10 lv m0 m1 m2 tx m4 m5 b W2 (Kd.R_reads' R7.out).2.2 (Kd.R_reads' R7.out).2.1 (Kd.R_reads' R8.out).2.2 (Kd.R_reads' R8.out).2.1 (Kd.R_reads' R10.out).2.2 (Kd.R_reads' R10.out).2.1 E1.out).mono ?_
  rintro e W3 ⟨rfl, hb⟩
  have ZZ := Aside0.mk (And.intro ZZ.out ((hb).size))
  have P3 := kb P3 (hb)
  have R7 := Aside0.mk (Kd.R_below R7.out (hb))
  have R8 := Aside0.mk (Kd.R_below R8.out (hb))
  have R10 := Aside0.mk (Kd.R_below R10.out (hb))
  have HB := Aside0.mk (below_step HB.out (hb))
  clear hb
  go_wp2_with (((with_reducible refine gate_dst (N := 15) rfl ?_); refine wpList_load_row rfl 33 (.tmp 3) rfl b3 rfl 33 #[.int .i64 n0, .int .i64 n1, .int .i64 n2, .int .i64 n3, .int .i64 n4, .int .i64 n5, .bool yes, .slice A7 ls.length c7, .slice A8 lp.length c8, .int .i64 n9, .slice A10 lv.length c10, .int .i64 m0, .int .i64 m1, .int .i64 m2, .string tx, .int .i64 m4, .int .i64 m5] (0, 0) _ P3.out hu33 rfl (by kernel_rfl) ?_))
  refine (impl_WordOk.calls K2 n0 n1 n2 n3 n4 n5 yes A7 c7 ls A8 c8 lp n9 A10 c10 lv m0 m1 m2 tx m4 m5 b W3 (Kd.R_reads' R7.out).2.2 (Kd.R_reads' R7.out).2.1 (Kd.R_reads' R8.out).2.2 (Kd.R_reads' R8.out).2.1 (Kd.R_reads' R10.out).2.2 (Kd.R_reads' R10.out).2.1 E2.out).mono ?_
  rintro e W4 ⟨rfl, hb⟩
  have ZZ := Aside0.mk (And.intro ZZ.out ((hb).size))
  have P3 := kb P3 (hb)
  have R7 := Aside0.mk (Kd.R_below R7.out (hb))
  have R8 := Aside0.mk (Kd.R_below R8.out (hb))
  have R10 := Aside0.mk (Kd.R_below R10.out (hb))
  have HB := Aside0.mk (below_step HB.out (hb))
  clear hb
  cases b with
  | false =>
   go_wp2_with (fail)
   go_ret
   exact ⟨rfl, HB.out⟩
  | true =>
   obtain ⟨⟨K3, k3⟩, ⟨K4, k4⟩⟩ := E3.out rfl
   have E4 := Aside0.mk (k3 K3 (Nat.le_refl _))
   have E5 := Aside0.mk (k4 K4 (Nat.le_refl _))
   rw [← HZ1.out] at E4
   clear k3 k4 E1 E2 E3
   have P3o := P3
   have hb := below_alloc (Below.refl W4.heap.size W4) (.cells #[.int .i64 n0, .int .i64 n1, .int .i64 n2, .int .i64 n3, .int .i64 n4, .int .i64 n5, .bool yes, .slice A7 ls.length c7, .slice A8 lp.length c8, .int .i64 n9, .slice A10 lv.length c10, .int .i64 m0, .int .i64 m1, .int .i64 m2, .string tx, .int .i64 m4, .int .i64 m5] 33 (0, 0))
   have ZZ := Aside0.mk (And.intro ZZ.out ((hb).size))
   have P3 := kb P3 (hb)
   have R7 := Aside0.mk (Kd.R_below R7.out (hb))
   have R8 := Aside0.mk (Kd.R_below R8.out (hb))
   have R10 := Aside0.mk (Kd.R_below R10.out (hb))
   have HB := Aside0.mk (below_step HB.out (hb))
   clear hb
   have P6 := Aside0.mk (blk_new W4 (.cells #[.int .i64 n0, .int .i64 n1, .int .i64 n2, .int .i64 n3, .int .i64 n4, .int .i64 n5, .bool yes, .slice A7 ls.length c7, .slice A8 lp.length c8, .int .i64 n9, .slice A10 lv.length c10, .int .i64 m0, .int .i64 m1, .int .i64 m2, .string tx, .int .i64 m4, .int .i64 m5] 33 (0, 0)))
   have ZZ := Aside0.mk (And.intro ZZ.out (blk_lt P6.out))
   go_upto_region 9 with (((with_reducible refine gate_dst (N := 27) rfl ?_); refine wpList_load_row rfl 33 (.tmp 3) rfl b3 rfl 33 #[.int .i64 n0, .int .i64 n1, .int .i64 n2, .int .i64 n3, .int .i64 n4, .int .i64 n5, .bool yes, .slice A7 ls.length c7, .slice A8 lp.length c8, .int .i64 n9, .slice A10 lv.length c10, .int .i64 m0, .int .i64 m1, .int .i64 m2, .string tx, .int .i64 m4, .int .i64 m5] (0, 0) _ P3o.out hu33 rfl (by kernel_rfl) ?_))
   clear P3o
   generalize W4.alloc (.cells #[.int .i64 n0, .int .i64 n1, .int .i64 n2, .int .i64 n3, .int .i64 n4, .int .i64 n5, .bool yes, .slice A7 ls.length c7, .slice A8 lp.length c8, .int .i64 n9, .slice A10 lv.length c10, .int .i64 m0, .int .i64 m1, .int .i64 m2, .string tx, .int .i64 m4, .int .i64 m5] 33 (0, 0)) = W5 at ZZ P3 P6 R7 R8 R10 HB ⊢
   obtain ⟨b6, hq_⟩ : ∃ b6, b6 = W4.heap.size := ⟨_, rfl⟩
   rw [← hq_] at P6 ZZ ⊢
   have ZZ := Aside0.mk (And.intro ZZ.out (hq_))
   clear hq_
   have hc8 := (blk_cell P6.out 8).trans (show _ = some (.slice A8 lp.length c8) from rfl)
   have hcf8 := blk_frozen P6.out 8
   have P3 := Aside0.mk (blk_far (p := ⟨b6, 8, none⟩) P3.out (show b3 ≠ b6 by have := ZZ.out; omega) (.slice none 0 0))
   have R7 := Aside0.mk (Kd.R_set R7.out P6.out (by decide) 8 (.slice none 0 0))
   have R8 := Aside0.mk (Kd.R_set R8.out P6.out (by decide) 8 (.slice none 0 0))
   have R10 := Aside0.mk (Kd.R_set R10.out P6.out (by decide) 8 (.slice none 0 0))
   have HB := Aside0.mk (below_set (g := b6) (j := 8) (v := .slice none 0 0) HB.out (by have := ZZ.out; omega))
   have P6 := Aside0.mk (blk_put (cs' := #[.int .i64 n0, .int .i64 n1, .int .i64 n2, .int .i64 n3, .int .i64 n4, .int .i64 n5, .bool yes, .slice A7 ls.length c7, .slice none 0 0, .int .i64 n9, .slice A10 lv.length c10, .int .i64 m0, .int .i64 m1, .int .i64 m2, .string tx, .int .i64 m4, .int .i64 m5]) P6.out 8 (.slice none 0 0) rfl)
   have ZZ := Aside0.mk (And.intro ZZ.out (show W5.heap.size ≤ (W5.setCell ⟨b6, 8, none⟩ (.slice none 0 0)).heap.size by simp))
   go_upto_region 10 with (fail)
   clear hc8 hcf8
   generalize W5.setCell ⟨b6, 8, none⟩ (.slice none 0 0) = W6 at P3 P6 R7 R8 R10 HB ZZ ⊢
   have hc7 := (blk_cell P6.out 7).trans (show _ = some (.slice A7 ls.length c7) from rfl)
   have hcf7 := blk_frozen P6.out 7
   have hd7 := (blk_cell P3.out 7).trans (show _ = some (.slice A7 ls.length c7) from rfl)
   have hz2 := HZ2.out
   have hz3 : (lz.length ≤ c7) := by have := HZ3.out; have := (Kd.R_reads' R7.out).2.1; omega
   have hz4 : ((lz.length : Int) ≤ (c7 : Int)) = True := eq_true (by omega)
   have P3 := Aside0.mk (blk_far (p := ⟨b6, 7, none⟩) P3.out (show b3 ≠ b6 by have := ZZ.out; omega) (.slice A7 lz.length c7))
   have R7 := Aside0.mk (Kd.R_set R7.out P6.out (by decide) 7 (.slice A7 lz.length c7))
   have R8 := Aside0.mk (Kd.R_set R8.out P6.out (by decide) 7 (.slice A7 lz.length c7))
   have R10 := Aside0.mk (Kd.R_set R10.out P6.out (by decide) 7 (.slice A7 lz.length c7))
   have HB := Aside0.mk (below_set (g := b6) (j := 7) (v := .slice A7 lz.length c7) HB.out (by have := ZZ.out; omega))
   have P6 := Aside0.mk (blk_put (cs' := #[.int .i64 n0, .int .i64 n1, .int .i64 n2, .int .i64 n3, .int .i64 n4, .int .i64 n5, .bool yes, .slice A7 lz.length c7, .slice none 0 0, .int .i64 n9, .slice A10 lv.length c10, .int .i64 m0, .int .i64 m1, .int .i64 m2, .string tx, .int .i64 m4, .int .i64 m5]) P6.out 7 (.slice A7 lz.length c7) rfl)
   have ZZ := Aside0.mk (And.intro ZZ.out (show W6.heap.size ≤ (W6.setCell ⟨b6, 7, none⟩ (.slice A7 lz.length c7)).heap.size by simp))
   go_upto_region 11 with (fail)
   clear hc7 hcf7 hd7 hz2 hz3 hz4
   generalize W6.setCell ⟨b6, 7, none⟩ (.slice A7 lz.length c7) = W7 at P3 P6 R7 R8 R10 HB ZZ ⊢
   have P3o := P3
   have hb := below_alloc (Below.refl W7.heap.size W7) (.cells #[.int .i64 n0, .int .i64 n1, .int .i64 n2, .int .i64 n3, .int .i64 n4, .int .i64 n5, .bool yes, .slice A7 ls.length c7, .slice A8 lp.length c8, .int .i64 n9, .slice A10 lv.length c10, .int .i64 m0, .int .i64 m1, .int .i64 m2, .string tx, .int .i64 m4, .int .i64 m5] 33 (0, 0))
   have ZZ := Aside0.mk (And.intro ZZ.out ((hb).size))
   have P3 := kb P3 (hb)
   have P6 := kb P6 (hb)
   have R7 := Aside0.mk (Kd.R_below R7.out (hb))
   have R8 := Aside0.mk (Kd.R_below R8.out (hb))
   have R10 := Aside0.mk (Kd.R_below R10.out (hb))
   have HB := Aside0.mk (below_step HB.out (hb))
   clear hb
   have P7 := Aside0.mk (blk_new W7 (.cells #[.int .i64 n0, .int .i64 n1, .int .i64 n2, .int .i64 n3, .int .i64 n4, .int .i64 n5, .bool yes, .slice A7 ls.length c7, .slice A8 lp.length c8, .int .i64 n9, .slice A10 lv.length c10, .int .i64 m0, .int .i64 m1, .int .i64 m2, .string tx, .int .i64 m4, .int .i64 m5] 33 (0, 0)))
   have ZZ := Aside0.mk (And.intro ZZ.out (blk_lt P7.out))
   go_upto_region 12 with (((with_reducible refine gate_dst (N := 37) rfl ?_); refine wpList_load_row rfl 33 (.tmp 3) rfl b3 rfl 33 #[.int .i64 n0, .int .i64 n1, .int .i64 n2, .int .i64 n3, .int .i64 n4, .int .i64 n5, .bool yes, .slice A7 ls.length c7, .slice A8 lp.length c8, .int .i64 n9, .slice A10 lv.length c10, .int .i64 m0, .int .i64 m1, .int .i64 m2, .string tx, .int .i64 m4, .int .i64 m5] (0, 0) _ P3o.out hu33 rfl (by kernel_rfl) ?_))
   clear P3o
   generalize W7.alloc (.cells #[.int .i64 n0, .int .i64 n1, .int .i64 n2, .int .i64 n3, .int .i64 n4, .int .i64 n5, .bool yes, .slice A7 ls.length c7, .slice A8 lp.length c8, .int .i64 n9, .slice A10 lv.length c10, .int .i64 m0, .int .i64 m1, .int .i64 m2, .string tx, .int .i64 m4, .int .i64 m5] 33 (0, 0)) = W8 at ZZ P3 P6 P7 R7 R8 R10 HB ⊢
   obtain ⟨b7, hq_⟩ : ∃ b7, b7 = W7.heap.size := ⟨_, rfl⟩
   rw [← hq_] at P7 ZZ ⊢
   have ZZ := Aside0.mk (And.intro ZZ.out (hq_))
   clear hq_
   have hc2 := (blk_cell P7.out 2).trans (show _ = some (.int .i64 n2) from rfl)
   have hcf2 := blk_frozen P7.out 2
   have hd10 := (blk_cell P3.out 10).trans (show _ = some (.slice A10 lv.length c10) from rfl)
   have P3 := Aside0.mk (blk_far (p := ⟨b7, 2, none⟩) P3.out (show b3 ≠ b7 by have := ZZ.out; omega) (.int .i64 (3 + (lv.length : Int) % 5)))
   have P6 := Aside0.mk (blk_far (p := ⟨b7, 2, none⟩) P6.out (show b6 ≠ b7 by have := ZZ.out; omega) (.int .i64 (3 + (lv.length : Int) % 5)))
   have R7 := Aside0.mk (Kd.R_set R7.out P7.out (by decide) 2 (.int .i64 (3 + (lv.length : Int) % 5)))
   have R8 := Aside0.mk (Kd.R_set R8.out P7.out (by decide) 2 (.int .i64 (3 + (lv.length : Int) % 5)))
   have R10 := Aside0.mk (Kd.R_set R10.out P7.out (by decide) 2 (.int .i64 (3 + (lv.length : Int) % 5)))
   have HB := Aside0.mk (below_set (g := b7) (j := 2) (v := .int .i64 (3 + (lv.length : Int) % 5)) HB.out (by have := ZZ.out; omega))
   have P7 := Aside0.mk (blk_put (cs' := #[.int .i64 n0, .int .i64 n1, .int .i64 (3 + (lv.length : Int) % 5), .int .i64 n3, .int .i64 n4, .int .i64 n5, .bool yes, .slice A7 ls.length c7, .slice A8 lp.length c8, .int .i64 n9, .slice A10 lv.length c10, .int .i64 m0, .int .i64 m1, .int .i64 m2, .string tx, .int .i64 m4, .int .i64 m5]) P7.out 2 (.int .i64 (3 + (lv.length : Int) % 5)) rfl)
   have ZZ := Aside0.mk (And.intro ZZ.out (show W8.heap.size ≤ (W8.setCell ⟨b7, 2, none⟩ (.int .i64 (3 + (lv.length : Int) % 5))).heap.size by simp))
   go_upto_region 13 with (fail)
   clear hc2 hcf2 hd10
   generalize W8.setCell ⟨b7, 2, none⟩ (.int .i64 (3 + (lv.length : Int) % 5)) = W9 at P3 P6 P7 R7 R8 R10 HB ZZ ⊢
   go_wp2_with (((with_reducible refine gate_dst (N := 44) rfl ?_); refine wpList_load_row rfl 33 (.tmp 6) rfl b6 rfl 33 #[.int .i64 n0, .int .i64 n1, .int .i64 n2, .int .i64 n3, .int .i64 n4, .int .i64 n5, .bool yes, .slice A7 lz.length c7, .slice none 0 0, .int .i64 n9, .slice A10 lv.length c10, .int .i64 m0, .int .i64 m1, .int .i64 m2, .string tx, .int .i64 m4, .int .i64 m5] (0, 0) _ P6.out hu33 rfl (by kernel_rfl) ?_))
   have HX7 := Aside0.mk (show Kd.C (Kd.int .i64) W9 A7 lz.length lz from by
    have h := Kd.C_take (Kd.R_reads' R7.out).2.2 HZ3.out
    rw [← HZ1.out] at h
    exact h)
   refine (impl_WordOk.calls K3 n0 n1 n2 n3 n4 n5 yes A7 c7 lz none 0 [] n9 A10 c10 lv m0 m1 m2 tx m4 m5 true W9 HX7.out (by have := HZ3.out; have := (Kd.R_reads' R7.out).2.1; omega) (Kd.R_reads' (Kd.R_nil (d := k68) (e := 68) (w := W9) (base := 0) (ok := fun _ => True))).2.2 (Nat.le_refl _) (Kd.R_reads' R10.out).2.2 (Kd.R_reads' R10.out).2.1 E4.out).mono ?_
   rintro e W10 ⟨rfl, hb⟩
   have ZZ := Aside0.mk (And.intro ZZ.out ((hb).size))
   have P3 := kb P3 (hb)
   have P6 := kb P6 (hb)
   have P7 := kb P7 (hb)
   have R7 := Aside0.mk (Kd.R_below R7.out (hb))
   have R8 := Aside0.mk (Kd.R_below R8.out (hb))
   have R10 := Aside0.mk (Kd.R_below R10.out (hb))
   have HB := Aside0.mk (below_step HB.out (hb))
   clear hb
   go_wp2_with (((with_reducible refine gate_dst (N := 47) rfl ?_); refine wpList_load_on rfl 33 (.tmp 7) rfl b7 rfl 33 #[.int .i64 n0, .int .i64 n1, .int .i64 (3 + (lv.length : Int) % 5), .int .i64 n3, .int .i64 n4, .int .i64 n5, .bool yes, .slice A7 ls.length c7, .slice A8 lp.length c8, .int .i64 n9, .slice A10 lv.length c10, .int .i64 m0, .int .i64 m1, .int .i64 m2, .string tx, .int .i64 m4, .int .i64 m5] (0, 0) _ P7.out hu33 rfl (by kernel_rfl) ?_))
   refine (impl_WordOk.calls K4 n0 n1 (3 + (lv.length : Int) % 5) n3 n4 n5 yes A7 c7 ls A8 c8 lp n9 A10 c10 lv m0 m1 m2 tx m4 m5 false W10 (Kd.R_reads' R7.out).2.2 (Kd.R_reads' R7.out).2.1 (Kd.R_reads' R8.out).2.2 (Kd.R_reads' R8.out).2.1 (Kd.R_reads' R10.out).2.2 (Kd.R_reads' R10.out).2.1 E5.out).mono ?_
   rintro e W11 ⟨rfl, hb⟩
   have ZZ := Aside0.mk (And.intro ZZ.out ((hb).size))
   have P3 := kb P3 (hb)
   have P6 := kb P6 (hb)
   have P7 := kb P7 (hb)
   have R7 := Aside0.mk (Kd.R_below R7.out (hb))
   have R8 := Aside0.mk (Kd.R_below R8.out (hb))
   have R10 := Aside0.mk (Kd.R_below R10.out (hb))
   have HB := Aside0.mk (below_step HB.out (hb))
   clear hb
   go_wp2_with (fail)
   go_ret
   exact ⟨rfl, HB.out⟩
theorem laws_FnWordOk.walk (a0 : Option Addr) (len0 cap0 : Nat) (z0 : List Int) (w : World) (w0 : ((a0 = none ∧ len0 = 0 ∧ cap0 = 0 ∧ z0 = []) ∨ ∃ x, a0 = some x ∧ len0 ≤ cap0 ∧ cap0 ≤ maxLen ∧ z0.length = cap0 ∧ (∀ i, i < z0.length → w.cell? (x.add i) = some (.int .u8 (z0.getD i 0))) ∧ ∀ n ∈ z0, (Lit.int .u8 n).wf = true)) : Calls Try.prog 4 #[.slice a0 len0 cap0] w fun e w' => e = .returned (.bool true) ∧ Below w.heap.size w w' := by
 obtain ⟨l0, rfl, hr0, hm0, hw0, hc0⟩ := ReadsInt.ofRowC w0
 exact FnWordOk_main _ _ l0 w (Kd.C_of_reads (d := (0 : Int)) (h1 := fun _ => rfl) hr0) hc0 hw0
end Go.Proofs.Ytbjdnfgalopfiaa.PD
