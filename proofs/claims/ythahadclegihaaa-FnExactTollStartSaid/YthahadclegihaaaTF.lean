/- markHouseS on three houses at first. -/
import Derived.Test.YthahadclegihaaaTB
import Derived.Deep.Cut
namespace Go.Proofs.Ythahadclegihaaa.PX
open Go.RowKit Go.Proofs.YthahadclegihaaaW.PrintWords Go.Proofs.YthahadclegihaaaW.PrintLast Go.Proofs.YthahadclegihaaaW.PrintMore
attribute [local go_sem] max2_int min2_int max_two min_two max_three min_three max_four min_four
set_option linter.unusedVariables false
set_option linter.unusedSimpArgs false
set_option maxHeartbeats 8000000 in
set_option maxRecDepth 100000 in
theorem markHouseS_ (w0 : World) (A : Option Addr) (c : Nat) (h : Nat → HV) (I : Nat → Nat → Prop) (w : World) (ha : HS w0.heap.size w 3 (.slice A 3 c) h I) (hB : Below w0.heap.size w0 w) : Calls Try.prog 37 #[.slice A 3 c, .int .i64 1] w fun e w' => e = .returned (.int .i64 34) ∧ Below w0.heap.size w0 w' ∧ K40 w w' ∧ ∃ g, A = some ⟨g, 0, none⟩ ∧ At w' g (mcells h) ∧ Kd.S k70 70 w' w0.heap.size (I 0) (.slice (h 0).a4 8 (h 0).c4) (lmarks 4 8) ∧ Kd.S k70 70 w' w0.heap.size (I 1) (.slice (h 1).a4 8 (h 1).c4) (lmarks 15 8) ∧ Kd.S k70 70 w' w0.heap.size (I 2) (.slice (h 2).a4 8 (h 2).c4) (lmarks 26 8) := by
 obtain ⟨g, rfl, a1, a2, a3⟩ := ha.at_
 have AT := Aside0.mk a1
 have LG := Aside0.mk a2
 clear a1 a2
 have SA0 := Aside0.mk (ha.2.1 0 (by omega))
 have NG0 := Aside0.mk (a3 0 (by omega))
 have SA1 := Aside0.mk (ha.2.1 1 (by omega))
 have NG1 := Aside0.mk (a3 1 (by omega))
 have SA2 := Aside0.mk (ha.2.1 2 (by omega))
 have NG2 := Aside0.mk (a3 2 (by omega))
 have DJ := Aside0.mk ha.2.2.1
 clear ha a3
 have KQ := Aside0.mk (K40.refl w)
 have HB := Aside0.mk hB
 clear hB
 go_enter Try.func37, Try.ntmps37
 go_wp2_with (fail)
 refine wp_loop_rounds 4 ?_
 rw [rounds_succ]
 have hc_ := AT.out.cell 0 (u := .int .i64 0) rfl
 have hf_ := AT.out.froz 0
 go_upto_region 5 with (fail)
 clear hc_ hf_
 have KQ := Aside0.mk (K40.put (j := 0) (u := Value.int .i64 1) KQ.out AT.out)
 have AT := Aside0.mk (At.put (l' := [.int .i64 1, .bool true, .slice (h 0).a2 0 (h 0).c2, .int .i64 0, .slice (h 0).a4 8 (h 0).c4, .slice (h 0).a5 0 (h 0).c5, .int .i64 1, .bool true, .slice (h 1).a2 0 (h 1).c2, .int .i64 0, .slice (h 1).a4 8 (h 1).c4, .slice (h 1).a5 0 (h 1).c5, .int .i64 2, .bool true, .slice (h 2).a2 0 (h 2).c2, .int .i64 0, .slice (h 2).a4 8 (h 2).c4, .slice (h 2).a5 0 (h 2).c5]) AT.out 0 (.int .i64 1) rfl)
 have HB := Aside0.mk (below_set (g := g) (j := 0) (v := Value.int .i64 1) HB.out LG.out)
 have SA0 := Aside0.mk (S_put (j := 0) (u := Value.int .i64 1) SA0.out NG0.out)
 have SA1 := Aside0.mk (S_put (j := 0) (u := Value.int .i64 1) SA1.out NG1.out)
 have SA2 := Aside0.mk (S_put (j := 0) (u := Value.int .i64 1) SA2.out NG2.out)
 generalize w.setCell ⟨g, 0, none⟩ (.int .i64 1) = W1 at AT KQ SA0 SA1 SA2 HB ⊢
 have hc_ := AT.out.cell 1 (u := .bool true) rfl
 have hf_ := AT.out.froz 1
 go_upto_region 7 with (fail)
 clear hc_ hf_
 have KQ := Aside0.mk (K40.put (j := 1) (u := Value.bool false) KQ.out AT.out)
 have AT := Aside0.mk (At.put (l' := [.int .i64 1, .bool false, .slice (h 0).a2 0 (h 0).c2, .int .i64 0, .slice (h 0).a4 8 (h 0).c4, .slice (h 0).a5 0 (h 0).c5, .int .i64 1, .bool true, .slice (h 1).a2 0 (h 1).c2, .int .i64 0, .slice (h 1).a4 8 (h 1).c4, .slice (h 1).a5 0 (h 1).c5, .int .i64 2, .bool true, .slice (h 2).a2 0 (h 2).c2, .int .i64 0, .slice (h 2).a4 8 (h 2).c4, .slice (h 2).a5 0 (h 2).c5]) AT.out 1 (.bool false) rfl)
 have HB := Aside0.mk (below_set (g := g) (j := 1) (v := Value.bool false) HB.out LG.out)
 have SA0 := Aside0.mk (S_put (j := 1) (u := Value.bool false) SA0.out NG0.out)
 have SA1 := Aside0.mk (S_put (j := 1) (u := Value.bool false) SA1.out NG1.out)
 have SA2 := Aside0.mk (S_put (j := 1) (u := Value.bool false) SA2.out NG2.out)
 generalize W1.setCell ⟨g, 1, none⟩ (.bool false) = W2 at AT KQ SA0 SA1 SA2 HB ⊢
 have hc_ := AT.out.cell 2 (u := .slice (h 0).a2 0 (h 0).c2) rfl
 go_wp2_with (fail)
 clear hc_
 refine (laws_markRecS.calls (h 0).a2 (h 0).c2 [] 3 3 W2 (C_nil _ _ _) (Nat.zero_le _) rfl).mono ?_
 rintro e wz_ ⟨rfl, ⟨nd, rfl⟩⟩
 have hb := pw_below_drewN (Below.refl W2.heap.size W2) nd
 generalize W2.drewN nd = W3 at hb ⊢
 have AT := Aside0.mk (At.below AT.out (hb))
 have KQ := Aside0.mk (K40.below KQ.out (hb))
 have SA0 := Aside0.mk (Kd.S_below SA0.out (hb))
 have SA1 := Aside0.mk (Kd.S_below SA1.out (hb))
 have SA2 := Aside0.mk (Kd.S_below SA2.out (hb))
 have HB := Aside0.mk (below_step HB.out (hb))
 clear hb
 have hc_ := AT.out.cell 3 (u := .int .i64 0) rfl
 have hf_ := AT.out.froz 3
 go_upto_region 10 with (fail)
 clear hc_ hf_
 have KQ := Aside0.mk (K40.put (j := 3) (u := Value.int .i64 3) KQ.out AT.out)
 have AT := Aside0.mk (At.put (l' := [.int .i64 1, .bool false, .slice (h 0).a2 0 (h 0).c2, .int .i64 3, .slice (h 0).a4 8 (h 0).c4, .slice (h 0).a5 0 (h 0).c5, .int .i64 1, .bool true, .slice (h 1).a2 0 (h 1).c2, .int .i64 0, .slice (h 1).a4 8 (h 1).c4, .slice (h 1).a5 0 (h 1).c5, .int .i64 2, .bool true, .slice (h 2).a2 0 (h 2).c2, .int .i64 0, .slice (h 2).a4 8 (h 2).c4, .slice (h 2).a5 0 (h 2).c5]) AT.out 3 (.int .i64 3) rfl)
 have HB := Aside0.mk (below_set (g := g) (j := 3) (v := Value.int .i64 3) HB.out LG.out)
 have SA0 := Aside0.mk (S_put (j := 3) (u := Value.int .i64 3) SA0.out NG0.out)
 have SA1 := Aside0.mk (S_put (j := 3) (u := Value.int .i64 3) SA1.out NG1.out)
 have SA2 := Aside0.mk (S_put (j := 3) (u := Value.int .i64 3) SA2.out NG2.out)
 generalize W3.setCell ⟨g, 3, none⟩ (.int .i64 3) = W4 at AT KQ SA0 SA1 SA2 HB ⊢
 have hc_ := AT.out.cell 4 (u := .slice (h 0).a4 8 (h 0).c4) rfl
 go_wp2_with (fail)
 clear hc_
 refine (markL 4 12 rfl (by omega) W4 w0.heap.size (I 0) (h 0).a4 (h 0).c4 SA0.out).mono ?_
 rintro e W5 ⟨rfl, hs, hg⟩
 have AT := Aside0.mk (AT.out.kept (hg.block g AT.out.lt (fun e => NG0.out (SA0.out.choose_spec.1 g e.symm))))
 have KQ := Aside0.mk (K40.grown KQ.out SA0.out hg)
 have HB := Aside0.mk (HB.out.grown hg HB.out.size (Kd.R_base (Kd.S_R SA0.out)))
 have SA1 := Aside0.mk (S_grown SA1.out hg (fun k hk e => absurd (DJ.out 1 0 k (by omega) (by omega) hk (SA0.out.choose_spec.1 k e.symm)) (by omega)))
 have SA2 := Aside0.mk (S_grown SA2.out hg (fun k hk e => absurd (DJ.out 2 0 k (by omega) (by omega) hk (SA0.out.choose_spec.1 k e.symm)) (by omega)))
 have SA0 := Aside0.mk hs
 clear hs hg
 have hc_ := AT.out.cell 5 (u := .slice (h 0).a5 0 (h 0).c5) rfl
 go_wp2_with (fail)
 clear hc_
 refine (laws_markWorkS.calls (h 0).a5 (h 0).c5 [] 12 12 W5 (C_nil _ _ _) (Nat.zero_le _) rfl).mono ?_
 rintro e wz_ ⟨rfl, ⟨nd, rfl⟩⟩
 have hb := pw_below_drewN (Below.refl W5.heap.size W5) nd
 generalize W5.drewN nd = W6 at hb ⊢
 have AT := Aside0.mk (At.below AT.out (hb))
 have KQ := Aside0.mk (K40.below KQ.out (hb))
 have SA0 := Aside0.mk (Kd.S_below SA0.out (hb))
 have SA1 := Aside0.mk (Kd.S_below SA1.out (hb))
 have SA2 := Aside0.mk (Kd.S_below SA2.out (hb))
 have HB := Aside0.mk (below_step HB.out (hb))
 clear hb
 go_wp2_with (fail)
 rw [rounds_succ]
 have hc_ := AT.out.cell 6 (u := .int .i64 1) rfl
 have hf_ := AT.out.froz 6
 go_upto_region 5 with (fail)
 clear hc_ hf_
 have KQ := Aside0.mk (K40.put (j := 6) (u := Value.int .i64 12) KQ.out AT.out)
 have AT := Aside0.mk (At.put (l' := [.int .i64 1, .bool false, .slice (h 0).a2 0 (h 0).c2, .int .i64 3, .slice (h 0).a4 8 (h 0).c4, .slice (h 0).a5 0 (h 0).c5, .int .i64 12, .bool true, .slice (h 1).a2 0 (h 1).c2, .int .i64 0, .slice (h 1).a4 8 (h 1).c4, .slice (h 1).a5 0 (h 1).c5, .int .i64 2, .bool true, .slice (h 2).a2 0 (h 2).c2, .int .i64 0, .slice (h 2).a4 8 (h 2).c4, .slice (h 2).a5 0 (h 2).c5]) AT.out 6 (.int .i64 12) rfl)
 have HB := Aside0.mk (below_set (g := g) (j := 6) (v := Value.int .i64 12) HB.out LG.out)
 have SA0 := Aside0.mk (S_put (j := 6) (u := Value.int .i64 12) SA0.out NG0.out)
 have SA1 := Aside0.mk (S_put (j := 6) (u := Value.int .i64 12) SA1.out NG1.out)
 have SA2 := Aside0.mk (S_put (j := 6) (u := Value.int .i64 12) SA2.out NG2.out)
 generalize W6.setCell ⟨g, 6, none⟩ (.int .i64 12) = W7 at AT KQ SA0 SA1 SA2 HB ⊢
 have hc_ := AT.out.cell 7 (u := .bool true) rfl
 have hf_ := AT.out.froz 7
 go_upto_region 7 with (fail)
 clear hc_ hf_
 have KQ := Aside0.mk (K40.put (j := 7) (u := Value.bool false) KQ.out AT.out)
 have AT := Aside0.mk (At.put (l' := [.int .i64 1, .bool false, .slice (h 0).a2 0 (h 0).c2, .int .i64 3, .slice (h 0).a4 8 (h 0).c4, .slice (h 0).a5 0 (h 0).c5, .int .i64 12, .bool false, .slice (h 1).a2 0 (h 1).c2, .int .i64 0, .slice (h 1).a4 8 (h 1).c4, .slice (h 1).a5 0 (h 1).c5, .int .i64 2, .bool true, .slice (h 2).a2 0 (h 2).c2, .int .i64 0, .slice (h 2).a4 8 (h 2).c4, .slice (h 2).a5 0 (h 2).c5]) AT.out 7 (.bool false) rfl)
 have HB := Aside0.mk (below_set (g := g) (j := 7) (v := Value.bool false) HB.out LG.out)
 have SA0 := Aside0.mk (S_put (j := 7) (u := Value.bool false) SA0.out NG0.out)
 have SA1 := Aside0.mk (S_put (j := 7) (u := Value.bool false) SA1.out NG1.out)
 have SA2 := Aside0.mk (S_put (j := 7) (u := Value.bool false) SA2.out NG2.out)
 generalize W7.setCell ⟨g, 7, none⟩ (.bool false) = W8 at AT KQ SA0 SA1 SA2 HB ⊢
 have hc_ := AT.out.cell 8 (u := .slice (h 1).a2 0 (h 1).c2) rfl
 go_wp2_with (fail)
 clear hc_
 refine (laws_markRecS.calls (h 1).a2 (h 1).c2 [] 14 14 W8 (C_nil _ _ _) (Nat.zero_le _) rfl).mono ?_
 rintro e wz_ ⟨rfl, ⟨nd, rfl⟩⟩
 have hb := pw_below_drewN (Below.refl W8.heap.size W8) nd
 generalize W8.drewN nd = W9 at hb ⊢
 have AT := Aside0.mk (At.below AT.out (hb))
 have KQ := Aside0.mk (K40.below KQ.out (hb))
 have SA0 := Aside0.mk (Kd.S_below SA0.out (hb))
 have SA1 := Aside0.mk (Kd.S_below SA1.out (hb))
 have SA2 := Aside0.mk (Kd.S_below SA2.out (hb))
 have HB := Aside0.mk (below_step HB.out (hb))
 clear hb
 have hc_ := AT.out.cell 9 (u := .int .i64 0) rfl
 have hf_ := AT.out.froz 9
 go_upto_region 10 with (fail)
 clear hc_ hf_
 have KQ := Aside0.mk (K40.put (j := 9) (u := Value.int .i64 14) KQ.out AT.out)
 have AT := Aside0.mk (At.put (l' := [.int .i64 1, .bool false, .slice (h 0).a2 0 (h 0).c2, .int .i64 3, .slice (h 0).a4 8 (h 0).c4, .slice (h 0).a5 0 (h 0).c5, .int .i64 12, .bool false, .slice (h 1).a2 0 (h 1).c2, .int .i64 14, .slice (h 1).a4 8 (h 1).c4, .slice (h 1).a5 0 (h 1).c5, .int .i64 2, .bool true, .slice (h 2).a2 0 (h 2).c2, .int .i64 0, .slice (h 2).a4 8 (h 2).c4, .slice (h 2).a5 0 (h 2).c5]) AT.out 9 (.int .i64 14) rfl)
 have HB := Aside0.mk (below_set (g := g) (j := 9) (v := Value.int .i64 14) HB.out LG.out)
 have SA0 := Aside0.mk (S_put (j := 9) (u := Value.int .i64 14) SA0.out NG0.out)
 have SA1 := Aside0.mk (S_put (j := 9) (u := Value.int .i64 14) SA1.out NG1.out)
 have SA2 := Aside0.mk (S_put (j := 9) (u := Value.int .i64 14) SA2.out NG2.out)
 generalize W9.setCell ⟨g, 9, none⟩ (.int .i64 14) = W10 at AT KQ SA0 SA1 SA2 HB ⊢
 have hc_ := AT.out.cell 10 (u := .slice (h 1).a4 8 (h 1).c4) rfl
 go_wp2_with (fail)
 clear hc_
 refine (markL 15 23 rfl (by omega) W10 w0.heap.size (I 1) (h 1).a4 (h 1).c4 SA1.out).mono ?_
 rintro e W11 ⟨rfl, hs, hg⟩
 have AT := Aside0.mk (AT.out.kept (hg.block g AT.out.lt (fun e => NG1.out (SA1.out.choose_spec.1 g e.symm))))
 have KQ := Aside0.mk (K40.grown KQ.out SA1.out hg)
 have HB := Aside0.mk (HB.out.grown hg HB.out.size (Kd.R_base (Kd.S_R SA1.out)))
 have SA0 := Aside0.mk (S_grown SA0.out hg (fun k hk e => absurd (DJ.out 0 1 k (by omega) (by omega) hk (SA1.out.choose_spec.1 k e.symm)) (by omega)))
 have SA2 := Aside0.mk (S_grown SA2.out hg (fun k hk e => absurd (DJ.out 2 1 k (by omega) (by omega) hk (SA1.out.choose_spec.1 k e.symm)) (by omega)))
 have SA1 := Aside0.mk hs
 clear hs hg
 have hc_ := AT.out.cell 11 (u := .slice (h 1).a5 0 (h 1).c5) rfl
 go_wp2_with (fail)
 clear hc_
 refine (laws_markWorkS.calls (h 1).a5 (h 1).c5 [] 23 23 W11 (C_nil _ _ _) (Nat.zero_le _) rfl).mono ?_
 rintro e wz_ ⟨rfl, ⟨nd, rfl⟩⟩
 have hb := pw_below_drewN (Below.refl W11.heap.size W11) nd
 generalize W11.drewN nd = W12 at hb ⊢
 have AT := Aside0.mk (At.below AT.out (hb))
 have KQ := Aside0.mk (K40.below KQ.out (hb))
 have SA0 := Aside0.mk (Kd.S_below SA0.out (hb))
 have SA1 := Aside0.mk (Kd.S_below SA1.out (hb))
 have SA2 := Aside0.mk (Kd.S_below SA2.out (hb))
 have HB := Aside0.mk (below_step HB.out (hb))
 clear hb
 go_wp2_with (fail)
 rw [rounds_succ]
 have hc_ := AT.out.cell 12 (u := .int .i64 2) rfl
 have hf_ := AT.out.froz 12
 go_upto_region 5 with (fail)
 clear hc_ hf_
 have KQ := Aside0.mk (K40.put (j := 12) (u := Value.int .i64 23) KQ.out AT.out)
 have AT := Aside0.mk (At.put (l' := [.int .i64 1, .bool false, .slice (h 0).a2 0 (h 0).c2, .int .i64 3, .slice (h 0).a4 8 (h 0).c4, .slice (h 0).a5 0 (h 0).c5, .int .i64 12, .bool false, .slice (h 1).a2 0 (h 1).c2, .int .i64 14, .slice (h 1).a4 8 (h 1).c4, .slice (h 1).a5 0 (h 1).c5, .int .i64 23, .bool true, .slice (h 2).a2 0 (h 2).c2, .int .i64 0, .slice (h 2).a4 8 (h 2).c4, .slice (h 2).a5 0 (h 2).c5]) AT.out 12 (.int .i64 23) rfl)
 have HB := Aside0.mk (below_set (g := g) (j := 12) (v := Value.int .i64 23) HB.out LG.out)
 have SA0 := Aside0.mk (S_put (j := 12) (u := Value.int .i64 23) SA0.out NG0.out)
 have SA1 := Aside0.mk (S_put (j := 12) (u := Value.int .i64 23) SA1.out NG1.out)
 have SA2 := Aside0.mk (S_put (j := 12) (u := Value.int .i64 23) SA2.out NG2.out)
 generalize W12.setCell ⟨g, 12, none⟩ (.int .i64 23) = W13 at AT KQ SA0 SA1 SA2 HB ⊢
 have hc_ := AT.out.cell 13 (u := .bool true) rfl
 have hf_ := AT.out.froz 13
 go_upto_region 7 with (fail)
 clear hc_ hf_
 have KQ := Aside0.mk (K40.put (j := 13) (u := Value.bool true) KQ.out AT.out)
 have AT := Aside0.mk (At.put (l' := [.int .i64 1, .bool false, .slice (h 0).a2 0 (h 0).c2, .int .i64 3, .slice (h 0).a4 8 (h 0).c4, .slice (h 0).a5 0 (h 0).c5, .int .i64 12, .bool false, .slice (h 1).a2 0 (h 1).c2, .int .i64 14, .slice (h 1).a4 8 (h 1).c4, .slice (h 1).a5 0 (h 1).c5, .int .i64 23, .bool true, .slice (h 2).a2 0 (h 2).c2, .int .i64 0, .slice (h 2).a4 8 (h 2).c4, .slice (h 2).a5 0 (h 2).c5]) AT.out 13 (.bool true) rfl)
 have HB := Aside0.mk (below_set (g := g) (j := 13) (v := Value.bool true) HB.out LG.out)
 have SA0 := Aside0.mk (S_put (j := 13) (u := Value.bool true) SA0.out NG0.out)
 have SA1 := Aside0.mk (S_put (j := 13) (u := Value.bool true) SA1.out NG1.out)
 have SA2 := Aside0.mk (S_put (j := 13) (u := Value.bool true) SA2.out NG2.out)
 generalize W13.setCell ⟨g, 13, none⟩ (.bool true) = W14 at AT KQ SA0 SA1 SA2 HB ⊢
 have hc_ := AT.out.cell 14 (u := .slice (h 2).a2 0 (h 2).c2) rfl
 go_wp2_with (fail)
 clear hc_
 refine (laws_markRecS.calls (h 2).a2 (h 2).c2 [] 25 25 W14 (C_nil _ _ _) (Nat.zero_le _) rfl).mono ?_
 rintro e wz_ ⟨rfl, ⟨nd, rfl⟩⟩
 have hb := pw_below_drewN (Below.refl W14.heap.size W14) nd
 generalize W14.drewN nd = W15 at hb ⊢
 have AT := Aside0.mk (At.below AT.out (hb))
 have KQ := Aside0.mk (K40.below KQ.out (hb))
 have SA0 := Aside0.mk (Kd.S_below SA0.out (hb))
 have SA1 := Aside0.mk (Kd.S_below SA1.out (hb))
 have SA2 := Aside0.mk (Kd.S_below SA2.out (hb))
 have HB := Aside0.mk (below_step HB.out (hb))
 clear hb
 have hc_ := AT.out.cell 15 (u := .int .i64 0) rfl
 have hf_ := AT.out.froz 15
 go_upto_region 10 with (fail)
 clear hc_ hf_
 have KQ := Aside0.mk (K40.put (j := 15) (u := Value.int .i64 25) KQ.out AT.out)
 have AT := Aside0.mk (At.put (l' := [.int .i64 1, .bool false, .slice (h 0).a2 0 (h 0).c2, .int .i64 3, .slice (h 0).a4 8 (h 0).c4, .slice (h 0).a5 0 (h 0).c5, .int .i64 12, .bool false, .slice (h 1).a2 0 (h 1).c2, .int .i64 14, .slice (h 1).a4 8 (h 1).c4, .slice (h 1).a5 0 (h 1).c5, .int .i64 23, .bool true, .slice (h 2).a2 0 (h 2).c2, .int .i64 25, .slice (h 2).a4 8 (h 2).c4, .slice (h 2).a5 0 (h 2).c5]) AT.out 15 (.int .i64 25) rfl)
 have HB := Aside0.mk (below_set (g := g) (j := 15) (v := Value.int .i64 25) HB.out LG.out)
 have SA0 := Aside0.mk (S_put (j := 15) (u := Value.int .i64 25) SA0.out NG0.out)
 have SA1 := Aside0.mk (S_put (j := 15) (u := Value.int .i64 25) SA1.out NG1.out)
 have SA2 := Aside0.mk (S_put (j := 15) (u := Value.int .i64 25) SA2.out NG2.out)
 generalize W15.setCell ⟨g, 15, none⟩ (.int .i64 25) = W16 at AT KQ SA0 SA1 SA2 HB ⊢
 have hc_ := AT.out.cell 16 (u := .slice (h 2).a4 8 (h 2).c4) rfl
 go_wp2_with (fail)
 clear hc_
 refine (markL 26 34 rfl (by omega) W16 w0.heap.size (I 2) (h 2).a4 (h 2).c4 SA2.out).mono ?_
 rintro e W17 ⟨rfl, hs, hg⟩
 have AT := Aside0.mk (AT.out.kept (hg.block g AT.out.lt (fun e => NG2.out (SA2.out.choose_spec.1 g e.symm))))
 have KQ := Aside0.mk (K40.grown KQ.out SA2.out hg)
 have HB := Aside0.mk (HB.out.grown hg HB.out.size (Kd.R_base (Kd.S_R SA2.out)))
 have SA0 := Aside0.mk (S_grown SA0.out hg (fun k hk e => absurd (DJ.out 0 2 k (by omega) (by omega) hk (SA2.out.choose_spec.1 k e.symm)) (by omega)))
 have SA1 := Aside0.mk (S_grown SA1.out hg (fun k hk e => absurd (DJ.out 1 2 k (by omega) (by omega) hk (SA2.out.choose_spec.1 k e.symm)) (by omega)))
 have SA2 := Aside0.mk hs
 clear hs hg
 have hc_ := AT.out.cell 17 (u := .slice (h 2).a5 0 (h 2).c5) rfl
 go_wp2_with (fail)
 clear hc_
 refine (laws_markWorkS.calls (h 2).a5 (h 2).c5 [] 34 34 W17 (C_nil _ _ _) (Nat.zero_le _) rfl).mono ?_
 rintro e wz_ ⟨rfl, ⟨nd, rfl⟩⟩
 have hb := pw_below_drewN (Below.refl W17.heap.size W17) nd
 generalize W17.drewN nd = W18 at hb ⊢
 have AT := Aside0.mk (At.below AT.out (hb))
 have KQ := Aside0.mk (K40.below KQ.out (hb))
 have SA0 := Aside0.mk (Kd.S_below SA0.out (hb))
 have SA1 := Aside0.mk (Kd.S_below SA1.out (hb))
 have SA2 := Aside0.mk (Kd.S_below SA2.out (hb))
 have HB := Aside0.mk (below_step HB.out (hb))
 clear hb
 go_wp2_with (fail)
 rw [rounds_succ]
 go_wp2_with (fail)
 go_ret
 exact ⟨rfl, HB.out, KQ.out, g, rfl, AT.out, SA0.out, SA1.out, SA2.out⟩
end Go.Proofs.Ythahadclegihaaa.PX
