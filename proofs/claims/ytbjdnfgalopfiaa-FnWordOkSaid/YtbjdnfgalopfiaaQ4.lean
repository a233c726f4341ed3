/- What l72Call draws. -/
import Derived.Test.YtbjdnfgalopfiaaQ3
import Derived.Deep.Cut
namespace Go.Proofs.Ytbjdnfgalopfiaa.PD
open Go.RowKit Go.Proofs.YtbjdnfgalopfiaaW.PrintWords Go.Proofs.YtbjdnfgalopfiaaW.PrintLast Go.Proofs.YtbjdnfgalopfiaaW.PrintMore Go.Proofs.Ytbjdnfgalopfiaa.PB
attribute [local go_sem] max2_int min2_int max_two min_two max_three min_three max_four min_four
set_option linter.unusedVariables false
set_option linter.unusedSimpArgs false
set_option maxHeartbeats 8000000 in
set_option maxRecDepth 100000 in
theorem callW (w0 w : World) (g : Nat) (b : List Int) (m : Int) (h : RdS w0 w w g b m) (hm : m ≤ 300) :
 Calls Try.prog 61 #[.pointer (some ⟨g, 0, none⟩)] w fun e w' => ∃ (m0 m1 m2 : Int) (tx : ByteArray) (m4 m5 : Int), e = .returned (.agg #[.int .i64 m0, .int .i64 m1, .int .i64 m2, .string tx, .int .i64 m4, .int .i64 m5]) ∧ RdS w0 w w' g b (m + 40) := by
 have hu31 := Try.underlying31
 have hu33 := Try.underlying33
 have HM := Aside0.mk hm
 have I := Aside0.mk h
 clear h hm
 have ZZ := Aside0.mk (Nat.le_refl w.heap.size)
 have hb := below_alloc (Below.refl w.heap.size w) (.cells #[.int .i64 0, .int .i64 0, .int .i64 0, .string ⟨#[]⟩, .int .i64 0, .int .i64 0] 31 (0, 0))
 have ZZ := Aside0.mk (And.intro ZZ.out ((hb).size))
 have I := Aside0.mk (I.out.below (hb))
 clear hb
 have P2 := Aside0.mk (blk_new w (.cells #[.int .i64 0, .int .i64 0, .int .i64 0, .string ⟨#[]⟩, .int .i64 0, .int .i64 0] 31 (0, 0)))
 have ZZ := Aside0.mk (And.intro ZZ.out (blk_lt P2.out))
 go_enter Try.func61, Try.ntmps61
 go_wp2_with (fail)
 generalize w.alloc (.cells #[.int .i64 0, .int .i64 0, .int .i64 0, .string ⟨#[]⟩, .int .i64 0, .int .i64 0] 31 (0, 0)) = W1 at ZZ P2 I ⊢
 have HG := Aside0.mk I.out.lt
 refine (l72Sim_calls g W1).mono ?_
 rintro e W2 ⟨gs, rfl, hs, hgs, hb⟩
 have HS := Aside0.mk hs
 have HN := Aside0.mk (show gs ≠ g by have := HG.out; omega)
 clear hs hgs
 have ZZ := Aside0.mk (And.intro ZZ.out ((hb).size))
 have P2 := kb P2 (hb)
 have I := Aside0.mk (I.out.below (hb))
 clear hb
 go_wp2_with (fail)
 refine (askW w0 W2 g b m gs HS.out HN.out I.out.here HM.out).mono ?_
 rintro e W3 ⟨m2, tx, m4, m5, rfl, htx, hi_⟩
 have HT := Aside0.mk htx
 have hk := hi_.kept
 have hi := I.out.then_ hi_
 clear htx hi_
 have ZZ := Aside0.mk (And.intro ZZ.out (hk.1))
 have P2 := Aside0.mk (I.out.blk hk P2.out (by decide))
 have I := Aside0.mk hi
 clear hi hk
 clear HS HN HG
 have hb := below_alloc (Below.refl W3.heap.size W3) (.cells #[.int .i64 0, .int .i64 0, .int .i64 m2, .string tx, .int .i64 m4, .int .i64 m5] 31 (0, 0))
 have ZZ := Aside0.mk (And.intro ZZ.out ((hb).size))
 have P2 := kb P2 (hb)
 have I := Aside0.mk (I.out.below (hb))
 clear hb
 have P3 := Aside0.mk (blk_new W3 (.cells #[.int .i64 0, .int .i64 0, .int .i64 m2, .string tx, .int .i64 m4, .int .i64 m5] 31 (0, 0)))
 have ZZ := Aside0.mk (And.intro ZZ.out (blk_lt P3.out))
 go_wp2_with (fail)
 generalize W3.alloc (.cells #[.int .i64 0, .int .i64 0, .int .i64 m2, .string tx, .int .i64 m4, .int .i64 m5] 31 (0, 0)) = W4 at ZZ P2 P3 I ⊢
 obtain ⟨b3, hq_⟩ : ∃ b3, b3 = W3.heap.size := ⟨_, rfl⟩
 rw [← hq_] at P3 ZZ ⊢
 have ZZ := Aside0.mk (And.intro ZZ.out (hq_))
 clear hq_
 refine (I.out.pick 3 (by have := HM.out; omega) (by decide) (by decide)).mono ?_
 rintro e W5 ⟨t0, ht0_, ht1_, rfl, hi, hk⟩
 have Tt0 := Aside0.mk (And.intro ht0_ ht1_)
 clear ht0_ ht1_
 have ZZ := Aside0.mk (And.intro ZZ.out (hk.1))
 have P2 := Aside0.mk (I.out.blk hk P2.out (by decide))
 have P3 := Aside0.mk (I.out.blk hk P3.out (by decide))
 have I := Aside0.mk hi
 clear hi hk
 have hc0 := (blk_cell P3.out 0).trans (show _ = some (.int .i64 0) from rfl)
 have hcf0 := blk_frozen P3.out 0
 have hc1 := (blk_cell P3.out 1).trans (show _ = some (.int .i64 0) from rfl)
 have hcf1 := blk_frozen P3.out 1
 have hc2 := (blk_cell P3.out 2).trans (show _ = some (.int .i64 m2) from rfl)
 have hcf2 := blk_frozen P3.out 2
 have hc3 := (blk_cell P3.out 3).trans (show _ = some (.string tx) from rfl)
 have hcf3 := blk_frozen P3.out 3
 have hc4 := (blk_cell P3.out 4).trans (show _ = some (.int .i64 m4) from rfl)
 have hcf4 := blk_frozen P3.out 4
 have hc5 := (blk_cell P3.out 5).trans (show _ = some (.int .i64 m5) from rfl)
 have hcf5 := blk_frozen P3.out 5
 have P2 := Aside0.mk (blk_far (p := ⟨b3, 0, none⟩) P2.out (show w.heap.size ≠ b3 by have := ZZ.out; omega) (.int .i64 t0))
 have I := Aside0.mk (I.out.set P3.out (by decide) (by have := ZZ.out; omega) 0 (.int .i64 t0))
 have P3 := Aside0.mk (blk_put (cs' := #[.int .i64 t0, .int .i64 0, .int .i64 m2, .string tx, .int .i64 m4, .int .i64 m5]) P3.out 0 (.int .i64 t0) rfl)
 have ZZ := Aside0.mk (And.intro ZZ.out (show W5.heap.size ≤ (W5.setCell ⟨b3, 0, none⟩ (.int .i64 t0)).heap.size by simp))
 go_wp2_with (fail)
 clear hc0 hcf0 hc1 hcf1 hc2 hcf2 hc3 hcf3 hc4 hcf4 hc5 hcf5
 generalize W5.setCell ⟨b3, 0, none⟩ (.int .i64 t0) = W6 at P2 P3 I ZZ ⊢
 refine (I.out.pick 6 (by have := HM.out; omega) (by decide) (by decide)).mono ?_
 rintro e W7 ⟨t1, ht0_, ht1_, rfl, hi, hk⟩
 have Tt1 := Aside0.mk (And.intro ht0_ ht1_)
 clear ht0_ ht1_
 have ZZ := Aside0.mk (And.intro ZZ.out (hk.1))
 have P2 := Aside0.mk (I.out.blk hk P2.out (by decide))
 have P3 := Aside0.mk (I.out.blk hk P3.out (by decide))
 have I := Aside0.mk hi
 clear hi hk
 have hc0 := (blk_cell P3.out 0).trans (show _ = some (.int .i64 t0) from rfl)
 have hcf0 := blk_frozen P3.out 0
 have hc1 := (blk_cell P3.out 1).trans (show _ = some (.int .i64 0) from rfl)
 have hcf1 := blk_frozen P3.out 1
 have hc2 := (blk_cell P3.out 2).trans (show _ = some (.int .i64 m2) from rfl)
 have hcf2 := blk_frozen P3.out 2
 have hc3 := (blk_cell P3.out 3).trans (show _ = some (.string tx) from rfl)
 have hcf3 := blk_frozen P3.out 3
 have hc4 := (blk_cell P3.out 4).trans (show _ = some (.int .i64 m4) from rfl)
 have hcf4 := blk_frozen P3.out 4
 have hc5 := (blk_cell P3.out 5).trans (show _ = some (.int .i64 m5) from rfl)
 have hcf5 := blk_frozen P3.out 5
 have P2 := Aside0.mk (blk_far (p := ⟨b3, 1, none⟩) P2.out (show w.heap.size ≠ b3 by have := ZZ.out; omega) (.int .i64 (wrap64 (1 + t1))))
 have I := Aside0.mk (I.out.set P3.out (by decide) (by have := ZZ.out; omega) 1 (.int .i64 (wrap64 (1 + t1))))
 have P3 := Aside0.mk (blk_put (cs' := #[.int .i64 t0, .int .i64 (wrap64 (1 + t1)), .int .i64 m2, .string tx, .int .i64 m4, .int .i64 m5]) P3.out 1 (.int .i64 (wrap64 (1 + t1))) rfl)
 have ZZ := Aside0.mk (And.intro ZZ.out (show W7.heap.size ≤ (W7.setCell ⟨b3, 1, none⟩ (.int .i64 (wrap64 (1 + t1)))).heap.size by simp))
 go_wp2_with (fail)
 clear hc0 hcf0 hc1 hcf1 hc2 hcf2 hc3 hcf3 hc4 hcf4 hc5 hcf5
 generalize W7.setCell ⟨b3, 1, none⟩ (.int .i64 (wrap64 (1 + t1))) = W8 at P2 P3 I ZZ ⊢
 generalize wrap64 (1 + t1) = n1 at P3 ⊢
 refine (I.out.pick 14 (by have := HM.out; omega) (by decide) (by decide)).mono ?_
 rintro e W9 ⟨t, ht0_, ht1_, rfl, hi, hk⟩
 have Tt := Aside0.mk (And.intro ht0_ ht1_)
 clear ht0_ ht1_
 have ZZ := Aside0.mk (And.intro ZZ.out (hk.1))
 have P2 := Aside0.mk (I.out.blk hk P2.out (by decide))
 have P3 := Aside0.mk (I.out.blk hk P3.out (by decide))
 have I := Aside0.mk hi
 clear hi hk
 by_cases c0_ : t = 0
 ·have c0t : (t == 0) = true := beq_iff_eq.mpr c0_
  clear c0_
  have hb := below_alloc (Below.refl W9.heap.size W9) (.cells #[.int .i64 0, .int .i64 3] 3 (0, 0))
  have ZZ := Aside0.mk (And.intro ZZ.out ((hb).size))
  have P2 := kb P2 (hb)
  have P3 := kb P3 (hb)
  have I := Aside0.mk (I.out.below (hb))
  clear hb
  have PL := Aside0.mk (blk_new W9 (.cells #[.int .i64 0, .int .i64 3] 3 (0, 0)))
  have ZZ := Aside0.mk (And.intro ZZ.out (blk_lt PL.out))
  go_wp2_with (fail)
  generalize W9.alloc (.cells #[.int .i64 0, .int .i64 3] 3 (0, 0)) = W10 at ZZ P2 P3 PL I ⊢
  obtain ⟨bL, hq_⟩ : ∃ bL, bL = W9.heap.size := ⟨_, rfl⟩
  rw [← hq_] at PL ZZ ⊢
  have ZZ := Aside0.mk (And.intro ZZ.out (hq_))
  clear hq_
  refine (I.out.pick 2 (by have := HM.out; omega) (by decide) (by decide)).mono ?_
  rintro e W11 ⟨u, ht0_, ht1_, rfl, hi, hk⟩
  have Tu := Aside0.mk (And.intro ht0_ ht1_)
  clear ht0_ ht1_
  have ZZ := Aside0.mk (And.intro ZZ.out (hk.1))
  have P2 := Aside0.mk (I.out.blk hk P2.out (by decide))
  have P3 := Aside0.mk (I.out.blk hk P3.out (by decide))
  have PL := Aside0.mk (I.out.blk hk PL.out (by decide))
  have I := Aside0.mk hi
  clear hi hk
  obtain ⟨y, hy⟩ : ∃ y : Int, (#[.int .i64 0, .int .i64 3] : Array Value)[u.toNat]? = some (.int .i64 y) := ints_at [0, 3] u Tu.out.1 Tu.out.2
  have hl_ : W11.cell? ⟨bL, u.toNat, none⟩ = some (.int .i64 y) := (blk_cell PL.out u.toNat).trans hy
  have p_ := eq_true Tu.out.1
  have q_ := eq_true Tu.out.2
  have p1_ := Tu.out.1
  have q1_ := Tu.out.2
  have hc0 := (blk_cell P3.out 0).trans (show _ = some (.int .i64 t0) from rfl)
  have hcf0 := blk_frozen P3.out 0
  have hc1 := (blk_cell P3.out 1).trans (show _ = some (.int .i64 n1) from rfl)
  have hcf1 := blk_frozen P3.out 1
  have hc2 := (blk_cell P3.out 2).trans (show _ = some (.int .i64 m2) from rfl)
  have hcf2 := blk_frozen P3.out 2
  have hc3 := (blk_cell P3.out 3).trans (show _ = some (.string tx) from rfl)
  have hcf3 := blk_frozen P3.out 3
  have hc4 := (blk_cell P3.out 4).trans (show _ = some (.int .i64 m4) from rfl)
  have hcf4 := blk_frozen P3.out 4
  have hc5 := (blk_cell P3.out 5).trans (show _ = some (.int .i64 m5) from rfl)
  have hcf5 := blk_frozen P3.out 5
  have P2 := Aside0.mk (blk_far (p := ⟨b3, 2, none⟩) P2.out (show w.heap.size ≠ b3 by have := ZZ.out; omega) (.int .i64 y))
  have PL := Aside0.mk (blk_far (p := ⟨b3, 2, none⟩) PL.out (show bL ≠ b3 by have := ZZ.out; omega) (.int .i64 y))
  have I := Aside0.mk (I.out.set P3.out (by decide) (by have := ZZ.out; omega) 2 (.int .i64 y))
  have P3 := Aside0.mk (blk_put (cs' := #[.int .i64 t0, .int .i64 n1, .int .i64 y, .string tx, .int .i64 m4, .int .i64 m5]) P3.out 2 (.int .i64 y) rfl)
  have ZZ := Aside0.mk (And.intro ZZ.out (show W11.heap.size ≤ (W11.setCell ⟨b3, 2, none⟩ (.int .i64 y)).heap.size by simp))
  go_wp2_with (first | ((with_reducible refine gate_dst (N := 65) rfl ?_); refine wpList_load_row rfl 31 (.tmp 3) rfl b3 rfl 31 #[.int .i64 t0, .int .i64 n1, .int .i64 y, .string tx, .int .i64 m4, .int .i64 m5] (0, 0) _ P3.out hu31 rfl (by kernel_rfl) ?_) | ((with_reducible refine gate_store (t := 31) (p := 2) rfl ?_); refine wpList_store_row rfl 31 (.tmp 2) (.tmp 65) rfl w.heap.size #[.int .i64 t0, .int .i64 n1, .int .i64 y, .string tx, .int .i64 m4, .int .i64 m5] rfl rfl 31 #[.int .i64 0, .int .i64 0, .int .i64 0, .string ⟨#[]⟩, .int .i64 0, .int .i64 0] P2.out (by kernel_rfl) rfl (by simp [Value.oneCell']) ?_; refine Aside0.out ?_))
  clear hc0 hcf0 hc1 hcf1 hc2 hcf2 hc3 hcf3 hc4 hcf4 hc5 hcf5 hl_ p_ q_ p1_ q1_ hy
  generalize W11.setCell ⟨b3, 2, none⟩ (.int .i64 y) = W12 at P2 P3 PL I ZZ ⊢
  obtain ⟨W13, e_⟩ : ∃ X, X = W12.setRow w.heap.size #[.int .i64 t0, .int .i64 n1, .int .i64 y, .string tx, .int .i64 m4, .int .i64 m5] := ⟨_, rfl⟩
  rw [← e_]
  have I := Aside0.mk (show RdS w0 w W13 g b _ from e_ ▸ I.out.row P2.out (by decide) (by have := ZZ.out; omega) #[.int .i64 t0, .int .i64 n1, .int .i64 y, .string tx, .int .i64 m4, .int .i64 m5])
  have P3 := kbs P3 e_ (by have := ZZ.out; omega)
  have PL := kbs PL e_ (by have := ZZ.out; omega)
  have P2 := kps P2 e_
  have ZZ := Aside0.mk (And.intro ZZ.out (kzs e_))
  clear e_
  refine Aside0.mk ?_
  iterate 12 (try go_step)
  refine bodyPost_ret (results_cell_row rfl _ _ w.heap.size 31 #[.int .i64 t0, .int .i64 n1, .int .i64 y, .string tx, .int .i64 m4, .int .i64 m5] (0, 0) _ rfl P2.out hu31 rfl (by kernel_rfl)) rfl ?_
  exact ⟨t0, n1, y, tx, m4, m5, rfl, I.out.more (by omega)⟩
 have c0f : (t == 0) = false := beq_eq_false_iff_ne.mpr c0_
 clear c0_
 by_cases c1_ : t = 1
 ·have c1t : (t == 1) = true := beq_iff_eq.mpr c1_
  clear c1_
  have hb := below_alloc (Below.refl W9.heap.size W9) (.cells #[.int .i64 (-1), .int .i64 3] 3 (0, 0))
  have ZZ := Aside0.mk (And.intro ZZ.out ((hb).size))
  have P2 := kb P2 (hb)
  have P3 := kb P3 (hb)
  have I := Aside0.mk (I.out.below (hb))
  clear hb
  have PL := Aside0.mk (blk_new W9 (.cells #[.int .i64 (-1), .int .i64 3] 3 (0, 0)))
  have ZZ := Aside0.mk (And.intro ZZ.out (blk_lt PL.out))
  go_wp2_with (fail)
  generalize W9.alloc (.cells #[.int .i64 (-1), .int .i64 3] 3 (0, 0)) = W14 at ZZ P2 P3 PL I ⊢
  obtain ⟨bL, hq_⟩ : ∃ bL, bL = W9.heap.size := ⟨_, rfl⟩
  rw [← hq_] at PL ZZ ⊢
  have ZZ := Aside0.mk (And.intro ZZ.out (hq_))
  clear hq_
  refine (I.out.pick 2 (by have := HM.out; omega) (by decide) (by decide)).mono ?_
  rintro e W15 ⟨u, ht0_, ht1_, rfl, hi, hk⟩
  have Tu := Aside0.mk (And.intro ht0_ ht1_)
  clear ht0_ ht1_
  have ZZ := Aside0.mk (And.intro ZZ.out (hk.1))
  have P2 := Aside0.mk (I.out.blk hk P2.out (by decide))
  have P3 := Aside0.mk (I.out.blk hk P3.out (by decide))
  have PL := Aside0.mk (I.out.blk hk PL.out (by decide))
  have I := Aside0.mk hi
  clear hi hk
  obtain ⟨y, hy⟩ : ∃ y : Int, (#[.int .i64 (-1), .int .i64 3] : Array Value)[u.toNat]? = some (.int .i64 y) := ints_at [-1, 3] u Tu.out.1 Tu.out.2
  have hl_ : W15.cell? ⟨bL, u.toNat, none⟩ = some (.int .i64 y) := (blk_cell PL.out u.toNat).trans hy
  have p_ := eq_true Tu.out.1
  have q_ := eq_true Tu.out.2
  have p1_ := Tu.out.1
  have q1_ := Tu.out.2
  have hc0 := (blk_cell P3.out 0).trans (show _ = some (.int .i64 t0) from rfl)
  have hcf0 := blk_frozen P3.out 0
  have hc1 := (blk_cell P3.out 1).trans (show _ = some (.int .i64 n1) from rfl)
  have hcf1 := blk_frozen P3.out 1
  have hc2 := (blk_cell P3.out 2).trans (show _ = some (.int .i64 m2) from rfl)
  have hcf2 := blk_frozen P3.out 2
  have hc3 := (blk_cell P3.out 3).trans (show _ = some (.string tx) from rfl)
  have hcf3 := blk_frozen P3.out 3
  have hc4 := (blk_cell P3.out 4).trans (show _ = some (.int .i64 m4) from rfl)
  have hcf4 := blk_frozen P3.out 4
  have hc5 := (blk_cell P3.out 5).trans (show _ = some (.int .i64 m5) from rfl)
  have hcf5 := blk_frozen P3.out 5
  have P2 := Aside0.mk (blk_far (p := ⟨b3, 0, none⟩) P2.out (show w.heap.size ≠ b3 by have := ZZ.out; omega) (.int .i64 y))
  have PL := Aside0.mk (blk_far (p := ⟨b3, 0, none⟩) PL.out (show bL ≠ b3 by have := ZZ.out; omega) (.int .i64 y))
  have I := Aside0.mk (I.out.set P3.out (by decide) (by have := ZZ.out; omega) 0 (.int .i64 y))
  have P3 := Aside0.mk (blk_put (cs' := #[.int .i64 y, .int .i64 n1, .int .i64 m2, .string tx, .int .i64 m4, .int .i64 m5]) P3.out 0 (.int .i64 y) rfl)
  have ZZ := Aside0.mk (And.intro ZZ.out (show W15.heap.size ≤ (W15.setCell ⟨b3, 0, none⟩ (.int .i64 y)).heap.size by simp))
  go_wp2_with (first | ((with_reducible refine gate_dst (N := 65) rfl ?_); refine wpList_load_row rfl 31 (.tmp 3) rfl b3 rfl 31 #[.int .i64 y, .int .i64 n1, .int .i64 m2, .string tx, .int .i64 m4, .int .i64 m5] (0, 0) _ P3.out hu31 rfl (by kernel_rfl) ?_) | ((with_reducible refine gate_store (t := 31) (p := 2) rfl ?_); refine wpList_store_row rfl 31 (.tmp 2) (.tmp 65) rfl w.heap.size #[.int .i64 y, .int .i64 n1, .int .i64 m2, .string tx, .int .i64 m4, .int .i64 m5] rfl rfl 31 #[.int .i64 0, .int .i64 0, .int .i64 0, .string ⟨#[]⟩, .int .i64 0, .int .i64 0] P2.out (by kernel_rfl) rfl (by simp [Value.oneCell']) ?_; refine Aside0.out ?_))
  clear hc0 hcf0 hc1 hcf1 hc2 hcf2 hc3 hcf3 hc4 hcf4 hc5 hcf5 hl_ p_ q_ p1_ q1_ hy
  generalize W15.setCell ⟨b3, 0, none⟩ (.int .i64 y) = W16 at P2 P3 PL I ZZ ⊢
  obtain ⟨W17, e_⟩ : ∃ X, X = W16.setRow w.heap.size #[.int .i64 y, .int .i64 n1, .int .i64 m2, .string tx, .int .i64 m4, .int .i64 m5] := ⟨_, rfl⟩
  rw [← e_]
  have I := Aside0.mk (show RdS w0 w W17 g b _ from e_ ▸ I.out.row P2.out (by decide) (by have := ZZ.out; omega) #[.int .i64 y, .int .i64 n1, .int .i64 m2, .string tx, .int .i64 m4, .int .i64 m5])
  have P3 := kbs P3 e_ (by have := ZZ.out; omega)
  have PL := kbs PL e_ (by have := ZZ.out; omega)
  have P2 := kps P2 e_
  have ZZ := Aside0.mk (And.intro ZZ.out (kzs e_))
  clear e_
  refine Aside0.mk ?_
  iterate 12 (try go_step)
  refine bodyPost_ret (results_cell_row rfl _ _ w.heap.size 31 #[.int .i64 y, .int .i64 n1, .int .i64 m2, .string tx, .int .i64 m4, .int .i64 m5] (0, 0) _ rfl P2.out hu31 rfl (by kernel_rfl)) rfl ?_
  exact ⟨y, n1, m2, tx, m4, m5, rfl, I.out.more (by omega)⟩
 have c1f : (t == 1) = false := beq_eq_false_iff_ne.mpr c1_
 clear c1_
 by_cases c2_ : t = 2
 ·have c2t : (t == 2) = true := beq_iff_eq.mpr c2_
  clear c2_
  have hb := below_alloc (Below.refl W9.heap.size W9) (.cells #[.int .i64 0, .int .i64 99, .int .i64 100] 3 (0, 0))
  have ZZ := Aside0.mk (And.intro ZZ.out ((hb).size))
  have P2 := kb P2 (hb)
  have P3 := kb P3 (hb)
  have I := Aside0.mk (I.out.below (hb))
  clear hb
  have PL := Aside0.mk (blk_new W9 (.cells #[.int .i64 0, .int .i64 99, .int .i64 100] 3 (0, 0)))
  have ZZ := Aside0.mk (And.intro ZZ.out (blk_lt PL.out))
  go_wp2_with (fail)
  generalize W9.alloc (.cells #[.int .i64 0, .int .i64 99, .int .i64 100] 3 (0, 0)) = W18 at ZZ P2 P3 PL I ⊢
  obtain ⟨bL, hq_⟩ : ∃ bL, bL = W9.heap.size := ⟨_, rfl⟩
  rw [← hq_] at PL ZZ ⊢
  have ZZ := Aside0.mk (And.intro ZZ.out (hq_))
  clear hq_
  refine (I.out.pick 3 (by have := HM.out; omega) (by decide) (by decide)).mono ?_
  rintro e W19 ⟨u, ht0_, ht1_, rfl, hi, hk⟩
  have Tu := Aside0.mk (And.intro ht0_ ht1_)
  clear ht0_ ht1_
  have ZZ := Aside0.mk (And.intro ZZ.out (hk.1))
  have P2 := Aside0.mk (I.out.blk hk P2.out (by decide))
  have P3 := Aside0.mk (I.out.blk hk P3.out (by decide))
  have PL := Aside0.mk (I.out.blk hk PL.out (by decide))
  have I := Aside0.mk hi
  clear hi hk
  obtain ⟨y, hy⟩ : ∃ y : Int, (#[.int .i64 0, .int .i64 99, .int .i64 100] : Array Value)[u.toNat]? = some (.int .i64 y) := ints_at [0, 99, 100] u Tu.out.1 Tu.out.2
  have hl_ : W19.cell? ⟨bL, u.toNat, none⟩ = some (.int .i64 y) := (blk_cell PL.out u.toNat).trans hy
  have p_ := eq_true Tu.out.1
  have q_ := eq_true Tu.out.2
  have p1_ := Tu.out.1
  have q1_ := Tu.out.2
  have hc0 := (blk_cell P3.out 0).trans (show _ = some (.int .i64 t0) from rfl)
  have hcf0 := blk_frozen P3.out 0
  have hc1 := (blk_cell P3.out 1).trans (show _ = some (.int .i64 n1) from rfl)
  have hcf1 := blk_frozen P3.out 1
  have hc2 := (blk_cell P3.out 2).trans (show _ = some (.int .i64 m2) from rfl)
  have hcf2 := blk_frozen P3.out 2
  have hc3 := (blk_cell P3.out 3).trans (show _ = some (.string tx) from rfl)
  have hcf3 := blk_frozen P3.out 3
  have hc4 := (blk_cell P3.out 4).trans (show _ = some (.int .i64 m4) from rfl)
  have hcf4 := blk_frozen P3.out 4
  have hc5 := (blk_cell P3.out 5).trans (show _ = some (.int .i64 m5) from rfl)
  have hcf5 := blk_frozen P3.out 5
  have P2 := Aside0.mk (blk_far (p := ⟨b3, 1, none⟩) P2.out (show w.heap.size ≠ b3 by have := ZZ.out; omega) (.int .i64 y))
  have PL := Aside0.mk (blk_far (p := ⟨b3, 1, none⟩) PL.out (show bL ≠ b3 by have := ZZ.out; omega) (.int .i64 y))
  have I := Aside0.mk (I.out.set P3.out (by decide) (by have := ZZ.out; omega) 1 (.int .i64 y))
  have P3 := Aside0.mk (blk_put (cs' := #[.int .i64 t0, .int .i64 y, .int .i64 m2, .string tx, .int .i64 m4, .int .i64 m5]) P3.out 1 (.int .i64 y) rfl)
  have ZZ := Aside0.mk (And.intro ZZ.out (show W19.heap.size ≤ (W19.setCell ⟨b3, 1, none⟩ (.int .i64 y)).heap.size by simp))
  go_wp2_with (first | ((with_reducible refine gate_dst (N := 65) rfl ?_); refine wpList_load_row rfl 31 (.tmp 3) rfl b3 rfl 31 #[.int .i64 t0, .int .i64 y, .int .i64 m2, .string tx, .int .i64 m4, .int .i64 m5] (0, 0) _ P3.out hu31 rfl (by kernel_rfl) ?_) | ((with_reducible refine gate_store (t := 31) (p := 2) rfl ?_); refine wpList_store_row rfl 31 (.tmp 2) (.tmp 65) rfl w.heap.size #[.int .i64 t0, .int .i64 y, .int .i64 m2, .string tx, .int .i64 m4, .int .i64 m5] rfl rfl 31 #[.int .i64 0, .int .i64 0, .int .i64 0, .string ⟨#[]⟩, .int .i64 0, .int .i64 0] P2.out (by kernel_rfl) rfl (by simp [Value.oneCell']) ?_; refine Aside0.out ?_))
  clear hc0 hcf0 hc1 hcf1 hc2 hcf2 hc3 hcf3 hc4 hcf4 hc5 hcf5 hl_ p_ q_ p1_ q1_ hy
  generalize W19.setCell ⟨b3, 1, none⟩ (.int .i64 y) = W20 at P2 P3 PL I ZZ ⊢
  obtain ⟨W21, e_⟩ : ∃ X, X = W20.setRow w.heap.size #[.int .i64 t0, .int .i64 y, .int .i64 m2, .string tx, .int .i64 m4, .int .i64 m5] := ⟨_, rfl⟩
  rw [← e_]
  have I := Aside0.mk (show RdS w0 w W21 g b _ from e_ ▸ I.out.row P2.out (by decide) (by have := ZZ.out; omega) #[.int .i64 t0, .int .i64 y, .int .i64 m2, .string tx, .int .i64 m4, .int .i64 m5])
  have P3 := kbs P3 e_ (by have := ZZ.out; omega)
  have PL := kbs PL e_ (by have := ZZ.out; omega)
  have P2 := kps P2 e_
  have ZZ := Aside0.mk (And.intro ZZ.out (kzs e_))
  clear e_
  refine Aside0.mk ?_
  iterate 12 (try go_step)
  refine bodyPost_ret (results_cell_row rfl _ _ w.heap.size 31 #[.int .i64 t0, .int .i64 y, .int .i64 m2, .string tx, .int .i64 m4, .int .i64 m5] (0, 0) _ rfl P2.out hu31 rfl (by kernel_rfl)) rfl ?_
  exact ⟨t0, y, m2, tx, m4, m5, rfl, I.out.more (by omega)⟩
 have c2f : (t == 2) = false := beq_eq_false_iff_ne.mpr c2_
 clear c2_
 by_cases c3_ : t = 3
 ·have c3t : (t == 3) = true := beq_iff_eq.mpr c3_
  clear c3_
  have hb := below_alloc (Below.refl W9.heap.size W9) (.cells #[.int .i64 1, .int .i64 8, .int .i64 (-1)] 3 (0, 0))
  have ZZ := Aside0.mk (And.intro ZZ.out ((hb).size))
  have P2 := kb P2 (hb)
  have P3 := kb P3 (hb)
  have I := Aside0.mk (I.out.below (hb))
  clear hb
  have PL := Aside0.mk (blk_new W9 (.cells #[.int .i64 1, .int .i64 8, .int .i64 (-1)] 3 (0, 0)))
  have ZZ := Aside0.mk (And.intro ZZ.out (blk_lt PL.out))
  go_wp2_with (fail)
  generalize W9.alloc (.cells #[.int .i64 1, .int .i64 8, .int .i64 (-1)] 3 (0, 0)) = W22 at ZZ P2 P3 PL I ⊢
  obtain ⟨bL, hq_⟩ : ∃ bL, bL = W9.heap.size := ⟨_, rfl⟩
  rw [← hq_] at PL ZZ ⊢
  have ZZ := Aside0.mk (And.intro ZZ.out (hq_))
  clear hq_
  refine (I.out.pick 3 (by have := HM.out; omega) (by decide) (by decide)).mono ?_
  rintro e W23 ⟨u, ht0_, ht1_, rfl, hi, hk⟩
  have Tu := Aside0.mk (And.intro ht0_ ht1_)
  clear ht0_ ht1_
  have ZZ := Aside0.mk (And.intro ZZ.out (hk.1))
  have P2 := Aside0.mk (I.out.blk hk P2.out (by decide))
  have P3 := Aside0.mk (I.out.blk hk P3.out (by decide))
  have PL := Aside0.mk (I.out.blk hk PL.out (by decide))
  have I := Aside0.mk hi
  clear hi hk
  obtain ⟨y, hy⟩ : ∃ y : Int, (#[.int .i64 1, .int .i64 8, .int .i64 (-1)] : Array Value)[u.toNat]? = some (.int .i64 y) := ints_at [1, 8, -1] u Tu.out.1 Tu.out.2
  have hl_ : W23.cell? ⟨bL, u.toNat, none⟩ = some (.int .i64 y) := (blk_cell PL.out u.toNat).trans hy
  have p_ := eq_true Tu.out.1
  have q_ := eq_true Tu.out.2
  have p1_ := Tu.out.1
  have q1_ := Tu.out.2
  have hc0 := (blk_cell P3.out 0).trans (show _ = some (.int .i64 t0) from rfl)
  have hcf0 := blk_frozen P3.out 0
  have hc1 := (blk_cell P3.out 1).trans (show _ = some (.int .i64 n1) from rfl)
  have hcf1 := blk_frozen P3.out 1
  have hc2 := (blk_cell P3.out 2).trans (show _ = some (.int .i64 m2) from rfl)
  have hcf2 := blk_frozen P3.out 2
  have hc3 := (blk_cell P3.out 3).trans (show _ = some (.string tx) from rfl)
  have hcf3 := blk_frozen P3.out 3
  have hc4 := (blk_cell P3.out 4).trans (show _ = some (.int .i64 m4) from rfl)
  have hcf4 := blk_frozen P3.out 4
  have hc5 := (blk_cell P3.out 5).trans (show _ = some (.int .i64 m5) from rfl)
  have hcf5 := blk_frozen P3.out 5
  have P2 := Aside0.mk (blk_far (p := ⟨b3, 4, none⟩) P2.out (show w.heap.size ≠ b3 by have := ZZ.out; omega) (.int .i64 y))
  have PL := Aside0.mk (blk_far (p := ⟨b3, 4, none⟩) PL.out (show bL ≠ b3 by have := ZZ.out; omega) (.int .i64 y))
  have I := Aside0.mk (I.out.set P3.out (by decide) (by have := ZZ.out; omega) 4 (.int .i64 y))
  have P3 := Aside0.mk (blk_put (cs' := #[.int .i64 t0, .int .i64 n1, .int .i64 m2, .string tx, .int .i64 y, .int .i64 m5]) P3.out 4 (.int .i64 y) rfl)
  have ZZ := Aside0.mk (And.intro ZZ.out (show W23.heap.size ≤ (W23.setCell ⟨b3, 4, none⟩ (.int .i64 y)).heap.size by simp))
  go_wp2_with (first | ((with_reducible refine gate_dst (N := 65) rfl ?_); refine wpList_load_row rfl 31 (.tmp 3) rfl b3 rfl 31 #[.int .i64 t0, .int .i64 n1, .int .i64 m2, .string tx, .int .i64 y, .int .i64 m5] (0, 0) _ P3.out hu31 rfl (by kernel_rfl) ?_) | ((with_reducible refine gate_store (t := 31) (p := 2) rfl ?_); refine wpList_store_row rfl 31 (.tmp 2) (.tmp 65) rfl w.heap.size #[.int .i64 t0, .int .i64 n1, .int .i64 m2, .string tx, .int .i64 y, .int .i64 m5] rfl rfl 31 #[.int .i64 0, .int .i64 0, .int .i64 0, .string ⟨#[]⟩, .int .i64 0, .int .i64 0] P2.out (by kernel_rfl) rfl (by simp [Value.oneCell']) ?_; refine Aside0.out ?_))
  clear hc0 hcf0 hc1 hcf1 hc2 hcf2 hc3 hcf3 hc4 hcf4 hc5 hcf5 hl_ p_ q_ p1_ q1_ hy
  generalize W23.setCell ⟨b3, 4, none⟩ (.int .i64 y) = W24 at P2 P3 PL I ZZ ⊢
  obtain ⟨W25, e_⟩ : ∃ X, X = W24.setRow w.heap.size #[.int .i64 t0, .int .i64 n1, .int .i64 m2, .string tx, .int .i64 y, .int .i64 m5] := ⟨_, rfl⟩
  rw [← e_]
  have I := Aside0.mk (show RdS w0 w W25 g b _ from e_ ▸ I.out.row P2.out (by decide) (by have := ZZ.out; omega) #[.int .i64 t0, .int .i64 n1, .int .i64 m2, .string tx, .int .i64 y, .int .i64 m5])
  have P3 := kbs P3 e_ (by have := ZZ.out; omega)
  have PL := kbs PL e_ (by have := ZZ.out; omega)
  have P2 := kps P2 e_
  have ZZ := Aside0.mk (And.intro ZZ.out (kzs e_))
  clear e_
  refine Aside0.mk ?_
  iterate 12 (try go_step)
  refine bodyPost_ret (results_cell_row rfl _ _ w.heap.size 31 #[.int .i64 t0, .int .i64 n1, .int .i64 m2, .string tx, .int .i64 y, .int .i64 m5] (0, 0) _ rfl P2.out hu31 rfl (by kernel_rfl)) rfl ?_
  exact ⟨t0, n1, m2, tx, y, m5, rfl, I.out.more (by omega)⟩
 have c3f : (t == 3) = false := beq_eq_false_iff_ne.mpr c3_
 clear c3_
 by_cases c4_ : t = 4
 ·have c4t : (t == 4) = true := beq_iff_eq.mpr c4_
  clear c4_
  go_wp2_with (fail)
  have P2 := kbd P2
  have P3 := kbd P3
  have I := Aside0.mk I.out.drew
  have ZZ := Aside0.mk (And.intro ZZ.out (show W9.heap.size ≤ (W9.drew).heap.size from Nat.le_refl _))
  have HSS := (show (W9.drew).cell? ⟨b3, 3, none⟩ = some (.string tx) ∧ True from ⟨(blk_cell P3.out 3).trans rfl, trivial⟩)
  refine start_ (n := 8) (S := fun w' => w'.cell? ⟨b3, 3, none⟩ = some (.string tx) ∧ True) (ds := [7]) (bt_ 8 0) (by kernel_rfl) rfl rfl HSS (fun hHeld => ?_)
  clear HSS
  generalize W9.drew = W26 at P2 P3 I ZZ hHeld ⊢
  refine pu_ 0 (some 50) (bt_ 8 1) (by kernel_rfl) ?_
  refine tk_ 1 (some 51) (bt_ 8 3) (by kernel_rfl) hHeld ?_
  refine pu_ 2 (some 52) (bt_ 8 7) (by kernel_rfl) ?_
  clear hHeld
  refine one_ (i := 3) (N := some 53) (bt_ 8 15) rfl rfl (by kernel_rfl) (by decide) (fun K hK => ?_)
  refine Kd.R_lit_step Kd.string _ 9 ?hg (N := 53) ?hd (xs := ([(⟨#[32]⟩ : ByteArray), (⟨#[103, 101, 116, 32, 49, 59]⟩ : ByteArray)] : List ByteArray)) (inner := [.string (⟨#[32]⟩ : ByteArray), .string (⟨#[103, 101, 116, 32, 49, 59]⟩ : ByteArray)]) (ok := fun _ => True) (okp := fun _ => True) ?hr ?hp (fun _ hk => hk) trivial (Below.refl _ _) (Nat.le_refl _) (by simp) ?_; (case hd => rfl); (case hg => rfl); (case hr => first | (go_simp; done) | (go_simp; rfl)); (case hp => exact (Reps.one (show Kd.M Kd.string _ _ _ (⟨#[32]⟩ : ByteArray) [.string (⟨#[32]⟩ : ByteArray)] from rfl) (Reps.one (show Kd.M Kd.string _ _ _ (⟨#[103, 101, 116, 32, 49, 59]⟩ : ByteArray) [.string (⟨#[103, 101, 116, 32, 49, 59]⟩ : ByteArray)] from rfl) (Reps.none _ _))))
  intro va W27 qa hb hg_ hn_
  clear hg_ hn_
  obtain ⟨AL, cL, rfl, hcl, hcc⟩ := Kd.R_reads qa
  have hne := Kd.R_own qa
  clear hne
  have ZZ := Aside0.mk (And.intro ZZ.out ((hb).size))
  have P2 := kb P2 (hb)
  have P3 := kb P3 (hb)
  have I := Aside0.mk (I.out.below (hb))
  clear hb
  have HF := Aside0.mk (I.out.apart qa (by decide))
  have HC := Aside0.mk hcc
  have HCL := Aside0.mk hcl
  clear qa hcc hcl
  refine hK.out _ _ ⟨(blk_cell P3.out 3).trans rfl, trivial⟩ (fun hHeld => ?_)
  clear hK K
  refine norm_ (a' := ?_) ?_ ?_
  rotate_left
  ·show Act.put _ (some 53) _ = _
   simp only [Act.put, List.setIfInBounds_toArray, List.set_cons_zero, List.set_cons_succ, i64_w, i32_w]
   rfl
  clear hHeld
  refine one_ (i := 4) (N := some 54) (bt_ 8 31) rfl rfl (by kernel_rfl) (by decide) (fun K hK => ?_)
  refine goes_ Try.func66 (by kernel_rfl) rfl #[.pointer (some ⟨g, 0, none⟩), .slice AL [(⟨#[32]⟩ : ByteArray), (⟨#[103, 101, 116, 32, 49, 59]⟩ : ByteArray)].length cL] (by rfl) rfl rfl (by simp only [List.map_toArray, List.map_cons, List.map_nil]; rfl) ?_
  refine (ofR I.out (by have := HM.out; omega) AL cL [(⟨#[32]⟩ : ByteArray), (⟨#[103, 101, 116, 32, 49, 59]⟩ : ByteArray)] HC.out HCL.out HF.out (by decide) (by decide) (fun x hx => by
   rcases List.mem_cons.1 hx with rfl | hx
   ·decide
   ·rcases List.mem_cons.1 hx with rfl | hx
    ·decide
    ·cases hx)).mono ?_
  rintro e W28 ⟨r, rfl, hr, hi, hk⟩
  refine ⟨_, rfl, ?_⟩
  have HR := Aside0.mk hr
  clear hr HC HCL HF
  have ZZ := Aside0.mk (And.intro ZZ.out (hk.1))
  have P2 := Aside0.mk (I.out.blk hk P2.out (by decide))
  have P3 := Aside0.mk (I.out.blk hk P3.out (by decide))
  have I := Aside0.mk hi
  clear hi hk
  refine hK.out _ _ ⟨(blk_cell P3.out 3).trans rfl, trivial⟩ (fun hHeld => ?_)
  clear hK K
  refine norm_ (a' := ?_) ?_ ?_
  rotate_left
  ·show Act.put _ (some 54) _ = _
   simp only [Act.put, List.setIfInBounds_toArray, List.set_cons_zero, List.set_cons_succ, i64_w, i32_w]
   rfl
  clear hHeld
  have hz_ : tx.size + r.size ≤ 9223372036854775807 := by have := HT.out; have := HR.out; omega
  have hz1 := eq_true hz_
  have hz2 : (9223372036854775807 < tx.size + r.size) = False := eq_false (Nat.not_lt.2 hz_)
  have hz3 := decide_eq_true hz_
  refine pu_ 5 (some 55) (bt_ 8 63) (by kernel_rfl) ?_
  refine pu_ 6 (some 56) (bt_ 8 127) (by kernel_rfl) ?_
  clear hz_ hz1 hz2 hz3
  refine last_ (i := 7) (N := none) (bt_ 8 255) rfl rfl (by kernel_rfl) (by decide) (fun K hK => ?_)
  have hc0 := (blk_cell P3.out 0).trans (show _ = some (.int .i64 t0) from rfl)
  have hcf0 := blk_frozen P3.out 0
  have hc1 := (blk_cell P3.out 1).trans (show _ = some (.int .i64 n1) from rfl)
  have hcf1 := blk_frozen P3.out 1
  have hc2 := (blk_cell P3.out 2).trans (show _ = some (.int .i64 m2) from rfl)
  have hcf2 := blk_frozen P3.out 2
  have hc3 := (blk_cell P3.out 3).trans (show _ = some (.string tx) from rfl)
  have hcf3 := blk_frozen P3.out 3
  have hc4 := (blk_cell P3.out 4).trans (show _ = some (.int .i64 m4) from rfl)
  have hcf4 := blk_frozen P3.out 4
  have hc5 := (blk_cell P3.out 5).trans (show _ = some (.int .i64 m5) from rfl)
  have hcf5 := blk_frozen P3.out 5
  refine skip_ (w1 := W28.setCell ⟨b3, 3, none⟩ (.string (tx ++ r))) (by rfl) rfl (by first | (go_simp; done) | (go_simp; rfl)) ?_
  clear hc0 hcf0 hc1 hcf1 hc2 hcf2 hc3 hcf3 hc4 hcf4 hc5 hcf5
  have P2 := Aside0.mk (blk_far (p := ⟨b3, 3, none⟩) P2.out (show w.heap.size ≠ b3 by have := ZZ.out; omega) (.string (tx ++ r)))
  have I := Aside0.mk (I.out.set P3.out (by decide) (by have := ZZ.out; omega) 3 (.string (tx ++ r)))
  have P3 := Aside0.mk (blk_put (cs' := #[.int .i64 t0, .int .i64 n1, .int .i64 m2, .string (tx ++ r), .int .i64 m4, .int .i64 m5]) P3.out 3 (.string (tx ++ r)) rfl)
  have ZZ := Aside0.mk (And.intro ZZ.out (show W28.heap.size ≤ (W28.setCell ⟨b3, 3, none⟩ (.string (tx ++ r))).heap.size by simp))
  generalize W28.setCell ⟨b3, 3, none⟩ (.string (tx ++ r)) = W29 at P2 P3 I ZZ ⊢
  refine hK.out _ _ ?_
  clear hK K
  refine done_ (by kernel_rfl) ?_
  go_wp2_with (first | ((with_reducible refine gate_dst (N := 65) rfl ?_); refine wpList_load_row rfl 31 (.tmp 3) rfl b3 rfl 31 #[.int .i64 t0, .int .i64 n1, .int .i64 m2, .string (tx ++ r), .int .i64 m4, .int .i64 m5] (0, 0) _ P3.out hu31 rfl (by kernel_rfl) ?_) | ((with_reducible refine gate_store (t := 31) (p := 2) rfl ?_); refine wpList_store_row rfl 31 (.tmp 2) (.tmp 65) rfl w.heap.size #[.int .i64 t0, .int .i64 n1, .int .i64 m2, .string (tx ++ r), .int .i64 m4, .int .i64 m5] rfl rfl 31 #[.int .i64 0, .int .i64 0, .int .i64 0, .string ⟨#[]⟩, .int .i64 0, .int .i64 0] P2.out (by kernel_rfl) rfl (by simp [Value.oneCell']) ?_; refine Aside0.out ?_))
  obtain ⟨W30, e_⟩ : ∃ X, X = W29.setRow w.heap.size #[.int .i64 t0, .int .i64 n1, .int .i64 m2, .string (tx ++ r), .int .i64 m4, .int .i64 m5] := ⟨_, rfl⟩
  rw [← e_]
  have I := Aside0.mk (show RdS w0 w W30 g b _ from e_ ▸ I.out.row P2.out (by decide) (by have := ZZ.out; omega) #[.int .i64 t0, .int .i64 n1, .int .i64 m2, .string (tx ++ r), .int .i64 m4, .int .i64 m5])
  have P3 := kbs P3 e_ (by have := ZZ.out; omega)
  have P2 := kps P2 e_
  have ZZ := Aside0.mk (And.intro ZZ.out (kzs e_))
  clear e_
  refine Aside0.mk ?_
  iterate 12 (try go_step)
  refine bodyPost_ret (results_cell_row rfl _ _ w.heap.size 31 #[.int .i64 t0, .int .i64 n1, .int .i64 m2, .string (tx ++ r), .int .i64 m4, .int .i64 m5] (0, 0) _ rfl P2.out hu31 rfl (by kernel_rfl)) rfl ?_
  exact ⟨t0, n1, m2, (tx ++ r), m4, m5, rfl, I.out.more (by omega)⟩
 have c4f : (t == 4) = false := beq_eq_false_iff_ne.mpr c4_
 clear c4_
 by_cases c5_ : t = 5
 ·have c5t : (t == 5) = true := beq_iff_eq.mpr c5_
  clear c5_
  have hb := below_alloc (Below.refl W9.heap.size W9) (.cells #[.int .i64 (-1), .int .i64 2, .int .i64 3] 3 (0, 0))
  have ZZ := Aside0.mk (And.intro ZZ.out ((hb).size))
  have P2 := kb P2 (hb)
  have P3 := kb P3 (hb)
  have I := Aside0.mk (I.out.below (hb))
  clear hb
  have PL := Aside0.mk (blk_new W9 (.cells #[.int .i64 (-1), .int .i64 2, .int .i64 3] 3 (0, 0)))
  have ZZ := Aside0.mk (And.intro ZZ.out (blk_lt PL.out))
  go_wp2_with (fail)
  generalize W9.alloc (.cells #[.int .i64 (-1), .int .i64 2, .int .i64 3] 3 (0, 0)) = W31 at ZZ P2 P3 PL I ⊢
  obtain ⟨bL, hq_⟩ : ∃ bL, bL = W9.heap.size := ⟨_, rfl⟩
  rw [← hq_] at PL ZZ ⊢
  have ZZ := Aside0.mk (And.intro ZZ.out (hq_))
  clear hq_
  refine (I.out.pick 3 (by have := HM.out; omega) (by decide) (by decide)).mono ?_
  rintro e W32 ⟨u, ht0_, ht1_, rfl, hi, hk⟩
  have Tu := Aside0.mk (And.intro ht0_ ht1_)
  clear ht0_ ht1_
  have ZZ := Aside0.mk (And.intro ZZ.out (hk.1))
  have P2 := Aside0.mk (I.out.blk hk P2.out (by decide))
  have P3 := Aside0.mk (I.out.blk hk P3.out (by decide))
  have PL := Aside0.mk (I.out.blk hk PL.out (by decide))
  have I := Aside0.mk hi
  clear hi hk
  obtain ⟨y, hy⟩ : ∃ y : Int, (#[.int .i64 (-1), .int .i64 2, .int .i64 3] : Array Value)[u.toNat]? = some (.int .i64 y) := ints_at [-1, 2, 3] u Tu.out.1 Tu.out.2
  have hl_ : W32.cell? ⟨bL, u.toNat, none⟩ = some (.int .i64 y) := (blk_cell PL.out u.toNat).trans hy
  have p_ := eq_true Tu.out.1
  have q_ := eq_true Tu.out.2
  have p1_ := Tu.out.1
  have q1_ := Tu.out.2
  have hc0 := (blk_cell P3.out 0).trans (show _ = some (.int .i64 t0) from rfl)
  have hcf0 := blk_frozen P3.out 0
  have hc1 := (blk_cell P3.out 1).trans (show _ = some (.int .i64 n1) from rfl)
  have hcf1 := blk_frozen P3.out 1
  have hc2 := (blk_cell P3.out 2).trans (show _ = some (.int .i64 m2) from rfl)
  have hcf2 := blk_frozen P3.out 2
  have hc3 := (blk_cell P3.out 3).trans (show _ = some (.string tx) from rfl)
  have hcf3 := blk_frozen P3.out 3
  have hc4 := (blk_cell P3.out 4).trans (show _ = some (.int .i64 m4) from rfl)
  have hcf4 := blk_frozen P3.out 4
  have hc5 := (blk_cell P3.out 5).trans (show _ = some (.int .i64 m5) from rfl)
  have hcf5 := blk_frozen P3.out 5
  have P2 := Aside0.mk (blk_far (p := ⟨b3, 5, none⟩) P2.out (show w.heap.size ≠ b3 by have := ZZ.out; omega) (.int .i64 y))
  have PL := Aside0.mk (blk_far (p := ⟨b3, 5, none⟩) PL.out (show bL ≠ b3 by have := ZZ.out; omega) (.int .i64 y))
  have I := Aside0.mk (I.out.set P3.out (by decide) (by have := ZZ.out; omega) 5 (.int .i64 y))
  have P3 := Aside0.mk (blk_put (cs' := #[.int .i64 t0, .int .i64 n1, .int .i64 m2, .string tx, .int .i64 m4, .int .i64 y]) P3.out 5 (.int .i64 y) rfl)
  have ZZ := Aside0.mk (And.intro ZZ.out (show W32.heap.size ≤ (W32.setCell ⟨b3, 5, none⟩ (.int .i64 y)).heap.size by simp))
  go_wp2_with (first | ((with_reducible refine gate_dst (N := 65) rfl ?_); refine wpList_load_row rfl 31 (.tmp 3) rfl b3 rfl 31 #[.int .i64 t0, .int .i64 n1, .int .i64 m2, .string tx, .int .i64 m4, .int .i64 y] (0, 0) _ P3.out hu31 rfl (by kernel_rfl) ?_) | ((with_reducible refine gate_store (t := 31) (p := 2) rfl ?_); refine wpList_store_row rfl 31 (.tmp 2) (.tmp 65) rfl w.heap.size #[.int .i64 t0, .int .i64 n1, .int .i64 m2, .string tx, .int .i64 m4, .int .i64 y] rfl rfl 31 #[.int .i64 0, .int .i64 0, .int .i64 0, .string ⟨#[]⟩, .int .i64 0, .int .i64 0] P2.out (by kernel_rfl) rfl (by simp [Value.oneCell']) ?_; refine Aside0.out ?_))
  clear hc0 hcf0 hc1 hcf1 hc2 hcf2 hc3 hcf3 hc4 hcf4 hc5 hcf5 hl_ p_ q_ p1_ q1_ hy
  generalize W32.setCell ⟨b3, 5, none⟩ (.int .i64 y) = W33 at P2 P3 PL I ZZ ⊢
  obtain ⟨W34, e_⟩ : ∃ X, X = W33.setRow w.heap.size #[.int .i64 t0, .int .i64 n1, .int .i64 m2, .string tx, .int .i64 m4, .int .i64 y] := ⟨_, rfl⟩
  rw [← e_]
  have I := Aside0.mk (show RdS w0 w W34 g b _ from e_ ▸ I.out.row P2.out (by decide) (by have := ZZ.out; omega) #[.int .i64 t0, .int .i64 n1, .int .i64 m2, .string tx, .int .i64 m4, .int .i64 y])
  have P3 := kbs P3 e_ (by have := ZZ.out; omega)
  have PL := kbs PL e_ (by have := ZZ.out; omega)
  have P2 := kps P2 e_
  have ZZ := Aside0.mk (And.intro ZZ.out (kzs e_))
  clear e_
  refine Aside0.mk ?_
  iterate 12 (try go_step)
  refine bodyPost_ret (results_cell_row rfl _ _ w.heap.size 31 #[.int .i64 t0, .int .i64 n1, .int .i64 m2, .string tx, .int .i64 m4, .int .i64 y] (0, 0) _ rfl P2.out hu31 rfl (by kernel_rfl)) rfl ?_
  exact ⟨t0, n1, m2, tx, m4, y, rfl, I.out.more (by omega)⟩
 have c5f : (t == 5) = false := beq_eq_false_iff_ne.mpr c5_
 clear c5_
 skip
 go_wp2_with (first | ((with_reducible refine gate_dst (N := 65) rfl ?_); refine wpList_load_row rfl 31 (.tmp 3) rfl b3 rfl 31 #[.int .i64 t0, .int .i64 n1, .int .i64 m2, .string tx, .int .i64 m4, .int .i64 m5] (0, 0) _ P3.out hu31 rfl (by kernel_rfl) ?_) | ((with_reducible refine gate_store (t := 31) (p := 2) rfl ?_); refine wpList_store_row rfl 31 (.tmp 2) (.tmp 65) rfl w.heap.size #[.int .i64 t0, .int .i64 n1, .int .i64 m2, .string tx, .int .i64 m4, .int .i64 m5] rfl rfl 31 #[.int .i64 0, .int .i64 0, .int .i64 0, .string ⟨#[]⟩, .int .i64 0, .int .i64 0] P2.out (by kernel_rfl) rfl (by simp [Value.oneCell']) ?_; refine Aside0.out ?_))
 obtain ⟨W35, e_⟩ : ∃ X, X = W9.setRow w.heap.size #[.int .i64 t0, .int .i64 n1, .int .i64 m2, .string tx, .int .i64 m4, .int .i64 m5] := ⟨_, rfl⟩
 rw [← e_]
 have I := Aside0.mk (show RdS w0 w W35 g b _ from e_ ▸ I.out.row P2.out (by decide) (by have := ZZ.out; omega) #[.int .i64 t0, .int .i64 n1, .int .i64 m2, .string tx, .int .i64 m4, .int .i64 m5])
 have P3 := kbs P3 e_ (by have := ZZ.out; omega)
 have P2 := kps P2 e_
 have ZZ := Aside0.mk (And.intro ZZ.out (kzs e_))
 clear e_
 refine Aside0.mk ?_
 iterate 12 (try go_step)
 refine bodyPost_ret (results_cell_row rfl _ _ w.heap.size 31 #[.int .i64 t0, .int .i64 n1, .int .i64 m2, .string tx, .int .i64 m4, .int .i64 m5] (0, 0) _ rfl P2.out hu31 rfl (by kernel_rfl)) rfl ?_
 exact ⟨t0, n1, m2, tx, m4, m5, rfl, I.out.more (by omega)⟩
end Go.Proofs.Ytbjdnfgalopfiaa.PD
