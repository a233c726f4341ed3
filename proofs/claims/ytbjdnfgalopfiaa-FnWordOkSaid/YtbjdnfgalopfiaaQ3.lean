/- What (*l71Sim).ask draws. -/
import Derived.Test.YtbjdnfgalopfiaaQ2
import Derived.Deep.Cut
namespace Go.Proofs.Ytbjdnfgalopfiaa.PD
open Go.RowKit Go.Proofs.YtbjdnfgalopfiaaW.PrintWords Go.Proofs.YtbjdnfgalopfiaaW.PrintLast Go.Proofs.YtbjdnfgalopfiaaW.PrintMore Go.Proofs.Ytbjdnfgalopfiaa.PB
attribute [local go_sem] max2_int min2_int max_two min_two max_three min_three max_four min_four
set_option linter.unusedVariables false
set_option linter.unusedSimpArgs false
set_option maxHeartbeats 8000000 in
set_option maxRecDepth 100000 in
theorem askW (w0 w : World) (g : Nat) (b : List Int) (m : Int) (gs : Nat) (hs : w.cell? ⟨gs, 0, none⟩ = some (.pointer (some ⟨g, 0, none⟩))) (hn : gs ≠ g) (h : RdS w0 w w g b m) (hm : m ≤ 300) :
 Calls Try.prog 65 #[.pointer (some ⟨gs, 0, none⟩)] w fun e w' => ∃ (m2 : Int) (tx : ByteArray) (m4 m5 : Int), e = .returned (.agg #[.int .i64 0, .int .i64 0, .int .i64 m2, .string tx, .int .i64 m4, .int .i64 m5]) ∧ tx.size ≤ 3000 ∧ RdS w0 w w' g b (m + 30) := by
 have hu31 := Try.underlying31
 have hu33 := Try.underlying33
 have HM := Aside0.mk hm
 have I := Aside0.mk h
 clear h hm
 have ZZ := Aside0.mk (Nat.le_refl w.heap.size)
 have hu106 := Try.underlying106
 have HS := Aside0.mk hs
 have HN := Aside0.mk hn
 clear hs hn
 have hb := below_alloc (Below.refl w.heap.size w) (.cells #[.int .i64 0, .int .i64 0, .int .i64 0, .string ⟨#[]⟩, .int .i64 0, .int .i64 0] 31 (0, 0))
 have ZZ := Aside0.mk (And.intro ZZ.out ((hb).size))
 have I := Aside0.mk (I.out.below (hb))
 clear hb
 have P2 := Aside0.mk (blk_new w (.cells #[.int .i64 0, .int .i64 0, .int .i64 0, .string ⟨#[]⟩, .int .i64 0, .int .i64 0] 31 (0, 0)))
 have ZZ := Aside0.mk (And.intro ZZ.out (blk_lt P2.out))
 have hs_ := I.out.cell HS.out HN.out
 go_enter Try.func65, Try.ntmps65
 go_wp2_with (fail)
 clear hs_
 generalize w.alloc (.cells #[.int .i64 0, .int .i64 0, .int .i64 0, .string ⟨#[]⟩, .int .i64 0, .int .i64 0] 31 (0, 0)) = W1 at ZZ P2 I ⊢
 refine (I.out.pick 9 (by have := HM.out; omega) (by decide) (by decide)).mono ?_
 rintro e W2 ⟨t, ht0_, ht1_, rfl, hi, hk⟩
 have Tt := Aside0.mk (And.intro ht0_ ht1_)
 clear ht0_ ht1_
 have ZZ := Aside0.mk (And.intro ZZ.out (hk.1))
 have P2 := Aside0.mk (I.out.blk hk P2.out (by decide))
 have I := Aside0.mk hi
 clear hi hk
 by_cases c0_ : t = 0
 ·have c0t : (t == 0) = true := beq_iff_eq.mpr c0_
  clear c0_
  go_wp2_with (fail)
  have P2 := kbd P2
  have I := Aside0.mk I.out.drew
  have ZZ := Aside0.mk (And.intro ZZ.out (show W2.heap.size ≤ (W2.drew).heap.size from Nat.le_refl _))
  have HSS := (show (W2.drew).cell? ⟨gs, 0, none⟩ = some (.pointer (some ⟨g, 0, none⟩)) ∧ True from ⟨I.out.cell HS.out HN.out, trivial⟩)
  refine start_ (n := 12) (S := fun w' => w'.cell? ⟨gs, 0, none⟩ = some (.pointer (some ⟨g, 0, none⟩)) ∧ True) (ds := []) (bt_ 12 0) (by kernel_rfl) rfl rfl HSS (fun hHeld => ?_)
  clear HSS
  generalize W2.drew = W3 at P2 I ZZ hHeld ⊢
  refine pu_ 0 (some 11) (bt_ 12 1) (by kernel_rfl) ?_
  refine pu_ 1 (some 12) (bt_ 12 3) (by kernel_rfl) ?_
  refine pu_ 2 (some 13) (bt_ 12 7) (by kernel_rfl) ?_
  refine tk_ 3 (some 14) (bt_ 12 15) (by kernel_rfl) hHeld ?_
  refine pu_ 5 (some 16) (bt_ 12 47) (by kernel_rfl) ?_
  refine pu_ 6 (some 17) (bt_ 12 111) (by kernel_rfl) ?_
  refine pu_ 7 (some 18) (bt_ 12 239) (by kernel_rfl) ?_
  refine tk_ 8 (some 19) (bt_ 12 495) (by kernel_rfl) hHeld ?_
  clear hHeld
  refine one_ (i := 4) (N := some 15) (bt_ 12 511) rfl rfl (by kernel_rfl) (by decide) (fun K hK => ?_)
  refine goes_ Try.func58 (by kernel_rfl) rfl #[.pointer (some ⟨g, 0, none⟩), .int .i64 3] (by rfl) rfl rfl (by simp only [List.map_toArray, List.map_cons, List.map_nil]; rfl) ?_
  refine (I.out.pick 3 (by have := HM.out; omega) (by decide) (by decide)).mono ?_
  rintro e W4 ⟨u, ht0_, ht1_, rfl, hi, hk⟩
  refine ⟨_, rfl, ?_⟩
  have Tu := Aside0.mk (And.intro ht0_ ht1_)
  clear ht0_ ht1_
  have ZZ := Aside0.mk (And.intro ZZ.out (hk.1))
  have P2 := Aside0.mk (I.out.blk hk P2.out (by decide))
  have I := Aside0.mk hi
  clear hi hk
  refine hK.out _ _ ⟨I.out.cell HS.out HN.out, trivial⟩ (fun hHeld => ?_)
  clear hK K
  refine norm_ (a' := ?_) ?_ ?_
  rotate_left
  ·show Act.put _ (some 15) _ = _
   simp only [Act.put, List.setIfInBounds_toArray, List.set_cons_zero, List.set_cons_succ, i64_w, i32_w]
   rfl
  clear hHeld
  refine one_ (i := 9) (N := some 20) (bt_ 12 1023) rfl rfl (by kernel_rfl) (by decide) (fun K hK => ?_)
  refine goes_ Try.func58 (by kernel_rfl) rfl #[.pointer (some ⟨g, 0, none⟩), .int .i64 3] (by rfl) rfl rfl (by simp only [List.map_toArray, List.map_cons, List.map_nil]; rfl) ?_
  refine (I.out.pick 3 (by have := HM.out; omega) (by decide) (by decide)).mono ?_
  rintro e W5 ⟨v, ht0_, ht1_, rfl, hi, hk⟩
  refine ⟨_, rfl, ?_⟩
  have Tv := Aside0.mk (And.intro ht0_ ht1_)
  clear ht0_ ht1_
  have ZZ := Aside0.mk (And.intro ZZ.out (hk.1))
  have P2 := Aside0.mk (I.out.blk hk P2.out (by decide))
  have I := Aside0.mk hi
  clear hi hk
  refine hK.out _ _ ⟨I.out.cell HS.out HN.out, trivial⟩ (fun hHeld => ?_)
  clear hK K
  refine norm_ (a' := ?_) ?_ ?_
  rotate_left
  ·show Act.put _ (some 20) _ = _
   simp only [Act.put, List.setIfInBounds_toArray, List.set_cons_zero, List.set_cons_succ, i64_w, i32_w]
   rfl
  clear hHeld
  refine pu_ 10 (some 21) (bt_ 12 2047) (by kernel_rfl) ?_
  refine one_ (i := 11) (N := none) (bt_ 12 4095) rfl rfl (by kernel_rfl) (by decide) (fun K hK => ?_)
  refine st_ rfl 31 (.tmp 2) (.tmp 21) rfl w.heap.size #[.int .i64 0, .int .i64 0, .int .i64 2, .string ⟨#[]⟩, .int .i64 u, .int .i64 v] rfl rfl 31 #[.int .i64 0, .int .i64 0, .int .i64 0, .string ⟨#[]⟩, .int .i64 0, .int .i64 0] P2.out (by kernel_rfl) rfl (by simp [Value.oneCell']) ?_
  obtain ⟨W6, e_⟩ : ∃ X, X = W5.setRow w.heap.size #[.int .i64 0, .int .i64 0, .int .i64 2, .string ⟨#[]⟩, .int .i64 u, .int .i64 v] := ⟨_, rfl⟩
  rw [← e_]
  have I := Aside0.mk (show RdS w0 w W6 g b _ from e_ ▸ I.out.row P2.out (by decide) (by have := ZZ.out; omega) #[.int .i64 0, .int .i64 0, .int .i64 2, .string ⟨#[]⟩, .int .i64 u, .int .i64 v])
  have P2 := kps P2 e_
  have ZZ := Aside0.mk (And.intro ZZ.out (kzs e_))
  clear e_
  refine hK.out _ _ ⟨I.out.cell HS.out HN.out, trivial⟩ (fun hHeld => ?_)
  clear hK K
  refine norm_ (a' := ?_) ?_ ?_
  rotate_left
  ·show Act.put _ none _ = _
   simp only [Act.put, List.setIfInBounds_toArray, List.set_cons_zero, List.set_cons_succ, i64_w, i32_w]
   rfl
  clear hHeld
  refine done_ (by kernel_rfl) ?_
  go_wp2_with (fail)
  refine bodyPost_ret (results_cell_row rfl _ _ w.heap.size 31 #[.int .i64 0, .int .i64 0, .int .i64 2, .string ⟨#[]⟩, .int .i64 u, .int .i64 v] (0, 0) _ rfl P2.out hu31 rfl (by kernel_rfl)) rfl ?_
  exact ⟨2, ⟨#[]⟩, u, v, rfl, by decide, I.out.more (by omega)⟩
 have c0f : (t == 0) = false := beq_eq_false_iff_ne.mpr c0_
 clear c0_
 by_cases c1_ : t = 1
 ·have c1t : (t == 1) = true := beq_iff_eq.mpr c1_
  clear c1_
  go_wp2_with (fail)
  have P2 := kbd P2
  have I := Aside0.mk I.out.drew
  have ZZ := Aside0.mk (And.intro ZZ.out (show W2.heap.size ≤ (W2.drew).heap.size from Nat.le_refl _))
  have HSS := (show (W2.drew).cell? ⟨gs, 0, none⟩ = some (.pointer (some ⟨g, 0, none⟩)) ∧ True from ⟨I.out.cell HS.out HN.out, trivial⟩)
  refine start_ (n := 12) (S := fun w' => w'.cell? ⟨gs, 0, none⟩ = some (.pointer (some ⟨g, 0, none⟩)) ∧ True) (ds := []) (bt_ 12 0) (by kernel_rfl) rfl rfl HSS (fun hHeld => ?_)
  clear HSS
  generalize W2.drew = W7 at P2 I ZZ hHeld ⊢
  refine pu_ 0 (some 11) (bt_ 12 1) (by kernel_rfl) ?_
  refine pu_ 1 (some 12) (bt_ 12 3) (by kernel_rfl) ?_
  refine pu_ 2 (some 13) (bt_ 12 7) (by kernel_rfl) ?_
  refine tk_ 3 (some 14) (bt_ 12 15) (by kernel_rfl) hHeld ?_
  refine pu_ 5 (some 16) (bt_ 12 47) (by kernel_rfl) ?_
  refine pu_ 6 (some 17) (bt_ 12 111) (by kernel_rfl) ?_
  refine pu_ 7 (some 18) (bt_ 12 239) (by kernel_rfl) ?_
  refine tk_ 8 (some 19) (bt_ 12 495) (by kernel_rfl) hHeld ?_
  clear hHeld
  refine one_ (i := 4) (N := some 15) (bt_ 12 511) rfl rfl (by kernel_rfl) (by decide) (fun K hK => ?_)
  refine goes_ Try.func58 (by kernel_rfl) rfl #[.pointer (some ⟨g, 0, none⟩), .int .i64 3] (by rfl) rfl rfl (by simp only [List.map_toArray, List.map_cons, List.map_nil]; rfl) ?_
  refine (I.out.pick 3 (by have := HM.out; omega) (by decide) (by decide)).mono ?_
  rintro e W8 ⟨u, ht0_, ht1_, rfl, hi, hk⟩
  refine ⟨_, rfl, ?_⟩
  have Tu := Aside0.mk (And.intro ht0_ ht1_)
  clear ht0_ ht1_
  have ZZ := Aside0.mk (And.intro ZZ.out (hk.1))
  have P2 := Aside0.mk (I.out.blk hk P2.out (by decide))
  have I := Aside0.mk hi
  clear hi hk
  refine hK.out _ _ ⟨I.out.cell HS.out HN.out, trivial⟩ (fun hHeld => ?_)
  clear hK K
  refine norm_ (a' := ?_) ?_ ?_
  rotate_left
  ·show Act.put _ (some 15) _ = _
   simp only [Act.put, List.setIfInBounds_toArray, List.set_cons_zero, List.set_cons_succ, i64_w, i32_w]
   rfl
  clear hHeld
  refine one_ (i := 9) (N := some 20) (bt_ 12 1023) rfl rfl (by kernel_rfl) (by decide) (fun K hK => ?_)
  refine goes_ Try.func58 (by kernel_rfl) rfl #[.pointer (some ⟨g, 0, none⟩), .int .i64 3] (by rfl) rfl rfl (by simp only [List.map_toArray, List.map_cons, List.map_nil]; rfl) ?_
  refine (I.out.pick 3 (by have := HM.out; omega) (by decide) (by decide)).mono ?_
  rintro e W9 ⟨v, ht0_, ht1_, rfl, hi, hk⟩
  refine ⟨_, rfl, ?_⟩
  have Tv := Aside0.mk (And.intro ht0_ ht1_)
  clear ht0_ ht1_
  have ZZ := Aside0.mk (And.intro ZZ.out (hk.1))
  have P2 := Aside0.mk (I.out.blk hk P2.out (by decide))
  have I := Aside0.mk hi
  clear hi hk
  refine hK.out _ _ ⟨I.out.cell HS.out HN.out, trivial⟩ (fun hHeld => ?_)
  clear hK K
  refine norm_ (a' := ?_) ?_ ?_
  rotate_left
  ·show Act.put _ (some 20) _ = _
   simp only [Act.put, List.setIfInBounds_toArray, List.set_cons_zero, List.set_cons_succ, i64_w, i32_w]
   rfl
  clear hHeld
  refine pu_ 10 (some 21) (bt_ 12 2047) (by kernel_rfl) ?_
  refine one_ (i := 11) (N := none) (bt_ 12 4095) rfl rfl (by kernel_rfl) (by decide) (fun K hK => ?_)
  refine st_ rfl 31 (.tmp 2) (.tmp 21) rfl w.heap.size #[.int .i64 0, .int .i64 0, .int .i64 2, .string ⟨#[]⟩, .int .i64 u, .int .i64 v] rfl rfl 31 #[.int .i64 0, .int .i64 0, .int .i64 0, .string ⟨#[]⟩, .int .i64 0, .int .i64 0] P2.out (by kernel_rfl) rfl (by simp [Value.oneCell']) ?_
  obtain ⟨W10, e_⟩ : ∃ X, X = W9.setRow w.heap.size #[.int .i64 0, .int .i64 0, .int .i64 2, .string ⟨#[]⟩, .int .i64 u, .int .i64 v] := ⟨_, rfl⟩
  rw [← e_]
  have I := Aside0.mk (show RdS w0 w W10 g b _ from e_ ▸ I.out.row P2.out (by decide) (by have := ZZ.out; omega) #[.int .i64 0, .int .i64 0, .int .i64 2, .string ⟨#[]⟩, .int .i64 u, .int .i64 v])
  have P2 := kps P2 e_
  have ZZ := Aside0.mk (And.intro ZZ.out (kzs e_))
  clear e_
  refine hK.out _ _ ⟨I.out.cell HS.out HN.out, trivial⟩ (fun hHeld => ?_)
  clear hK K
  refine norm_ (a' := ?_) ?_ ?_
  rotate_left
  ·show Act.put _ none _ = _
   simp only [Act.put, List.setIfInBounds_toArray, List.set_cons_zero, List.set_cons_succ, i64_w, i32_w]
   rfl
  clear hHeld
  refine done_ (by kernel_rfl) ?_
  go_wp2_with (fail)
  refine bodyPost_ret (results_cell_row rfl _ _ w.heap.size 31 #[.int .i64 0, .int .i64 0, .int .i64 2, .string ⟨#[]⟩, .int .i64 u, .int .i64 v] (0, 0) _ rfl P2.out hu31 rfl (by kernel_rfl)) rfl ?_
  exact ⟨2, ⟨#[]⟩, u, v, rfl, by decide, I.out.more (by omega)⟩
 have c1f : (t == 1) = false := beq_eq_false_iff_ne.mpr c1_
 clear c1_
 by_cases c2_ : t = 2
 ·have c2t : (t == 2) = true := beq_iff_eq.mpr c2_
  clear c2_
  have hs_ := I.out.cell HS.out HN.out
  go_wp2_with (fail)
  clear hs_
  refine (I.out.pick 5 (by have := HM.out; omega) (by decide) (by decide)).mono ?_
  rintro e W11 ⟨u, ht0_, ht1_, rfl, hi, hk⟩
  have Tu := Aside0.mk (And.intro ht0_ ht1_)
  clear ht0_ ht1_
  have ZZ := Aside0.mk (And.intro ZZ.out (hk.1))
  have P2 := Aside0.mk (I.out.blk hk P2.out (by decide))
  have I := Aside0.mk hi
  clear hi hk
  by_cases cu_ : u = 0
  ·have cut : (u == 0) = true := beq_iff_eq.mpr cu_
   clear cu_
   go_wp2_with (((with_reducible refine gate_store (t := 31) (p := 2) rfl ?_); refine wpList_store_row rfl 31 (.tmp 2) (.tmp 30) rfl w.heap.size #[.int .i64 0, .int .i64 0, .int .i64 1, .string ⟨#[119, 104, 97, 116]⟩, .int .i64 0, .int .i64 0] rfl rfl 31 #[.int .i64 0, .int .i64 0, .int .i64 0, .string ⟨#[]⟩, .int .i64 0, .int .i64 0] P2.out (by kernel_rfl) rfl (by simp [Value.oneCell']) ?_; refine Aside0.out ?_))
   obtain ⟨W12, e_⟩ : ∃ X, X = W11.setRow w.heap.size #[.int .i64 0, .int .i64 0, .int .i64 1, .string ⟨#[119, 104, 97, 116]⟩, .int .i64 0, .int .i64 0] := ⟨_, rfl⟩
   rw [← e_]
   have I := Aside0.mk (show RdS w0 w W12 g b _ from e_ ▸ I.out.row P2.out (by decide) (by have := ZZ.out; omega) #[.int .i64 0, .int .i64 0, .int .i64 1, .string ⟨#[119, 104, 97, 116]⟩, .int .i64 0, .int .i64 0])
   have P2 := kps P2 e_
   have ZZ := Aside0.mk (And.intro ZZ.out (kzs e_))
   clear e_
   refine Aside0.mk ?_
   iterate 12 (try go_step)
   refine bodyPost_ret (results_cell_row rfl _ _ w.heap.size 31 #[.int .i64 0, .int .i64 0, .int .i64 1, .string ⟨#[119, 104, 97, 116]⟩, .int .i64 0, .int .i64 0] (0, 0) _ rfl P2.out hu31 rfl (by kernel_rfl)) rfl ?_
   exact ⟨1, ⟨#[119, 104, 97, 116]⟩, 0, 0, rfl, by decide, I.out.more (by omega)⟩
  ·have cuf : (u == 0) = false := beq_eq_false_iff_ne.mpr cu_
   clear cu_
   have hs_ := I.out.cell HS.out HN.out
   go_wp2_with (fail)
   clear hs_
   refine (dealR I.out (by have := HM.out; omega) (I.out.cell HS.out HN.out) HN.out).mono ?_
   rintro e W13 ⟨A, c, z, rfl, hl, hc, hz, hi, hk⟩
   have HC := Aside0.mk hc
   have HL := Aside0.mk hl
   have HZ := Aside0.mk hz
   clear hl hc hz
   have ZZ := Aside0.mk (And.intro ZZ.out (hk.1))
   have P2 := Aside0.mk (I.out.blk hk P2.out (by decide))
   have I := Aside0.mk hi
   clear hi hk
   go_wp2_with (fail)
   refine (writeW A c z W13 HC.out HL.out (by have := HZ.out; omega)).mono ?_
   rintro e W14 ⟨r, rfl, hr, hb⟩
   have HR := Aside0.mk hr
   clear hr
   have ZZ := Aside0.mk (And.intro ZZ.out ((hb).size))
   have P2 := kb P2 (hb)
   have I := Aside0.mk (I.out.below (hb))
   clear hb
   go_wp2_with (((with_reducible refine gate_store (t := 31) (p := 2) rfl ?_); refine wpList_store_row rfl 31 (.tmp 2) (.tmp 34) rfl w.heap.size #[.int .i64 0, .int .i64 0, .int .i64 1, .string r, .int .i64 0, .int .i64 0] rfl rfl 31 #[.int .i64 0, .int .i64 0, .int .i64 0, .string ⟨#[]⟩, .int .i64 0, .int .i64 0] P2.out (by kernel_rfl) rfl (by simp [Value.oneCell']) ?_; refine Aside0.out ?_))
   obtain ⟨W15, e_⟩ : ∃ X, X = W14.setRow w.heap.size #[.int .i64 0, .int .i64 0, .int .i64 1, .string r, .int .i64 0, .int .i64 0] := ⟨_, rfl⟩
   rw [← e_]
   have I := Aside0.mk (show RdS w0 w W15 g b _ from e_ ▸ I.out.row P2.out (by decide) (by have := ZZ.out; omega) #[.int .i64 0, .int .i64 0, .int .i64 1, .string r, .int .i64 0, .int .i64 0])
   have P2 := kps P2 e_
   have ZZ := Aside0.mk (And.intro ZZ.out (kzs e_))
   clear e_
   refine Aside0.mk ?_
   iterate 12 (try go_step)
   refine bodyPost_ret (results_cell_row rfl _ _ w.heap.size 31 #[.int .i64 0, .int .i64 0, .int .i64 1, .string r, .int .i64 0, .int .i64 0] (0, 0) _ rfl P2.out hu31 rfl (by kernel_rfl)) rfl ?_
   exact ⟨1, r, 0, 0, rfl, HR.out, I.out.more (by omega)⟩
 ·have c2f : (t == 2) = false := beq_eq_false_iff_ne.mpr c2_
  clear c2_
  have hs_ := I.out.cell HS.out HN.out
  go_wp2_with (fail)
  clear hs_
  refine (dealR I.out (by have := HM.out; omega) (I.out.cell HS.out HN.out) HN.out).mono ?_
  rintro e W16 ⟨A, c, z, rfl, hl, hc, hz, hi, hk⟩
  have HC := Aside0.mk hc
  have HL := Aside0.mk hl
  have HZ := Aside0.mk hz
  clear hl hc hz
  have ZZ := Aside0.mk (And.intro ZZ.out (hk.1))
  have P2 := Aside0.mk (I.out.blk hk P2.out (by decide))
  have I := Aside0.mk hi
  clear hi hk
  go_wp2_with (fail)
  refine (writeW A c z W16 HC.out HL.out (by have := HZ.out; omega)).mono ?_
  rintro e W17 ⟨r, rfl, hr, hb⟩
  have HR := Aside0.mk hr
  clear hr
  have ZZ := Aside0.mk (And.intro ZZ.out ((hb).size))
  have P2 := kb P2 (hb)
  have I := Aside0.mk (I.out.below (hb))
  clear hb
  go_wp2_with (((with_reducible refine gate_store (t := 31) (p := 2) rfl ?_); refine wpList_store_row rfl 31 (.tmp 2) (.tmp 34) rfl w.heap.size #[.int .i64 0, .int .i64 0, .int .i64 1, .string r, .int .i64 0, .int .i64 0] rfl rfl 31 #[.int .i64 0, .int .i64 0, .int .i64 0, .string ⟨#[]⟩, .int .i64 0, .int .i64 0] P2.out (by kernel_rfl) rfl (by simp [Value.oneCell']) ?_; refine Aside0.out ?_))
  obtain ⟨W18, e_⟩ : ∃ X, X = W17.setRow w.heap.size #[.int .i64 0, .int .i64 0, .int .i64 1, .string r, .int .i64 0, .int .i64 0] := ⟨_, rfl⟩
  rw [← e_]
  have I := Aside0.mk (show RdS w0 w W18 g b _ from e_ ▸ I.out.row P2.out (by decide) (by have := ZZ.out; omega) #[.int .i64 0, .int .i64 0, .int .i64 1, .string r, .int .i64 0, .int .i64 0])
  have P2 := kps P2 e_
  have ZZ := Aside0.mk (And.intro ZZ.out (kzs e_))
  clear e_
  refine Aside0.mk ?_
  iterate 12 (try go_step)
  refine bodyPost_ret (results_cell_row rfl _ _ w.heap.size 31 #[.int .i64 0, .int .i64 0, .int .i64 1, .string r, .int .i64 0, .int .i64 0] (0, 0) _ rfl P2.out hu31 rfl (by kernel_rfl)) rfl ?_
  exact ⟨1, r, 0, 0, rfl, HR.out, I.out.more (by omega)⟩
end Go.Proofs.Ytbjdnfgalopfiaa.PD
