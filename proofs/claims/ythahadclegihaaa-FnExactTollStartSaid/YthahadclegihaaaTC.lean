/- impl.TollStart. -/
import Derived.Test.YthahadclegihaaaTA
import Derived.Test.YthahadclegihaaaTB
import Derived.Deep.Cut
namespace Go.Proofs.Ythahadclegihaaa.PX
open Go.RowKit Go.Proofs.YthahadclegihaaaW.PrintWords Go.Proofs.YthahadclegihaaaW.PrintLast Go.Proofs.YthahadclegihaaaW.PrintMore
attribute [local go_sem] max2_int min2_int max_two min_two max_three min_three max_four min_four
set_option linter.unusedVariables false
set_option linter.unusedSimpArgs false
set_option maxHeartbeats 8000000 in
set_option maxRecDepth 100000 in
theorem toll12 (w : World) : Calls Try.prog 12 #[] w fun e w' => ∃ A c h I, e = .returned (.agg #[.int .i64 0, .bool true, .int .i64 1, .int .i64 1, .slice none 0 0, .slice none 0 0, .slice none 0 0, .slice A 3 c, .slice none 0 0, .slice none 0 0]) ∧ HS w.heap.size w' 3 (.slice A 3 c) h I ∧ Below w.heap.size w w' := by
 have hu40 := Try.underlying40
 have HB := Aside0.mk (Below.refl w.heap.size w)
 go_enter Try.func12, Try.ntmps12
 go_wp2_with (((with_reducible refine gate_dst (N := 0) rfl ?_); (refine box_event ?hg (N := 0) ?hd (cs := #[.int .i64 0, .bool false, .int .i64 0, .int .i64 0, .slice none 0 0, .slice none 0 0, .slice none 0 0, .slice none 0 0, .slice none 0 0, .slice none 0 0]) (t := 40) ?hr ?_; (case hd => rfl); (case hg => rfl); (case hr => first | (go_simp; done) | (go_simp; rfl)); intro b0 hb5 W1 hbox hA; have HA := Aside0.mk hA; have P0 := Aside0.mk hbox; have HB5 := Aside0.mk hb5; clear hA hbox hb5)))
 have LB0 := Aside0.mk (show w.heap.size ≤ b0 by have := HB5.out; omega)
 have HB := Aside0.mk (below_step HB.out HA.out)
 clear HA HB5
 refine (gate17 W1).mono ?_
 rintro e W2 ⟨rfl, hb⟩
 have P0 := kb P0 (hb)
 have HB := Aside0.mk (below_step HB.out (hb))
 clear hb
 go_wp2_with (first | ((with_reducible refine gate_dst (N := 1) rfl ?_); (refine box_event ?hg (N := 1) ?hd (cs := #[.int .i64 0, .bool false, .int .i64 0, .int .i64 0, .slice none 0 0, .slice none 0 0, .slice none 0 0, .slice none 0 0, .slice none 0 0, .slice none 0 0]) (t := 40) ?hr ?_; (case hd => rfl); (case hg => rfl); (case hr => first | (go_simp; done) | (go_simp; rfl)); intro b1 hb5 W3 hbox hA; have HA := Aside0.mk hA; have P1 := Aside0.mk hbox; have HB5 := Aside0.mk hb5; clear hA hbox hb5)) | ((with_reducible refine gate_store (t := 40) (p := 1) rfl ?_); (refine wpList_store_row rfl 40 (.tmp 1) (.tmp 4) rfl b1 #[.int .i64 0, .bool true, .int .i64 1, .int .i64 1, .slice none 0 0, .slice none 0 0, .slice none 0 0, .slice none 0 0, .slice none 0 0, .slice none 0 0] rfl rfl 40 #[.int .i64 0, .bool false, .int .i64 0, .int .i64 0, .slice none 0 0, .slice none 0 0, .slice none 0 0, .slice none 0 0, .slice none 0 0, .slice none 0 0] P1.out (by kernel_rfl) rfl (by simp [Value.oneCell']) ?_; replace HA : Aside0 (Below W2.heap.size W2 (W3.setRow b1 #[.int .i64 0, .bool true, .int .i64 1, .int .i64 1, .slice none 0 0, .slice none 0 0, .slice none 0 0, .slice none 0 0, .slice none 0 0, .slice none 0 0])) := ⟨HA.out.trans ⟨rfl, rfl, rfl, by simp, fun k hk => setRow_other _ _ _ _ (by have := HB5.out; omega)⟩⟩; replace P1 := Aside0.mk (setRow_heap W3 b1 _ #[.int .i64 0, .bool true, .int .i64 1, .int .i64 1, .slice none 0 0, .slice none 0 0, .slice none 0 0, .slice none 0 0, .slice none 0 0, .slice none 0 0] 40 (0, 0) P1.out); generalize W3.setRow b1 #[.int .i64 0, .bool true, .int .i64 1, .int .i64 1, .slice none 0 0, .slice none 0 0, .slice none 0 0, .slice none 0 0, .slice none 0 0, .slice none 0 0] = W4 at HA P1 ⊢)))
 have LB1 := Aside0.mk (show w.heap.size ≤ b1 by have := HB5.out; have := HB.out.size; omega)
 have NE := Aside0.mk (show b0 ≠ b1 by have := HB5.out; have := blk_lt P0.out; omega)
 have hb := HA.out
 clear HA HB5
 have P0 := kb P0 (hb)
 have HB := Aside0.mk (below_step HB.out (hb))
 clear hb
 go_loopw [5] (fun i wr => ∃ (k : Nat) (A : Option Addr) (c : Nat) (h : Nat → HV) (I : Nat → Nat → Prop), i = .int .i64 (k : Int) ∧ Aside0 (k ≤ 3) ∧ Aside0 (HS w.heap.size wr k (.slice A k c) h I) ∧ Aside0 (wr.heap[b0]? = some (.cells #[.int .i64 0, .bool false, .int .i64 0, .int .i64 0, .slice none 0 0, .slice none 0 0, .slice none 0 0, .slice none 0 0, .slice none 0 0, .slice none 0 0] 40 (0, 0))) ∧ Aside0 (wr.heap[b1]? = some (.cells #[.int .i64 0, .bool true, .int .i64 1, .int .i64 1, .slice none 0 0, .slice none 0 0, .slice none 0 0, .slice A k c, .slice none 0 0, .slice none 0 0] 40 (0, 0))) ∧ Aside0 (Below w.heap.size w wr)) (fun i _ => 3 - (intOf i).toNat)
 case atStart => exact ⟨0, none, 0, fun _ => ⟨none, 0, none, 0, none, 0⟩, fun _ _ => False, rfl, ⟨Nat.zero_le _⟩, ⟨HS.nil _ _ _ _⟩, P0, P1, HB⟩
 case round =>
  clear HB P0 P1
  obtain ⟨k, A, c, h, I, rfl, HK0, HS_, P0, P1, HB⟩ := hrel
  obtain ⟨WR, e_⟩ : ∃ X, X = wr := ⟨_, rfl⟩
  subst e_
  by_cases hlt : k < 3
  ·have hdl : decide ((k : Int) < 3) = true := decide_eq_true (by omega)
   have hwk : wrap64 ((k : Int) + 1) = (k : Int) + 1 := by unfold wrap64; omega
   go_wp2_with (fail)
   have P0 := kbd P0
   have P1 := kbd P1
   have HS_ := Aside0.mk (HS.below HS_.out (below_drew (Below.refl _ _)))
   have HB := Aside0.mk (below_drew1 HB.out)
   have HSS := (show (WR.drew).cell? ⟨b1, 7, none⟩ = some (.slice A k c) ∧ True from ⟨(blk_cell P1.out 7).trans rfl, trivial⟩)
   refine start_ (n := 8) (S := fun w' => w'.cell? ⟨b1, 7, none⟩ = some (.slice A k c) ∧ True) (ds := [7]) (bt_ 8 0) (by kernel_rfl) rfl rfl HSS (fun hHeld => ?_)
   clear HSS
   generalize WR.drew = W5 at P0 P1 HS_ HB hHeld ⊢
   refine pu_ 0 (some 8) (bt_ 8 1) (by kernel_rfl) ?_
   refine tk_ 1 (some 9) (bt_ 8 3) (by kernel_rfl) hHeld ?_
   clear hHeld
   refine pu_ 2 (some 10) (bt_ 8 7) (by kernel_rfl) ?_
   refine one_ (i := 3) (N := some 11) (bt_ 8 15) rfl rfl (by kernel_rfl) (by decide) (fun K hK => ?_)
   refine goes_ Try.func7 (by kernel_rfl) rfl #[.int .i64 (k : Int)] (by rfl) rfl rfl (by simp only [List.map_toArray, List.map_cons, List.map_nil]; rfl) ?_
   refine (house7 k hlt W5).mono ?_
   rintro e W6 ⟨A2, c2, A4, c4, A5, c5, rfl, hl, hb⟩
   refine ⟨_, rfl, ?_⟩
   obtain ⟨lo, hlo⟩ : ∃ n, n = W5.heap.size := ⟨_, rfl⟩
   obtain ⟨hi, hhi⟩ : ∃ n, n = W6.heap.size := ⟨_, rfl⟩
   have LK := Aside0.mk (show Kd.S k70 70 W6 w.heap.size (fun k => lo ≤ k ∧ k < hi) (.slice A4 8 c4) (lmarks 0 8) from Kd.S_lower (Kd.S_mono (Kd.S_bound hl) (fun k hk => ⟨by rw [hlo]; exact hk.2.1, by rw [hhi]; exact hk.2.2.1⟩)) HB.out.size)
   have HLO := Aside0.mk (show ∀ x q, x < k → I x q → q < lo from fun x q hx hq => by rw [hlo]; exact HS_.out.2.2.2 x q hx hq)
   have HVL := Aside0.mk (show ∀ q, (Value.slice A k c).ownBlock = some q → q < lo from fun q hq => by rw [hlo]; exact Kd.R_lt HS_.out.1 q hq)
   have HHI := Aside0.mk (show hi ≤ W6.heap.size from Nat.le_of_eq hhi)
   have HLH := Aside0.mk (show lo ≤ hi by rw [hlo, hhi]; exact hb.size)
   clear hl hlo hhi
   have P0 := kb P0 (hb)
   have P1 := kb P1 (hb)
   have HS_ := Aside0.mk (HS.below HS_.out (hb))
   have HB := Aside0.mk (below_step HB.out (hb))
   clear hb
   refine hK.out _ _ ⟨(blk_cell P1.out 7).trans rfl, trivial⟩ (fun hHeld => ?_)
   clear hK K
   refine norm_ (a' := ?_) ?_ ?_
   rotate_left
   ·show Act.put _ (some 11) _ = _
    simp only [Act.put, List.setIfInBounds_toArray, List.set_cons_zero, List.set_cons_succ, i64_w, i32_w]
    rfl
   clear hHeld
   refine one_ (i := 4) (N := some 12) (bt_ 8 31) rfl rfl (by kernel_rfl) (by decide) (fun K hK => ?_)
   refine event_step (v := .slice (some ⟨W6.heap.size, 0, none⟩) 1 1) (w1 := W6.alloc (.cells #[.int .i64 (k : Int), .bool true, .slice A2 0 c2, .int .i64 0, .slice A4 8 c4, .slice A5 0 c5] 26)) rfl (by first | (go_simp; done) | (go_simp; rfl)) ?_
   refine hK.out _ _ ⟨(blk_cell (blk_alloc P1.out _) 7).trans rfl, trivial⟩ (fun hHeld => ?_)
   clear hK K hHeld
   refine norm_ (a' := ?_) ?_ ?_
   rotate_left
   ·show Act.put _ (some 12) _ = _
    simp only [Act.put, List.setIfInBounds_toArray, List.set_cons_zero, List.set_cons_succ, i64_w, i32_w]
    rfl
   refine one_ (i := 5) (N := some 13) (bt_ 8 63) rfl rfl (by kernel_rfl) (by decide) (fun K hK => ?_)
   refine Kd.R_append_step (Kd.raw 6) (w0 := w) w.heap.size rfl (.tmp 9) (.tmp 12) 36 26 (.agg #[.int .i64 0, .bool false, .slice none 0 0, .int .i64 0, .slice none 0 0, .slice none 0 0]) 96 rfl Try.underlying36 info26 rfl (by decide) (by omega) (.slice A k c) (houses h k) [.int .i64 (k : Int), .bool true, .slice A2 0 c2, .int .i64 0, .slice A4 8 c4, .slice A5 0 c5] [.int .i64 (k : Int), .bool true, .slice A2 0 c2, .int .i64 0, .slice A4 8 c4, .slice A5 0 c5] (fun q => ∀ x, x < k + 1 → ¬ (if x = k then lo ≤ q ∧ q < hi else I x q)) (fun _ => False) rfl rfl ?aP (fun _ hk => hk.elim) ?aF ?aR HB.out HB.out.size (by rw [houses_len]; omega) ?_
   case aP => exact ⟨rfl, rfl, by intro u hu; simp only [List.mem_cons, List.not_mem_nil, or_false] at hu; rcases hu with rfl | rfl | rfl | rfl | rfl | rfl <;> rfl⟩
   case aF =>
    intro q hq x hx hn
    by_cases e : x = k
    ·rw [if_pos e] at hn
     have := HHI.out
     omega
    ·rw [if_neg e] at hn
     have := HLO.out x q (by omega) hn
     have := HHI.out
     have := HLH.out
     omega
   case aR =>
    refine Rown6 HS_.out.1 (fun q hq x hx hn => ?_)
    by_cases e : x = k
    ·rw [if_pos e] at hn
     have := HVL.out q hq
     omega
    ·rw [if_neg e] at hn
     exact HS_.out.1.1 q hq x (by omega) hn
   intro v1 W7 ho hb7 hg hat
   obtain ⟨An, cn, e0⟩ := Kd.R_slice ho
   subst e0
   have hlen : (houses h k ++ [([.int .i64 (k : Int), .bool true, .slice A2 0 c2, .int .i64 0, .slice A4 8 c4, .slice A5 0 c5] : List Value)]).length = k + 1 := by rw [List.length_append, houses_len]; rfl
   rw [hlen] at ho ⊢
   clear hlen hat
   have P0 := Aside0.mk ((hg.block b0 (blk_lt P0.out) (HS.ne HS_.out P0.out)).trans P0.out)
   have P1 := Aside0.mk ((hg.block b1 (blk_lt P1.out) (HS.ne HS_.out P1.out)).trans P1.out)
   have HS_ := Aside0.mk (HS.snoc (y := ⟨A2, c2, A4, c4, A5, c5⟩) HS_.out HLO.out HHI.out HVL.out LK.out ho hg)
   have HB := Aside0.mk hb7
   clear ho hb7 hg LK HLO HHI HVL HLH
   refine hK.out _ _ ⟨(blk_cell P1.out 7).trans rfl, trivial⟩ (fun hHeld => ?_)
   clear hK K
   refine norm_ (a' := ?_) ?_ ?_
   rotate_left
   ·show Act.put _ (some 13) _ = _
    simp only [Act.put, List.setIfInBounds_toArray, List.set_cons_zero, List.set_cons_succ, i64_w, i32_w]
    rfl
   clear hHeld
   refine pu_ 6 (some 14) (bt_ 8 127) (by kernel_rfl) ?_
   refine last_ (i := 7) (N := none) (bt_ 8 255) rfl rfl (by kernel_rfl) (by decide) (fun K hK => ?_)
   have hc0 := (blk_cell P1.out 0).trans (show _ = some (.int .i64 0) from rfl)
   have hcf0 := blk_frozen P1.out 0
   have hc1 := (blk_cell P1.out 1).trans (show _ = some (.bool true) from rfl)
   have hcf1 := blk_frozen P1.out 1
   have hc2 := (blk_cell P1.out 2).trans (show _ = some (.int .i64 1) from rfl)
   have hcf2 := blk_frozen P1.out 2
   have hc3 := (blk_cell P1.out 3).trans (show _ = some (.int .i64 1) from rfl)
   have hcf3 := blk_frozen P1.out 3
   have hc4 := (blk_cell P1.out 4).trans (show _ = some (.slice none 0 0) from rfl)
   have hcf4 := blk_frozen P1.out 4
   have hc5 := (blk_cell P1.out 5).trans (show _ = some (.slice none 0 0) from rfl)
   have hcf5 := blk_frozen P1.out 5
   have hc6 := (blk_cell P1.out 6).trans (show _ = some (.slice none 0 0) from rfl)
   have hcf6 := blk_frozen P1.out 6
   have hc7 := (blk_cell P1.out 7).trans (show _ = some (.slice A k c) from rfl)
   have hcf7 := blk_frozen P1.out 7
   have hc8 := (blk_cell P1.out 8).trans (show _ = some (.slice none 0 0) from rfl)
   have hcf8 := blk_frozen P1.out 8
   have hc9 := (blk_cell P1.out 9).trans (show _ = some (.slice none 0 0) from rfl)
   have hcf9 := blk_frozen P1.out 9
   refine skip_ (w1 := W7.setCell ⟨b1, 7, none⟩ (.slice An (k + 1) cn)) (by rfl) rfl (by first | (go_simp; done) | (go_simp; rfl)) ?_
   clear hc0 hcf0 hc1 hcf1 hc2 hcf2 hc3 hcf3 hc4 hcf4 hc5 hcf5 hc6 hcf6 hc7 hcf7 hc8 hcf8 hc9 hcf9
   have HS_ := Aside0.mk (HS.set (j := 7) (u := Value.slice An (k + 1) cn) HS_.out P1.out)
   have HB := Aside0.mk (below_set (g := b1) (j := 7) (v := Value.slice An (k + 1) cn) HB.out LB1.out)
   have P0 := Aside0.mk (blk_far (p := ⟨b1, 7, none⟩) P0.out (show b0 ≠ b1 from NE.out) (.slice An (k + 1) cn))
   have P1 := Aside0.mk (blk_put (cs' := #[.int .i64 0, .bool true, .int .i64 1, .int .i64 1, .slice none 0 0, .slice none 0 0, .slice none 0 0, .slice An (k + 1) cn, .slice none 0 0, .slice none 0 0]) P1.out 7 (.slice An (k + 1) cn) rfl)
   generalize W7.setCell ⟨b1, 7, none⟩ (.slice An (k + 1) cn) = W8 at P0 P1 HS_ HB ⊢
   refine hK.out _ _ ?_
   clear hK K
   refine done_ (by kernel_rfl) ?_
   go_wp2_with (fail)
   go_roundw
   case rel => exact ⟨k + 1, An, cn, _, _, (by first | rfl | exact congrArg (Value.int .i64) (by omega)), ⟨hlt⟩, HS_, P0, P1, HB⟩
   case measure =>
    (try rw [hwk])
    show 3 - ((k : Int) + 1).toNat < 3 - (k : Int).toNat
    omega
  ·have hdl : decide ((k : Int) < 3) = false := decide_eq_false (by omega)
   obtain rfl : k = 3 := by have := HK0.out; omega
   clear hlt
   go_wp2_with (first | ((with_reducible refine gate_dst (N := 16) rfl ?_); refine wpList_load_row rfl 40 (.tmp 1) rfl b1 rfl 40 #[.int .i64 0, .bool true, .int .i64 1, .int .i64 1, .slice none 0 0, .slice none 0 0, .slice none 0 0, .slice A 3 c, .slice none 0 0, .slice none 0 0] (0, 0) _ P1.out hu40 rfl (by kernel_rfl) ?_) | ((with_reducible refine gate_store (t := 40) (p := 0) rfl ?_); (refine wpList_store_row rfl 40 (.tmp 0) (.tmp 16) rfl b0 #[.int .i64 0, .bool true, .int .i64 1, .int .i64 1, .slice none 0 0, .slice none 0 0, .slice none 0 0, .slice A 3 c, .slice none 0 0, .slice none 0 0] rfl rfl 40 #[.int .i64 0, .bool false, .int .i64 0, .int .i64 0, .slice none 0 0, .slice none 0 0, .slice none 0 0, .slice none 0 0, .slice none 0 0, .slice none 0 0] P0.out (by kernel_rfl) rfl (by simp [Value.oneCell']) ?_; have HS2 := Aside0.mk (HS.row (cs' := #[.int .i64 0, .bool true, .int .i64 1, .int .i64 1, .slice none 0 0, .slice none 0 0, .slice none 0 0, .slice A 3 c, .slice none 0 0, .slice none 0 0]) HS_.out P0.out); have HB2 := Aside0.mk (below_setRow' HB.out LB0.out #[.int .i64 0, .bool true, .int .i64 1, .int .i64 1, .slice none 0 0, .slice none 0 0, .slice none 0 0, .slice A 3 c, .slice none 0 0, .slice none 0 0]); have P02 := Aside0.mk (setRow_heap WR b0 _ #[.int .i64 0, .bool true, .int .i64 1, .int .i64 1, .slice none 0 0, .slice none 0 0, .slice none 0 0, .slice A 3 c, .slice none 0 0, .slice none 0 0] 40 (0, 0) P0.out); generalize WR.setRow b0 #[.int .i64 0, .bool true, .int .i64 1, .int .i64 1, .slice none 0 0, .slice none 0 0, .slice none 0 0, .slice A 3 c, .slice none 0 0, .slice none 0 0] = W9 at HS2 HB2 P02 ⊢)))
   refine bodyPost_ret (results_cell_row rfl _ _ b0 40 #[.int .i64 0, .bool true, .int .i64 1, .int .i64 1, .slice none 0 0, .slice none 0 0, .slice none 0 0, .slice A 3 c, .slice none 0 0, .slice none 0 0] (0, 0) _ rfl P02.out Try.underlying40 rfl (by kernel_rfl)) rfl ?_
   exact ⟨A, c, h, I, rfl, HS2.out, HB2.out⟩
end Go.Proofs.Ythahadclegihaaa.PX
