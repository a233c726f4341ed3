-- Written by a program of this workplace (wip/xprint.py over the kit's print.py) out of the translation.
import Derived.Test.YtnpmepaiigbhlaaPXx0
import Derived.Test.YtnpmepaiigbhlaaPXx2
import Derived.Test.YtnpmepaiigbhlaaPXx5
import Derived.Test.YtnpmepaiigbhlaaPXx9
import Derived.Test.YtnpmepaiigbhlaaPXx12
namespace Go.Proofs.Ytnpmepaiigbhlaa.PX
open Go.RowKit Go.Proofs.YtnpmepaiigbhlaaW.PrintWords Go.Proofs.YtnpmepaiigbhlaaW.PrintLast Go.Proofs.YtnpmepaiigbhlaaW.PrintMore
attribute [local go_sem] max2_int min2_int max_two min_two max_three min_three max_four min_four   -- for this text's walks alone
set_option linter.unusedVariables false
set_option linter.unusedSimpArgs false

/-! ### impl_MapMove: function 30 -/
theorem isSlot_eq' (s : Int) : impl_isSlot.f s = some (decide (0 ≤ s ∧ s ≤ 7)) := by
  unfold impl_isSlot.f impl_within.f
  by_cases h : (0 : Int) ≤ s <;> simp [h]
theorem isHouse_eq (s : Int) : impl_isHouse.f s = some (decide (0 ≤ s ∧ s ≤ 2)) := by
  unfold impl_isHouse.f impl_within.f
  by_cases h : (0 : Int) ≤ s <;> simp [h]
theorem clone_blk (g n c t : Nat) (xs : List Int) (hc : n ≤ c) (hm : n < 17592186044416) (W : World) (hn : xs.length = n) (h : W.heap[g]? = some (.cells (xs.map (Value.int .i64)).toArray t (0, 0))) :
    Calls Try.prog 46 #[.slice (some ⟨g, 0, none⟩) n c] W fun e w' => ∃ (A : Option Addr) (c' : Nat), e = .returned (.slice A n c') ∧ Kd.R (Kd.int .i64) 3 w' W.heap.size (fun _ => True) (.slice A n c') xs ∧ Below W.heap.size W w' := by
  subst hn
  refine (slices_Clone_int_int.calls _ _ xs xs W (C_int_blk h (by omega)) hc (by simp [slices_Clone_int_int.f, hm])).mono ?_
  rintro e w' ⟨v, rfl, ho, hb⟩
  obtain ⟨A, c', rfl⟩ := Kd.R_slice ho
  exact ⟨A, c', rfl, ho, hb⟩
def moved (v : Int) (l : List Int) (slot tt : Int) : Int × List Int × Int := if 0 ≤ slot ∧ slot ≤ 7 then (if 0 ≤ tt ∧ tt ≤ 2 then (if v = 99 then (v, l, 2) else if rd l slot = tt then (v, l, 3) else (wrap64 (v + 1), l.set slot.toNat tt, 0)) else (v, l, 9)) else (v, l, 9)
set_option maxHeartbeats 8000000 in
set_option maxRecDepth 100000 in
theorem impl_MapMove_yes (k : Nat) (v : Int) (A0_1 : Option Addr) (c0_1 : Nat) (x0 x1 x2 x3 x4 x5 x6 x7 : Int) (slot tt : Int) (w : World) (hr0_1 : Kd.C (Kd.int .i64) w A0_1 [x0, x1, x2, x3, x4, x5, x6, x7].length [x0, x1, x2, x3, x4, x5, x6, x7]) (hc0_1 : [x0, x1, x2, x3, x4, x5, x6, x7].length ≤ c0_1) (h : impl_MapOk.f k v [x0, x1, x2, x3, x4, x5, x6, x7] = some true) :
    Calls Try.prog 30 #[.agg #[.int .i64 v, .slice A0_1 [x0, x1, x2, x3, x4, x5, x6, x7].length c0_1], .int .i64 slot, .int .i64 tt] w fun e w' => ∃ v1_ : Value, e = .returned (.tuple #[.agg #[.int .i64 (moved v [x0, x1, x2, x3, x4, x5, x6, x7] slot tt).1, v1_], .int .i64 (moved v [x0, x1, x2, x3, x4, x5, x6, x7] slot tt).2.2]) ∧ Kd.R (Kd.int .i64) 3 w' w.heap.size (fun _ => True) v1_ (moved v [x0, x1, x2, x3, x4, x5, x6, x7] slot tt).2.1 ∧ Below w.heap.size w w' := by
  have hu27 := Try.underlying27
  have hu61 := Try.underlying61
  have HR := Aside0.mk hr0_1
  have HC := Aside0.mk hc0_1
  obtain ⟨ad, rfl, hcell⟩ := C_cells hr0_1 (by simp)
  have HCE := Aside0.mk hcell
  have H := Aside0.mk h
  clear hr0_1 hc0_1 h hcell
  have hat : ∀ W : World, (Instr.arrayAt 61 (.slice (some ad) 8 c0_1)).run Try.prog W = .ok (.pointer (some ad)) W := fun W => run_arrayAt W 61 _ 8 _ 8 c0_1 Try.underlying61 (by decide)
  go_enter Try.func30, Try.ntmps30
  go_wp2_with (fail)
  refine (impl_MapOk.calls k v (some ad) c0_1 _ true _ (Kd.C_below HR.out (below_alloc (below_alloc (Below.refl _ _) _) _)) HC.out H.out).mono ?_
  rintro e w1 ⟨rfl, hb⟩
  obtain ⟨hb0, hb1, hbw⟩ := two_new w _ _ rfl
  have BK := Aside0.mk (blk_below hb0 hb)
  have BR := Aside0.mk (blk_below hb1 hb)
  have HB := Aside0.mk (below_then hbw hbw.size hb)
  clear hb hb0 hb1 hbw
  have hc0 : w1.cell? ⟨w.heap.size, 0, none⟩ = some (.int .i64 v) := (blk_cell BK.out 0).trans rfl
  have hc1 : w1.cell? ⟨w.heap.size, 1, none⟩ = some (.slice (some ad) 8 c0_1) := (blk_cell BK.out 1).trans rfl
  go_wp2_with ((with_reducible refine gate_dst (N := 17) rfl ?_); refine wpList_load_cells rfl 61 (.tmp 16) rfl ad rfl ([x0, x1, x2, x3, x4, x5, x6, x7].map (Value.int .i64)) _ (fun j v hj => (HB.out.cell (World.block_lt_of_cell? w _ (HCE.out j v hj))).trans (HCE.out j v hj)) Try.underlying61 rfl (by kernel_rfl) ?_)
  obtain ⟨W2, hW2⟩ : ∃ W2, W2 = w1.alloc (Obj.cells #[Value.int IntKind.i64 x0, Value.int IntKind.i64 x1, Value.int IntKind.i64 x2, Value.int IntKind.i64 x3, Value.int IntKind.i64 x4, Value.int IntKind.i64 x5, Value.int IntKind.i64 x6, Value.int IntKind.i64 x7] 61) := ⟨_, rfl⟩
  rw [← hW2]
  have BA := blk_new w1 (Obj.cells #[Value.int IntKind.i64 x0, Value.int IntKind.i64 x1, Value.int IntKind.i64 x2, Value.int IntKind.i64 x3, Value.int IntKind.i64 x4, Value.int IntKind.i64 x5, Value.int IntKind.i64 x6, Value.int IntKind.i64 x7] 61)
  have GA := Aside0.mk HB.out.size
  have BK := blk_alloc BK.out (Obj.cells #[Value.int IntKind.i64 x0, Value.int IntKind.i64 x1, Value.int IntKind.i64 x2, Value.int IntKind.i64 x3, Value.int IntKind.i64 x4, Value.int IntKind.i64 x5, Value.int IntKind.i64 x6, Value.int IntKind.i64 x7] 61)
  have BR := blk_alloc BR.out (Obj.cells #[Value.int IntKind.i64 x0, Value.int IntKind.i64 x1, Value.int IntKind.i64 x2, Value.int IntKind.i64 x3, Value.int IntKind.i64 x4, Value.int IntKind.i64 x5, Value.int IntKind.i64 x6, Value.int IntKind.i64 x7] 61)
  have HB := below_alloc HB.out (Obj.cells #[Value.int IntKind.i64 x0, Value.int IntKind.i64 x1, Value.int IntKind.i64 x2, Value.int IntKind.i64 x3, Value.int IntKind.i64 x4, Value.int IntKind.i64 x5, Value.int IntKind.i64 x6, Value.int IntKind.i64 x7] 61)
  rw [← hW2] at BA BK BR HB
  replace BA := Aside0.mk BA
  replace BK := Aside0.mk BK
  replace BR := Aside0.mk BR
  replace HB := Aside0.mk HB
  clear hW2 hc0 hc1
  generalize w1.heap.size = ga at BA GA ⊢
  have hc0 : W2.cell? ⟨w.heap.size, 0, none⟩ = some (.int .i64 v) := (blk_cell BK.out 0).trans rfl
  have HN := Aside0.mk (Nat.ne_of_lt (blk_lt BK.out))
  go_cut [9] (fun v9 wc => ∃ (g9 : Nat) (v1 : Value), v9 = .pointer (some ⟨g9, 0, none⟩) ∧ Aside0 (wc.heap[g9]? = some (.cells #[.int .i64 v, v1] 27 (0, 0))) ∧ Aside0 (w.heap.size ≤ g9) ∧ Aside0 (Kd.R (Kd.int .i64) 3 wc w.heap.size (fun _ => True) v1 [x0, x1, x2, x3, x4, x5, x6, x7]) ∧ Aside0 (Below W2.heap.size W2 wc))
  case first =>
    go_region_held3 (fun w' => w'.cell? ⟨w.heap.size, 0, none⟩ = some (.int .i64 v)) (first | exact hc0 | exact hcA | exact (blk_cell (t := 27) (cs := #[.int .i64 v, .slice (some ad) 8 c0_1]) (blk_far (p := ⟨W2.heap.size, 1, none⟩) (blk_far (p := ⟨W2.heap.size, 0, none⟩) BK3.out HN.out _) HN.out _) 0).trans rfl | exact (blk_cell (by (with_reducible repeat (first | refine blk_drewN ?_ _ | refine blk_drew ?_ | refine blk_alloc ?_ _)); exact BK3.out) 0).trans rfl | exact (blk_cell (by (with_reducible repeat (first | refine blk_drewN ?_ _ | refine blk_drew ?_ | refine blk_alloc ?_ _)); exact BK.out) 0).trans rfl) (first | (go_at_call 46; refine (slices_Clone_int_int.calls _ _ [x0, x1, x2, x3, x4, x5, x6, x7] [x0, x1, x2, x3, x4, x5, x6, x7] _ (C_int_blk (t := 61) (fr := (0, 0)) (by (with_reducible repeat (first | refine blk_drewN ?_ _ | refine blk_drew ?_ | refine blk_alloc ?_ _)); exact BA.out) (by simp)) (by simp) (by simp [slices_Clone_int_int.f])).mono ?_; rintro e w3 ⟨v1, rfl, ho, hb⟩; have HO1 := Aside0.mk ho; obtain ⟨A1, c1, e1⟩ := Kd.R_slice ho; subst e1; have HB1 := Aside0.mk hb; have BK3 := Aside0.mk (blk_below (g := w.heap.size) (o := .cells #[.int .i64 v, .slice (some ad) 8 c0_1] 27 (0, 0)) (by (with_reducible repeat (first | refine blk_drewN ?_ _ | refine blk_drew ?_ | refine blk_alloc ?_ _)); exact BK.out) hb); have hcA : w3.cell? ⟨w.heap.size, 0, none⟩ = some (.int .i64 v) := (blk_cell (blk_below (g := w.heap.size) (o := .cells #[.int .i64 v, .slice (some ad) 8 c0_1] 27 (0, 0)) (by (with_reducible repeat (first | refine blk_drewN ?_ _ | refine blk_drew ?_ | refine blk_alloc ?_ _)); exact BK.out) hb) 0).trans rfl; (try (have BN := Aside0.mk (blk_below (g := W2.heap.size) (o := .cells #[.int .i64 0, .slice none 0 0] 27 (0, 0)) (by refine blk_drew ?_; exact blk_new W2 _) hb); have hn0 : w3.cell? ⟨W2.heap.size, 0, none⟩ = some (.int .i64 0) := (blk_cell BN.out 0).trans rfl; have hn1 : w3.cell? ⟨W2.heap.size, 1, none⟩ = some (.slice none 0 0) := (blk_cell BN.out 1).trans rfl; have hz0 := blk_frozen BN.out 0; have hz1 := blk_frozen BN.out 1)); clear ho hb))
    · go_wp2
      go_meet
      case rel => exact ⟨w3.heap.size, .slice A1 8 c1, rfl, ⟨blk_new w3 _⟩, ⟨Nat.le_trans HB.out.size (Nat.le_trans (by simp) HB1.out.size)⟩, ⟨Kd.R_alloc (Kd.R_lower HO1.out (by simpa using HB.out.size)) _⟩, ⟨below_alloc (below_then (below_drew (Below.refl _ _)) (by simp) HB1.out) _⟩⟩
    · go_wp2
      go_meet
      case rel => exact ⟨W2.heap.size, .slice A1 8 c1, rfl, ⟨blk_put (cs := #[.int .i64 v, .slice none 0 0]) (blk_put (cs := #[.int .i64 0, .slice none 0 0]) BN.out 0 _ rfl) 1 _ rfl⟩, ⟨HB.out.size⟩, ⟨Kd.R_mono (Kd.R_far (p := ⟨W2.heap.size, 1, none⟩) (Kd.R_far (p := ⟨W2.heap.size, 0, none⟩) (Kd.R_types (Kd.R_lower HO1.out (Nat.le_trans HB.out.size (by simp))) BN.out (by decide)) (fun _ hk => hk.2) _) (fun _ hk => hk.2) _) (fun _ hk => trivial)⟩, ⟨below_set (below_set (below_then (below_drew (below_alloc (Below.refl _ _) _)) (by simp) HB1.out) (Nat.le_refl _)) (Nat.le_refl _)⟩⟩
  case rest =>
    clear hc0
    obtain ⟨g9, v1, rfl, B9, G9, HO, HB2⟩ := hcut
    obtain ⟨A1, c1, e1⟩ := Kd.R_slice HO.out
    subst e1
    have BK := Aside0.mk (blk_below BK.out HB2.out)
    have BR := Aside0.mk (blk_below BR.out HB2.out)
    have BA := Aside0.mk (blk_below BA.out HB2.out)
    have HB := Aside0.mk (below_then HB.out HB.out.size HB2.out)
    have hc0 : wc.cell? ⟨w.heap.size, 0, none⟩ = some (.int .i64 v) := (blk_cell BK.out 0).trans rfl
    have hr0 : wc.cell? ⟨w.heap.size + 1, 0, none⟩ = some (.int .i64 0) := (blk_cell BR.out 0).trans rfl
    have hr1 : wc.cell? ⟨w.heap.size + 1, 1, none⟩ = some (.slice none 0 0) := (blk_cell BR.out 1).trans rfl
    have hz0 := blk_frozen BR.out 0
    have hz1 := blk_frozen BR.out 1
    have h90 : wc.cell? ⟨g9, 0, none⟩ = some (.int .i64 v) := (blk_cell B9.out 0).trans rfl
    have h91 : wc.cell? ⟨g9, 1, none⟩ = some (.slice A1 8 c1) := (blk_cell B9.out 1).trans rfl
    by_cases hs : 0 ≤ slot ∧ slot ≤ 7
    · have HD := Aside0.mk ((isSlot_eq' slot).trans (congrArg some (decide_eq_true hs)))
      by_cases ht : 0 ≤ tt ∧ tt ≤ 2
      · have HE := Aside0.mk ((isHouse_eq tt).trans (congrArg some (decide_eq_true ht)))
        by_cases h99 : v = 99
        · have b99 : (v == 99) = true := beq_iff_eq.mpr h99
          have MV := Aside0.mk (show moved v [x0, x1, x2, x3, x4, x5, x6, x7] slot tt = (v, [x0, x1, x2, x3, x4, x5, x6, x7], 2) by unfold moved; rw [if_pos hs, if_pos ht, if_pos h99])
          clear h99 hs ht
          go_wp2_with (fail)
          refine (impl_isSlot.calls slot true _ HD.out).mono ?_
          rintro e w4 ⟨rfl, ⟨nd, rfl⟩⟩
          go_wp2_with (fail)
          refine (impl_isHouse.calls tt true _ HE.out).mono ?_
          rintro e w4 ⟨rfl, ⟨nd2, rfl⟩⟩
          go_wp2_with (fail)
          rw [MV.out]
          refine bodyPost_ret (results_ct rfl _ _ (w.heap.size + 1) 27 #[.int .i64 v, .slice A1 8 c1] (0, 0) _ rfl (by refine blk_put (cs := #[.int .i64 v, .slice none 0 0]) ?_ 1 _ rfl; refine blk_put (cs := #[.int .i64 0, .slice none 0 0]) ?_ 0 _ rfl; (with_reducible repeat (first | refine blk_drewN ?_ _ | refine blk_drew ?_)); exact BR.out) Try.underlying27 rfl (by kernel_rfl)) rfl ?_
          exact ⟨.slice A1 8 c1, rfl, Kd.R_mono (Kd.R_far (p := ⟨w.heap.size + 1, 1, none⟩) (Kd.R_far (p := ⟨w.heap.size + 1, 0, none⟩) (Kd.R_types (by (with_reducible repeat (first | apply Kd.R_drewN | apply Kd.R_drew)); exact HO.out) (t := 27) (cells := #[.int .i64 0, .slice none 0 0]) (by (with_reducible repeat (first | refine blk_drewN ?_ _ | refine blk_drew ?_)); exact BR.out) (by decide)) (fun _ hk => hk.2) _) (fun _ hk => hk.2) _) (fun _ hk => trivial), below_set (below_set (by repeat (first | exact HB.out | apply pw_below_drewN | apply below_drew1)) (Nat.le_succ _)) (Nat.le_succ _)⟩
        · have b99 : (v == 99) = false := beq_eq_false_iff_ne.mpr h99
          have hx : wc.cell? ⟨ga, slot.toNat, none⟩ = some (.int .i64 (rd [x0, x1, x2, x3, x4, x5, x6, x7] slot)) := by
            rw [blk_cell BA.out slot.toNat]
            exact arr_at [x0, x1, x2, x3, x4, x5, x6, x7] slot (by simp; omega)
          have hxz := blk_frozen BA.out slot.toNat
          have p : (0 ≤ slot) = True := eq_true hs.1
          have q : (slot < 8) = True := eq_true (by omega)
          by_cases hsame : rd [x0, x1, x2, x3, x4, x5, x6, x7] slot = tt
          · have bs : (rd [x0, x1, x2, x3, x4, x5, x6, x7] slot == tt) = true := beq_iff_eq.mpr hsame
            have MV := Aside0.mk (show moved v [x0, x1, x2, x3, x4, x5, x6, x7] slot tt = (v, [x0, x1, x2, x3, x4, x5, x6, x7], 3) by unfold moved; rw [if_pos hs, if_pos ht, if_neg h99, if_pos hsame])
            clear h99 hs ht hsame
            go_wp2_with (fail)
            refine (impl_isSlot.calls slot true _ HD.out).mono ?_
            rintro e w4 ⟨rfl, ⟨nd, rfl⟩⟩
            go_wp2_with (fail)
            refine (impl_isHouse.calls tt true _ HE.out).mono ?_
            rintro e w4 ⟨rfl, ⟨nd2, rfl⟩⟩
            go_wp2_with (fail)
            rw [MV.out]
            refine bodyPost_ret (results_ct rfl _ _ (w.heap.size + 1) 27 #[.int .i64 v, .slice A1 8 c1] (0, 0) _ rfl (by refine blk_put (cs := #[.int .i64 v, .slice none 0 0]) ?_ 1 _ rfl; refine blk_put (cs := #[.int .i64 0, .slice none 0 0]) ?_ 0 _ rfl; (with_reducible repeat (first | refine blk_drewN ?_ _ | refine blk_drew ?_)); exact BR.out) Try.underlying27 rfl (by kernel_rfl)) rfl ?_
            exact ⟨.slice A1 8 c1, rfl, Kd.R_mono (Kd.R_far (p := ⟨w.heap.size + 1, 1, none⟩) (Kd.R_far (p := ⟨w.heap.size + 1, 0, none⟩) (Kd.R_types (by (with_reducible repeat (first | apply Kd.R_drewN | apply Kd.R_drew)); exact HO.out) (t := 27) (cells := #[.int .i64 0, .slice none 0 0]) (by (with_reducible repeat (first | refine blk_drewN ?_ _ | refine blk_drew ?_)); exact BR.out) (by decide)) (fun _ hk => hk.2) _) (fun _ hk => hk.2) _) (fun _ hk => trivial), below_set (below_set (by repeat (first | exact HB.out | apply pw_below_drewN | apply below_drew1)) (Nat.le_succ _)) (Nat.le_succ _)⟩
          · have bs : (rd [x0, x1, x2, x3, x4, x5, x6, x7] slot == tt) = false := beq_eq_false_iff_ne.mpr hsame
            have MV := Aside0.mk (show moved v [x0, x1, x2, x3, x4, x5, x6, x7] slot tt = (wrap64 (v + 1), [x0, x1, x2, x3, x4, x5, x6, x7].set slot.toNat tt, 0) by unfold moved; rw [if_pos hs, if_pos ht, if_neg h99, if_neg hsame])
            clear h99 hs ht hsame
            go_wp2_with (fail)
            refine (impl_isSlot.calls slot true _ HD.out).mono ?_
            rintro e w4 ⟨rfl, ⟨nd, rfl⟩⟩
            go_wp2_with (fail)
            refine (impl_isHouse.calls tt true _ HE.out).mono ?_
            rintro e w4 ⟨rfl, ⟨nd2, rfl⟩⟩
            go_wp2_with (fail)
            have n1 : w.heap.size ≠ ga := blk_type_ne BK.out BA.out (by decide)
            have n2 : w.heap.size + 1 ≠ ga := blk_type_ne BR.out BA.out (by decide)
            have BK5 := blk_far (p := ⟨ga, slot.toNat, none⟩) (w := wc.drewN (nd + nd2)) (blk_drewN BK.out _) n1 (.int .i64 tt)
            have BR5 := blk_far (p := ⟨ga, slot.toNat, none⟩) (w := wc.drewN (nd + nd2)) (blk_drewN BR.out _) n2 (.int .i64 tt)
            have BA5 : ((wc.drewN (nd + nd2)).setCell ⟨ga, slot.toNat, none⟩ (.int .i64 tt)).heap[ga]? = some (.cells (([x0, x1, x2, x3, x4, x5, x6, x7].set slot.toNat tt).map (Value.int .i64)).toArray 61 (0, 0)) := by
              refine blk_put (w := wc.drewN (nd + nd2)) (blk_drewN BA.out _) slot.toNat _ ?_
              rw [List.map_set]
              simp
            have HB5 := below_set (j := slot.toNat) (v := .int .i64 tt) (pw_below_drewN HB.out (nd + nd2)) GA.out
            clear hc0 hr0 hr1 hz0 hz1 h90 h91 hx hxz n1 n2
            generalize ((wc.drewN (nd + nd2)).setCell ⟨ga, slot.toNat, none⟩ (.int .i64 tt)) = W5 at BK5 BR5 BA5 HB5 ⊢
            replace BK5 := Aside0.mk BK5
            replace BR5 := Aside0.mk BR5
            replace BA5 := Aside0.mk BA5
            replace HB5 := Aside0.mk HB5
            have LN := Aside0.mk (show ([x0, x1, x2, x3, x4, x5, x6, x7].set slot.toNat tt).length = 8 by simp)
            have hc0 : W5.cell? ⟨w.heap.size, 0, none⟩ = some (.int .i64 v) := (blk_cell BK5.out 0).trans rfl
            go_region_held3 (fun w' => w'.cell? ⟨w.heap.size, 0, none⟩ = some (.int .i64 v)) (first | exact hc0 | exact hcA | exact (blk_cell (t := 27) (cs := #[.int .i64 v, .slice (some ad) 8 c0_1]) (blk_far (p := ⟨w.heap.size + 1, 1, none⟩) (blk_far (p := ⟨w.heap.size + 1, 0, none⟩) BK6.out (Nat.ne_of_lt (Nat.lt_succ_self _)) _) (Nat.ne_of_lt (Nat.lt_succ_self _)) _) 0).trans rfl) (first | (go_at_call 46; refine (clone_blk ga 8 8 61 _ (by decide) (by decide) _ LN.out (by (with_reducible repeat (first | refine blk_drewN ?_ _ | refine blk_drew ?_ | refine blk_alloc ?_ _)); exact BA5.out)).mono ?_; rintro e w6 ⟨A6, c6, rfl, ho, hb⟩; have HO6 := Aside0.mk ho; have BK6 := Aside0.mk (blk_below (g := w.heap.size) (o := .cells #[.int .i64 v, .slice (some ad) 8 c0_1] 27 (0, 0)) (by (with_reducible repeat (first | refine blk_drewN ?_ _ | refine blk_drew ?_ | refine blk_alloc ?_ _)); exact BK5.out) hb); have BR6 := Aside0.mk (blk_below (g := w.heap.size + 1) (o := .cells #[.int .i64 0, .slice none 0 0] 27 (0, 0)) (by (with_reducible repeat (first | refine blk_drewN ?_ _ | refine blk_drew ?_ | refine blk_alloc ?_ _)); exact BR5.out) hb); have HB6 := Aside0.mk hb; have hcA : w6.cell? ⟨w.heap.size, 0, none⟩ = some (.int .i64 v) := (blk_cell BK6.out 0).trans rfl; have hr0 : w6.cell? ⟨w.heap.size + 1, 0, none⟩ = some (.int .i64 0) := (blk_cell BR6.out 0).trans rfl; have hr1 : w6.cell? ⟨w.heap.size + 1, 1, none⟩ = some (.slice none 0 0) := (blk_cell BR6.out 1).trans rfl; have hz0 := blk_frozen BR6.out 0; have hz1 := blk_frozen BR6.out 1; clear ho hb))
            go_wp2
            rw [MV.out]
            refine bodyPost_ret (results_ct rfl _ _ (w.heap.size + 1) 27 #[.int .i64 (IntKind.i64.wrap (v + 1)), .slice A6 8 c6] (0, 0) _ rfl (blk_put (cs := #[.int .i64 (IntKind.i64.wrap (v + 1)), .slice none 0 0]) (blk_put (cs := #[.int .i64 0, .slice none 0 0]) BR6.out 0 _ rfl) 1 _ rfl) Try.underlying27 rfl (by kernel_rfl)) rfl ?_
            exact ⟨.slice A6 8 c6, by rw [i64_w]; rfl, Kd.R_mono (Kd.R_far (p := ⟨w.heap.size + 1, 1, none⟩) (Kd.R_far (p := ⟨w.heap.size + 1, 0, none⟩) (Kd.R_types (Kd.R_lower HO6.out (by simpa using HB5.out.size)) BR6.out (by decide)) (fun _ hk => hk.2) _) (fun _ hk => hk.2) _) (fun _ hk => trivial), below_set (below_set (below_then HB5.out HB5.out.size (below_then (below_drew (Below.refl _ _)) (by simp) HB6.out)) (Nat.le_succ _)) (Nat.le_succ _)⟩
      · have HE := Aside0.mk ((isHouse_eq tt).trans (congrArg some (decide_eq_false ht)))
        have MV := Aside0.mk (show moved v [x0, x1, x2, x3, x4, x5, x6, x7] slot tt = (v, [x0, x1, x2, x3, x4, x5, x6, x7], 9) by unfold moved; rw [if_pos hs, if_neg ht])
        clear hs ht
        go_wp2_with (fail)
        refine (impl_isSlot.calls slot true _ HD.out).mono ?_
        rintro e w4 ⟨rfl, ⟨nd, rfl⟩⟩
        go_wp2_with (fail)
        refine (impl_isHouse.calls tt false _ HE.out).mono ?_
        rintro e w4 ⟨rfl, ⟨nd2, rfl⟩⟩
        go_wp2_with (fail)
        rw [MV.out]
        refine bodyPost_ret (results_ct rfl _ _ (w.heap.size + 1) 27 #[.int .i64 v, .slice A1 8 c1] (0, 0) _ rfl (by refine blk_put (cs := #[.int .i64 v, .slice none 0 0]) ?_ 1 _ rfl; refine blk_put (cs := #[.int .i64 0, .slice none 0 0]) ?_ 0 _ rfl; (with_reducible repeat (first | refine blk_drewN ?_ _ | refine blk_drew ?_)); exact BR.out) Try.underlying27 rfl (by kernel_rfl)) rfl ?_
        exact ⟨.slice A1 8 c1, rfl, Kd.R_mono (Kd.R_far (p := ⟨w.heap.size + 1, 1, none⟩) (Kd.R_far (p := ⟨w.heap.size + 1, 0, none⟩) (Kd.R_types (by (with_reducible repeat (first | apply Kd.R_drewN | apply Kd.R_drew)); exact HO.out) (t := 27) (cells := #[.int .i64 0, .slice none 0 0]) (by (with_reducible repeat (first | refine blk_drewN ?_ _ | refine blk_drew ?_)); exact BR.out) (by decide)) (fun _ hk => hk.2) _) (fun _ hk => hk.2) _) (fun _ hk => trivial), below_set (below_set (by repeat (first | exact HB.out | apply pw_below_drewN | apply below_drew1)) (Nat.le_succ _)) (Nat.le_succ _)⟩
    · have HD := Aside0.mk ((isSlot_eq' slot).trans (congrArg some (decide_eq_false hs)))
      have MV := Aside0.mk (show moved v [x0, x1, x2, x3, x4, x5, x6, x7] slot tt = (v, [x0, x1, x2, x3, x4, x5, x6, x7], 9) by unfold moved; rw [if_neg hs])
      clear hs
      go_wp2_with (fail)
      refine (impl_isSlot.calls slot false _ HD.out).mono ?_
      rintro e w4 ⟨rfl, ⟨nd, rfl⟩⟩
      go_wp2_with (fail)
      rw [MV.out]
      refine bodyPost_ret (results_ct rfl _ _ (w.heap.size + 1) 27 #[.int .i64 v, .slice A1 8 c1] (0, 0) _ rfl (by refine blk_put (cs := #[.int .i64 v, .slice none 0 0]) ?_ 1 _ rfl; refine blk_put (cs := #[.int .i64 0, .slice none 0 0]) ?_ 0 _ rfl; (with_reducible repeat (first | refine blk_drewN ?_ _ | refine blk_drew ?_)); exact BR.out) Try.underlying27 rfl (by kernel_rfl)) rfl ?_
      exact ⟨.slice A1 8 c1, rfl, Kd.R_mono (Kd.R_far (p := ⟨w.heap.size + 1, 1, none⟩) (Kd.R_far (p := ⟨w.heap.size + 1, 0, none⟩) (Kd.R_types (by (with_reducible repeat (first | apply Kd.R_drewN | apply Kd.R_drew)); exact HO.out) (t := 27) (cells := #[.int .i64 0, .slice none 0 0]) (by (with_reducible repeat (first | refine blk_drewN ?_ _ | refine blk_drew ?_)); exact BR.out) (by decide)) (fun _ hk => hk.2) _) (fun _ hk => hk.2) _) (fun _ hk => trivial), below_set (below_set (by repeat (first | exact HB.out | apply pw_below_drewN | apply below_drew1)) (Nat.le_succ _)) (Nat.le_succ _)⟩
def impl_MapMove.f (k : Nat) (a0_0 : Int) (l0_1 : List Int) (a1 : Int) (a2 : Int) : Option (Int × List Int × Int) := (impl_MapOk.f k a0_0 l0_1).bind fun ok => (if ok = true then (if l0_1.length = 8 then some (moved a0_0 l0_1 a1 a2) else none) else some (0, [], 9))
theorem impl_MapMove.mono : ∀ a0 a1 a2 a3 k, LeO (impl_MapMove.f k a0 a1 a2 a3) (impl_MapMove.f (k + 1) a0 a1 a2 a3) := by
  intro a0 a1 a2 a3 k
  unfold impl_MapMove.f
  repeat' first
      | (with_reducible exact impl_MapOk.mono _ _ _)
      | (with_reducible exact LeO.refl _)
      | (with_reducible exact LeO.none _)
      | (with_reducible refine LeO.ite ?_ ?_)
      | (with_reducible refine LeO.bind ?_ (fun _ => ?_))
      | exact impl_MapOk.mono _ _ _
      | exact LeO.none _
      | refine LeO.ite ?_ ?_
      | refine LeO.bind ?_ (fun _ => ?_)
set_option maxHeartbeats 8000000 in
set_option maxRecDepth 100000 in
theorem impl_MapMove.calls (k : Nat) (a0_0 : Int) (A0_1 : Option Addr) (c0_1 : Nat) (l0_1 : List Int) (a1 : Int) (a2 : Int) (r1 : Int) (r2 : List Int) (r3 : Int) (w : World) (hr0_1 : Kd.C (Kd.int .i64) w A0_1 l0_1.length l0_1) (hc0_1 : l0_1.length ≤ c0_1) (h : impl_MapMove.f k a0_0 l0_1 a1 a2 = some (r1, r2, r3)) :
    Calls Try.prog 30 #[.agg #[.int .i64 a0_0, .slice A0_1 l0_1.length c0_1], .int .i64 a1, .int .i64 a2] w fun e w' => ∃ v1_ : Value, e = .returned (.tuple #[.agg #[.int .i64 r1, v1_], .int .i64 r3]) ∧ Kd.R (Kd.int .i64) 3 w' w.heap.size (fun _ => True) v1_ r2 ∧ Below w.heap.size w w' := by
  unfold impl_MapMove.f at h
  obtain ⟨ok, A1, h⟩ := Option.bind_eq_some_iff.mp h
  cases ok with
  | false =>
    rw [if_neg (by decide)] at h
    simp only [Option.some.injEq, Prod.mk.injEq] at h
    obtain ⟨rfl, rfl, rfl⟩ := h
    have hu1 := Try.underlying27
    have HR := Aside0.mk hr0_1
    have HC := Aside0.mk hc0_1
    have A1 := Aside0.mk A1
    clear hr0_1 hc0_1
    go_enter Try.func30, Try.ntmps30
    go_wp2_with (fail)
    refine (impl_MapOk.calls k a0_0 A0_1 c0_1 _ false _ (Kd.C_below HR.out (below_alloc (below_alloc (Below.refl _ _) _) _)) HC.out A1.out).mono ?_
    rintro e w1 ⟨rfl, hb⟩
    obtain ⟨hb0, hb1, hbw⟩ := two_new w _ _ rfl
    have BR := Aside0.mk (blk_below hb1 hb)
    have HB := Aside0.mk (below_then hbw hbw.size hb)
    clear hb hb0 hb1 hbw
    have hr0 : w1.cell? ⟨w.heap.size + 1, 0, none⟩ = some (.int .i64 0) := (blk_cell BR.out 0).trans rfl
    have hr1 : w1.cell? ⟨w.heap.size + 1, 1, none⟩ = some (.slice none 0 0) := (blk_cell BR.out 1).trans rfl
    have hz0 := blk_frozen BR.out 0
    have hz1 := blk_frozen BR.out 1
    go_wp2_with (fail)
    refine bodyPost_ret (results_ct rfl _ _ (w.heap.size + 1) 27 #[.int .i64 0, .slice none 0 0] (0, 0) _ rfl (blk_put (cs := #[.int .i64 0, .slice none 0 0]) (blk_put (cs := #[.int .i64 0, .slice none 0 0]) BR.out 0 _ rfl) 1 _ rfl) Try.underlying27 rfl (by kernel_rfl)) rfl ?_
    exact ⟨.slice none 0 0, rfl, Kd.R_nil _ _ _ _ _, below_set (below_set HB.out (Nat.le_succ _)) (Nat.le_succ _)⟩
  | true =>
    rw [if_pos rfl] at h
    by_cases h8 : l0_1.length = 8
    · rw [if_pos h8] at h
      have hm := Option.some.inj h
      obtain ⟨x0, x1, x2, x3, x4, x5, x6, x7, rfl⟩ : ∃ x0 x1 x2 x3 x4 x5 x6 x7 : Int, l0_1 = [x0, x1, x2, x3, x4, x5, x6, x7] := by
        match l0_1, h8 with
        | [x0, x1, x2, x3, x4, x5, x6, x7], _ => exact ⟨_, _, _, _, _, _, _, _, rfl⟩
      have := impl_MapMove_yes k a0_0 A0_1 c0_1 x0 x1 x2 x3 x4 x5 x6 x7 a1 a2 w hr0_1 hc0_1 A1
      rw [hm] at this
      exact this
    · rw [if_neg h8] at h
      cases h

end Go.Proofs.Ytnpmepaiigbhlaa.PX
