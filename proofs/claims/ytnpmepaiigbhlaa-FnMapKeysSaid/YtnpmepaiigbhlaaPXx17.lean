-- Written by a program of this workplace (wip/xprint.py over the kit's print.py) out of the translation.
import Derived.Test.YtnpmepaiigbhlaaPXx0
import Derived.Test.YtnpmepaiigbhlaaPXx4
import Derived.Test.YtnpmepaiigbhlaaPXx14
import Derived.Test.YtnpmepaiigbhlaaPXx16
namespace Go.Proofs.Ytnpmepaiigbhlaa.PX
open Go.RowKit Go.Proofs.YtnpmepaiigbhlaaW.PrintWords Go.Proofs.YtnpmepaiigbhlaaW.PrintLast Go.Proofs.YtnpmepaiigbhlaaW.PrintMore
attribute [local go_sem] max2_int min2_int max_two min_two max_three min_three max_four min_four   -- for this text's walks alone
set_option linter.unusedVariables false
set_option linter.unusedSimpArgs false

/-! ### spec_l72Map: function 56 -/
def spec_l72Map.l0 : Nat → Int → List Int → Int → Int → List Int → Option (Int × List Int × Int)
  | 0, _, _, _, _, _ => none
  | k + 1, x4, x1000, x1001, x570007000, x570007001 => if x4 > 0 then ((spec_l6Rd_pick.f k x1000 x1001 8).bind fun bt570009 => ((spec_l6Rd_pick.f k x1000 bt570009.2 3).bind fun bt570011 => ((spec_MapMove.f k x570007000 x570007001 bt570009.1 bt570011.1).bind fun bt570013 => (spec_l72Map.l0 k (wrap64 (x4 - 1)) x1000 bt570011.2 bt570013.1 bt570013.2.1)))) else ((spec_l6Rd_pick.f k x1000 x1001 14).bind fun bt570018 => (if bt570018.1 = 0 then ((some (([0, 99, 100] : List Int) : List Int)).bind fun y570020 => ((spec_l6Rd_pick.f k x1000 bt570018.2 3).bind fun bt570023 => (if 0 ≤ bt570023.1 then (if bt570023.1 < (y570020.length : Int) then (some (rd y570020 bt570023.1, x570007001, bt570023.2)) else (none)) else (none)))) else (if bt570018.1 = 1 then ((spec_l6Rd_pick.f k x1000 bt570018.2 8).bind fun bt570026 => ((some (([(-1), 3] : List Int) : List Int)).bind fun y570028 => ((spec_l6Rd_pick.f k x1000 bt570026.2 2).bind fun bt570031 => (if 0 ≤ bt570031.1 then (if bt570031.1 < (y570028.length : Int) then (if 0 ≤ bt570026.1 then (if bt570026.1 < (x570007001.length : Int) then (some (x570007000, (x570007001.set (bt570026.1 : Int).toNat (rd y570028 bt570031.1)), bt570031.2)) else (none)) else (none)) else (none)) else (none))))) else (if bt570018.1 = 2 then (if 1 ≤ (x570007001.length : Int) then (some (x570007000, (x570007001.drop (1 : Int).toNat), bt570018.2)) else (none)) else (some (x570007000, x570007001, bt570018.2))))))
def spec_l72Map.f (k : Nat) (s0_0 : List Int) (s0_1 : Int) : Option (Int × List Int × Int) := (spec_MapStart.f k).bind fun bt570002 => ((spec_l6Rd_pick.f k s0_0 s0_1 8).bind fun bt570007 => (spec_l72Map.l0 k bt570007.1 s0_0 bt570007.2 bt570002.1 bt570002.2))
theorem spec_l72Map.mono_l : ∀ k, (∀ y0 y1 y2 y3 y4, LeO (spec_l72Map.l0 k y0 y1 y2 y3 y4) (spec_l72Map.l0 (k + 1) y0 y1 y2 y3 y4))
  | 0 => fun _ _ _ _ _ r h => by simp [spec_l72Map.l0] at h
  | k + 1 => by
    have ih0 := spec_l72Map.mono_l k
    · intro y0 y1 y2 y3 y4
      unfold spec_l72Map.l0
      repeat' first
      | (with_reducible exact ih0 _ _ _ _ _)
      | (with_reducible exact spec_MapMove.mono _ _ _ _ _)
      | (with_reducible exact spec_MapStart.mono _)
      | (with_reducible exact spec_l6Rd_pick.mono _ _ _ _)
      | (with_reducible exact LeO.refl _)
      | (with_reducible exact LeO.none _)
      | (with_reducible refine LeO.ite ?_ ?_)
      | (with_reducible refine LeO.bind ?_ (fun _ => ?_))
      | exact ih0 _ _ _ _ _
      | exact spec_MapMove.mono _ _ _ _ _
      | exact spec_MapStart.mono _
      | exact spec_l6Rd_pick.mono _ _ _ _
      | exact LeO.none _
      | refine LeO.ite ?_ ?_
      | refine LeO.bind ?_ (fun _ => ?_)
theorem spec_l72Map.mono : ∀ a0 a1 k, LeO (spec_l72Map.f k a0 a1) (spec_l72Map.f (k + 1) a0 a1) := by
  intro a0 a1 k
  have ih0 := spec_l72Map.mono_l k
  unfold spec_l72Map.f
  repeat' first
      | (with_reducible exact ih0 _ _ _ _ _)
      | (with_reducible exact spec_MapMove.mono _ _ _ _ _)
      | (with_reducible exact spec_MapStart.mono _)
      | (with_reducible exact spec_l6Rd_pick.mono _ _ _ _)
      | (with_reducible exact LeO.refl _)
      | (with_reducible exact LeO.none _)
      | (with_reducible refine LeO.ite ?_ ?_)
      | (with_reducible refine LeO.bind ?_ (fun _ => ?_))
      | exact ih0 _ _ _ _ _
      | exact spec_MapMove.mono _ _ _ _ _
      | exact spec_MapStart.mono _
      | exact spec_l6Rd_pick.mono _ _ _ _
      | exact LeO.none _
      | refine LeO.ite ?_ ?_
      | refine LeO.bind ?_ (fun _ => ?_)
def spec_l72Map.T5 : Bool × List (List Nat × List Nat) := (true, [([], []), ([], []), ([1], [1]), ([], []), ([3, 2], [3]), ([0, 2, 4, 4], [0, 2, 4]), ([5], [5]), ([6], [6]), ([6], [6]), ([7, 5, 0, 1, 2, 3, 4, 5, 6, 7], [7])])
def spec_l72Map.B5 : List Nat := [0, 0, 2, 0, 14, 31, 63, 127, 127, 255]
theorem spec_l72Map.tab5 : rtab .any (opsOf Try.f56 5) = spec_l72Map.T5 := by kernel_rfl
theorem spec_l72Map.bits5 : waitsOk spec_l72Map.T5.2 spec_l72Map.B5 = true := by kernel_rfl
def spec_l72Map.T10 : Bool × List (List Nat × List Nat) := (true, [([], []), ([0], [0]), ([], []), ([2], [2]), ([], []), ([], []), ([5, 3], [5]), ([4, 6], [4, 6]), ([7], [7]), ([1, 3, 0, 1, 2, 3, 4, 5, 6, 7, 8], [1, 3]), ([9, 8, 6, 0, 1, 2, 3, 4, 5, 6, 7, 8], [8, 9])])
def spec_l72Map.B10 : List Nat := [0, 1, 0, 4, 0, 0, 44, 124, 252, 511, 1023]
theorem spec_l72Map.tab10 : rtab .any (opsOf Try.f56 10) = spec_l72Map.T10 := by kernel_rfl
theorem spec_l72Map.bits10 : waitsOk spec_l72Map.T10.2 spec_l72Map.B10 = true := by kernel_rfl
set_option maxHeartbeats 8000000 in
set_option maxRecDepth 100000 in
theorem spec_l72Map.calls (k : Nat) (g : Nat) (s0_0 : List Int) (s0_1 : Int) (r1 : Int) (r2 : List Int) (r3 : Int) (w0 w : World) (hI : IsS76 w0 w g s0_0 s0_1) (hB : Below w0.heap.size w0 w) (h : spec_l72Map.f k s0_0 s0_1 = some (r1, r2, r3)) :
    Calls Try.prog 56 #[.pointer (some ⟨g, 0, none⟩)] w fun e w' => ∃ v1_ : Value, e = .returned (.agg #[.int .i64 r1, v1_]) ∧ Kd.Q (Kd.int .i64) 3 w' w.heap.size (fun _ => True) v1_ r2 ∧ IsS76 w0 w' g s0_0 r3 ∧ Below w0.heap.size w0 w' ∧ KeepBut w w' g none := by
  have hu27 := Try.underlying27
  have HI0 := Aside0.mk hI
  have HK := Aside0.mk (KeepBut.refl w g none)
  have HL := Aside0.mk hB.size
  clear hI
  have HW0 := Aside0.mk hB.size
  have HB := Aside0.mk hB
  clear hB
  have H : ((spec_MapStart.f k).bind fun bt570002 => ((spec_l6Rd_pick.f k s0_0 s0_1 8).bind fun bt570007 => (spec_l72Map.l0 k bt570007.1 s0_0 bt570007.2 bt570002.1 bt570002.2))) = some (r1, r2, r3) := h
  clear h
  replace H := Option.bind_eq_some_iff.mp H
  obtain ⟨⟨t570002, t570003⟩, A20, H⟩ := H
  replace H : ((spec_l6Rd_pick.f k s0_0 s0_1 8).bind fun bt570007 => (spec_l72Map.l0 k bt570007.1 s0_0 bt570007.2 t570002 t570003)) = some (r1, r2, r3) := H
  have A2 := Aside0.mk A20
  clear A20
  replace H := Option.bind_eq_some_iff.mp H
  obtain ⟨⟨t570007, t570008⟩, A30, H⟩ := H
  replace H : (spec_l72Map.l0 k t570007 s0_0 t570008 t570002 t570003) = some (r1, r2, r3) := H
  have A3 := Aside0.mk A30
  clear A30
  have H' := Aside0.mk H
  clear H
  go_enter Try.func56, Try.ntmps56
  go_wp2_with (first | ((with_reducible refine gate_dst (N := 2) rfl ?_); refine box_event ?hg (N := 2) ?hd (cs := #[.int .i64 0, .slice none 0 0]) (t := 27) ?hr ?_; (case hd => rfl); (case hg => rfl); (case hr => first | (go_simp; done) | (go_simp; rfl)); intro gb570001 hg w4 hbox hb; have n0_ := Aside0.mk (IsS76.below (by repeat (first | (with_reducible first | exact HI0.out | apply IsS76.alloc | apply IsS76.drewN | apply IsS76.drew | apply IsS76.set_1) | exact HI0.out)) hb); have n1_ := Aside0.mk (KeepBut.trans (by repeat (first | (with_reducible first | exact HK.out | apply KeepBut.set_ | apply keep_drewN | apply keep_drew | apply keep_alloc) | exact HK.out)) (KeepBut.of_below hb g none) (.inl rfl)); have n2_ := Aside0.mk (below_step (by repeat (first | (with_reducible first | exact HB.out | apply below_alloc | apply pw_below_drewN | apply below_drew1 | refine below_set ?_ (IsS76.ge HI0.out)) | exact HB.out)) hb); have n3_ := Aside0.mk (hbox); have n4_ := Aside0.mk ((by rw [hg]; exact (keep_size (w := w) (g := g) (row := none) (by repeat (first | (with_reducible first | exact HK.out | apply KeepBut.set_ | apply keep_drewN | apply keep_drew | apply keep_alloc) | exact HK.out))) : w.heap.size ≤ gb570001)); have n5_ := Aside0.mk ((Nat.le_trans HW0.out (by rw [hg]; exact (keep_size (w := w) (g := g) (row := none) (by repeat (first | (with_reducible first | exact HK.out | apply KeepBut.set_ | apply keep_drewN | apply keep_drew | apply keep_alloc) | exact HK.out))) : w.heap.size ≤ gb570001) : w0.heap.size ≤ gb570001)); have n6_ := Aside0.mk ((by rw [hg]; exact Nat.ne_of_lt (IsS76.lt (show IsS76 w0 _ g s0_0 s0_1 from by repeat (first | (with_reducible first | exact HI0.out | apply IsS76.alloc | apply IsS76.drewN | apply IsS76.drew | apply IsS76.set_1) | exact HI0.out))) : g ≠ gb570001)); have n7_ := Aside0.mk ((by rw [hg]; exact Nat.ne_of_gt (IsS76.lt (show IsS76 w0 _ g s0_0 s0_1 from by repeat (first | (with_reducible first | exact HI0.out | apply IsS76.alloc | apply IsS76.drewN | apply IsS76.drew | apply IsS76.set_1) | exact HI0.out))) : gb570001 ≠ g)); clear HI0; clear HK; clear HB; have HI0 := n0_; have HK := n1_; have HB := n2_; have BK570001 := n3_; have GW570001 := n4_; have GE570001 := n5_; have NB0_570001 := n6_; have NB570001_0 := n7_; clear n0_ n1_ n2_ n3_ n4_ n5_ n6_ n7_; clear hb hbox hg) | ((with_reducible refine gate_callee (f := 17) rfl ?_); refine goesL_ (some 5) rfl rfl Try.func17 (by kernel_rfl) rfl #[] rfl (by (try simp only [List.map_toArray, List.map_cons, List.map_nil]); first | done | rfl | (simp only [List.length_drop, List.length_take]; rfl)) ?_; (with_reducible refine (spec_MapStart.calls k  t570002 t570003 _ A2.out).mono ?_); rintro e w5 ⟨v570004, rfl, ho0, hb⟩; refine ⟨_, rfl, ?_⟩; have n0_ := Aside0.mk (Kd.R_lower ho0 (keep_size (w := w) (g := g) (row := none) (by repeat (first | (with_reducible first | exact HK.out | apply KeepBut.set_ | apply keep_drewN | apply keep_drew | apply keep_alloc | refine keep_far ?_ GW570001.out _) | exact HK.out)))); have n1_ := Aside0.mk (IsS76.below (by repeat (first | (with_reducible first | exact HI0.out | apply IsS76.alloc | apply IsS76.drewN | apply IsS76.drew | apply IsS76.set_1 | refine IsS76.far ?_ NB0_570001.out _) | exact HI0.out)) hb); have n2_ := Aside0.mk (blk_below (g := gb570001) (o := .cells #[.int .i64 0, .slice none 0 0] 27 (0, 0)) (by (with_reducible repeat (first | refine blk_drewN ?_ _ | refine blk_drew ?_ | refine blk_alloc ?_ _)); exact BK570001.out) hb); have n3_ := Aside0.mk (KeepBut.trans (by repeat (first | (with_reducible first | exact HK.out | apply KeepBut.set_ | apply keep_drewN | apply keep_drew | apply keep_alloc | refine keep_far ?_ GW570001.out _) | exact HK.out)) (KeepBut.of_below hb g none) (.inl rfl)); have n4_ := Aside0.mk (below_step (by repeat (first | (with_reducible first | exact HB.out | apply below_alloc | apply pw_below_drewN | apply below_drew1 | refine below_set ?_ (IsS76.ge HI0.out) | refine below_set ?_ GE570001.out) | exact HB.out)) hb); clear HI0; clear BK570001; clear HK; clear HB; have HO570005 := n0_; have HI0 := n1_; have BK570001 := n2_; have HK := n3_; have HB := n4_; clear n0_ n1_ n2_ n3_ n4_; (try clear hb); (try clear hb2); (try clear hk); (try clear hi); (try clear ho0)) | ((with_reducible refine gate_dst (N := 3) rfl ?_); refine box_event ?hg (N := 3) ?hd (cs := #[.int .i64 0, .slice none 0 0]) (t := 27) ?hr ?_; (case hd => rfl); (case hg => rfl); (case hr => first | (go_simp; done) | (go_simp; rfl)); intro gb570006 hg w6 hbox hb; have n0_ := Aside0.mk (Kd.R_below (by (with_reducible repeat (first | apply Kd.R_alloc | apply Kd.R_drewN | apply Kd.R_drew)); exact HO570005.out) hb); have n1_ := Aside0.mk (IsS76.below (by repeat (first | (with_reducible first | exact HI0.out | apply IsS76.alloc | apply IsS76.drewN | apply IsS76.drew | apply IsS76.set_1 | refine IsS76.far ?_ NB0_570001.out _) | exact HI0.out)) hb); have n2_ := Aside0.mk (blk_below (g := gb570001) (o := .cells #[.int .i64 0, .slice none 0 0] 27 (0, 0)) (by (with_reducible repeat (first | refine blk_drewN ?_ _ | refine blk_drew ?_ | refine blk_alloc ?_ _)); exact BK570001.out) hb); have n3_ := Aside0.mk (KeepBut.trans (by repeat (first | (with_reducible first | exact HK.out | apply KeepBut.set_ | apply keep_drewN | apply keep_drew | apply keep_alloc | refine keep_far ?_ GW570001.out _) | exact HK.out)) (KeepBut.of_below hb g none) (.inl rfl)); have n4_ := Aside0.mk (below_step (by repeat (first | (with_reducible first | exact HB.out | apply below_alloc | apply pw_below_drewN | apply below_drew1 | refine below_set ?_ (IsS76.ge HI0.out) | refine below_set ?_ GE570001.out) | exact HB.out)) hb); have n5_ := Aside0.mk (hbox); have n6_ := Aside0.mk ((by rw [hg]; exact (keep_size (w := w) (g := g) (row := none) (by repeat (first | (with_reducible first | exact HK.out | apply KeepBut.set_ | apply keep_drewN | apply keep_drew | apply keep_alloc | refine keep_far ?_ GW570001.out _) | exact HK.out))) : w.heap.size ≤ gb570006)); have n7_ := Aside0.mk ((Nat.le_trans HW0.out (by rw [hg]; exact (keep_size (w := w) (g := g) (row := none) (by repeat (first | (with_reducible first | exact HK.out | apply KeepBut.set_ | apply keep_drewN | apply keep_drew | apply keep_alloc | refine keep_far ?_ GW570001.out _) | exact HK.out))) : w.heap.size ≤ gb570006) : w0.heap.size ≤ gb570006)); have n8_ := Aside0.mk ((by rw [hg]; exact Nat.ne_of_lt (blk_lt (g := gb570001) (o := .cells #[.int .i64 0, .slice none 0 0] 27 (0, 0)) (by (with_reducible repeat (first | refine blk_drewN ?_ _ | refine blk_drew ?_ | refine blk_alloc ?_ _)); exact BK570001.out)) : gb570001 ≠ gb570006)); have n9_ := Aside0.mk ((by rw [hg]; exact Nat.ne_of_gt (blk_lt (g := gb570001) (o := .cells #[.int .i64 0, .slice none 0 0] 27 (0, 0)) (by (with_reducible repeat (first | refine blk_drewN ?_ _ | refine blk_drew ?_ | refine blk_alloc ?_ _)); exact BK570001.out)) : gb570006 ≠ gb570001)); have n10_ := Aside0.mk ((by rw [hg]; exact Nat.ne_of_lt (IsS76.lt (show IsS76 w0 _ g s0_0 s0_1 from by repeat (first | (with_reducible first | exact HI0.out | apply IsS76.alloc | apply IsS76.drewN | apply IsS76.drew | apply IsS76.set_1 | refine IsS76.far ?_ NB0_570001.out _) | exact HI0.out))) : g ≠ gb570006)); have n11_ := Aside0.mk ((by rw [hg]; exact Nat.ne_of_gt (IsS76.lt (show IsS76 w0 _ g s0_0 s0_1 from by repeat (first | (with_reducible first | exact HI0.out | apply IsS76.alloc | apply IsS76.drewN | apply IsS76.drew | apply IsS76.set_1 | refine IsS76.far ?_ NB0_570001.out _) | exact HI0.out))) : gb570006 ≠ g)); clear HO570005; clear HI0; clear BK570001; clear HK; clear HB; have HO570005 := n0_; have HI0 := n1_; have BK570001 := n2_; have HK := n3_; have HB := n4_; have BK570006 := n5_; have GW570006 := n6_; have GE570006 := n7_; have NB570001_570006 := n8_; have NB570006_570001 := n9_; have NB0_570006 := n10_; have NB570006_0 := n11_; clear n0_ n1_ n2_ n3_ n4_ n5_ n6_ n7_ n8_ n9_ n10_ n11_; clear hb hbox hg; have hnb7 := NB570006_570001.out; have hnc7 := NB570001_570006.out; have hnb8 := NB570006_0.out; have hnc8 := NB0_570006.out; have hcz9_0 : w6.cell? ⟨gb570006, 0, none⟩ = some (.int .i64 0) := (blk_cell BK570006.out 0).trans rfl; have hcz9_1 : w6.cell? ⟨gb570006, 1, none⟩ = some (.slice none 0 0) := (blk_cell BK570006.out 1).trans rfl; have hfz9_0 := blk_frozen BK570006.out 0; have hfz9_1 := blk_frozen BK570006.out 1; obtain ⟨Ao10, co10, eo10⟩ := Kd.R_slice HO570005.out; subst eo10) | ((with_reducible refine gate_callee (f := 57) rfl ?_); refine goesL_ (some 7) rfl rfl Try.func57 (by kernel_rfl) rfl #[.pointer (some ⟨g, 0, none⟩), .int .i64 8] rfl (by (try simp only [List.map_toArray, List.map_cons, List.map_nil]); first | done | rfl | (simp only [List.length_drop, List.length_take]; rfl)) ?_; (with_reducible refine (spec_l6Rd_pick.calls k g s0_0 s0_1 8 t570007 t570008 w0 _ ?side1 ?side2 A3.out).mono ?_); (case side1 => repeat (first | (with_reducible first | exact HI0.out | apply IsS76.alloc | apply IsS76.drewN | apply IsS76.drew | apply IsS76.set_1 | refine IsS76.far ?_ NB0_570001.out _ | refine IsS76.far ?_ NB0_570006.out _) | exact HI0.out)); (case side2 => repeat (first | (with_reducible first | exact HB.out | apply below_alloc | apply pw_below_drewN | apply below_drew1 | refine below_set ?_ (IsS76.ge HI0.out) | refine below_set ?_ GE570001.out | refine below_set ?_ GE570006.out) | exact HB.out)); rintro e w11 ⟨rfl, hi, hb, hk⟩; refine ⟨_, rfl, ?_⟩; have n0_ := Aside0.mk (KeepBut.blk hk (g' := gb570001) (o := .cells #[.int .i64 0, .slice none 0 0] 27 (0, 0)) (by (with_reducible repeat (first | refine blk_drewN ?_ _ | refine blk_drew ?_ | refine blk_alloc ?_ _)); refine blk_far ?_ NB570001_570006.out _; (with_reducible repeat (first | refine blk_drewN ?_ _ | refine blk_drew ?_ | refine blk_alloc ?_ _)); refine blk_far ?_ NB570001_570006.out _; (with_reducible repeat (first | refine blk_drewN ?_ _ | refine blk_drew ?_ | refine blk_alloc ?_ _)); exact BK570001.out) NB570001_0.out (by simp)); have n1_ := Aside0.mk (Kd.R_mono (Kd.R_keep (IsS76.apart (show IsS76 w0 _ g s0_0 s0_1 from by repeat (first | (with_reducible first | exact HI0.out | apply IsS76.alloc | apply IsS76.drewN | apply IsS76.drew | apply IsS76.set_1 | refine IsS76.far ?_ NB0_570001.out _ | refine IsS76.far ?_ NB0_570006.out _) | exact HI0.out)) (by (with_reducible repeat (first | apply Kd.R_alloc | apply Kd.R_drewN | apply Kd.R_drew)); exact (Kd.R_mono (Kd.R_far (p := ⟨gb570006, 1, none⟩) (Kd.R_far (p := ⟨gb570006, 0, none⟩) (Kd.R_types HO570005.out BK570006.out (by decide)) (fun _ hk => hk.2) (.int .i64 t570002)) (fun _ hk => hk.2) (.slice Ao10 t570003.length co10)) (fun _ h_ => h_.1))) (by decide)) hk (fun _ h => h.2)) (fun _ h => h.1)); have n2_ := Aside0.mk (KeepBut.blk hk (g' := gb570006) (o := .cells #[.int .i64 t570002, .slice Ao10 t570003.length co10] 27 (0, 0)) (by (with_reducible repeat (first | refine blk_drewN ?_ _ | refine blk_drew ?_ | refine blk_alloc ?_ _)); refine blk_put (cs := #[.int .i64 t570002, .slice none 0 0]) ?_ 1 _ rfl; (with_reducible repeat (first | refine blk_drewN ?_ _ | refine blk_drew ?_ | refine blk_alloc ?_ _)); refine blk_put (cs := #[.int .i64 0, .slice none 0 0]) ?_ 0 _ rfl; (with_reducible repeat (first | refine blk_drewN ?_ _ | refine blk_drew ?_ | refine blk_alloc ?_ _)); exact BK570006.out) NB570006_0.out (by simp)); have n3_ := Aside0.mk (KeepBut.trans (by repeat (first | (with_reducible first | exact HK.out | apply KeepBut.set_ | apply keep_drewN | apply keep_drew | apply keep_alloc | refine keep_far ?_ GW570001.out _ | refine keep_far ?_ GW570006.out _) | exact HK.out)) hk (.inl rfl)); have n4_ := Aside0.mk (hb); have n5_ := Aside0.mk (hi); clear BK570001; clear HO570005; clear BK570006; clear HK; clear HB; clear HI0; have BK570001 := n0_; have HO570005 := n1_; have BK570006 := n2_; have HK := n3_; have HB := n4_; have HI0 := n5_; clear n0_ n1_ n2_ n3_ n4_ n5_; (try clear hb); (try clear hb2); (try clear hk); (try clear hi)))
  go_loopg [4] k (fun kq v4 w' => ∃ (x4_1 : Int) (x1001_1 : Int) (x570007000_1 : Int) (x570007001_1 : List Int) (u570007001 : Value), v4 = .int .i64 x4_1 ∧ Aside0 (spec_l72Map.l0 kq x4_1 s0_0 x1001_1 x570007000_1 x570007001_1 = some (r1, r2, r3)) ∧ Aside0 (kq ≤ k) ∧ Aside0 (Kd.Q (Kd.int .i64) 3 w' w.heap.size (fun _ => True) u570007001 x570007001_1) ∧ Aside0 (w'.heap[gb570001]? = some (.cells #[.int .i64 0, (.slice none 0 0)] 27 (0, 0))) ∧ Aside0 (w'.heap[gb570006]? = some (.cells #[.int .i64 x570007000_1, u570007001] 27 (0, 0))) ∧ Aside0 (IsS76 w0 w' g s0_0 x1001_1) ∧ Aside0 (KeepBut w w' g none) ∧ Aside0 (Below w0.heap.size w0 w'))
  case atStart => exact ⟨(t570007), (t570008), (t570002), (t570003), (.slice Ao10 t570003.length co10), (by first | rfl | (simp; done) | (simp [*]; done)), H', ⟨Nat.le_refl _⟩, ⟨Kd.Q_of_R (by (with_reducible repeat (first | apply Kd.R_alloc | apply Kd.R_drewN | apply Kd.R_drew)); exact HO570005.out)⟩, ⟨by (with_reducible repeat (first | refine blk_drewN ?_ _ | refine blk_drew ?_ | refine blk_alloc ?_ _)); exact BK570001.out⟩, ⟨by (with_reducible repeat (first | refine blk_drewN ?_ _ | refine blk_drew ?_ | refine blk_alloc ?_ _)); exact BK570006.out⟩, ⟨by repeat (first | (with_reducible first | exact HI0.out | apply IsS76.alloc | apply IsS76.drewN | apply IsS76.drew | apply IsS76.set_1 | refine IsS76.far ?_ NB0_570001.out _ | refine IsS76.far ?_ NB0_570006.out _) | exact HI0.out)⟩, ⟨by repeat (first | (with_reducible first | exact HK.out | apply KeepBut.set_ | apply keep_drewN | apply keep_drew | apply keep_alloc | refine keep_far ?_ GW570001.out _ | refine keep_far ?_ GW570006.out _) | exact HK.out)⟩, ⟨by repeat (first | (with_reducible first | exact HB.out | apply below_alloc | apply pw_below_drewN | apply below_drew1 | refine below_set ?_ (IsS76.ge HI0.out) | refine below_set ?_ GE570001.out | refine below_set ?_ GE570006.out) | exact HB.out)⟩⟩
  case round =>
    clear H'
    try clear c1
    try clear p2
    try clear c5
    try clear c7
    try clear c8
    try clear hcz9_0
    try clear hcz9_1
    try clear hfz9_0
    try clear hfz9_1
    obtain ⟨x4_1, x1001_1, x570007000_1, x570007001_1, u570007001, rfl, HA, HK1, HO_570007001, BK570001, BK570006, HI0, HK, HB⟩ := hrel
    cases gk with
    | zero => exact absurd HA.out (by simp [spec_l72Map.l0])
    | succ k1 =>
      have H := HA.out
      clear HA
      simp only [spec_l72Map.l0] at H
      by_cases c12 : x4_1 > 0
      · rw [if_pos c12] at H
        have c12b0 : decide (0 < x4_1) = true := decide_eq_true c12
        clear c12
        replace H := Option.bind_eq_some_iff.mp H
        obtain ⟨⟨t570009, t570010⟩, A130, H⟩ := H
        replace H : ((spec_l6Rd_pick.f k1 s0_0 t570010 3).bind fun bt570011 => ((spec_MapMove.f k1 x570007000_1 x570007001_1 t570009 bt570011.1).bind fun bt570013 => (spec_l72Map.l0 k1 (wrap64 (x4_1 - 1)) s0_0 bt570011.2 bt570013.1 bt570013.2.1))) = some (r1, r2, r3) := H
        have A13 := Aside0.mk A130
        clear A130
        replace H := Option.bind_eq_some_iff.mp H
        obtain ⟨⟨t570011, t570012⟩, A140, H⟩ := H
        replace H : ((spec_MapMove.f k1 x570007000_1 x570007001_1 t570009 t570011).bind fun bt570013 => (spec_l72Map.l0 k1 (wrap64 (x4_1 - 1)) s0_0 t570012 bt570013.1 bt570013.2.1)) = some (r1, r2, r3) := H
        have A14 := Aside0.mk A140
        clear A140
        replace H := Option.bind_eq_some_iff.mp H
        obtain ⟨⟨t570013, t570014, t570017⟩, A150, H⟩ := H
        replace H : (spec_l72Map.l0 k1 (wrap64 (x4_1 - 1)) s0_0 t570012 t570013 t570014) = some (r1, r2, r3) := H
        have A15 := Aside0.mk A150
        clear A150
        have H' := Aside0.mk H
        clear H
        try go_wp2
        have n0_ := Aside0.mk (Kd.Q_drew HO_570007001.out)
        have n1_ := Aside0.mk (blk_drew BK570001.out)
        have n2_ := Aside0.mk (blk_drew BK570006.out)
        have n3_ := Aside0.mk (IsS76.drew HI0.out)
        have n4_ := Aside0.mk (keep_drew HK.out)
        have n5_ := Aside0.mk (below_drew1 HB.out)
        clear HO_570007001
        clear BK570001
        clear BK570006
        clear HI0
        clear HK
        clear HB
        have HO_570007001 := n0_
        have BK570001 := n1_
        have BK570006 := n2_
        have HI0 := n3_
        have HK := n4_
        have HB := n5_
        clear n0_ n1_ n2_ n3_ n4_ n5_
        refine start_ (n := 10) (S := fun w' => w'.cell? ⟨gb570006, 0, none⟩ = some (.int .i64 x570007000_1) ∧ w'.cell? ⟨gb570006, 1, none⟩ = some (u570007001)) (ds := [9]) #[false, false, false, false, false, false, false, false, false, false] (by kernel_rfl) rfl rfl ⟨(blk_cell BK570006.out 0).trans rfl, (blk_cell BK570006.out 1).trans rfl⟩ (fun hHeld => ?_); refine with_tabW spec_l72Map.tab5 spec_l72Map.bits5 (fun HT_ HW_ => ?_)
        generalize wr.drew = w16 at HO_570007001 BK570001 BK570006 HI0 HK HB hHeld ⊢
        refine pure_ (i := 1) (N := some 14) (v := ?_) (a' := ?_) #[false, true, false, false, false, false, false, false, false, false] rfl rfl (any_of HT_.out (by kernel_rfl)) (fun _ _ _ h => h) (Or.inl ⟨by rfl, ?_⟩) ?_ ?_
        rotate_left
        · intro w'
          go_simp
          with_reducible rfl
        rotate_left
        · simp only [Act.put, List.setIfInBounds_toArray, List.set_cons_zero, List.set_cons_succ, i64_w, i32_w]
          rfl
        refine pure_ (i := 3) (N := some 16) (v := ?_) (a' := ?_) #[false, true, false, true, false, false, false, false, false, false] rfl rfl (any_of HT_.out (by kernel_rfl)) (fun _ _ _ h => h) (Or.inl ⟨by rfl, ?_⟩) ?_ ?_
        rotate_left
        · intro w'
          go_simp
          with_reducible rfl
        rotate_left
        · simp only [Act.put, List.setIfInBounds_toArray, List.set_cons_zero, List.set_cons_succ, i64_w, i32_w]
          rfl
        refine take_ (i := 0) (N := some 13) (v := ?_) (a' := ?_) #[true, true, false, true, false, false, false, false, false, false] rfl rfl (take_ofW HT_.out HW_.out (by kernel_rfl)) (fun _ _ _ h => h) (Or.inl ⟨by rfl, ?_⟩) hHeld ?_ ?_
        rotate_left
        · rintro w' ⟨s0, s1⟩
          go_simp
          with_reducible rfl
        rotate_left
        · simp only [Act.put, List.setIfInBounds_toArray, List.set_cons_zero, List.set_cons_succ, i64_w, i32_w]
          rfl
        refine one_ (i := 2) (N := some 15) #[true, true, true, true, false, false, false, false, false, false] rfl rfl (one_of HT_.out (by kernel_rfl)) (by decide) (fun K hK => ?_)
        refine goes_ Try.func57 (by kernel_rfl) rfl #[.pointer (some ⟨g, 0, none⟩), .int .i64 8] (by rfl) rfl rfl (by (try simp only [List.map_toArray, List.map_cons, List.map_nil]); first | done | rfl | (simp only [List.length_drop, List.length_take]; rfl)) ?_
        with_reducible refine (spec_l6Rd_pick.calls k1 g s0_0 x1001_1 8 t570009 t570010 w0 _ ?side1 ?side2 A13.out).mono ?_
        (case side1 => repeat (first | (with_reducible first | exact HI0.out | apply IsS76.alloc | apply IsS76.drewN | apply IsS76.drew | apply IsS76.set_1 | refine IsS76.far ?_ NB0_570001.out _ | refine IsS76.far ?_ NB0_570006.out _) | exact HI0.out))
        (case side2 => repeat (first | (with_reducible first | exact HB.out | apply below_alloc | apply pw_below_drewN | apply below_drew1 | refine below_set ?_ (IsS76.ge HI0.out) | refine below_set ?_ GE570001.out | refine below_set ?_ GE570006.out) | exact HB.out))
        rintro e w17 ⟨rfl, hi, hb, hk⟩
        refine ⟨_, rfl, ?_⟩
        have n0_ := Aside0.mk (Kd.Q_mono (Kd.Q_keep (IsS76.apartQ (show IsS76 w0 _ g s0_0 x1001_1 from by repeat (first | (with_reducible first | exact HI0.out | apply IsS76.alloc | apply IsS76.drewN | apply IsS76.drew | apply IsS76.set_1 | refine IsS76.far ?_ NB0_570001.out _ | refine IsS76.far ?_ NB0_570006.out _) | exact HI0.out)) (by (with_reducible repeat (first | apply Kd.Q_alloc | apply Kd.Q_drewN | apply Kd.Q_drew)); exact HO_570007001.out) (by decide)) hk (fun _ h => h.2)) (fun _ h => h.1))
        have n1_ := Aside0.mk (KeepBut.blk hk (g' := gb570001) (o := .cells #[.int .i64 0, .slice none 0 0] 27 (0, 0)) (by (with_reducible repeat (first | refine blk_drewN ?_ _ | refine blk_drew ?_ | refine blk_alloc ?_ _)); exact BK570001.out) NB570001_0.out (by simp))
        have n2_ := Aside0.mk (KeepBut.blk hk (g' := gb570006) (o := .cells #[.int .i64 x570007000_1, u570007001] 27 (0, 0)) (by (with_reducible repeat (first | refine blk_drewN ?_ _ | refine blk_drew ?_ | refine blk_alloc ?_ _)); exact BK570006.out) NB570006_0.out (by simp))
        have n3_ := Aside0.mk (KeepBut.trans (by repeat (first | (with_reducible first | exact HK.out | apply KeepBut.set_ | apply keep_drewN | apply keep_drew | apply keep_alloc | refine keep_far ?_ GW570001.out _ | refine keep_far ?_ GW570006.out _) | exact HK.out)) hk (.inl rfl))
        have n4_ := Aside0.mk (hb)
        have n5_ := Aside0.mk (hi)
        clear HO_570007001
        clear BK570001
        clear BK570006
        clear HK
        clear HB
        clear HI0
        have HO_570007001 := n0_
        have BK570001 := n1_
        have BK570006 := n2_
        have HK := n3_
        have HB := n4_
        have HI0 := n5_
        clear n0_ n1_ n2_ n3_ n4_ n5_
        (try clear hb)
        (try clear hb2)
        (try clear hk)
        (try clear hi)
        refine hK.out _ _ ⟨(blk_cell BK570006.out 0).trans rfl, (blk_cell BK570006.out 1).trans rfl⟩ (fun hHeld => ?_)
        clear hK K
        refine norm_ (a' := ?_) ?_ ?_
        rotate_left
        · show Act.put _ (some 15) _ = _
          simp only [Act.put, List.setIfInBounds_toArray, List.set_cons_zero, List.set_cons_succ, i64_w, i32_w]
          rfl
        refine one_ (i := 4) (N := some 17) #[true, true, true, true, true, false, false, false, false, false] rfl rfl (one_of HT_.out (by kernel_rfl)) (by decide) (fun K hK => ?_)
        refine goes_ Try.func57 (by kernel_rfl) rfl #[.pointer (some ⟨g, 0, none⟩), .int .i64 3] (by rfl) rfl rfl (by (try simp only [List.map_toArray, List.map_cons, List.map_nil]); first | done | rfl | (simp only [List.length_drop, List.length_take]; rfl)) ?_
        with_reducible refine (spec_l6Rd_pick.calls k1 g s0_0 t570010 3 t570011 t570012 w0 _ ?side1 ?side2 A14.out).mono ?_
        (case side1 => repeat (first | (with_reducible first | exact HI0.out | apply IsS76.alloc | apply IsS76.drewN | apply IsS76.drew | apply IsS76.set_1 | refine IsS76.far ?_ NB0_570001.out _ | refine IsS76.far ?_ NB0_570006.out _) | exact HI0.out))
        (case side2 => repeat (first | (with_reducible first | exact HB.out | apply below_alloc | apply pw_below_drewN | apply below_drew1 | refine below_set ?_ (IsS76.ge HI0.out) | refine below_set ?_ GE570001.out | refine below_set ?_ GE570006.out) | exact HB.out))
        rintro e w18 ⟨rfl, hi, hb, hk⟩
        refine ⟨_, rfl, ?_⟩
        have n0_ := Aside0.mk (Kd.Q_mono (Kd.Q_keep (IsS76.apartQ (show IsS76 w0 _ g s0_0 t570010 from by repeat (first | (with_reducible first | exact HI0.out | apply IsS76.alloc | apply IsS76.drewN | apply IsS76.drew | apply IsS76.set_1 | refine IsS76.far ?_ NB0_570001.out _ | refine IsS76.far ?_ NB0_570006.out _) | exact HI0.out)) (by (with_reducible repeat (first | apply Kd.Q_alloc | apply Kd.Q_drewN | apply Kd.Q_drew)); exact HO_570007001.out) (by decide)) hk (fun _ h => h.2)) (fun _ h => h.1))
        have n1_ := Aside0.mk (KeepBut.blk hk (g' := gb570001) (o := .cells #[.int .i64 0, .slice none 0 0] 27 (0, 0)) (by (with_reducible repeat (first | refine blk_drewN ?_ _ | refine blk_drew ?_ | refine blk_alloc ?_ _)); exact BK570001.out) NB570001_0.out (by simp))
        have n2_ := Aside0.mk (KeepBut.blk hk (g' := gb570006) (o := .cells #[.int .i64 x570007000_1, u570007001] 27 (0, 0)) (by (with_reducible repeat (first | refine blk_drewN ?_ _ | refine blk_drew ?_ | refine blk_alloc ?_ _)); exact BK570006.out) NB570006_0.out (by simp))
        have n3_ := Aside0.mk (KeepBut.trans (by repeat (first | (with_reducible first | exact HK.out | apply KeepBut.set_ | apply keep_drewN | apply keep_drew | apply keep_alloc | refine keep_far ?_ GW570001.out _ | refine keep_far ?_ GW570006.out _) | exact HK.out)) hk (.inl rfl))
        have n4_ := Aside0.mk (hb)
        have n5_ := Aside0.mk (hi)
        clear HO_570007001
        clear BK570001
        clear BK570006
        clear HK
        clear HB
        clear HI0
        have HO_570007001 := n0_
        have BK570001 := n1_
        have BK570006 := n2_
        have HK := n3_
        have HB := n4_
        have HI0 := n5_
        clear n0_ n1_ n2_ n3_ n4_ n5_
        (try clear hb)
        (try clear hb2)
        (try clear hk)
        (try clear hi)
        obtain ⟨Ao19, co19, eo19, _⟩ := Kd.Q_slice HO_570007001.out
        (first | subst eo19 | (injection eo19 with f1_ f2_ f3_; have f4_ := f1_.symm; have f5_ := f3_.symm; clear f1_ f2_ f3_; subst f4_; subst f5_))
        refine hK.out _ _ ⟨(blk_cell BK570006.out 0).trans rfl, (blk_cell BK570006.out 1).trans rfl⟩ (fun hHeld => ?_)
        clear hK K
        refine norm_ (a' := ?_) ?_ ?_
        rotate_left
        · show Act.put _ (some 17) _ = _
          simp only [Act.put, List.setIfInBounds_toArray, List.set_cons_zero, List.set_cons_succ, i64_w, i32_w]
          rfl
        refine one_ (i := 5) (N := some 18) #[true, true, true, true, true, true, false, false, false, false] rfl rfl (one_of HT_.out (by kernel_rfl)) (by decide) (fun K hK => ?_)
        refine goes_ Try.func29 (by kernel_rfl) rfl #[.agg #[.int .i64 x570007000_1, .slice Ao19 x570007001_1.length co19], .int .i64 t570009, .int .i64 t570011] (by rfl) rfl rfl (by (try simp only [List.map_toArray, List.map_cons, List.map_nil]); first | done | rfl | (simp only [List.length_drop, List.length_take]; rfl)) ?_
        with_reducible refine (spec_MapMove.calls k1 x570007000_1 _ _ x570007001_1 t570009 t570011 t570013 t570014 t570017 _ ?side1 ?side2 A15.out).mono ?_
        (case side1 => repeat (first | exact (Kd.Q_reads' HO_570007001.out).2.2 | (with_reducible refine Kd.C_alloc ?_ _) | (with_reducible refine Kd.C_drewN ?_ _) | (with_reducible refine Kd.C_drew ?_)))
        (case side2 => exact (Kd.Q_reads' HO_570007001.out).2.1)
        rintro e w20 ⟨v570015, rfl, ho0, hb⟩
        refine ⟨_, rfl, ?_⟩
        have n0_ := Aside0.mk (Kd.Q_elder' (by (with_reducible repeat (first | apply Kd.Q_alloc | apply Kd.Q_drewN | apply Kd.Q_drew)); exact HO_570007001.out) (Kd.R_base ho0) hb)
        have n1_ := Aside0.mk (Kd.R_lower (Kd.R_new' ho0 (Kd.Q_lt (by (with_reducible repeat (first | apply Kd.Q_alloc | apply Kd.Q_drewN | apply Kd.Q_drew)); exact HO_570007001.out))) (keep_size (w := w) (g := g) (row := none) (by repeat (first | (with_reducible first | exact HK.out | apply KeepBut.set_ | apply keep_drewN | apply keep_drew | apply keep_alloc | refine keep_far ?_ GW570001.out _ | refine keep_far ?_ GW570006.out _) | exact HK.out))))
        have n2_ := Aside0.mk (blk_below (g := gb570001) (o := .cells #[.int .i64 0, .slice none 0 0] 27 (0, 0)) (by (with_reducible repeat (first | refine blk_drewN ?_ _ | refine blk_drew ?_ | refine blk_alloc ?_ _)); exact BK570001.out) hb)
        have n3_ := Aside0.mk (blk_below (g := gb570006) (o := .cells #[.int .i64 x570007000_1, .slice Ao19 x570007001_1.length co19] 27 (0, 0)) (by (with_reducible repeat (first | refine blk_drewN ?_ _ | refine blk_drew ?_ | refine blk_alloc ?_ _)); exact BK570006.out) hb)
        have n4_ := Aside0.mk (IsS76.below (by repeat (first | (with_reducible first | exact HI0.out | apply IsS76.alloc | apply IsS76.drewN | apply IsS76.drew | apply IsS76.set_1 | refine IsS76.far ?_ NB0_570001.out _ | refine IsS76.far ?_ NB0_570006.out _) | exact HI0.out)) hb)
        have n5_ := Aside0.mk (KeepBut.trans (by repeat (first | (with_reducible first | exact HK.out | apply KeepBut.set_ | apply keep_drewN | apply keep_drew | apply keep_alloc | refine keep_far ?_ GW570001.out _ | refine keep_far ?_ GW570006.out _) | exact HK.out)) (KeepBut.of_below hb g none) (.inl rfl))
        have n6_ := Aside0.mk (below_step (by repeat (first | (with_reducible first | exact HB.out | apply below_alloc | apply pw_below_drewN | apply below_drew1 | refine below_set ?_ (IsS76.ge HI0.out) | refine below_set ?_ GE570001.out | refine below_set ?_ GE570006.out) | exact HB.out)) hb)
        clear HO_570007001
        clear BK570001
        clear BK570006
        clear HI0
        clear HK
        clear HB
        have HO_570007001 := n0_
        have HO570016 := n1_
        have BK570001 := n2_
        have BK570006 := n3_
        have HI0 := n4_
        have HK := n5_
        have HB := n6_
        clear n0_ n1_ n2_ n3_ n4_ n5_ n6_
        (try clear hb)
        (try clear hb2)
        (try clear hk)
        (try clear hi)
        (try clear ho0)
        obtain ⟨Ao22, co22, eo22⟩ := Kd.R_slice HO570016.out
        (first | subst eo22 | (injection eo22 with f1_ f2_ f3_; have f4_ := f1_.symm; have f5_ := f3_.symm; clear f1_ f2_ f3_; subst f4_; subst f5_))
        refine hK.out _ _ ⟨(blk_cell BK570006.out 0).trans rfl, (blk_cell BK570006.out 1).trans rfl⟩ (fun hHeld => ?_)
        clear hK K
        refine norm_ (a' := ?_) ?_ ?_
        rotate_left
        · show Act.put _ (some 18) _ = _
          simp only [Act.put, List.setIfInBounds_toArray, List.set_cons_zero, List.set_cons_succ, i64_w, i32_w]
          rfl
        refine pure_ (i := 6) (N := some 12) (v := ?_) (a' := ?_) #[true, true, true, true, true, true, true, false, false, false] rfl rfl (any_of HT_.out (by kernel_rfl)) (fun _ _ _ h => h) (Or.inl ⟨by rfl, ?_⟩) ?_ ?_
        rotate_left
        · intro w'
          go_simp
          with_reducible rfl
        rotate_left
        · simp only [Act.put, List.setIfInBounds_toArray, List.set_cons_zero, List.set_cons_succ, i64_w, i32_w]
          rfl
        refine pure_ (i := 7) (N := some 19) (v := ?_) (a' := ?_) #[true, true, true, true, true, true, true, true, false, false] rfl rfl (any_of HT_.out (by kernel_rfl)) (fun _ _ _ h => h) (Or.inl ⟨by rfl, ?_⟩) ?_ ?_
        rotate_left
        · intro w'
          go_simp
          with_reducible rfl
        rotate_left
        · simp only [Act.put, List.setIfInBounds_toArray, List.set_cons_zero, List.set_cons_succ, i64_w, i32_w]
          rfl
        refine pure_ (i := 8) (N := some 20) (v := ?_) (a' := ?_) #[true, true, true, true, true, true, true, true, true, false] rfl rfl (any_of HT_.out (by kernel_rfl)) (fun _ _ _ h => h) (Or.inl ⟨by rfl, ?_⟩) ?_ ?_
        rotate_left
        · intro w'
          go_simp
          with_reducible rfl
        rotate_left
        · simp only [Act.put, List.setIfInBounds_toArray, List.set_cons_zero, List.set_cons_succ, i64_w, i32_w]
          rfl
        refine last_ (i := 9) (N := none) #[true, true, true, true, true, true, true, true, true, true] rfl rfl (one_of HT_.out (by kernel_rfl)) (by decide) (fun K hK => ?_)
        have hs21 : w20.cell? ⟨gb570006, 0, none⟩ = some (.int .i64 x570007000_1) := (blk_cell BK570006.out 0).trans rfl
        have hfs21 := blk_frozen BK570006.out 0
        have hns21_0 := NB570001_570006.out
        have hms21_0 := NB570006_570001.out
        have hs23 : w20.cell? ⟨gb570006, 1, none⟩ = some (.slice Ao19 x570007001_1.length co19) := (blk_cell BK570006.out 1).trans rfl
        have hfs23 := blk_frozen BK570006.out 1
        have hns23_0 := NB570001_570006.out
        have hms23_0 := NB570006_570001.out
        refine skip_ (w1 := ?_) (by rfl) rfl ?_ ?_
        rotate_left
        · go_simp
          rfl
        refine hK.out _ _ ?_
        clear hK K
        refine done_ (done_of HT_.out (by kernel_rfl)) ?_
        try go_wp2
        go_roundg k1
        case measure => have := HK1.out; omega
        case rel => exact ⟨(wrap64 (x4_1 - 1)), (t570012), (t570013), (t570014), (.slice Ao22 t570014.length co22), (by first | rfl | (simp; done) | (simp [*]; done)), H', ⟨by have := HK1.out; omega⟩, ⟨Kd.Q_of_R (by (with_reducible repeat (first | apply Kd.R_alloc | apply Kd.R_drewN | apply Kd.R_drew)); exact Kd.R_mono (Kd.R_far (p := ⟨gb570006, 1, none⟩) (Kd.R_far (p := ⟨gb570006, 0, none⟩) (Kd.R_types HO570016.out BK570006.out (by decide)) (fun _ hk => hk.2) (.int .i64 t570013)) (fun _ hk => hk.2) (.slice Ao22 t570014.length co22)) (fun _ hk => trivial))⟩, ⟨by (with_reducible repeat (first | refine blk_drewN ?_ _ | refine blk_drew ?_ | refine blk_alloc ?_ _)); refine blk_far ?_ NB570001_570006.out _; (with_reducible repeat (first | refine blk_drewN ?_ _ | refine blk_drew ?_ | refine blk_alloc ?_ _)); refine blk_far ?_ NB570001_570006.out _; (with_reducible repeat (first | refine blk_drewN ?_ _ | refine blk_drew ?_ | refine blk_alloc ?_ _)); exact BK570001.out⟩, ⟨by (with_reducible repeat (first | refine blk_drewN ?_ _ | refine blk_drew ?_ | refine blk_alloc ?_ _)); refine blk_put (cs := #[.int .i64 t570013, .slice Ao19 x570007001_1.length co19]) ?_ 1 _ rfl; (with_reducible repeat (first | refine blk_drewN ?_ _ | refine blk_drew ?_ | refine blk_alloc ?_ _)); refine blk_put (cs := #[.int .i64 x570007000_1, .slice Ao19 x570007001_1.length co19]) ?_ 0 _ rfl; (with_reducible repeat (first | refine blk_drewN ?_ _ | refine blk_drew ?_ | refine blk_alloc ?_ _)); exact BK570006.out⟩, ⟨by repeat (first | (with_reducible first | exact HI0.out | apply IsS76.alloc | apply IsS76.drewN | apply IsS76.drew | apply IsS76.set_1 | refine IsS76.far ?_ NB0_570001.out _ | refine IsS76.far ?_ NB0_570006.out _) | exact HI0.out)⟩, ⟨by repeat (first | (with_reducible first | exact HK.out | apply KeepBut.set_ | apply keep_drewN | apply keep_drew | apply keep_alloc | refine keep_far ?_ GW570001.out _ | refine keep_far ?_ GW570006.out _) | exact HK.out)⟩, ⟨by repeat (first | (with_reducible first | exact HB.out | apply below_alloc | apply pw_below_drewN | apply below_drew1 | refine below_set ?_ (IsS76.ge HI0.out) | refine below_set ?_ GE570001.out | refine below_set ?_ GE570006.out) | exact HB.out)⟩⟩
      · rw [if_neg c12] at H
        have c12b0 : decide (0 < x4_1) = false := decide_eq_false c12
        clear c12
        replace H := Option.bind_eq_some_iff.mp H
        obtain ⟨⟨t570018, t570019⟩, A240, H⟩ := H
        replace H : (if t570018 = 0 then ((some (([0, 99, 100] : List Int) : List Int)).bind fun y570020 => ((spec_l6Rd_pick.f k1 s0_0 t570019 3).bind fun bt570023 => (if 0 ≤ bt570023.1 then (if bt570023.1 < (y570020.length : Int) then (some (rd y570020 bt570023.1, x570007001_1, bt570023.2)) else (none)) else (none)))) else (if t570018 = 1 then ((spec_l6Rd_pick.f k1 s0_0 t570019 8).bind fun bt570026 => ((some (([(-1), 3] : List Int) : List Int)).bind fun y570028 => ((spec_l6Rd_pick.f k1 s0_0 bt570026.2 2).bind fun bt570031 => (if 0 ≤ bt570031.1 then (if bt570031.1 < (y570028.length : Int) then (if 0 ≤ bt570026.1 then (if bt570026.1 < (x570007001_1.length : Int) then (some (x570007000_1, (x570007001_1.set (bt570026.1 : Int).toNat (rd y570028 bt570031.1)), bt570031.2)) else (none)) else (none)) else (none)) else (none))))) else (if t570018 = 2 then (if 1 ≤ (x570007001_1.length : Int) then (some (x570007000_1, (x570007001_1.drop (1 : Int).toNat), t570019)) else (none)) else (some (x570007000_1, x570007001_1, t570019))))) = some (r1, r2, r3) := H
        have A24 := Aside0.mk A240
        clear A240
        by_cases c25 : t570018 = 0
        · rw [if_pos c25] at H
          have c25b0 : (t570018 == 0) = true := beq_iff_eq.mpr c25
          have c25b1 : (t570018 != 0) = false := bne_eq_false_iff_eq.mpr c25
          clear c25
          obtain ⟨y570020, hy570020⟩ : ∃ y_ : List Int, y_ = (([0, 99, 100] : List Int)) := ⟨_, rfl⟩
          replace H : ((spec_l6Rd_pick.f k1 s0_0 t570019 3).bind fun bt570023 => (if 0 ≤ bt570023.1 then (if bt570023.1 < (y570020.length : Int) then (some (rd y570020 bt570023.1, x570007001_1, bt570023.2)) else (none)) else (none))) = some (r1, r2, r3) := by first | (rw [hy570020]; with_reducible exact H) | (have H2_ := (Option.bind_some _ _).symm.trans H; rw [hy570020]; with_reducible exact H2_) | (have H2_ := (Option.bind_some _ _).symm.trans H; with_reducible exact H2_) | with_reducible exact H | (rw [hy570020]; exact H) | exact H
          have Ny570020 := Aside0.mk hy570020
          clear hy570020
          replace H := Option.bind_eq_some_iff.mp H
          obtain ⟨⟨t570023, t570024⟩, A260, H⟩ := H
          replace H : (if 0 ≤ t570023 then (if t570023 < (y570020.length : Int) then (some (rd y570020 t570023, x570007001_1, t570024)) else (none)) else (none)) = some (r1, r2, r3) := H
          have A26 := Aside0.mk A260
          clear A260
          by_cases c27 : 0 ≤ t570023
          · rw [if_pos c27] at H
            have c27b0 : decide (0 ≤ t570023) = true := decide_eq_true c27
            clear c27
            by_cases c28 : t570023 < (y570020.length : Int)
            · rw [if_pos c28] at H
              have c28b0 : decide (t570023 < (y570020.length : Int)) = true := decide_eq_true c28
              clear c28
              simp only [Option.some.injEq, Prod.mk.injEq] at H
              obtain ⟨rfl, rfl, rfl⟩ := H
              go_wp2_with (first | ((with_reducible refine gate_callee (f := 57) rfl ?_); refine goesL_ (some 22) rfl rfl Try.func57 (by kernel_rfl) rfl #[.pointer (some ⟨g, 0, none⟩), .int .i64 14] rfl (by (try simp only [List.map_toArray, List.map_cons, List.map_nil]); first | done | rfl | (simp only [List.length_drop, List.length_take]; rfl)) ?_; (with_reducible refine (spec_l6Rd_pick.calls k1 g s0_0 x1001_1 14 t570018 t570019 w0 _ ?side1 ?side2 A24.out).mono ?_); (case side1 => repeat (first | (with_reducible first | exact HI0.out | apply IsS76.alloc | apply IsS76.drewN | apply IsS76.drew | apply IsS76.set_1 | refine IsS76.far ?_ NB0_570001.out _ | refine IsS76.far ?_ NB0_570006.out _) | exact HI0.out)); (case side2 => repeat (first | (with_reducible first | exact HB.out | apply below_alloc | apply pw_below_drewN | apply below_drew1 | refine below_set ?_ (IsS76.ge HI0.out) | refine below_set ?_ GE570001.out | refine below_set ?_ GE570006.out) | exact HB.out)); rintro e w29 ⟨rfl, hi, hb, hk⟩; refine ⟨_, rfl, ?_⟩; have n0_ := Aside0.mk (Kd.Q_mono (Kd.Q_keep (IsS76.apartQ (show IsS76 w0 _ g s0_0 x1001_1 from by repeat (first | (with_reducible first | exact HI0.out | apply IsS76.alloc | apply IsS76.drewN | apply IsS76.drew | apply IsS76.set_1 | refine IsS76.far ?_ NB0_570001.out _ | refine IsS76.far ?_ NB0_570006.out _) | exact HI0.out)) (by (with_reducible repeat (first | apply Kd.Q_alloc | apply Kd.Q_drewN | apply Kd.Q_drew)); exact HO_570007001.out) (by decide)) hk (fun _ h => h.2)) (fun _ h => h.1)); have n1_ := Aside0.mk (KeepBut.blk hk (g' := gb570001) (o := .cells #[.int .i64 0, .slice none 0 0] 27 (0, 0)) (by (with_reducible repeat (first | refine blk_drewN ?_ _ | refine blk_drew ?_ | refine blk_alloc ?_ _)); exact BK570001.out) NB570001_0.out (by simp)); have n2_ := Aside0.mk (KeepBut.blk hk (g' := gb570006) (o := .cells #[.int .i64 x570007000_1, u570007001] 27 (0, 0)) (by (with_reducible repeat (first | refine blk_drewN ?_ _ | refine blk_drew ?_ | refine blk_alloc ?_ _)); exact BK570006.out) NB570006_0.out (by simp)); have n3_ := Aside0.mk (KeepBut.trans (by repeat (first | (with_reducible first | exact HK.out | apply KeepBut.set_ | apply keep_drewN | apply keep_drew | apply keep_alloc | refine keep_far ?_ GW570001.out _ | refine keep_far ?_ GW570006.out _) | exact HK.out)) hk (.inl rfl)); have n4_ := Aside0.mk (hb); have n5_ := Aside0.mk (hi); clear HO_570007001; clear BK570001; clear BK570006; clear HK; clear HB; clear HI0; have HO_570007001 := n0_; have BK570001 := n1_; have BK570006 := n2_; have HK := n3_; have HB := n4_; have HI0 := n5_; clear n0_ n1_ n2_ n3_ n4_ n5_; (try clear hb); (try clear hb2); (try clear hk); (try clear hi)) | ((with_reducible refine gate_dst (N := 25) rfl ?_); refine Kd.R_lit (Kd.int .i64) _ 3 ?hg (N := 25) ?hd (xs := ([0, 99, 100] : List Int)) (inner := [.int .i64 0, .int .i64 99, .int .i64 100]) (ok := fun _ => True) (okp := fun _ => True) ?hr ?hp (fun _ hk => hk) trivial (Below.refl _ _) (Nat.le_refl _) (by simp) ?_; (case hd => rfl); (case hg => rfl); (case hr => first | (go_simp; done) | (go_simp; rfl)); (case hp => exact (Reps.one (show Kd.M (Kd.int .i64) _ _ _ 0 [.int .i64 0] from rfl) (Reps.one (show Kd.M (Kd.int .i64) _ _ _ 99 [.int .i64 99] from rfl) (Reps.one (show Kd.M (Kd.int .i64) _ _ _ 100 [.int .i64 100] from rfl) (Reps.none _ _))))); intro v570021 w30 ho31 hb hg_ hnew_; clear hg_ hnew_; (first | rw [← Ny570020.out] at ho31 | (simp only [Int.reduceToNat] at ho31; rw [← Ny570020.out] at ho31)); have n0_ := Aside0.mk (Kd.Q_elder' (by (with_reducible repeat (first | apply Kd.Q_alloc | apply Kd.Q_drewN | apply Kd.Q_drew)); exact HO_570007001.out) (Kd.R_base ho31) hb); have n1_ := Aside0.mk (Kd.R_lower (Kd.R_new' ho31 (Kd.Q_lt (by (with_reducible repeat (first | apply Kd.Q_alloc | apply Kd.Q_drewN | apply Kd.Q_drew)); exact HO_570007001.out))) (keep_size (w := w) (g := g) (row := none) (by repeat (first | (with_reducible first | exact HK.out | apply KeepBut.set_ | apply keep_drewN | apply keep_drew | apply keep_alloc | refine keep_far ?_ GW570001.out _ | refine keep_far ?_ GW570006.out _) | exact HK.out)))); have n2_ := Aside0.mk (blk_below (g := gb570001) (o := .cells #[.int .i64 0, .slice none 0 0] 27 (0, 0)) (by (with_reducible repeat (first | refine blk_drewN ?_ _ | refine blk_drew ?_ | refine blk_alloc ?_ _)); exact BK570001.out) hb); have n3_ := Aside0.mk (blk_below (g := gb570006) (o := .cells #[.int .i64 x570007000_1, u570007001] 27 (0, 0)) (by (with_reducible repeat (first | refine blk_drewN ?_ _ | refine blk_drew ?_ | refine blk_alloc ?_ _)); exact BK570006.out) hb); have n4_ := Aside0.mk (IsS76.below (by repeat (first | (with_reducible first | exact HI0.out | apply IsS76.alloc | apply IsS76.drewN | apply IsS76.drew | apply IsS76.set_1 | refine IsS76.far ?_ NB0_570001.out _ | refine IsS76.far ?_ NB0_570006.out _) | exact HI0.out)) hb); have n5_ := Aside0.mk (KeepBut.trans (by repeat (first | (with_reducible first | exact HK.out | apply KeepBut.set_ | apply keep_drewN | apply keep_drew | apply keep_alloc | refine keep_far ?_ GW570001.out _ | refine keep_far ?_ GW570006.out _) | exact HK.out)) (KeepBut.of_below hb g none) (.inl rfl)); have n6_ := Aside0.mk (below_step (by repeat (first | (with_reducible first | exact HB.out | apply below_alloc | apply pw_below_drewN | apply below_drew1 | refine below_set ?_ (IsS76.ge HI0.out) | refine below_set ?_ GE570001.out | refine below_set ?_ GE570006.out) | exact HB.out)) hb); clear HO_570007001; clear BK570001; clear BK570006; clear HI0; clear HK; clear HB; have HO_570007001 := n0_; have HO570022 := n1_; have BK570001 := n2_; have BK570006 := n3_; have HI0 := n4_; have HK := n5_; have HB := n6_; clear n0_ n1_ n2_ n3_ n4_ n5_ n6_; clear hb ho31) | ((with_reducible refine gate_callee (f := 57) rfl ?_); refine goesL_ (some 27) rfl rfl Try.func57 (by kernel_rfl) rfl #[.pointer (some ⟨g, 0, none⟩), .int .i64 3] rfl (by (try simp only [List.map_toArray, List.map_cons, List.map_nil]); first | done | rfl | (simp only [List.length_drop, List.length_take]; rfl)) ?_; (with_reducible refine (spec_l6Rd_pick.calls k1 g s0_0 t570019 3 t570023 t570024 w0 _ ?side1 ?side2 A26.out).mono ?_); (case side1 => repeat (first | (with_reducible first | exact HI0.out | apply IsS76.alloc | apply IsS76.drewN | apply IsS76.drew | apply IsS76.set_1 | refine IsS76.far ?_ NB0_570001.out _ | refine IsS76.far ?_ NB0_570006.out _) | exact HI0.out)); (case side2 => repeat (first | (with_reducible first | exact HB.out | apply below_alloc | apply pw_below_drewN | apply below_drew1 | refine below_set ?_ (IsS76.ge HI0.out) | refine below_set ?_ GE570001.out | refine below_set ?_ GE570006.out) | exact HB.out)); rintro e w32 ⟨rfl, hi, hb, hk⟩; refine ⟨_, rfl, ?_⟩; have n0_ := Aside0.mk (Kd.Q_mono (Kd.Q_keep (IsS76.apartQ (show IsS76 w0 _ g s0_0 t570019 from by repeat (first | (with_reducible first | exact HI0.out | apply IsS76.alloc | apply IsS76.drewN | apply IsS76.drew | apply IsS76.set_1 | refine IsS76.far ?_ NB0_570001.out _ | refine IsS76.far ?_ NB0_570006.out _) | exact HI0.out)) (by (with_reducible repeat (first | apply Kd.Q_alloc | apply Kd.Q_drewN | apply Kd.Q_drew)); exact HO_570007001.out) (by decide)) hk (fun _ h => h.2)) (fun _ h => h.1)); have n1_ := Aside0.mk (KeepBut.blk hk (g' := gb570001) (o := .cells #[.int .i64 0, .slice none 0 0] 27 (0, 0)) (by (with_reducible repeat (first | refine blk_drewN ?_ _ | refine blk_drew ?_ | refine blk_alloc ?_ _)); exact BK570001.out) NB570001_0.out (by simp)); have n2_ := Aside0.mk (KeepBut.blk hk (g' := gb570006) (o := .cells #[.int .i64 x570007000_1, u570007001] 27 (0, 0)) (by (with_reducible repeat (first | refine blk_drewN ?_ _ | refine blk_drew ?_ | refine blk_alloc ?_ _)); exact BK570006.out) NB570006_0.out (by simp)); have n3_ := Aside0.mk (Kd.R_mono (Kd.R_keep (IsS76.apart (show IsS76 w0 _ g s0_0 t570019 from by repeat (first | (with_reducible first | exact HI0.out | apply IsS76.alloc | apply IsS76.drewN | apply IsS76.drew | apply IsS76.set_1 | refine IsS76.far ?_ NB0_570001.out _ | refine IsS76.far ?_ NB0_570006.out _) | exact HI0.out)) (by (with_reducible repeat (first | apply Kd.R_alloc | apply Kd.R_drewN | apply Kd.R_drew)); exact HO570022.out) (by decide)) hk (fun _ h => h.2)) (fun _ h => h.1)); have n4_ := Aside0.mk (KeepBut.trans (by repeat (first | (with_reducible first | exact HK.out | apply KeepBut.set_ | apply keep_drewN | apply keep_drew | apply keep_alloc | refine keep_far ?_ GW570001.out _ | refine keep_far ?_ GW570006.out _) | exact HK.out)) hk (.inl rfl)); have n5_ := Aside0.mk (hb); have n6_ := Aside0.mk (hi); clear HO_570007001; clear BK570001; clear BK570006; clear HO570022; clear HK; clear HB; clear HI0; have HO_570007001 := n0_; have BK570001 := n1_; have BK570006 := n2_; have HO570022 := n3_; have HK := n4_; have HB := n5_; have HI0 := n6_; clear n0_ n1_ n2_ n3_ n4_ n5_ n6_; (try clear hb); (try clear hb2); (try clear hk); (try clear hi); obtain ⟨Ao33, co33, eo33⟩ := Kd.R_slice HO570022.out; subst eo33; have p570025 : 0 ≤ (t570023 : Int) := of_decide_eq_true (by first | (with_reducible assumption) | assumption); have q570025 : t570023 < (y570020.length : Int) := of_decide_eq_true (by first | (with_reducible assumption) | assumption); obtain ⟨ad570025, e570025, hx570025_0⟩ := Kd.at_int (Kd.R_reads' HO570022.out).2.2 t570023 p570025 q570025; cases e570025; replace p570025 := eq_true p570025; replace q570025 := eq_true q570025; have hnb34 := NB570006_570001.out; have hnc34 := NB570001_570006.out; have hnb35 := NB570006_0.out; have hnc35 := NB0_570006.out; have hcz36_0 : w32.cell? ⟨gb570006, 0, none⟩ = some (.int .i64 x570007000_1) := (blk_cell BK570006.out 0).trans rfl; have hcz36_1 : w32.cell? ⟨gb570006, 1, none⟩ = some (u570007001) := (blk_cell BK570006.out 1).trans rfl; have hfz36_0 := blk_frozen BK570006.out 0; have hfz36_1 := blk_frozen BK570006.out 1; have hnb37 := NB570001_0.out; have hnc37 := NB0_570001.out; have hcz38_0 : w32.cell? ⟨gb570001, 0, none⟩ = some (.int .i64 0) := (blk_cell BK570001.out 0).trans rfl; have hcz38_1 : w32.cell? ⟨gb570001, 1, none⟩ = some (.slice none 0 0) := (blk_cell BK570001.out 1).trans rfl; have hfz38_0 := blk_frozen BK570001.out 0; have hfz38_1 := blk_frozen BK570001.out 1; obtain ⟨Ao39, co39, eo39, _⟩ := Kd.Q_slice HO_570007001.out; subst eo39))
              refine bodyPost_ret (results_cell_row rfl _ _ gb570001 27 #[.int .i64 (rd y570020 t570023), .slice Ao39 x570007001_1.length co39] (0, 0) _ rfl (by (with_reducible repeat (first | refine blk_drewN ?_ _ | refine blk_drew ?_ | refine blk_alloc ?_ _)); refine blk_put (cs := #[.int .i64 (rd y570020 t570023), .slice none 0 0]) ?_ 1 _ rfl; (with_reducible repeat (first | refine blk_drewN ?_ _ | refine blk_drew ?_ | refine blk_alloc ?_ _)); refine blk_put (cs := #[.int .i64 0, .slice none 0 0]) ?_ 0 _ rfl; (with_reducible repeat (first | refine blk_drewN ?_ _ | refine blk_drew ?_ | refine blk_alloc ?_ _)); refine blk_far ?_ NB570001_570006.out _; (with_reducible repeat (first | refine blk_drewN ?_ _ | refine blk_drew ?_ | refine blk_alloc ?_ _)); exact BK570001.out) Try.underlying27 rfl (by kernel_rfl)) rfl ?_
              exact ⟨_, by first | rfl | (simp [errW_none, errW_some] <;> rfl) | (simp [*, errW_none, errW_some] <;> rfl), by (with_reducible repeat (first | apply Kd.Q_alloc | apply Kd.Q_drewN | apply Kd.Q_drew)); exact Kd.Q_mono (Kd.Q_far (p := ⟨gb570001, 1, none⟩) (Kd.Q_far (p := ⟨gb570001, 0, none⟩) (Kd.Q_far (p := ⟨gb570006, 0, none⟩) (Kd.Q_types (Kd.Q_types HO_570007001.out BK570006.out (by decide)) BK570001.out (by decide)) (fun _ hk => hk.1.2) (.int .i64 (rd y570020 t570023))) (fun _ hk => hk.2) (.int .i64 (rd y570020 t570023))) (fun _ hk => hk.2) (.slice Ao39 x570007001_1.length co39)) (fun _ hk => trivial), by repeat (first | (with_reducible first | exact HI0.out | apply IsS76.alloc | apply IsS76.drewN | apply IsS76.drew | apply IsS76.set_1 | refine IsS76.far ?_ NB0_570001.out _ | refine IsS76.far ?_ NB0_570006.out _) | exact HI0.out), by repeat (first | (with_reducible first | exact HB.out | apply below_alloc | apply pw_below_drewN | apply below_drew1 | refine below_set ?_ (IsS76.ge HI0.out) | refine below_set ?_ GE570001.out | refine below_set ?_ GE570006.out) | exact HB.out), by repeat (first | (with_reducible first | exact HK.out | apply KeepBut.set_ | apply keep_drewN | apply keep_drew | apply keep_alloc | refine keep_far ?_ GW570001.out _ | refine keep_far ?_ GW570006.out _) | exact HK.out)⟩
            · rw [if_neg c28] at H
              exact absurd H (by simp)
          · rw [if_neg c27] at H
            exact absurd H (by simp)
        · rw [if_neg c25] at H
          have c25b0 : (t570018 == 0) = false := beq_eq_false_iff_ne.mpr c25
          have c25b1 : (t570018 != 0) = true := bne_iff_ne.mpr c25
          by_cases c40 : t570018 = 1
          · rw [if_pos c40] at H
            have c40b0 : (t570018 == 1) = true := beq_iff_eq.mpr c40
            have c40b1 : (t570018 != 1) = false := bne_eq_false_iff_eq.mpr c40
            clear c40
            replace H := Option.bind_eq_some_iff.mp H
            obtain ⟨⟨t570026, t570027⟩, A410, H⟩ := H
            replace H : ((some (([(-1), 3] : List Int) : List Int)).bind fun y570028 => ((spec_l6Rd_pick.f k1 s0_0 t570027 2).bind fun bt570031 => (if 0 ≤ bt570031.1 then (if bt570031.1 < (y570028.length : Int) then (if 0 ≤ t570026 then (if t570026 < (x570007001_1.length : Int) then (some (x570007000_1, (x570007001_1.set (t570026 : Int).toNat (rd y570028 bt570031.1)), bt570031.2)) else (none)) else (none)) else (none)) else (none)))) = some (r1, r2, r3) := H
            have A41 := Aside0.mk A410
            clear A410
            obtain ⟨y570028, hy570028⟩ : ∃ y_ : List Int, y_ = (([(-1), 3] : List Int)) := ⟨_, rfl⟩
            replace H : ((spec_l6Rd_pick.f k1 s0_0 t570027 2).bind fun bt570031 => (if 0 ≤ bt570031.1 then (if bt570031.1 < (y570028.length : Int) then (if 0 ≤ t570026 then (if t570026 < (x570007001_1.length : Int) then (some (x570007000_1, (x570007001_1.set (t570026 : Int).toNat (rd y570028 bt570031.1)), bt570031.2)) else (none)) else (none)) else (none)) else (none))) = some (r1, r2, r3) := by first | (rw [hy570028]; with_reducible exact H) | (have H2_ := (Option.bind_some _ _).symm.trans H; rw [hy570028]; with_reducible exact H2_) | (have H2_ := (Option.bind_some _ _).symm.trans H; with_reducible exact H2_) | with_reducible exact H | (rw [hy570028]; exact H) | exact H
            have Ny570028 := Aside0.mk hy570028
            clear hy570028
            replace H := Option.bind_eq_some_iff.mp H
            obtain ⟨⟨t570031, t570032⟩, A420, H⟩ := H
            replace H : (if 0 ≤ t570031 then (if t570031 < (y570028.length : Int) then (if 0 ≤ t570026 then (if t570026 < (x570007001_1.length : Int) then (some (x570007000_1, (x570007001_1.set (t570026 : Int).toNat (rd y570028 t570031)), t570032)) else (none)) else (none)) else (none)) else (none)) = some (r1, r2, r3) := H
            have A42 := Aside0.mk A420
            clear A420
            by_cases c43 : 0 ≤ t570031
            · rw [if_pos c43] at H
              have c43b0 : decide (0 ≤ t570031) = true := decide_eq_true c43
              clear c43
              by_cases c44 : t570031 < (y570028.length : Int)
              · rw [if_pos c44] at H
                have c44b0 : decide (t570031 < (y570028.length : Int)) = true := decide_eq_true c44
                clear c44
                by_cases c45 : 0 ≤ t570026
                · rw [if_pos c45] at H
                  have c45b0 : decide (0 ≤ t570026) = true := decide_eq_true c45
                  clear c45
                  by_cases c46 : t570026 < (x570007001_1.length : Int)
                  · rw [if_pos c46] at H
                    have c46b0 : decide (t570026 < (x570007001_1.length : Int)) = true := decide_eq_true c46
                    clear c46
                    obtain ⟨y570034, hy570034⟩ : ∃ y_ : List Int, y_ = (x570007001_1.set (t570026 : Int).toNat (rd y570028 t570031)) := ⟨_, rfl⟩
                    replace H : (some (x570007000_1, y570034, t570032)) = some (r1, r2, r3) := by first | (rw [hy570034]; with_reducible exact H) | (have H2_ := (Option.bind_some _ _).symm.trans H; rw [hy570034]; with_reducible exact H2_) | (have H2_ := (Option.bind_some _ _).symm.trans H; with_reducible exact H2_) | with_reducible exact H | (rw [hy570034]; exact H) | exact H
                    have Ny570034 := Aside0.mk hy570034
                    clear hy570034
                    simp only [Option.some.injEq, Prod.mk.injEq] at H
                    obtain ⟨rfl, rfl, rfl⟩ := H
                    try go_wp2_with (first | ((with_reducible refine gate_callee (f := 57) rfl ?_); refine goesL_ (some 22) rfl rfl Try.func57 (by kernel_rfl) rfl #[.pointer (some ⟨g, 0, none⟩), .int .i64 14] rfl (by (try simp only [List.map_toArray, List.map_cons, List.map_nil]); first | done | rfl | (simp only [List.length_drop, List.length_take]; rfl)) ?_; (with_reducible refine (spec_l6Rd_pick.calls k1 g s0_0 x1001_1 14 t570018 t570019 w0 _ ?side1 ?side2 A24.out).mono ?_); (case side1 => repeat (first | (with_reducible first | exact HI0.out | apply IsS76.alloc | apply IsS76.drewN | apply IsS76.drew | apply IsS76.set_1 | refine IsS76.far ?_ NB0_570001.out _ | refine IsS76.far ?_ NB0_570006.out _) | exact HI0.out)); (case side2 => repeat (first | (with_reducible first | exact HB.out | apply below_alloc | apply pw_below_drewN | apply below_drew1 | refine below_set ?_ (IsS76.ge HI0.out) | refine below_set ?_ GE570001.out | refine below_set ?_ GE570006.out) | exact HB.out)); rintro e w48 ⟨rfl, hi, hb, hk⟩; refine ⟨_, rfl, ?_⟩; have n0_ := Aside0.mk (Kd.Q_mono (Kd.Q_keep (IsS76.apartQ (show IsS76 w0 _ g s0_0 x1001_1 from by repeat (first | (with_reducible first | exact HI0.out | apply IsS76.alloc | apply IsS76.drewN | apply IsS76.drew | apply IsS76.set_1 | refine IsS76.far ?_ NB0_570001.out _ | refine IsS76.far ?_ NB0_570006.out _) | exact HI0.out)) (by (with_reducible repeat (first | apply Kd.Q_alloc | apply Kd.Q_drewN | apply Kd.Q_drew)); exact HO_570007001.out) (by decide)) hk (fun _ h => h.2)) (fun _ h => h.1)); have n1_ := Aside0.mk (KeepBut.blk hk (g' := gb570001) (o := .cells #[.int .i64 0, .slice none 0 0] 27 (0, 0)) (by (with_reducible repeat (first | refine blk_drewN ?_ _ | refine blk_drew ?_ | refine blk_alloc ?_ _)); exact BK570001.out) NB570001_0.out (by simp)); have n2_ := Aside0.mk (KeepBut.blk hk (g' := gb570006) (o := .cells #[.int .i64 x570007000_1, u570007001] 27 (0, 0)) (by (with_reducible repeat (first | refine blk_drewN ?_ _ | refine blk_drew ?_ | refine blk_alloc ?_ _)); exact BK570006.out) NB570006_0.out (by simp)); have n3_ := Aside0.mk (KeepBut.trans (by repeat (first | (with_reducible first | exact HK.out | apply KeepBut.set_ | apply keep_drewN | apply keep_drew | apply keep_alloc | refine keep_far ?_ GW570001.out _ | refine keep_far ?_ GW570006.out _) | exact HK.out)) hk (.inl rfl)); have n4_ := Aside0.mk (hb); have n5_ := Aside0.mk (hi); clear HO_570007001; clear BK570001; clear BK570006; clear HK; clear HB; clear HI0; have HO_570007001 := n0_; have BK570001 := n1_; have BK570006 := n2_; have HK := n3_; have HB := n4_; have HI0 := n5_; clear n0_ n1_ n2_ n3_ n4_ n5_; (try clear hb); (try clear hb2); (try clear hk); (try clear hi)))
                    have pi570033 : (0 ≤ (t570031 : Int)) = True := eq_true (of_decide_eq_true (by first | (with_reducible assumption) | assumption))
                    have qi570033 : (t570031 < (y570028.length : Int)) = True := eq_true (of_decide_eq_true (by first | (with_reducible assumption) | assumption))
                    have n0_ := Aside0.mk (Kd.Q_drew HO_570007001.out)
                    have n1_ := Aside0.mk (blk_drew BK570001.out)
                    have n2_ := Aside0.mk (blk_drew BK570006.out)
                    have n3_ := Aside0.mk (IsS76.drew HI0.out)
                    have n4_ := Aside0.mk (keep_drew HK.out)
                    have n5_ := Aside0.mk (below_drew1 HB.out)
                    clear HO_570007001
                    clear BK570001
                    clear BK570006
                    clear HI0
                    clear HK
                    clear HB
                    have HO_570007001 := n0_
                    have BK570001 := n1_
                    have BK570006 := n2_
                    have HI0 := n3_
                    have HK := n4_
                    have HB := n5_
                    clear n0_ n1_ n2_ n3_ n4_ n5_
                    refine start_ (n := 11) (S := fun w' => w'.cell? ⟨gb570006, 0, none⟩ = some (.int .i64 x570007000_1) ∧ w'.cell? ⟨gb570006, 1, none⟩ = some (u570007001)) (ds := [10]) #[false, false, false, false, false, false, false, false, false, false, false] (by kernel_rfl) rfl rfl ⟨(blk_cell BK570006.out 0).trans rfl, (blk_cell BK570006.out 1).trans rfl⟩ (fun hHeld => ?_); refine with_tabW spec_l72Map.tab10 spec_l72Map.bits10 (fun HT_ HW_ => ?_)
                    generalize w48.drew = w49 at HO_570007001 BK570001 BK570006 HI0 HK HB hHeld ⊢
                    refine pure_ (i := 0) (N := some 33) (v := ?_) (a' := ?_) #[true, false, false, false, false, false, false, false, false, false, false] rfl rfl (any_of HT_.out (by kernel_rfl)) (fun _ _ _ h => h) (Or.inl ⟨by rfl, ?_⟩) ?_ ?_
                    rotate_left
                    · intro w'
                      go_simp
                      with_reducible rfl
                    rotate_left
                    · simp only [Act.put, List.setIfInBounds_toArray, List.set_cons_zero, List.set_cons_succ, i64_w, i32_w]
                      rfl
                    refine pure_ (i := 2) (N := some 35) (v := ?_) (a' := ?_) #[true, false, true, false, false, false, false, false, false, false, false] rfl rfl (any_of HT_.out (by kernel_rfl)) (fun _ _ _ h => h) (Or.inl ⟨by rfl, ?_⟩) ?_ ?_
                    rotate_left
                    · intro w'
                      go_simp
                      with_reducible rfl
                    rotate_left
                    · simp only [Act.put, List.setIfInBounds_toArray, List.set_cons_zero, List.set_cons_succ, i64_w, i32_w]
                      rfl
                    refine pure_ (i := 5) (N := some 38) (v := ?_) (a' := ?_) #[true, false, true, false, false, true, false, false, false, false, false] rfl rfl (any_of HT_.out (by kernel_rfl)) (fun _ _ _ h => h) (Or.inl ⟨by rfl, ?_⟩) ?_ ?_
                    rotate_left
                    · intro w'
                      go_simp
                      with_reducible rfl
                    rotate_left
                    · simp only [Act.put, List.setIfInBounds_toArray, List.set_cons_zero, List.set_cons_succ, i64_w, i32_w]
                      rfl
                    refine take_ (i := 1) (N := some 34) (v := ?_) (a' := ?_) #[true, true, true, false, false, true, false, false, false, false, false] rfl rfl (take_ofW HT_.out HW_.out (by kernel_rfl)) (fun _ _ _ h => h) (Or.inl ⟨by rfl, ?_⟩) hHeld ?_ ?_
                    rotate_left
                    · rintro w' ⟨s0, s1⟩
                      go_simp
                      with_reducible rfl
                    rotate_left
                    · simp only [Act.put, List.setIfInBounds_toArray, List.set_cons_zero, List.set_cons_succ, i64_w, i32_w]
                      rfl
                    refine join_ (σ := Value × Addr) 4 #[true, true, true, true, true, true, true, false, false, false, false] (fun s_ => [(36, .int .i64 t570026), (37, s_.1), (39, .int .i64 t570031)]) (fun s_ w' => (w'.cell? ⟨gb570006, 0, none⟩ = some (.int .i64 x570007000_1) ∧ w'.cell? ⟨gb570006, 1, none⟩ = some (u570007001)) ∧ (Kd.R (Kd.int .i64) 3 w' w.heap.size (fun k_ => some k_ ≠ (u570007001 : Value).ownBlock) s_.1 y570028) ∧ (Kd.Q (Kd.int .i64) 3 w' w.heap.size (fun k_ => some k_ ≠ (s_.1 : Value).ownBlock) u570007001 x570007001_1) ∧ (∃ c_, (s_.1 : Value) = .slice (some s_.2) y570028.length c_) ∧ (w'.heap[gb570001]? = some (.cells #[.int .i64 0, .slice none 0 0] 27 (0, 0))) ∧ (w'.heap[gb570006]? = some (.cells #[.int .i64 x570007000_1, u570007001] 27 (0, 0))) ∧ (IsS76 w0 w' g s0_0 t570032) ∧ (KeepBut w w' g none) ∧ (Below w0.heap.size w0 w')) ?_ ?_
                    rotate_left
                    · intro hCont
                      refine two_ (i := 3) (j := 4) (Ni := some 36) (Nj := some 37) #[true, true, true, true, false, true, false, false, false, false, false] #[true, true, true, false, true, true, false, false, false, false, false] rfl rfl rfl rfl (two_of HT_.out (by kernel_rfl)) (by decide) (by decide) (fun K hK => ?_) (fun K hK => ?_)
                      · skip
                        refine goes_ Try.func57 (by kernel_rfl) rfl #[.pointer (some ⟨g, 0, none⟩), .int .i64 8] (by rfl) rfl rfl (by (try simp only [List.map_toArray, List.map_cons, List.map_nil]); first | done | rfl | (simp only [List.length_drop, List.length_take]; rfl)) ?_
                        with_reducible refine (spec_l6Rd_pick.calls k1 g s0_0 t570019 8 t570026 t570027 w0 _ ?side1 ?side2 A41.out).mono ?_
                        (case side1 => repeat (first | (with_reducible first | exact HI0.out | apply IsS76.alloc | apply IsS76.drewN | apply IsS76.drew | apply IsS76.set_1 | refine IsS76.far ?_ NB0_570001.out _ | refine IsS76.far ?_ NB0_570006.out _) | exact HI0.out))
                        (case side2 => repeat (first | (with_reducible first | exact HB.out | apply below_alloc | apply pw_below_drewN | apply below_drew1 | refine below_set ?_ (IsS76.ge HI0.out) | refine below_set ?_ GE570001.out | refine below_set ?_ GE570006.out) | exact HB.out))
                        rintro e w50 ⟨rfl, hi, hb, hk⟩
                        refine ⟨_, rfl, ?_⟩
                        have n0_ := Aside0.mk (Kd.Q_mono (Kd.Q_keep (IsS76.apartQ (show IsS76 w0 _ g s0_0 t570019 from by repeat (first | (with_reducible first | exact HI0.out | apply IsS76.alloc | apply IsS76.drewN | apply IsS76.drew | apply IsS76.set_1 | refine IsS76.far ?_ NB0_570001.out _ | refine IsS76.far ?_ NB0_570006.out _) | exact HI0.out)) (by (with_reducible repeat (first | apply Kd.Q_alloc | apply Kd.Q_drewN | apply Kd.Q_drew)); exact HO_570007001.out) (by decide)) hk (fun _ h => h.2)) (fun _ h => h.1))
                        have n1_ := Aside0.mk (KeepBut.blk hk (g' := gb570001) (o := .cells #[.int .i64 0, .slice none 0 0] 27 (0, 0)) (by (with_reducible repeat (first | refine blk_drewN ?_ _ | refine blk_drew ?_ | refine blk_alloc ?_ _)); exact BK570001.out) NB570001_0.out (by simp))
                        have n2_ := Aside0.mk (KeepBut.blk hk (g' := gb570006) (o := .cells #[.int .i64 x570007000_1, u570007001] 27 (0, 0)) (by (with_reducible repeat (first | refine blk_drewN ?_ _ | refine blk_drew ?_ | refine blk_alloc ?_ _)); exact BK570006.out) NB570006_0.out (by simp))
                        have n3_ := Aside0.mk (KeepBut.trans (by repeat (first | (with_reducible first | exact HK.out | apply KeepBut.set_ | apply keep_drewN | apply keep_drew | apply keep_alloc | refine keep_far ?_ GW570001.out _ | refine keep_far ?_ GW570006.out _) | exact HK.out)) hk (.inl rfl))
                        have n4_ := Aside0.mk (hb)
                        have n5_ := Aside0.mk (hi)
                        clear HO_570007001
                        clear BK570001
                        clear BK570006
                        clear HK
                        clear HB
                        clear HI0
                        have HO_570007001 := n0_
                        have BK570001 := n1_
                        have BK570006 := n2_
                        have HK := n3_
                        have HB := n4_
                        have HI0 := n5_
                        clear n0_ n1_ n2_ n3_ n4_ n5_
                        (try clear hb)
                        (try clear hb2)
                        (try clear hk)
                        (try clear hi)
                        refine hK.out _ _ ⟨(blk_cell BK570006.out 0).trans rfl, (blk_cell BK570006.out 1).trans rfl⟩ (fun hHeld => ?_)
                        clear hK K
                        refine norm_ (a' := ?_) ?_ ?_
                        rotate_left
                        · show Act.put _ (some 36) _ = _
                          simp only [Act.put, List.setIfInBounds_toArray, List.set_cons_zero, List.set_cons_succ, i64_w, i32_w]
                          rfl
                        refine two_ (i := 4) (j := 6) (Ni := some 37) (Nj := some 39) #[true, true, true, true, true, true, false, false, false, false, false] #[true, true, true, true, false, true, true, false, false, false, false] rfl rfl rfl rfl (two_of HT_.out (by kernel_rfl)) (by decide) (by decide) (fun K hK => ?_) (fun K hK => ?_)
                        · skip
                          refine Kd.R_lit_step (Kd.int .i64) _ 3 ?hg (N := 37) ?hd (xs := ([(-1), 3] : List Int)) (inner := [.int .i64 (-1), .int .i64 3]) (ok := fun _ => True) (okp := fun _ => True) ?hr ?hp (fun _ hk => hk) trivial (Below.refl _ _) (Nat.le_refl _) (by simp) ?_; (case hd => rfl); (case hg => rfl); (case hr => first | (go_simp; done) | (go_simp; rfl)); (case hp => exact (Reps.one (show Kd.M (Kd.int .i64) _ _ _ (-1) [.int .i64 (-1)] from rfl) (Reps.one (show Kd.M (Kd.int .i64) _ _ _ 3 [.int .i64 3] from rfl) (Reps.none _ _))))
                          intro v570029 w51 ho52 hb hg_ hnew_
                          clear hg_ hnew_
                          (first | rw [← Ny570028.out] at ho52 | (simp only [Int.reduceToNat] at ho52; rw [← Ny570028.out] at ho52))
                          have n0_ := Aside0.mk (Kd.Q_elder' (by (with_reducible repeat (first | apply Kd.Q_alloc | apply Kd.Q_drewN | apply Kd.Q_drew)); exact HO_570007001.out) (Kd.R_base ho52) hb)
                          have n1_ := Aside0.mk (Kd.R_lower (Kd.R_new' ho52 (Kd.Q_lt (by (with_reducible repeat (first | apply Kd.Q_alloc | apply Kd.Q_drewN | apply Kd.Q_drew)); exact HO_570007001.out))) (keep_size (w := w) (g := g) (row := none) (by repeat (first | (with_reducible first | exact HK.out | apply KeepBut.set_ | apply keep_drewN | apply keep_drew | apply keep_alloc | refine keep_far ?_ GW570001.out _ | refine keep_far ?_ GW570006.out _) | exact HK.out))))
                          have n2_ := Aside0.mk (blk_below (g := gb570001) (o := .cells #[.int .i64 0, .slice none 0 0] 27 (0, 0)) (by (with_reducible repeat (first | refine blk_drewN ?_ _ | refine blk_drew ?_ | refine blk_alloc ?_ _)); exact BK570001.out) hb)
                          have n3_ := Aside0.mk (blk_below (g := gb570006) (o := .cells #[.int .i64 x570007000_1, u570007001] 27 (0, 0)) (by (with_reducible repeat (first | refine blk_drewN ?_ _ | refine blk_drew ?_ | refine blk_alloc ?_ _)); exact BK570006.out) hb)
                          have n4_ := Aside0.mk (IsS76.below (by repeat (first | (with_reducible first | exact HI0.out | apply IsS76.alloc | apply IsS76.drewN | apply IsS76.drew | apply IsS76.set_1 | refine IsS76.far ?_ NB0_570001.out _ | refine IsS76.far ?_ NB0_570006.out _) | exact HI0.out)) hb)
                          have n5_ := Aside0.mk (KeepBut.trans (by repeat (first | (with_reducible first | exact HK.out | apply KeepBut.set_ | apply keep_drewN | apply keep_drew | apply keep_alloc | refine keep_far ?_ GW570001.out _ | refine keep_far ?_ GW570006.out _) | exact HK.out)) (KeepBut.of_below hb g none) (.inl rfl))
                          have n6_ := Aside0.mk (below_step (by repeat (first | (with_reducible first | exact HB.out | apply below_alloc | apply pw_below_drewN | apply below_drew1 | refine below_set ?_ (IsS76.ge HI0.out) | refine below_set ?_ GE570001.out | refine below_set ?_ GE570006.out) | exact HB.out)) hb)
                          clear HO_570007001
                          clear BK570001
                          clear BK570006
                          clear HI0
                          clear HK
                          clear HB
                          have HO_570007001 := n0_
                          have HO570030 := n1_
                          have BK570001 := n2_
                          have BK570006 := n3_
                          have HI0 := n4_
                          have HK := n5_
                          have HB := n6_
                          clear n0_ n1_ n2_ n3_ n4_ n5_ n6_
                          clear hb ho52
                          obtain ⟨Ao53, co53, eo53⟩ := Kd.R_slice HO570030.out
                          subst eo53
                          obtain ⟨ado53, fo53, _⟩ := Kd.at_int (Kd.R_reads' HO570030.out).2.2 0 (by decide) (by rw [Ny570028.out]; simp)
                          cases fo53
                          refine hK.out _ _ ⟨(blk_cell BK570006.out 0).trans rfl, (blk_cell BK570006.out 1).trans rfl⟩ (fun hHeld => ?_)
                          clear hK K
                          refine norm_ (a' := ?_) ?_ ?_
                          rotate_left
                          · show Act.put _ (some 37) _ = _
                            simp only [Act.put, List.setIfInBounds_toArray, List.set_cons_zero, List.set_cons_succ, i64_w, i32_w]
                            rfl
                          refine one_ (i := 6) (N := some 39) #[true, true, true, true, true, true, true, false, false, false, false] rfl rfl (one_of HT_.out (by kernel_rfl)) (by decide) (fun K hK => ?_)
                          refine goes_ Try.func57 (by kernel_rfl) rfl #[.pointer (some ⟨g, 0, none⟩), .int .i64 2] (by rfl) rfl rfl (by (try simp only [List.map_toArray, List.map_cons, List.map_nil]); first | done | rfl | (simp only [List.length_drop, List.length_take]; rfl)) ?_
                          with_reducible refine (spec_l6Rd_pick.calls k1 g s0_0 t570027 2 t570031 t570032 w0 _ ?side1 ?side2 A42.out).mono ?_
                          (case side1 => repeat (first | (with_reducible first | exact HI0.out | apply IsS76.alloc | apply IsS76.drewN | apply IsS76.drew | apply IsS76.set_1 | refine IsS76.far ?_ NB0_570001.out _ | refine IsS76.far ?_ NB0_570006.out _) | exact HI0.out))
                          (case side2 => repeat (first | (with_reducible first | exact HB.out | apply below_alloc | apply pw_below_drewN | apply below_drew1 | refine below_set ?_ (IsS76.ge HI0.out) | refine below_set ?_ GE570001.out | refine below_set ?_ GE570006.out) | exact HB.out))
                          rintro e w54 ⟨rfl, hi, hb, hk⟩
                          refine ⟨_, rfl, ?_⟩
                          have n0_ := Aside0.mk (Kd.Q_mono (Kd.Q_keep (IsS76.apartQ (show IsS76 w0 _ g s0_0 t570027 from by repeat (first | (with_reducible first | exact HI0.out | apply IsS76.alloc | apply IsS76.drewN | apply IsS76.drew | apply IsS76.set_1 | refine IsS76.far ?_ NB0_570001.out _ | refine IsS76.far ?_ NB0_570006.out _) | exact HI0.out)) (by (with_reducible repeat (first | apply Kd.Q_alloc | apply Kd.Q_drewN | apply Kd.Q_drew)); exact HO_570007001.out) (by decide)) hk (fun _ h => h.2)) (fun _ h => h.1))
                          have n1_ := Aside0.mk (KeepBut.blk hk (g' := gb570001) (o := .cells #[.int .i64 0, .slice none 0 0] 27 (0, 0)) (by (with_reducible repeat (first | refine blk_drewN ?_ _ | refine blk_drew ?_ | refine blk_alloc ?_ _)); exact BK570001.out) NB570001_0.out (by simp))
                          have n2_ := Aside0.mk (KeepBut.blk hk (g' := gb570006) (o := .cells #[.int .i64 x570007000_1, u570007001] 27 (0, 0)) (by (with_reducible repeat (first | refine blk_drewN ?_ _ | refine blk_drew ?_ | refine blk_alloc ?_ _)); exact BK570006.out) NB570006_0.out (by simp))
                          have n3_ := Aside0.mk (Kd.R_mono (Kd.R_keep (IsS76.apart (show IsS76 w0 _ g s0_0 t570027 from by repeat (first | (with_reducible first | exact HI0.out | apply IsS76.alloc | apply IsS76.drewN | apply IsS76.drew | apply IsS76.set_1 | refine IsS76.far ?_ NB0_570001.out _ | refine IsS76.far ?_ NB0_570006.out _) | exact HI0.out)) (by (with_reducible repeat (first | apply Kd.R_alloc | apply Kd.R_drewN | apply Kd.R_drew)); exact HO570030.out) (by decide)) hk (fun _ h => h.2)) (fun _ h => h.1))
                          have n4_ := Aside0.mk (KeepBut.trans (by repeat (first | (with_reducible first | exact HK.out | apply KeepBut.set_ | apply keep_drewN | apply keep_drew | apply keep_alloc | refine keep_far ?_ GW570001.out _ | refine keep_far ?_ GW570006.out _) | exact HK.out)) hk (.inl rfl))
                          have n5_ := Aside0.mk (hb)
                          have n6_ := Aside0.mk (hi)
                          clear HO_570007001
                          clear BK570001
                          clear BK570006
                          clear HO570030
                          clear HK
                          clear HB
                          clear HI0
                          have HO_570007001 := n0_
                          have BK570001 := n1_
                          have BK570006 := n2_
                          have HO570030 := n3_
                          have HK := n4_
                          have HB := n5_
                          have HI0 := n6_
                          clear n0_ n1_ n2_ n3_ n4_ n5_ n6_
                          (try clear hb)
                          (try clear hb2)
                          (try clear hk)
                          (try clear hi)
                          refine hK.out _ _ ⟨(blk_cell BK570006.out 0).trans rfl, (blk_cell BK570006.out 1).trans rfl⟩ (fun hHeld => ?_)
                          clear hK K
                          refine norm_ (a' := ?_) ?_ ?_
                          rotate_left
                          · show Act.put _ (some 39) _ = _
                            simp only [Act.put, List.setIfInBounds_toArray, List.set_cons_zero, List.set_cons_succ, i64_w, i32_w]
                            rfl
                          exact norm_ (by simp only [putAll, Act.put, List.setIfInBounds_toArray, List.set_cons_zero, List.set_cons_succ]) (hCont (.slice (some ado53) y570028.length co53, ado53) _ ⟨hHeld, (by (with_reducible repeat (first | apply Kd.R_alloc | apply Kd.R_drewN | apply Kd.R_drew)); exact Kd.R_mono HO570030.out (fun _ hk => hk.2)), (by (with_reducible repeat (first | apply Kd.Q_alloc | apply Kd.Q_drewN | apply Kd.Q_drew)); exact Kd.Q_mono HO_570007001.out (fun _ hk => hk.2)), ⟨_, rfl⟩, (by (with_reducible repeat (first | refine blk_drewN ?_ _ | refine blk_drew ?_ | refine blk_alloc ?_ _)); exact BK570001.out), (by (with_reducible repeat (first | refine blk_drewN ?_ _ | refine blk_drew ?_ | refine blk_alloc ?_ _)); exact BK570006.out), (by repeat (first | (with_reducible first | exact HI0.out | apply IsS76.alloc | apply IsS76.drewN | apply IsS76.drew | apply IsS76.set_1 | refine IsS76.far ?_ NB0_570001.out _ | refine IsS76.far ?_ NB0_570006.out _) | exact HI0.out)), (by repeat (first | (with_reducible first | exact HK.out | apply KeepBut.set_ | apply keep_drewN | apply keep_drew | apply keep_alloc | refine keep_far ?_ GW570001.out _ | refine keep_far ?_ GW570006.out _) | exact HK.out)), (by repeat (first | (with_reducible first | exact HB.out | apply below_alloc | apply pw_below_drewN | apply below_drew1 | refine below_set ?_ (IsS76.ge HI0.out) | refine below_set ?_ GE570001.out | refine below_set ?_ GE570006.out) | exact HB.out))⟩)
                        · skip
                          refine goes_ Try.func57 (by kernel_rfl) rfl #[.pointer (some ⟨g, 0, none⟩), .int .i64 2] (by rfl) rfl rfl (by (try simp only [List.map_toArray, List.map_cons, List.map_nil]); first | done | rfl | (simp only [List.length_drop, List.length_take]; rfl)) ?_
                          with_reducible refine (spec_l6Rd_pick.calls k1 g s0_0 t570027 2 t570031 t570032 w0 _ ?side1 ?side2 A42.out).mono ?_
                          (case side1 => repeat (first | (with_reducible first | exact HI0.out | apply IsS76.alloc | apply IsS76.drewN | apply IsS76.drew | apply IsS76.set_1 | refine IsS76.far ?_ NB0_570001.out _ | refine IsS76.far ?_ NB0_570006.out _) | exact HI0.out))
                          (case side2 => repeat (first | (with_reducible first | exact HB.out | apply below_alloc | apply pw_below_drewN | apply below_drew1 | refine below_set ?_ (IsS76.ge HI0.out) | refine below_set ?_ GE570001.out | refine below_set ?_ GE570006.out) | exact HB.out))
                          rintro e w51 ⟨rfl, hi, hb, hk⟩
                          refine ⟨_, rfl, ?_⟩
                          have n0_ := Aside0.mk (Kd.Q_mono (Kd.Q_keep (IsS76.apartQ (show IsS76 w0 _ g s0_0 t570027 from by repeat (first | (with_reducible first | exact HI0.out | apply IsS76.alloc | apply IsS76.drewN | apply IsS76.drew | apply IsS76.set_1 | refine IsS76.far ?_ NB0_570001.out _ | refine IsS76.far ?_ NB0_570006.out _) | exact HI0.out)) (by (with_reducible repeat (first | apply Kd.Q_alloc | apply Kd.Q_drewN | apply Kd.Q_drew)); exact HO_570007001.out) (by decide)) hk (fun _ h => h.2)) (fun _ h => h.1))
                          have n1_ := Aside0.mk (KeepBut.blk hk (g' := gb570001) (o := .cells #[.int .i64 0, .slice none 0 0] 27 (0, 0)) (by (with_reducible repeat (first | refine blk_drewN ?_ _ | refine blk_drew ?_ | refine blk_alloc ?_ _)); exact BK570001.out) NB570001_0.out (by simp))
                          have n2_ := Aside0.mk (KeepBut.blk hk (g' := gb570006) (o := .cells #[.int .i64 x570007000_1, u570007001] 27 (0, 0)) (by (with_reducible repeat (first | refine blk_drewN ?_ _ | refine blk_drew ?_ | refine blk_alloc ?_ _)); exact BK570006.out) NB570006_0.out (by simp))
                          have n3_ := Aside0.mk (KeepBut.trans (by repeat (first | (with_reducible first | exact HK.out | apply KeepBut.set_ | apply keep_drewN | apply keep_drew | apply keep_alloc | refine keep_far ?_ GW570001.out _ | refine keep_far ?_ GW570006.out _) | exact HK.out)) hk (.inl rfl))
                          have n4_ := Aside0.mk (hb)
                          have n5_ := Aside0.mk (hi)
                          clear HO_570007001
                          clear BK570001
                          clear BK570006
                          clear HK
                          clear HB
                          clear HI0
                          have HO_570007001 := n0_
                          have BK570001 := n1_
                          have BK570006 := n2_
                          have HK := n3_
                          have HB := n4_
                          have HI0 := n5_
                          clear n0_ n1_ n2_ n3_ n4_ n5_
                          (try clear hb)
                          (try clear hb2)
                          (try clear hk)
                          (try clear hi)
                          refine hK.out _ _ ⟨(blk_cell BK570006.out 0).trans rfl, (blk_cell BK570006.out 1).trans rfl⟩ (fun hHeld => ?_)
                          clear hK K
                          refine norm_ (a' := ?_) ?_ ?_
                          rotate_left
                          · show Act.put _ (some 39) _ = _
                            simp only [Act.put, List.setIfInBounds_toArray, List.set_cons_zero, List.set_cons_succ, i64_w, i32_w]
                            rfl
                          refine one_ (i := 4) (N := some 37) #[true, true, true, true, true, true, true, false, false, false, false] rfl rfl (one_of HT_.out (by kernel_rfl)) (by decide) (fun K hK => ?_)
                          refine Kd.R_lit_step (Kd.int .i64) _ 3 ?hg (N := 37) ?hd (xs := ([(-1), 3] : List Int)) (inner := [.int .i64 (-1), .int .i64 3]) (ok := fun _ => True) (okp := fun _ => True) ?hr ?hp (fun _ hk => hk) trivial (Below.refl _ _) (Nat.le_refl _) (by simp) ?_; (case hd => rfl); (case hg => rfl); (case hr => first | (go_simp; done) | (go_simp; rfl)); (case hp => exact (Reps.one (show Kd.M (Kd.int .i64) _ _ _ (-1) [.int .i64 (-1)] from rfl) (Reps.one (show Kd.M (Kd.int .i64) _ _ _ 3 [.int .i64 3] from rfl) (Reps.none _ _))))
                          intro v570029 w52 ho53 hb hg_ hnew_
                          clear hg_ hnew_
                          (first | rw [← Ny570028.out] at ho53 | (simp only [Int.reduceToNat] at ho53; rw [← Ny570028.out] at ho53))
                          have n0_ := Aside0.mk (Kd.Q_elder' (by (with_reducible repeat (first | apply Kd.Q_alloc | apply Kd.Q_drewN | apply Kd.Q_drew)); exact HO_570007001.out) (Kd.R_base ho53) hb)
                          have n1_ := Aside0.mk (Kd.R_lower (Kd.R_new' ho53 (Kd.Q_lt (by (with_reducible repeat (first | apply Kd.Q_alloc | apply Kd.Q_drewN | apply Kd.Q_drew)); exact HO_570007001.out))) (keep_size (w := w) (g := g) (row := none) (by repeat (first | (with_reducible first | exact HK.out | apply KeepBut.set_ | apply keep_drewN | apply keep_drew | apply keep_alloc | refine keep_far ?_ GW570001.out _ | refine keep_far ?_ GW570006.out _) | exact HK.out))))
                          have n2_ := Aside0.mk (blk_below (g := gb570001) (o := .cells #[.int .i64 0, .slice none 0 0] 27 (0, 0)) (by (with_reducible repeat (first | refine blk_drewN ?_ _ | refine blk_drew ?_ | refine blk_alloc ?_ _)); exact BK570001.out) hb)
                          have n3_ := Aside0.mk (blk_below (g := gb570006) (o := .cells #[.int .i64 x570007000_1, u570007001] 27 (0, 0)) (by (with_reducible repeat (first | refine blk_drewN ?_ _ | refine blk_drew ?_ | refine blk_alloc ?_ _)); exact BK570006.out) hb)
                          have n4_ := Aside0.mk (IsS76.below (by repeat (first | (with_reducible first | exact HI0.out | apply IsS76.alloc | apply IsS76.drewN | apply IsS76.drew | apply IsS76.set_1 | refine IsS76.far ?_ NB0_570001.out _ | refine IsS76.far ?_ NB0_570006.out _) | exact HI0.out)) hb)
                          have n5_ := Aside0.mk (KeepBut.trans (by repeat (first | (with_reducible first | exact HK.out | apply KeepBut.set_ | apply keep_drewN | apply keep_drew | apply keep_alloc | refine keep_far ?_ GW570001.out _ | refine keep_far ?_ GW570006.out _) | exact HK.out)) (KeepBut.of_below hb g none) (.inl rfl))
                          have n6_ := Aside0.mk (below_step (by repeat (first | (with_reducible first | exact HB.out | apply below_alloc | apply pw_below_drewN | apply below_drew1 | refine below_set ?_ (IsS76.ge HI0.out) | refine below_set ?_ GE570001.out | refine below_set ?_ GE570006.out) | exact HB.out)) hb)
                          clear HO_570007001
                          clear BK570001
                          clear BK570006
                          clear HI0
                          clear HK
                          clear HB
                          have HO_570007001 := n0_
                          have HO570030 := n1_
                          have BK570001 := n2_
                          have BK570006 := n3_
                          have HI0 := n4_
                          have HK := n5_
                          have HB := n6_
                          clear n0_ n1_ n2_ n3_ n4_ n5_ n6_
                          clear hb ho53
                          obtain ⟨Ao54, co54, eo54⟩ := Kd.R_slice HO570030.out
                          subst eo54
                          obtain ⟨ado54, fo54, _⟩ := Kd.at_int (Kd.R_reads' HO570030.out).2.2 0 (by decide) (by rw [Ny570028.out]; simp)
                          cases fo54
                          refine hK.out _ _ ⟨(blk_cell BK570006.out 0).trans rfl, (blk_cell BK570006.out 1).trans rfl⟩ (fun hHeld => ?_)
                          clear hK K
                          refine norm_ (a' := ?_) ?_ ?_
                          rotate_left
                          · show Act.put _ (some 37) _ = _
                            simp only [Act.put, List.setIfInBounds_toArray, List.set_cons_zero, List.set_cons_succ, i64_w, i32_w]
                            rfl
                          exact norm_ (by simp only [putAll, Act.put, List.setIfInBounds_toArray, List.set_cons_zero, List.set_cons_succ]) (hCont (.slice (some ado54) y570028.length co54, ado54) _ ⟨hHeld, (by (with_reducible repeat (first | apply Kd.R_alloc | apply Kd.R_drewN | apply Kd.R_drew)); exact Kd.R_mono HO570030.out (fun _ hk => hk.2)), (by (with_reducible repeat (first | apply Kd.Q_alloc | apply Kd.Q_drewN | apply Kd.Q_drew)); exact Kd.Q_mono HO_570007001.out (fun _ hk => hk.2)), ⟨_, rfl⟩, (by (with_reducible repeat (first | refine blk_drewN ?_ _ | refine blk_drew ?_ | refine blk_alloc ?_ _)); exact BK570001.out), (by (with_reducible repeat (first | refine blk_drewN ?_ _ | refine blk_drew ?_ | refine blk_alloc ?_ _)); exact BK570006.out), (by repeat (first | (with_reducible first | exact HI0.out | apply IsS76.alloc | apply IsS76.drewN | apply IsS76.drew | apply IsS76.set_1 | refine IsS76.far ?_ NB0_570001.out _ | refine IsS76.far ?_ NB0_570006.out _) | exact HI0.out)), (by repeat (first | (with_reducible first | exact HK.out | apply KeepBut.set_ | apply keep_drewN | apply keep_drew | apply keep_alloc | refine keep_far ?_ GW570001.out _ | refine keep_far ?_ GW570006.out _) | exact HK.out)), (by repeat (first | (with_reducible first | exact HB.out | apply below_alloc | apply pw_below_drewN | apply below_drew1 | refine below_set ?_ (IsS76.ge HI0.out) | refine below_set ?_ GE570001.out | refine below_set ?_ GE570006.out) | exact HB.out))⟩)
                      · skip
                        refine Kd.R_lit_step (Kd.int .i64) _ 3 ?hg (N := 37) ?hd (xs := ([(-1), 3] : List Int)) (inner := [.int .i64 (-1), .int .i64 3]) (ok := fun _ => True) (okp := fun _ => True) ?hr ?hp (fun _ hk => hk) trivial (Below.refl _ _) (Nat.le_refl _) (by simp) ?_; (case hd => rfl); (case hg => rfl); (case hr => first | (go_simp; done) | (go_simp; rfl)); (case hp => exact (Reps.one (show Kd.M (Kd.int .i64) _ _ _ (-1) [.int .i64 (-1)] from rfl) (Reps.one (show Kd.M (Kd.int .i64) _ _ _ 3 [.int .i64 3] from rfl) (Reps.none _ _))))
                        intro v570029 w50 ho51 hb hg_ hnew_
                        clear hg_ hnew_
                        (first | rw [← Ny570028.out] at ho51 | (simp only [Int.reduceToNat] at ho51; rw [← Ny570028.out] at ho51))
                        have n0_ := Aside0.mk (Kd.Q_elder' (by (with_reducible repeat (first | apply Kd.Q_alloc | apply Kd.Q_drewN | apply Kd.Q_drew)); exact HO_570007001.out) (Kd.R_base ho51) hb)
                        have n1_ := Aside0.mk (Kd.R_lower (Kd.R_new' ho51 (Kd.Q_lt (by (with_reducible repeat (first | apply Kd.Q_alloc | apply Kd.Q_drewN | apply Kd.Q_drew)); exact HO_570007001.out))) (keep_size (w := w) (g := g) (row := none) (by repeat (first | (with_reducible first | exact HK.out | apply KeepBut.set_ | apply keep_drewN | apply keep_drew | apply keep_alloc | refine keep_far ?_ GW570001.out _ | refine keep_far ?_ GW570006.out _) | exact HK.out))))
                        have n2_ := Aside0.mk (blk_below (g := gb570001) (o := .cells #[.int .i64 0, .slice none 0 0] 27 (0, 0)) (by (with_reducible repeat (first | refine blk_drewN ?_ _ | refine blk_drew ?_ | refine blk_alloc ?_ _)); exact BK570001.out) hb)
                        have n3_ := Aside0.mk (blk_below (g := gb570006) (o := .cells #[.int .i64 x570007000_1, u570007001] 27 (0, 0)) (by (with_reducible repeat (first | refine blk_drewN ?_ _ | refine blk_drew ?_ | refine blk_alloc ?_ _)); exact BK570006.out) hb)
                        have n4_ := Aside0.mk (IsS76.below (by repeat (first | (with_reducible first | exact HI0.out | apply IsS76.alloc | apply IsS76.drewN | apply IsS76.drew | apply IsS76.set_1 | refine IsS76.far ?_ NB0_570001.out _ | refine IsS76.far ?_ NB0_570006.out _) | exact HI0.out)) hb)
                        have n5_ := Aside0.mk (KeepBut.trans (by repeat (first | (with_reducible first | exact HK.out | apply KeepBut.set_ | apply keep_drewN | apply keep_drew | apply keep_alloc | refine keep_far ?_ GW570001.out _ | refine keep_far ?_ GW570006.out _) | exact HK.out)) (KeepBut.of_below hb g none) (.inl rfl))
                        have n6_ := Aside0.mk (below_step (by repeat (first | (with_reducible first | exact HB.out | apply below_alloc | apply pw_below_drewN | apply below_drew1 | refine below_set ?_ (IsS76.ge HI0.out) | refine below_set ?_ GE570001.out | refine below_set ?_ GE570006.out) | exact HB.out)) hb)
                        clear HO_570007001
                        clear BK570001
                        clear BK570006
                        clear HI0
                        clear HK
                        clear HB
                        have HO_570007001 := n0_
                        have HO570030 := n1_
                        have BK570001 := n2_
                        have BK570006 := n3_
                        have HI0 := n4_
                        have HK := n5_
                        have HB := n6_
                        clear n0_ n1_ n2_ n3_ n4_ n5_ n6_
                        clear hb ho51
                        obtain ⟨Ao52, co52, eo52⟩ := Kd.R_slice HO570030.out
                        subst eo52
                        obtain ⟨ado52, fo52, _⟩ := Kd.at_int (Kd.R_reads' HO570030.out).2.2 0 (by decide) (by rw [Ny570028.out]; simp)
                        cases fo52
                        refine hK.out _ _ ⟨(blk_cell BK570006.out 0).trans rfl, (blk_cell BK570006.out 1).trans rfl⟩ (fun hHeld => ?_)
                        clear hK K
                        refine norm_ (a' := ?_) ?_ ?_
                        rotate_left
                        · show Act.put _ (some 37) _ = _
                          simp only [Act.put, List.setIfInBounds_toArray, List.set_cons_zero, List.set_cons_succ, i64_w, i32_w]
                          rfl
                        refine one_ (i := 3) (N := some 36) #[true, true, true, true, true, true, false, false, false, false, false] rfl rfl (one_of HT_.out (by kernel_rfl)) (by decide) (fun K hK => ?_)
                        refine goes_ Try.func57 (by kernel_rfl) rfl #[.pointer (some ⟨g, 0, none⟩), .int .i64 8] (by rfl) rfl rfl (by (try simp only [List.map_toArray, List.map_cons, List.map_nil]); first | done | rfl | (simp only [List.length_drop, List.length_take]; rfl)) ?_
                        with_reducible refine (spec_l6Rd_pick.calls k1 g s0_0 t570019 8 t570026 t570027 w0 _ ?side1 ?side2 A41.out).mono ?_
                        (case side1 => repeat (first | (with_reducible first | exact HI0.out | apply IsS76.alloc | apply IsS76.drewN | apply IsS76.drew | apply IsS76.set_1 | refine IsS76.far ?_ NB0_570001.out _ | refine IsS76.far ?_ NB0_570006.out _) | exact HI0.out))
                        (case side2 => repeat (first | (with_reducible first | exact HB.out | apply below_alloc | apply pw_below_drewN | apply below_drew1 | refine below_set ?_ (IsS76.ge HI0.out) | refine below_set ?_ GE570001.out | refine below_set ?_ GE570006.out) | exact HB.out))
                        rintro e w53 ⟨rfl, hi, hb, hk⟩
                        refine ⟨_, rfl, ?_⟩
                        have n0_ := Aside0.mk (Kd.Q_mono (Kd.Q_keep (IsS76.apartQ (show IsS76 w0 _ g s0_0 t570019 from by repeat (first | (with_reducible first | exact HI0.out | apply IsS76.alloc | apply IsS76.drewN | apply IsS76.drew | apply IsS76.set_1 | refine IsS76.far ?_ NB0_570001.out _ | refine IsS76.far ?_ NB0_570006.out _) | exact HI0.out)) (by (with_reducible repeat (first | apply Kd.Q_alloc | apply Kd.Q_drewN | apply Kd.Q_drew)); exact HO_570007001.out) (by decide)) hk (fun _ h => h.2)) (fun _ h => h.1))
                        have n1_ := Aside0.mk (KeepBut.blk hk (g' := gb570001) (o := .cells #[.int .i64 0, .slice none 0 0] 27 (0, 0)) (by (with_reducible repeat (first | refine blk_drewN ?_ _ | refine blk_drew ?_ | refine blk_alloc ?_ _)); exact BK570001.out) NB570001_0.out (by simp))
                        have n2_ := Aside0.mk (KeepBut.blk hk (g' := gb570006) (o := .cells #[.int .i64 x570007000_1, u570007001] 27 (0, 0)) (by (with_reducible repeat (first | refine blk_drewN ?_ _ | refine blk_drew ?_ | refine blk_alloc ?_ _)); exact BK570006.out) NB570006_0.out (by simp))
                        have n3_ := Aside0.mk (Kd.R_mono (Kd.R_keep (IsS76.apart (show IsS76 w0 _ g s0_0 t570019 from by repeat (first | (with_reducible first | exact HI0.out | apply IsS76.alloc | apply IsS76.drewN | apply IsS76.drew | apply IsS76.set_1 | refine IsS76.far ?_ NB0_570001.out _ | refine IsS76.far ?_ NB0_570006.out _) | exact HI0.out)) (by (with_reducible repeat (first | apply Kd.R_alloc | apply Kd.R_drewN | apply Kd.R_drew)); exact HO570030.out) (by decide)) hk (fun _ h => h.2)) (fun _ h => h.1))
                        have n4_ := Aside0.mk (KeepBut.trans (by repeat (first | (with_reducible first | exact HK.out | apply KeepBut.set_ | apply keep_drewN | apply keep_drew | apply keep_alloc | refine keep_far ?_ GW570001.out _ | refine keep_far ?_ GW570006.out _) | exact HK.out)) hk (.inl rfl))
                        have n5_ := Aside0.mk (hb)
                        have n6_ := Aside0.mk (hi)
                        clear HO_570007001
                        clear BK570001
                        clear BK570006
                        clear HO570030
                        clear HK
                        clear HB
                        clear HI0
                        have HO_570007001 := n0_
                        have BK570001 := n1_
                        have BK570006 := n2_
                        have HO570030 := n3_
                        have HK := n4_
                        have HB := n5_
                        have HI0 := n6_
                        clear n0_ n1_ n2_ n3_ n4_ n5_ n6_
                        (try clear hb)
                        (try clear hb2)
                        (try clear hk)
                        (try clear hi)
                        refine hK.out _ _ ⟨(blk_cell BK570006.out 0).trans rfl, (blk_cell BK570006.out 1).trans rfl⟩ (fun hHeld => ?_)
                        clear hK K
                        refine norm_ (a' := ?_) ?_ ?_
                        rotate_left
                        · show Act.put _ (some 36) _ = _
                          simp only [Act.put, List.setIfInBounds_toArray, List.set_cons_zero, List.set_cons_succ, i64_w, i32_w]
                          rfl
                        refine one_ (i := 6) (N := some 39) #[true, true, true, true, true, true, true, false, false, false, false] rfl rfl (one_of HT_.out (by kernel_rfl)) (by decide) (fun K hK => ?_)
                        refine goes_ Try.func57 (by kernel_rfl) rfl #[.pointer (some ⟨g, 0, none⟩), .int .i64 2] (by rfl) rfl rfl (by (try simp only [List.map_toArray, List.map_cons, List.map_nil]); first | done | rfl | (simp only [List.length_drop, List.length_take]; rfl)) ?_
                        with_reducible refine (spec_l6Rd_pick.calls k1 g s0_0 t570027 2 t570031 t570032 w0 _ ?side1 ?side2 A42.out).mono ?_
                        (case side1 => repeat (first | (with_reducible first | exact HI0.out | apply IsS76.alloc | apply IsS76.drewN | apply IsS76.drew | apply IsS76.set_1 | refine IsS76.far ?_ NB0_570001.out _ | refine IsS76.far ?_ NB0_570006.out _) | exact HI0.out))
                        (case side2 => repeat (first | (with_reducible first | exact HB.out | apply below_alloc | apply pw_below_drewN | apply below_drew1 | refine below_set ?_ (IsS76.ge HI0.out) | refine below_set ?_ GE570001.out | refine below_set ?_ GE570006.out) | exact HB.out))
                        rintro e w54 ⟨rfl, hi, hb, hk⟩
                        refine ⟨_, rfl, ?_⟩
                        have n0_ := Aside0.mk (Kd.Q_mono (Kd.Q_keep (IsS76.apartQ (show IsS76 w0 _ g s0_0 t570027 from by repeat (first | (with_reducible first | exact HI0.out | apply IsS76.alloc | apply IsS76.drewN | apply IsS76.drew | apply IsS76.set_1 | refine IsS76.far ?_ NB0_570001.out _ | refine IsS76.far ?_ NB0_570006.out _) | exact HI0.out)) (by (with_reducible repeat (first | apply Kd.Q_alloc | apply Kd.Q_drewN | apply Kd.Q_drew)); exact HO_570007001.out) (by decide)) hk (fun _ h => h.2)) (fun _ h => h.1))
                        have n1_ := Aside0.mk (KeepBut.blk hk (g' := gb570001) (o := .cells #[.int .i64 0, .slice none 0 0] 27 (0, 0)) (by (with_reducible repeat (first | refine blk_drewN ?_ _ | refine blk_drew ?_ | refine blk_alloc ?_ _)); exact BK570001.out) NB570001_0.out (by simp))
                        have n2_ := Aside0.mk (KeepBut.blk hk (g' := gb570006) (o := .cells #[.int .i64 x570007000_1, u570007001] 27 (0, 0)) (by (with_reducible repeat (first | refine blk_drewN ?_ _ | refine blk_drew ?_ | refine blk_alloc ?_ _)); exact BK570006.out) NB570006_0.out (by simp))
                        have n3_ := Aside0.mk (Kd.R_mono (Kd.R_keep (IsS76.apart (show IsS76 w0 _ g s0_0 t570027 from by repeat (first | (with_reducible first | exact HI0.out | apply IsS76.alloc | apply IsS76.drewN | apply IsS76.drew | apply IsS76.set_1 | refine IsS76.far ?_ NB0_570001.out _ | refine IsS76.far ?_ NB0_570006.out _) | exact HI0.out)) (by (with_reducible repeat (first | apply Kd.R_alloc | apply Kd.R_drewN | apply Kd.R_drew)); exact HO570030.out) (by decide)) hk (fun _ h => h.2)) (fun _ h => h.1))
                        have n4_ := Aside0.mk (KeepBut.trans (by repeat (first | (with_reducible first | exact HK.out | apply KeepBut.set_ | apply keep_drewN | apply keep_drew | apply keep_alloc | refine keep_far ?_ GW570001.out _ | refine keep_far ?_ GW570006.out _) | exact HK.out)) hk (.inl rfl))
                        have n5_ := Aside0.mk (hb)
                        have n6_ := Aside0.mk (hi)
                        clear HO_570007001
                        clear BK570001
                        clear BK570006
                        clear HO570030
                        clear HK
                        clear HB
                        clear HI0
                        have HO_570007001 := n0_
                        have BK570001 := n1_
                        have BK570006 := n2_
                        have HO570030 := n3_
                        have HK := n4_
                        have HB := n5_
                        have HI0 := n6_
                        clear n0_ n1_ n2_ n3_ n4_ n5_ n6_
                        (try clear hb)
                        (try clear hb2)
                        (try clear hk)
                        (try clear hi)
                        refine hK.out _ _ ⟨(blk_cell BK570006.out 0).trans rfl, (blk_cell BK570006.out 1).trans rfl⟩ (fun hHeld => ?_)
                        clear hK K
                        refine norm_ (a' := ?_) ?_ ?_
                        rotate_left
                        · show Act.put _ (some 39) _ = _
                          simp only [Act.put, List.setIfInBounds_toArray, List.set_cons_zero, List.set_cons_succ, i64_w, i32_w]
                          rfl
                        exact norm_ (by simp only [putAll, Act.put, List.setIfInBounds_toArray, List.set_cons_zero, List.set_cons_succ]) (hCont (.slice (some ado52) y570028.length co52, ado52) _ ⟨hHeld, (by (with_reducible repeat (first | apply Kd.R_alloc | apply Kd.R_drewN | apply Kd.R_drew)); exact Kd.R_mono HO570030.out (fun _ hk => hk.2)), (by (with_reducible repeat (first | apply Kd.Q_alloc | apply Kd.Q_drewN | apply Kd.Q_drew)); exact Kd.Q_mono HO_570007001.out (fun _ hk => hk.2)), ⟨_, rfl⟩, (by (with_reducible repeat (first | refine blk_drewN ?_ _ | refine blk_drew ?_ | refine blk_alloc ?_ _)); exact BK570001.out), (by (with_reducible repeat (first | refine blk_drewN ?_ _ | refine blk_drew ?_ | refine blk_alloc ?_ _)); exact BK570006.out), (by repeat (first | (with_reducible first | exact HI0.out | apply IsS76.alloc | apply IsS76.drewN | apply IsS76.drew | apply IsS76.set_1 | refine IsS76.far ?_ NB0_570001.out _ | refine IsS76.far ?_ NB0_570006.out _) | exact HI0.out)), (by repeat (first | (with_reducible first | exact HK.out | apply KeepBut.set_ | apply keep_drewN | apply keep_drew | apply keep_alloc | refine keep_far ?_ GW570001.out _ | refine keep_far ?_ GW570006.out _) | exact HK.out)), (by repeat (first | (with_reducible first | exact HB.out | apply below_alloc | apply pw_below_drewN | apply below_drew1 | refine below_set ?_ (IsS76.ge HI0.out) | refine below_set ?_ GE570001.out | refine below_set ?_ GE570006.out) | exact HB.out))⟩)
                    rintro ⟨v570029, adz_v570029⟩ w55 ⟨hS_, h0_, h1_, h2_, h3_, h4_, h5_, h6_, h7_⟩
                    have n0_ : Aside0 (Kd.R (Kd.int .i64) 3 w55 w.heap.size (fun k_ => some k_ ≠ (u570007001 : Value).ownBlock) v570029 y570028) := ⟨h0_⟩
                    have n1_ : Aside0 (Kd.Q (Kd.int .i64) 3 w55 w.heap.size (fun k_ => some k_ ≠ (v570029 : Value).ownBlock) u570007001 x570007001_1) := ⟨h1_⟩
                    have n2_ : Aside0 (∃ c_, (v570029 : Value) = .slice (some adz_v570029) y570028.length c_) := ⟨h2_⟩
                    have n3_ : Aside0 (w55.heap[gb570001]? = some (.cells #[.int .i64 0, .slice none 0 0] 27 (0, 0))) := ⟨h3_⟩
                    have n4_ : Aside0 (w55.heap[gb570006]? = some (.cells #[.int .i64 x570007000_1, u570007001] 27 (0, 0))) := ⟨h4_⟩
                    have n5_ : Aside0 (IsS76 w0 w55 g s0_0 t570032) := ⟨h5_⟩
                    have n6_ : Aside0 (KeepBut w w55 g none) := ⟨h6_⟩
                    have n7_ : Aside0 (Below w0.heap.size w0 w55) := ⟨h7_⟩
                    clear HO_570007001
                    clear BK570001
                    clear BK570006
                    clear HI0
                    clear HK
                    clear HB
                    clear h0_ h1_ h2_ h3_ h4_ h5_ h6_ h7_
                    have HO570030 := n0_
                    have HO_570007001 := n1_
                    have HA_HO570030 := n2_
                    have BK570001 := n3_
                    have BK570006 := n4_
                    have HI0 := n5_
                    have HK := n6_
                    have HB := n7_
                    clear n0_ n1_ n2_ n3_ n4_ n5_ n6_ n7_
                    have hHeld : w55.cell? ⟨gb570006, 0, none⟩ = some (.int .i64 x570007000_1) ∧ w55.cell? ⟨gb570006, 1, none⟩ = some (u570007001) := hS_
                    obtain ⟨co56, eo56⟩ := HA_HO570030.out
                    clear HA_HO570030
                    subst eo56
                    have p47 : 0 ≤ (t570026 : Int) := of_decide_eq_true (by first | (with_reducible assumption) | assumption)
                    have q47 : (t570026 : Int) < ((x570007001_1.length : Int) : Int) := of_decide_eq_true (by first | (with_reducible assumption) | assumption)
                    obtain ⟨go47, oo47, co47, eo47, gb47, gl47, cl47, HG47⟩ := Kd.Q_form HO_570007001.out (by omega)
                    (first | cases eo47 | (injection eo47 with ea_ en_ ec_; (first | subst ea_ | (injection ea_ with ea_; subst ea_)); subst ec_; clear en_))
                    have GB47 := Aside0.mk gb47
                    have GG47 := Aside0.mk HG47
                    clear gb47 gl47 HG47
                    obtain ⟨hx47_0, hf47_0⟩ := Kd.Q_cell 0 HO_570007001.out (t570026 : Int) p47 q47
                    replace p47 := eq_true p47
                    replace q47 := eq_true q47
                    have HN0_go47 := Aside0.mk (show g ≠ go47 from by have h_ := IsS76.own_neQ HI0.out HO_570007001.out (by decide); intro e_; exact h_ (by rw [e_]; rfl))
                    have HP57 := (Kd.Q_putg HO_570007001.out (t570026 : Int) (of_decide_eq_true (by first | (with_reducible assumption) | assumption)) (by have h_ : (t570026 : Int) < ((x570007001_1.length : Int) : Int) := of_decide_eq_true (by first | (with_reducible assumption) | assumption); first | exact h_ | (have e_ := (Kd.Q_reads' HO_570007001.out).1; omega) | simpa using h_) (rd y570028 t570031)).1
                    rw [← Ny570034.out] at HP57
                    have HQ57 := Aside0.mk HP57
                    clear HP57
                    refine norm_ (a' := ?_) ?_ ?_
                    rotate_left
                    · simp only [putAll, Act.put, List.setIfInBounds_toArray, List.set_cons_zero, List.set_cons_succ]
                      rfl
                    refine pure_ (i := 7) (N := some 40) (v := ?_) (a' := ?_) #[true, true, true, true, true, true, true, true, false, false, false] rfl rfl (any_of HT_.out (by kernel_rfl)) (fun _ _ _ h => h) (Or.inl ⟨by rfl, ?_⟩) ?_ ?_
                    rotate_left
                    · intro w'
                      go_simp
                      with_reducible rfl
                    rotate_left
                    · simp only [Act.put, List.setIfInBounds_toArray, List.set_cons_zero, List.set_cons_succ, i64_w, i32_w]
                      rfl
                    refine one_ (i := 8) (N := some 41) #[true, true, true, true, true, true, true, true, true, false, false] rfl rfl (one_of HT_.out (by kernel_rfl)) (by decide) (fun K hK => ?_)
                    (have p570033 : 0 ≤ (t570031 : Int) := of_decide_eq_true (by first | (with_reducible assumption) | assumption); have q570033 : t570031 < (y570028.length : Int) := of_decide_eq_true (by first | (with_reducible assumption) | assumption); obtain ⟨ad570033, e570033, hx570033_0⟩ := Kd.at_int (Kd.R_reads' HO570030.out).2.2 t570031 p570033 q570033; obtain rfl : adz_v570029 = ad570033 := (by injection e570033))
                    refine value_ (w1 := ?_) (v := ?_) (by rfl) rfl ?_ ?_
                    rotate_left 2
                    · go_simp
                      constructor
                      · rfl
                      · rfl
                    clear hx570033_0
                    refine hK.out _ _ ⟨(blk_cell BK570006.out 0).trans rfl, (blk_cell BK570006.out 1).trans rfl⟩ (fun hHeld => ?_)
                    clear hK K
                    refine norm_ (a' := ?_) ?_ ?_
                    rotate_left
                    · show Act.put _ (some 41) _ = _
                      simp only [Act.put, List.setIfInBounds_toArray, List.set_cons_zero, List.set_cons_succ, i64_w, i32_w]
                      rfl
                    refine pure_ (i := 9) (N := some 42) (v := ?_) (a' := ?_) #[true, true, true, true, true, true, true, true, true, true, false] rfl rfl (any_of HT_.out (by kernel_rfl)) (fun _ _ _ h => h) (Or.inl ⟨by rfl, ?_⟩) ?_ ?_
                    rotate_left
                    · intro w'
                      go_simp
                      with_reducible rfl
                    rotate_left
                    · simp only [Act.put, List.setIfInBounds_toArray, List.set_cons_zero, List.set_cons_succ, i64_w, i32_w]
                      rfl
                    refine last_ (i := 10) (N := none) #[true, true, true, true, true, true, true, true, true, true, true] rfl rfl (one_of HT_.out (by kernel_rfl)) (by decide) (fun K hK => ?_)
                    refine skip_ (w1 := ?_) (by rfl) rfl ?_ ?_
                    rotate_left
                    · go_simp
                      rfl
                    refine hK.out _ _ ?_
                    clear hK K
                    refine done_ (done_of HT_.out (by kernel_rfl)) ?_
                    have n0_ : Aside0 (Kd.Q (Kd.int .i64) 3 (w55.setCell ⟨go47, oo47 + (t570026 : Int).toNat, none⟩ (.int .i64 (rd y570028 t570031))) w.heap.size (fun k_ => some k_ ≠ (.slice (some adz_v570029) y570028.length co56 : Value).ownBlock) (.slice (some ⟨go47, oo47, none⟩) x570007001_1.length co47) y570034) := ⟨by (with_reducible repeat (first | apply Kd.Q_alloc | apply Kd.Q_drewN | apply Kd.Q_drew)); exact HQ57.out⟩
                    have n1_ : Aside0 (Kd.R (Kd.int .i64) 3 (w55.setCell ⟨go47, oo47 + (t570026 : Int).toNat, none⟩ (.int .i64 (rd y570028 t570031))) w.heap.size (fun k_ => some k_ ≠ (.slice (some ⟨go47, oo47, none⟩) x570007001_1.length co47 : Value).ownBlock) (.slice (some adz_v570029) y570028.length co56) y570028) := ⟨by (with_reducible repeat (first | apply Kd.R_alloc | apply Kd.R_drewN | apply Kd.R_drew)); exact Kd.R_mono (Kd.R_far (p := ⟨go47, oo47 + (t570026 : Int).toNat, none⟩) (Kd.R_mono HO570030.out (fun k_ hk => (⟨hk, fun e_ => hk (by rw [e_]; rfl)⟩ : _ ∧ k_ ≠ go47))) (fun _ hk => hk.2) (.int .i64 (rd y570028 t570031))) (fun _ hk => hk.1)⟩
                    have n2_ : Aside0 ((w55.setCell ⟨go47, oo47 + (t570026 : Int).toNat, none⟩ (.int .i64 (rd y570028 t570031))).heap[gb570001]? = some (.cells #[.int .i64 0, .slice none 0 0] 27 (0, 0))) := ⟨by (with_reducible repeat (first | refine blk_drewN ?_ _ | refine blk_drew ?_ | refine blk_alloc ?_ _)); refine blk_far ?_ (by have h_ := Kd.Q_ne HO_570007001.out BK570001.out (by decide); intro e_; exact h_ (by rw [e_]; rfl)) _; (with_reducible repeat (first | refine blk_drewN ?_ _ | refine blk_drew ?_ | refine blk_alloc ?_ _)); exact BK570001.out⟩
                    have n3_ : Aside0 ((w55.setCell ⟨go47, oo47 + (t570026 : Int).toNat, none⟩ (.int .i64 (rd y570028 t570031))).heap[gb570006]? = some (.cells #[.int .i64 x570007000_1, .slice (some ⟨go47, oo47, none⟩) x570007001_1.length co47] 27 (0, 0))) := ⟨by (with_reducible repeat (first | refine blk_drewN ?_ _ | refine blk_drew ?_ | refine blk_alloc ?_ _)); refine blk_far ?_ (by have h_ := Kd.Q_ne HO_570007001.out BK570006.out (by decide); intro e_; exact h_ (by rw [e_]; rfl)) _; (with_reducible repeat (first | refine blk_drewN ?_ _ | refine blk_drew ?_ | refine blk_alloc ?_ _)); exact BK570006.out⟩
                    have n4_ : Aside0 (IsS76 w0 (w55.setCell ⟨go47, oo47 + (t570026 : Int).toNat, none⟩ (.int .i64 (rd y570028 t570031))) g s0_0 t570032) := ⟨by repeat (first | (with_reducible first | exact HI0.out | apply IsS76.alloc | apply IsS76.drewN | apply IsS76.drew | apply IsS76.set_1 | refine IsS76.far ?_ HN0_go47.out _ | refine IsS76.far ?_ NB0_570001.out _ | refine IsS76.far ?_ NB0_570006.out _) | exact HI0.out)⟩
                    have n5_ : Aside0 (KeepBut w (w55.setCell ⟨go47, oo47 + (t570026 : Int).toNat, none⟩ (.int .i64 (rd y570028 t570031))) g none) := ⟨by repeat (first | (with_reducible first | exact HK.out | apply KeepBut.set_ | apply keep_drewN | apply keep_drew | apply keep_alloc | refine keep_far ?_ GB47.out _ | refine keep_far ?_ GW570001.out _ | refine keep_far ?_ GW570006.out _) | exact HK.out)⟩
                    have n6_ : Aside0 (Below w0.heap.size w0 (w55.setCell ⟨go47, oo47 + (t570026 : Int).toNat, none⟩ (.int .i64 (rd y570028 t570031)))) := ⟨by repeat (first | (with_reducible first | exact HB.out | apply below_alloc | apply pw_below_drewN | apply below_drew1 | refine below_set ?_ (Nat.le_trans HL.out GB47.out) | refine below_set ?_ (IsS76.ge HI0.out) | refine below_set ?_ GE570001.out | refine below_set ?_ GE570006.out) | exact HB.out)⟩
                    (try clear HO_570007001)
                    (try clear HO570030)
                    (try clear BK570001)
                    (try clear BK570006)
                    (try clear HI0)
                    (try clear HK)
                    (try clear HB)
                    generalize (w55.setCell ⟨go47, oo47 + (t570026 : Int).toNat, none⟩ (.int .i64 (rd y570028 t570031))) = w58 at n0_ n1_ n2_ n3_ n4_ n5_ n6_ ⊢
                    have HO_570007001 := n0_
                    have HO570030 := n1_
                    have BK570001 := n2_
                    have BK570006 := n3_
                    have HI0 := n4_
                    have HK := n5_
                    have HB := n6_
                    clear n0_ n1_ n2_ n3_ n4_ n5_ n6_
                    have hnb59 := NB570006_570001.out
                    have hnc59 := NB570001_570006.out
                    have hnb60 := NB570006_0.out
                    have hnc60 := NB0_570006.out
                    have hcz61_0 : w58.cell? ⟨gb570006, 0, none⟩ = some (.int .i64 x570007000_1) := (blk_cell BK570006.out 0).trans rfl
                    have hcz61_1 : w58.cell? ⟨gb570006, 1, none⟩ = some (.slice (some ⟨go47, oo47, none⟩) x570007001_1.length co47) := (blk_cell BK570006.out 1).trans rfl
                    have hfz61_0 := blk_frozen BK570006.out 0
                    have hfz61_1 := blk_frozen BK570006.out 1
                    have hnb62 := NB570001_0.out
                    have hnc62 := NB0_570001.out
                    have hcz63_0 : w58.cell? ⟨gb570001, 0, none⟩ = some (.int .i64 0) := (blk_cell BK570001.out 0).trans rfl
                    have hcz63_1 : w58.cell? ⟨gb570001, 1, none⟩ = some (.slice none 0 0) := (blk_cell BK570001.out 1).trans rfl
                    have hfz63_0 := blk_frozen BK570001.out 0
                    have hfz63_1 := blk_frozen BK570001.out 1
                    try go_wp2
                    refine bodyPost_ret (results_cell_row rfl _ _ gb570001 27 #[.int .i64 x570007000_1, .slice (some ⟨go47, oo47, none⟩) x570007001_1.length co47] (0, 0) _ rfl (by (with_reducible repeat (first | refine blk_drewN ?_ _ | refine blk_drew ?_ | refine blk_alloc ?_ _)); refine blk_put (cs := #[.int .i64 x570007000_1, .slice none 0 0]) ?_ 1 _ rfl; (with_reducible repeat (first | refine blk_drewN ?_ _ | refine blk_drew ?_ | refine blk_alloc ?_ _)); refine blk_put (cs := #[.int .i64 0, .slice none 0 0]) ?_ 0 _ rfl; (with_reducible repeat (first | refine blk_drewN ?_ _ | refine blk_drew ?_ | refine blk_alloc ?_ _)); exact BK570001.out) Try.underlying27 rfl (by kernel_rfl)) rfl ?_
                    exact ⟨_, by first | rfl | (simp [errW_none, errW_some] <;> rfl) | (simp [*, errW_none, errW_some] <;> rfl), by (with_reducible repeat (first | apply Kd.Q_alloc | apply Kd.Q_drewN | apply Kd.Q_drew)); exact Kd.Q_mono (Kd.Q_far (p := ⟨gb570001, 1, none⟩) (Kd.Q_far (p := ⟨gb570001, 0, none⟩) (Kd.Q_types HO_570007001.out BK570001.out (by decide)) (fun _ hk => hk.2) (.int .i64 x570007000_1)) (fun _ hk => hk.2) (.slice (some ⟨go47, oo47, none⟩) x570007001_1.length co47)) (fun _ hk => trivial), by repeat (first | (with_reducible first | exact HI0.out | apply IsS76.alloc | apply IsS76.drewN | apply IsS76.drew | apply IsS76.set_1 | refine IsS76.far ?_ NB0_570001.out _ | refine IsS76.far ?_ NB0_570006.out _) | exact HI0.out), by repeat (first | (with_reducible first | exact HB.out | apply below_alloc | apply pw_below_drewN | apply below_drew1 | refine below_set ?_ (IsS76.ge HI0.out) | refine below_set ?_ GE570001.out | refine below_set ?_ GE570006.out) | exact HB.out), by repeat (first | (with_reducible first | exact HK.out | apply KeepBut.set_ | apply keep_drewN | apply keep_drew | apply keep_alloc | refine keep_far ?_ GW570001.out _ | refine keep_far ?_ GW570006.out _) | exact HK.out)⟩
                  · rw [if_neg c46] at H
                    exact absurd H (by simp)
                · rw [if_neg c45] at H
                  exact absurd H (by simp)
              · rw [if_neg c44] at H
                exact absurd H (by simp)
            · rw [if_neg c43] at H
              exact absurd H (by simp)
          · rw [if_neg c40] at H
            have c40b0 : (t570018 == 1) = false := beq_eq_false_iff_ne.mpr c40
            have c40b1 : (t570018 != 1) = true := bne_iff_ne.mpr c40
            by_cases c64 : t570018 = 2
            · rw [if_pos c64] at H
              have c64b0 : (t570018 == 2) = true := beq_iff_eq.mpr c64
              have c64b1 : (t570018 != 2) = false := bne_eq_false_iff_eq.mpr c64
              clear c64
              by_cases c65 : 1 ≤ (x570007001_1.length : Int)
              · rw [if_pos c65] at H
                have c65b0 := eq_true c65
                have c65b1 : decide (1 ≤ (x570007001_1.length : Int)) = true := decide_eq_true c65
                clear c65
                obtain ⟨y570035, hy570035⟩ : ∃ y_ : List Int, y_ = (x570007001_1.drop (1 : Int).toNat) := ⟨_, rfl⟩
                replace H : (some (x570007000_1, y570035, t570019)) = some (r1, r2, r3) := by first | (rw [hy570035]; with_reducible exact H) | (have H2_ := (Option.bind_some _ _).symm.trans H; rw [hy570035]; with_reducible exact H2_) | (have H2_ := (Option.bind_some _ _).symm.trans H; with_reducible exact H2_) | with_reducible exact H | (rw [hy570035]; exact H) | exact H
                have Ny570035 := Aside0.mk hy570035
                clear hy570035
                simp only [Option.some.injEq, Prod.mk.injEq] at H
                obtain ⟨rfl, rfl, rfl⟩ := H
                go_wp2_with (first | ((with_reducible refine gate_callee (f := 57) rfl ?_); refine goesL_ (some 22) rfl rfl Try.func57 (by kernel_rfl) rfl #[.pointer (some ⟨g, 0, none⟩), .int .i64 14] rfl (by (try simp only [List.map_toArray, List.map_cons, List.map_nil]); first | done | rfl | (simp only [List.length_drop, List.length_take]; rfl)) ?_; (with_reducible refine (spec_l6Rd_pick.calls k1 g s0_0 x1001_1 14 t570018 t570019 w0 _ ?side1 ?side2 A24.out).mono ?_); (case side1 => repeat (first | (with_reducible first | exact HI0.out | apply IsS76.alloc | apply IsS76.drewN | apply IsS76.drew | apply IsS76.set_1 | refine IsS76.far ?_ NB0_570001.out _ | refine IsS76.far ?_ NB0_570006.out _) | exact HI0.out)); (case side2 => repeat (first | (with_reducible first | exact HB.out | apply below_alloc | apply pw_below_drewN | apply below_drew1 | refine below_set ?_ (IsS76.ge HI0.out) | refine below_set ?_ GE570001.out | refine below_set ?_ GE570006.out) | exact HB.out)); rintro e w66 ⟨rfl, hi, hb, hk⟩; refine ⟨_, rfl, ?_⟩; have n0_ := Aside0.mk (Kd.Q_mono (Kd.Q_keep (IsS76.apartQ (show IsS76 w0 _ g s0_0 x1001_1 from by repeat (first | (with_reducible first | exact HI0.out | apply IsS76.alloc | apply IsS76.drewN | apply IsS76.drew | apply IsS76.set_1 | refine IsS76.far ?_ NB0_570001.out _ | refine IsS76.far ?_ NB0_570006.out _) | exact HI0.out)) (by (with_reducible repeat (first | apply Kd.Q_alloc | apply Kd.Q_drewN | apply Kd.Q_drew)); exact HO_570007001.out) (by decide)) hk (fun _ h => h.2)) (fun _ h => h.1)); have n1_ := Aside0.mk (KeepBut.blk hk (g' := gb570001) (o := .cells #[.int .i64 0, .slice none 0 0] 27 (0, 0)) (by (with_reducible repeat (first | refine blk_drewN ?_ _ | refine blk_drew ?_ | refine blk_alloc ?_ _)); exact BK570001.out) NB570001_0.out (by simp)); have n2_ := Aside0.mk (KeepBut.blk hk (g' := gb570006) (o := .cells #[.int .i64 x570007000_1, u570007001] 27 (0, 0)) (by (with_reducible repeat (first | refine blk_drewN ?_ _ | refine blk_drew ?_ | refine blk_alloc ?_ _)); exact BK570006.out) NB570006_0.out (by simp)); have n3_ := Aside0.mk (KeepBut.trans (by repeat (first | (with_reducible first | exact HK.out | apply KeepBut.set_ | apply keep_drewN | apply keep_drew | apply keep_alloc | refine keep_far ?_ GW570001.out _ | refine keep_far ?_ GW570006.out _) | exact HK.out)) hk (.inl rfl)); have n4_ := Aside0.mk (hb); have n5_ := Aside0.mk (hi); clear HO_570007001; clear BK570001; clear BK570006; clear HK; clear HB; clear HI0; have HO_570007001 := n0_; have BK570001 := n1_; have BK570006 := n2_; have HK := n3_; have HB := n4_; have HI0 := n5_; clear n0_ n1_ n2_ n3_ n4_ n5_; (try clear hb); (try clear hb2); (try clear hk); (try clear hi); have hnb67 := NB570006_570001.out; have hnc67 := NB570001_570006.out; have hnb68 := NB570006_0.out; have hnc68 := NB0_570006.out; have hcz69_0 : w66.cell? ⟨gb570006, 0, none⟩ = some (.int .i64 x570007000_1) := (blk_cell BK570006.out 0).trans rfl; have hcz69_1 : w66.cell? ⟨gb570006, 1, none⟩ = some (u570007001) := (blk_cell BK570006.out 1).trans rfl; have hfz69_0 := blk_frozen BK570006.out 0; have hfz69_1 := blk_frozen BK570006.out 1; obtain ⟨Ao70, co70, eo70, _⟩ := Kd.Q_slice HO_570007001.out; subst eo70; have q71 : (1 : Int) ≤ ((x570007001_1.length : Int) : Int) := of_decide_eq_true (by first | (with_reducible assumption) | assumption); obtain ⟨i071, hi071, _, hsz71, _⟩ := info_parts info3; have hcut71 := cut_from (P := Try.prog) 25 3 .i64 Try.underlying25 hi071 1 hsz71 Ao70 x570007001_1.length co70 1 (by omega) q71; have hr71 := Kd.Q_drop (k := (1 : Int).toNat) HO_570007001.out (by omega); obtain ⟨A71, hA71⟩ : ∃ A1, A1 = (if co70 = (1 : Int).toNat then Ao70 else (Ao70 : Option Addr).map (·.add ((1 : Int).toNat * 1))) := ⟨_, rfl⟩; obtain ⟨c71, hc71⟩ : ∃ c1, c1 = co70 - (1 : Int).toNat := ⟨_, rfl⟩; have hy71 : y570035.length = x570007001_1.length - (1 : Int).toNat := (by rw [Ny570035.out, List.length_drop]); rw [← Ny570035.out] at hr71; rw [← hy71, ← hA71, ← hc71] at hcut71; replace hr71 : Kd.Q (Kd.int .i64) 3 w66 w.heap.size (fun _ => True) (.slice A71 y570035.length c71) y570035 := (by rw [hA71, hc71, hy71]; exact hr71); have HE71 : Aside0 ((Value.slice A71 y570035.length c71).ownBlock = (.slice Ao70 x570007001_1.length co70 : Value).ownBlock) := ⟨by rw [hA71]; split <;> (cases (Ao70 : Option Addr) <;> rfl)⟩; clear hy71 hi071 hsz71 HO_570007001 hA71 hc71; have HO570037 := Aside0.mk hr71; clear hr71; replace q71 := eq_true q71; have hnb72 := NB570001_0.out; have hnc72 := NB0_570001.out; have hcz73_0 : w66.cell? ⟨gb570001, 0, none⟩ = some (.int .i64 0) := (blk_cell BK570001.out 0).trans rfl; have hcz73_1 : w66.cell? ⟨gb570001, 1, none⟩ = some (.slice none 0 0) := (blk_cell BK570001.out 1).trans rfl; have hfz73_0 := blk_frozen BK570001.out 0; have hfz73_1 := blk_frozen BK570001.out 1))
                refine bodyPost_ret (results_cell_row rfl _ _ gb570001 27 #[.int .i64 x570007000_1, .slice A71 y570035.length c71] (0, 0) _ rfl (by (with_reducible repeat (first | refine blk_drewN ?_ _ | refine blk_drew ?_ | refine blk_alloc ?_ _)); refine blk_put (cs := #[.int .i64 x570007000_1, .slice none 0 0]) ?_ 1 _ rfl; (with_reducible repeat (first | refine blk_drewN ?_ _ | refine blk_drew ?_ | refine blk_alloc ?_ _)); refine blk_put (cs := #[.int .i64 0, .slice none 0 0]) ?_ 0 _ rfl; (with_reducible repeat (first | refine blk_drewN ?_ _ | refine blk_drew ?_ | refine blk_alloc ?_ _)); refine blk_far ?_ NB570001_570006.out _; (with_reducible repeat (first | refine blk_drewN ?_ _ | refine blk_drew ?_ | refine blk_alloc ?_ _)); exact BK570001.out) Try.underlying27 rfl (by kernel_rfl)) rfl ?_
                exact ⟨_, by first | rfl | (simp [errW_none, errW_some] <;> rfl) | (simp [*, errW_none, errW_some] <;> rfl), by (with_reducible repeat (first | apply Kd.Q_alloc | apply Kd.Q_drewN | apply Kd.Q_drew)); exact Kd.Q_mono (Kd.Q_far (p := ⟨gb570001, 1, none⟩) (Kd.Q_far (p := ⟨gb570001, 0, none⟩) (Kd.Q_far (p := ⟨gb570006, 1, none⟩) (Kd.Q_types (Kd.Q_types HO570037.out BK570006.out (by decide)) BK570001.out (by decide)) (fun _ hk => hk.1.2) (.slice A71 y570035.length c71)) (fun _ hk => hk.2) (.int .i64 x570007000_1)) (fun _ hk => hk.2) (.slice A71 y570035.length c71)) (fun _ hk => trivial), by repeat (first | (with_reducible first | exact HI0.out | apply IsS76.alloc | apply IsS76.drewN | apply IsS76.drew | apply IsS76.set_1 | refine IsS76.far ?_ NB0_570001.out _ | refine IsS76.far ?_ NB0_570006.out _) | exact HI0.out), by repeat (first | (with_reducible first | exact HB.out | apply below_alloc | apply pw_below_drewN | apply below_drew1 | refine below_set ?_ (IsS76.ge HI0.out) | refine below_set ?_ GE570001.out | refine below_set ?_ GE570006.out) | exact HB.out), by repeat (first | (with_reducible first | exact HK.out | apply KeepBut.set_ | apply keep_drewN | apply keep_drew | apply keep_alloc | refine keep_far ?_ GW570001.out _ | refine keep_far ?_ GW570006.out _) | exact HK.out)⟩
              · rw [if_neg c65] at H
                exact absurd H (by simp)
            · rw [if_neg c64] at H
              have c64b0 : (t570018 == 2) = false := beq_eq_false_iff_ne.mpr c64
              have c64b1 : (t570018 != 2) = true := bne_iff_ne.mpr c64
              simp only [Option.some.injEq, Prod.mk.injEq] at H
              obtain ⟨rfl, rfl, rfl⟩ := H
              go_wp2_with (first | ((with_reducible refine gate_callee (f := 57) rfl ?_); refine goesL_ (some 22) rfl rfl Try.func57 (by kernel_rfl) rfl #[.pointer (some ⟨g, 0, none⟩), .int .i64 14] rfl (by (try simp only [List.map_toArray, List.map_cons, List.map_nil]); first | done | rfl | (simp only [List.length_drop, List.length_take]; rfl)) ?_; (with_reducible refine (spec_l6Rd_pick.calls k1 g s0_0 x1001_1 14 t570018 t570019 w0 _ ?side1 ?side2 A24.out).mono ?_); (case side1 => repeat (first | (with_reducible first | exact HI0.out | apply IsS76.alloc | apply IsS76.drewN | apply IsS76.drew | apply IsS76.set_1 | refine IsS76.far ?_ NB0_570001.out _ | refine IsS76.far ?_ NB0_570006.out _) | exact HI0.out)); (case side2 => repeat (first | (with_reducible first | exact HB.out | apply below_alloc | apply pw_below_drewN | apply below_drew1 | refine below_set ?_ (IsS76.ge HI0.out) | refine below_set ?_ GE570001.out | refine below_set ?_ GE570006.out) | exact HB.out)); rintro e w74 ⟨rfl, hi, hb, hk⟩; refine ⟨_, rfl, ?_⟩; have n0_ := Aside0.mk (Kd.Q_mono (Kd.Q_keep (IsS76.apartQ (show IsS76 w0 _ g s0_0 x1001_1 from by repeat (first | (with_reducible first | exact HI0.out | apply IsS76.alloc | apply IsS76.drewN | apply IsS76.drew | apply IsS76.set_1 | refine IsS76.far ?_ NB0_570001.out _ | refine IsS76.far ?_ NB0_570006.out _) | exact HI0.out)) (by (with_reducible repeat (first | apply Kd.Q_alloc | apply Kd.Q_drewN | apply Kd.Q_drew)); exact HO_570007001.out) (by decide)) hk (fun _ h => h.2)) (fun _ h => h.1)); have n1_ := Aside0.mk (KeepBut.blk hk (g' := gb570001) (o := .cells #[.int .i64 0, .slice none 0 0] 27 (0, 0)) (by (with_reducible repeat (first | refine blk_drewN ?_ _ | refine blk_drew ?_ | refine blk_alloc ?_ _)); exact BK570001.out) NB570001_0.out (by simp)); have n2_ := Aside0.mk (KeepBut.blk hk (g' := gb570006) (o := .cells #[.int .i64 x570007000_1, u570007001] 27 (0, 0)) (by (with_reducible repeat (first | refine blk_drewN ?_ _ | refine blk_drew ?_ | refine blk_alloc ?_ _)); exact BK570006.out) NB570006_0.out (by simp)); have n3_ := Aside0.mk (KeepBut.trans (by repeat (first | (with_reducible first | exact HK.out | apply KeepBut.set_ | apply keep_drewN | apply keep_drew | apply keep_alloc | refine keep_far ?_ GW570001.out _ | refine keep_far ?_ GW570006.out _) | exact HK.out)) hk (.inl rfl)); have n4_ := Aside0.mk (hb); have n5_ := Aside0.mk (hi); clear HO_570007001; clear BK570001; clear BK570006; clear HK; clear HB; clear HI0; have HO_570007001 := n0_; have BK570001 := n1_; have BK570006 := n2_; have HK := n3_; have HB := n4_; have HI0 := n5_; clear n0_ n1_ n2_ n3_ n4_ n5_; (try clear hb); (try clear hb2); (try clear hk); (try clear hi); have hnb75 := NB570006_570001.out; have hnc75 := NB570001_570006.out; have hnb76 := NB570006_0.out; have hnc76 := NB0_570006.out; have hcz77_0 : w74.cell? ⟨gb570006, 0, none⟩ = some (.int .i64 x570007000_1) := (blk_cell BK570006.out 0).trans rfl; have hcz77_1 : w74.cell? ⟨gb570006, 1, none⟩ = some (u570007001) := (blk_cell BK570006.out 1).trans rfl; have hfz77_0 := blk_frozen BK570006.out 0; have hfz77_1 := blk_frozen BK570006.out 1; have hnb78 := NB570001_0.out; have hnc78 := NB0_570001.out; have hcz79_0 : w74.cell? ⟨gb570001, 0, none⟩ = some (.int .i64 0) := (blk_cell BK570001.out 0).trans rfl; have hcz79_1 : w74.cell? ⟨gb570001, 1, none⟩ = some (.slice none 0 0) := (blk_cell BK570001.out 1).trans rfl; have hfz79_0 := blk_frozen BK570001.out 0; have hfz79_1 := blk_frozen BK570001.out 1; obtain ⟨Ao80, co80, eo80, _⟩ := Kd.Q_slice HO_570007001.out; subst eo80))
              refine bodyPost_ret (results_cell_row rfl _ _ gb570001 27 #[.int .i64 x570007000_1, .slice Ao80 x570007001_1.length co80] (0, 0) _ rfl (by (with_reducible repeat (first | refine blk_drewN ?_ _ | refine blk_drew ?_ | refine blk_alloc ?_ _)); refine blk_put (cs := #[.int .i64 x570007000_1, .slice none 0 0]) ?_ 1 _ rfl; (with_reducible repeat (first | refine blk_drewN ?_ _ | refine blk_drew ?_ | refine blk_alloc ?_ _)); refine blk_put (cs := #[.int .i64 0, .slice none 0 0]) ?_ 0 _ rfl; (with_reducible repeat (first | refine blk_drewN ?_ _ | refine blk_drew ?_ | refine blk_alloc ?_ _)); exact BK570001.out) Try.underlying27 rfl (by kernel_rfl)) rfl ?_
              exact ⟨_, by first | rfl | (simp [errW_none, errW_some] <;> rfl) | (simp [*, errW_none, errW_some] <;> rfl), by (with_reducible repeat (first | apply Kd.Q_alloc | apply Kd.Q_drewN | apply Kd.Q_drew)); exact Kd.Q_mono (Kd.Q_far (p := ⟨gb570001, 1, none⟩) (Kd.Q_far (p := ⟨gb570001, 0, none⟩) (Kd.Q_types HO_570007001.out BK570001.out (by decide)) (fun _ hk => hk.2) (.int .i64 x570007000_1)) (fun _ hk => hk.2) (.slice Ao80 x570007001_1.length co80)) (fun _ hk => trivial), by repeat (first | (with_reducible first | exact HI0.out | apply IsS76.alloc | apply IsS76.drewN | apply IsS76.drew | apply IsS76.set_1 | refine IsS76.far ?_ NB0_570001.out _ | refine IsS76.far ?_ NB0_570006.out _) | exact HI0.out), by repeat (first | (with_reducible first | exact HB.out | apply below_alloc | apply pw_below_drewN | apply below_drew1 | refine below_set ?_ (IsS76.ge HI0.out) | refine below_set ?_ GE570001.out | refine below_set ?_ GE570006.out) | exact HB.out), by repeat (first | (with_reducible first | exact HK.out | apply KeepBut.set_ | apply keep_drewN | apply keep_drew | apply keep_alloc | refine keep_far ?_ GW570001.out _ | refine keep_far ?_ GW570006.out _) | exact HK.out)⟩

end Go.Proofs.Ytnpmepaiigbhlaa.PX
