import Derived.Test.YtdjiclhjficgfaaPBx0
import Derived.Test.YtdjiclhjficgfaaPBx13
import Derived.Test.YtdjiclhjficgfaaPBx14
import Derived.Test.YtdjiclhjficgfaaPBx17
namespace Go.Proofs.Ytdjiclhjficgfaa.PB
open Go.RowKit Go.Proofs.YtdjiclhjficgfaaW.PrintWords Go.Proofs.YtdjiclhjficgfaaW.PrintLast Go.Proofs.YtdjiclhjficgfaaW.PrintMore
attribute [local go_sem] max2_int min2_int max_two min_two max_three min_three max_four min_four
set_option linter.unusedVariables false
set_option linter.unusedSimpArgs false

mutual
def impl_BooksOk.j0 : Nat → Bool → Int → Int → List Int → List (S48) → List (S108) → Option (Bool)
 | 0, _, _, _, _, _, _ => none
 | k + 1, x20, x440002000, x440002001, x440002002, x440002003, x440002004 => if x20 = true then (some false) else (impl_BooksOk.l0 k x440002004 (x440002004.length : Int) 0 x440002000 x440002001 x440002002 x440002003 x440002004)
def impl_BooksOk.l0 : Nat → List (S108) → Int → Int → Int → Int → List Int → List (S48) → List (S108) → Option (Bool)
 | 0, _, _, _, _, _, _, _, _ => none
 | k + 1, x22, x23, x24, x440002000, x440002001, x440002002, x440002003, x440002004 => if x24 < x23 then (if 0 ≤ x24 then (if x24 < (x22.length : Int) then ((impl_saidOk.f k ((rd_T108 x22 x24).f0) ((rd_T108 x22 x24).f1) ((rd_T108 x22 x24).f2) ((rd_T108 x22 x24).f3)).bind fun t440007 => (if t440007 = true then (if x24 > 0 then (if 0 ≤ (wrap64 (x24 - 1)) then (if (wrap64 (x24 - 1)) < (x440002004.length : Int) then (if ((rd_T108 x440002004 (wrap64 (x24 - 1))).f0) ≥ ((rd_T108 x22 x24).f0) then (some false) else (impl_BooksOk.l0 k x22 x23 (wrap64 (x24 + 1)) x440002000 x440002001 x440002002 x440002003 x440002004)) else (none)) else (none)) else (impl_BooksOk.l0 k x22 x23 (wrap64 (x24 + 1)) x440002000 x440002001 x440002002 x440002003 x440002004)) else (some false))) else (none)) else (none)) else (some true)
end
def impl_BooksOk.f (k : Nat) (a0_0 : Int) (a0_1 : Int) (l0_2 : List Int) (l0_3 : List (S48)) (l0_4 : List (S108)) : Option (Bool) := (impl_within.f a0_0 0 60).bind fun t440002 => (if t440002 = true then ((impl_MapOk.f k a0_1 l0_2).bind fun t440003 => (if t440003 = true then ((impl_storeOk.f k l0_3).bind fun t440004 => (impl_BooksOk.j0 k (!t440004) a0_0 a0_1 l0_2 l0_3 l0_4)) else (impl_BooksOk.j0 k true a0_0 a0_1 l0_2 l0_3 l0_4))) else (impl_BooksOk.j0 k true a0_0 a0_1 l0_2 l0_3 l0_4))
theorem impl_BooksOk.mono_l : ∀ k, (∀ y0 y1 y2 y3 y4 y5, LeO (impl_BooksOk.j0 k y0 y1 y2 y3 y4 y5) (impl_BooksOk.j0 (k + 1) y0 y1 y2 y3 y4 y5)) ∧ (∀ y0 y1 y2 y3 y4 y5 y6 y7, LeO (impl_BooksOk.l0 k y0 y1 y2 y3 y4 y5 y6 y7) (impl_BooksOk.l0 (k + 1) y0 y1 y2 y3 y4 y5 y6 y7))
 | 0 => ⟨fun _ _ _ _ _ _ r h => by simp [impl_BooksOk.j0] at h, fun _ _ _ _ _ _ _ _ r h => by simp [impl_BooksOk.l0] at h⟩
 | k + 1 => by
  obtain ⟨ih0, ih1⟩ := impl_BooksOk.mono_l k
  refine ⟨?_, ?_⟩
  ·intro y0 y1 y2 y3 y4 y5
   unfold impl_BooksOk.j0
   repeat' first
   | (with_reducible exact ih0 _ _ _ _ _ _)
   | (with_reducible exact ih1 _ _ _ _ _ _ _ _)
   | (with_reducible exact impl_MapOk.mono _ _ _)
   | (with_reducible exact impl_saidOk.mono _ _ _ _ _)
   | (with_reducible exact impl_storeOk.mono _ _)
   | (with_reducible exact LeO.refl _)
   | (with_reducible exact LeO.none _)
   | (with_reducible refine LeO.ite ?_ ?_)
   | (with_reducible refine LeO.bind ?_ (fun _ => ?_))
   | exact ih0 _ _ _ _ _ _
   | exact ih1 _ _ _ _ _ _ _ _
   | exact impl_MapOk.mono _ _ _
   | exact impl_saidOk.mono _ _ _ _ _
   | exact impl_storeOk.mono _ _
   | exact LeO.none _
   | refine LeO.ite ?_ ?_
   | refine LeO.bind ?_ (fun _ => ?_)
  ·intro y0 y1 y2 y3 y4 y5 y6 y7
   unfold impl_BooksOk.l0
   repeat' first
   | (with_reducible exact ih0 _ _ _ _ _ _)
   | (with_reducible exact ih1 _ _ _ _ _ _ _ _)
   | (with_reducible exact impl_MapOk.mono _ _ _)
   | (with_reducible exact impl_saidOk.mono _ _ _ _ _)
   | (with_reducible exact impl_storeOk.mono _ _)
   | (with_reducible exact LeO.refl _)
   | (with_reducible exact LeO.none _)
   | (with_reducible refine LeO.ite ?_ ?_)
   | (with_reducible refine LeO.bind ?_ (fun _ => ?_))
   | exact ih0 _ _ _ _ _ _
   | exact ih1 _ _ _ _ _ _ _ _
   | exact impl_MapOk.mono _ _ _
   | exact impl_saidOk.mono _ _ _ _ _
   | exact impl_storeOk.mono _ _
   | exact LeO.none _
   | refine LeO.ite ?_ ?_
   | refine LeO.bind ?_ (fun _ => ?_)
theorem impl_BooksOk.mono : ∀ a0 a1 a2 a3 a4 k, LeO (impl_BooksOk.f k a0 a1 a2 a3 a4) (impl_BooksOk.f (k + 1) a0 a1 a2 a3 a4) := by
 intro a0 a1 a2 a3 a4 k
 obtain ⟨ih0, ih1⟩ := impl_BooksOk.mono_l k
 unfold impl_BooksOk.f
 repeat' first
  | (with_reducible exact ih0 _ _ _ _ _ _)
  | (with_reducible exact ih1 _ _ _ _ _ _ _ _)
  | (with_reducible exact impl_MapOk.mono _ _ _)
  | (with_reducible exact impl_saidOk.mono _ _ _ _ _)
  | (with_reducible exact impl_storeOk.mono _ _)
  | (with_reducible exact LeO.refl _)
  | (with_reducible exact LeO.none _)
  | (with_reducible refine LeO.ite ?_ ?_)
  | (with_reducible refine LeO.bind ?_ (fun _ => ?_))
  | exact ih0 _ _ _ _ _ _
  | exact ih1 _ _ _ _ _ _ _ _
  | exact impl_MapOk.mono _ _ _
  | exact impl_saidOk.mono _ _ _ _ _
  | exact impl_storeOk.mono _ _
  | exact LeO.none _
  | refine LeO.ite ?_ ?_
  | refine LeO.bind ?_ (fun _ => ?_)
def impl_BooksOk.T6 : Bool × List (List Nat × List Nat) := (true, [([], []), ([0], [0]), ([1], [1]), ([2, 1], [2]), ([3], [3]), ([4, 3], [3, 4]), ([5, 3, 3], [3, 5]), ([6], [6]), ([7, 6], [6, 7]), ([6], [6]), ([9, 6], [6, 9]), ([8, 10, 6], [6, 8, 10]), ([11, 6], [6, 11]), ([12, 6], [6, 12]), ([6], [6]), ([14, 6], [6, 14]), ([13, 15, 6], [6, 13, 15]), ([6, 16, 3], [3, 6, 16]), ([3, 17], [3, 17])])
def impl_BooksOk.B6 : List Nat := [0, 1, 3, 7, 15, 31, 63, 127, 255, 127, 639, 2047, 4095, 8191, 127, 16511, 65535, 131071, 262143]
theorem impl_BooksOk.tab6 : rtab .any (opsOf Try.f43 6) = impl_BooksOk.T6 := by kernel_rfl
theorem impl_BooksOk.bits6 : waitsOk impl_BooksOk.T6.2 impl_BooksOk.B6 = true := by kernel_rfl
set_option maxHeartbeats 8000000 in
set_option maxRecDepth 100000 in
theorem impl_BooksOk.calls (k : Nat) (a0_0 : Int) (a0_1 : Int) (A0_2 : Option Addr) (c0_2 : Nat) (l0_2 : List Int) (A0_3 : Option Addr) (c0_3 : Nat) (l0_3 : List (S48)) (A0_4 : Option Addr) (c0_4 : Nat) (l0_4 : List (S108)) (r : Bool) (w : World) (hr0_2 : Kd.C (Kd.int .i64) w A0_2 l0_2.length l0_2) (hc0_2 : l0_2.length ≤ c0_2) (hr0_3 : Kd.C k48 w A0_3 l0_3.length l0_3) (hc0_3 : l0_3.length ≤ c0_3) (hr0_4 : Kd.C k108 w A0_4 l0_4.length l0_4) (hc0_4 : l0_4.length ≤ c0_4) (h : impl_BooksOk.f k a0_0 a0_1 l0_2 l0_3 l0_4 = some r) :
 Calls Try.prog 43 #[.agg #[.int .i64 a0_0, .int .i64 a0_1, .slice A0_2 l0_2.length c0_2, .slice A0_3 l0_3.length c0_3, .slice A0_4 l0_4.length c0_4]] w fun e w' => e = .returned (.bool r) ∧ Below w.heap.size w w' := by
 have hu56 := Try.underlying56
 have hu53 := Try.underlying53
 have hu108 := Try.underlying108
 have HR0_2 := Aside0.mk hr0_2
 have HC0_2 := Aside0.mk hc0_2
 clear hr0_2 hc0_2
 have HR0_3 := Aside0.mk hr0_3
 have HC0_3 := Aside0.mk hc0_3
 clear hr0_3 hc0_3
 have HR0_4 := Aside0.mk hr0_4
 have HC0_4 := Aside0.mk hc0_4
 clear hr0_4 hc0_4
 have HB := Aside0.mk (Below.refl w.heap.size w)
 have H : ((impl_within.f a0_0 0 60).bind fun t440002 => (if t440002 = true then ((impl_MapOk.f k a0_1 l0_2).bind fun t440003 => (if t440003 = true then ((impl_storeOk.f k l0_3).bind fun t440004 => (impl_BooksOk.j0 k (!t440004) a0_0 a0_1 l0_2 l0_3 l0_4)) else (impl_BooksOk.j0 k true a0_0 a0_1 l0_2 l0_3 l0_4))) else (impl_BooksOk.j0 k true a0_0 a0_1 l0_2 l0_3 l0_4))) = some r := h
 clear h
 have HC2 := Aside0.mk H
 clear H
 go_enter Try.func43, Try.ntmps43
 go_upto_region 1 with (first | ((with_reducible refine gate_dst (N := 1) rfl ?_); refine box_event ?hg (N := 1) ?hd (cs := #[.int .i64 a0_0, .int .i64 a0_1, .slice A0_2 l0_2.length c0_2, .slice A0_3 l0_3.length c0_3, .slice A0_4 l0_4.length c0_4]) (t := 56) ?hr ?_; (case hd => rfl); (case hg => rfl); (case hr => first | (go_simp; done) | (go_simp; rfl)); intro gb440001 hg w3 hbox hb; have n0_ := Aside0.mk (below_step (by repeat (first | (with_reducible first | exact HB.out | apply below_alloc | apply pw_below_drewN | apply below_drew1) | exact HB.out)) hb); have n1_ := Aside0.mk (hbox); have n2_ := Aside0.mk ((by rw [hg]; exact (below_size (by repeat (first | (with_reducible first | exact HB.out | apply below_alloc | apply pw_below_drewN | apply below_drew1) | exact HB.out))) : w.heap.size ≤ gb440001)); have n3_ := Aside0.mk ((by rw [hg]; exact (below_size (by repeat (first | (with_reducible first | exact HB.out | apply below_alloc | apply pw_below_drewN | apply below_drew1) | exact HB.out))) : w.heap.size ≤ gb440001)); clear HB; have HB := n0_; have BK440001 := n1_; have GW440001 := n2_; have GE440001 := n3_; clear n0_ n1_ n2_ n3_; clear hb hbox hg))
 (try simp only [Act.put, List.setIfInBounds_toArray, List.set_cons_zero, List.set_cons_succ])
 go_cut [20] (fun v20 wc => ∃ (kq : Nat) (x20_1 : Bool), v20 = .bool x20_1 ∧ Aside0 (impl_BooksOk.j0 kq x20_1 a0_0 a0_1 l0_2 l0_3 l0_4 = some r) ∧ Aside0 (kq ≤ k) ∧ Aside0 (wc.heap[gb440001]? = some (.cells #[.int .i64 a0_0, .int .i64 a0_1, (.slice A0_2 l0_2.length c0_2), (.slice A0_3 l0_3.length c0_3), (.slice A0_4 l0_4.length c0_4)] 56 (0, 0))) ∧ Aside0 (Below w.heap.size w wc))
 case first =>
  have H := HC2.out
  clear HC2
  replace H := Option.bind_eq_some_iff.mp H
  obtain ⟨t440002, A40, H⟩ := H
  replace H : (if t440002 = true then ((impl_MapOk.f k a0_1 l0_2).bind fun t440003 => (if t440003 = true then ((impl_storeOk.f k l0_3).bind fun t440004 => (impl_BooksOk.j0 k (!t440004) a0_0 a0_1 l0_2 l0_3 l0_4)) else (impl_BooksOk.j0 k true a0_0 a0_1 l0_2 l0_3 l0_4))) else (impl_BooksOk.j0 k true a0_0 a0_1 l0_2 l0_3 l0_4)) = some r := H
  have A4 := Aside0.mk A40
  clear A40
  by_cases c5 : t440002 = true
  ·subst c5
   have H1 : ((impl_MapOk.f k a0_1 l0_2).bind fun t440003 => (if t440003 = true then ((impl_storeOk.f k l0_3).bind fun t440004 => (impl_BooksOk.j0 k (!t440004) a0_0 a0_1 l0_2 l0_3 l0_4)) else (impl_BooksOk.j0 k true a0_0 a0_1 l0_2 l0_3 l0_4))) = some r := by rw [if_pos rfl] at H; exact H
   clear H
   have H := H1
   clear H1
   replace H := Option.bind_eq_some_iff.mp H
   obtain ⟨t440003, A60, H⟩ := H
   replace H : (if t440003 = true then ((impl_storeOk.f k l0_3).bind fun t440004 => (impl_BooksOk.j0 k (!t440004) a0_0 a0_1 l0_2 l0_3 l0_4)) else (impl_BooksOk.j0 k true a0_0 a0_1 l0_2 l0_3 l0_4)) = some r := H
   have A6 := Aside0.mk A60
   clear A60
   by_cases c7 : t440003 = true
   ·subst c7
    have H1 : ((impl_storeOk.f k l0_3).bind fun t440004 => (impl_BooksOk.j0 k (!t440004) a0_0 a0_1 l0_2 l0_3 l0_4)) = some r := by rw [if_pos rfl] at H; exact H
    clear H
    have H := H1
    clear H1
    replace H := Option.bind_eq_some_iff.mp H
    obtain ⟨t440004, A80, H⟩ := H
    replace H : (impl_BooksOk.j0 k (!t440004) a0_0 a0_1 l0_2 l0_3 l0_4) = some r := H
    have A8 := Aside0.mk A80
    clear A80
    have H' := Aside0.mk H
    clear H
    have hcz9_0 : w3.cell? ⟨gb440001, 0, none⟩ = some (.int .i64 a0_0) := (blk_cell BK440001.out 0).trans rfl
    have hcz9_1 : w3.cell? ⟨gb440001, 1, none⟩ = some (.int .i64 a0_1) := (blk_cell BK440001.out 1).trans rfl
    have hcz9_2 : w3.cell? ⟨gb440001, 2, none⟩ = some (.slice A0_2 l0_2.length c0_2) := (blk_cell BK440001.out 2).trans rfl
    have hcz9_3 : w3.cell? ⟨gb440001, 3, none⟩ = some (.slice A0_3 l0_3.length c0_3) := (blk_cell BK440001.out 3).trans rfl
    have hcz9_4 : w3.cell? ⟨gb440001, 4, none⟩ = some (.slice A0_4 l0_4.length c0_4) := (blk_cell BK440001.out 4).trans rfl
    have hfz9_0 := blk_frozen BK440001.out 0
    have hfz9_1 := blk_frozen BK440001.out 1
    have hfz9_2 := blk_frozen BK440001.out 2
    have hfz9_3 := blk_frozen BK440001.out 3
    have hfz9_4 := blk_frozen BK440001.out 4
    go_wp2_with (first | ((with_reducible refine gate_callee (f := 75) rfl ?_); refine goesL_ (some 7) rfl rfl Try.func75 (by kernel_rfl) rfl #[.int .i64 a0_0, .int .i64 0, .int .i64 60] rfl (by (try simp only [List.map_toArray, List.map_cons, List.map_nil]); first | done | rfl | (simp only [List.length_drop, List.length_take]; rfl)) ?_; (with_reducible refine (impl_within.calls a0_0 0 60 true _ A4.out).mono ?_); rintro e w' ⟨rfl, ⟨nd, rfl⟩⟩; refine ⟨_, rfl, ?_⟩) | (go_at_call 76; (with_reducible refine (impl_MapOk.calls k a0_1 _ _ l0_2 true _ ?side1 ?side2 A6.out).mono ?_); (case side1 => repeat (first | exact (Kd.C_below HR0_2.out (by repeat (first | (with_reducible first | exact HB.out | apply below_alloc | apply pw_below_drewN | apply below_drew1 | refine below_set ?_ GE440001.out) | exact HB.out))) | (with_reducible refine Kd.C_alloc ?_ _) | (with_reducible refine Kd.C_drewN ?_ _) | (with_reducible refine Kd.C_drew ?_))); (case side2 => exact HC0_2.out); rintro e w10 ⟨rfl, hb⟩; have n0_ := Aside0.mk (blk_below (g := gb440001) (o := .cells #[.int .i64 a0_0, .int .i64 a0_1, .slice A0_2 l0_2.length c0_2, .slice A0_3 l0_3.length c0_3, .slice A0_4 l0_4.length c0_4] 56 (0, 0)) (by (with_reducible repeat (first | refine blk_drewN ?_ _ | refine blk_drew ?_ | refine blk_alloc ?_ _)); exact BK440001.out) hb); have n1_ := Aside0.mk (below_step (by repeat (first | (with_reducible first | exact HB.out | apply below_alloc | apply pw_below_drewN | apply below_drew1 | refine below_set ?_ GE440001.out) | exact HB.out)) hb); clear BK440001; clear HB; have BK440001 := n0_; have HB := n1_; clear n0_ n1_; (try clear hb); (try clear hb2); (try clear hk); (try clear hi); have hcz11_0 : w10.cell? ⟨gb440001, 0, none⟩ = some (.int .i64 a0_0) := (blk_cell BK440001.out 0).trans rfl; have hcz11_1 : w10.cell? ⟨gb440001, 1, none⟩ = some (.int .i64 a0_1) := (blk_cell BK440001.out 1).trans rfl; have hcz11_2 : w10.cell? ⟨gb440001, 2, none⟩ = some (.slice A0_2 l0_2.length c0_2) := (blk_cell BK440001.out 2).trans rfl; have hcz11_3 : w10.cell? ⟨gb440001, 3, none⟩ = some (.slice A0_3 l0_3.length c0_3) := (blk_cell BK440001.out 3).trans rfl; have hcz11_4 : w10.cell? ⟨gb440001, 4, none⟩ = some (.slice A0_4 l0_4.length c0_4) := (blk_cell BK440001.out 4).trans rfl; have hfz11_0 := blk_frozen BK440001.out 0; have hfz11_1 := blk_frozen BK440001.out 1; have hfz11_2 := blk_frozen BK440001.out 2; have hfz11_3 := blk_frozen BK440001.out 3; have hfz11_4 := blk_frozen BK440001.out 4) | (go_at_call 77; (with_reducible refine (impl_storeOk.calls k _ _ l0_3 t440004 _ ?side1 ?side2 A8.out).mono ?_); (case side1 => repeat (first | exact (Kd.C_below HR0_3.out HB.out) | (with_reducible refine Kd.C_alloc ?_ _) | (with_reducible refine Kd.C_drewN ?_ _) | (with_reducible refine Kd.C_drew ?_))); (case side2 => exact HC0_3.out); rintro e w12 ⟨rfl, hb⟩; have n0_ := Aside0.mk (blk_below (g := gb440001) (o := .cells #[.int .i64 a0_0, .int .i64 a0_1, .slice A0_2 l0_2.length c0_2, .slice A0_3 l0_3.length c0_3, .slice A0_4 l0_4.length c0_4] 56 (0, 0)) (by (with_reducible repeat (first | refine blk_drewN ?_ _ | refine blk_drew ?_ | refine blk_alloc ?_ _)); exact BK440001.out) hb); have n1_ := Aside0.mk (below_step (by repeat (first | (with_reducible first | exact HB.out | apply below_alloc | apply pw_below_drewN | apply below_drew1 | refine below_set ?_ GE440001.out) | exact HB.out)) hb); clear BK440001; clear HB; have BK440001 := n0_; have HB := n1_; clear n0_ n1_; (try clear hb); (try clear hb2); (try clear hk); (try clear hi)))
    go_meet
    case rel => exact ⟨_, (!t440004), (by first | rfl | (simp; done) | (simp [*]; done)), H', ⟨by first | omega | exact Nat.le_refl _⟩, ⟨by (with_reducible repeat (first | refine blk_drewN ?_ _ | refine blk_drew ?_ | refine blk_alloc ?_ _)); exact BK440001.out⟩, ⟨by repeat (first | (with_reducible first | exact HB.out | apply below_alloc | apply pw_below_drewN | apply below_drew1 | refine below_set ?_ GE440001.out) | exact HB.out)⟩⟩
   ·replace c7 := Bool.eq_false_iff.mpr c7
    subst c7
    have H1 : (impl_BooksOk.j0 k true a0_0 a0_1 l0_2 l0_3 l0_4) = some r := by rw [if_neg (show ¬ (false = true) by decide)] at H; exact H
    clear H
    have H := H1
    clear H1
    have H' := Aside0.mk H
    clear H
    have hcz13_0 : w3.cell? ⟨gb440001, 0, none⟩ = some (.int .i64 a0_0) := (blk_cell BK440001.out 0).trans rfl
    have hcz13_1 : w3.cell? ⟨gb440001, 1, none⟩ = some (.int .i64 a0_1) := (blk_cell BK440001.out 1).trans rfl
    have hcz13_2 : w3.cell? ⟨gb440001, 2, none⟩ = some (.slice A0_2 l0_2.length c0_2) := (blk_cell BK440001.out 2).trans rfl
    have hcz13_3 : w3.cell? ⟨gb440001, 3, none⟩ = some (.slice A0_3 l0_3.length c0_3) := (blk_cell BK440001.out 3).trans rfl
    have hcz13_4 : w3.cell? ⟨gb440001, 4, none⟩ = some (.slice A0_4 l0_4.length c0_4) := (blk_cell BK440001.out 4).trans rfl
    have hfz13_0 := blk_frozen BK440001.out 0
    have hfz13_1 := blk_frozen BK440001.out 1
    have hfz13_2 := blk_frozen BK440001.out 2
    have hfz13_3 := blk_frozen BK440001.out 3
    have hfz13_4 := blk_frozen BK440001.out 4
    go_wp2_with (first | ((with_reducible refine gate_callee (f := 75) rfl ?_); refine goesL_ (some 7) rfl rfl Try.func75 (by kernel_rfl) rfl #[.int .i64 a0_0, .int .i64 0, .int .i64 60] rfl (by (try simp only [List.map_toArray, List.map_cons, List.map_nil]); first | done | rfl | (simp only [List.length_drop, List.length_take]; rfl)) ?_; (with_reducible refine (impl_within.calls a0_0 0 60 true _ A4.out).mono ?_); rintro e w' ⟨rfl, ⟨nd, rfl⟩⟩; refine ⟨_, rfl, ?_⟩) | (go_at_call 76; (with_reducible refine (impl_MapOk.calls k a0_1 _ _ l0_2 false _ ?side1 ?side2 A6.out).mono ?_); (case side1 => repeat (first | exact (Kd.C_below HR0_2.out (by repeat (first | (with_reducible first | exact HB.out | apply below_alloc | apply pw_below_drewN | apply below_drew1 | refine below_set ?_ GE440001.out) | exact HB.out))) | (with_reducible refine Kd.C_alloc ?_ _) | (with_reducible refine Kd.C_drewN ?_ _) | (with_reducible refine Kd.C_drew ?_))); (case side2 => exact HC0_2.out); rintro e w14 ⟨rfl, hb⟩; have n0_ := Aside0.mk (blk_below (g := gb440001) (o := .cells #[.int .i64 a0_0, .int .i64 a0_1, .slice A0_2 l0_2.length c0_2, .slice A0_3 l0_3.length c0_3, .slice A0_4 l0_4.length c0_4] 56 (0, 0)) (by (with_reducible repeat (first | refine blk_drewN ?_ _ | refine blk_drew ?_ | refine blk_alloc ?_ _)); exact BK440001.out) hb); have n1_ := Aside0.mk (below_step (by repeat (first | (with_reducible first | exact HB.out | apply below_alloc | apply pw_below_drewN | apply below_drew1 | refine below_set ?_ GE440001.out) | exact HB.out)) hb); clear BK440001; clear HB; have BK440001 := n0_; have HB := n1_; clear n0_ n1_; (try clear hb); (try clear hb2); (try clear hk); (try clear hi)))
    go_meet
    case rel => exact ⟨_, (true), (by first | rfl | (simp; done) | (simp [*]; done)), H', ⟨by first | omega | exact Nat.le_refl _⟩, ⟨by (with_reducible repeat (first | refine blk_drewN ?_ _ | refine blk_drew ?_ | refine blk_alloc ?_ _)); exact BK440001.out⟩, ⟨by repeat (first | (with_reducible first | exact HB.out | apply below_alloc | apply pw_below_drewN | apply below_drew1 | refine below_set ?_ GE440001.out) | exact HB.out)⟩⟩
  ·replace c5 := Bool.eq_false_iff.mpr c5
   subst c5
   have H1 : (impl_BooksOk.j0 k true a0_0 a0_1 l0_2 l0_3 l0_4) = some r := by rw [if_neg (show ¬ (false = true) by decide)] at H; exact H
   clear H
   have H := H1
   clear H1
   have H' := Aside0.mk H
   clear H
   have hcz15_0 : w3.cell? ⟨gb440001, 0, none⟩ = some (.int .i64 a0_0) := (blk_cell BK440001.out 0).trans rfl
   have hcz15_1 : w3.cell? ⟨gb440001, 1, none⟩ = some (.int .i64 a0_1) := (blk_cell BK440001.out 1).trans rfl
   have hcz15_2 : w3.cell? ⟨gb440001, 2, none⟩ = some (.slice A0_2 l0_2.length c0_2) := (blk_cell BK440001.out 2).trans rfl
   have hcz15_3 : w3.cell? ⟨gb440001, 3, none⟩ = some (.slice A0_3 l0_3.length c0_3) := (blk_cell BK440001.out 3).trans rfl
   have hcz15_4 : w3.cell? ⟨gb440001, 4, none⟩ = some (.slice A0_4 l0_4.length c0_4) := (blk_cell BK440001.out 4).trans rfl
   have hfz15_0 := blk_frozen BK440001.out 0
   have hfz15_1 := blk_frozen BK440001.out 1
   have hfz15_2 := blk_frozen BK440001.out 2
   have hfz15_3 := blk_frozen BK440001.out 3
   have hfz15_4 := blk_frozen BK440001.out 4
   go_wp2_with (first | ((with_reducible refine gate_callee (f := 75) rfl ?_); refine goesL_ (some 7) rfl rfl Try.func75 (by kernel_rfl) rfl #[.int .i64 a0_0, .int .i64 0, .int .i64 60] rfl (by (try simp only [List.map_toArray, List.map_cons, List.map_nil]); first | done | rfl | (simp only [List.length_drop, List.length_take]; rfl)) ?_; (with_reducible refine (impl_within.calls a0_0 0 60 false _ A4.out).mono ?_); rintro e w' ⟨rfl, ⟨nd, rfl⟩⟩; refine ⟨_, rfl, ?_⟩))
   go_meet
   case rel => exact ⟨_, (true), (by first | rfl | (simp; done) | (simp [*]; done)), H', ⟨by first | omega | exact Nat.le_refl _⟩, ⟨by (with_reducible repeat (first | refine blk_drewN ?_ _ | refine blk_drew ?_ | refine blk_alloc ?_ _)); exact BK440001.out⟩, ⟨by repeat (first | (with_reducible first | exact HB.out | apply below_alloc | apply pw_below_drewN | apply below_drew1 | refine below_set ?_ GE440001.out) | exact HB.out)⟩⟩
 case rest =>
  clear HC2
  try clear p2
  try clear c4
  try clear c5
  try clear c7
  try clear hcz11_0
  try clear hcz11_1
  try clear hcz11_2
  try clear hcz11_3
  try clear hcz11_4
  try clear hcz13_0
  try clear hcz13_1
  try clear hcz13_2
  try clear hcz13_3
  try clear hcz13_4
  try clear hcz15_0
  try clear hcz15_1
  try clear hcz15_2
  try clear hcz15_3
  try clear hcz15_4
  try clear hcz9_0
  try clear hcz9_1
  try clear hcz9_2
  try clear hcz9_3
  try clear hcz9_4
  try clear hfz11_0
  try clear hfz11_1
  try clear hfz11_2
  try clear hfz11_3
  try clear hfz11_4
  try clear hfz13_0
  try clear hfz13_1
  try clear hfz13_2
  try clear hfz13_3
  try clear hfz13_4
  try clear hfz15_0
  try clear hfz15_1
  try clear hfz15_2
  try clear hfz15_3
  try clear hfz15_4
  try clear hfz9_0
  try clear hfz9_1
  try clear hfz9_2
  try clear hfz9_3
  try clear hfz9_4
  obtain ⟨kq, x20_1, rfl, HA, HJ1, BK440001, HB⟩ := hcut
  cases kq with
  | zero => exact absurd HA.out (by simp [impl_BooksOk.j0])
  | succ kj1 =>
   have H := HA.out
   clear HA
   simp only [impl_BooksOk.j0] at H
   by_cases c16 : x20_1 = true
   ·subst c16
    have H1 : (some false) = some r := by rw [if_pos rfl] at H; exact H
    clear H
    have H := H1
    clear H1
    obtain rfl := Option.some.inj H
    go_wp2
    go_ret
    exact ⟨by first | rfl | (simp [errW_none, errW_some] <;> rfl) | (simp [*, errW_none, errW_some] <;> rfl), by repeat (first | (with_reducible first | exact HB.out | apply below_alloc | apply pw_below_drewN | apply below_drew1 | refine below_set ?_ GE440001.out) | exact HB.out)⟩
   ·replace c16 := Bool.eq_false_iff.mpr c16
    subst c16
    have H1 : (impl_BooksOk.l0 kj1 l0_4 (l0_4.length : Int) 0 a0_0 a0_1 l0_2 l0_3 l0_4) = some r := by rw [if_neg (show ¬ (false = true) by decide)] at H; exact H
    clear H
    have H := H1
    clear H1
    have H' := Aside0.mk H
    clear H
    have hcz17_0 : wc.cell? ⟨gb440001, 0, none⟩ = some (.int .i64 a0_0) := (blk_cell BK440001.out 0).trans rfl
    have hcz17_1 : wc.cell? ⟨gb440001, 1, none⟩ = some (.int .i64 a0_1) := (blk_cell BK440001.out 1).trans rfl
    have hcz17_2 : wc.cell? ⟨gb440001, 2, none⟩ = some (.slice A0_2 l0_2.length c0_2) := (blk_cell BK440001.out 2).trans rfl
    have hcz17_3 : wc.cell? ⟨gb440001, 3, none⟩ = some (.slice A0_3 l0_3.length c0_3) := (blk_cell BK440001.out 3).trans rfl
    have hcz17_4 : wc.cell? ⟨gb440001, 4, none⟩ = some (.slice A0_4 l0_4.length c0_4) := (blk_cell BK440001.out 4).trans rfl
    have hfz17_0 := blk_frozen BK440001.out 0
    have hfz17_1 := blk_frozen BK440001.out 1
    have hfz17_2 := blk_frozen BK440001.out 2
    have hfz17_3 := blk_frozen BK440001.out 3
    have hfz17_4 := blk_frozen BK440001.out 4
    go_wp2
    go_loopg [24] kj1 (fun kq v24 w' => ∃ (x24_2 : Int), v24 = .int .i64 x24_2 ∧ Aside0 (impl_BooksOk.l0 kq l0_4 (l0_4.length : Int) x24_2 a0_0 a0_1 l0_2 l0_3 l0_4 = some r) ∧ Aside0 (kq ≤ kj1) ∧ Aside0 (w'.heap[gb440001]? = some (.cells #[.int .i64 a0_0, .int .i64 a0_1, (.slice A0_2 l0_2.length c0_2), (.slice A0_3 l0_3.length c0_3), (.slice A0_4 l0_4.length c0_4)] 56 (0, 0))) ∧ Aside0 (Below w.heap.size w w'))
    case atStart => exact ⟨(0), (by first | rfl | (simp; done) | (simp [*]; done)), H', ⟨Nat.le_refl _⟩, ⟨by (with_reducible repeat (first | refine blk_drewN ?_ _ | refine blk_drew ?_ | refine blk_alloc ?_ _)); exact BK440001.out⟩, ⟨by repeat (first | (with_reducible first | exact HB.out | apply below_alloc | apply pw_below_drewN | apply below_drew1 | refine below_set ?_ GE440001.out) | exact HB.out)⟩⟩
    case round =>
     clear H'
     try clear c1
     try clear p2
     try clear c4
     try clear c5
     try clear c7
     try clear c16
     try clear hcz11_0
     try clear hcz11_1
     try clear hcz11_2
     try clear hcz11_3
     try clear hcz11_4
     try clear hcz13_0
     try clear hcz13_1
     try clear hcz13_2
     try clear hcz13_3
     try clear hcz13_4
     try clear hcz15_0
     try clear hcz15_1
     try clear hcz15_2
     try clear hcz15_3
     try clear hcz15_4
     try clear hcz17_0
     try clear hcz17_1
     try clear hcz17_2
     try clear hcz17_3
     try clear hcz17_4
     try clear hcz9_0
     try clear hcz9_1
     try clear hcz9_2
     try clear hcz9_3
     try clear hcz9_4
     try clear hfz11_0
     try clear hfz11_1
     try clear hfz11_2
     try clear hfz11_3
     try clear hfz11_4
     try clear hfz13_0
     try clear hfz13_1
     try clear hfz13_2
     try clear hfz13_3
     try clear hfz13_4
     try clear hfz15_0
     try clear hfz15_1
     try clear hfz15_2
     try clear hfz15_3
     try clear hfz15_4
     try clear hfz17_0
     try clear hfz17_1
     try clear hfz17_2
     try clear hfz17_3
     try clear hfz17_4
     try clear hfz9_0
     try clear hfz9_1
     try clear hfz9_2
     try clear hfz9_3
     try clear hfz9_4
     try clear p2
     obtain ⟨x24_2, rfl, HA, HK2, BK440001, HB⟩ := hrel
     cases gk with
     | zero => exact absurd HA.out (by simp [impl_BooksOk.l0])
     | succ k2 =>
      have H := HA.out
      clear HA
      simp only [impl_BooksOk.l0] at H
      by_cases c18 : x24_2 < (l0_4.length : Int)
      ·rw [if_pos c18] at H
       have c18b0 : decide (x24_2 < (l0_4.length : Int)) = true := decide_eq_true c18
       clear c18
       by_cases c19 : 0 ≤ x24_2
       ·rw [if_pos c19] at H
        have c19b0 : decide (0 ≤ x24_2) = true := decide_eq_true c19
        clear c19
        by_cases c20 : x24_2 < (l0_4.length : Int)
        ·rw [if_pos c20] at H
         have c20b0 : decide (x24_2 < (l0_4.length : Int)) = true := decide_eq_true c20
         clear c20
         replace H := Option.bind_eq_some_iff.mp H
         obtain ⟨t440007, A210, H⟩ := H
         replace H : (if t440007 = true then (if x24_2 > 0 then (if 0 ≤ (wrap64 (x24_2 - 1)) then (if (wrap64 (x24_2 - 1)) < (l0_4.length : Int) then (if ((rd_T108 l0_4 (wrap64 (x24_2 - 1))).f0) ≥ ((rd_T108 l0_4 x24_2).f0) then (some false) else (impl_BooksOk.l0 k2 l0_4 (l0_4.length : Int) (wrap64 (x24_2 + 1)) a0_0 a0_1 l0_2 l0_3 l0_4)) else (none)) else (none)) else (impl_BooksOk.l0 k2 l0_4 (l0_4.length : Int) (wrap64 (x24_2 + 1)) a0_0 a0_1 l0_2 l0_3 l0_4)) else (some false)) = some r := H
         have A21 := Aside0.mk A210
         clear A210
         by_cases c22 : t440007 = true
         ·subst c22
          have H1 : (if x24_2 > 0 then (if 0 ≤ (wrap64 (x24_2 - 1)) then (if (wrap64 (x24_2 - 1)) < (l0_4.length : Int) then (if ((rd_T108 l0_4 (wrap64 (x24_2 - 1))).f0) ≥ ((rd_T108 l0_4 x24_2).f0) then (some false) else (impl_BooksOk.l0 k2 l0_4 (l0_4.length : Int) (wrap64 (x24_2 + 1)) a0_0 a0_1 l0_2 l0_3 l0_4)) else (none)) else (none)) else (impl_BooksOk.l0 k2 l0_4 (l0_4.length : Int) (wrap64 (x24_2 + 1)) a0_0 a0_1 l0_2 l0_3 l0_4)) = some r := by rw [if_pos rfl] at H; exact H
          clear H
          have H := H1
          clear H1
          by_cases c23 : x24_2 > 0
          ·rw [if_pos c23] at H
           have c23b0 : decide (0 < x24_2) = true := decide_eq_true c23
           clear c23
           obtain ⟨ji24, hji24⟩ : ∃ j_ : Int, (wrap64 (x24_2 - 1)) = j_ := ⟨_, rfl⟩
           replace H : (if 0 ≤ (ji24) then (if (ji24) < (l0_4.length : Int) then (if ((rd_T108 l0_4 (ji24)).f0) ≥ ((rd_T108 l0_4 x24_2).f0) then (some false) else (impl_BooksOk.l0 k2 l0_4 (l0_4.length : Int) (wrap64 (x24_2 + 1)) a0_0 a0_1 l0_2 l0_3 l0_4)) else (none)) else (none)) = some r := by first | (rw [hji24] at H; exact H) | (simp only [hji24] at H ⊢; exact H)
           (try rw [hji24] at A21)
           have hji24w : (IntKind.i64.wrap (x24_2 - 1)) = ji24 := (i64_w _).trans hji24
           by_cases c25 : 0 ≤ (ji24)
           ·rw [if_pos c25] at H
            have c25b0 : decide (0 ≤ (ji24)) = true := decide_eq_true c25
            clear c25
            by_cases c26 : (ji24) < (l0_4.length : Int)
            ·rw [if_pos c26] at H
             have c26b0 : decide ((ji24) < (l0_4.length : Int)) = true := decide_eq_true c26
             clear c26
             by_cases c27 : ((rd_T108 l0_4 (ji24)).f0) ≥ ((rd_T108 l0_4 x24_2).f0)
             ·rw [if_pos c27] at H
              have c27b0 : decide (((rd_T108 l0_4 x24_2).f0) ≤ ((rd_T108 l0_4 (ji24)).f0)) = true := decide_eq_true c27
              clear c27
              obtain rfl := Option.some.inj H
              have p440005 : 0 ≤ (x24_2 : Int) := of_decide_eq_true (by first | (with_reducible assumption) | assumption)
              have q440005 : x24_2 < (l0_4.length : Int) := of_decide_eq_true (by first | (with_reducible assumption) | assumption)
              obtain ⟨ad440005, A440005_3, c440005_3, e440005, hx440005_0, hx440005_1, hx440005_2, hx440005_3, hl440005_3, hi440005_3⟩ := at_T108 HR0_4.out x24_2 p440005 q440005
              cases e440005
              replace hx440005_0 := (HB.out.cell (World.block_lt_of_cell? w _ hx440005_0)).trans hx440005_0
              replace hx440005_1 := (HB.out.cell (World.block_lt_of_cell? w _ hx440005_1)).trans hx440005_1
              replace hx440005_2 := (HB.out.cell (World.block_lt_of_cell? w _ hx440005_2)).trans hx440005_2
              replace hx440005_3 := (HB.out.cell (World.block_lt_of_cell? w _ hx440005_3)).trans hx440005_3
              have HR440005_3 := Aside0.mk hi440005_3
              have HC440005_3 := Aside0.mk hl440005_3
              clear hi440005_3 hl440005_3
              replace p440005 := eq_true p440005
              replace q440005 := eq_true q440005
              try go_wp2_with (first | ((with_reducible refine gate_dst (N := 4) rfl ?_); refine box_event ?hg (N := 4) ?hd (cs := #[.int .i64 0, .int .i64 0, .int .i64 0, .slice none 0 0]) (t := 108) ?hr ?_; (case hd => rfl); (case hg => rfl); (case hr => first | (go_simp; done) | (go_simp; rfl)); intro gb440006 hg w28 hbox hb; have n0_ := Aside0.mk (blk_below (g := gb440001) (o := .cells #[.int .i64 a0_0, .int .i64 a0_1, .slice A0_2 l0_2.length c0_2, .slice A0_3 l0_3.length c0_3, .slice (some ad440005) l0_4.length c0_4] 56 (0, 0)) (by (with_reducible repeat (first | refine blk_drewN ?_ _ | refine blk_drew ?_ | refine blk_alloc ?_ _)); exact BK440001.out) hb); have n1_ := Aside0.mk (below_step (by repeat (first | (with_reducible first | exact HB.out | apply below_alloc | apply pw_below_drewN | apply below_drew1 | refine below_set ?_ GE440001.out) | exact HB.out)) hb); have n2_ := Aside0.mk (hbox); have n3_ := Aside0.mk ((by rw [hg]; exact (below_size (by repeat (first | (with_reducible first | exact HB.out | apply below_alloc | apply pw_below_drewN | apply below_drew1 | refine below_set ?_ GE440001.out) | exact HB.out))) : w.heap.size ≤ gb440006)); have n4_ := Aside0.mk ((by rw [hg]; exact (below_size (by repeat (first | (with_reducible first | exact HB.out | apply below_alloc | apply pw_below_drewN | apply below_drew1 | refine below_set ?_ GE440001.out) | exact HB.out))) : w.heap.size ≤ gb440006)); have n5_ := Aside0.mk ((by rw [hg]; exact Nat.ne_of_lt (blk_lt (g := gb440001) (o := .cells #[.int .i64 a0_0, .int .i64 a0_1, .slice A0_2 l0_2.length c0_2, .slice A0_3 l0_3.length c0_3, .slice (some ad440005) l0_4.length c0_4] 56 (0, 0)) (by (with_reducible repeat (first | refine blk_drewN ?_ _ | refine blk_drew ?_ | refine blk_alloc ?_ _)); exact BK440001.out)) : gb440001 ≠ gb440006)); have n6_ := Aside0.mk ((by rw [hg]; exact Nat.ne_of_gt (blk_lt (g := gb440001) (o := .cells #[.int .i64 a0_0, .int .i64 a0_1, .slice A0_2 l0_2.length c0_2, .slice A0_3 l0_3.length c0_3, .slice (some ad440005) l0_4.length c0_4] 56 (0, 0)) (by (with_reducible repeat (first | refine blk_drewN ?_ _ | refine blk_drew ?_ | refine blk_alloc ?_ _)); exact BK440001.out)) : gb440006 ≠ gb440001)); clear BK440001; clear HB; have BK440001 := n0_; have HB := n1_; have BK440006 := n2_; have GW440006 := n3_; have GE440006 := n4_; have NB440001_440006 := n5_; have NB440006_440001 := n6_; clear n0_ n1_ n2_ n3_ n4_ n5_ n6_; clear hb hbox hg; have hnb29 := NB440006_440001.out; have hnc29 := NB440001_440006.out; have hcz30_0 : w28.cell? ⟨gb440006, 0, none⟩ = some (.int .i64 0) := (blk_cell BK440006.out 0).trans rfl; have hcz30_1 : w28.cell? ⟨gb440006, 1, none⟩ = some (.int .i64 0) := (blk_cell BK440006.out 1).trans rfl; have hcz30_2 : w28.cell? ⟨gb440006, 2, none⟩ = some (.int .i64 0) := (blk_cell BK440006.out 2).trans rfl; have hcz30_3 : w28.cell? ⟨gb440006, 3, none⟩ = some (.slice none 0 0) := (blk_cell BK440006.out 3).trans rfl; have hfz30_0 := blk_frozen BK440006.out 0; have hfz30_1 := blk_frozen BK440006.out 1; have hfz30_2 := blk_frozen BK440006.out 2; have hfz30_3 := blk_frozen BK440006.out 3))
              have n0_ : Aside0 (((((w28.setCell ⟨gb440006, 0, none⟩ (.int .i64 ((rd_T108 l0_4 x24_2).f0))).setCell ⟨gb440006, 1, none⟩ (.int .i64 ((rd_T108 l0_4 x24_2).f1))).setCell ⟨gb440006, 2, none⟩ (.int .i64 ((rd_T108 l0_4 x24_2).f2))).setCell ⟨gb440006, 3, none⟩ (.slice A440005_3 ((rd_T108 l0_4 x24_2).f3).length c440005_3)).heap[gb440001]? = some (.cells #[.int .i64 a0_0, .int .i64 a0_1, .slice A0_2 l0_2.length c0_2, .slice A0_3 l0_3.length c0_3, .slice (some ad440005) l0_4.length c0_4] 56 (0, 0))) := ⟨by (with_reducible repeat (first | refine blk_drewN ?_ _ | refine blk_drew ?_ | refine blk_alloc ?_ _)); refine blk_far ?_ NB440001_440006.out _; (with_reducible repeat (first | refine blk_drewN ?_ _ | refine blk_drew ?_ | refine blk_alloc ?_ _)); refine blk_far ?_ NB440001_440006.out _; (with_reducible repeat (first | refine blk_drewN ?_ _ | refine blk_drew ?_ | refine blk_alloc ?_ _)); refine blk_far ?_ NB440001_440006.out _; (with_reducible repeat (first | refine blk_drewN ?_ _ | refine blk_drew ?_ | refine blk_alloc ?_ _)); refine blk_far ?_ NB440001_440006.out _; (with_reducible repeat (first | refine blk_drewN ?_ _ | refine blk_drew ?_ | refine blk_alloc ?_ _)); exact BK440001.out⟩
              have n1_ : Aside0 (((((w28.setCell ⟨gb440006, 0, none⟩ (.int .i64 ((rd_T108 l0_4 x24_2).f0))).setCell ⟨gb440006, 1, none⟩ (.int .i64 ((rd_T108 l0_4 x24_2).f1))).setCell ⟨gb440006, 2, none⟩ (.int .i64 ((rd_T108 l0_4 x24_2).f2))).setCell ⟨gb440006, 3, none⟩ (.slice A440005_3 ((rd_T108 l0_4 x24_2).f3).length c440005_3)).heap[gb440006]? = some (.cells #[.int .i64 ((rd_T108 l0_4 x24_2).f0), .int .i64 ((rd_T108 l0_4 x24_2).f1), .int .i64 ((rd_T108 l0_4 x24_2).f2), .slice A440005_3 ((rd_T108 l0_4 x24_2).f3).length c440005_3] 108 (0, 0))) := ⟨by (with_reducible repeat (first | refine blk_drewN ?_ _ | refine blk_drew ?_ | refine blk_alloc ?_ _)); refine blk_put (cs := #[.int .i64 ((rd_T108 l0_4 x24_2).f0), .int .i64 ((rd_T108 l0_4 x24_2).f1), .int .i64 ((rd_T108 l0_4 x24_2).f2), .slice none 0 0]) ?_ 3 _ rfl; (with_reducible repeat (first | refine blk_drewN ?_ _ | refine blk_drew ?_ | refine blk_alloc ?_ _)); refine blk_put (cs := #[.int .i64 ((rd_T108 l0_4 x24_2).f0), .int .i64 ((rd_T108 l0_4 x24_2).f1), .int .i64 0, .slice none 0 0]) ?_ 2 _ rfl; (with_reducible repeat (first | refine blk_drewN ?_ _ | refine blk_drew ?_ | refine blk_alloc ?_ _)); refine blk_put (cs := #[.int .i64 ((rd_T108 l0_4 x24_2).f0), .int .i64 0, .int .i64 0, .slice none 0 0]) ?_ 1 _ rfl; (with_reducible repeat (first | refine blk_drewN ?_ _ | refine blk_drew ?_ | refine blk_alloc ?_ _)); refine blk_put (cs := #[.int .i64 0, .int .i64 0, .int .i64 0, .slice none 0 0]) ?_ 0 _ rfl; (with_reducible repeat (first | refine blk_drewN ?_ _ | refine blk_drew ?_ | refine blk_alloc ?_ _)); exact BK440006.out⟩
              have n2_ : Aside0 (Below w.heap.size w ((((w28.setCell ⟨gb440006, 0, none⟩ (.int .i64 ((rd_T108 l0_4 x24_2).f0))).setCell ⟨gb440006, 1, none⟩ (.int .i64 ((rd_T108 l0_4 x24_2).f1))).setCell ⟨gb440006, 2, none⟩ (.int .i64 ((rd_T108 l0_4 x24_2).f2))).setCell ⟨gb440006, 3, none⟩ (.slice A440005_3 ((rd_T108 l0_4 x24_2).f3).length c440005_3))) := ⟨by repeat (first | (with_reducible first | exact HB.out | apply below_alloc | apply pw_below_drewN | apply below_drew1 | refine below_set ?_ GE440001.out | refine below_set ?_ GE440006.out) | exact HB.out)⟩
              (try clear BK440001)
              (try clear BK440006)
              (try clear HB)
              generalize ((((w28.setCell ⟨gb440006, 0, none⟩ (.int .i64 ((rd_T108 l0_4 x24_2).f0))).setCell ⟨gb440006, 1, none⟩ (.int .i64 ((rd_T108 l0_4 x24_2).f1))).setCell ⟨gb440006, 2, none⟩ (.int .i64 ((rd_T108 l0_4 x24_2).f2))).setCell ⟨gb440006, 3, none⟩ (.slice A440005_3 ((rd_T108 l0_4 x24_2).f3).length c440005_3)) = w31 at n0_ n1_ n2_ ⊢
              have BK440001 := n0_
              have BK440006 := n1_
              have HB := n2_
              clear n0_ n1_ n2_
              have n0_ := Aside0.mk (blk_drew BK440001.out)
              have n1_ := Aside0.mk (blk_drew BK440006.out)
              have n2_ := Aside0.mk (below_drew1 HB.out)
              clear BK440001
              clear BK440006
              clear HB
              have BK440001 := n0_
              have BK440006 := n1_
              have HB := n2_
              clear n0_ n1_ n2_
              have p440008 : 0 ≤ ((ji24) : Int) := of_decide_eq_true (by first | (with_reducible assumption) | assumption)
              have q440008 : (ji24) < (l0_4.length : Int) := of_decide_eq_true (by first | (with_reducible assumption) | assumption)
              obtain ⟨ad440008, A440008_3, c440008_3, e440008, hx440008_0, hx440008_1, hx440008_2, hx440008_3, hl440008_3, hi440008_3⟩ := at_T108 HR0_4.out (ji24) p440008 q440008
              have hw440008_3 := hx440008_3
              have hw440008_2 := hx440008_2
              have hw440008_1 := hx440008_1
              have hw440008_0 := hx440008_0
              obtain rfl : ad440005 = ad440008 := (by injection e440008)
              replace hx440008_0 := (HB.out.cell (World.block_lt_of_cell? w _ hx440008_0)).trans hx440008_0
              replace hx440008_1 := (HB.out.cell (World.block_lt_of_cell? w _ hx440008_1)).trans hx440008_1
              replace hx440008_2 := (HB.out.cell (World.block_lt_of_cell? w _ hx440008_2)).trans hx440008_2
              replace hx440008_3 := (HB.out.cell (World.block_lt_of_cell? w _ hx440008_3)).trans hx440008_3
              have HR440008_3 := Aside0.mk hi440008_3
              have HC440008_3 := Aside0.mk hl440008_3
              clear hi440008_3 hl440008_3
              replace p440008 := eq_true p440008
              replace q440008 := eq_true q440008
              refine start_ (n := 19) (S := fun w' => w'.cell? ⟨gb440006, 0, none⟩ = some (.int .i64 ((rd_T108 l0_4 x24_2).f0)) ∧ w'.cell? ⟨gb440006, 1, none⟩ = some (.int .i64 ((rd_T108 l0_4 x24_2).f1)) ∧ w'.cell? ⟨gb440006, 2, none⟩ = some (.int .i64 ((rd_T108 l0_4 x24_2).f2)) ∧ w'.cell? ⟨gb440006, 3, none⟩ = some (.slice A440005_3 ((rd_T108 l0_4 x24_2).f3).length c440005_3) ∧ w'.cell? ⟨gb440001, 0, none⟩ = some (.int .i64 a0_0) ∧ w'.cell? ⟨gb440001, 1, none⟩ = some (.int .i64 a0_1) ∧ w'.cell? ⟨gb440001, 2, none⟩ = some (.slice A0_2 l0_2.length c0_2) ∧ w'.cell? ⟨gb440001, 3, none⟩ = some (.slice A0_3 l0_3.length c0_3) ∧ w'.cell? ⟨gb440001, 4, none⟩ = some (.slice (some ad440005) l0_4.length c0_4) ∧ w'.cell? (ad440005.add (((ji24)).toNat * 4)) = some (.int .i64 ((rd_T108 l0_4 (ji24)).f0)) ∧ w'.cell? ⟨(ad440005.add (((ji24)).toNat * 4)).block, (ad440005.add (((ji24)).toNat * 4)).off + 1, none⟩ = some (.int .i64 ((rd_T108 l0_4 (ji24)).f1)) ∧ w'.cell? ⟨(ad440005.add (((ji24)).toNat * 4)).block, (ad440005.add (((ji24)).toNat * 4)).off + 2, none⟩ = some (.int .i64 ((rd_T108 l0_4 (ji24)).f2)) ∧ w'.cell? ⟨(ad440005.add (((ji24)).toNat * 4)).block, (ad440005.add (((ji24)).toNat * 4)).off + 3, none⟩ = some (.slice A440008_3 ((rd_T108 l0_4 (ji24)).f3).length c440008_3)) (ds := []) (bt_ 19 0) (by kernel_rfl) rfl rfl ⟨(blk_cell BK440006.out 0).trans rfl, (blk_cell BK440006.out 1).trans rfl, (blk_cell BK440006.out 2).trans rfl, (blk_cell BK440006.out 3).trans rfl, (blk_cell BK440001.out 0).trans rfl, (blk_cell BK440001.out 1).trans rfl, (blk_cell BK440001.out 2).trans rfl, (blk_cell BK440001.out 3).trans rfl, (blk_cell BK440001.out 4).trans rfl, ((HB.out.cell (World.block_lt_of_cell? w _ hw440008_0)).trans hw440008_0), ((HB.out.cell (World.block_lt_of_cell? w _ hw440008_1)).trans hw440008_1), ((HB.out.cell (World.block_lt_of_cell? w _ hw440008_2)).trans hw440008_2), ((HB.out.cell (World.block_lt_of_cell? w _ hw440008_3)).trans hw440008_3)⟩ (fun hHeld => ?_); refine with_tabW impl_BooksOk.tab6 impl_BooksOk.bits6 (fun HT_ HW_ => ?_)
              generalize w31.drew = w32 at BK440001 BK440006 HB HR440008_3 hx440008_0 hx440008_1 hx440008_2 hx440008_3 hHeld ⊢
              refine take_ (i := 0) (N := some 29) (v := ?_) (a' := ?_) (bt_ 19 1) rfl rfl (take_ofW HT_.out HW_.out (by kernel_rfl)) (fun _ _ _ h => h) (Or.inl ⟨by rfl, ?_⟩) hHeld ?_ ?_
              rotate_left
              ·rintro w' ⟨s0, s1, s2, s3, s4, s5, s6, s7, s8, s9, s10, s11, s12⟩
               go_simp
               with_reducible rfl
              rotate_left
              ·simp only [Act.put, List.setIfInBounds_toArray, List.set_cons_zero, List.set_cons_succ, i64_w, i32_w]
               rfl
              refine one_ (i := 1) (N := some 30) (bt_ 19 3) rfl rfl (one_of HT_.out (by kernel_rfl)) (by decide) (fun K hK => ?_)
              refine goes_ Try.func78 (by kernel_rfl) rfl #[.agg #[.int .i64 ((rd_T108 l0_4 x24_2).f0), .int .i64 ((rd_T108 l0_4 x24_2).f1), .int .i64 ((rd_T108 l0_4 x24_2).f2), .slice A440005_3 ((rd_T108 l0_4 x24_2).f3).length c440005_3]] (by rfl) rfl rfl (by (try simp only [List.map_toArray, List.map_cons, List.map_nil]); first | done | rfl | (simp only [List.length_drop, List.length_take]; rfl)) ?_
              with_reducible refine (impl_saidOk.calls k2 ((rd_T108 l0_4 x24_2).f0) ((rd_T108 l0_4 x24_2).f1) ((rd_T108 l0_4 x24_2).f2) _ _ ((rd_T108 l0_4 x24_2).f3) true _ ?side1 ?side2 A21.out).mono ?_
              (case side1 => repeat (first | exact (Kd.C_below HR440005_3.out HB.out) | (with_reducible refine Kd.C_alloc ?_ _) | (with_reducible refine Kd.C_drewN ?_ _) | (with_reducible refine Kd.C_drew ?_)))
              (case side2 => exact HC440005_3.out)
              rintro e w33 ⟨rfl, hb⟩
              refine ⟨_, rfl, ?_⟩
              have n0_ := Aside0.mk (blk_below (g := gb440001) (o := .cells #[.int .i64 a0_0, .int .i64 a0_1, .slice A0_2 l0_2.length c0_2, .slice A0_3 l0_3.length c0_3, .slice (some ad440005) l0_4.length c0_4] 56 (0, 0)) (by (with_reducible repeat (first | refine blk_drewN ?_ _ | refine blk_drew ?_ | refine blk_alloc ?_ _)); exact BK440001.out) hb)
              have n1_ := Aside0.mk (blk_below (g := gb440006) (o := .cells #[.int .i64 ((rd_T108 l0_4 x24_2).f0), .int .i64 ((rd_T108 l0_4 x24_2).f1), .int .i64 ((rd_T108 l0_4 x24_2).f2), .slice A440005_3 ((rd_T108 l0_4 x24_2).f3).length c440005_3] 108 (0, 0)) (by (with_reducible repeat (first | refine blk_drewN ?_ _ | refine blk_drew ?_ | refine blk_alloc ?_ _)); exact BK440006.out) hb)
              have n2_ := Aside0.mk (below_step (by repeat (first | (with_reducible first | exact HB.out | apply below_alloc | apply pw_below_drewN | apply below_drew1 | refine below_set ?_ GE440001.out | refine below_set ?_ GE440006.out) | exact HB.out)) hb)
              clear BK440001
              clear BK440006
              clear HB
              have BK440001 := n0_
              have BK440006 := n1_
              have HB := n2_
              clear n0_ n1_ n2_
              (try clear hb)
              (try clear hb2)
              (try clear hk)
              (try clear hi)
              refine hK.out _ _ ⟨(blk_cell BK440006.out 0).trans rfl, (blk_cell BK440006.out 1).trans rfl, (blk_cell BK440006.out 2).trans rfl, (blk_cell BK440006.out 3).trans rfl, (blk_cell BK440001.out 0).trans rfl, (blk_cell BK440001.out 1).trans rfl, (blk_cell BK440001.out 2).trans rfl, (blk_cell BK440001.out 3).trans rfl, (blk_cell BK440001.out 4).trans rfl, ((HB.out.cell (World.block_lt_of_cell? w _ hw440008_0)).trans hw440008_0), ((HB.out.cell (World.block_lt_of_cell? w _ hw440008_1)).trans hw440008_1), ((HB.out.cell (World.block_lt_of_cell? w _ hw440008_2)).trans hw440008_2), ((HB.out.cell (World.block_lt_of_cell? w _ hw440008_3)).trans hw440008_3)⟩ (fun hHeld => ?_)
              clear hK K
              refine norm_ (a' := ?_) ?_ ?_
              rotate_left
              ·show Act.put _ (some 30) _ = _
               simp only [Act.put, List.setIfInBounds_toArray, List.set_cons_zero, List.set_cons_succ, i64_w, i32_w]
               rfl
              refine pu_ 2 (some 31) (bt_ 19 7) (any_of HT_.out (by kernel_rfl)) ?_
              refine pu_ 3 (some 32) (bt_ 19 15) (any_of HT_.out (by kernel_rfl)) ?_
              refine pu_ 4 (some 33) (bt_ 19 31) (any_of HT_.out (by kernel_rfl)) ?_
              refine pu_ 5 (some 34) (bt_ 19 63) (any_of HT_.out (by kernel_rfl)) ?_
              refine pu_ 6 (some 35) (bt_ 19 127) (any_of HT_.out (by kernel_rfl)) ?_
              refine pu_ 7 (some 36) (bt_ 19 255) (any_of HT_.out (by kernel_rfl)) ?_
              refine pu_ 9 (some 38) (bt_ 19 767) (any_of HT_.out (by kernel_rfl)) ?_
              refine pu_ 10 (some 39) (bt_ 19 1791) (any_of HT_.out (by kernel_rfl)) ?_
              refine pu_ 14 (some 43) (bt_ 19 18175) (any_of HT_.out (by kernel_rfl)) ?_
              refine take_ (i := 8) (N := some 37) (v := ?_) (a' := ?_) (bt_ 19 18431) rfl rfl (take_ofW HT_.out HW_.out (by kernel_rfl)) (fun _ _ _ h => h) (Or.inl ⟨by rfl, ?_⟩) hHeld ?_ ?_
              rotate_left
              ·rintro w' ⟨s0, s1, s2, s3, s4, s5, s6, s7, s8, s9, s10, s11, s12⟩
               go_simp
               with_reducible rfl
              rotate_left
              ·simp only [Act.put, List.setIfInBounds_toArray, List.set_cons_zero, List.set_cons_succ, i64_w, i32_w]
               rfl
              refine pu_ 11 (some 40) (bt_ 19 20479) (any_of HT_.out (by kernel_rfl)) ?_
              refine pu_ 12 (some 41) (bt_ 19 24575) (any_of HT_.out (by kernel_rfl)) ?_
              refine take_ (i := 13) (N := some 42) (v := ?_) (a' := ?_) (bt_ 19 32767) rfl rfl (take_ofW HT_.out HW_.out (by kernel_rfl)) (fun _ _ _ h => h) (Or.inl ⟨by rfl, ?_⟩) hHeld ?_ ?_
              rotate_left
              ·rintro w' ⟨s0, s1, s2, s3, s4, s5, s6, s7, s8, s9, s10, s11, s12⟩
               go_simp
               with_reducible rfl
              rotate_left
              ·simp only [Act.put, List.setIfInBounds_toArray, List.set_cons_zero, List.set_cons_succ, i64_w, i32_w]
               rfl
              refine take_ (i := 15) (N := some 44) (v := ?_) (a' := ?_) (bt_ 19 65535) rfl rfl (take_ofW HT_.out HW_.out (by kernel_rfl)) (fun _ _ _ h => h) (Or.inl ⟨by rfl, ?_⟩) hHeld ?_ ?_
              rotate_left
              ·rintro w' ⟨s0, s1, s2, s3, s4, s5, s6, s7, s8, s9, s10, s11, s12⟩
               go_simp
               with_reducible rfl
              rotate_left
              ·simp only [Act.put, List.setIfInBounds_toArray, List.set_cons_zero, List.set_cons_succ, i64_w, i32_w]
               rfl
              refine pu_ 16 (some 45) (bt_ 19 131071) (any_of HT_.out (by kernel_rfl)) ?_
              refine pu_ 17 (some 46) (bt_ 19 262143) (any_of HT_.out (by kernel_rfl)) ?_
              refine pu_ 18 (some 47) (bt_ 19 524287) (any_of HT_.out (by kernel_rfl)) ?_
              refine done_ (done_of HT_.out (by kernel_rfl)) ?_
              try go_wp2
              go_ret
              exact ⟨by first | rfl | (simp [errW_none, errW_some] <;> rfl) | (simp only [← hji24]; first | rfl | (simp [errW_none, errW_some] <;> rfl)) | (simp [*, errW_none, errW_some] <;> rfl), by repeat (first | (with_reducible first | exact HB.out | apply below_alloc | apply pw_below_drewN | apply below_drew1 | refine below_set ?_ GE440001.out | refine below_set ?_ GE440006.out) | exact HB.out)⟩
             ·rw [if_neg c27] at H
              have c27b0 : decide (((rd_T108 l0_4 x24_2).f0) ≤ ((rd_T108 l0_4 (ji24)).f0)) = false := decide_eq_false c27
              clear c27
              have H' := Aside0.mk H
              clear H
              have p440005 : 0 ≤ (x24_2 : Int) := of_decide_eq_true (by first | (with_reducible assumption) | assumption)
              have q440005 : x24_2 < (l0_4.length : Int) := of_decide_eq_true (by first | (with_reducible assumption) | assumption)
              obtain ⟨ad440005, A440005_3, c440005_3, e440005, hx440005_0, hx440005_1, hx440005_2, hx440005_3, hl440005_3, hi440005_3⟩ := at_T108 HR0_4.out x24_2 p440005 q440005
              cases e440005
              replace hx440005_0 := (HB.out.cell (World.block_lt_of_cell? w _ hx440005_0)).trans hx440005_0
              replace hx440005_1 := (HB.out.cell (World.block_lt_of_cell? w _ hx440005_1)).trans hx440005_1
              replace hx440005_2 := (HB.out.cell (World.block_lt_of_cell? w _ hx440005_2)).trans hx440005_2
              replace hx440005_3 := (HB.out.cell (World.block_lt_of_cell? w _ hx440005_3)).trans hx440005_3
              have HR440005_3 := Aside0.mk hi440005_3
              have HC440005_3 := Aside0.mk hl440005_3
              clear hi440005_3 hl440005_3
              replace p440005 := eq_true p440005
              replace q440005 := eq_true q440005
              try go_wp2_with (first | ((with_reducible refine gate_dst (N := 4) rfl ?_); refine box_event ?hg (N := 4) ?hd (cs := #[.int .i64 0, .int .i64 0, .int .i64 0, .slice none 0 0]) (t := 108) ?hr ?_; (case hd => rfl); (case hg => rfl); (case hr => first | (go_simp; done) | (go_simp; rfl)); intro gb440006 hg w34 hbox hb; have n0_ := Aside0.mk (blk_below (g := gb440001) (o := .cells #[.int .i64 a0_0, .int .i64 a0_1, .slice A0_2 l0_2.length c0_2, .slice A0_3 l0_3.length c0_3, .slice (some ad440005) l0_4.length c0_4] 56 (0, 0)) (by (with_reducible repeat (first | refine blk_drewN ?_ _ | refine blk_drew ?_ | refine blk_alloc ?_ _)); exact BK440001.out) hb); have n1_ := Aside0.mk (below_step (by repeat (first | (with_reducible first | exact HB.out | apply below_alloc | apply pw_below_drewN | apply below_drew1 | refine below_set ?_ GE440001.out) | exact HB.out)) hb); have n2_ := Aside0.mk (hbox); have n3_ := Aside0.mk ((by rw [hg]; exact (below_size (by repeat (first | (with_reducible first | exact HB.out | apply below_alloc | apply pw_below_drewN | apply below_drew1 | refine below_set ?_ GE440001.out) | exact HB.out))) : w.heap.size ≤ gb440006)); have n4_ := Aside0.mk ((by rw [hg]; exact (below_size (by repeat (first | (with_reducible first | exact HB.out | apply below_alloc | apply pw_below_drewN | apply below_drew1 | refine below_set ?_ GE440001.out) | exact HB.out))) : w.heap.size ≤ gb440006)); have n5_ := Aside0.mk ((by rw [hg]; exact Nat.ne_of_lt (blk_lt (g := gb440001) (o := .cells #[.int .i64 a0_0, .int .i64 a0_1, .slice A0_2 l0_2.length c0_2, .slice A0_3 l0_3.length c0_3, .slice (some ad440005) l0_4.length c0_4] 56 (0, 0)) (by (with_reducible repeat (first | refine blk_drewN ?_ _ | refine blk_drew ?_ | refine blk_alloc ?_ _)); exact BK440001.out)) : gb440001 ≠ gb440006)); have n6_ := Aside0.mk ((by rw [hg]; exact Nat.ne_of_gt (blk_lt (g := gb440001) (o := .cells #[.int .i64 a0_0, .int .i64 a0_1, .slice A0_2 l0_2.length c0_2, .slice A0_3 l0_3.length c0_3, .slice (some ad440005) l0_4.length c0_4] 56 (0, 0)) (by (with_reducible repeat (first | refine blk_drewN ?_ _ | refine blk_drew ?_ | refine blk_alloc ?_ _)); exact BK440001.out)) : gb440006 ≠ gb440001)); clear BK440001; clear HB; have BK440001 := n0_; have HB := n1_; have BK440006 := n2_; have GW440006 := n3_; have GE440006 := n4_; have NB440001_440006 := n5_; have NB440006_440001 := n6_; clear n0_ n1_ n2_ n3_ n4_ n5_ n6_; clear hb hbox hg; have hnb35 := NB440006_440001.out; have hnc35 := NB440001_440006.out; have hcz36_0 : w34.cell? ⟨gb440006, 0, none⟩ = some (.int .i64 0) := (blk_cell BK440006.out 0).trans rfl; have hcz36_1 : w34.cell? ⟨gb440006, 1, none⟩ = some (.int .i64 0) := (blk_cell BK440006.out 1).trans rfl; have hcz36_2 : w34.cell? ⟨gb440006, 2, none⟩ = some (.int .i64 0) := (blk_cell BK440006.out 2).trans rfl; have hcz36_3 : w34.cell? ⟨gb440006, 3, none⟩ = some (.slice none 0 0) := (blk_cell BK440006.out 3).trans rfl; have hfz36_0 := blk_frozen BK440006.out 0; have hfz36_1 := blk_frozen BK440006.out 1; have hfz36_2 := blk_frozen BK440006.out 2; have hfz36_3 := blk_frozen BK440006.out 3))
              have n0_ : Aside0 (((((w34.setCell ⟨gb440006, 0, none⟩ (.int .i64 ((rd_T108 l0_4 x24_2).f0))).setCell ⟨gb440006, 1, none⟩ (.int .i64 ((rd_T108 l0_4 x24_2).f1))).setCell ⟨gb440006, 2, none⟩ (.int .i64 ((rd_T108 l0_4 x24_2).f2))).setCell ⟨gb440006, 3, none⟩ (.slice A440005_3 ((rd_T108 l0_4 x24_2).f3).length c440005_3)).heap[gb440001]? = some (.cells #[.int .i64 a0_0, .int .i64 a0_1, .slice A0_2 l0_2.length c0_2, .slice A0_3 l0_3.length c0_3, .slice (some ad440005) l0_4.length c0_4] 56 (0, 0))) := ⟨by (with_reducible repeat (first | refine blk_drewN ?_ _ | refine blk_drew ?_ | refine blk_alloc ?_ _)); refine blk_far ?_ NB440001_440006.out _; (with_reducible repeat (first | refine blk_drewN ?_ _ | refine blk_drew ?_ | refine blk_alloc ?_ _)); refine blk_far ?_ NB440001_440006.out _; (with_reducible repeat (first | refine blk_drewN ?_ _ | refine blk_drew ?_ | refine blk_alloc ?_ _)); refine blk_far ?_ NB440001_440006.out _; (with_reducible repeat (first | refine blk_drewN ?_ _ | refine blk_drew ?_ | refine blk_alloc ?_ _)); refine blk_far ?_ NB440001_440006.out _; (with_reducible repeat (first | refine blk_drewN ?_ _ | refine blk_drew ?_ | refine blk_alloc ?_ _)); exact BK440001.out⟩
              have n1_ : Aside0 (((((w34.setCell ⟨gb440006, 0, none⟩ (.int .i64 ((rd_T108 l0_4 x24_2).f0))).setCell ⟨gb440006, 1, none⟩ (.int .i64 ((rd_T108 l0_4 x24_2).f1))).setCell ⟨gb440006, 2, none⟩ (.int .i64 ((rd_T108 l0_4 x24_2).f2))).setCell ⟨gb440006, 3, none⟩ (.slice A440005_3 ((rd_T108 l0_4 x24_2).f3).length c440005_3)).heap[gb440006]? = some (.cells #[.int .i64 ((rd_T108 l0_4 x24_2).f0), .int .i64 ((rd_T108 l0_4 x24_2).f1), .int .i64 ((rd_T108 l0_4 x24_2).f2), .slice A440005_3 ((rd_T108 l0_4 x24_2).f3).length c440005_3] 108 (0, 0))) := ⟨by (with_reducible repeat (first | refine blk_drewN ?_ _ | refine blk_drew ?_ | refine blk_alloc ?_ _)); refine blk_put (cs := #[.int .i64 ((rd_T108 l0_4 x24_2).f0), .int .i64 ((rd_T108 l0_4 x24_2).f1), .int .i64 ((rd_T108 l0_4 x24_2).f2), .slice none 0 0]) ?_ 3 _ rfl; (with_reducible repeat (first | refine blk_drewN ?_ _ | refine blk_drew ?_ | refine blk_alloc ?_ _)); refine blk_put (cs := #[.int .i64 ((rd_T108 l0_4 x24_2).f0), .int .i64 ((rd_T108 l0_4 x24_2).f1), .int .i64 0, .slice none 0 0]) ?_ 2 _ rfl; (with_reducible repeat (first | refine blk_drewN ?_ _ | refine blk_drew ?_ | refine blk_alloc ?_ _)); refine blk_put (cs := #[.int .i64 ((rd_T108 l0_4 x24_2).f0), .int .i64 0, .int .i64 0, .slice none 0 0]) ?_ 1 _ rfl; (with_reducible repeat (first | refine blk_drewN ?_ _ | refine blk_drew ?_ | refine blk_alloc ?_ _)); refine blk_put (cs := #[.int .i64 0, .int .i64 0, .int .i64 0, .slice none 0 0]) ?_ 0 _ rfl; (with_reducible repeat (first | refine blk_drewN ?_ _ | refine blk_drew ?_ | refine blk_alloc ?_ _)); exact BK440006.out⟩
              have n2_ : Aside0 (Below w.heap.size w ((((w34.setCell ⟨gb440006, 0, none⟩ (.int .i64 ((rd_T108 l0_4 x24_2).f0))).setCell ⟨gb440006, 1, none⟩ (.int .i64 ((rd_T108 l0_4 x24_2).f1))).setCell ⟨gb440006, 2, none⟩ (.int .i64 ((rd_T108 l0_4 x24_2).f2))).setCell ⟨gb440006, 3, none⟩ (.slice A440005_3 ((rd_T108 l0_4 x24_2).f3).length c440005_3))) := ⟨by repeat (first | (with_reducible first | exact HB.out | apply below_alloc | apply pw_below_drewN | apply below_drew1 | refine below_set ?_ GE440001.out | refine below_set ?_ GE440006.out) | exact HB.out)⟩
              (try clear BK440001)
              (try clear BK440006)
              (try clear HB)
              generalize ((((w34.setCell ⟨gb440006, 0, none⟩ (.int .i64 ((rd_T108 l0_4 x24_2).f0))).setCell ⟨gb440006, 1, none⟩ (.int .i64 ((rd_T108 l0_4 x24_2).f1))).setCell ⟨gb440006, 2, none⟩ (.int .i64 ((rd_T108 l0_4 x24_2).f2))).setCell ⟨gb440006, 3, none⟩ (.slice A440005_3 ((rd_T108 l0_4 x24_2).f3).length c440005_3)) = w37 at n0_ n1_ n2_ ⊢
              have BK440001 := n0_
              have BK440006 := n1_
              have HB := n2_
              clear n0_ n1_ n2_
              have n0_ := Aside0.mk (blk_drew BK440001.out)
              have n1_ := Aside0.mk (blk_drew BK440006.out)
              have n2_ := Aside0.mk (below_drew1 HB.out)
              clear BK440001
              clear BK440006
              clear HB
              have BK440001 := n0_
              have BK440006 := n1_
              have HB := n2_
              clear n0_ n1_ n2_
              have p440008 : 0 ≤ ((ji24) : Int) := of_decide_eq_true (by first | (with_reducible assumption) | assumption)
              have q440008 : (ji24) < (l0_4.length : Int) := of_decide_eq_true (by first | (with_reducible assumption) | assumption)
              obtain ⟨ad440008, A440008_3, c440008_3, e440008, hx440008_0, hx440008_1, hx440008_2, hx440008_3, hl440008_3, hi440008_3⟩ := at_T108 HR0_4.out (ji24) p440008 q440008
              have hw440008_3 := hx440008_3
              have hw440008_2 := hx440008_2
              have hw440008_1 := hx440008_1
              have hw440008_0 := hx440008_0
              obtain rfl : ad440005 = ad440008 := (by injection e440008)
              replace hx440008_0 := (HB.out.cell (World.block_lt_of_cell? w _ hx440008_0)).trans hx440008_0
              replace hx440008_1 := (HB.out.cell (World.block_lt_of_cell? w _ hx440008_1)).trans hx440008_1
              replace hx440008_2 := (HB.out.cell (World.block_lt_of_cell? w _ hx440008_2)).trans hx440008_2
              replace hx440008_3 := (HB.out.cell (World.block_lt_of_cell? w _ hx440008_3)).trans hx440008_3
              have HR440008_3 := Aside0.mk hi440008_3
              have HC440008_3 := Aside0.mk hl440008_3
              clear hi440008_3 hl440008_3
              replace p440008 := eq_true p440008
              replace q440008 := eq_true q440008
              refine start_ (n := 19) (S := fun w' => w'.cell? ⟨gb440006, 0, none⟩ = some (.int .i64 ((rd_T108 l0_4 x24_2).f0)) ∧ w'.cell? ⟨gb440006, 1, none⟩ = some (.int .i64 ((rd_T108 l0_4 x24_2).f1)) ∧ w'.cell? ⟨gb440006, 2, none⟩ = some (.int .i64 ((rd_T108 l0_4 x24_2).f2)) ∧ w'.cell? ⟨gb440006, 3, none⟩ = some (.slice A440005_3 ((rd_T108 l0_4 x24_2).f3).length c440005_3) ∧ w'.cell? ⟨gb440001, 0, none⟩ = some (.int .i64 a0_0) ∧ w'.cell? ⟨gb440001, 1, none⟩ = some (.int .i64 a0_1) ∧ w'.cell? ⟨gb440001, 2, none⟩ = some (.slice A0_2 l0_2.length c0_2) ∧ w'.cell? ⟨gb440001, 3, none⟩ = some (.slice A0_3 l0_3.length c0_3) ∧ w'.cell? ⟨gb440001, 4, none⟩ = some (.slice (some ad440005) l0_4.length c0_4) ∧ w'.cell? (ad440005.add (((ji24)).toNat * 4)) = some (.int .i64 ((rd_T108 l0_4 (ji24)).f0)) ∧ w'.cell? ⟨(ad440005.add (((ji24)).toNat * 4)).block, (ad440005.add (((ji24)).toNat * 4)).off + 1, none⟩ = some (.int .i64 ((rd_T108 l0_4 (ji24)).f1)) ∧ w'.cell? ⟨(ad440005.add (((ji24)).toNat * 4)).block, (ad440005.add (((ji24)).toNat * 4)).off + 2, none⟩ = some (.int .i64 ((rd_T108 l0_4 (ji24)).f2)) ∧ w'.cell? ⟨(ad440005.add (((ji24)).toNat * 4)).block, (ad440005.add (((ji24)).toNat * 4)).off + 3, none⟩ = some (.slice A440008_3 ((rd_T108 l0_4 (ji24)).f3).length c440008_3)) (ds := []) (bt_ 19 0) (by kernel_rfl) rfl rfl ⟨(blk_cell BK440006.out 0).trans rfl, (blk_cell BK440006.out 1).trans rfl, (blk_cell BK440006.out 2).trans rfl, (blk_cell BK440006.out 3).trans rfl, (blk_cell BK440001.out 0).trans rfl, (blk_cell BK440001.out 1).trans rfl, (blk_cell BK440001.out 2).trans rfl, (blk_cell BK440001.out 3).trans rfl, (blk_cell BK440001.out 4).trans rfl, ((HB.out.cell (World.block_lt_of_cell? w _ hw440008_0)).trans hw440008_0), ((HB.out.cell (World.block_lt_of_cell? w _ hw440008_1)).trans hw440008_1), ((HB.out.cell (World.block_lt_of_cell? w _ hw440008_2)).trans hw440008_2), ((HB.out.cell (World.block_lt_of_cell? w _ hw440008_3)).trans hw440008_3)⟩ (fun hHeld => ?_); refine with_tabW impl_BooksOk.tab6 impl_BooksOk.bits6 (fun HT_ HW_ => ?_)
              generalize w37.drew = w38 at BK440001 BK440006 HB HR440008_3 hx440008_0 hx440008_1 hx440008_2 hx440008_3 hHeld ⊢
              refine take_ (i := 0) (N := some 29) (v := ?_) (a' := ?_) (bt_ 19 1) rfl rfl (take_ofW HT_.out HW_.out (by kernel_rfl)) (fun _ _ _ h => h) (Or.inl ⟨by rfl, ?_⟩) hHeld ?_ ?_
              rotate_left
              ·rintro w' ⟨s0, s1, s2, s3, s4, s5, s6, s7, s8, s9, s10, s11, s12⟩
               go_simp
               with_reducible rfl
              rotate_left
              ·simp only [Act.put, List.setIfInBounds_toArray, List.set_cons_zero, List.set_cons_succ, i64_w, i32_w]
               rfl
              refine one_ (i := 1) (N := some 30) (bt_ 19 3) rfl rfl (one_of HT_.out (by kernel_rfl)) (by decide) (fun K hK => ?_)
              refine goes_ Try.func78 (by kernel_rfl) rfl #[.agg #[.int .i64 ((rd_T108 l0_4 x24_2).f0), .int .i64 ((rd_T108 l0_4 x24_2).f1), .int .i64 ((rd_T108 l0_4 x24_2).f2), .slice A440005_3 ((rd_T108 l0_4 x24_2).f3).length c440005_3]] (by rfl) rfl rfl (by (try simp only [List.map_toArray, List.map_cons, List.map_nil]); first | done | rfl | (simp only [List.length_drop, List.length_take]; rfl)) ?_
              with_reducible refine (impl_saidOk.calls k2 ((rd_T108 l0_4 x24_2).f0) ((rd_T108 l0_4 x24_2).f1) ((rd_T108 l0_4 x24_2).f2) _ _ ((rd_T108 l0_4 x24_2).f3) true _ ?side1 ?side2 A21.out).mono ?_
              (case side1 => repeat (first | exact (Kd.C_below HR440005_3.out HB.out) | (with_reducible refine Kd.C_alloc ?_ _) | (with_reducible refine Kd.C_drewN ?_ _) | (with_reducible refine Kd.C_drew ?_)))
              (case side2 => exact HC440005_3.out)
              rintro e w39 ⟨rfl, hb⟩
              refine ⟨_, rfl, ?_⟩
              have n0_ := Aside0.mk (blk_below (g := gb440001) (o := .cells #[.int .i64 a0_0, .int .i64 a0_1, .slice A0_2 l0_2.length c0_2, .slice A0_3 l0_3.length c0_3, .slice (some ad440005) l0_4.length c0_4] 56 (0, 0)) (by (with_reducible repeat (first | refine blk_drewN ?_ _ | refine blk_drew ?_ | refine blk_alloc ?_ _)); exact BK440001.out) hb)
              have n1_ := Aside0.mk (blk_below (g := gb440006) (o := .cells #[.int .i64 ((rd_T108 l0_4 x24_2).f0), .int .i64 ((rd_T108 l0_4 x24_2).f1), .int .i64 ((rd_T108 l0_4 x24_2).f2), .slice A440005_3 ((rd_T108 l0_4 x24_2).f3).length c440005_3] 108 (0, 0)) (by (with_reducible repeat (first | refine blk_drewN ?_ _ | refine blk_drew ?_ | refine blk_alloc ?_ _)); exact BK440006.out) hb)
              have n2_ := Aside0.mk (below_step (by repeat (first | (with_reducible first | exact HB.out | apply below_alloc | apply pw_below_drewN | apply below_drew1 | refine below_set ?_ GE440001.out | refine below_set ?_ GE440006.out) | exact HB.out)) hb)
              clear BK440001
              clear BK440006
              clear HB
              have BK440001 := n0_
              have BK440006 := n1_
              have HB := n2_
              clear n0_ n1_ n2_
              (try clear hb)
              (try clear hb2)
              (try clear hk)
              (try clear hi)
              refine hK.out _ _ ⟨(blk_cell BK440006.out 0).trans rfl, (blk_cell BK440006.out 1).trans rfl, (blk_cell BK440006.out 2).trans rfl, (blk_cell BK440006.out 3).trans rfl, (blk_cell BK440001.out 0).trans rfl, (blk_cell BK440001.out 1).trans rfl, (blk_cell BK440001.out 2).trans rfl, (blk_cell BK440001.out 3).trans rfl, (blk_cell BK440001.out 4).trans rfl, ((HB.out.cell (World.block_lt_of_cell? w _ hw440008_0)).trans hw440008_0), ((HB.out.cell (World.block_lt_of_cell? w _ hw440008_1)).trans hw440008_1), ((HB.out.cell (World.block_lt_of_cell? w _ hw440008_2)).trans hw440008_2), ((HB.out.cell (World.block_lt_of_cell? w _ hw440008_3)).trans hw440008_3)⟩ (fun hHeld => ?_)
              clear hK K
              refine norm_ (a' := ?_) ?_ ?_
              rotate_left
              ·show Act.put _ (some 30) _ = _
               simp only [Act.put, List.setIfInBounds_toArray, List.set_cons_zero, List.set_cons_succ, i64_w, i32_w]
               rfl
              refine pu_ 2 (some 31) (bt_ 19 7) (any_of HT_.out (by kernel_rfl)) ?_
              refine pu_ 3 (some 32) (bt_ 19 15) (any_of HT_.out (by kernel_rfl)) ?_
              refine pu_ 4 (some 33) (bt_ 19 31) (any_of HT_.out (by kernel_rfl)) ?_
              refine pu_ 5 (some 34) (bt_ 19 63) (any_of HT_.out (by kernel_rfl)) ?_
              refine pu_ 6 (some 35) (bt_ 19 127) (any_of HT_.out (by kernel_rfl)) ?_
              refine pu_ 7 (some 36) (bt_ 19 255) (any_of HT_.out (by kernel_rfl)) ?_
              refine pu_ 9 (some 38) (bt_ 19 767) (any_of HT_.out (by kernel_rfl)) ?_
              refine pu_ 10 (some 39) (bt_ 19 1791) (any_of HT_.out (by kernel_rfl)) ?_
              refine pu_ 14 (some 43) (bt_ 19 18175) (any_of HT_.out (by kernel_rfl)) ?_
              refine take_ (i := 8) (N := some 37) (v := ?_) (a' := ?_) (bt_ 19 18431) rfl rfl (take_ofW HT_.out HW_.out (by kernel_rfl)) (fun _ _ _ h => h) (Or.inl ⟨by rfl, ?_⟩) hHeld ?_ ?_
              rotate_left
              ·rintro w' ⟨s0, s1, s2, s3, s4, s5, s6, s7, s8, s9, s10, s11, s12⟩
               go_simp
               with_reducible rfl
              rotate_left
              ·simp only [Act.put, List.setIfInBounds_toArray, List.set_cons_zero, List.set_cons_succ, i64_w, i32_w]
               rfl
              refine pu_ 11 (some 40) (bt_ 19 20479) (any_of HT_.out (by kernel_rfl)) ?_
              refine pu_ 12 (some 41) (bt_ 19 24575) (any_of HT_.out (by kernel_rfl)) ?_
              refine take_ (i := 13) (N := some 42) (v := ?_) (a' := ?_) (bt_ 19 32767) rfl rfl (take_ofW HT_.out HW_.out (by kernel_rfl)) (fun _ _ _ h => h) (Or.inl ⟨by rfl, ?_⟩) hHeld ?_ ?_
              rotate_left
              ·rintro w' ⟨s0, s1, s2, s3, s4, s5, s6, s7, s8, s9, s10, s11, s12⟩
               go_simp
               with_reducible rfl
              rotate_left
              ·simp only [Act.put, List.setIfInBounds_toArray, List.set_cons_zero, List.set_cons_succ, i64_w, i32_w]
               rfl
              refine take_ (i := 15) (N := some 44) (v := ?_) (a' := ?_) (bt_ 19 65535) rfl rfl (take_ofW HT_.out HW_.out (by kernel_rfl)) (fun _ _ _ h => h) (Or.inl ⟨by rfl, ?_⟩) hHeld ?_ ?_
              rotate_left
              ·rintro w' ⟨s0, s1, s2, s3, s4, s5, s6, s7, s8, s9, s10, s11, s12⟩
               go_simp
               with_reducible rfl
              rotate_left
              ·simp only [Act.put, List.setIfInBounds_toArray, List.set_cons_zero, List.set_cons_succ, i64_w, i32_w]
               rfl
              refine pu_ 16 (some 45) (bt_ 19 131071) (any_of HT_.out (by kernel_rfl)) ?_
              refine pu_ 17 (some 46) (bt_ 19 262143) (any_of HT_.out (by kernel_rfl)) ?_
              refine pu_ 18 (some 47) (bt_ 19 524287) (any_of HT_.out (by kernel_rfl)) ?_
              refine done_ (done_of HT_.out (by kernel_rfl)) ?_
              try go_wp2
              go_roundg k2
              case measure => have := HJ1.out; have := HK2.out; omega
              case rel => exact ⟨(wrap64 (x24_2 + 1)), (by first | rfl | (simp; done) | (simp [*]; done)), H', ⟨by have := HJ1.out; have := HK2.out; omega⟩, ⟨by (with_reducible repeat (first | refine blk_drewN ?_ _ | refine blk_drew ?_ | refine blk_alloc ?_ _)); exact BK440001.out⟩, ⟨by repeat (first | (with_reducible first | exact HB.out | apply below_alloc | apply pw_below_drewN | apply below_drew1 | refine below_set ?_ GE440001.out | refine below_set ?_ GE440006.out) | exact HB.out)⟩⟩
            ·rw [if_neg c26] at H
             exact absurd H (by simp)
           ·rw [if_neg c25] at H
            exact absurd H (by simp)
          ·rw [if_neg c23] at H
           have c23b0 : decide (0 < x24_2) = false := decide_eq_false c23
           clear c23
           have H' := Aside0.mk H
           clear H
           have p440005 : 0 ≤ (x24_2 : Int) := of_decide_eq_true (by first | (with_reducible assumption) | assumption)
           have q440005 : x24_2 < (l0_4.length : Int) := of_decide_eq_true (by first | (with_reducible assumption) | assumption)
           obtain ⟨ad440005, A440005_3, c440005_3, e440005, hx440005_0, hx440005_1, hx440005_2, hx440005_3, hl440005_3, hi440005_3⟩ := at_T108 HR0_4.out x24_2 p440005 q440005
           cases e440005
           replace hx440005_0 := (HB.out.cell (World.block_lt_of_cell? w _ hx440005_0)).trans hx440005_0
           replace hx440005_1 := (HB.out.cell (World.block_lt_of_cell? w _ hx440005_1)).trans hx440005_1
           replace hx440005_2 := (HB.out.cell (World.block_lt_of_cell? w _ hx440005_2)).trans hx440005_2
           replace hx440005_3 := (HB.out.cell (World.block_lt_of_cell? w _ hx440005_3)).trans hx440005_3
           have HR440005_3 := Aside0.mk hi440005_3
           have HC440005_3 := Aside0.mk hl440005_3
           clear hi440005_3 hl440005_3
           replace p440005 := eq_true p440005
           replace q440005 := eq_true q440005
           try go_wp2_with (first | ((with_reducible refine gate_dst (N := 4) rfl ?_); refine box_event ?hg (N := 4) ?hd (cs := #[.int .i64 0, .int .i64 0, .int .i64 0, .slice none 0 0]) (t := 108) ?hr ?_; (case hd => rfl); (case hg => rfl); (case hr => first | (go_simp; done) | (go_simp; rfl)); intro gb440006 hg w40 hbox hb; have n0_ := Aside0.mk (blk_below (g := gb440001) (o := .cells #[.int .i64 a0_0, .int .i64 a0_1, .slice A0_2 l0_2.length c0_2, .slice A0_3 l0_3.length c0_3, .slice (some ad440005) l0_4.length c0_4] 56 (0, 0)) (by (with_reducible repeat (first | refine blk_drewN ?_ _ | refine blk_drew ?_ | refine blk_alloc ?_ _)); exact BK440001.out) hb); have n1_ := Aside0.mk (below_step (by repeat (first | (with_reducible first | exact HB.out | apply below_alloc | apply pw_below_drewN | apply below_drew1 | refine below_set ?_ GE440001.out) | exact HB.out)) hb); have n2_ := Aside0.mk (hbox); have n3_ := Aside0.mk ((by rw [hg]; exact (below_size (by repeat (first | (with_reducible first | exact HB.out | apply below_alloc | apply pw_below_drewN | apply below_drew1 | refine below_set ?_ GE440001.out) | exact HB.out))) : w.heap.size ≤ gb440006)); have n4_ := Aside0.mk ((by rw [hg]; exact (below_size (by repeat (first | (with_reducible first | exact HB.out | apply below_alloc | apply pw_below_drewN | apply below_drew1 | refine below_set ?_ GE440001.out) | exact HB.out))) : w.heap.size ≤ gb440006)); have n5_ := Aside0.mk ((by rw [hg]; exact Nat.ne_of_lt (blk_lt (g := gb440001) (o := .cells #[.int .i64 a0_0, .int .i64 a0_1, .slice A0_2 l0_2.length c0_2, .slice A0_3 l0_3.length c0_3, .slice (some ad440005) l0_4.length c0_4] 56 (0, 0)) (by (with_reducible repeat (first | refine blk_drewN ?_ _ | refine blk_drew ?_ | refine blk_alloc ?_ _)); exact BK440001.out)) : gb440001 ≠ gb440006)); have n6_ := Aside0.mk ((by rw [hg]; exact Nat.ne_of_gt (blk_lt (g := gb440001) (o := .cells #[.int .i64 a0_0, .int .i64 a0_1, .slice A0_2 l0_2.length c0_2, .slice A0_3 l0_3.length c0_3, .slice (some ad440005) l0_4.length c0_4] 56 (0, 0)) (by (with_reducible repeat (first | refine blk_drewN ?_ _ | refine blk_drew ?_ | refine blk_alloc ?_ _)); exact BK440001.out)) : gb440006 ≠ gb440001)); clear BK440001; clear HB; have BK440001 := n0_; have HB := n1_; have BK440006 := n2_; have GW440006 := n3_; have GE440006 := n4_; have NB440001_440006 := n5_; have NB440006_440001 := n6_; clear n0_ n1_ n2_ n3_ n4_ n5_ n6_; clear hb hbox hg; have hnb41 := NB440006_440001.out; have hnc41 := NB440001_440006.out; have hcz42_0 : w40.cell? ⟨gb440006, 0, none⟩ = some (.int .i64 0) := (blk_cell BK440006.out 0).trans rfl; have hcz42_1 : w40.cell? ⟨gb440006, 1, none⟩ = some (.int .i64 0) := (blk_cell BK440006.out 1).trans rfl; have hcz42_2 : w40.cell? ⟨gb440006, 2, none⟩ = some (.int .i64 0) := (blk_cell BK440006.out 2).trans rfl; have hcz42_3 : w40.cell? ⟨gb440006, 3, none⟩ = some (.slice none 0 0) := (blk_cell BK440006.out 3).trans rfl; have hfz42_0 := blk_frozen BK440006.out 0; have hfz42_1 := blk_frozen BK440006.out 1; have hfz42_2 := blk_frozen BK440006.out 2; have hfz42_3 := blk_frozen BK440006.out 3))
           have n0_ : Aside0 (((((w40.setCell ⟨gb440006, 0, none⟩ (.int .i64 ((rd_T108 l0_4 x24_2).f0))).setCell ⟨gb440006, 1, none⟩ (.int .i64 ((rd_T108 l0_4 x24_2).f1))).setCell ⟨gb440006, 2, none⟩ (.int .i64 ((rd_T108 l0_4 x24_2).f2))).setCell ⟨gb440006, 3, none⟩ (.slice A440005_3 ((rd_T108 l0_4 x24_2).f3).length c440005_3)).heap[gb440001]? = some (.cells #[.int .i64 a0_0, .int .i64 a0_1, .slice A0_2 l0_2.length c0_2, .slice A0_3 l0_3.length c0_3, .slice (some ad440005) l0_4.length c0_4] 56 (0, 0))) := ⟨by (with_reducible repeat (first | refine blk_drewN ?_ _ | refine blk_drew ?_ | refine blk_alloc ?_ _)); refine blk_far ?_ NB440001_440006.out _; (with_reducible repeat (first | refine blk_drewN ?_ _ | refine blk_drew ?_ | refine blk_alloc ?_ _)); refine blk_far ?_ NB440001_440006.out _; (with_reducible repeat (first | refine blk_drewN ?_ _ | refine blk_drew ?_ | refine blk_alloc ?_ _)); refine blk_far ?_ NB440001_440006.out _; (with_reducible repeat (first | refine blk_drewN ?_ _ | refine blk_drew ?_ | refine blk_alloc ?_ _)); refine blk_far ?_ NB440001_440006.out _; (with_reducible repeat (first | refine blk_drewN ?_ _ | refine blk_drew ?_ | refine blk_alloc ?_ _)); exact BK440001.out⟩
           have n1_ : Aside0 (((((w40.setCell ⟨gb440006, 0, none⟩ (.int .i64 ((rd_T108 l0_4 x24_2).f0))).setCell ⟨gb440006, 1, none⟩ (.int .i64 ((rd_T108 l0_4 x24_2).f1))).setCell ⟨gb440006, 2, none⟩ (.int .i64 ((rd_T108 l0_4 x24_2).f2))).setCell ⟨gb440006, 3, none⟩ (.slice A440005_3 ((rd_T108 l0_4 x24_2).f3).length c440005_3)).heap[gb440006]? = some (.cells #[.int .i64 ((rd_T108 l0_4 x24_2).f0), .int .i64 ((rd_T108 l0_4 x24_2).f1), .int .i64 ((rd_T108 l0_4 x24_2).f2), .slice A440005_3 ((rd_T108 l0_4 x24_2).f3).length c440005_3] 108 (0, 0))) := ⟨by (with_reducible repeat (first | refine blk_drewN ?_ _ | refine blk_drew ?_ | refine blk_alloc ?_ _)); refine blk_put (cs := #[.int .i64 ((rd_T108 l0_4 x24_2).f0), .int .i64 ((rd_T108 l0_4 x24_2).f1), .int .i64 ((rd_T108 l0_4 x24_2).f2), .slice none 0 0]) ?_ 3 _ rfl; (with_reducible repeat (first | refine blk_drewN ?_ _ | refine blk_drew ?_ | refine blk_alloc ?_ _)); refine blk_put (cs := #[.int .i64 ((rd_T108 l0_4 x24_2).f0), .int .i64 ((rd_T108 l0_4 x24_2).f1), .int .i64 0, .slice none 0 0]) ?_ 2 _ rfl; (with_reducible repeat (first | refine blk_drewN ?_ _ | refine blk_drew ?_ | refine blk_alloc ?_ _)); refine blk_put (cs := #[.int .i64 ((rd_T108 l0_4 x24_2).f0), .int .i64 0, .int .i64 0, .slice none 0 0]) ?_ 1 _ rfl; (with_reducible repeat (first | refine blk_drewN ?_ _ | refine blk_drew ?_ | refine blk_alloc ?_ _)); refine blk_put (cs := #[.int .i64 0, .int .i64 0, .int .i64 0, .slice none 0 0]) ?_ 0 _ rfl; (with_reducible repeat (first | refine blk_drewN ?_ _ | refine blk_drew ?_ | refine blk_alloc ?_ _)); exact BK440006.out⟩
           have n2_ : Aside0 (Below w.heap.size w ((((w40.setCell ⟨gb440006, 0, none⟩ (.int .i64 ((rd_T108 l0_4 x24_2).f0))).setCell ⟨gb440006, 1, none⟩ (.int .i64 ((rd_T108 l0_4 x24_2).f1))).setCell ⟨gb440006, 2, none⟩ (.int .i64 ((rd_T108 l0_4 x24_2).f2))).setCell ⟨gb440006, 3, none⟩ (.slice A440005_3 ((rd_T108 l0_4 x24_2).f3).length c440005_3))) := ⟨by repeat (first | (with_reducible first | exact HB.out | apply below_alloc | apply pw_below_drewN | apply below_drew1 | refine below_set ?_ GE440001.out | refine below_set ?_ GE440006.out) | exact HB.out)⟩
           (try clear BK440001)
           (try clear BK440006)
           (try clear HB)
           generalize ((((w40.setCell ⟨gb440006, 0, none⟩ (.int .i64 ((rd_T108 l0_4 x24_2).f0))).setCell ⟨gb440006, 1, none⟩ (.int .i64 ((rd_T108 l0_4 x24_2).f1))).setCell ⟨gb440006, 2, none⟩ (.int .i64 ((rd_T108 l0_4 x24_2).f2))).setCell ⟨gb440006, 3, none⟩ (.slice A440005_3 ((rd_T108 l0_4 x24_2).f3).length c440005_3)) = w43 at n0_ n1_ n2_ ⊢
           have BK440001 := n0_
           have BK440006 := n1_
           have HB := n2_
           clear n0_ n1_ n2_
           have n0_ := Aside0.mk (blk_drew BK440001.out)
           have n1_ := Aside0.mk (blk_drew BK440006.out)
           have n2_ := Aside0.mk (below_drew1 HB.out)
           clear BK440001
           clear BK440006
           clear HB
           have BK440001 := n0_
           have BK440006 := n1_
           have HB := n2_
           clear n0_ n1_ n2_
           refine start_ (n := 19) (S := fun w' => w'.cell? ⟨gb440006, 0, none⟩ = some (.int .i64 ((rd_T108 l0_4 x24_2).f0)) ∧ w'.cell? ⟨gb440006, 1, none⟩ = some (.int .i64 ((rd_T108 l0_4 x24_2).f1)) ∧ w'.cell? ⟨gb440006, 2, none⟩ = some (.int .i64 ((rd_T108 l0_4 x24_2).f2)) ∧ w'.cell? ⟨gb440006, 3, none⟩ = some (.slice A440005_3 ((rd_T108 l0_4 x24_2).f3).length c440005_3)) (ds := []) (bt_ 19 0) (by kernel_rfl) rfl rfl ⟨(blk_cell BK440006.out 0).trans rfl, (blk_cell BK440006.out 1).trans rfl, (blk_cell BK440006.out 2).trans rfl, (blk_cell BK440006.out 3).trans rfl⟩ (fun hHeld => ?_); refine with_tabW impl_BooksOk.tab6 impl_BooksOk.bits6 (fun HT_ HW_ => ?_)
           generalize w43.drew = w44 at BK440001 BK440006 HB hHeld ⊢
           refine take_ (i := 0) (N := some 29) (v := ?_) (a' := ?_) (bt_ 19 1) rfl rfl (take_ofW HT_.out HW_.out (by kernel_rfl)) (fun _ _ _ h => h) (Or.inl ⟨by rfl, ?_⟩) hHeld ?_ ?_
           rotate_left
           ·rintro w' ⟨s0, s1, s2, s3⟩
            go_simp
            with_reducible rfl
           rotate_left
           ·simp only [Act.put, List.setIfInBounds_toArray, List.set_cons_zero, List.set_cons_succ, i64_w, i32_w]
            rfl
           refine one_ (i := 1) (N := some 30) (bt_ 19 3) rfl rfl (one_of HT_.out (by kernel_rfl)) (by decide) (fun K hK => ?_)
           refine goes_ Try.func78 (by kernel_rfl) rfl #[.agg #[.int .i64 ((rd_T108 l0_4 x24_2).f0), .int .i64 ((rd_T108 l0_4 x24_2).f1), .int .i64 ((rd_T108 l0_4 x24_2).f2), .slice A440005_3 ((rd_T108 l0_4 x24_2).f3).length c440005_3]] (by rfl) rfl rfl (by (try simp only [List.map_toArray, List.map_cons, List.map_nil]); first | done | rfl | (simp only [List.length_drop, List.length_take]; rfl)) ?_
           with_reducible refine (impl_saidOk.calls k2 ((rd_T108 l0_4 x24_2).f0) ((rd_T108 l0_4 x24_2).f1) ((rd_T108 l0_4 x24_2).f2) _ _ ((rd_T108 l0_4 x24_2).f3) true _ ?side1 ?side2 A21.out).mono ?_
           (case side1 => repeat (first | exact (Kd.C_below HR440005_3.out HB.out) | (with_reducible refine Kd.C_alloc ?_ _) | (with_reducible refine Kd.C_drewN ?_ _) | (with_reducible refine Kd.C_drew ?_)))
           (case side2 => exact HC440005_3.out)
           rintro e w45 ⟨rfl, hb⟩
           refine ⟨_, rfl, ?_⟩
           have n0_ := Aside0.mk (blk_below (g := gb440001) (o := .cells #[.int .i64 a0_0, .int .i64 a0_1, .slice A0_2 l0_2.length c0_2, .slice A0_3 l0_3.length c0_3, .slice (some ad440005) l0_4.length c0_4] 56 (0, 0)) (by (with_reducible repeat (first | refine blk_drewN ?_ _ | refine blk_drew ?_ | refine blk_alloc ?_ _)); exact BK440001.out) hb)
           have n1_ := Aside0.mk (blk_below (g := gb440006) (o := .cells #[.int .i64 ((rd_T108 l0_4 x24_2).f0), .int .i64 ((rd_T108 l0_4 x24_2).f1), .int .i64 ((rd_T108 l0_4 x24_2).f2), .slice A440005_3 ((rd_T108 l0_4 x24_2).f3).length c440005_3] 108 (0, 0)) (by (with_reducible repeat (first | refine blk_drewN ?_ _ | refine blk_drew ?_ | refine blk_alloc ?_ _)); exact BK440006.out) hb)
           have n2_ := Aside0.mk (below_step (by repeat (first | (with_reducible first | exact HB.out | apply below_alloc | apply pw_below_drewN | apply below_drew1 | refine below_set ?_ GE440001.out | refine below_set ?_ GE440006.out) | exact HB.out)) hb)
           clear BK440001
           clear BK440006
           clear HB
           have BK440001 := n0_
           have BK440006 := n1_
           have HB := n2_
           clear n0_ n1_ n2_
           (try clear hb)
           (try clear hb2)
           (try clear hk)
           (try clear hi)
           refine hK.out _ _ ⟨(blk_cell BK440006.out 0).trans rfl, (blk_cell BK440006.out 1).trans rfl, (blk_cell BK440006.out 2).trans rfl, (blk_cell BK440006.out 3).trans rfl⟩ (fun hHeld => ?_)
           clear hK K
           refine norm_ (a' := ?_) ?_ ?_
           rotate_left
           ·show Act.put _ (some 30) _ = _
            simp only [Act.put, List.setIfInBounds_toArray, List.set_cons_zero, List.set_cons_succ, i64_w, i32_w]
            rfl
           refine pu_ 2 (some 31) (bt_ 19 7) (any_of HT_.out (by kernel_rfl)) ?_
           refine pu_ 3 (some 32) (bt_ 19 15) (any_of HT_.out (by kernel_rfl)) ?_
           refine pu_ 4 (some 33) (bt_ 19 31) (any_of HT_.out (by kernel_rfl)) ?_
           refine pu_ 5 (some 34) (bt_ 19 63) (any_of HT_.out (by kernel_rfl)) ?_
           refine pu_ 6 (some 35) (bt_ 19 127) (any_of HT_.out (by kernel_rfl)) ?_
           refine pn_ 7 (some 36) (bt_ 19 255) (any_of HT_.out (by kernel_rfl)) ?_
           refine pn_ 8 (some 37) (bt_ 19 511) (any_of HT_.out (by kernel_rfl)) ?_
           refine pn_ 9 (some 38) (bt_ 19 1023) (any_of HT_.out (by kernel_rfl)) ?_
           refine pn_ 10 (some 39) (bt_ 19 2047) (any_of HT_.out (by kernel_rfl)) ?_
           refine pn_ 11 (some 40) (bt_ 19 4095) (any_of HT_.out (by kernel_rfl)) ?_
           refine pn_ 12 (some 41) (bt_ 19 8191) (any_of HT_.out (by kernel_rfl)) ?_
           refine pn_ 13 (some 42) (bt_ 19 16383) (any_of HT_.out (by kernel_rfl)) ?_
           refine pn_ 14 (some 43) (bt_ 19 32767) (any_of HT_.out (by kernel_rfl)) ?_
           refine pn_ 15 (some 44) (bt_ 19 65535) (any_of HT_.out (by kernel_rfl)) ?_
           refine pn_ 16 (some 45) (bt_ 19 131071) (any_of HT_.out (by kernel_rfl)) ?_
           refine pu_ 17 (some 46) (bt_ 19 262143) (any_of HT_.out (by kernel_rfl)) ?_
           refine pu_ 18 (some 47) (bt_ 19 524287) (any_of HT_.out (by kernel_rfl)) ?_
           refine done_ (done_of HT_.out (by kernel_rfl)) ?_
           try go_wp2
           go_roundg k2
           case measure => have := HJ1.out; have := HK2.out; omega
           case rel => exact ⟨(wrap64 (x24_2 + 1)), (by first | rfl | (simp; done) | (simp [*]; done)), H', ⟨by have := HJ1.out; have := HK2.out; omega⟩, ⟨by (with_reducible repeat (first | refine blk_drewN ?_ _ | refine blk_drew ?_ | refine blk_alloc ?_ _)); exact BK440001.out⟩, ⟨by repeat (first | (with_reducible first | exact HB.out | apply below_alloc | apply pw_below_drewN | apply below_drew1 | refine below_set ?_ GE440001.out | refine below_set ?_ GE440006.out) | exact HB.out)⟩⟩
         ·replace c22 := Bool.eq_false_iff.mpr c22
          subst c22
          have H1 : (some false) = some r := by rw [if_neg (show ¬ (false = true) by decide)] at H; exact H
          clear H
          have H := H1
          clear H1
          obtain rfl := Option.some.inj H
          have p440005 : 0 ≤ (x24_2 : Int) := of_decide_eq_true (by first | (with_reducible assumption) | assumption)
          have q440005 : x24_2 < (l0_4.length : Int) := of_decide_eq_true (by first | (with_reducible assumption) | assumption)
          obtain ⟨ad440005, A440005_3, c440005_3, e440005, hx440005_0, hx440005_1, hx440005_2, hx440005_3, hl440005_3, hi440005_3⟩ := at_T108 HR0_4.out x24_2 p440005 q440005
          cases e440005
          replace hx440005_0 := (HB.out.cell (World.block_lt_of_cell? w _ hx440005_0)).trans hx440005_0
          replace hx440005_1 := (HB.out.cell (World.block_lt_of_cell? w _ hx440005_1)).trans hx440005_1
          replace hx440005_2 := (HB.out.cell (World.block_lt_of_cell? w _ hx440005_2)).trans hx440005_2
          replace hx440005_3 := (HB.out.cell (World.block_lt_of_cell? w _ hx440005_3)).trans hx440005_3
          have HR440005_3 := Aside0.mk hi440005_3
          have HC440005_3 := Aside0.mk hl440005_3
          clear hi440005_3 hl440005_3
          replace p440005 := eq_true p440005
          replace q440005 := eq_true q440005
          try go_wp2_with (first | ((with_reducible refine gate_dst (N := 4) rfl ?_); refine box_event ?hg (N := 4) ?hd (cs := #[.int .i64 0, .int .i64 0, .int .i64 0, .slice none 0 0]) (t := 108) ?hr ?_; (case hd => rfl); (case hg => rfl); (case hr => first | (go_simp; done) | (go_simp; rfl)); intro gb440006 hg w46 hbox hb; have n0_ := Aside0.mk (blk_below (g := gb440001) (o := .cells #[.int .i64 a0_0, .int .i64 a0_1, .slice A0_2 l0_2.length c0_2, .slice A0_3 l0_3.length c0_3, .slice (some ad440005) l0_4.length c0_4] 56 (0, 0)) (by (with_reducible repeat (first | refine blk_drewN ?_ _ | refine blk_drew ?_ | refine blk_alloc ?_ _)); exact BK440001.out) hb); have n1_ := Aside0.mk (below_step (by repeat (first | (with_reducible first | exact HB.out | apply below_alloc | apply pw_below_drewN | apply below_drew1 | refine below_set ?_ GE440001.out) | exact HB.out)) hb); have n2_ := Aside0.mk (hbox); have n3_ := Aside0.mk ((by rw [hg]; exact (below_size (by repeat (first | (with_reducible first | exact HB.out | apply below_alloc | apply pw_below_drewN | apply below_drew1 | refine below_set ?_ GE440001.out) | exact HB.out))) : w.heap.size ≤ gb440006)); have n4_ := Aside0.mk ((by rw [hg]; exact (below_size (by repeat (first | (with_reducible first | exact HB.out | apply below_alloc | apply pw_below_drewN | apply below_drew1 | refine below_set ?_ GE440001.out) | exact HB.out))) : w.heap.size ≤ gb440006)); have n5_ := Aside0.mk ((by rw [hg]; exact Nat.ne_of_lt (blk_lt (g := gb440001) (o := .cells #[.int .i64 a0_0, .int .i64 a0_1, .slice A0_2 l0_2.length c0_2, .slice A0_3 l0_3.length c0_3, .slice (some ad440005) l0_4.length c0_4] 56 (0, 0)) (by (with_reducible repeat (first | refine blk_drewN ?_ _ | refine blk_drew ?_ | refine blk_alloc ?_ _)); exact BK440001.out)) : gb440001 ≠ gb440006)); have n6_ := Aside0.mk ((by rw [hg]; exact Nat.ne_of_gt (blk_lt (g := gb440001) (o := .cells #[.int .i64 a0_0, .int .i64 a0_1, .slice A0_2 l0_2.length c0_2, .slice A0_3 l0_3.length c0_3, .slice (some ad440005) l0_4.length c0_4] 56 (0, 0)) (by (with_reducible repeat (first | refine blk_drewN ?_ _ | refine blk_drew ?_ | refine blk_alloc ?_ _)); exact BK440001.out)) : gb440006 ≠ gb440001)); clear BK440001; clear HB; have BK440001 := n0_; have HB := n1_; have BK440006 := n2_; have GW440006 := n3_; have GE440006 := n4_; have NB440001_440006 := n5_; have NB440006_440001 := n6_; clear n0_ n1_ n2_ n3_ n4_ n5_ n6_; clear hb hbox hg; have hnb47 := NB440006_440001.out; have hnc47 := NB440001_440006.out; have hcz48_0 : w46.cell? ⟨gb440006, 0, none⟩ = some (.int .i64 0) := (blk_cell BK440006.out 0).trans rfl; have hcz48_1 : w46.cell? ⟨gb440006, 1, none⟩ = some (.int .i64 0) := (blk_cell BK440006.out 1).trans rfl; have hcz48_2 : w46.cell? ⟨gb440006, 2, none⟩ = some (.int .i64 0) := (blk_cell BK440006.out 2).trans rfl; have hcz48_3 : w46.cell? ⟨gb440006, 3, none⟩ = some (.slice none 0 0) := (blk_cell BK440006.out 3).trans rfl; have hfz48_0 := blk_frozen BK440006.out 0; have hfz48_1 := blk_frozen BK440006.out 1; have hfz48_2 := blk_frozen BK440006.out 2; have hfz48_3 := blk_frozen BK440006.out 3))
          have n0_ : Aside0 (((((w46.setCell ⟨gb440006, 0, none⟩ (.int .i64 ((rd_T108 l0_4 x24_2).f0))).setCell ⟨gb440006, 1, none⟩ (.int .i64 ((rd_T108 l0_4 x24_2).f1))).setCell ⟨gb440006, 2, none⟩ (.int .i64 ((rd_T108 l0_4 x24_2).f2))).setCell ⟨gb440006, 3, none⟩ (.slice A440005_3 ((rd_T108 l0_4 x24_2).f3).length c440005_3)).heap[gb440001]? = some (.cells #[.int .i64 a0_0, .int .i64 a0_1, .slice A0_2 l0_2.length c0_2, .slice A0_3 l0_3.length c0_3, .slice (some ad440005) l0_4.length c0_4] 56 (0, 0))) := ⟨by (with_reducible repeat (first | refine blk_drewN ?_ _ | refine blk_drew ?_ | refine blk_alloc ?_ _)); refine blk_far ?_ NB440001_440006.out _; (with_reducible repeat (first | refine blk_drewN ?_ _ | refine blk_drew ?_ | refine blk_alloc ?_ _)); refine blk_far ?_ NB440001_440006.out _; (with_reducible repeat (first | refine blk_drewN ?_ _ | refine blk_drew ?_ | refine blk_alloc ?_ _)); refine blk_far ?_ NB440001_440006.out _; (with_reducible repeat (first | refine blk_drewN ?_ _ | refine blk_drew ?_ | refine blk_alloc ?_ _)); refine blk_far ?_ NB440001_440006.out _; (with_reducible repeat (first | refine blk_drewN ?_ _ | refine blk_drew ?_ | refine blk_alloc ?_ _)); exact BK440001.out⟩
          have n1_ : Aside0 (((((w46.setCell ⟨gb440006, 0, none⟩ (.int .i64 ((rd_T108 l0_4 x24_2).f0))).setCell ⟨gb440006, 1, none⟩ (.int .i64 ((rd_T108 l0_4 x24_2).f1))).setCell ⟨gb440006, 2, none⟩ (.int .i64 ((rd_T108 l0_4 x24_2).f2))).setCell ⟨gb440006, 3, none⟩ (.slice A440005_3 ((rd_T108 l0_4 x24_2).f3).length c440005_3)).heap[gb440006]? = some (.cells #[.int .i64 ((rd_T108 l0_4 x24_2).f0), .int .i64 ((rd_T108 l0_4 x24_2).f1), .int .i64 ((rd_T108 l0_4 x24_2).f2), .slice A440005_3 ((rd_T108 l0_4 x24_2).f3).length c440005_3] 108 (0, 0))) := ⟨by (with_reducible repeat (first | refine blk_drewN ?_ _ | refine blk_drew ?_ | refine blk_alloc ?_ _)); refine blk_put (cs := #[.int .i64 ((rd_T108 l0_4 x24_2).f0), .int .i64 ((rd_T108 l0_4 x24_2).f1), .int .i64 ((rd_T108 l0_4 x24_2).f2), .slice none 0 0]) ?_ 3 _ rfl; (with_reducible repeat (first | refine blk_drewN ?_ _ | refine blk_drew ?_ | refine blk_alloc ?_ _)); refine blk_put (cs := #[.int .i64 ((rd_T108 l0_4 x24_2).f0), .int .i64 ((rd_T108 l0_4 x24_2).f1), .int .i64 0, .slice none 0 0]) ?_ 2 _ rfl; (with_reducible repeat (first | refine blk_drewN ?_ _ | refine blk_drew ?_ | refine blk_alloc ?_ _)); refine blk_put (cs := #[.int .i64 ((rd_T108 l0_4 x24_2).f0), .int .i64 0, .int .i64 0, .slice none 0 0]) ?_ 1 _ rfl; (with_reducible repeat (first | refine blk_drewN ?_ _ | refine blk_drew ?_ | refine blk_alloc ?_ _)); refine blk_put (cs := #[.int .i64 0, .int .i64 0, .int .i64 0, .slice none 0 0]) ?_ 0 _ rfl; (with_reducible repeat (first | refine blk_drewN ?_ _ | refine blk_drew ?_ | refine blk_alloc ?_ _)); exact BK440006.out⟩
          have n2_ : Aside0 (Below w.heap.size w ((((w46.setCell ⟨gb440006, 0, none⟩ (.int .i64 ((rd_T108 l0_4 x24_2).f0))).setCell ⟨gb440006, 1, none⟩ (.int .i64 ((rd_T108 l0_4 x24_2).f1))).setCell ⟨gb440006, 2, none⟩ (.int .i64 ((rd_T108 l0_4 x24_2).f2))).setCell ⟨gb440006, 3, none⟩ (.slice A440005_3 ((rd_T108 l0_4 x24_2).f3).length c440005_3))) := ⟨by repeat (first | (with_reducible first | exact HB.out | apply below_alloc | apply pw_below_drewN | apply below_drew1 | refine below_set ?_ GE440001.out | refine below_set ?_ GE440006.out) | exact HB.out)⟩
          (try clear BK440001)
          (try clear BK440006)
          (try clear HB)
          generalize ((((w46.setCell ⟨gb440006, 0, none⟩ (.int .i64 ((rd_T108 l0_4 x24_2).f0))).setCell ⟨gb440006, 1, none⟩ (.int .i64 ((rd_T108 l0_4 x24_2).f1))).setCell ⟨gb440006, 2, none⟩ (.int .i64 ((rd_T108 l0_4 x24_2).f2))).setCell ⟨gb440006, 3, none⟩ (.slice A440005_3 ((rd_T108 l0_4 x24_2).f3).length c440005_3)) = w49 at n0_ n1_ n2_ ⊢
          have BK440001 := n0_
          have BK440006 := n1_
          have HB := n2_
          clear n0_ n1_ n2_
          have n0_ := Aside0.mk (blk_drew BK440001.out)
          have n1_ := Aside0.mk (blk_drew BK440006.out)
          have n2_ := Aside0.mk (below_drew1 HB.out)
          clear BK440001
          clear BK440006
          clear HB
          have BK440001 := n0_
          have BK440006 := n1_
          have HB := n2_
          clear n0_ n1_ n2_
          refine start_ (n := 19) (S := fun w' => w'.cell? ⟨gb440006, 0, none⟩ = some (.int .i64 ((rd_T108 l0_4 x24_2).f0)) ∧ w'.cell? ⟨gb440006, 1, none⟩ = some (.int .i64 ((rd_T108 l0_4 x24_2).f1)) ∧ w'.cell? ⟨gb440006, 2, none⟩ = some (.int .i64 ((rd_T108 l0_4 x24_2).f2)) ∧ w'.cell? ⟨gb440006, 3, none⟩ = some (.slice A440005_3 ((rd_T108 l0_4 x24_2).f3).length c440005_3)) (ds := []) (bt_ 19 0) (by kernel_rfl) rfl rfl ⟨(blk_cell BK440006.out 0).trans rfl, (blk_cell BK440006.out 1).trans rfl, (blk_cell BK440006.out 2).trans rfl, (blk_cell BK440006.out 3).trans rfl⟩ (fun hHeld => ?_); refine with_tabW impl_BooksOk.tab6 impl_BooksOk.bits6 (fun HT_ HW_ => ?_)
          generalize w49.drew = w50 at BK440001 BK440006 HB hHeld ⊢
          refine take_ (i := 0) (N := some 29) (v := ?_) (a' := ?_) (bt_ 19 1) rfl rfl (take_ofW HT_.out HW_.out (by kernel_rfl)) (fun _ _ _ h => h) (Or.inl ⟨by rfl, ?_⟩) hHeld ?_ ?_
          rotate_left
          ·rintro w' ⟨s0, s1, s2, s3⟩
           go_simp
           with_reducible rfl
          rotate_left
          ·simp only [Act.put, List.setIfInBounds_toArray, List.set_cons_zero, List.set_cons_succ, i64_w, i32_w]
           rfl
          refine one_ (i := 1) (N := some 30) (bt_ 19 3) rfl rfl (one_of HT_.out (by kernel_rfl)) (by decide) (fun K hK => ?_)
          refine goes_ Try.func78 (by kernel_rfl) rfl #[.agg #[.int .i64 ((rd_T108 l0_4 x24_2).f0), .int .i64 ((rd_T108 l0_4 x24_2).f1), .int .i64 ((rd_T108 l0_4 x24_2).f2), .slice A440005_3 ((rd_T108 l0_4 x24_2).f3).length c440005_3]] (by rfl) rfl rfl (by (try simp only [List.map_toArray, List.map_cons, List.map_nil]); first | done | rfl | (simp only [List.length_drop, List.length_take]; rfl)) ?_
          with_reducible refine (impl_saidOk.calls k2 ((rd_T108 l0_4 x24_2).f0) ((rd_T108 l0_4 x24_2).f1) ((rd_T108 l0_4 x24_2).f2) _ _ ((rd_T108 l0_4 x24_2).f3) false _ ?side1 ?side2 A21.out).mono ?_
          (case side1 => repeat (first | exact (Kd.C_below HR440005_3.out HB.out) | (with_reducible refine Kd.C_alloc ?_ _) | (with_reducible refine Kd.C_drewN ?_ _) | (with_reducible refine Kd.C_drew ?_)))
          (case side2 => exact HC440005_3.out)
          rintro e w51 ⟨rfl, hb⟩
          refine ⟨_, rfl, ?_⟩
          have n0_ := Aside0.mk (blk_below (g := gb440001) (o := .cells #[.int .i64 a0_0, .int .i64 a0_1, .slice A0_2 l0_2.length c0_2, .slice A0_3 l0_3.length c0_3, .slice (some ad440005) l0_4.length c0_4] 56 (0, 0)) (by (with_reducible repeat (first | refine blk_drewN ?_ _ | refine blk_drew ?_ | refine blk_alloc ?_ _)); exact BK440001.out) hb)
          have n1_ := Aside0.mk (blk_below (g := gb440006) (o := .cells #[.int .i64 ((rd_T108 l0_4 x24_2).f0), .int .i64 ((rd_T108 l0_4 x24_2).f1), .int .i64 ((rd_T108 l0_4 x24_2).f2), .slice A440005_3 ((rd_T108 l0_4 x24_2).f3).length c440005_3] 108 (0, 0)) (by (with_reducible repeat (first | refine blk_drewN ?_ _ | refine blk_drew ?_ | refine blk_alloc ?_ _)); exact BK440006.out) hb)
          have n2_ := Aside0.mk (below_step (by repeat (first | (with_reducible first | exact HB.out | apply below_alloc | apply pw_below_drewN | apply below_drew1 | refine below_set ?_ GE440001.out | refine below_set ?_ GE440006.out) | exact HB.out)) hb)
          clear BK440001
          clear BK440006
          clear HB
          have BK440001 := n0_
          have BK440006 := n1_
          have HB := n2_
          clear n0_ n1_ n2_
          (try clear hb)
          (try clear hb2)
          (try clear hk)
          (try clear hi)
          refine hK.out _ _ ⟨(blk_cell BK440006.out 0).trans rfl, (blk_cell BK440006.out 1).trans rfl, (blk_cell BK440006.out 2).trans rfl, (blk_cell BK440006.out 3).trans rfl⟩ (fun hHeld => ?_)
          clear hK K
          refine norm_ (a' := ?_) ?_ ?_
          rotate_left
          ·show Act.put _ (some 30) _ = _
           simp only [Act.put, List.setIfInBounds_toArray, List.set_cons_zero, List.set_cons_succ, i64_w, i32_w]
           rfl
          refine pu_ 2 (some 31) (bt_ 19 7) (any_of HT_.out (by kernel_rfl)) ?_
          refine pu_ 3 (some 32) (bt_ 19 15) (any_of HT_.out (by kernel_rfl)) ?_
          refine pn_ 4 (some 33) (bt_ 19 31) (any_of HT_.out (by kernel_rfl)) ?_
          refine pn_ 5 (some 34) (bt_ 19 63) (any_of HT_.out (by kernel_rfl)) ?_
          refine pn_ 6 (some 35) (bt_ 19 127) (any_of HT_.out (by kernel_rfl)) ?_
          refine pn_ 7 (some 36) (bt_ 19 255) (any_of HT_.out (by kernel_rfl)) ?_
          refine pn_ 8 (some 37) (bt_ 19 511) (any_of HT_.out (by kernel_rfl)) ?_
          refine pn_ 9 (some 38) (bt_ 19 1023) (any_of HT_.out (by kernel_rfl)) ?_
          refine pn_ 10 (some 39) (bt_ 19 2047) (any_of HT_.out (by kernel_rfl)) ?_
          refine pn_ 11 (some 40) (bt_ 19 4095) (any_of HT_.out (by kernel_rfl)) ?_
          refine pn_ 12 (some 41) (bt_ 19 8191) (any_of HT_.out (by kernel_rfl)) ?_
          refine pn_ 13 (some 42) (bt_ 19 16383) (any_of HT_.out (by kernel_rfl)) ?_
          refine pn_ 14 (some 43) (bt_ 19 32767) (any_of HT_.out (by kernel_rfl)) ?_
          refine pn_ 15 (some 44) (bt_ 19 65535) (any_of HT_.out (by kernel_rfl)) ?_
          refine pn_ 16 (some 45) (bt_ 19 131071) (any_of HT_.out (by kernel_rfl)) ?_
          refine pn_ 17 (some 46) (bt_ 19 262143) (any_of HT_.out (by kernel_rfl)) ?_
          refine pu_ 18 (some 47) (bt_ 19 524287) (any_of HT_.out (by kernel_rfl)) ?_
          refine done_ (done_of HT_.out (by kernel_rfl)) ?_
          try go_wp2
          go_ret
          exact ⟨by first | rfl | (simp [errW_none, errW_some] <;> rfl) | (simp [*, errW_none, errW_some] <;> rfl), by repeat (first | (with_reducible first | exact HB.out | apply below_alloc | apply pw_below_drewN | apply below_drew1 | refine below_set ?_ GE440001.out | refine below_set ?_ GE440006.out) | exact HB.out)⟩
        ·rw [if_neg c20] at H
         exact absurd H (by simp)
       ·rw [if_neg c19] at H
        exact absurd H (by simp)
      ·rw [if_neg c18] at H
       have c18b0 : decide (x24_2 < (l0_4.length : Int)) = false := decide_eq_false c18
       clear c18
       obtain rfl := Option.some.inj H
       go_wp2
       go_ret
       exact ⟨by first | rfl | (simp [errW_none, errW_some] <;> rfl) | (simp [*, errW_none, errW_some] <;> rfl), by repeat (first | (with_reducible first | exact HB.out | apply below_alloc | apply pw_below_drewN | apply below_drew1 | refine below_set ?_ GE440001.out) | exact HB.out)⟩

end Go.Proofs.Ytdjiclhjficgfaa.PB
