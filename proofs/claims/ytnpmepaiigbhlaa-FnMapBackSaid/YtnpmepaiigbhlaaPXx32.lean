-- Written by a program of this workplace (wip/xprint.py over the kit's print.py) out of the translation.
import Derived.Test.YtnpmepaiigbhlaaPXx0
import Derived.Test.YtnpmepaiigbhlaaPXx14
import Derived.Test.YtnpmepaiigbhlaaPXx15
import Derived.Test.YtnpmepaiigbhlaaPXx18
namespace Go.Proofs.Ytnpmepaiigbhlaa.PX
open Go.RowKit Go.Proofs.YtnpmepaiigbhlaaW.PrintWords Go.Proofs.YtnpmepaiigbhlaaW.PrintLast Go.Proofs.YtnpmepaiigbhlaaW.PrintMore
attribute [local go_sem] max2_int min2_int max_two min_two max_three min_three max_four min_four   -- for this text's walks alone
set_option linter.unusedVariables false
set_option linter.unusedSimpArgs false

/-! ### laws_FnMapBack: function 8 -/
def laws_FnMapBack.j0 : Nat → Int → Int → Int → Bool → Int → List Int → Int → List Int → Int → List Int → Option (Bool)
  | 0, _, _, _, _, _, _, _, _, _, _ => none
  | k + 1, x4, x7, x9, x47, x90008000, x90008001, x90014000, x90014001, x90020000, x90020001 => if x47 = true then (if x9 = x7 then ((laws_loMap.f k x90020000 x90020001 x90014000 x90014001).bind fun t90021 => (some t90021)) else (some false)) else (if 0 ≤ x4 then (if x4 < (x90008001.length : Int) then ((impl_MapMove.f k x90020000 x90020001 x4 (rd x90008001 x4)).bind fun bt90023 => (if bt90023.2.2 = 2 then (some true) else (if bt90023.2.2 = 0 then ((laws_loInts.f k bt90023.2.1 x90008001).bind fun t90029 => (if t90029 = true then (some (bt90023.1 == (wrap64 (x90008000 + 2)))) else (some false))) else (some false)))) else (none)) else (none))
def laws_FnMapBack.f (k : Nat) (l0 : List Int) : Option (Bool) := if (l0.length : Int) > 1048576 then (some true) else ((spec_DrawMapMove.f k l0).bind fun bt90001 => ((spec_MapMove.f k bt90001.1 bt90001.2.1 bt90001.2.2.1 bt90001.2.2.2).bind fun bt90008 => ((impl_MapMove.f k bt90001.1 bt90001.2.1 bt90001.2.2.1 bt90001.2.2.2).bind fun bt90014 => (if bt90014.2.2 = bt90008.2.2 then ((laws_loMap.f k bt90014.1 bt90014.2.1 bt90008.1 bt90008.2.1).bind fun t90020 => (if t90020 = true then (laws_FnMapBack.j0 k bt90001.2.2.1 bt90008.2.2 bt90014.2.2 (bt90014.2.2 != 0) bt90001.1 bt90001.2.1 bt90008.1 bt90008.2.1 bt90014.1 bt90014.2.1) else (laws_FnMapBack.j0 k bt90001.2.2.1 bt90008.2.2 bt90014.2.2 true bt90001.1 bt90001.2.1 bt90008.1 bt90008.2.1 bt90014.1 bt90014.2.1))) else (laws_FnMapBack.j0 k bt90001.2.2.1 bt90008.2.2 bt90014.2.2 true bt90001.1 bt90001.2.1 bt90008.1 bt90008.2.1 bt90014.1 bt90014.2.1)))))
theorem laws_FnMapBack.mono_l : ∀ k, (∀ y0 y1 y2 y3 y4 y5 y6 y7 y8 y9, LeO (laws_FnMapBack.j0 k y0 y1 y2 y3 y4 y5 y6 y7 y8 y9) (laws_FnMapBack.j0 (k + 1) y0 y1 y2 y3 y4 y5 y6 y7 y8 y9))
  | 0 => fun _ _ _ _ _ _ _ _ _ _ r h => by simp [laws_FnMapBack.j0] at h
  | k + 1 => by
    have ih0 := laws_FnMapBack.mono_l k
    · intro y0 y1 y2 y3 y4 y5 y6 y7 y8 y9
      unfold laws_FnMapBack.j0
      repeat' first
      | (with_reducible exact ih0 _ _ _ _ _ _ _ _ _ _)
      | (with_reducible exact impl_MapMove.mono _ _ _ _ _)
      | (with_reducible exact laws_loInts.mono _ _ _)
      | (with_reducible exact laws_loMap.mono _ _ _ _ _)
      | (with_reducible exact spec_DrawMapMove.mono _ _)
      | (with_reducible exact spec_MapMove.mono _ _ _ _ _)
      | (with_reducible exact LeO.refl _)
      | (with_reducible exact LeO.none _)
      | (with_reducible refine LeO.ite ?_ ?_)
      | (with_reducible refine LeO.bind ?_ (fun _ => ?_))
      | exact ih0 _ _ _ _ _ _ _ _ _ _
      | exact impl_MapMove.mono _ _ _ _ _
      | exact laws_loInts.mono _ _ _
      | exact laws_loMap.mono _ _ _ _ _
      | exact spec_DrawMapMove.mono _ _
      | exact spec_MapMove.mono _ _ _ _ _
      | exact LeO.none _
      | refine LeO.ite ?_ ?_
      | refine LeO.bind ?_ (fun _ => ?_)
theorem laws_FnMapBack.mono : ∀ a0 k, LeO (laws_FnMapBack.f k a0) (laws_FnMapBack.f (k + 1) a0) := by
  intro a0 k
  have ih0 := laws_FnMapBack.mono_l k
  unfold laws_FnMapBack.f
  repeat' first
      | (with_reducible exact ih0 _ _ _ _ _ _ _ _ _ _)
      | (with_reducible exact impl_MapMove.mono _ _ _ _ _)
      | (with_reducible exact laws_loInts.mono _ _ _)
      | (with_reducible exact laws_loMap.mono _ _ _ _ _)
      | (with_reducible exact spec_DrawMapMove.mono _ _)
      | (with_reducible exact spec_MapMove.mono _ _ _ _ _)
      | (with_reducible exact LeO.refl _)
      | (with_reducible exact LeO.none _)
      | (with_reducible refine LeO.ite ?_ ?_)
      | (with_reducible refine LeO.bind ?_ (fun _ => ?_))
      | exact ih0 _ _ _ _ _ _ _ _ _ _
      | exact impl_MapMove.mono _ _ _ _ _
      | exact laws_loInts.mono _ _ _
      | exact laws_loMap.mono _ _ _ _ _
      | exact spec_DrawMapMove.mono _ _
      | exact spec_MapMove.mono _ _ _ _ _
      | exact LeO.none _
      | refine LeO.ite ?_ ?_
      | refine LeO.bind ?_ (fun _ => ?_)
def laws_FnMapBack.T8 : Bool × List (List Nat × List Nat) := (true, [([], []), ([], []), ([], []), ([2], [2]), ([], []), ([3, 4], [3, 4]), ([5], [5]), ([0, 1, 6], [0, 1, 6]), ([7], [7]), ([8], [8]), ([8], [8]), ([], []), ([11, 9, 7, 0, 1, 2, 3, 4, 5, 6, 7, 8, 9, 11], [9, 11]), ([10, 12, 0, 1, 2, 3, 4, 5, 6, 7, 8, 9, 10, 11, 12], [10])])
def laws_FnMapBack.B8 : List Nat := [0, 0, 0, 4, 0, 28, 60, 127, 255, 511, 511, 0, 3071, 8191]
theorem laws_FnMapBack.tab8 : rtab .any (opsOf Try.f8 8) = laws_FnMapBack.T8 := by kernel_rfl
theorem laws_FnMapBack.bits8 : waitsOk laws_FnMapBack.T8.2 laws_FnMapBack.B8 = true := by kernel_rfl
set_option maxHeartbeats 8000000 in
set_option maxRecDepth 100000 in
theorem laws_FnMapBack.calls (k : Nat) (A0 : Option Addr) (c0 : Nat) (l0 : List Int) (r : Bool) (w : World) (hr0 : Kd.C (Kd.int .u8) w A0 l0.length l0) (hc0 : l0.length ≤ c0) (h : laws_FnMapBack.f k l0 = some r) :
    Calls Try.prog 8 #[.slice A0 l0.length c0] w fun e w' => e = .returned (.bool r) ∧ Below w.heap.size w w' := by
  have hu27 := Try.underlying27
  have HR0 := Aside0.mk hr0
  have HC0 := Aside0.mk hc0
  clear hr0 hc0
  have HB := Aside0.mk (Below.refl w.heap.size w)
  have H : (if (l0.length : Int) > 1048576 then (some true) else ((spec_DrawMapMove.f k l0).bind fun bt90001 => ((spec_MapMove.f k bt90001.1 bt90001.2.1 bt90001.2.2.1 bt90001.2.2.2).bind fun bt90008 => ((impl_MapMove.f k bt90001.1 bt90001.2.1 bt90001.2.2.1 bt90001.2.2.2).bind fun bt90014 => (if bt90014.2.2 = bt90008.2.2 then ((laws_loMap.f k bt90014.1 bt90014.2.1 bt90008.1 bt90008.2.1).bind fun t90020 => (if t90020 = true then (laws_FnMapBack.j0 k bt90001.2.2.1 bt90008.2.2 bt90014.2.2 (bt90014.2.2 != 0) bt90001.1 bt90001.2.1 bt90008.1 bt90008.2.1 bt90014.1 bt90014.2.1) else (laws_FnMapBack.j0 k bt90001.2.2.1 bt90008.2.2 bt90014.2.2 true bt90001.1 bt90001.2.1 bt90008.1 bt90008.2.1 bt90014.1 bt90014.2.1))) else (laws_FnMapBack.j0 k bt90001.2.2.1 bt90008.2.2 bt90014.2.2 true bt90001.1 bt90001.2.1 bt90008.1 bt90008.2.1 bt90014.1 bt90014.2.1)))))) = some r := h
  clear h
  by_cases c2 : (l0.length : Int) > 1048576
  · rw [if_pos c2] at H
    have c2b0 : decide (1048576 < (l0.length : Int)) = true := decide_eq_true c2
    have c2b1 : decide (1048576 < l0.length) = true := decide_eq_true (by omega)
    clear c2
    obtain rfl := Option.some.inj H
    go_enter Try.func8, Try.ntmps8
    go_wp2
    go_ret
    exact ⟨by first | rfl | (simp [errW_none, errW_some] <;> rfl) | (simp [*, errW_none, errW_some] <;> rfl), by repeat (first | (with_reducible first | exact HB.out | apply below_alloc | apply pw_below_drewN | apply below_drew1) | exact HB.out)⟩
  · rw [if_neg c2] at H
    have c2b0 : decide (1048576 < (l0.length : Int)) = false := decide_eq_false c2
    have c2b1 : decide (1048576 < l0.length) = false := decide_eq_false (by omega)
    clear c2
    replace H := Option.bind_eq_some_iff.mp H
    obtain ⟨⟨t90001, t90002, t90005, t90006⟩, A30, H⟩ := H
    replace H : ((spec_MapMove.f k t90001 t90002 t90005 t90006).bind fun bt90008 => ((impl_MapMove.f k t90001 t90002 t90005 t90006).bind fun bt90014 => (if bt90014.2.2 = bt90008.2.2 then ((laws_loMap.f k bt90014.1 bt90014.2.1 bt90008.1 bt90008.2.1).bind fun t90020 => (if t90020 = true then (laws_FnMapBack.j0 k t90005 bt90008.2.2 bt90014.2.2 (bt90014.2.2 != 0) t90001 t90002 bt90008.1 bt90008.2.1 bt90014.1 bt90014.2.1) else (laws_FnMapBack.j0 k t90005 bt90008.2.2 bt90014.2.2 true t90001 t90002 bt90008.1 bt90008.2.1 bt90014.1 bt90014.2.1))) else (laws_FnMapBack.j0 k t90005 bt90008.2.2 bt90014.2.2 true t90001 t90002 bt90008.1 bt90008.2.1 bt90014.1 bt90014.2.1)))) = some r := H
    have A3 := Aside0.mk A30
    clear A30
    replace H := Option.bind_eq_some_iff.mp H
    obtain ⟨⟨t90008, t90009, t90012⟩, A40, H⟩ := H
    replace H : ((impl_MapMove.f k t90001 t90002 t90005 t90006).bind fun bt90014 => (if bt90014.2.2 = t90012 then ((laws_loMap.f k bt90014.1 bt90014.2.1 t90008 t90009).bind fun t90020 => (if t90020 = true then (laws_FnMapBack.j0 k t90005 t90012 bt90014.2.2 (bt90014.2.2 != 0) t90001 t90002 t90008 t90009 bt90014.1 bt90014.2.1) else (laws_FnMapBack.j0 k t90005 t90012 bt90014.2.2 true t90001 t90002 t90008 t90009 bt90014.1 bt90014.2.1))) else (laws_FnMapBack.j0 k t90005 t90012 bt90014.2.2 true t90001 t90002 t90008 t90009 bt90014.1 bt90014.2.1))) = some r := H
    have A4 := Aside0.mk A40
    clear A40
    replace H := Option.bind_eq_some_iff.mp H
    obtain ⟨⟨t90014, t90015, t90018⟩, A50, H⟩ := H
    replace H : (if t90018 = t90012 then ((laws_loMap.f k t90014 t90015 t90008 t90009).bind fun t90020 => (if t90020 = true then (laws_FnMapBack.j0 k t90005 t90012 t90018 (t90018 != 0) t90001 t90002 t90008 t90009 t90014 t90015) else (laws_FnMapBack.j0 k t90005 t90012 t90018 true t90001 t90002 t90008 t90009 t90014 t90015))) else (laws_FnMapBack.j0 k t90005 t90012 t90018 true t90001 t90002 t90008 t90009 t90014 t90015)) = some r := H
    have A5 := Aside0.mk A50
    clear A50
    have HC6 := Aside0.mk H
    clear H
    go_enter Try.func8, Try.ntmps8
    go_upto_region 6 with (first | ((with_reducible refine gate_callee (f := 28) rfl ?_); refine goesL_ (some 17) rfl rfl Try.func28 (by kernel_rfl) rfl #[.slice A0 l0.length c0] rfl (by (try simp only [List.map_toArray, List.map_cons, List.map_nil]); first | done | rfl | (simp only [List.length_drop, List.length_take]; rfl)) ?_; (with_reducible refine (spec_DrawMapMove.calls k _ _ l0 t90001 t90002 t90005 t90006 _ ?side1 ?side2 A3.out).mono ?_); (case side1 => repeat (first | exact HR0.out | (with_reducible refine Kd.C_alloc ?_ _) | (with_reducible refine Kd.C_drewN ?_ _) | (with_reducible refine Kd.C_drew ?_))); (case side2 => exact HC0.out); rintro e w7 ⟨v90003, rfl, ho0, hb⟩; refine ⟨_, rfl, ?_⟩; have n0_ := Aside0.mk (Kd.Q_lower ho0 (below_size (by repeat (first | (with_reducible first | exact HB.out | apply below_alloc | apply pw_below_drewN | apply below_drew1) | exact HB.out)))); have n1_ := Aside0.mk (below_step (by repeat (first | (with_reducible first | exact HB.out | apply below_alloc | apply pw_below_drewN | apply below_drew1) | exact HB.out)) hb); clear HB; have HO90004 := n0_; have HB := n1_; clear n0_ n1_; (try clear hb); (try clear hb2); (try clear hk); (try clear hi); (try clear ho0)) | ((with_reducible refine gate_dst (N := 3) rfl ?_); refine box_event ?hg (N := 3) ?hd (cs := #[.int .i64 0, .slice none 0 0]) (t := 27) ?hr ?_; (case hd => rfl); (case hg => rfl); (case hr => first | (go_simp; done) | (go_simp; rfl)); intro gb90007 hg w8 hbox hb; have n0_ := Aside0.mk (Kd.Q_below (by (with_reducible repeat (first | apply Kd.Q_alloc | apply Kd.Q_drewN | apply Kd.Q_drew)); exact HO90004.out) hb); have n1_ := Aside0.mk (below_step (by repeat (first | (with_reducible first | exact HB.out | apply below_alloc | apply pw_below_drewN | apply below_drew1) | exact HB.out)) hb); have n2_ := Aside0.mk (hbox); have n3_ := Aside0.mk ((by rw [hg]; exact (below_size (by repeat (first | (with_reducible first | exact HB.out | apply below_alloc | apply pw_below_drewN | apply below_drew1) | exact HB.out))) : w.heap.size ≤ gb90007)); have n4_ := Aside0.mk ((by rw [hg]; exact (below_size (by repeat (first | (with_reducible first | exact HB.out | apply below_alloc | apply pw_below_drewN | apply below_drew1) | exact HB.out))) : w.heap.size ≤ gb90007)); clear HO90004; clear HB; have HO90004 := n0_; have HB := n1_; have BK90007 := n2_; have GW90007 := n3_; have GE90007 := n4_; clear n0_ n1_ n2_ n3_ n4_; clear hb hbox hg; have hcz9_0 : w8.cell? ⟨gb90007, 0, none⟩ = some (.int .i64 0) := (blk_cell BK90007.out 0).trans rfl; have hcz9_1 : w8.cell? ⟨gb90007, 1, none⟩ = some (.slice none 0 0) := (blk_cell BK90007.out 1).trans rfl; have hfz9_0 := blk_frozen BK90007.out 0; have hfz9_1 := blk_frozen BK90007.out 1; obtain ⟨Ao10, co10, eo10, _⟩ := Kd.Q_slice HO90004.out; subst eo10) | ((with_reducible refine gate_callee (f := 29) rfl ?_); refine goesL_ (some 25) rfl rfl Try.func29 (by kernel_rfl) rfl #[.agg #[.int .i64 t90001, .slice Ao10 t90002.length co10], .int .i64 t90005, .int .i64 t90006] rfl (by (try simp only [List.map_toArray, List.map_cons, List.map_nil]); first | done | rfl | (simp only [List.length_drop, List.length_take]; rfl)) ?_; (with_reducible refine (spec_MapMove.calls k t90001 _ _ t90002 t90005 t90006 t90008 t90009 t90012 _ ?side1 ?side2 A4.out).mono ?_); (case side1 => refine (Kd.Q_reads' (e := 3) (base := w.heap.size) (ok := fun k_ => True) (n := t90002.length) (c := co10) ?_).2.2; exact (by (with_reducible repeat (first | apply Kd.Q_alloc | apply Kd.Q_drewN | apply Kd.Q_drew)); exact (Kd.Q_mono (Kd.Q_far (p := ⟨gb90007, 1, none⟩) (Kd.Q_far (p := ⟨gb90007, 0, none⟩) (Kd.Q_types HO90004.out BK90007.out (by decide)) (fun _ hk => hk.2) (.int .i64 t90001)) (fun _ hk => hk.2) (.slice Ao10 t90002.length co10)) (fun _ h_ => h_.1)))); (case side2 => exact (Kd.Q_reads' HO90004.out).2.1); rintro e w11 ⟨v90010, rfl, ho0, hb⟩; refine ⟨_, rfl, ?_⟩; have n0_ := Aside0.mk (Kd.Q_elder' (by (with_reducible repeat (first | apply Kd.Q_alloc | apply Kd.Q_drewN | apply Kd.Q_drew)); exact (Kd.Q_mono (Kd.Q_far (p := ⟨gb90007, 1, none⟩) (Kd.Q_far (p := ⟨gb90007, 0, none⟩) (Kd.Q_types HO90004.out BK90007.out (by decide)) (fun _ hk => hk.2) (.int .i64 t90001)) (fun _ hk => hk.2) (.slice Ao10 t90002.length co10)) (fun _ h_ => h_.1))) (Kd.R_base ho0) hb); have n1_ := Aside0.mk (Kd.R_lower (Kd.R_new' ho0 (Kd.Q_lt (by (with_reducible repeat (first | apply Kd.Q_alloc | apply Kd.Q_drewN | apply Kd.Q_drew)); exact (Kd.Q_mono (Kd.Q_far (p := ⟨gb90007, 1, none⟩) (Kd.Q_far (p := ⟨gb90007, 0, none⟩) (Kd.Q_types HO90004.out BK90007.out (by decide)) (fun _ hk => hk.2) (.int .i64 t90001)) (fun _ hk => hk.2) (.slice Ao10 t90002.length co10)) (fun _ h_ => h_.1))))) (below_size (by repeat (first | (with_reducible first | exact HB.out | apply below_alloc | apply pw_below_drewN | apply below_drew1 | refine below_set ?_ GE90007.out) | exact HB.out)))); have n2_ := Aside0.mk (blk_below (g := gb90007) (o := .cells #[.int .i64 t90001, .slice Ao10 t90002.length co10] 27 (0, 0)) (by (with_reducible repeat (first | refine blk_drewN ?_ _ | refine blk_drew ?_ | refine blk_alloc ?_ _)); refine blk_put (cs := #[.int .i64 t90001, .slice none 0 0]) ?_ 1 _ rfl; (with_reducible repeat (first | refine blk_drewN ?_ _ | refine blk_drew ?_ | refine blk_alloc ?_ _)); refine blk_put (cs := #[.int .i64 0, .slice none 0 0]) ?_ 0 _ rfl; (with_reducible repeat (first | refine blk_drewN ?_ _ | refine blk_drew ?_ | refine blk_alloc ?_ _)); exact BK90007.out) hb); have n3_ := Aside0.mk (below_step (by repeat (first | (with_reducible first | exact HB.out | apply below_alloc | apply pw_below_drewN | apply below_drew1 | refine below_set ?_ GE90007.out) | exact HB.out)) hb); clear HO90004; clear BK90007; clear HB; have HO90004 := n0_; have HO90011 := n1_; have BK90007 := n2_; have HB := n3_; clear n0_ n1_ n2_ n3_; (try clear hb); (try clear hb2); (try clear hk); (try clear hi); (try clear ho0)) | ((with_reducible refine gate_dst (N := 6) rfl ?_); refine box_event ?hg (N := 6) ?hd (cs := #[.int .i64 0, .slice none 0 0]) (t := 27) ?hr ?_; (case hd => rfl); (case hg => rfl); (case hr => first | (go_simp; done) | (go_simp; rfl)); intro gb90013 hg w12 hbox hb; have n0_ := Aside0.mk (Kd.Q_below (by (with_reducible repeat (first | apply Kd.Q_alloc | apply Kd.Q_drewN | apply Kd.Q_drew)); exact HO90004.out) hb); have n1_ := Aside0.mk (Kd.R_below (by (with_reducible repeat (first | apply Kd.R_alloc | apply Kd.R_drewN | apply Kd.R_drew)); exact HO90011.out) hb); have n2_ := Aside0.mk (blk_below (g := gb90007) (o := .cells #[.int .i64 t90001, .slice Ao10 t90002.length co10] 27 (0, 0)) (by (with_reducible repeat (first | refine blk_drewN ?_ _ | refine blk_drew ?_ | refine blk_alloc ?_ _)); exact BK90007.out) hb); have n3_ := Aside0.mk (below_step (by repeat (first | (with_reducible first | exact HB.out | apply below_alloc | apply pw_below_drewN | apply below_drew1 | refine below_set ?_ GE90007.out) | exact HB.out)) hb); have n4_ := Aside0.mk (hbox); have n5_ := Aside0.mk ((by rw [hg]; exact (below_size (by repeat (first | (with_reducible first | exact HB.out | apply below_alloc | apply pw_below_drewN | apply below_drew1 | refine below_set ?_ GE90007.out) | exact HB.out))) : w.heap.size ≤ gb90013)); have n6_ := Aside0.mk ((by rw [hg]; exact (below_size (by repeat (first | (with_reducible first | exact HB.out | apply below_alloc | apply pw_below_drewN | apply below_drew1 | refine below_set ?_ GE90007.out) | exact HB.out))) : w.heap.size ≤ gb90013)); have n7_ := Aside0.mk ((by rw [hg]; exact Nat.ne_of_lt (blk_lt (g := gb90007) (o := .cells #[.int .i64 t90001, .slice Ao10 t90002.length co10] 27 (0, 0)) (by (with_reducible repeat (first | refine blk_drewN ?_ _ | refine blk_drew ?_ | refine blk_alloc ?_ _)); exact BK90007.out)) : gb90007 ≠ gb90013)); have n8_ := Aside0.mk ((by rw [hg]; exact Nat.ne_of_gt (blk_lt (g := gb90007) (o := .cells #[.int .i64 t90001, .slice Ao10 t90002.length co10] 27 (0, 0)) (by (with_reducible repeat (first | refine blk_drewN ?_ _ | refine blk_drew ?_ | refine blk_alloc ?_ _)); exact BK90007.out)) : gb90013 ≠ gb90007)); clear HO90004; clear HO90011; clear BK90007; clear HB; have HO90004 := n0_; have HO90011 := n1_; have BK90007 := n2_; have HB := n3_; have BK90013 := n4_; have GW90013 := n5_; have GE90013 := n6_; have NB90007_90013 := n7_; have NB90013_90007 := n8_; clear n0_ n1_ n2_ n3_ n4_ n5_ n6_ n7_ n8_; clear hb hbox hg; have hnb13 := NB90013_90007.out; have hnc13 := NB90007_90013.out; have hcz14_0 : w12.cell? ⟨gb90013, 0, none⟩ = some (.int .i64 0) := (blk_cell BK90013.out 0).trans rfl; have hcz14_1 : w12.cell? ⟨gb90013, 1, none⟩ = some (.slice none 0 0) := (blk_cell BK90013.out 1).trans rfl; have hfz14_0 := blk_frozen BK90013.out 0; have hfz14_1 := blk_frozen BK90013.out 1; obtain ⟨Ao15, co15, eo15⟩ := Kd.R_slice HO90011.out; subst eo15; have hcz16_0 : w12.cell? ⟨gb90007, 0, none⟩ = some (.int .i64 t90001) := (blk_cell BK90007.out 0).trans rfl; have hcz16_1 : w12.cell? ⟨gb90007, 1, none⟩ = some (.slice Ao10 t90002.length co10) := (blk_cell BK90007.out 1).trans rfl; have hfz16_0 := blk_frozen BK90007.out 0; have hfz16_1 := blk_frozen BK90007.out 1) | ((with_reducible refine gate_callee (f := 30) rfl ?_); refine goesL_ (some 32) rfl rfl Try.func30 (by kernel_rfl) rfl #[.agg #[.int .i64 t90001, .slice Ao10 t90002.length co10], .int .i64 t90005, .int .i64 t90006] rfl (by (try simp only [List.map_toArray, List.map_cons, List.map_nil]); first | done | rfl | (simp only [List.length_drop, List.length_take]; rfl)) ?_; (with_reducible refine (impl_MapMove.calls k t90001 _ _ t90002 t90005 t90006 t90014 t90015 t90018 _ ?side1 ?side2 A5.out).mono ?_); (case side1 => refine (Kd.Q_reads' (e := 3) (base := w.heap.size) (ok := fun k_ => (True ∧ some k_ ≠ (.slice Ao15 t90009.length co15 : Value).ownBlock)) (n := t90002.length) (c := co10) ?_).2.2; exact (by (with_reducible repeat (first | apply Kd.Q_alloc | apply Kd.Q_drewN | apply Kd.Q_drew)); exact (Kd.Q_mono (Kd.Q_far (p := ⟨gb90013, 1, none⟩) (Kd.Q_far (p := ⟨gb90013, 0, none⟩) (Kd.Q_types HO90004.out BK90013.out (by decide)) (fun _ hk => hk.2) (.int .i64 t90008)) (fun _ hk => hk.2) (.slice Ao15 t90009.length co15)) (fun _ h_ => h_.1)))); (case side2 => exact (Kd.Q_reads' HO90004.out).2.1); rintro e w17 ⟨v90016, rfl, ho0, hb⟩; refine ⟨_, rfl, ?_⟩; have n0_ := Aside0.mk (Kd.Q_elder' (by (with_reducible repeat (first | apply Kd.Q_alloc | apply Kd.Q_drewN | apply Kd.Q_drew)); exact (Kd.Q_mono (Kd.Q_far (p := ⟨gb90013, 1, none⟩) (Kd.Q_far (p := ⟨gb90013, 0, none⟩) (Kd.Q_types HO90004.out BK90013.out (by decide)) (fun _ hk => hk.2) (.int .i64 t90008)) (fun _ hk => hk.2) (.slice Ao15 t90009.length co15)) (fun _ h_ => h_.1))) (Kd.R_base ho0) hb); have n1_ := Aside0.mk (Kd.R_elder' (by (with_reducible repeat (first | apply Kd.R_alloc | apply Kd.R_drewN | apply Kd.R_drew)); exact (Kd.R_mono (Kd.R_far (p := ⟨gb90013, 1, none⟩) (Kd.R_far (p := ⟨gb90013, 0, none⟩) (Kd.R_types HO90011.out BK90013.out (by decide)) (fun _ hk => hk.2) (.int .i64 t90008)) (fun _ hk => hk.2) (.slice Ao15 t90009.length co15)) (fun _ h_ => h_.1))) (Kd.R_base ho0) hb); have n2_ := Aside0.mk (Kd.R_lower (Kd.R_new' (Kd.R_new' ho0 (Kd.Q_lt (by (with_reducible repeat (first | apply Kd.Q_alloc | apply Kd.Q_drewN | apply Kd.Q_drew)); exact (Kd.Q_mono (Kd.Q_far (p := ⟨gb90013, 1, none⟩) (Kd.Q_far (p := ⟨gb90013, 0, none⟩) (Kd.Q_types HO90004.out BK90013.out (by decide)) (fun _ hk => hk.2) (.int .i64 t90008)) (fun _ hk => hk.2) (.slice Ao15 t90009.length co15)) (fun _ h_ => h_.1))))) (Kd.R_lt (by (with_reducible repeat (first | apply Kd.R_alloc | apply Kd.R_drewN | apply Kd.R_drew)); exact (Kd.R_mono (Kd.R_far (p := ⟨gb90013, 1, none⟩) (Kd.R_far (p := ⟨gb90013, 0, none⟩) (Kd.R_types HO90011.out BK90013.out (by decide)) (fun _ hk => hk.2) (.int .i64 t90008)) (fun _ hk => hk.2) (.slice Ao15 t90009.length co15)) (fun _ h_ => h_.1))))) (below_size (by repeat (first | (with_reducible first | exact HB.out | apply below_alloc | apply pw_below_drewN | apply below_drew1 | refine below_set ?_ GE90007.out | refine below_set ?_ GE90013.out) | exact HB.out)))); have n3_ := Aside0.mk (blk_below (g := gb90007) (o := .cells #[.int .i64 t90001, .slice Ao10 t90002.length co10] 27 (0, 0)) (by (with_reducible repeat (first | refine blk_drewN ?_ _ | refine blk_drew ?_ | refine blk_alloc ?_ _)); refine blk_far ?_ NB90007_90013.out _; (with_reducible repeat (first | refine blk_drewN ?_ _ | refine blk_drew ?_ | refine blk_alloc ?_ _)); refine blk_far ?_ NB90007_90013.out _; (with_reducible repeat (first | refine blk_drewN ?_ _ | refine blk_drew ?_ | refine blk_alloc ?_ _)); exact BK90007.out) hb); have n4_ := Aside0.mk (blk_below (g := gb90013) (o := .cells #[.int .i64 t90008, .slice Ao15 t90009.length co15] 27 (0, 0)) (by (with_reducible repeat (first | refine blk_drewN ?_ _ | refine blk_drew ?_ | refine blk_alloc ?_ _)); refine blk_put (cs := #[.int .i64 t90008, .slice none 0 0]) ?_ 1 _ rfl; (with_reducible repeat (first | refine blk_drewN ?_ _ | refine blk_drew ?_ | refine blk_alloc ?_ _)); refine blk_put (cs := #[.int .i64 0, .slice none 0 0]) ?_ 0 _ rfl; (with_reducible repeat (first | refine blk_drewN ?_ _ | refine blk_drew ?_ | refine blk_alloc ?_ _)); exact BK90013.out) hb); have n5_ := Aside0.mk (below_step (by repeat (first | (with_reducible first | exact HB.out | apply below_alloc | apply pw_below_drewN | apply below_drew1 | refine below_set ?_ GE90007.out | refine below_set ?_ GE90013.out) | exact HB.out)) hb); clear HO90004; clear HO90011; clear BK90007; clear BK90013; clear HB; have HO90004 := n0_; have HO90011 := n1_; have HO90017 := n2_; have BK90007 := n3_; have BK90013 := n4_; have HB := n5_; clear n0_ n1_ n2_ n3_ n4_ n5_; (try clear hb); (try clear hb2); (try clear hk); (try clear hi); (try clear ho0)) | ((with_reducible refine gate_dst (N := 8) rfl ?_); refine box_event ?hg (N := 8) ?hd (cs := #[.int .i64 0, .slice none 0 0]) (t := 27) ?hr ?_; (case hd => rfl); (case hg => rfl); (case hr => first | (go_simp; done) | (go_simp; rfl)); intro gb90019 hg w18 hbox hb; have n0_ := Aside0.mk (Kd.Q_below (by (with_reducible repeat (first | apply Kd.Q_alloc | apply Kd.Q_drewN | apply Kd.Q_drew)); exact HO90004.out) hb); have n1_ := Aside0.mk (Kd.R_below (by (with_reducible repeat (first | apply Kd.R_alloc | apply Kd.R_drewN | apply Kd.R_drew)); exact HO90011.out) hb); have n2_ := Aside0.mk (Kd.R_below (by (with_reducible repeat (first | apply Kd.R_alloc | apply Kd.R_drewN | apply Kd.R_drew)); exact HO90017.out) hb); have n3_ := Aside0.mk (blk_below (g := gb90007) (o := .cells #[.int .i64 t90001, .slice Ao10 t90002.length co10] 27 (0, 0)) (by (with_reducible repeat (first | refine blk_drewN ?_ _ | refine blk_drew ?_ | refine blk_alloc ?_ _)); exact BK90007.out) hb); have n4_ := Aside0.mk (blk_below (g := gb90013) (o := .cells #[.int .i64 t90008, .slice Ao15 t90009.length co15] 27 (0, 0)) (by (with_reducible repeat (first | refine blk_drewN ?_ _ | refine blk_drew ?_ | refine blk_alloc ?_ _)); exact BK90013.out) hb); have n5_ := Aside0.mk (below_step (by repeat (first | (with_reducible first | exact HB.out | apply below_alloc | apply pw_below_drewN | apply below_drew1 | refine below_set ?_ GE90007.out | refine below_set ?_ GE90013.out) | exact HB.out)) hb); have n6_ := Aside0.mk (hbox); have n7_ := Aside0.mk ((by rw [hg]; exact (below_size (by repeat (first | (with_reducible first | exact HB.out | apply below_alloc | apply pw_below_drewN | apply below_drew1 | refine below_set ?_ GE90007.out | refine below_set ?_ GE90013.out) | exact HB.out))) : w.heap.size ≤ gb90019)); have n8_ := Aside0.mk ((by rw [hg]; exact (below_size (by repeat (first | (with_reducible first | exact HB.out | apply below_alloc | apply pw_below_drewN | apply below_drew1 | refine below_set ?_ GE90007.out | refine below_set ?_ GE90013.out) | exact HB.out))) : w.heap.size ≤ gb90019)); have n9_ := Aside0.mk ((by rw [hg]; exact Nat.ne_of_lt (blk_lt (g := gb90007) (o := .cells #[.int .i64 t90001, .slice Ao10 t90002.length co10] 27 (0, 0)) (by (with_reducible repeat (first | refine blk_drewN ?_ _ | refine blk_drew ?_ | refine blk_alloc ?_ _)); exact BK90007.out)) : gb90007 ≠ gb90019)); have n10_ := Aside0.mk ((by rw [hg]; exact Nat.ne_of_gt (blk_lt (g := gb90007) (o := .cells #[.int .i64 t90001, .slice Ao10 t90002.length co10] 27 (0, 0)) (by (with_reducible repeat (first | refine blk_drewN ?_ _ | refine blk_drew ?_ | refine blk_alloc ?_ _)); exact BK90007.out)) : gb90019 ≠ gb90007)); have n11_ := Aside0.mk ((by rw [hg]; exact Nat.ne_of_lt (blk_lt (g := gb90013) (o := .cells #[.int .i64 t90008, .slice Ao15 t90009.length co15] 27 (0, 0)) (by (with_reducible repeat (first | refine blk_drewN ?_ _ | refine blk_drew ?_ | refine blk_alloc ?_ _)); exact BK90013.out)) : gb90013 ≠ gb90019)); have n12_ := Aside0.mk ((by rw [hg]; exact Nat.ne_of_gt (blk_lt (g := gb90013) (o := .cells #[.int .i64 t90008, .slice Ao15 t90009.length co15] 27 (0, 0)) (by (with_reducible repeat (first | refine blk_drewN ?_ _ | refine blk_drew ?_ | refine blk_alloc ?_ _)); exact BK90013.out)) : gb90019 ≠ gb90013)); clear HO90004; clear HO90011; clear HO90017; clear BK90007; clear BK90013; clear HB; have HO90004 := n0_; have HO90011 := n1_; have HO90017 := n2_; have BK90007 := n3_; have BK90013 := n4_; have HB := n5_; have BK90019 := n6_; have GW90019 := n7_; have GE90019 := n8_; have NB90007_90019 := n9_; have NB90019_90007 := n10_; have NB90013_90019 := n11_; have NB90019_90013 := n12_; clear n0_ n1_ n2_ n3_ n4_ n5_ n6_ n7_ n8_ n9_ n10_ n11_ n12_; clear hb hbox hg; have hnb19 := NB90019_90007.out; have hnc19 := NB90007_90019.out; have hnb20 := NB90019_90013.out; have hnc20 := NB90013_90019.out; have hcz21_0 : w18.cell? ⟨gb90019, 0, none⟩ = some (.int .i64 0) := (blk_cell BK90019.out 0).trans rfl; have hcz21_1 : w18.cell? ⟨gb90019, 1, none⟩ = some (.slice none 0 0) := (blk_cell BK90019.out 1).trans rfl; have hfz21_0 := blk_frozen BK90019.out 0; have hfz21_1 := blk_frozen BK90019.out 1; obtain ⟨Ao22, co22, eo22⟩ := Kd.R_slice HO90017.out; subst eo22))
    (try simp only [Act.put, List.setIfInBounds_toArray, List.set_cons_zero, List.set_cons_succ])
    go_cut [47] (fun v47 wc => ∃ (kq : Nat) (x47_5 : Bool), v47 = .bool x47_5 ∧ Aside0 (laws_FnMapBack.j0 kq t90005 t90012 t90018 x47_5 t90001 t90002 t90008 t90009 t90014 t90015 = some r) ∧ Aside0 (kq ≤ k) ∧ Aside0 (Kd.Q (Kd.int .i64) 3 wc w.heap.size (fun k_ => some k_ ≠ ((.slice Ao15 t90009.length co15) : Value).ownBlock ∧ some k_ ≠ ((.slice Ao22 t90015.length co22) : Value).ownBlock) (.slice Ao10 t90002.length co10) t90002) ∧ Aside0 (Kd.Q (Kd.int .i64) 3 wc w.heap.size (fun k_ => some k_ ≠ ((.slice Ao10 t90002.length co10) : Value).ownBlock ∧ some k_ ≠ ((.slice Ao22 t90015.length co22) : Value).ownBlock) (.slice Ao15 t90009.length co15) t90009) ∧ Aside0 (Kd.Q (Kd.int .i64) 3 wc w.heap.size (fun k_ => some k_ ≠ ((.slice Ao10 t90002.length co10) : Value).ownBlock ∧ some k_ ≠ ((.slice Ao15 t90009.length co15) : Value).ownBlock) (.slice Ao22 t90015.length co22) t90015) ∧ Aside0 (wc.heap[gb90007]? = some (.cells #[.int .i64 t90001, (.slice Ao10 t90002.length co10)] 27 (0, 0))) ∧ Aside0 (wc.heap[gb90013]? = some (.cells #[.int .i64 t90008, (.slice Ao15 t90009.length co15)] 27 (0, 0))) ∧ Aside0 (wc.heap[gb90019]? = some (.cells #[.int .i64 t90014, (.slice Ao22 t90015.length co22)] 27 (0, 0))) ∧ Aside0 (Below w.heap.size w wc))
    case first =>
      have H := HC6.out
      clear HC6
      by_cases c23 : t90018 = t90012
      · rw [if_pos c23] at H
        have c23b0 : (t90018 == t90012) = true := beq_iff_eq.mpr c23
        have c23b1 : (t90018 != t90012) = false := bne_eq_false_iff_eq.mpr c23
        clear c23
        (first | rw [c23b0] | (simp only [i64_w, i32_w]; rw [c23b0]) | skip)
        replace H := Option.bind_eq_some_iff.mp H
        obtain ⟨t90020, A240, H⟩ := H
        replace H : (if t90020 = true then (laws_FnMapBack.j0 k t90005 t90012 t90018 (t90018 != 0) t90001 t90002 t90008 t90009 t90014 t90015) else (laws_FnMapBack.j0 k t90005 t90012 t90018 true t90001 t90002 t90008 t90009 t90014 t90015)) = some r := H
        have A24 := Aside0.mk A240
        clear A240
        by_cases c25 : t90020 = true
        · subst c25
          have H1 : (laws_FnMapBack.j0 k t90005 t90012 t90018 (t90018 != 0) t90001 t90002 t90008 t90009 t90014 t90015) = some r := by rw [if_pos rfl] at H; exact H
          clear H
          have H := H1
          clear H1
          have H' := Aside0.mk H
          clear H
          have hnb26 := NB90019_90007.out
          have hnc26 := NB90007_90019.out
          have hnb27 := NB90019_90013.out
          have hnc27 := NB90013_90019.out
          have hcz28_0 : w18.cell? ⟨gb90019, 0, none⟩ = some (.int .i64 0) := (blk_cell BK90019.out 0).trans rfl
          have hcz28_1 : w18.cell? ⟨gb90019, 1, none⟩ = some (.slice none 0 0) := (blk_cell BK90019.out 1).trans rfl
          have hfz28_0 := blk_frozen BK90019.out 0
          have hfz28_1 := blk_frozen BK90019.out 1
          have hnb29 := NB90013_90007.out
          have hnc29 := NB90007_90013.out
          have hcz30_0 : w18.cell? ⟨gb90013, 0, none⟩ = some (.int .i64 t90008) := (blk_cell BK90013.out 0).trans rfl
          have hcz30_1 : w18.cell? ⟨gb90013, 1, none⟩ = some (.slice Ao15 t90009.length co15) := (blk_cell BK90013.out 1).trans rfl
          have hfz30_0 := blk_frozen BK90013.out 0
          have hfz30_1 := blk_frozen BK90013.out 1
          go_wp2_with (first | (go_at_call 31; (with_reducible refine (laws_loMap.calls k t90014 _ _ t90015 t90008 _ _ t90009 true _ ?side1 ?side2 ?side3 ?side4 A24.out).mono ?_); (case side1 => refine (Kd.R_reads' (e := 3) (base := w.heap.size) (ok := fun k_ => ((True ∧ some k_ ≠ (.slice Ao10 t90002.length co10 : Value).ownBlock) ∧ some k_ ≠ (.slice Ao15 t90009.length co15 : Value).ownBlock)) (n := t90015.length) (c := co22) ?_).2.2; exact (by (with_reducible repeat (first | apply Kd.R_alloc | apply Kd.R_drewN | apply Kd.R_drew)); exact (Kd.R_mono (Kd.R_far (p := ⟨gb90019, 1, none⟩) (Kd.R_far (p := ⟨gb90019, 0, none⟩) (Kd.R_types HO90017.out BK90019.out (by decide)) (fun _ hk => hk.2) (.int .i64 t90014)) (fun _ hk => hk.2) (.slice Ao22 t90015.length co22)) (fun _ h_ => h_.1)))); (case side2 => exact (Kd.R_reads' HO90017.out).2.1); (case side3 => refine (Kd.R_reads' (e := 3) (base := w.heap.size) (ok := fun k_ => ((True ∧ some k_ ≠ (.slice Ao10 t90002.length co10 : Value).ownBlock) ∧ some k_ ≠ (.slice Ao22 t90015.length co22 : Value).ownBlock)) (n := t90009.length) (c := co15) ?_).2.2; exact (by (with_reducible repeat (first | apply Kd.R_alloc | apply Kd.R_drewN | apply Kd.R_drew)); exact (Kd.R_mono (Kd.R_far (p := ⟨gb90019, 1, none⟩) (Kd.R_far (p := ⟨gb90019, 0, none⟩) (Kd.R_types HO90011.out BK90019.out (by decide)) (fun _ hk => hk.2) (.int .i64 t90014)) (fun _ hk => hk.2) (.slice Ao22 t90015.length co22)) (fun _ h_ => h_.1)))); (case side4 => exact (Kd.R_reads' HO90011.out).2.1); rintro e w31 ⟨rfl, hb⟩; have n0_ := Aside0.mk (Kd.Q_below (by (with_reducible repeat (first | apply Kd.Q_alloc | apply Kd.Q_drewN | apply Kd.Q_drew)); exact (Kd.Q_mono (Kd.Q_far (p := ⟨gb90019, 1, none⟩) (Kd.Q_far (p := ⟨gb90019, 0, none⟩) (Kd.Q_types HO90004.out BK90019.out (by decide)) (fun _ hk => hk.2) (.int .i64 t90014)) (fun _ hk => hk.2) (.slice Ao22 t90015.length co22)) (fun _ h_ => h_.1))) hb); have n1_ := Aside0.mk (Kd.R_below (by (with_reducible repeat (first | apply Kd.R_alloc | apply Kd.R_drewN | apply Kd.R_drew)); exact (Kd.R_mono (Kd.R_far (p := ⟨gb90019, 1, none⟩) (Kd.R_far (p := ⟨gb90019, 0, none⟩) (Kd.R_types HO90011.out BK90019.out (by decide)) (fun _ hk => hk.2) (.int .i64 t90014)) (fun _ hk => hk.2) (.slice Ao22 t90015.length co22)) (fun _ h_ => h_.1))) hb); have n2_ := Aside0.mk (Kd.R_below (by (with_reducible repeat (first | apply Kd.R_alloc | apply Kd.R_drewN | apply Kd.R_drew)); exact (Kd.R_mono (Kd.R_far (p := ⟨gb90019, 1, none⟩) (Kd.R_far (p := ⟨gb90019, 0, none⟩) (Kd.R_types HO90017.out BK90019.out (by decide)) (fun _ hk => hk.2) (.int .i64 t90014)) (fun _ hk => hk.2) (.slice Ao22 t90015.length co22)) (fun _ h_ => h_.1))) hb); have n3_ := Aside0.mk (blk_below (g := gb90007) (o := .cells #[.int .i64 t90001, .slice Ao10 t90002.length co10] 27 (0, 0)) (by (with_reducible repeat (first | refine blk_drewN ?_ _ | refine blk_drew ?_ | refine blk_alloc ?_ _)); refine blk_far ?_ NB90007_90019.out _; (with_reducible repeat (first | refine blk_drewN ?_ _ | refine blk_drew ?_ | refine blk_alloc ?_ _)); refine blk_far ?_ NB90007_90019.out _; (with_reducible repeat (first | refine blk_drewN ?_ _ | refine blk_drew ?_ | refine blk_alloc ?_ _)); exact BK90007.out) hb); have n4_ := Aside0.mk (blk_below (g := gb90013) (o := .cells #[.int .i64 t90008, .slice Ao15 t90009.length co15] 27 (0, 0)) (by (with_reducible repeat (first | refine blk_drewN ?_ _ | refine blk_drew ?_ | refine blk_alloc ?_ _)); refine blk_far ?_ NB90013_90019.out _; (with_reducible repeat (first | refine blk_drewN ?_ _ | refine blk_drew ?_ | refine blk_alloc ?_ _)); refine blk_far ?_ NB90013_90019.out _; (with_reducible repeat (first | refine blk_drewN ?_ _ | refine blk_drew ?_ | refine blk_alloc ?_ _)); exact BK90013.out) hb); have n5_ := Aside0.mk (blk_below (g := gb90019) (o := .cells #[.int .i64 t90014, .slice Ao22 t90015.length co22] 27 (0, 0)) (by (with_reducible repeat (first | refine blk_drewN ?_ _ | refine blk_drew ?_ | refine blk_alloc ?_ _)); refine blk_put (cs := #[.int .i64 t90014, .slice none 0 0]) ?_ 1 _ rfl; (with_reducible repeat (first | refine blk_drewN ?_ _ | refine blk_drew ?_ | refine blk_alloc ?_ _)); refine blk_put (cs := #[.int .i64 0, .slice none 0 0]) ?_ 0 _ rfl; (with_reducible repeat (first | refine blk_drewN ?_ _ | refine blk_drew ?_ | refine blk_alloc ?_ _)); exact BK90019.out) hb); have n6_ := Aside0.mk (below_step (by repeat (first | (with_reducible first | exact HB.out | apply below_alloc | apply pw_below_drewN | apply below_drew1 | refine below_set ?_ GE90007.out | refine below_set ?_ GE90013.out | refine below_set ?_ GE90019.out) | exact HB.out)) hb); clear HO90004; clear HO90011; clear HO90017; clear BK90007; clear BK90013; clear BK90019; clear HB; have HO90004 := n0_; have HO90011 := n1_; have HO90017 := n2_; have BK90007 := n3_; have BK90013 := n4_; have BK90019 := n5_; have HB := n6_; clear n0_ n1_ n2_ n3_ n4_ n5_ n6_; (try clear hb); (try clear hb2); (try clear hk); (try clear hi)))
          go_meet
          case rel => exact ⟨_, ((t90018 != 0)), (by first | rfl | (simp; done) | (simp [*]; done)), H', ⟨by first | omega | exact Nat.le_refl _⟩, ⟨by (with_reducible repeat (first | apply Kd.Q_alloc | apply Kd.Q_drewN | apply Kd.Q_drew)); exact Kd.Q_mono HO90004.out (fun _ hk => ⟨hk.1.2, hk.2⟩)⟩, ⟨Kd.Q_of_R (by (with_reducible repeat (first | apply Kd.R_alloc | apply Kd.R_drewN | apply Kd.R_drew)); exact Kd.R_mono HO90011.out (fun _ hk => ⟨hk.1.2, hk.2⟩))⟩, ⟨Kd.Q_of_R (by (with_reducible repeat (first | apply Kd.R_alloc | apply Kd.R_drewN | apply Kd.R_drew)); exact Kd.R_mono HO90017.out (fun _ hk => ⟨hk.1.2, hk.2⟩))⟩, ⟨by (with_reducible repeat (first | refine blk_drewN ?_ _ | refine blk_drew ?_ | refine blk_alloc ?_ _)); exact BK90007.out⟩, ⟨by (with_reducible repeat (first | refine blk_drewN ?_ _ | refine blk_drew ?_ | refine blk_alloc ?_ _)); exact BK90013.out⟩, ⟨by (with_reducible repeat (first | refine blk_drewN ?_ _ | refine blk_drew ?_ | refine blk_alloc ?_ _)); exact BK90019.out⟩, ⟨by repeat (first | (with_reducible first | exact HB.out | apply below_alloc | apply pw_below_drewN | apply below_drew1 | refine below_set ?_ GE90007.out | refine below_set ?_ GE90013.out | refine below_set ?_ GE90019.out) | exact HB.out)⟩⟩
        · replace c25 := Bool.eq_false_iff.mpr c25
          subst c25
          have H1 : (laws_FnMapBack.j0 k t90005 t90012 t90018 true t90001 t90002 t90008 t90009 t90014 t90015) = some r := by rw [if_neg (show ¬ (false = true) by decide)] at H; exact H
          clear H
          have H := H1
          clear H1
          have H' := Aside0.mk H
          clear H
          have hnb32 := NB90019_90007.out
          have hnc32 := NB90007_90019.out
          have hnb33 := NB90019_90013.out
          have hnc33 := NB90013_90019.out
          have hcz34_0 : w18.cell? ⟨gb90019, 0, none⟩ = some (.int .i64 0) := (blk_cell BK90019.out 0).trans rfl
          have hcz34_1 : w18.cell? ⟨gb90019, 1, none⟩ = some (.slice none 0 0) := (blk_cell BK90019.out 1).trans rfl
          have hfz34_0 := blk_frozen BK90019.out 0
          have hfz34_1 := blk_frozen BK90019.out 1
          have hnb35 := NB90013_90007.out
          have hnc35 := NB90007_90013.out
          have hcz36_0 : w18.cell? ⟨gb90013, 0, none⟩ = some (.int .i64 t90008) := (blk_cell BK90013.out 0).trans rfl
          have hcz36_1 : w18.cell? ⟨gb90013, 1, none⟩ = some (.slice Ao15 t90009.length co15) := (blk_cell BK90013.out 1).trans rfl
          have hfz36_0 := blk_frozen BK90013.out 0
          have hfz36_1 := blk_frozen BK90013.out 1
          go_wp2_with (first | (go_at_call 31; (with_reducible refine (laws_loMap.calls k t90014 _ _ t90015 t90008 _ _ t90009 false _ ?side1 ?side2 ?side3 ?side4 A24.out).mono ?_); (case side1 => refine (Kd.R_reads' (e := 3) (base := w.heap.size) (ok := fun k_ => ((True ∧ some k_ ≠ (.slice Ao10 t90002.length co10 : Value).ownBlock) ∧ some k_ ≠ (.slice Ao15 t90009.length co15 : Value).ownBlock)) (n := t90015.length) (c := co22) ?_).2.2; exact (by (with_reducible repeat (first | apply Kd.R_alloc | apply Kd.R_drewN | apply Kd.R_drew)); exact (Kd.R_mono (Kd.R_far (p := ⟨gb90019, 1, none⟩) (Kd.R_far (p := ⟨gb90019, 0, none⟩) (Kd.R_types HO90017.out BK90019.out (by decide)) (fun _ hk => hk.2) (.int .i64 t90014)) (fun _ hk => hk.2) (.slice Ao22 t90015.length co22)) (fun _ h_ => h_.1)))); (case side2 => exact (Kd.R_reads' HO90017.out).2.1); (case side3 => refine (Kd.R_reads' (e := 3) (base := w.heap.size) (ok := fun k_ => ((True ∧ some k_ ≠ (.slice Ao10 t90002.length co10 : Value).ownBlock) ∧ some k_ ≠ (.slice Ao22 t90015.length co22 : Value).ownBlock)) (n := t90009.length) (c := co15) ?_).2.2; exact (by (with_reducible repeat (first | apply Kd.R_alloc | apply Kd.R_drewN | apply Kd.R_drew)); exact (Kd.R_mono (Kd.R_far (p := ⟨gb90019, 1, none⟩) (Kd.R_far (p := ⟨gb90019, 0, none⟩) (Kd.R_types HO90011.out BK90019.out (by decide)) (fun _ hk => hk.2) (.int .i64 t90014)) (fun _ hk => hk.2) (.slice Ao22 t90015.length co22)) (fun _ h_ => h_.1)))); (case side4 => exact (Kd.R_reads' HO90011.out).2.1); rintro e w37 ⟨rfl, hb⟩; have n0_ := Aside0.mk (Kd.Q_below (by (with_reducible repeat (first | apply Kd.Q_alloc | apply Kd.Q_drewN | apply Kd.Q_drew)); exact (Kd.Q_mono (Kd.Q_far (p := ⟨gb90019, 1, none⟩) (Kd.Q_far (p := ⟨gb90019, 0, none⟩) (Kd.Q_types HO90004.out BK90019.out (by decide)) (fun _ hk => hk.2) (.int .i64 t90014)) (fun _ hk => hk.2) (.slice Ao22 t90015.length co22)) (fun _ h_ => h_.1))) hb); have n1_ := Aside0.mk (Kd.R_below (by (with_reducible repeat (first | apply Kd.R_alloc | apply Kd.R_drewN | apply Kd.R_drew)); exact (Kd.R_mono (Kd.R_far (p := ⟨gb90019, 1, none⟩) (Kd.R_far (p := ⟨gb90019, 0, none⟩) (Kd.R_types HO90011.out BK90019.out (by decide)) (fun _ hk => hk.2) (.int .i64 t90014)) (fun _ hk => hk.2) (.slice Ao22 t90015.length co22)) (fun _ h_ => h_.1))) hb); have n2_ := Aside0.mk (Kd.R_below (by (with_reducible repeat (first | apply Kd.R_alloc | apply Kd.R_drewN | apply Kd.R_drew)); exact (Kd.R_mono (Kd.R_far (p := ⟨gb90019, 1, none⟩) (Kd.R_far (p := ⟨gb90019, 0, none⟩) (Kd.R_types HO90017.out BK90019.out (by decide)) (fun _ hk => hk.2) (.int .i64 t90014)) (fun _ hk => hk.2) (.slice Ao22 t90015.length co22)) (fun _ h_ => h_.1))) hb); have n3_ := Aside0.mk (blk_below (g := gb90007) (o := .cells #[.int .i64 t90001, .slice Ao10 t90002.length co10] 27 (0, 0)) (by (with_reducible repeat (first | refine blk_drewN ?_ _ | refine blk_drew ?_ | refine blk_alloc ?_ _)); refine blk_far ?_ NB90007_90019.out _; (with_reducible repeat (first | refine blk_drewN ?_ _ | refine blk_drew ?_ | refine blk_alloc ?_ _)); refine blk_far ?_ NB90007_90019.out _; (with_reducible repeat (first | refine blk_drewN ?_ _ | refine blk_drew ?_ | refine blk_alloc ?_ _)); exact BK90007.out) hb); have n4_ := Aside0.mk (blk_below (g := gb90013) (o := .cells #[.int .i64 t90008, .slice Ao15 t90009.length co15] 27 (0, 0)) (by (with_reducible repeat (first | refine blk_drewN ?_ _ | refine blk_drew ?_ | refine blk_alloc ?_ _)); refine blk_far ?_ NB90013_90019.out _; (with_reducible repeat (first | refine blk_drewN ?_ _ | refine blk_drew ?_ | refine blk_alloc ?_ _)); refine blk_far ?_ NB90013_90019.out _; (with_reducible repeat (first | refine blk_drewN ?_ _ | refine blk_drew ?_ | refine blk_alloc ?_ _)); exact BK90013.out) hb); have n5_ := Aside0.mk (blk_below (g := gb90019) (o := .cells #[.int .i64 t90014, .slice Ao22 t90015.length co22] 27 (0, 0)) (by (with_reducible repeat (first | refine blk_drewN ?_ _ | refine blk_drew ?_ | refine blk_alloc ?_ _)); refine blk_put (cs := #[.int .i64 t90014, .slice none 0 0]) ?_ 1 _ rfl; (with_reducible repeat (first | refine blk_drewN ?_ _ | refine blk_drew ?_ | refine blk_alloc ?_ _)); refine blk_put (cs := #[.int .i64 0, .slice none 0 0]) ?_ 0 _ rfl; (with_reducible repeat (first | refine blk_drewN ?_ _ | refine blk_drew ?_ | refine blk_alloc ?_ _)); exact BK90019.out) hb); have n6_ := Aside0.mk (below_step (by repeat (first | (with_reducible first | exact HB.out | apply below_alloc | apply pw_below_drewN | apply below_drew1 | refine below_set ?_ GE90007.out | refine below_set ?_ GE90013.out | refine below_set ?_ GE90019.out) | exact HB.out)) hb); clear HO90004; clear HO90011; clear HO90017; clear BK90007; clear BK90013; clear BK90019; clear HB; have HO90004 := n0_; have HO90011 := n1_; have HO90017 := n2_; have BK90007 := n3_; have BK90013 := n4_; have BK90019 := n5_; have HB := n6_; clear n0_ n1_ n2_ n3_ n4_ n5_ n6_; (try clear hb); (try clear hb2); (try clear hk); (try clear hi)))
          go_meet
          case rel => exact ⟨_, (true), (by first | rfl | (simp; done) | (simp [*]; done)), H', ⟨by first | omega | exact Nat.le_refl _⟩, ⟨by (with_reducible repeat (first | apply Kd.Q_alloc | apply Kd.Q_drewN | apply Kd.Q_drew)); exact Kd.Q_mono HO90004.out (fun _ hk => ⟨hk.1.2, hk.2⟩)⟩, ⟨Kd.Q_of_R (by (with_reducible repeat (first | apply Kd.R_alloc | apply Kd.R_drewN | apply Kd.R_drew)); exact Kd.R_mono HO90011.out (fun _ hk => ⟨hk.1.2, hk.2⟩))⟩, ⟨Kd.Q_of_R (by (with_reducible repeat (first | apply Kd.R_alloc | apply Kd.R_drewN | apply Kd.R_drew)); exact Kd.R_mono HO90017.out (fun _ hk => ⟨hk.1.2, hk.2⟩))⟩, ⟨by (with_reducible repeat (first | refine blk_drewN ?_ _ | refine blk_drew ?_ | refine blk_alloc ?_ _)); exact BK90007.out⟩, ⟨by (with_reducible repeat (first | refine blk_drewN ?_ _ | refine blk_drew ?_ | refine blk_alloc ?_ _)); exact BK90013.out⟩, ⟨by (with_reducible repeat (first | refine blk_drewN ?_ _ | refine blk_drew ?_ | refine blk_alloc ?_ _)); exact BK90019.out⟩, ⟨by repeat (first | (with_reducible first | exact HB.out | apply below_alloc | apply pw_below_drewN | apply below_drew1 | refine below_set ?_ GE90007.out | refine below_set ?_ GE90013.out | refine below_set ?_ GE90019.out) | exact HB.out)⟩⟩
      · rw [if_neg c23] at H
        have c23b0 : (t90018 == t90012) = false := beq_eq_false_iff_ne.mpr c23
        have c23b1 : (t90018 != t90012) = true := bne_iff_ne.mpr c23
        (first | rw [c23b0] | (simp only [i64_w, i32_w]; rw [c23b0]) | skip)
        have H' := Aside0.mk H
        clear H
        go_wp2
        go_meet
        case rel => exact ⟨_, (true), (by first | rfl | (simp; done) | (simp [*]; done)), H', ⟨by first | omega | exact Nat.le_refl _⟩, ⟨by (with_reducible repeat (first | apply Kd.Q_alloc | apply Kd.Q_drewN | apply Kd.Q_drew)); exact Kd.Q_mono (Kd.Q_far (p := ⟨gb90019, 1, none⟩) (Kd.Q_far (p := ⟨gb90019, 0, none⟩) (Kd.Q_types HO90004.out BK90019.out (by decide)) (fun _ hk => hk.2) (.int .i64 t90014)) (fun _ hk => hk.2) (.slice Ao22 t90015.length co22)) (fun _ hk => ⟨hk.1.1.2, hk.1.2⟩)⟩, ⟨Kd.Q_of_R (by (with_reducible repeat (first | apply Kd.R_alloc | apply Kd.R_drewN | apply Kd.R_drew)); exact Kd.R_mono (Kd.R_far (p := ⟨gb90019, 1, none⟩) (Kd.R_far (p := ⟨gb90019, 0, none⟩) (Kd.R_types HO90011.out BK90019.out (by decide)) (fun _ hk => hk.2) (.int .i64 t90014)) (fun _ hk => hk.2) (.slice Ao22 t90015.length co22)) (fun _ hk => ⟨hk.1.1.2, hk.1.2⟩))⟩, ⟨Kd.Q_of_R (by (with_reducible repeat (first | apply Kd.R_alloc | apply Kd.R_drewN | apply Kd.R_drew)); exact Kd.R_mono (Kd.R_far (p := ⟨gb90019, 1, none⟩) (Kd.R_far (p := ⟨gb90019, 0, none⟩) (Kd.R_types HO90017.out BK90019.out (by decide)) (fun _ hk => hk.2) (.int .i64 t90014)) (fun _ hk => hk.2) (.slice Ao22 t90015.length co22)) (fun _ hk => ⟨hk.1.1.2, hk.1.2⟩))⟩, ⟨by (with_reducible repeat (first | refine blk_drewN ?_ _ | refine blk_drew ?_ | refine blk_alloc ?_ _)); refine blk_far ?_ NB90007_90019.out _; (with_reducible repeat (first | refine blk_drewN ?_ _ | refine blk_drew ?_ | refine blk_alloc ?_ _)); refine blk_far ?_ NB90007_90019.out _; (with_reducible repeat (first | refine blk_drewN ?_ _ | refine blk_drew ?_ | refine blk_alloc ?_ _)); exact BK90007.out⟩, ⟨by (with_reducible repeat (first | refine blk_drewN ?_ _ | refine blk_drew ?_ | refine blk_alloc ?_ _)); refine blk_far ?_ NB90013_90019.out _; (with_reducible repeat (first | refine blk_drewN ?_ _ | refine blk_drew ?_ | refine blk_alloc ?_ _)); refine blk_far ?_ NB90013_90019.out _; (with_reducible repeat (first | refine blk_drewN ?_ _ | refine blk_drew ?_ | refine blk_alloc ?_ _)); exact BK90013.out⟩, ⟨by (with_reducible repeat (first | refine blk_drewN ?_ _ | refine blk_drew ?_ | refine blk_alloc ?_ _)); refine blk_put (cs := #[.int .i64 t90014, .slice none 0 0]) ?_ 1 _ rfl; (with_reducible repeat (first | refine blk_drewN ?_ _ | refine blk_drew ?_ | refine blk_alloc ?_ _)); refine blk_put (cs := #[.int .i64 0, .slice none 0 0]) ?_ 0 _ rfl; (with_reducible repeat (first | refine blk_drewN ?_ _ | refine blk_drew ?_ | refine blk_alloc ?_ _)); exact BK90019.out⟩, ⟨by repeat (first | (with_reducible first | exact HB.out | apply below_alloc | apply pw_below_drewN | apply below_drew1 | refine below_set ?_ GE90007.out | refine below_set ?_ GE90013.out | refine below_set ?_ GE90019.out) | exact HB.out)⟩⟩
    case rest =>
      clear HC6
      try clear c1
      try clear c2
      try clear c2b0
      try clear c2b1
      try clear p2
      try clear c3
      try clear c8
      try clear c13
      try clear c19
      try clear c20
      try clear c23
      try clear c23b0
      try clear c23b1
      try clear c25
      try clear c26
      try clear c27
      try clear c28
      try clear c29
      try clear c30
      try clear c32
      try clear c33
      try clear c35
      try clear hcz14_0
      try clear hcz14_1
      try clear hcz16_0
      try clear hcz16_1
      try clear hcz21_0
      try clear hcz21_1
      try clear hcz28_0
      try clear hcz28_1
      try clear hcz30_0
      try clear hcz30_1
      try clear hcz34_0
      try clear hcz34_1
      try clear hcz36_0
      try clear hcz36_1
      try clear hcz9_0
      try clear hcz9_1
      try clear hfz14_0
      try clear hfz14_1
      try clear hfz16_0
      try clear hfz16_1
      try clear hfz21_0
      try clear hfz21_1
      try clear hfz28_0
      try clear hfz28_1
      try clear hfz30_0
      try clear hfz30_1
      try clear hfz34_0
      try clear hfz34_1
      try clear hfz36_0
      try clear hfz36_1
      try clear hfz9_0
      try clear hfz9_1
      obtain ⟨kq, x47_5, rfl, HA, HJ5, HO_90008001, HO_90014001, HO_90020001, BK90007, BK90013, BK90019, HB⟩ := hcut
      cases kq with
      | zero => exact absurd HA.out (by simp [laws_FnMapBack.j0])
      | succ kj5 =>
        have H := HA.out
        clear HA
        simp only [laws_FnMapBack.j0] at H
        by_cases c38 : x47_5 = true
        · subst c38
          have H1 : (if t90018 = t90012 then ((laws_loMap.f kj5 t90014 t90015 t90008 t90009).bind fun t90021 => (some t90021)) else (some false)) = some r := by rw [if_pos rfl] at H; exact H
          clear H
          have H := H1
          clear H1
          by_cases c39 : t90018 = t90012
          · rw [if_pos c39] at H
            have c39b0 : (t90018 == t90012) = true := beq_iff_eq.mpr c39
            have c39b1 : (t90018 != t90012) = false := bne_eq_false_iff_eq.mpr c39
            clear c39
            replace H := Option.bind_eq_some_iff.mp H
            obtain ⟨t90021, A400, H⟩ := H
            replace H : (some t90021) = some r := H
            have A40 := Aside0.mk A400
            clear A400
            obtain rfl := Option.some.inj H
            have hnb41 := NB90019_90007.out
            have hnc41 := NB90007_90019.out
            have hnb42 := NB90019_90013.out
            have hnc42 := NB90013_90019.out
            have hcz43_0 : wc.cell? ⟨gb90019, 0, none⟩ = some (.int .i64 t90014) := (blk_cell BK90019.out 0).trans rfl
            have hcz43_1 : wc.cell? ⟨gb90019, 1, none⟩ = some (.slice Ao22 t90015.length co22) := (blk_cell BK90019.out 1).trans rfl
            have hfz43_0 := blk_frozen BK90019.out 0
            have hfz43_1 := blk_frozen BK90019.out 1
            have hnb44 := NB90013_90007.out
            have hnc44 := NB90007_90013.out
            have hcz45_0 : wc.cell? ⟨gb90013, 0, none⟩ = some (.int .i64 t90008) := (blk_cell BK90013.out 0).trans rfl
            have hcz45_1 : wc.cell? ⟨gb90013, 1, none⟩ = some (.slice Ao15 t90009.length co15) := (blk_cell BK90013.out 1).trans rfl
            have hfz45_0 := blk_frozen BK90013.out 0
            have hfz45_1 := blk_frozen BK90013.out 1
            go_wp2_with (first | (go_at_call 31; (with_reducible refine (laws_loMap.calls kj5 t90014 _ _ t90015 t90008 _ _ t90009 t90021 _ ?side1 ?side2 ?side3 ?side4 A40.out).mono ?_); (case side1 => repeat (first | exact (Kd.Q_reads' HO_90020001.out).2.2 | (with_reducible refine Kd.C_alloc ?_ _) | (with_reducible refine Kd.C_drewN ?_ _) | (with_reducible refine Kd.C_drew ?_))); (case side2 => exact (Kd.Q_reads' HO_90020001.out).2.1); (case side3 => repeat (first | exact (Kd.Q_reads' HO_90014001.out).2.2 | (with_reducible refine Kd.C_alloc ?_ _) | (with_reducible refine Kd.C_drewN ?_ _) | (with_reducible refine Kd.C_drew ?_))); (case side4 => exact (Kd.Q_reads' HO_90014001.out).2.1); rintro e w46 ⟨rfl, hb⟩; have n0_ := Aside0.mk (Kd.Q_below (by (with_reducible repeat (first | apply Kd.Q_alloc | apply Kd.Q_drewN | apply Kd.Q_drew)); exact HO_90008001.out) hb); have n1_ := Aside0.mk (Kd.Q_below (by (with_reducible repeat (first | apply Kd.Q_alloc | apply Kd.Q_drewN | apply Kd.Q_drew)); exact HO_90014001.out) hb); have n2_ := Aside0.mk (Kd.Q_below (by (with_reducible repeat (first | apply Kd.Q_alloc | apply Kd.Q_drewN | apply Kd.Q_drew)); exact HO_90020001.out) hb); have n3_ := Aside0.mk (blk_below (g := gb90007) (o := .cells #[.int .i64 t90001, .slice Ao10 t90002.length co10] 27 (0, 0)) (by (with_reducible repeat (first | refine blk_drewN ?_ _ | refine blk_drew ?_ | refine blk_alloc ?_ _)); exact BK90007.out) hb); have n4_ := Aside0.mk (blk_below (g := gb90013) (o := .cells #[.int .i64 t90008, .slice Ao15 t90009.length co15] 27 (0, 0)) (by (with_reducible repeat (first | refine blk_drewN ?_ _ | refine blk_drew ?_ | refine blk_alloc ?_ _)); exact BK90013.out) hb); have n5_ := Aside0.mk (blk_below (g := gb90019) (o := .cells #[.int .i64 t90014, .slice Ao22 t90015.length co22] 27 (0, 0)) (by (with_reducible repeat (first | refine blk_drewN ?_ _ | refine blk_drew ?_ | refine blk_alloc ?_ _)); exact BK90019.out) hb); have n6_ := Aside0.mk (below_step (by repeat (first | (with_reducible first | exact HB.out | apply below_alloc | apply pw_below_drewN | apply below_drew1 | refine below_set ?_ GE90007.out | refine below_set ?_ GE90013.out | refine below_set ?_ GE90019.out) | exact HB.out)) hb); clear HO_90008001; clear HO_90014001; clear HO_90020001; clear BK90007; clear BK90013; clear BK90019; clear HB; have HO_90008001 := n0_; have HO_90014001 := n1_; have HO_90020001 := n2_; have BK90007 := n3_; have BK90013 := n4_; have BK90019 := n5_; have HB := n6_; clear n0_ n1_ n2_ n3_ n4_ n5_ n6_; (try clear hb); (try clear hb2); (try clear hk); (try clear hi)))
            go_ret
            exact ⟨by first | rfl | (simp [errW_none, errW_some] <;> rfl) | (simp [*, errW_none, errW_some] <;> rfl), by repeat (first | (with_reducible first | exact HB.out | apply below_alloc | apply pw_below_drewN | apply below_drew1 | refine below_set ?_ GE90007.out | refine below_set ?_ GE90013.out | refine below_set ?_ GE90019.out) | exact HB.out)⟩
          · rw [if_neg c39] at H
            have c39b0 : (t90018 == t90012) = false := beq_eq_false_iff_ne.mpr c39
            have c39b1 : (t90018 != t90012) = true := bne_iff_ne.mpr c39
            obtain rfl := Option.some.inj H
            go_wp2
            go_ret
            exact ⟨by first | rfl | (simp [errW_none, errW_some] <;> rfl) | (simp [*, errW_none, errW_some] <;> rfl), by repeat (first | (with_reducible first | exact HB.out | apply below_alloc | apply pw_below_drewN | apply below_drew1 | refine below_set ?_ GE90007.out | refine below_set ?_ GE90013.out | refine below_set ?_ GE90019.out) | exact HB.out)⟩
        · replace c38 := Bool.eq_false_iff.mpr c38
          subst c38
          have H1 : (if 0 ≤ t90005 then (if t90005 < (t90002.length : Int) then ((impl_MapMove.f kj5 t90014 t90015 t90005 (rd t90002 t90005)).bind fun bt90023 => (if bt90023.2.2 = 2 then (some true) else (if bt90023.2.2 = 0 then ((laws_loInts.f kj5 bt90023.2.1 t90002).bind fun t90029 => (if t90029 = true then (some (bt90023.1 == (wrap64 (t90001 + 2)))) else (some false))) else (some false)))) else (none)) else (none)) = some r := by rw [if_neg (show ¬ (false = true) by decide)] at H; exact H
          clear H
          have H := H1
          clear H1
          by_cases c47 : 0 ≤ t90005
          · rw [if_pos c47] at H
            have c47b0 : decide (0 ≤ t90005) = true := decide_eq_true c47
            clear c47
            by_cases c48 : t90005 < (t90002.length : Int)
            · rw [if_pos c48] at H
              have c48b0 : decide (t90005 < (t90002.length : Int)) = true := decide_eq_true c48
              clear c48
              replace H := Option.bind_eq_some_iff.mp H
              obtain ⟨⟨t90023, t90024, t90027⟩, A490, H⟩ := H
              replace H : (if t90027 = 2 then (some true) else (if t90027 = 0 then ((laws_loInts.f kj5 t90024 t90002).bind fun t90029 => (if t90029 = true then (some (t90023 == (wrap64 (t90001 + 2)))) else (some false))) else (some false))) = some r := H
              have A49 := Aside0.mk A490
              clear A490
              by_cases c50 : t90027 = 2
              · rw [if_pos c50] at H
                have c50b0 : (t90027 == 2) = true := beq_iff_eq.mpr c50
                have c50b1 : (t90027 != 2) = false := bne_eq_false_iff_eq.mpr c50
                clear c50
                obtain rfl := Option.some.inj H
                try go_wp2
                have n0_ := Aside0.mk (Kd.Q_drew HO_90008001.out)
                have n1_ := Aside0.mk (Kd.Q_drew HO_90014001.out)
                have n2_ := Aside0.mk (Kd.Q_drew HO_90020001.out)
                have n3_ := Aside0.mk (blk_drew BK90007.out)
                have n4_ := Aside0.mk (blk_drew BK90013.out)
                have n5_ := Aside0.mk (blk_drew BK90019.out)
                have n6_ := Aside0.mk (below_drew1 HB.out)
                clear HO_90008001
                clear HO_90014001
                clear HO_90020001
                clear BK90007
                clear BK90013
                clear BK90019
                clear HB
                have HO_90008001 := n0_
                have HO_90014001 := n1_
                have HO_90020001 := n2_
                have BK90007 := n3_
                have BK90013 := n4_
                have BK90019 := n5_
                have HB := n6_
                clear n0_ n1_ n2_ n3_ n4_ n5_ n6_
                have p90022 : 0 ≤ (t90005 : Int) := of_decide_eq_true (by first | (with_reducible assumption) | assumption)
                have q90022 : t90005 < (t90002.length : Int) := of_decide_eq_true (by first | (with_reducible assumption) | assumption)
                obtain ⟨ad90022, e90022, hx90022_0⟩ := Kd.at_int (Kd.Q_reads' HO_90008001.out).2.2 t90005 p90022 q90022
                cases e90022
                replace p90022 := eq_true p90022
                replace q90022 := eq_true q90022
                refine start_ (n := 14) (S := fun w' => w'.cell? ⟨gb90019, 0, none⟩ = some (.int .i64 t90014) ∧ w'.cell? ⟨gb90019, 1, none⟩ = some (.slice Ao22 t90015.length co22) ∧ w'.cell? ⟨gb90007, 0, none⟩ = some (.int .i64 t90001) ∧ w'.cell? ⟨gb90007, 1, none⟩ = some (.slice (some ad90022) t90002.length co10) ∧ w'.cell? (ad90022.add (t90005).toNat) = some (.int .i64 (rd t90002 t90005))) (ds := []) #[false, false, false, false, false, false, false, false, false, false, false, false, false, false] (by kernel_rfl) rfl rfl ⟨(blk_cell BK90019.out 0).trans rfl, (blk_cell BK90019.out 1).trans rfl, (blk_cell BK90007.out 0).trans rfl, (blk_cell BK90007.out 1).trans rfl, hx90022_0⟩ (fun hHeld => ?_); refine with_tabW laws_FnMapBack.tab8 laws_FnMapBack.bits8 (fun HT_ HW_ => ?_)
                generalize wc.drew = w51 at HO_90008001 HO_90014001 HO_90020001 BK90007 BK90013 BK90019 HB hx90022_0 hHeld ⊢
                refine pure_ (i := 1) (N := some 58) (v := ?_) (a' := ?_) #[false, true, false, false, false, false, false, false, false, false, false, false, false, false] rfl rfl (any_of HT_.out (by kernel_rfl)) (fun _ _ _ h => h) (Or.inl ⟨by rfl, ?_⟩) ?_ ?_
                rotate_left
                · intro w'
                  go_simp
                  with_reducible rfl
                rotate_left
                · simp only [Act.put, List.setIfInBounds_toArray, List.set_cons_zero, List.set_cons_succ, i64_w, i32_w]
                  rfl
                refine pure_ (i := 2) (N := some 59) (v := ?_) (a' := ?_) #[false, true, true, false, false, false, false, false, false, false, false, false, false, false] rfl rfl (any_of HT_.out (by kernel_rfl)) (fun _ _ _ h => h) (Or.inl ⟨by rfl, ?_⟩) ?_ ?_
                rotate_left
                · intro w'
                  go_simp
                  with_reducible rfl
                rotate_left
                · simp only [Act.put, List.setIfInBounds_toArray, List.set_cons_zero, List.set_cons_succ, i64_w, i32_w]
                  rfl
                refine pure_ (i := 4) (N := some 61) (v := ?_) (a' := ?_) #[false, true, true, false, true, false, false, false, false, false, false, false, false, false] rfl rfl (any_of HT_.out (by kernel_rfl)) (fun _ _ _ h => h) (Or.inl ⟨by rfl, ?_⟩) ?_ ?_
                rotate_left
                · intro w'
                  go_simp
                  with_reducible rfl
                rotate_left
                · simp only [Act.put, List.setIfInBounds_toArray, List.set_cons_zero, List.set_cons_succ, i64_w, i32_w]
                  rfl
                refine take_ (i := 0) (N := some 57) (v := ?_) (a' := ?_) #[true, true, true, false, true, false, false, false, false, false, false, false, false, false] rfl rfl (take_ofW HT_.out HW_.out (by kernel_rfl)) (fun _ _ _ h => h) (Or.inl ⟨by rfl, ?_⟩) hHeld ?_ ?_
                rotate_left
                · rintro w' ⟨s0, s1, s2, s3, s4⟩
                  go_simp
                  with_reducible rfl
                rotate_left
                · simp only [Act.put, List.setIfInBounds_toArray, List.set_cons_zero, List.set_cons_succ, i64_w, i32_w]
                  rfl
                refine take_ (i := 3) (N := some 60) (v := ?_) (a' := ?_) #[true, true, true, true, true, false, false, false, false, false, false, false, false, false] rfl rfl (take_ofW HT_.out HW_.out (by kernel_rfl)) (fun _ _ _ h => h) (Or.inl ⟨by rfl, ?_⟩) hHeld ?_ ?_
                rotate_left
                · rintro w' ⟨s0, s1, s2, s3, s4⟩
                  go_simp
                  with_reducible rfl
                rotate_left
                · simp only [Act.put, List.setIfInBounds_toArray, List.set_cons_zero, List.set_cons_succ, i64_w, i32_w]
                  rfl
                refine pure_ (i := 5) (N := some 62) (v := ?_) (a' := ?_) #[true, true, true, true, true, true, false, false, false, false, false, false, false, false] rfl rfl (any_of HT_.out (by kernel_rfl)) (fun _ _ _ h => h) (Or.inl ⟨by rfl, ?_⟩) ?_ ?_
                rotate_left
                · intro w'
                  go_simp
                  with_reducible rfl
                rotate_left
                · simp only [Act.put, List.setIfInBounds_toArray, List.set_cons_zero, List.set_cons_succ, i64_w, i32_w]
                  rfl
                refine take_ (i := 6) (N := some 63) (v := ?_) (a' := ?_) #[true, true, true, true, true, true, true, false, false, false, false, false, false, false] rfl rfl (take_ofW HT_.out HW_.out (by kernel_rfl)) (fun _ _ _ h => h) (Or.inl ⟨by rfl, ?_⟩) hHeld ?_ ?_
                rotate_left
                · rintro w' ⟨s0, s1, s2, s3, s4⟩
                  go_simp
                  with_reducible rfl
                rotate_left
                · simp only [Act.put, List.setIfInBounds_toArray, List.set_cons_zero, List.set_cons_succ, i64_w, i32_w]
                  rfl
                refine join_ (σ := Value × Nat) 2 #[true, true, true, true, true, true, true, true, true, true, true, true, false, false] (fun s_ => [(64, .tuple #[.agg #[.int .i64 t90023, s_.1], .int .i64 t90027]), (10, .pointer (some ⟨s_.2, 0, none⟩)), (56, .tuple #[.agg #[.int .i64 t90023, s_.1], .int .i64 t90027]), (65, .agg #[.int .i64 t90023, s_.1]), (66, .int .i64 t90027)]) (fun s_ w' => (w'.cell? ⟨gb90019, 0, none⟩ = some (.int .i64 t90014) ∧ w'.cell? ⟨gb90019, 1, none⟩ = some (.slice Ao22 t90015.length co22) ∧ w'.cell? ⟨gb90007, 0, none⟩ = some (.int .i64 t90001) ∧ w'.cell? ⟨gb90007, 1, none⟩ = some (.slice (some ad90022) t90002.length co10) ∧ w'.cell? (ad90022.add (t90005).toNat) = some (.int .i64 (rd t90002 t90005))) ∧ (Kd.R (Kd.int .i64) 3 w' w.heap.size (fun k_ => some k_ ≠ (.slice (some ad90022) t90002.length co10 : Value).ownBlock ∧ some k_ ≠ (.slice Ao15 t90009.length co15 : Value).ownBlock ∧ some k_ ≠ (.slice Ao22 t90015.length co22 : Value).ownBlock) s_.1 t90024) ∧ (Kd.Q (Kd.int .i64) 3 w' w.heap.size (fun k_ => some k_ ≠ (s_.1 : Value).ownBlock ∧ some k_ ≠ (.slice Ao15 t90009.length co15 : Value).ownBlock ∧ some k_ ≠ (.slice Ao22 t90015.length co22 : Value).ownBlock) (.slice (some ad90022) t90002.length co10) t90002) ∧ (Kd.Q (Kd.int .i64) 3 w' w.heap.size (fun k_ => some k_ ≠ (s_.1 : Value).ownBlock ∧ some k_ ≠ (.slice (some ad90022) t90002.length co10 : Value).ownBlock ∧ some k_ ≠ (.slice Ao22 t90015.length co22 : Value).ownBlock) (.slice Ao15 t90009.length co15) t90009) ∧ (Kd.Q (Kd.int .i64) 3 w' w.heap.size (fun k_ => some k_ ≠ (s_.1 : Value).ownBlock ∧ some k_ ≠ (.slice (some ad90022) t90002.length co10 : Value).ownBlock ∧ some k_ ≠ (.slice Ao15 t90009.length co15 : Value).ownBlock) (.slice Ao22 t90015.length co22) t90015) ∧ (w'.heap[gb90007]? = some (.cells #[.int .i64 t90001, .slice (some ad90022) t90002.length co10] 27 (0, 0))) ∧ (w'.heap[gb90013]? = some (.cells #[.int .i64 t90008, .slice Ao15 t90009.length co15] 27 (0, 0))) ∧ (w'.heap[gb90019]? = some (.cells #[.int .i64 t90014, .slice Ao22 t90015.length co22] 27 (0, 0))) ∧ (w'.heap[s_.2]? = some (.cells #[.int .i64 0, .slice none 0 0] 27 (0, 0))) ∧ (w.heap.size ≤ s_.2) ∧ (w.heap.size ≤ s_.2) ∧ (gb90007 ≠ s_.2) ∧ (s_.2 ≠ gb90007) ∧ (gb90013 ≠ s_.2) ∧ (s_.2 ≠ gb90013) ∧ (gb90019 ≠ s_.2) ∧ (s_.2 ≠ gb90019) ∧ (Below w.heap.size w w')) ?_ ?_
                rotate_left
                · intro hCont
                  refine two_ (i := 7) (j := 11) (Ni := some 64) (Nj := some 10) #[true, true, true, true, true, true, true, true, false, false, false, false, false, false] #[true, true, true, true, true, true, true, false, false, false, false, true, false, false] rfl rfl rfl rfl (two_of HT_.out (by kernel_rfl)) (by decide) (by decide) (fun K hK => ?_) (fun K hK => ?_)
                  · skip
                    refine goes_ Try.func30 (by kernel_rfl) rfl #[.agg #[.int .i64 t90014, .slice Ao22 t90015.length co22], .int .i64 t90005, .int .i64 (rd t90002 t90005)] (by rfl) rfl rfl (by (try simp only [List.map_toArray, List.map_cons, List.map_nil]); first | done | rfl | (simp only [List.length_drop, List.length_take]; rfl)) ?_
                    with_reducible refine (impl_MapMove.calls kj5 t90014 _ _ t90015 t90005 (rd t90002 t90005) t90023 t90024 t90027 _ ?side1 ?side2 A49.out).mono ?_
                    (case side1 => repeat (first | exact (Kd.Q_reads' HO_90020001.out).2.2 | (with_reducible refine Kd.C_alloc ?_ _) | (with_reducible refine Kd.C_drewN ?_ _) | (with_reducible refine Kd.C_drew ?_)))
                    (case side2 => exact (Kd.Q_reads' HO_90020001.out).2.1)
                    rintro e w52 ⟨v90025, rfl, ho0, hb⟩
                    have HS4_ := (hb.cell (World.block_lt_of_cell? _ _ (hHeld.2.2.2.2))).trans (hHeld.2.2.2.2)
                    refine ⟨_, rfl, ?_⟩
                    have n0_ := Aside0.mk (Kd.Q_elder' (by (with_reducible repeat (first | apply Kd.Q_alloc | apply Kd.Q_drewN | apply Kd.Q_drew)); exact HO_90008001.out) (Kd.R_base ho0) hb)
                    have n1_ := Aside0.mk (Kd.Q_elder' (by (with_reducible repeat (first | apply Kd.Q_alloc | apply Kd.Q_drewN | apply Kd.Q_drew)); exact HO_90014001.out) (Kd.R_base ho0) hb)
                    have n2_ := Aside0.mk (Kd.Q_elder' (by (with_reducible repeat (first | apply Kd.Q_alloc | apply Kd.Q_drewN | apply Kd.Q_drew)); exact HO_90020001.out) (Kd.R_base ho0) hb)
                    have n3_ := Aside0.mk (Kd.R_lower (Kd.R_new' (Kd.R_new' (Kd.R_new' ho0 (Kd.Q_lt (by (with_reducible repeat (first | apply Kd.Q_alloc | apply Kd.Q_drewN | apply Kd.Q_drew)); exact HO_90008001.out))) (Kd.Q_lt (by (with_reducible repeat (first | apply Kd.Q_alloc | apply Kd.Q_drewN | apply Kd.Q_drew)); exact HO_90014001.out))) (Kd.Q_lt (by (with_reducible repeat (first | apply Kd.Q_alloc | apply Kd.Q_drewN | apply Kd.Q_drew)); exact HO_90020001.out))) (below_size (by repeat (first | (with_reducible first | exact HB.out | apply below_alloc | apply pw_below_drewN | apply below_drew1 | refine below_set ?_ GE90007.out | refine below_set ?_ GE90013.out | refine below_set ?_ GE90019.out) | exact HB.out))))
                    have n4_ := Aside0.mk (blk_below (g := gb90007) (o := .cells #[.int .i64 t90001, .slice (some ad90022) t90002.length co10] 27 (0, 0)) (by (with_reducible repeat (first | refine blk_drewN ?_ _ | refine blk_drew ?_ | refine blk_alloc ?_ _)); exact BK90007.out) hb)
                    have n5_ := Aside0.mk (blk_below (g := gb90013) (o := .cells #[.int .i64 t90008, .slice Ao15 t90009.length co15] 27 (0, 0)) (by (with_reducible repeat (first | refine blk_drewN ?_ _ | refine blk_drew ?_ | refine blk_alloc ?_ _)); exact BK90013.out) hb)
                    have n6_ := Aside0.mk (blk_below (g := gb90019) (o := .cells #[.int .i64 t90014, .slice Ao22 t90015.length co22] 27 (0, 0)) (by (with_reducible repeat (first | refine blk_drewN ?_ _ | refine blk_drew ?_ | refine blk_alloc ?_ _)); exact BK90019.out) hb)
                    have n7_ := Aside0.mk (below_step (by repeat (first | (with_reducible first | exact HB.out | apply below_alloc | apply pw_below_drewN | apply below_drew1 | refine below_set ?_ GE90007.out | refine below_set ?_ GE90013.out | refine below_set ?_ GE90019.out) | exact HB.out)) hb)
                    clear HO_90008001
                    clear HO_90014001
                    clear HO_90020001
                    clear BK90007
                    clear BK90013
                    clear BK90019
                    clear HB
                    have HO_90008001 := n0_
                    have HO_90014001 := n1_
                    have HO_90020001 := n2_
                    have HO90026 := n3_
                    have BK90007 := n4_
                    have BK90013 := n5_
                    have BK90019 := n6_
                    have HB := n7_
                    clear n0_ n1_ n2_ n3_ n4_ n5_ n6_ n7_
                    (try clear hb)
                    (try clear hb2)
                    (try clear hk)
                    (try clear hi)
                    (try clear ho0)
                    refine hK.out _ _ ⟨(blk_cell BK90019.out 0).trans rfl, (blk_cell BK90019.out 1).trans rfl, (blk_cell BK90007.out 0).trans rfl, (blk_cell BK90007.out 1).trans rfl, HS4_⟩ (fun hHeld => ?_)
                    clear hK K
                    refine norm_ (a' := ?_) ?_ ?_
                    rotate_left
                    · show Act.put _ (some 64) _ = _
                      simp only [Act.put, List.setIfInBounds_toArray, List.set_cons_zero, List.set_cons_succ, i64_w, i32_w]
                      rfl
                    refine pure_ (i := 8) (N := some 56) (v := ?_) (a' := ?_) #[true, true, true, true, true, true, true, true, true, false, false, false, false, false] rfl rfl (any_of HT_.out (by kernel_rfl)) (fun _ _ _ h => h) (Or.inl ⟨by rfl, ?_⟩) ?_ ?_
                    rotate_left
                    · intro w'
                      go_simp
                      with_reducible rfl
                    rotate_left
                    · simp only [Act.put, List.setIfInBounds_toArray, List.set_cons_zero, List.set_cons_succ, i64_w, i32_w]
                      rfl
                    refine pure_ (i := 9) (N := some 65) (v := ?_) (a' := ?_) #[true, true, true, true, true, true, true, true, true, true, false, false, false, false] rfl rfl (any_of HT_.out (by kernel_rfl)) (fun _ _ _ h => h) (Or.inl ⟨by rfl, ?_⟩) ?_ ?_
                    rotate_left
                    · intro w'
                      go_simp
                      with_reducible rfl
                    rotate_left
                    · simp only [Act.put, List.setIfInBounds_toArray, List.set_cons_zero, List.set_cons_succ, i64_w, i32_w]
                      rfl
                    refine pure_ (i := 10) (N := some 66) (v := ?_) (a' := ?_) #[true, true, true, true, true, true, true, true, true, true, true, false, false, false] rfl rfl (any_of HT_.out (by kernel_rfl)) (fun _ _ _ h => h) (Or.inl ⟨by rfl, ?_⟩) ?_ ?_
                    rotate_left
                    · intro w'
                      go_simp
                      with_reducible rfl
                    rotate_left
                    · simp only [Act.put, List.setIfInBounds_toArray, List.set_cons_zero, List.set_cons_succ, i64_w, i32_w]
                      rfl
                    refine one_ (i := 11) (N := some 10) #[true, true, true, true, true, true, true, true, true, true, true, true, false, false] rfl rfl (one_of HT_.out (by kernel_rfl)) (by decide) (fun K hK => ?_)
                    refine box_step ?hg (N := 10) ?hd (cs := #[.int .i64 0, .slice none 0 0]) (t := 27) ?hr ?_; (case hd => rfl); (case hg => rfl); (case hr => first | (go_simp; done) | (go_simp; rfl))
                    intro gb90028 hg w53 hbox hb
                    have HS4_ := (hb.cell (World.block_lt_of_cell? _ _ (hHeld.2.2.2.2))).trans (hHeld.2.2.2.2)
                    have n0_ := Aside0.mk (Kd.Q_below (by (with_reducible repeat (first | apply Kd.Q_alloc | apply Kd.Q_drewN | apply Kd.Q_drew)); exact HO_90008001.out) hb)
                    have n1_ := Aside0.mk (Kd.Q_below (by (with_reducible repeat (first | apply Kd.Q_alloc | apply Kd.Q_drewN | apply Kd.Q_drew)); exact HO_90014001.out) hb)
                    have n2_ := Aside0.mk (Kd.Q_below (by (with_reducible repeat (first | apply Kd.Q_alloc | apply Kd.Q_drewN | apply Kd.Q_drew)); exact HO_90020001.out) hb)
                    have n3_ := Aside0.mk (Kd.R_below (by (with_reducible repeat (first | apply Kd.R_alloc | apply Kd.R_drewN | apply Kd.R_drew)); exact HO90026.out) hb)
                    have n4_ := Aside0.mk (blk_below (g := gb90007) (o := .cells #[.int .i64 t90001, .slice (some ad90022) t90002.length co10] 27 (0, 0)) (by (with_reducible repeat (first | refine blk_drewN ?_ _ | refine blk_drew ?_ | refine blk_alloc ?_ _)); exact BK90007.out) hb)
                    have n5_ := Aside0.mk (blk_below (g := gb90013) (o := .cells #[.int .i64 t90008, .slice Ao15 t90009.length co15] 27 (0, 0)) (by (with_reducible repeat (first | refine blk_drewN ?_ _ | refine blk_drew ?_ | refine blk_alloc ?_ _)); exact BK90013.out) hb)
                    have n6_ := Aside0.mk (blk_below (g := gb90019) (o := .cells #[.int .i64 t90014, .slice Ao22 t90015.length co22] 27 (0, 0)) (by (with_reducible repeat (first | refine blk_drewN ?_ _ | refine blk_drew ?_ | refine blk_alloc ?_ _)); exact BK90019.out) hb)
                    have n7_ := Aside0.mk (below_step (by repeat (first | (with_reducible first | exact HB.out | apply below_alloc | apply pw_below_drewN | apply below_drew1 | refine below_set ?_ GE90007.out | refine below_set ?_ GE90013.out | refine below_set ?_ GE90019.out) | exact HB.out)) hb)
                    have n8_ := Aside0.mk (hbox)
                    have n9_ := Aside0.mk ((by rw [hg]; exact (below_size (by repeat (first | (with_reducible first | exact HB.out | apply below_alloc | apply pw_below_drewN | apply below_drew1 | refine below_set ?_ GE90007.out | refine below_set ?_ GE90013.out | refine below_set ?_ GE90019.out) | exact HB.out))) : w.heap.size ≤ gb90028))
                    have n10_ := Aside0.mk ((by rw [hg]; exact (below_size (by repeat (first | (with_reducible first | exact HB.out | apply below_alloc | apply pw_below_drewN | apply below_drew1 | refine below_set ?_ GE90007.out | refine below_set ?_ GE90013.out | refine below_set ?_ GE90019.out) | exact HB.out))) : w.heap.size ≤ gb90028))
                    have n11_ := Aside0.mk ((by rw [hg]; exact Nat.ne_of_lt (blk_lt (g := gb90007) (o := .cells #[.int .i64 t90001, .slice (some ad90022) t90002.length co10] 27 (0, 0)) (by (with_reducible repeat (first | refine blk_drewN ?_ _ | refine blk_drew ?_ | refine blk_alloc ?_ _)); exact BK90007.out)) : gb90007 ≠ gb90028))
                    have n12_ := Aside0.mk ((by rw [hg]; exact Nat.ne_of_gt (blk_lt (g := gb90007) (o := .cells #[.int .i64 t90001, .slice (some ad90022) t90002.length co10] 27 (0, 0)) (by (with_reducible repeat (first | refine blk_drewN ?_ _ | refine blk_drew ?_ | refine blk_alloc ?_ _)); exact BK90007.out)) : gb90028 ≠ gb90007))
                    have n13_ := Aside0.mk ((by rw [hg]; exact Nat.ne_of_lt (blk_lt (g := gb90013) (o := .cells #[.int .i64 t90008, .slice Ao15 t90009.length co15] 27 (0, 0)) (by (with_reducible repeat (first | refine blk_drewN ?_ _ | refine blk_drew ?_ | refine blk_alloc ?_ _)); exact BK90013.out)) : gb90013 ≠ gb90028))
                    have n14_ := Aside0.mk ((by rw [hg]; exact Nat.ne_of_gt (blk_lt (g := gb90013) (o := .cells #[.int .i64 t90008, .slice Ao15 t90009.length co15] 27 (0, 0)) (by (with_reducible repeat (first | refine blk_drewN ?_ _ | refine blk_drew ?_ | refine blk_alloc ?_ _)); exact BK90013.out)) : gb90028 ≠ gb90013))
                    have n15_ := Aside0.mk ((by rw [hg]; exact Nat.ne_of_lt (blk_lt (g := gb90019) (o := .cells #[.int .i64 t90014, .slice Ao22 t90015.length co22] 27 (0, 0)) (by (with_reducible repeat (first | refine blk_drewN ?_ _ | refine blk_drew ?_ | refine blk_alloc ?_ _)); exact BK90019.out)) : gb90019 ≠ gb90028))
                    have n16_ := Aside0.mk ((by rw [hg]; exact Nat.ne_of_gt (blk_lt (g := gb90019) (o := .cells #[.int .i64 t90014, .slice Ao22 t90015.length co22] 27 (0, 0)) (by (with_reducible repeat (first | refine blk_drewN ?_ _ | refine blk_drew ?_ | refine blk_alloc ?_ _)); exact BK90019.out)) : gb90028 ≠ gb90019))
                    clear HO_90008001
                    clear HO_90014001
                    clear HO_90020001
                    clear HO90026
                    clear BK90007
                    clear BK90013
                    clear BK90019
                    clear HB
                    have HO_90008001 := n0_
                    have HO_90014001 := n1_
                    have HO_90020001 := n2_
                    have HO90026 := n3_
                    have BK90007 := n4_
                    have BK90013 := n5_
                    have BK90019 := n6_
                    have HB := n7_
                    have BK90028 := n8_
                    have GW90028 := n9_
                    have GE90028 := n10_
                    have NB90007_90028 := n11_
                    have NB90028_90007 := n12_
                    have NB90013_90028 := n13_
                    have NB90028_90013 := n14_
                    have NB90019_90028 := n15_
                    have NB90028_90019 := n16_
                    clear n0_ n1_ n2_ n3_ n4_ n5_ n6_ n7_ n8_ n9_ n10_ n11_ n12_ n13_ n14_ n15_ n16_
                    clear hb hbox hg
                    refine hK.out _ _ ⟨(blk_cell BK90019.out 0).trans rfl, (blk_cell BK90019.out 1).trans rfl, (blk_cell BK90007.out 0).trans rfl, (blk_cell BK90007.out 1).trans rfl, HS4_⟩ (fun hHeld => ?_)
                    clear hK K
                    refine norm_ (a' := ?_) ?_ ?_
                    rotate_left
                    · show Act.put _ (some 10) _ = _
                      simp only [Act.put, List.setIfInBounds_toArray, List.set_cons_zero, List.set_cons_succ, i64_w, i32_w]
                      rfl
                    exact norm_ (by simp only [putAll, Act.put, List.setIfInBounds_toArray, List.set_cons_zero, List.set_cons_succ]) (hCont (v90025, gb90028) _ ⟨hHeld, (by (with_reducible repeat (first | apply Kd.R_alloc | apply Kd.R_drewN | apply Kd.R_drew)); exact Kd.R_mono HO90026.out (fun _ hk => ⟨hk.1.1.2, ⟨hk.1.2, hk.2⟩⟩)), (by (with_reducible repeat (first | apply Kd.Q_alloc | apply Kd.Q_drewN | apply Kd.Q_drew)); exact Kd.Q_mono HO_90008001.out (fun _ hk => ⟨hk.2, ⟨hk.1.1, hk.1.2⟩⟩)), (by (with_reducible repeat (first | apply Kd.Q_alloc | apply Kd.Q_drewN | apply Kd.Q_drew)); exact Kd.Q_mono HO_90014001.out (fun _ hk => ⟨hk.2, ⟨hk.1.1, hk.1.2⟩⟩)), (by (with_reducible repeat (first | apply Kd.Q_alloc | apply Kd.Q_drewN | apply Kd.Q_drew)); exact Kd.Q_mono HO_90020001.out (fun _ hk => ⟨hk.2, ⟨hk.1.1, hk.1.2⟩⟩)), (by (with_reducible repeat (first | refine blk_drewN ?_ _ | refine blk_drew ?_ | refine blk_alloc ?_ _)); exact BK90007.out), (by (with_reducible repeat (first | refine blk_drewN ?_ _ | refine blk_drew ?_ | refine blk_alloc ?_ _)); exact BK90013.out), (by (with_reducible repeat (first | refine blk_drewN ?_ _ | refine blk_drew ?_ | refine blk_alloc ?_ _)); exact BK90019.out), (by (with_reducible repeat (first | refine blk_drewN ?_ _ | refine blk_drew ?_ | refine blk_alloc ?_ _)); exact BK90028.out), GW90028.out, GE90028.out, NB90007_90028.out, NB90028_90007.out, NB90013_90028.out, NB90028_90013.out, NB90019_90028.out, NB90028_90019.out, (by repeat (first | (with_reducible first | exact HB.out | apply below_alloc | apply pw_below_drewN | apply below_drew1 | refine below_set ?_ GE90007.out | refine below_set ?_ GE90013.out | refine below_set ?_ GE90019.out | refine below_set ?_ GE90028.out) | exact HB.out))⟩)
                  · skip
                    refine box_step ?hg (N := 10) ?hd (cs := #[.int .i64 0, .slice none 0 0]) (t := 27) ?hr ?_; (case hd => rfl); (case hg => rfl); (case hr => first | (go_simp; done) | (go_simp; rfl))
                    intro gb90028 hg w52 hbox hb
                    have HS4_ := (hb.cell (World.block_lt_of_cell? _ _ (hHeld.2.2.2.2))).trans (hHeld.2.2.2.2)
                    have n0_ := Aside0.mk (Kd.Q_below (by (with_reducible repeat (first | apply Kd.Q_alloc | apply Kd.Q_drewN | apply Kd.Q_drew)); exact HO_90008001.out) hb)
                    have n1_ := Aside0.mk (Kd.Q_below (by (with_reducible repeat (first | apply Kd.Q_alloc | apply Kd.Q_drewN | apply Kd.Q_drew)); exact HO_90014001.out) hb)
                    have n2_ := Aside0.mk (Kd.Q_below (by (with_reducible repeat (first | apply Kd.Q_alloc | apply Kd.Q_drewN | apply Kd.Q_drew)); exact HO_90020001.out) hb)
                    have n3_ := Aside0.mk (blk_below (g := gb90007) (o := .cells #[.int .i64 t90001, .slice (some ad90022) t90002.length co10] 27 (0, 0)) (by (with_reducible repeat (first | refine blk_drewN ?_ _ | refine blk_drew ?_ | refine blk_alloc ?_ _)); exact BK90007.out) hb)
                    have n4_ := Aside0.mk (blk_below (g := gb90013) (o := .cells #[.int .i64 t90008, .slice Ao15 t90009.length co15] 27 (0, 0)) (by (with_reducible repeat (first | refine blk_drewN ?_ _ | refine blk_drew ?_ | refine blk_alloc ?_ _)); exact BK90013.out) hb)
                    have n5_ := Aside0.mk (blk_below (g := gb90019) (o := .cells #[.int .i64 t90014, .slice Ao22 t90015.length co22] 27 (0, 0)) (by (with_reducible repeat (first | refine blk_drewN ?_ _ | refine blk_drew ?_ | refine blk_alloc ?_ _)); exact BK90019.out) hb)
                    have n6_ := Aside0.mk (below_step (by repeat (first | (with_reducible first | exact HB.out | apply below_alloc | apply pw_below_drewN | apply below_drew1 | refine below_set ?_ GE90007.out | refine below_set ?_ GE90013.out | refine below_set ?_ GE90019.out) | exact HB.out)) hb)
                    have n7_ := Aside0.mk (hbox)
                    have n8_ := Aside0.mk ((by rw [hg]; exact (below_size (by repeat (first | (with_reducible first | exact HB.out | apply below_alloc | apply pw_below_drewN | apply below_drew1 | refine below_set ?_ GE90007.out | refine below_set ?_ GE90013.out | refine below_set ?_ GE90019.out) | exact HB.out))) : w.heap.size ≤ gb90028))
                    have n9_ := Aside0.mk ((by rw [hg]; exact (below_size (by repeat (first | (with_reducible first | exact HB.out | apply below_alloc | apply pw_below_drewN | apply below_drew1 | refine below_set ?_ GE90007.out | refine below_set ?_ GE90013.out | refine below_set ?_ GE90019.out) | exact HB.out))) : w.heap.size ≤ gb90028))
                    have n10_ := Aside0.mk ((by rw [hg]; exact Nat.ne_of_lt (blk_lt (g := gb90007) (o := .cells #[.int .i64 t90001, .slice (some ad90022) t90002.length co10] 27 (0, 0)) (by (with_reducible repeat (first | refine blk_drewN ?_ _ | refine blk_drew ?_ | refine blk_alloc ?_ _)); exact BK90007.out)) : gb90007 ≠ gb90028))
                    have n11_ := Aside0.mk ((by rw [hg]; exact Nat.ne_of_gt (blk_lt (g := gb90007) (o := .cells #[.int .i64 t90001, .slice (some ad90022) t90002.length co10] 27 (0, 0)) (by (with_reducible repeat (first | refine blk_drewN ?_ _ | refine blk_drew ?_ | refine blk_alloc ?_ _)); exact BK90007.out)) : gb90028 ≠ gb90007))
                    have n12_ := Aside0.mk ((by rw [hg]; exact Nat.ne_of_lt (blk_lt (g := gb90013) (o := .cells #[.int .i64 t90008, .slice Ao15 t90009.length co15] 27 (0, 0)) (by (with_reducible repeat (first | refine blk_drewN ?_ _ | refine blk_drew ?_ | refine blk_alloc ?_ _)); exact BK90013.out)) : gb90013 ≠ gb90028))
                    have n13_ := Aside0.mk ((by rw [hg]; exact Nat.ne_of_gt (blk_lt (g := gb90013) (o := .cells #[.int .i64 t90008, .slice Ao15 t90009.length co15] 27 (0, 0)) (by (with_reducible repeat (first | refine blk_drewN ?_ _ | refine blk_drew ?_ | refine blk_alloc ?_ _)); exact BK90013.out)) : gb90028 ≠ gb90013))
                    have n14_ := Aside0.mk ((by rw [hg]; exact Nat.ne_of_lt (blk_lt (g := gb90019) (o := .cells #[.int .i64 t90014, .slice Ao22 t90015.length co22] 27 (0, 0)) (by (with_reducible repeat (first | refine blk_drewN ?_ _ | refine blk_drew ?_ | refine blk_alloc ?_ _)); exact BK90019.out)) : gb90019 ≠ gb90028))
                    have n15_ := Aside0.mk ((by rw [hg]; exact Nat.ne_of_gt (blk_lt (g := gb90019) (o := .cells #[.int .i64 t90014, .slice Ao22 t90015.length co22] 27 (0, 0)) (by (with_reducible repeat (first | refine blk_drewN ?_ _ | refine blk_drew ?_ | refine blk_alloc ?_ _)); exact BK90019.out)) : gb90028 ≠ gb90019))
                    clear HO_90008001
                    clear HO_90014001
                    clear HO_90020001
                    clear BK90007
                    clear BK90013
                    clear BK90019
                    clear HB
                    have HO_90008001 := n0_
                    have HO_90014001 := n1_
                    have HO_90020001 := n2_
                    have BK90007 := n3_
                    have BK90013 := n4_
                    have BK90019 := n5_
                    have HB := n6_
                    have BK90028 := n7_
                    have GW90028 := n8_
                    have GE90028 := n9_
                    have NB90007_90028 := n10_
                    have NB90028_90007 := n11_
                    have NB90013_90028 := n12_
                    have NB90028_90013 := n13_
                    have NB90019_90028 := n14_
                    have NB90028_90019 := n15_
                    clear n0_ n1_ n2_ n3_ n4_ n5_ n6_ n7_ n8_ n9_ n10_ n11_ n12_ n13_ n14_ n15_
                    clear hb hbox hg
                    refine hK.out _ _ ⟨(blk_cell BK90019.out 0).trans rfl, (blk_cell BK90019.out 1).trans rfl, (blk_cell BK90007.out 0).trans rfl, (blk_cell BK90007.out 1).trans rfl, HS4_⟩ (fun hHeld => ?_)
                    clear hK K
                    refine norm_ (a' := ?_) ?_ ?_
                    rotate_left
                    · show Act.put _ (some 10) _ = _
                      simp only [Act.put, List.setIfInBounds_toArray, List.set_cons_zero, List.set_cons_succ, i64_w, i32_w]
                      rfl
                    refine one_ (i := 7) (N := some 64) #[true, true, true, true, true, true, true, true, false, false, false, true, false, false] rfl rfl (one_of HT_.out (by kernel_rfl)) (by decide) (fun K hK => ?_)
                    refine goes_ Try.func30 (by kernel_rfl) rfl #[.agg #[.int .i64 t90014, .slice Ao22 t90015.length co22], .int .i64 t90005, .int .i64 (rd t90002 t90005)] (by rfl) rfl rfl (by (try simp only [List.map_toArray, List.map_cons, List.map_nil]); first | done | rfl | (simp only [List.length_drop, List.length_take]; rfl)) ?_
                    with_reducible refine (impl_MapMove.calls kj5 t90014 _ _ t90015 t90005 (rd t90002 t90005) t90023 t90024 t90027 _ ?side1 ?side2 A49.out).mono ?_
                    (case side1 => repeat (first | exact (Kd.Q_reads' HO_90020001.out).2.2 | (with_reducible refine Kd.C_alloc ?_ _) | (with_reducible refine Kd.C_drewN ?_ _) | (with_reducible refine Kd.C_drew ?_)))
                    (case side2 => exact (Kd.Q_reads' HO_90020001.out).2.1)
                    rintro e w53 ⟨v90025, rfl, ho0, hb⟩
                    have HS4_ := (hb.cell (World.block_lt_of_cell? _ _ (hHeld.2.2.2.2))).trans (hHeld.2.2.2.2)
                    refine ⟨_, rfl, ?_⟩
                    have n0_ := Aside0.mk (Kd.Q_elder' (by (with_reducible repeat (first | apply Kd.Q_alloc | apply Kd.Q_drewN | apply Kd.Q_drew)); exact HO_90008001.out) (Kd.R_base ho0) hb)
                    have n1_ := Aside0.mk (Kd.Q_elder' (by (with_reducible repeat (first | apply Kd.Q_alloc | apply Kd.Q_drewN | apply Kd.Q_drew)); exact HO_90014001.out) (Kd.R_base ho0) hb)
                    have n2_ := Aside0.mk (Kd.Q_elder' (by (with_reducible repeat (first | apply Kd.Q_alloc | apply Kd.Q_drewN | apply Kd.Q_drew)); exact HO_90020001.out) (Kd.R_base ho0) hb)
                    have n3_ := Aside0.mk (Kd.R_lower (Kd.R_new' (Kd.R_new' (Kd.R_new' ho0 (Kd.Q_lt (by (with_reducible repeat (first | apply Kd.Q_alloc | apply Kd.Q_drewN | apply Kd.Q_drew)); exact HO_90008001.out))) (Kd.Q_lt (by (with_reducible repeat (first | apply Kd.Q_alloc | apply Kd.Q_drewN | apply Kd.Q_drew)); exact HO_90014001.out))) (Kd.Q_lt (by (with_reducible repeat (first | apply Kd.Q_alloc | apply Kd.Q_drewN | apply Kd.Q_drew)); exact HO_90020001.out))) (below_size (by repeat (first | (with_reducible first | exact HB.out | apply below_alloc | apply pw_below_drewN | apply below_drew1 | refine below_set ?_ GE90007.out | refine below_set ?_ GE90013.out | refine below_set ?_ GE90019.out | refine below_set ?_ GE90028.out) | exact HB.out))))
                    have n4_ := Aside0.mk (blk_below (g := gb90007) (o := .cells #[.int .i64 t90001, .slice (some ad90022) t90002.length co10] 27 (0, 0)) (by (with_reducible repeat (first | refine blk_drewN ?_ _ | refine blk_drew ?_ | refine blk_alloc ?_ _)); exact BK90007.out) hb)
                    have n5_ := Aside0.mk (blk_below (g := gb90013) (o := .cells #[.int .i64 t90008, .slice Ao15 t90009.length co15] 27 (0, 0)) (by (with_reducible repeat (first | refine blk_drewN ?_ _ | refine blk_drew ?_ | refine blk_alloc ?_ _)); exact BK90013.out) hb)
                    have n6_ := Aside0.mk (blk_below (g := gb90019) (o := .cells #[.int .i64 t90014, .slice Ao22 t90015.length co22] 27 (0, 0)) (by (with_reducible repeat (first | refine blk_drewN ?_ _ | refine blk_drew ?_ | refine blk_alloc ?_ _)); exact BK90019.out) hb)
                    have n7_ := Aside0.mk (blk_below (g := gb90028) (o := .cells #[.int .i64 0, .slice none 0 0] 27 (0, 0)) (by (with_reducible repeat (first | refine blk_drewN ?_ _ | refine blk_drew ?_ | refine blk_alloc ?_ _)); exact BK90028.out) hb)
                    have n8_ := Aside0.mk (below_step (by repeat (first | (with_reducible first | exact HB.out | apply below_alloc | apply pw_below_drewN | apply below_drew1 | refine below_set ?_ GE90007.out | refine below_set ?_ GE90013.out | refine below_set ?_ GE90019.out | refine below_set ?_ GE90028.out) | exact HB.out)) hb)
                    clear HO_90008001
                    clear HO_90014001
                    clear HO_90020001
                    clear BK90007
                    clear BK90013
                    clear BK90019
                    clear BK90028
                    clear HB
                    have HO_90008001 := n0_
                    have HO_90014001 := n1_
                    have HO_90020001 := n2_
                    have HO90026 := n3_
                    have BK90007 := n4_
                    have BK90013 := n5_
                    have BK90019 := n6_
                    have BK90028 := n7_
                    have HB := n8_
                    clear n0_ n1_ n2_ n3_ n4_ n5_ n6_ n7_ n8_
                    (try clear hb)
                    (try clear hb2)
                    (try clear hk)
                    (try clear hi)
                    (try clear ho0)
                    refine hK.out _ _ ⟨(blk_cell BK90019.out 0).trans rfl, (blk_cell BK90019.out 1).trans rfl, (blk_cell BK90007.out 0).trans rfl, (blk_cell BK90007.out 1).trans rfl, HS4_⟩ (fun hHeld => ?_)
                    clear hK K
                    refine norm_ (a' := ?_) ?_ ?_
                    rotate_left
                    · show Act.put _ (some 64) _ = _
                      simp only [Act.put, List.setIfInBounds_toArray, List.set_cons_zero, List.set_cons_succ, i64_w, i32_w]
                      rfl
                    refine pure_ (i := 8) (N := some 56) (v := ?_) (a' := ?_) #[true, true, true, true, true, true, true, true, true, false, false, true, false, false] rfl rfl (any_of HT_.out (by kernel_rfl)) (fun _ _ _ h => h) (Or.inl ⟨by rfl, ?_⟩) ?_ ?_
                    rotate_left
                    · intro w'
                      go_simp
                      with_reducible rfl
                    rotate_left
                    · simp only [Act.put, List.setIfInBounds_toArray, List.set_cons_zero, List.set_cons_succ, i64_w, i32_w]
                      rfl
                    refine pure_ (i := 9) (N := some 65) (v := ?_) (a' := ?_) #[true, true, true, true, true, true, true, true, true, true, false, true, false, false] rfl rfl (any_of HT_.out (by kernel_rfl)) (fun _ _ _ h => h) (Or.inl ⟨by rfl, ?_⟩) ?_ ?_
                    rotate_left
                    · intro w'
                      go_simp
                      with_reducible rfl
                    rotate_left
                    · simp only [Act.put, List.setIfInBounds_toArray, List.set_cons_zero, List.set_cons_succ, i64_w, i32_w]
                      rfl
                    refine pure_ (i := 10) (N := some 66) (v := ?_) (a' := ?_) #[true, true, true, true, true, true, true, true, true, true, true, true, false, false] rfl rfl (any_of HT_.out (by kernel_rfl)) (fun _ _ _ h => h) (Or.inl ⟨by rfl, ?_⟩) ?_ ?_
                    rotate_left
                    · intro w'
                      go_simp
                      with_reducible rfl
                    rotate_left
                    · simp only [Act.put, List.setIfInBounds_toArray, List.set_cons_zero, List.set_cons_succ, i64_w, i32_w]
                      rfl
                    exact norm_ (by simp only [putAll, Act.put, List.setIfInBounds_toArray, List.set_cons_zero, List.set_cons_succ]) (hCont (v90025, gb90028) _ ⟨hHeld, (by (with_reducible repeat (first | apply Kd.R_alloc | apply Kd.R_drewN | apply Kd.R_drew)); exact Kd.R_mono HO90026.out (fun _ hk => ⟨hk.1.1.2, ⟨hk.1.2, hk.2⟩⟩)), (by (with_reducible repeat (first | apply Kd.Q_alloc | apply Kd.Q_drewN | apply Kd.Q_drew)); exact Kd.Q_mono HO_90008001.out (fun _ hk => ⟨hk.2, ⟨hk.1.1, hk.1.2⟩⟩)), (by (with_reducible repeat (first | apply Kd.Q_alloc | apply Kd.Q_drewN | apply Kd.Q_drew)); exact Kd.Q_mono HO_90014001.out (fun _ hk => ⟨hk.2, ⟨hk.1.1, hk.1.2⟩⟩)), (by (with_reducible repeat (first | apply Kd.Q_alloc | apply Kd.Q_drewN | apply Kd.Q_drew)); exact Kd.Q_mono HO_90020001.out (fun _ hk => ⟨hk.2, ⟨hk.1.1, hk.1.2⟩⟩)), (by (with_reducible repeat (first | refine blk_drewN ?_ _ | refine blk_drew ?_ | refine blk_alloc ?_ _)); exact BK90007.out), (by (with_reducible repeat (first | refine blk_drewN ?_ _ | refine blk_drew ?_ | refine blk_alloc ?_ _)); exact BK90013.out), (by (with_reducible repeat (first | refine blk_drewN ?_ _ | refine blk_drew ?_ | refine blk_alloc ?_ _)); exact BK90019.out), (by (with_reducible repeat (first | refine blk_drewN ?_ _ | refine blk_drew ?_ | refine blk_alloc ?_ _)); exact BK90028.out), GW90028.out, GE90028.out, NB90007_90028.out, NB90028_90007.out, NB90013_90028.out, NB90028_90013.out, NB90019_90028.out, NB90028_90019.out, (by repeat (first | (with_reducible first | exact HB.out | apply below_alloc | apply pw_below_drewN | apply below_drew1 | refine below_set ?_ GE90007.out | refine below_set ?_ GE90013.out | refine below_set ?_ GE90019.out | refine below_set ?_ GE90028.out) | exact HB.out))⟩)
                rintro ⟨v90025, gb90028⟩ w54 ⟨hS_, h0_, h1_, h2_, h3_, h4_, h5_, h6_, h7_, h8_, h9_, h10_, h11_, h12_, h13_, h14_, h15_, h16_⟩
                have n0_ : Aside0 (Kd.R (Kd.int .i64) 3 w54 w.heap.size (fun k_ => some k_ ≠ (.slice (some ad90022) t90002.length co10 : Value).ownBlock ∧ some k_ ≠ (.slice Ao15 t90009.length co15 : Value).ownBlock ∧ some k_ ≠ (.slice Ao22 t90015.length co22 : Value).ownBlock) v90025 t90024) := ⟨h0_⟩
                have n1_ : Aside0 (Kd.Q (Kd.int .i64) 3 w54 w.heap.size (fun k_ => some k_ ≠ (v90025 : Value).ownBlock ∧ some k_ ≠ (.slice Ao15 t90009.length co15 : Value).ownBlock ∧ some k_ ≠ (.slice Ao22 t90015.length co22 : Value).ownBlock) (.slice (some ad90022) t90002.length co10) t90002) := ⟨h1_⟩
                have n2_ : Aside0 (Kd.Q (Kd.int .i64) 3 w54 w.heap.size (fun k_ => some k_ ≠ (v90025 : Value).ownBlock ∧ some k_ ≠ (.slice (some ad90022) t90002.length co10 : Value).ownBlock ∧ some k_ ≠ (.slice Ao22 t90015.length co22 : Value).ownBlock) (.slice Ao15 t90009.length co15) t90009) := ⟨h2_⟩
                have n3_ : Aside0 (Kd.Q (Kd.int .i64) 3 w54 w.heap.size (fun k_ => some k_ ≠ (v90025 : Value).ownBlock ∧ some k_ ≠ (.slice (some ad90022) t90002.length co10 : Value).ownBlock ∧ some k_ ≠ (.slice Ao15 t90009.length co15 : Value).ownBlock) (.slice Ao22 t90015.length co22) t90015) := ⟨h3_⟩
                have n4_ : Aside0 (w54.heap[gb90007]? = some (.cells #[.int .i64 t90001, .slice (some ad90022) t90002.length co10] 27 (0, 0))) := ⟨h4_⟩
                have n5_ : Aside0 (w54.heap[gb90013]? = some (.cells #[.int .i64 t90008, .slice Ao15 t90009.length co15] 27 (0, 0))) := ⟨h5_⟩
                have n6_ : Aside0 (w54.heap[gb90019]? = some (.cells #[.int .i64 t90014, .slice Ao22 t90015.length co22] 27 (0, 0))) := ⟨h6_⟩
                have n7_ : Aside0 (w54.heap[gb90028]? = some (.cells #[.int .i64 0, .slice none 0 0] 27 (0, 0))) := ⟨h7_⟩
                have n8_ : Aside0 (w.heap.size ≤ gb90028) := ⟨h8_⟩
                have n9_ : Aside0 (w.heap.size ≤ gb90028) := ⟨h9_⟩
                have n10_ : Aside0 (gb90007 ≠ gb90028) := ⟨h10_⟩
                have n11_ : Aside0 (gb90028 ≠ gb90007) := ⟨h11_⟩
                have n12_ : Aside0 (gb90013 ≠ gb90028) := ⟨h12_⟩
                have n13_ : Aside0 (gb90028 ≠ gb90013) := ⟨h13_⟩
                have n14_ : Aside0 (gb90019 ≠ gb90028) := ⟨h14_⟩
                have n15_ : Aside0 (gb90028 ≠ gb90019) := ⟨h15_⟩
                have n16_ : Aside0 (Below w.heap.size w w54) := ⟨h16_⟩
                clear HO_90008001
                clear HO_90014001
                clear HO_90020001
                clear BK90007
                clear BK90013
                clear BK90019
                clear HB
                clear h0_ h1_ h2_ h3_ h4_ h5_ h6_ h7_ h8_ h9_ h10_ h11_ h12_ h13_ h14_ h15_ h16_
                have HO90026 := n0_
                have HO_90008001 := n1_
                have HO_90014001 := n2_
                have HO_90020001 := n3_
                have BK90007 := n4_
                have BK90013 := n5_
                have BK90019 := n6_
                have BK90028 := n7_
                have GW90028 := n8_
                have GE90028 := n9_
                have NB90007_90028 := n10_
                have NB90028_90007 := n11_
                have NB90013_90028 := n12_
                have NB90028_90013 := n13_
                have NB90019_90028 := n14_
                have NB90028_90019 := n15_
                have HB := n16_
                clear n0_ n1_ n2_ n3_ n4_ n5_ n6_ n7_ n8_ n9_ n10_ n11_ n12_ n13_ n14_ n15_ n16_
                have hHeld : w54.cell? ⟨gb90019, 0, none⟩ = some (.int .i64 t90014) ∧ w54.cell? ⟨gb90019, 1, none⟩ = some (.slice Ao22 t90015.length co22) ∧ w54.cell? ⟨gb90007, 0, none⟩ = some (.int .i64 t90001) ∧ w54.cell? ⟨gb90007, 1, none⟩ = some (.slice (some ad90022) t90002.length co10) ∧ w54.cell? (ad90022.add (t90005).toNat) = some (.int .i64 (rd t90002 t90005)) := hS_
                obtain ⟨Ao56, co56, eo56⟩ := Kd.R_slice HO90026.out
                (first | subst eo56 | (injection eo56 with f1_ f2_ f3_; have f4_ := f1_.symm; have f5_ := f3_.symm; clear f1_ f2_ f3_; subst f4_; subst f5_))
                refine norm_ (a' := ?_) ?_ ?_
                rotate_left
                · simp only [putAll, Act.put, List.setIfInBounds_toArray, List.set_cons_zero, List.set_cons_succ]
                  rfl
                refine one_ (i := 12) (N := none) #[true, true, true, true, true, true, true, true, true, true, true, true, true, false] rfl rfl (one_of HT_.out (by kernel_rfl)) (by decide) (fun K hK => ?_)
                have hs55 : w54.cell? ⟨gb90028, 0, none⟩ = some (.int .i64 0) := (blk_cell BK90028.out 0).trans rfl
                have hfs55 := blk_frozen BK90028.out 0
                have hns55_0 := NB90007_90028.out
                have hns55_1 := NB90013_90028.out
                have hns55_2 := NB90019_90028.out
                have hms55_0 := NB90028_90007.out
                have hms55_1 := NB90028_90013.out
                have hms55_2 := NB90028_90019.out
                have hs57 : w54.cell? ⟨gb90028, 1, none⟩ = some (.slice none 0 0) := (blk_cell BK90028.out 1).trans rfl
                have hfs57 := blk_frozen BK90028.out 1
                have hns57_0 := NB90007_90028.out
                have hns57_1 := NB90013_90028.out
                have hns57_2 := NB90019_90028.out
                have hms57_0 := NB90028_90007.out
                have hms57_1 := NB90028_90013.out
                have hms57_2 := NB90028_90019.out
                refine skip_ (w1 := ?_) (by rfl) rfl ?_ ?_
                rotate_left
                · go_simp
                  rfl
                refine hK.out _ _ ⟨((cell_far (p := ⟨gb90028, _, none⟩) NB90019_90028.out _).trans (((cell_far (p := ⟨gb90028, _, none⟩) NB90019_90028.out _).trans (hHeld.1)))), ((cell_far (p := ⟨gb90028, _, none⟩) NB90019_90028.out _).trans (((cell_far (p := ⟨gb90028, _, none⟩) NB90019_90028.out _).trans (hHeld.2.1)))), ((cell_far (p := ⟨gb90028, _, none⟩) NB90007_90028.out _).trans (((cell_far (p := ⟨gb90028, _, none⟩) NB90007_90028.out _).trans (hHeld.2.2.1)))), ((cell_far (p := ⟨gb90028, _, none⟩) NB90007_90028.out _).trans (((cell_far (p := ⟨gb90028, _, none⟩) NB90007_90028.out _).trans (hHeld.2.2.2.1)))), ((cell_far (p := ⟨gb90028, _, none⟩) (by first | exact Kd.own_blk (Kd.Q_ne HO_90008001.out BK90028.out (by decide)) | (rw [add_block]; exact Kd.own_blk (Kd.Q_ne HO_90008001.out BK90028.out (by decide))) | (show (Addr.add _ _).block ≠ _; rw [add_block]; exact Kd.own_blk (Kd.Q_ne HO_90008001.out BK90028.out (by decide))) | (dsimp only; exact Kd.own_blk (Kd.Q_ne HO_90008001.out BK90028.out (by decide)))) _).trans (((cell_far (p := ⟨gb90028, _, none⟩) (by first | exact Kd.own_blk (Kd.Q_ne HO_90008001.out BK90028.out (by decide)) | (rw [add_block]; exact Kd.own_blk (Kd.Q_ne HO_90008001.out BK90028.out (by decide))) | (show (Addr.add _ _).block ≠ _; rw [add_block]; exact Kd.own_blk (Kd.Q_ne HO_90008001.out BK90028.out (by decide))) | (dsimp only; exact Kd.own_blk (Kd.Q_ne HO_90008001.out BK90028.out (by decide)))) _).trans (hHeld.2.2.2.2))))⟩ (fun hHeld => ?_)
                clear hK K
                refine pure_ (i := 13) (N := some 11) (v := ?_) (a' := ?_) #[true, true, true, true, true, true, true, true, true, true, true, true, true, true] rfl rfl (any_of HT_.out (by kernel_rfl)) (fun _ _ _ h => h) (Or.inl ⟨by rfl, ?_⟩) ?_ ?_
                rotate_left
                · intro w'
                  go_simp
                  with_reducible rfl
                rotate_left
                · simp only [Act.put, List.setIfInBounds_toArray, List.set_cons_zero, List.set_cons_succ, i64_w, i32_w]
                  rfl
                refine done_ (done_of HT_.out (by kernel_rfl)) ?_
                try go_wp2
                go_ret
                exact ⟨by first | rfl | (simp [errW_none, errW_some] <;> rfl) | (simp [*, errW_none, errW_some] <;> rfl), by repeat (first | (with_reducible first | exact HB.out | apply below_alloc | apply pw_below_drewN | apply below_drew1 | refine below_set ?_ GE90007.out | refine below_set ?_ GE90013.out | refine below_set ?_ GE90019.out | refine below_set ?_ GE90028.out) | exact HB.out)⟩
              · rw [if_neg c50] at H
                have c50b0 : (t90027 == 2) = false := beq_eq_false_iff_ne.mpr c50
                have c50b1 : (t90027 != 2) = true := bne_iff_ne.mpr c50
                by_cases c58 : t90027 = 0
                · rw [if_pos c58] at H
                  have c58b0 : (t90027 == 0) = true := beq_iff_eq.mpr c58
                  have c58b1 : (t90027 != 0) = false := bne_eq_false_iff_eq.mpr c58
                  clear c58
                  replace H := Option.bind_eq_some_iff.mp H
                  obtain ⟨t90029, A590, H⟩ := H
                  replace H : (if t90029 = true then (some (t90023 == (wrap64 (t90001 + 2)))) else (some false)) = some r := H
                  have A59 := Aside0.mk A590
                  clear A590
                  by_cases c60 : t90029 = true
                  · subst c60
                    have H1 : (some (t90023 == (wrap64 (t90001 + 2)))) = some r := by rw [if_pos rfl] at H; exact H
                    clear H
                    have H := H1
                    clear H1
                    obtain rfl := Option.some.inj H
                    try go_wp2
                    have n0_ := Aside0.mk (Kd.Q_drew HO_90008001.out)
                    have n1_ := Aside0.mk (Kd.Q_drew HO_90014001.out)
                    have n2_ := Aside0.mk (Kd.Q_drew HO_90020001.out)
                    have n3_ := Aside0.mk (blk_drew BK90007.out)
                    have n4_ := Aside0.mk (blk_drew BK90013.out)
                    have n5_ := Aside0.mk (blk_drew BK90019.out)
                    have n6_ := Aside0.mk (below_drew1 HB.out)
                    clear HO_90008001
                    clear HO_90014001
                    clear HO_90020001
                    clear BK90007
                    clear BK90013
                    clear BK90019
                    clear HB
                    have HO_90008001 := n0_
                    have HO_90014001 := n1_
                    have HO_90020001 := n2_
                    have BK90007 := n3_
                    have BK90013 := n4_
                    have BK90019 := n5_
                    have HB := n6_
                    clear n0_ n1_ n2_ n3_ n4_ n5_ n6_
                    have p90022 : 0 ≤ (t90005 : Int) := of_decide_eq_true (by first | (with_reducible assumption) | assumption)
                    have q90022 : t90005 < (t90002.length : Int) := of_decide_eq_true (by first | (with_reducible assumption) | assumption)
                    obtain ⟨ad90022, e90022, hx90022_0⟩ := Kd.at_int (Kd.Q_reads' HO_90008001.out).2.2 t90005 p90022 q90022
                    cases e90022
                    replace p90022 := eq_true p90022
                    replace q90022 := eq_true q90022
                    refine start_ (n := 14) (S := fun w' => w'.cell? ⟨gb90019, 0, none⟩ = some (.int .i64 t90014) ∧ w'.cell? ⟨gb90019, 1, none⟩ = some (.slice Ao22 t90015.length co22) ∧ w'.cell? ⟨gb90007, 0, none⟩ = some (.int .i64 t90001) ∧ w'.cell? ⟨gb90007, 1, none⟩ = some (.slice (some ad90022) t90002.length co10) ∧ w'.cell? (ad90022.add (t90005).toNat) = some (.int .i64 (rd t90002 t90005))) (ds := []) #[false, false, false, false, false, false, false, false, false, false, false, false, false, false] (by kernel_rfl) rfl rfl ⟨(blk_cell BK90019.out 0).trans rfl, (blk_cell BK90019.out 1).trans rfl, (blk_cell BK90007.out 0).trans rfl, (blk_cell BK90007.out 1).trans rfl, hx90022_0⟩ (fun hHeld => ?_); refine with_tabW laws_FnMapBack.tab8 laws_FnMapBack.bits8 (fun HT_ HW_ => ?_)
                    generalize wc.drew = w61 at HO_90008001 HO_90014001 HO_90020001 BK90007 BK90013 BK90019 HB hx90022_0 hHeld ⊢
                    refine pure_ (i := 1) (N := some 58) (v := ?_) (a' := ?_) #[false, true, false, false, false, false, false, false, false, false, false, false, false, false] rfl rfl (any_of HT_.out (by kernel_rfl)) (fun _ _ _ h => h) (Or.inl ⟨by rfl, ?_⟩) ?_ ?_
                    rotate_left
                    · intro w'
                      go_simp
                      with_reducible rfl
                    rotate_left
                    · simp only [Act.put, List.setIfInBounds_toArray, List.set_cons_zero, List.set_cons_succ, i64_w, i32_w]
                      rfl
                    refine pure_ (i := 2) (N := some 59) (v := ?_) (a' := ?_) #[false, true, true, false, false, false, false, false, false, false, false, false, false, false] rfl rfl (any_of HT_.out (by kernel_rfl)) (fun _ _ _ h => h) (Or.inl ⟨by rfl, ?_⟩) ?_ ?_
                    rotate_left
                    · intro w'
                      go_simp
                      with_reducible rfl
                    rotate_left
                    · simp only [Act.put, List.setIfInBounds_toArray, List.set_cons_zero, List.set_cons_succ, i64_w, i32_w]
                      rfl
                    refine pure_ (i := 4) (N := some 61) (v := ?_) (a' := ?_) #[false, true, true, false, true, false, false, false, false, false, false, false, false, false] rfl rfl (any_of HT_.out (by kernel_rfl)) (fun _ _ _ h => h) (Or.inl ⟨by rfl, ?_⟩) ?_ ?_
                    rotate_left
                    · intro w'
                      go_simp
                      with_reducible rfl
                    rotate_left
                    · simp only [Act.put, List.setIfInBounds_toArray, List.set_cons_zero, List.set_cons_succ, i64_w, i32_w]
                      rfl
                    refine take_ (i := 0) (N := some 57) (v := ?_) (a' := ?_) #[true, true, true, false, true, false, false, false, false, false, false, false, false, false] rfl rfl (take_ofW HT_.out HW_.out (by kernel_rfl)) (fun _ _ _ h => h) (Or.inl ⟨by rfl, ?_⟩) hHeld ?_ ?_
                    rotate_left
                    · rintro w' ⟨s0, s1, s2, s3, s4⟩
                      go_simp
                      with_reducible rfl
                    rotate_left
                    · simp only [Act.put, List.setIfInBounds_toArray, List.set_cons_zero, List.set_cons_succ, i64_w, i32_w]
                      rfl
                    refine take_ (i := 3) (N := some 60) (v := ?_) (a' := ?_) #[true, true, true, true, true, false, false, false, false, false, false, false, false, false] rfl rfl (take_ofW HT_.out HW_.out (by kernel_rfl)) (fun _ _ _ h => h) (Or.inl ⟨by rfl, ?_⟩) hHeld ?_ ?_
                    rotate_left
                    · rintro w' ⟨s0, s1, s2, s3, s4⟩
                      go_simp
                      with_reducible rfl
                    rotate_left
                    · simp only [Act.put, List.setIfInBounds_toArray, List.set_cons_zero, List.set_cons_succ, i64_w, i32_w]
                      rfl
                    refine pure_ (i := 5) (N := some 62) (v := ?_) (a' := ?_) #[true, true, true, true, true, true, false, false, false, false, false, false, false, false] rfl rfl (any_of HT_.out (by kernel_rfl)) (fun _ _ _ h => h) (Or.inl ⟨by rfl, ?_⟩) ?_ ?_
                    rotate_left
                    · intro w'
                      go_simp
                      with_reducible rfl
                    rotate_left
                    · simp only [Act.put, List.setIfInBounds_toArray, List.set_cons_zero, List.set_cons_succ, i64_w, i32_w]
                      rfl
                    refine take_ (i := 6) (N := some 63) (v := ?_) (a' := ?_) #[true, true, true, true, true, true, true, false, false, false, false, false, false, false] rfl rfl (take_ofW HT_.out HW_.out (by kernel_rfl)) (fun _ _ _ h => h) (Or.inl ⟨by rfl, ?_⟩) hHeld ?_ ?_
                    rotate_left
                    · rintro w' ⟨s0, s1, s2, s3, s4⟩
                      go_simp
                      with_reducible rfl
                    rotate_left
                    · simp only [Act.put, List.setIfInBounds_toArray, List.set_cons_zero, List.set_cons_succ, i64_w, i32_w]
                      rfl
                    refine join_ (σ := Value × Nat) 2 #[true, true, true, true, true, true, true, true, true, true, true, true, false, false] (fun s_ => [(64, .tuple #[.agg #[.int .i64 t90023, s_.1], .int .i64 t90027]), (10, .pointer (some ⟨s_.2, 0, none⟩)), (56, .tuple #[.agg #[.int .i64 t90023, s_.1], .int .i64 t90027]), (65, .agg #[.int .i64 t90023, s_.1]), (66, .int .i64 t90027)]) (fun s_ w' => (w'.cell? ⟨gb90019, 0, none⟩ = some (.int .i64 t90014) ∧ w'.cell? ⟨gb90019, 1, none⟩ = some (.slice Ao22 t90015.length co22) ∧ w'.cell? ⟨gb90007, 0, none⟩ = some (.int .i64 t90001) ∧ w'.cell? ⟨gb90007, 1, none⟩ = some (.slice (some ad90022) t90002.length co10) ∧ w'.cell? (ad90022.add (t90005).toNat) = some (.int .i64 (rd t90002 t90005))) ∧ (Kd.R (Kd.int .i64) 3 w' w.heap.size (fun k_ => some k_ ≠ (.slice (some ad90022) t90002.length co10 : Value).ownBlock ∧ some k_ ≠ (.slice Ao15 t90009.length co15 : Value).ownBlock ∧ some k_ ≠ (.slice Ao22 t90015.length co22 : Value).ownBlock) s_.1 t90024) ∧ (Kd.Q (Kd.int .i64) 3 w' w.heap.size (fun k_ => some k_ ≠ (s_.1 : Value).ownBlock ∧ some k_ ≠ (.slice Ao15 t90009.length co15 : Value).ownBlock ∧ some k_ ≠ (.slice Ao22 t90015.length co22 : Value).ownBlock) (.slice (some ad90022) t90002.length co10) t90002) ∧ (Kd.Q (Kd.int .i64) 3 w' w.heap.size (fun k_ => some k_ ≠ (s_.1 : Value).ownBlock ∧ some k_ ≠ (.slice (some ad90022) t90002.length co10 : Value).ownBlock ∧ some k_ ≠ (.slice Ao22 t90015.length co22 : Value).ownBlock) (.slice Ao15 t90009.length co15) t90009) ∧ (Kd.Q (Kd.int .i64) 3 w' w.heap.size (fun k_ => some k_ ≠ (s_.1 : Value).ownBlock ∧ some k_ ≠ (.slice (some ad90022) t90002.length co10 : Value).ownBlock ∧ some k_ ≠ (.slice Ao15 t90009.length co15 : Value).ownBlock) (.slice Ao22 t90015.length co22) t90015) ∧ (w'.heap[gb90007]? = some (.cells #[.int .i64 t90001, .slice (some ad90022) t90002.length co10] 27 (0, 0))) ∧ (w'.heap[gb90013]? = some (.cells #[.int .i64 t90008, .slice Ao15 t90009.length co15] 27 (0, 0))) ∧ (w'.heap[gb90019]? = some (.cells #[.int .i64 t90014, .slice Ao22 t90015.length co22] 27 (0, 0))) ∧ (w'.heap[s_.2]? = some (.cells #[.int .i64 0, .slice none 0 0] 27 (0, 0))) ∧ (w.heap.size ≤ s_.2) ∧ (w.heap.size ≤ s_.2) ∧ (gb90007 ≠ s_.2) ∧ (s_.2 ≠ gb90007) ∧ (gb90013 ≠ s_.2) ∧ (s_.2 ≠ gb90013) ∧ (gb90019 ≠ s_.2) ∧ (s_.2 ≠ gb90019) ∧ (Below w.heap.size w w')) ?_ ?_
                    rotate_left
                    · intro hCont
                      refine two_ (i := 7) (j := 11) (Ni := some 64) (Nj := some 10) #[true, true, true, true, true, true, true, true, false, false, false, false, false, false] #[true, true, true, true, true, true, true, false, false, false, false, true, false, false] rfl rfl rfl rfl (two_of HT_.out (by kernel_rfl)) (by decide) (by decide) (fun K hK => ?_) (fun K hK => ?_)
                      · skip
                        refine goes_ Try.func30 (by kernel_rfl) rfl #[.agg #[.int .i64 t90014, .slice Ao22 t90015.length co22], .int .i64 t90005, .int .i64 (rd t90002 t90005)] (by rfl) rfl rfl (by (try simp only [List.map_toArray, List.map_cons, List.map_nil]); first | done | rfl | (simp only [List.length_drop, List.length_take]; rfl)) ?_
                        with_reducible refine (impl_MapMove.calls kj5 t90014 _ _ t90015 t90005 (rd t90002 t90005) t90023 t90024 t90027 _ ?side1 ?side2 A49.out).mono ?_
                        (case side1 => repeat (first | exact (Kd.Q_reads' HO_90020001.out).2.2 | (with_reducible refine Kd.C_alloc ?_ _) | (with_reducible refine Kd.C_drewN ?_ _) | (with_reducible refine Kd.C_drew ?_)))
                        (case side2 => exact (Kd.Q_reads' HO_90020001.out).2.1)
                        rintro e w62 ⟨v90025, rfl, ho0, hb⟩
                        have HS4_ := (hb.cell (World.block_lt_of_cell? _ _ (hHeld.2.2.2.2))).trans (hHeld.2.2.2.2)
                        refine ⟨_, rfl, ?_⟩
                        have n0_ := Aside0.mk (Kd.Q_elder' (by (with_reducible repeat (first | apply Kd.Q_alloc | apply Kd.Q_drewN | apply Kd.Q_drew)); exact HO_90008001.out) (Kd.R_base ho0) hb)
                        have n1_ := Aside0.mk (Kd.Q_elder' (by (with_reducible repeat (first | apply Kd.Q_alloc | apply Kd.Q_drewN | apply Kd.Q_drew)); exact HO_90014001.out) (Kd.R_base ho0) hb)
                        have n2_ := Aside0.mk (Kd.Q_elder' (by (with_reducible repeat (first | apply Kd.Q_alloc | apply Kd.Q_drewN | apply Kd.Q_drew)); exact HO_90020001.out) (Kd.R_base ho0) hb)
                        have n3_ := Aside0.mk (Kd.R_lower (Kd.R_new' (Kd.R_new' (Kd.R_new' ho0 (Kd.Q_lt (by (with_reducible repeat (first | apply Kd.Q_alloc | apply Kd.Q_drewN | apply Kd.Q_drew)); exact HO_90008001.out))) (Kd.Q_lt (by (with_reducible repeat (first | apply Kd.Q_alloc | apply Kd.Q_drewN | apply Kd.Q_drew)); exact HO_90014001.out))) (Kd.Q_lt (by (with_reducible repeat (first | apply Kd.Q_alloc | apply Kd.Q_drewN | apply Kd.Q_drew)); exact HO_90020001.out))) (below_size (by repeat (first | (with_reducible first | exact HB.out | apply below_alloc | apply pw_below_drewN | apply below_drew1 | refine below_set ?_ GE90007.out | refine below_set ?_ GE90013.out | refine below_set ?_ GE90019.out) | exact HB.out))))
                        have n4_ := Aside0.mk (blk_below (g := gb90007) (o := .cells #[.int .i64 t90001, .slice (some ad90022) t90002.length co10] 27 (0, 0)) (by (with_reducible repeat (first | refine blk_drewN ?_ _ | refine blk_drew ?_ | refine blk_alloc ?_ _)); exact BK90007.out) hb)
                        have n5_ := Aside0.mk (blk_below (g := gb90013) (o := .cells #[.int .i64 t90008, .slice Ao15 t90009.length co15] 27 (0, 0)) (by (with_reducible repeat (first | refine blk_drewN ?_ _ | refine blk_drew ?_ | refine blk_alloc ?_ _)); exact BK90013.out) hb)
                        have n6_ := Aside0.mk (blk_below (g := gb90019) (o := .cells #[.int .i64 t90014, .slice Ao22 t90015.length co22] 27 (0, 0)) (by (with_reducible repeat (first | refine blk_drewN ?_ _ | refine blk_drew ?_ | refine blk_alloc ?_ _)); exact BK90019.out) hb)
                        have n7_ := Aside0.mk (below_step (by repeat (first | (with_reducible first | exact HB.out | apply below_alloc | apply pw_below_drewN | apply below_drew1 | refine below_set ?_ GE90007.out | refine below_set ?_ GE90013.out | refine below_set ?_ GE90019.out) | exact HB.out)) hb)
                        clear HO_90008001
                        clear HO_90014001
                        clear HO_90020001
                        clear BK90007
                        clear BK90013
                        clear BK90019
                        clear HB
                        have HO_90008001 := n0_
                        have HO_90014001 := n1_
                        have HO_90020001 := n2_
                        have HO90026 := n3_
                        have BK90007 := n4_
                        have BK90013 := n5_
                        have BK90019 := n6_
                        have HB := n7_
                        clear n0_ n1_ n2_ n3_ n4_ n5_ n6_ n7_
                        (try clear hb)
                        (try clear hb2)
                        (try clear hk)
                        (try clear hi)
                        (try clear ho0)
                        refine hK.out _ _ ⟨(blk_cell BK90019.out 0).trans rfl, (blk_cell BK90019.out 1).trans rfl, (blk_cell BK90007.out 0).trans rfl, (blk_cell BK90007.out 1).trans rfl, HS4_⟩ (fun hHeld => ?_)
                        clear hK K
                        refine norm_ (a' := ?_) ?_ ?_
                        rotate_left
                        · show Act.put _ (some 64) _ = _
                          simp only [Act.put, List.setIfInBounds_toArray, List.set_cons_zero, List.set_cons_succ, i64_w, i32_w]
                          rfl
                        refine pure_ (i := 8) (N := some 56) (v := ?_) (a' := ?_) #[true, true, true, true, true, true, true, true, true, false, false, false, false, false] rfl rfl (any_of HT_.out (by kernel_rfl)) (fun _ _ _ h => h) (Or.inl ⟨by rfl, ?_⟩) ?_ ?_
                        rotate_left
                        · intro w'
                          go_simp
                          with_reducible rfl
                        rotate_left
                        · simp only [Act.put, List.setIfInBounds_toArray, List.set_cons_zero, List.set_cons_succ, i64_w, i32_w]
                          rfl
                        refine pure_ (i := 9) (N := some 65) (v := ?_) (a' := ?_) #[true, true, true, true, true, true, true, true, true, true, false, false, false, false] rfl rfl (any_of HT_.out (by kernel_rfl)) (fun _ _ _ h => h) (Or.inl ⟨by rfl, ?_⟩) ?_ ?_
                        rotate_left
                        · intro w'
                          go_simp
                          with_reducible rfl
                        rotate_left
                        · simp only [Act.put, List.setIfInBounds_toArray, List.set_cons_zero, List.set_cons_succ, i64_w, i32_w]
                          rfl
                        refine pure_ (i := 10) (N := some 66) (v := ?_) (a' := ?_) #[true, true, true, true, true, true, true, true, true, true, true, false, false, false] rfl rfl (any_of HT_.out (by kernel_rfl)) (fun _ _ _ h => h) (Or.inl ⟨by rfl, ?_⟩) ?_ ?_
                        rotate_left
                        · intro w'
                          go_simp
                          with_reducible rfl
                        rotate_left
                        · simp only [Act.put, List.setIfInBounds_toArray, List.set_cons_zero, List.set_cons_succ, i64_w, i32_w]
                          rfl
                        refine one_ (i := 11) (N := some 10) #[true, true, true, true, true, true, true, true, true, true, true, true, false, false] rfl rfl (one_of HT_.out (by kernel_rfl)) (by decide) (fun K hK => ?_)
                        refine box_step ?hg (N := 10) ?hd (cs := #[.int .i64 0, .slice none 0 0]) (t := 27) ?hr ?_; (case hd => rfl); (case hg => rfl); (case hr => first | (go_simp; done) | (go_simp; rfl))
                        intro gb90028 hg w63 hbox hb
                        have HS4_ := (hb.cell (World.block_lt_of_cell? _ _ (hHeld.2.2.2.2))).trans (hHeld.2.2.2.2)
                        have n0_ := Aside0.mk (Kd.Q_below (by (with_reducible repeat (first | apply Kd.Q_alloc | apply Kd.Q_drewN | apply Kd.Q_drew)); exact HO_90008001.out) hb)
                        have n1_ := Aside0.mk (Kd.Q_below (by (with_reducible repeat (first | apply Kd.Q_alloc | apply Kd.Q_drewN | apply Kd.Q_drew)); exact HO_90014001.out) hb)
                        have n2_ := Aside0.mk (Kd.Q_below (by (with_reducible repeat (first | apply Kd.Q_alloc | apply Kd.Q_drewN | apply Kd.Q_drew)); exact HO_90020001.out) hb)
                        have n3_ := Aside0.mk (Kd.R_below (by (with_reducible repeat (first | apply Kd.R_alloc | apply Kd.R_drewN | apply Kd.R_drew)); exact HO90026.out) hb)
                        have n4_ := Aside0.mk (blk_below (g := gb90007) (o := .cells #[.int .i64 t90001, .slice (some ad90022) t90002.length co10] 27 (0, 0)) (by (with_reducible repeat (first | refine blk_drewN ?_ _ | refine blk_drew ?_ | refine blk_alloc ?_ _)); exact BK90007.out) hb)
                        have n5_ := Aside0.mk (blk_below (g := gb90013) (o := .cells #[.int .i64 t90008, .slice Ao15 t90009.length co15] 27 (0, 0)) (by (with_reducible repeat (first | refine blk_drewN ?_ _ | refine blk_drew ?_ | refine blk_alloc ?_ _)); exact BK90013.out) hb)
                        have n6_ := Aside0.mk (blk_below (g := gb90019) (o := .cells #[.int .i64 t90014, .slice Ao22 t90015.length co22] 27 (0, 0)) (by (with_reducible repeat (first | refine blk_drewN ?_ _ | refine blk_drew ?_ | refine blk_alloc ?_ _)); exact BK90019.out) hb)
                        have n7_ := Aside0.mk (below_step (by repeat (first | (with_reducible first | exact HB.out | apply below_alloc | apply pw_below_drewN | apply below_drew1 | refine below_set ?_ GE90007.out | refine below_set ?_ GE90013.out | refine below_set ?_ GE90019.out) | exact HB.out)) hb)
                        have n8_ := Aside0.mk (hbox)
                        have n9_ := Aside0.mk ((by rw [hg]; exact (below_size (by repeat (first | (with_reducible first | exact HB.out | apply below_alloc | apply pw_below_drewN | apply below_drew1 | refine below_set ?_ GE90007.out | refine below_set ?_ GE90013.out | refine below_set ?_ GE90019.out) | exact HB.out))) : w.heap.size ≤ gb90028))
                        have n10_ := Aside0.mk ((by rw [hg]; exact (below_size (by repeat (first | (with_reducible first | exact HB.out | apply below_alloc | apply pw_below_drewN | apply below_drew1 | refine below_set ?_ GE90007.out | refine below_set ?_ GE90013.out | refine below_set ?_ GE90019.out) | exact HB.out))) : w.heap.size ≤ gb90028))
                        have n11_ := Aside0.mk ((by rw [hg]; exact Nat.ne_of_lt (blk_lt (g := gb90007) (o := .cells #[.int .i64 t90001, .slice (some ad90022) t90002.length co10] 27 (0, 0)) (by (with_reducible repeat (first | refine blk_drewN ?_ _ | refine blk_drew ?_ | refine blk_alloc ?_ _)); exact BK90007.out)) : gb90007 ≠ gb90028))
                        have n12_ := Aside0.mk ((by rw [hg]; exact Nat.ne_of_gt (blk_lt (g := gb90007) (o := .cells #[.int .i64 t90001, .slice (some ad90022) t90002.length co10] 27 (0, 0)) (by (with_reducible repeat (first | refine blk_drewN ?_ _ | refine blk_drew ?_ | refine blk_alloc ?_ _)); exact BK90007.out)) : gb90028 ≠ gb90007))
                        have n13_ := Aside0.mk ((by rw [hg]; exact Nat.ne_of_lt (blk_lt (g := gb90013) (o := .cells #[.int .i64 t90008, .slice Ao15 t90009.length co15] 27 (0, 0)) (by (with_reducible repeat (first | refine blk_drewN ?_ _ | refine blk_drew ?_ | refine blk_alloc ?_ _)); exact BK90013.out)) : gb90013 ≠ gb90028))
                        have n14_ := Aside0.mk ((by rw [hg]; exact Nat.ne_of_gt (blk_lt (g := gb90013) (o := .cells #[.int .i64 t90008, .slice Ao15 t90009.length co15] 27 (0, 0)) (by (with_reducible repeat (first | refine blk_drewN ?_ _ | refine blk_drew ?_ | refine blk_alloc ?_ _)); exact BK90013.out)) : gb90028 ≠ gb90013))
                        have n15_ := Aside0.mk ((by rw [hg]; exact Nat.ne_of_lt (blk_lt (g := gb90019) (o := .cells #[.int .i64 t90014, .slice Ao22 t90015.length co22] 27 (0, 0)) (by (with_reducible repeat (first | refine blk_drewN ?_ _ | refine blk_drew ?_ | refine blk_alloc ?_ _)); exact BK90019.out)) : gb90019 ≠ gb90028))
                        have n16_ := Aside0.mk ((by rw [hg]; exact Nat.ne_of_gt (blk_lt (g := gb90019) (o := .cells #[.int .i64 t90014, .slice Ao22 t90015.length co22] 27 (0, 0)) (by (with_reducible repeat (first | refine blk_drewN ?_ _ | refine blk_drew ?_ | refine blk_alloc ?_ _)); exact BK90019.out)) : gb90028 ≠ gb90019))
                        clear HO_90008001
                        clear HO_90014001
                        clear HO_90020001
                        clear HO90026
                        clear BK90007
                        clear BK90013
                        clear BK90019
                        clear HB
                        have HO_90008001 := n0_
                        have HO_90014001 := n1_
                        have HO_90020001 := n2_
                        have HO90026 := n3_
                        have BK90007 := n4_
                        have BK90013 := n5_
                        have BK90019 := n6_
                        have HB := n7_
                        have BK90028 := n8_
                        have GW90028 := n9_
                        have GE90028 := n10_
                        have NB90007_90028 := n11_
                        have NB90028_90007 := n12_
                        have NB90013_90028 := n13_
                        have NB90028_90013 := n14_
                        have NB90019_90028 := n15_
                        have NB90028_90019 := n16_
                        clear n0_ n1_ n2_ n3_ n4_ n5_ n6_ n7_ n8_ n9_ n10_ n11_ n12_ n13_ n14_ n15_ n16_
                        clear hb hbox hg
                        refine hK.out _ _ ⟨(blk_cell BK90019.out 0).trans rfl, (blk_cell BK90019.out 1).trans rfl, (blk_cell BK90007.out 0).trans rfl, (blk_cell BK90007.out 1).trans rfl, HS4_⟩ (fun hHeld => ?_)
                        clear hK K
                        refine norm_ (a' := ?_) ?_ ?_
                        rotate_left
                        · show Act.put _ (some 10) _ = _
                          simp only [Act.put, List.setIfInBounds_toArray, List.set_cons_zero, List.set_cons_succ, i64_w, i32_w]
                          rfl
                        exact norm_ (by simp only [putAll, Act.put, List.setIfInBounds_toArray, List.set_cons_zero, List.set_cons_succ]) (hCont (v90025, gb90028) _ ⟨hHeld, (by (with_reducible repeat (first | apply Kd.R_alloc | apply Kd.R_drewN | apply Kd.R_drew)); exact Kd.R_mono HO90026.out (fun _ hk => ⟨hk.1.1.2, ⟨hk.1.2, hk.2⟩⟩)), (by (with_reducible repeat (first | apply Kd.Q_alloc | apply Kd.Q_drewN | apply Kd.Q_drew)); exact Kd.Q_mono HO_90008001.out (fun _ hk => ⟨hk.2, ⟨hk.1.1, hk.1.2⟩⟩)), (by (with_reducible repeat (first | apply Kd.Q_alloc | apply Kd.Q_drewN | apply Kd.Q_drew)); exact Kd.Q_mono HO_90014001.out (fun _ hk => ⟨hk.2, ⟨hk.1.1, hk.1.2⟩⟩)), (by (with_reducible repeat (first | apply Kd.Q_alloc | apply Kd.Q_drewN | apply Kd.Q_drew)); exact Kd.Q_mono HO_90020001.out (fun _ hk => ⟨hk.2, ⟨hk.1.1, hk.1.2⟩⟩)), (by (with_reducible repeat (first | refine blk_drewN ?_ _ | refine blk_drew ?_ | refine blk_alloc ?_ _)); exact BK90007.out), (by (with_reducible repeat (first | refine blk_drewN ?_ _ | refine blk_drew ?_ | refine blk_alloc ?_ _)); exact BK90013.out), (by (with_reducible repeat (first | refine blk_drewN ?_ _ | refine blk_drew ?_ | refine blk_alloc ?_ _)); exact BK90019.out), (by (with_reducible repeat (first | refine blk_drewN ?_ _ | refine blk_drew ?_ | refine blk_alloc ?_ _)); exact BK90028.out), GW90028.out, GE90028.out, NB90007_90028.out, NB90028_90007.out, NB90013_90028.out, NB90028_90013.out, NB90019_90028.out, NB90028_90019.out, (by repeat (first | (with_reducible first | exact HB.out | apply below_alloc | apply pw_below_drewN | apply below_drew1 | refine below_set ?_ GE90007.out | refine below_set ?_ GE90013.out | refine below_set ?_ GE90019.out | refine below_set ?_ GE90028.out) | exact HB.out))⟩)
                      · skip
                        refine box_step ?hg (N := 10) ?hd (cs := #[.int .i64 0, .slice none 0 0]) (t := 27) ?hr ?_; (case hd => rfl); (case hg => rfl); (case hr => first | (go_simp; done) | (go_simp; rfl))
                        intro gb90028 hg w62 hbox hb
                        have HS4_ := (hb.cell (World.block_lt_of_cell? _ _ (hHeld.2.2.2.2))).trans (hHeld.2.2.2.2)
                        have n0_ := Aside0.mk (Kd.Q_below (by (with_reducible repeat (first | apply Kd.Q_alloc | apply Kd.Q_drewN | apply Kd.Q_drew)); exact HO_90008001.out) hb)
                        have n1_ := Aside0.mk (Kd.Q_below (by (with_reducible repeat (first | apply Kd.Q_alloc | apply Kd.Q_drewN | apply Kd.Q_drew)); exact HO_90014001.out) hb)
                        have n2_ := Aside0.mk (Kd.Q_below (by (with_reducible repeat (first | apply Kd.Q_alloc | apply Kd.Q_drewN | apply Kd.Q_drew)); exact HO_90020001.out) hb)
                        have n3_ := Aside0.mk (blk_below (g := gb90007) (o := .cells #[.int .i64 t90001, .slice (some ad90022) t90002.length co10] 27 (0, 0)) (by (with_reducible repeat (first | refine blk_drewN ?_ _ | refine blk_drew ?_ | refine blk_alloc ?_ _)); exact BK90007.out) hb)
                        have n4_ := Aside0.mk (blk_below (g := gb90013) (o := .cells #[.int .i64 t90008, .slice Ao15 t90009.length co15] 27 (0, 0)) (by (with_reducible repeat (first | refine blk_drewN ?_ _ | refine blk_drew ?_ | refine blk_alloc ?_ _)); exact BK90013.out) hb)
                        have n5_ := Aside0.mk (blk_below (g := gb90019) (o := .cells #[.int .i64 t90014, .slice Ao22 t90015.length co22] 27 (0, 0)) (by (with_reducible repeat (first | refine blk_drewN ?_ _ | refine blk_drew ?_ | refine blk_alloc ?_ _)); exact BK90019.out) hb)
                        have n6_ := Aside0.mk (below_step (by repeat (first | (with_reducible first | exact HB.out | apply below_alloc | apply pw_below_drewN | apply below_drew1 | refine below_set ?_ GE90007.out | refine below_set ?_ GE90013.out | refine below_set ?_ GE90019.out) | exact HB.out)) hb)
                        have n7_ := Aside0.mk (hbox)
                        have n8_ := Aside0.mk ((by rw [hg]; exact (below_size (by repeat (first | (with_reducible first | exact HB.out | apply below_alloc | apply pw_below_drewN | apply below_drew1 | refine below_set ?_ GE90007.out | refine below_set ?_ GE90013.out | refine below_set ?_ GE90019.out) | exact HB.out))) : w.heap.size ≤ gb90028))
                        have n9_ := Aside0.mk ((by rw [hg]; exact (below_size (by repeat (first | (with_reducible first | exact HB.out | apply below_alloc | apply pw_below_drewN | apply below_drew1 | refine below_set ?_ GE90007.out | refine below_set ?_ GE90013.out | refine below_set ?_ GE90019.out) | exact HB.out))) : w.heap.size ≤ gb90028))
                        have n10_ := Aside0.mk ((by rw [hg]; exact Nat.ne_of_lt (blk_lt (g := gb90007) (o := .cells #[.int .i64 t90001, .slice (some ad90022) t90002.length co10] 27 (0, 0)) (by (with_reducible repeat (first | refine blk_drewN ?_ _ | refine blk_drew ?_ | refine blk_alloc ?_ _)); exact BK90007.out)) : gb90007 ≠ gb90028))
                        have n11_ := Aside0.mk ((by rw [hg]; exact Nat.ne_of_gt (blk_lt (g := gb90007) (o := .cells #[.int .i64 t90001, .slice (some ad90022) t90002.length co10] 27 (0, 0)) (by (with_reducible repeat (first | refine blk_drewN ?_ _ | refine blk_drew ?_ | refine blk_alloc ?_ _)); exact BK90007.out)) : gb90028 ≠ gb90007))
                        have n12_ := Aside0.mk ((by rw [hg]; exact Nat.ne_of_lt (blk_lt (g := gb90013) (o := .cells #[.int .i64 t90008, .slice Ao15 t90009.length co15] 27 (0, 0)) (by (with_reducible repeat (first | refine blk_drewN ?_ _ | refine blk_drew ?_ | refine blk_alloc ?_ _)); exact BK90013.out)) : gb90013 ≠ gb90028))
                        have n13_ := Aside0.mk ((by rw [hg]; exact Nat.ne_of_gt (blk_lt (g := gb90013) (o := .cells #[.int .i64 t90008, .slice Ao15 t90009.length co15] 27 (0, 0)) (by (with_reducible repeat (first | refine blk_drewN ?_ _ | refine blk_drew ?_ | refine blk_alloc ?_ _)); exact BK90013.out)) : gb90028 ≠ gb90013))
                        have n14_ := Aside0.mk ((by rw [hg]; exact Nat.ne_of_lt (blk_lt (g := gb90019) (o := .cells #[.int .i64 t90014, .slice Ao22 t90015.length co22] 27 (0, 0)) (by (with_reducible repeat (first | refine blk_drewN ?_ _ | refine blk_drew ?_ | refine blk_alloc ?_ _)); exact BK90019.out)) : gb90019 ≠ gb90028))
                        have n15_ := Aside0.mk ((by rw [hg]; exact Nat.ne_of_gt (blk_lt (g := gb90019) (o := .cells #[.int .i64 t90014, .slice Ao22 t90015.length co22] 27 (0, 0)) (by (with_reducible repeat (first | refine blk_drewN ?_ _ | refine blk_drew ?_ | refine blk_alloc ?_ _)); exact BK90019.out)) : gb90028 ≠ gb90019))
                        clear HO_90008001
                        clear HO_90014001
                        clear HO_90020001
                        clear BK90007
                        clear BK90013
                        clear BK90019
                        clear HB
                        have HO_90008001 := n0_
                        have HO_90014001 := n1_
                        have HO_90020001 := n2_
                        have BK90007 := n3_
                        have BK90013 := n4_
                        have BK90019 := n5_
                        have HB := n6_
                        have BK90028 := n7_
                        have GW90028 := n8_
                        have GE90028 := n9_
                        have NB90007_90028 := n10_
                        have NB90028_90007 := n11_
                        have NB90013_90028 := n12_
                        have NB90028_90013 := n13_
                        have NB90019_90028 := n14_
                        have NB90028_90019 := n15_
                        clear n0_ n1_ n2_ n3_ n4_ n5_ n6_ n7_ n8_ n9_ n10_ n11_ n12_ n13_ n14_ n15_
                        clear hb hbox hg
                        refine hK.out _ _ ⟨(blk_cell BK90019.out 0).trans rfl, (blk_cell BK90019.out 1).trans rfl, (blk_cell BK90007.out 0).trans rfl, (blk_cell BK90007.out 1).trans rfl, HS4_⟩ (fun hHeld => ?_)
                        clear hK K
                        refine norm_ (a' := ?_) ?_ ?_
                        rotate_left
                        · show Act.put _ (some 10) _ = _
                          simp only [Act.put, List.setIfInBounds_toArray, List.set_cons_zero, List.set_cons_succ, i64_w, i32_w]
                          rfl
                        refine one_ (i := 7) (N := some 64) #[true, true, true, true, true, true, true, true, false, false, false, true, false, false] rfl rfl (one_of HT_.out (by kernel_rfl)) (by decide) (fun K hK => ?_)
                        refine goes_ Try.func30 (by kernel_rfl) rfl #[.agg #[.int .i64 t90014, .slice Ao22 t90015.length co22], .int .i64 t90005, .int .i64 (rd t90002 t90005)] (by rfl) rfl rfl (by (try simp only [List.map_toArray, List.map_cons, List.map_nil]); first | done | rfl | (simp only [List.length_drop, List.length_take]; rfl)) ?_
                        with_reducible refine (impl_MapMove.calls kj5 t90014 _ _ t90015 t90005 (rd t90002 t90005) t90023 t90024 t90027 _ ?side1 ?side2 A49.out).mono ?_
                        (case side1 => repeat (first | exact (Kd.Q_reads' HO_90020001.out).2.2 | (with_reducible refine Kd.C_alloc ?_ _) | (with_reducible refine Kd.C_drewN ?_ _) | (with_reducible refine Kd.C_drew ?_)))
                        (case side2 => exact (Kd.Q_reads' HO_90020001.out).2.1)
                        rintro e w63 ⟨v90025, rfl, ho0, hb⟩
                        have HS4_ := (hb.cell (World.block_lt_of_cell? _ _ (hHeld.2.2.2.2))).trans (hHeld.2.2.2.2)
                        refine ⟨_, rfl, ?_⟩
                        have n0_ := Aside0.mk (Kd.Q_elder' (by (with_reducible repeat (first | apply Kd.Q_alloc | apply Kd.Q_drewN | apply Kd.Q_drew)); exact HO_90008001.out) (Kd.R_base ho0) hb)
                        have n1_ := Aside0.mk (Kd.Q_elder' (by (with_reducible repeat (first | apply Kd.Q_alloc | apply Kd.Q_drewN | apply Kd.Q_drew)); exact HO_90014001.out) (Kd.R_base ho0) hb)
                        have n2_ := Aside0.mk (Kd.Q_elder' (by (with_reducible repeat (first | apply Kd.Q_alloc | apply Kd.Q_drewN | apply Kd.Q_drew)); exact HO_90020001.out) (Kd.R_base ho0) hb)
                        have n3_ := Aside0.mk (Kd.R_lower (Kd.R_new' (Kd.R_new' (Kd.R_new' ho0 (Kd.Q_lt (by (with_reducible repeat (first | apply Kd.Q_alloc | apply Kd.Q_drewN | apply Kd.Q_drew)); exact HO_90008001.out))) (Kd.Q_lt (by (with_reducible repeat (first | apply Kd.Q_alloc | apply Kd.Q_drewN | apply Kd.Q_drew)); exact HO_90014001.out))) (Kd.Q_lt (by (with_reducible repeat (first | apply Kd.Q_alloc | apply Kd.Q_drewN | apply Kd.Q_drew)); exact HO_90020001.out))) (below_size (by repeat (first | (with_reducible first | exact HB.out | apply below_alloc | apply pw_below_drewN | apply below_drew1 | refine below_set ?_ GE90007.out | refine below_set ?_ GE90013.out | refine below_set ?_ GE90019.out | refine below_set ?_ GE90028.out) | exact HB.out))))
                        have n4_ := Aside0.mk (blk_below (g := gb90007) (o := .cells #[.int .i64 t90001, .slice (some ad90022) t90002.length co10] 27 (0, 0)) (by (with_reducible repeat (first | refine blk_drewN ?_ _ | refine blk_drew ?_ | refine blk_alloc ?_ _)); exact BK90007.out) hb)
                        have n5_ := Aside0.mk (blk_below (g := gb90013) (o := .cells #[.int .i64 t90008, .slice Ao15 t90009.length co15] 27 (0, 0)) (by (with_reducible repeat (first | refine blk_drewN ?_ _ | refine blk_drew ?_ | refine blk_alloc ?_ _)); exact BK90013.out) hb)
                        have n6_ := Aside0.mk (blk_below (g := gb90019) (o := .cells #[.int .i64 t90014, .slice Ao22 t90015.length co22] 27 (0, 0)) (by (with_reducible repeat (first | refine blk_drewN ?_ _ | refine blk_drew ?_ | refine blk_alloc ?_ _)); exact BK90019.out) hb)
                        have n7_ := Aside0.mk (blk_below (g := gb90028) (o := .cells #[.int .i64 0, .slice none 0 0] 27 (0, 0)) (by (with_reducible repeat (first | refine blk_drewN ?_ _ | refine blk_drew ?_ | refine blk_alloc ?_ _)); exact BK90028.out) hb)
                        have n8_ := Aside0.mk (below_step (by repeat (first | (with_reducible first | exact HB.out | apply below_alloc | apply pw_below_drewN | apply below_drew1 | refine below_set ?_ GE90007.out | refine below_set ?_ GE90013.out | refine below_set ?_ GE90019.out | refine below_set ?_ GE90028.out) | exact HB.out)) hb)
                        clear HO_90008001
                        clear HO_90014001
                        clear HO_90020001
                        clear BK90007
                        clear BK90013
                        clear BK90019
                        clear BK90028
                        clear HB
                        have HO_90008001 := n0_
                        have HO_90014001 := n1_
                        have HO_90020001 := n2_
                        have HO90026 := n3_
                        have BK90007 := n4_
                        have BK90013 := n5_
                        have BK90019 := n6_
                        have BK90028 := n7_
                        have HB := n8_
                        clear n0_ n1_ n2_ n3_ n4_ n5_ n6_ n7_ n8_
                        (try clear hb)
                        (try clear hb2)
                        (try clear hk)
                        (try clear hi)
                        (try clear ho0)
                        refine hK.out _ _ ⟨(blk_cell BK90019.out 0).trans rfl, (blk_cell BK90019.out 1).trans rfl, (blk_cell BK90007.out 0).trans rfl, (blk_cell BK90007.out 1).trans rfl, HS4_⟩ (fun hHeld => ?_)
                        clear hK K
                        refine norm_ (a' := ?_) ?_ ?_
                        rotate_left
                        · show Act.put _ (some 64) _ = _
                          simp only [Act.put, List.setIfInBounds_toArray, List.set_cons_zero, List.set_cons_succ, i64_w, i32_w]
                          rfl
                        refine pure_ (i := 8) (N := some 56) (v := ?_) (a' := ?_) #[true, true, true, true, true, true, true, true, true, false, false, true, false, false] rfl rfl (any_of HT_.out (by kernel_rfl)) (fun _ _ _ h => h) (Or.inl ⟨by rfl, ?_⟩) ?_ ?_
                        rotate_left
                        · intro w'
                          go_simp
                          with_reducible rfl
                        rotate_left
                        · simp only [Act.put, List.setIfInBounds_toArray, List.set_cons_zero, List.set_cons_succ, i64_w, i32_w]
                          rfl
                        refine pure_ (i := 9) (N := some 65) (v := ?_) (a' := ?_) #[true, true, true, true, true, true, true, true, true, true, false, true, false, false] rfl rfl (any_of HT_.out (by kernel_rfl)) (fun _ _ _ h => h) (Or.inl ⟨by rfl, ?_⟩) ?_ ?_
                        rotate_left
                        · intro w'
                          go_simp
                          with_reducible rfl
                        rotate_left
                        · simp only [Act.put, List.setIfInBounds_toArray, List.set_cons_zero, List.set_cons_succ, i64_w, i32_w]
                          rfl
                        refine pure_ (i := 10) (N := some 66) (v := ?_) (a' := ?_) #[true, true, true, true, true, true, true, true, true, true, true, true, false, false] rfl rfl (any_of HT_.out (by kernel_rfl)) (fun _ _ _ h => h) (Or.inl ⟨by rfl, ?_⟩) ?_ ?_
                        rotate_left
                        · intro w'
                          go_simp
                          with_reducible rfl
                        rotate_left
                        · simp only [Act.put, List.setIfInBounds_toArray, List.set_cons_zero, List.set_cons_succ, i64_w, i32_w]
                          rfl
                        exact norm_ (by simp only [putAll, Act.put, List.setIfInBounds_toArray, List.set_cons_zero, List.set_cons_succ]) (hCont (v90025, gb90028) _ ⟨hHeld, (by (with_reducible repeat (first | apply Kd.R_alloc | apply Kd.R_drewN | apply Kd.R_drew)); exact Kd.R_mono HO90026.out (fun _ hk => ⟨hk.1.1.2, ⟨hk.1.2, hk.2⟩⟩)), (by (with_reducible repeat (first | apply Kd.Q_alloc | apply Kd.Q_drewN | apply Kd.Q_drew)); exact Kd.Q_mono HO_90008001.out (fun _ hk => ⟨hk.2, ⟨hk.1.1, hk.1.2⟩⟩)), (by (with_reducible repeat (first | apply Kd.Q_alloc | apply Kd.Q_drewN | apply Kd.Q_drew)); exact Kd.Q_mono HO_90014001.out (fun _ hk => ⟨hk.2, ⟨hk.1.1, hk.1.2⟩⟩)), (by (with_reducible repeat (first | apply Kd.Q_alloc | apply Kd.Q_drewN | apply Kd.Q_drew)); exact Kd.Q_mono HO_90020001.out (fun _ hk => ⟨hk.2, ⟨hk.1.1, hk.1.2⟩⟩)), (by (with_reducible repeat (first | refine blk_drewN ?_ _ | refine blk_drew ?_ | refine blk_alloc ?_ _)); exact BK90007.out), (by (with_reducible repeat (first | refine blk_drewN ?_ _ | refine blk_drew ?_ | refine blk_alloc ?_ _)); exact BK90013.out), (by (with_reducible repeat (first | refine blk_drewN ?_ _ | refine blk_drew ?_ | refine blk_alloc ?_ _)); exact BK90019.out), (by (with_reducible repeat (first | refine blk_drewN ?_ _ | refine blk_drew ?_ | refine blk_alloc ?_ _)); exact BK90028.out), GW90028.out, GE90028.out, NB90007_90028.out, NB90028_90007.out, NB90013_90028.out, NB90028_90013.out, NB90019_90028.out, NB90028_90019.out, (by repeat (first | (with_reducible first | exact HB.out | apply below_alloc | apply pw_below_drewN | apply below_drew1 | refine below_set ?_ GE90007.out | refine below_set ?_ GE90013.out | refine below_set ?_ GE90019.out | refine below_set ?_ GE90028.out) | exact HB.out))⟩)
                    rintro ⟨v90025, gb90028⟩ w64 ⟨hS_, h0_, h1_, h2_, h3_, h4_, h5_, h6_, h7_, h8_, h9_, h10_, h11_, h12_, h13_, h14_, h15_, h16_⟩
                    have n0_ : Aside0 (Kd.R (Kd.int .i64) 3 w64 w.heap.size (fun k_ => some k_ ≠ (.slice (some ad90022) t90002.length co10 : Value).ownBlock ∧ some k_ ≠ (.slice Ao15 t90009.length co15 : Value).ownBlock ∧ some k_ ≠ (.slice Ao22 t90015.length co22 : Value).ownBlock) v90025 t90024) := ⟨h0_⟩
                    have n1_ : Aside0 (Kd.Q (Kd.int .i64) 3 w64 w.heap.size (fun k_ => some k_ ≠ (v90025 : Value).ownBlock ∧ some k_ ≠ (.slice Ao15 t90009.length co15 : Value).ownBlock ∧ some k_ ≠ (.slice Ao22 t90015.length co22 : Value).ownBlock) (.slice (some ad90022) t90002.length co10) t90002) := ⟨h1_⟩
                    have n2_ : Aside0 (Kd.Q (Kd.int .i64) 3 w64 w.heap.size (fun k_ => some k_ ≠ (v90025 : Value).ownBlock ∧ some k_ ≠ (.slice (some ad90022) t90002.length co10 : Value).ownBlock ∧ some k_ ≠ (.slice Ao22 t90015.length co22 : Value).ownBlock) (.slice Ao15 t90009.length co15) t90009) := ⟨h2_⟩
                    have n3_ : Aside0 (Kd.Q (Kd.int .i64) 3 w64 w.heap.size (fun k_ => some k_ ≠ (v90025 : Value).ownBlock ∧ some k_ ≠ (.slice (some ad90022) t90002.length co10 : Value).ownBlock ∧ some k_ ≠ (.slice Ao15 t90009.length co15 : Value).ownBlock) (.slice Ao22 t90015.length co22) t90015) := ⟨h3_⟩
                    have n4_ : Aside0 (w64.heap[gb90007]? = some (.cells #[.int .i64 t90001, .slice (some ad90022) t90002.length co10] 27 (0, 0))) := ⟨h4_⟩
                    have n5_ : Aside0 (w64.heap[gb90013]? = some (.cells #[.int .i64 t90008, .slice Ao15 t90009.length co15] 27 (0, 0))) := ⟨h5_⟩
                    have n6_ : Aside0 (w64.heap[gb90019]? = some (.cells #[.int .i64 t90014, .slice Ao22 t90015.length co22] 27 (0, 0))) := ⟨h6_⟩
                    have n7_ : Aside0 (w64.heap[gb90028]? = some (.cells #[.int .i64 0, .slice none 0 0] 27 (0, 0))) := ⟨h7_⟩
                    have n8_ : Aside0 (w.heap.size ≤ gb90028) := ⟨h8_⟩
                    have n9_ : Aside0 (w.heap.size ≤ gb90028) := ⟨h9_⟩
                    have n10_ : Aside0 (gb90007 ≠ gb90028) := ⟨h10_⟩
                    have n11_ : Aside0 (gb90028 ≠ gb90007) := ⟨h11_⟩
                    have n12_ : Aside0 (gb90013 ≠ gb90028) := ⟨h12_⟩
                    have n13_ : Aside0 (gb90028 ≠ gb90013) := ⟨h13_⟩
                    have n14_ : Aside0 (gb90019 ≠ gb90028) := ⟨h14_⟩
                    have n15_ : Aside0 (gb90028 ≠ gb90019) := ⟨h15_⟩
                    have n16_ : Aside0 (Below w.heap.size w w64) := ⟨h16_⟩
                    clear HO_90008001
                    clear HO_90014001
                    clear HO_90020001
                    clear BK90007
                    clear BK90013
                    clear BK90019
                    clear HB
                    clear h0_ h1_ h2_ h3_ h4_ h5_ h6_ h7_ h8_ h9_ h10_ h11_ h12_ h13_ h14_ h15_ h16_
                    have HO90026 := n0_
                    have HO_90008001 := n1_
                    have HO_90014001 := n2_
                    have HO_90020001 := n3_
                    have BK90007 := n4_
                    have BK90013 := n5_
                    have BK90019 := n6_
                    have BK90028 := n7_
                    have GW90028 := n8_
                    have GE90028 := n9_
                    have NB90007_90028 := n10_
                    have NB90028_90007 := n11_
                    have NB90013_90028 := n12_
                    have NB90028_90013 := n13_
                    have NB90019_90028 := n14_
                    have NB90028_90019 := n15_
                    have HB := n16_
                    clear n0_ n1_ n2_ n3_ n4_ n5_ n6_ n7_ n8_ n9_ n10_ n11_ n12_ n13_ n14_ n15_ n16_
                    have hHeld : w64.cell? ⟨gb90019, 0, none⟩ = some (.int .i64 t90014) ∧ w64.cell? ⟨gb90019, 1, none⟩ = some (.slice Ao22 t90015.length co22) ∧ w64.cell? ⟨gb90007, 0, none⟩ = some (.int .i64 t90001) ∧ w64.cell? ⟨gb90007, 1, none⟩ = some (.slice (some ad90022) t90002.length co10) ∧ w64.cell? (ad90022.add (t90005).toNat) = some (.int .i64 (rd t90002 t90005)) := hS_
                    obtain ⟨Ao66, co66, eo66⟩ := Kd.R_slice HO90026.out
                    (first | subst eo66 | (injection eo66 with f1_ f2_ f3_; have f4_ := f1_.symm; have f5_ := f3_.symm; clear f1_ f2_ f3_; subst f4_; subst f5_))
                    refine norm_ (a' := ?_) ?_ ?_
                    rotate_left
                    · simp only [putAll, Act.put, List.setIfInBounds_toArray, List.set_cons_zero, List.set_cons_succ]
                      rfl
                    refine one_ (i := 12) (N := none) #[true, true, true, true, true, true, true, true, true, true, true, true, true, false] rfl rfl (one_of HT_.out (by kernel_rfl)) (by decide) (fun K hK => ?_)
                    have hs65 : w64.cell? ⟨gb90028, 0, none⟩ = some (.int .i64 0) := (blk_cell BK90028.out 0).trans rfl
                    have hfs65 := blk_frozen BK90028.out 0
                    have hns65_0 := NB90007_90028.out
                    have hns65_1 := NB90013_90028.out
                    have hns65_2 := NB90019_90028.out
                    have hms65_0 := NB90028_90007.out
                    have hms65_1 := NB90028_90013.out
                    have hms65_2 := NB90028_90019.out
                    have hs67 : w64.cell? ⟨gb90028, 1, none⟩ = some (.slice none 0 0) := (blk_cell BK90028.out 1).trans rfl
                    have hfs67 := blk_frozen BK90028.out 1
                    have hns67_0 := NB90007_90028.out
                    have hns67_1 := NB90013_90028.out
                    have hns67_2 := NB90019_90028.out
                    have hms67_0 := NB90028_90007.out
                    have hms67_1 := NB90028_90013.out
                    have hms67_2 := NB90028_90019.out
                    refine skip_ (w1 := ?_) (by rfl) rfl ?_ ?_
                    rotate_left
                    · go_simp
                      rfl
                    refine hK.out _ _ ⟨((cell_far (p := ⟨gb90028, _, none⟩) NB90019_90028.out _).trans (((cell_far (p := ⟨gb90028, _, none⟩) NB90019_90028.out _).trans (hHeld.1)))), ((cell_far (p := ⟨gb90028, _, none⟩) NB90019_90028.out _).trans (((cell_far (p := ⟨gb90028, _, none⟩) NB90019_90028.out _).trans (hHeld.2.1)))), ((cell_far (p := ⟨gb90028, _, none⟩) NB90007_90028.out _).trans (((cell_far (p := ⟨gb90028, _, none⟩) NB90007_90028.out _).trans (hHeld.2.2.1)))), ((cell_far (p := ⟨gb90028, _, none⟩) NB90007_90028.out _).trans (((cell_far (p := ⟨gb90028, _, none⟩) NB90007_90028.out _).trans (hHeld.2.2.2.1)))), ((cell_far (p := ⟨gb90028, _, none⟩) (by first | exact Kd.own_blk (Kd.Q_ne HO_90008001.out BK90028.out (by decide)) | (rw [add_block]; exact Kd.own_blk (Kd.Q_ne HO_90008001.out BK90028.out (by decide))) | (show (Addr.add _ _).block ≠ _; rw [add_block]; exact Kd.own_blk (Kd.Q_ne HO_90008001.out BK90028.out (by decide))) | (dsimp only; exact Kd.own_blk (Kd.Q_ne HO_90008001.out BK90028.out (by decide)))) _).trans (((cell_far (p := ⟨gb90028, _, none⟩) (by first | exact Kd.own_blk (Kd.Q_ne HO_90008001.out BK90028.out (by decide)) | (rw [add_block]; exact Kd.own_blk (Kd.Q_ne HO_90008001.out BK90028.out (by decide))) | (show (Addr.add _ _).block ≠ _; rw [add_block]; exact Kd.own_blk (Kd.Q_ne HO_90008001.out BK90028.out (by decide))) | (dsimp only; exact Kd.own_blk (Kd.Q_ne HO_90008001.out BK90028.out (by decide)))) _).trans (hHeld.2.2.2.2))))⟩ (fun hHeld => ?_)
                    clear hK K
                    refine pure_ (i := 13) (N := some 11) (v := ?_) (a' := ?_) #[true, true, true, true, true, true, true, true, true, true, true, true, true, true] rfl rfl (any_of HT_.out (by kernel_rfl)) (fun _ _ _ h => h) (Or.inl ⟨by rfl, ?_⟩) ?_ ?_
                    rotate_left
                    · intro w'
                      go_simp
                      with_reducible rfl
                    rotate_left
                    · simp only [Act.put, List.setIfInBounds_toArray, List.set_cons_zero, List.set_cons_succ, i64_w, i32_w]
                      rfl
                    refine done_ (done_of HT_.out (by kernel_rfl)) ?_
                    have hnb68 := NB90028_90007.out
                    have hnc68 := NB90007_90028.out
                    have hnb69 := NB90028_90013.out
                    have hnc69 := NB90013_90028.out
                    have hnb70 := NB90028_90019.out
                    have hnc70 := NB90019_90028.out
                    have hcz71_0 : w64.cell? ⟨gb90028, 0, none⟩ = some (.int .i64 0) := (blk_cell BK90028.out 0).trans rfl
                    have hcz71_1 : w64.cell? ⟨gb90028, 1, none⟩ = some (.slice none 0 0) := (blk_cell BK90028.out 1).trans rfl
                    have hfz71_0 := blk_frozen BK90028.out 0
                    have hfz71_1 := blk_frozen BK90028.out 1
                    have hnb72 := NB90007_90013.out
                    have hnc72 := NB90013_90007.out
                    have hnb73 := NB90007_90019.out
                    have hnc73 := NB90019_90007.out
                    have hcz74_0 : w64.cell? ⟨gb90007, 0, none⟩ = some (.int .i64 t90001) := (blk_cell BK90007.out 0).trans rfl
                    have hcz74_1 : w64.cell? ⟨gb90007, 1, none⟩ = some (.slice (some ad90022) t90002.length co10) := (blk_cell BK90007.out 1).trans rfl
                    have hfz74_0 := blk_frozen BK90007.out 0
                    have hfz74_1 := blk_frozen BK90007.out 1
                    try go_wp2_with (first | (go_at_call 32; (with_reducible refine (laws_loInts.calls kj5 _ _ t90024 _ _ t90002 true _ ?side1 ?side2 ?side3 ?side4 A59.out).mono ?_); (case side1 => refine (Kd.R_reads' (e := 3) (base := w.heap.size) (ok := fun k_ => (some k_ ≠ (.slice (some ad90022) t90002.length co10 : Value).ownBlock ∧ (some k_ ≠ (.slice Ao15 t90009.length co15 : Value).ownBlock ∧ some k_ ≠ (.slice Ao22 t90015.length co22 : Value).ownBlock))) (n := t90024.length) (c := co66) ?_).2.2; exact (by (with_reducible repeat (first | apply Kd.R_alloc | apply Kd.R_drewN | apply Kd.R_drew)); exact (Kd.R_mono (Kd.R_far (p := ⟨gb90028, 1, none⟩) (Kd.R_far (p := ⟨gb90028, 0, none⟩) (Kd.R_types HO90026.out BK90028.out (by decide)) (fun _ hk => hk.2) (.int .i64 t90023)) (fun _ hk => hk.2) (.slice Ao66 t90024.length co66)) (fun _ h_ => h_.1)))); (case side2 => exact (Kd.R_reads' HO90026.out).2.1); (case side3 => refine (Kd.Q_reads' (e := 3) (base := w.heap.size) (ok := fun k_ => (some k_ ≠ (.slice Ao66 t90024.length co66 : Value).ownBlock ∧ (some k_ ≠ (.slice Ao15 t90009.length co15 : Value).ownBlock ∧ some k_ ≠ (.slice Ao22 t90015.length co22 : Value).ownBlock))) (n := t90002.length) (c := co10) ?_).2.2; exact (by (with_reducible repeat (first | apply Kd.Q_alloc | apply Kd.Q_drewN | apply Kd.Q_drew)); exact (Kd.Q_mono (Kd.Q_far (p := ⟨gb90028, 1, none⟩) (Kd.Q_far (p := ⟨gb90028, 0, none⟩) (Kd.Q_types HO_90008001.out BK90028.out (by decide)) (fun _ hk => hk.2) (.int .i64 t90023)) (fun _ hk => hk.2) (.slice Ao66 t90024.length co66)) (fun _ h_ => h_.1)))); (case side4 => exact (Kd.Q_reads' HO_90008001.out).2.1); rintro e w' ⟨rfl, ⟨nd, rfl⟩⟩))
                    go_ret
                    exact ⟨by first | rfl | (simp [errW_none, errW_some] <;> rfl) | (simp [*, errW_none, errW_some] <;> rfl), by repeat (first | (with_reducible first | exact HB.out | apply below_alloc | apply pw_below_drewN | apply below_drew1 | refine below_set ?_ GE90007.out | refine below_set ?_ GE90013.out | refine below_set ?_ GE90019.out | refine below_set ?_ GE90028.out) | exact HB.out)⟩
                  · replace c60 := Bool.eq_false_iff.mpr c60
                    subst c60
                    have H1 : (some false) = some r := by rw [if_neg (show ¬ (false = true) by decide)] at H; exact H
                    clear H
                    have H := H1
                    clear H1
                    obtain rfl := Option.some.inj H
                    try go_wp2
                    have n0_ := Aside0.mk (Kd.Q_drew HO_90008001.out)
                    have n1_ := Aside0.mk (Kd.Q_drew HO_90014001.out)
                    have n2_ := Aside0.mk (Kd.Q_drew HO_90020001.out)
                    have n3_ := Aside0.mk (blk_drew BK90007.out)
                    have n4_ := Aside0.mk (blk_drew BK90013.out)
                    have n5_ := Aside0.mk (blk_drew BK90019.out)
                    have n6_ := Aside0.mk (below_drew1 HB.out)
                    clear HO_90008001
                    clear HO_90014001
                    clear HO_90020001
                    clear BK90007
                    clear BK90013
                    clear BK90019
                    clear HB
                    have HO_90008001 := n0_
                    have HO_90014001 := n1_
                    have HO_90020001 := n2_
                    have BK90007 := n3_
                    have BK90013 := n4_
                    have BK90019 := n5_
                    have HB := n6_
                    clear n0_ n1_ n2_ n3_ n4_ n5_ n6_
                    have p90022 : 0 ≤ (t90005 : Int) := of_decide_eq_true (by first | (with_reducible assumption) | assumption)
                    have q90022 : t90005 < (t90002.length : Int) := of_decide_eq_true (by first | (with_reducible assumption) | assumption)
                    obtain ⟨ad90022, e90022, hx90022_0⟩ := Kd.at_int (Kd.Q_reads' HO_90008001.out).2.2 t90005 p90022 q90022
                    cases e90022
                    replace p90022 := eq_true p90022
                    replace q90022 := eq_true q90022
                    refine start_ (n := 14) (S := fun w' => w'.cell? ⟨gb90019, 0, none⟩ = some (.int .i64 t90014) ∧ w'.cell? ⟨gb90019, 1, none⟩ = some (.slice Ao22 t90015.length co22) ∧ w'.cell? ⟨gb90007, 0, none⟩ = some (.int .i64 t90001) ∧ w'.cell? ⟨gb90007, 1, none⟩ = some (.slice (some ad90022) t90002.length co10) ∧ w'.cell? (ad90022.add (t90005).toNat) = some (.int .i64 (rd t90002 t90005))) (ds := []) #[false, false, false, false, false, false, false, false, false, false, false, false, false, false] (by kernel_rfl) rfl rfl ⟨(blk_cell BK90019.out 0).trans rfl, (blk_cell BK90019.out 1).trans rfl, (blk_cell BK90007.out 0).trans rfl, (blk_cell BK90007.out 1).trans rfl, hx90022_0⟩ (fun hHeld => ?_); refine with_tabW laws_FnMapBack.tab8 laws_FnMapBack.bits8 (fun HT_ HW_ => ?_)
                    generalize wc.drew = w75 at HO_90008001 HO_90014001 HO_90020001 BK90007 BK90013 BK90019 HB hx90022_0 hHeld ⊢
                    refine pure_ (i := 1) (N := some 58) (v := ?_) (a' := ?_) #[false, true, false, false, false, false, false, false, false, false, false, false, false, false] rfl rfl (any_of HT_.out (by kernel_rfl)) (fun _ _ _ h => h) (Or.inl ⟨by rfl, ?_⟩) ?_ ?_
                    rotate_left
                    · intro w'
                      go_simp
                      with_reducible rfl
                    rotate_left
                    · simp only [Act.put, List.setIfInBounds_toArray, List.set_cons_zero, List.set_cons_succ, i64_w, i32_w]
                      rfl
                    refine pure_ (i := 2) (N := some 59) (v := ?_) (a' := ?_) #[false, true, true, false, false, false, false, false, false, false, false, false, false, false] rfl rfl (any_of HT_.out (by kernel_rfl)) (fun _ _ _ h => h) (Or.inl ⟨by rfl, ?_⟩) ?_ ?_
                    rotate_left
                    · intro w'
                      go_simp
                      with_reducible rfl
                    rotate_left
                    · simp only [Act.put, List.setIfInBounds_toArray, List.set_cons_zero, List.set_cons_succ, i64_w, i32_w]
                      rfl
                    refine pure_ (i := 4) (N := some 61) (v := ?_) (a' := ?_) #[false, true, true, false, true, false, false, false, false, false, false, false, false, false] rfl rfl (any_of HT_.out (by kernel_rfl)) (fun _ _ _ h => h) (Or.inl ⟨by rfl, ?_⟩) ?_ ?_
                    rotate_left
                    · intro w'
                      go_simp
                      with_reducible rfl
                    rotate_left
                    · simp only [Act.put, List.setIfInBounds_toArray, List.set_cons_zero, List.set_cons_succ, i64_w, i32_w]
                      rfl
                    refine take_ (i := 0) (N := some 57) (v := ?_) (a' := ?_) #[true, true, true, false, true, false, false, false, false, false, false, false, false, false] rfl rfl (take_ofW HT_.out HW_.out (by kernel_rfl)) (fun _ _ _ h => h) (Or.inl ⟨by rfl, ?_⟩) hHeld ?_ ?_
                    rotate_left
                    · rintro w' ⟨s0, s1, s2, s3, s4⟩
                      go_simp
                      with_reducible rfl
                    rotate_left
                    · simp only [Act.put, List.setIfInBounds_toArray, List.set_cons_zero, List.set_cons_succ, i64_w, i32_w]
                      rfl
                    refine take_ (i := 3) (N := some 60) (v := ?_) (a' := ?_) #[true, true, true, true, true, false, false, false, false, false, false, false, false, false] rfl rfl (take_ofW HT_.out HW_.out (by kernel_rfl)) (fun _ _ _ h => h) (Or.inl ⟨by rfl, ?_⟩) hHeld ?_ ?_
                    rotate_left
                    · rintro w' ⟨s0, s1, s2, s3, s4⟩
                      go_simp
                      with_reducible rfl
                    rotate_left
                    · simp only [Act.put, List.setIfInBounds_toArray, List.set_cons_zero, List.set_cons_succ, i64_w, i32_w]
                      rfl
                    refine pure_ (i := 5) (N := some 62) (v := ?_) (a' := ?_) #[true, true, true, true, true, true, false, false, false, false, false, false, false, false] rfl rfl (any_of HT_.out (by kernel_rfl)) (fun _ _ _ h => h) (Or.inl ⟨by rfl, ?_⟩) ?_ ?_
                    rotate_left
                    · intro w'
                      go_simp
                      with_reducible rfl
                    rotate_left
                    · simp only [Act.put, List.setIfInBounds_toArray, List.set_cons_zero, List.set_cons_succ, i64_w, i32_w]
                      rfl
                    refine take_ (i := 6) (N := some 63) (v := ?_) (a' := ?_) #[true, true, true, true, true, true, true, false, false, false, false, false, false, false] rfl rfl (take_ofW HT_.out HW_.out (by kernel_rfl)) (fun _ _ _ h => h) (Or.inl ⟨by rfl, ?_⟩) hHeld ?_ ?_
                    rotate_left
                    · rintro w' ⟨s0, s1, s2, s3, s4⟩
                      go_simp
                      with_reducible rfl
                    rotate_left
                    · simp only [Act.put, List.setIfInBounds_toArray, List.set_cons_zero, List.set_cons_succ, i64_w, i32_w]
                      rfl
                    refine join_ (σ := Value × Nat) 2 #[true, true, true, true, true, true, true, true, true, true, true, true, false, false] (fun s_ => [(64, .tuple #[.agg #[.int .i64 t90023, s_.1], .int .i64 t90027]), (10, .pointer (some ⟨s_.2, 0, none⟩)), (56, .tuple #[.agg #[.int .i64 t90023, s_.1], .int .i64 t90027]), (65, .agg #[.int .i64 t90023, s_.1]), (66, .int .i64 t90027)]) (fun s_ w' => (w'.cell? ⟨gb90019, 0, none⟩ = some (.int .i64 t90014) ∧ w'.cell? ⟨gb90019, 1, none⟩ = some (.slice Ao22 t90015.length co22) ∧ w'.cell? ⟨gb90007, 0, none⟩ = some (.int .i64 t90001) ∧ w'.cell? ⟨gb90007, 1, none⟩ = some (.slice (some ad90022) t90002.length co10) ∧ w'.cell? (ad90022.add (t90005).toNat) = some (.int .i64 (rd t90002 t90005))) ∧ (Kd.R (Kd.int .i64) 3 w' w.heap.size (fun k_ => some k_ ≠ (.slice (some ad90022) t90002.length co10 : Value).ownBlock ∧ some k_ ≠ (.slice Ao15 t90009.length co15 : Value).ownBlock ∧ some k_ ≠ (.slice Ao22 t90015.length co22 : Value).ownBlock) s_.1 t90024) ∧ (Kd.Q (Kd.int .i64) 3 w' w.heap.size (fun k_ => some k_ ≠ (s_.1 : Value).ownBlock ∧ some k_ ≠ (.slice Ao15 t90009.length co15 : Value).ownBlock ∧ some k_ ≠ (.slice Ao22 t90015.length co22 : Value).ownBlock) (.slice (some ad90022) t90002.length co10) t90002) ∧ (Kd.Q (Kd.int .i64) 3 w' w.heap.size (fun k_ => some k_ ≠ (s_.1 : Value).ownBlock ∧ some k_ ≠ (.slice (some ad90022) t90002.length co10 : Value).ownBlock ∧ some k_ ≠ (.slice Ao22 t90015.length co22 : Value).ownBlock) (.slice Ao15 t90009.length co15) t90009) ∧ (Kd.Q (Kd.int .i64) 3 w' w.heap.size (fun k_ => some k_ ≠ (s_.1 : Value).ownBlock ∧ some k_ ≠ (.slice (some ad90022) t90002.length co10 : Value).ownBlock ∧ some k_ ≠ (.slice Ao15 t90009.length co15 : Value).ownBlock) (.slice Ao22 t90015.length co22) t90015) ∧ (w'.heap[gb90007]? = some (.cells #[.int .i64 t90001, .slice (some ad90022) t90002.length co10] 27 (0, 0))) ∧ (w'.heap[gb90013]? = some (.cells #[.int .i64 t90008, .slice Ao15 t90009.length co15] 27 (0, 0))) ∧ (w'.heap[gb90019]? = some (.cells #[.int .i64 t90014, .slice Ao22 t90015.length co22] 27 (0, 0))) ∧ (w'.heap[s_.2]? = some (.cells #[.int .i64 0, .slice none 0 0] 27 (0, 0))) ∧ (w.heap.size ≤ s_.2) ∧ (w.heap.size ≤ s_.2) ∧ (gb90007 ≠ s_.2) ∧ (s_.2 ≠ gb90007) ∧ (gb90013 ≠ s_.2) ∧ (s_.2 ≠ gb90013) ∧ (gb90019 ≠ s_.2) ∧ (s_.2 ≠ gb90019) ∧ (Below w.heap.size w w')) ?_ ?_
                    rotate_left
                    · intro hCont
                      refine two_ (i := 7) (j := 11) (Ni := some 64) (Nj := some 10) #[true, true, true, true, true, true, true, true, false, false, false, false, false, false] #[true, true, true, true, true, true, true, false, false, false, false, true, false, false] rfl rfl rfl rfl (two_of HT_.out (by kernel_rfl)) (by decide) (by decide) (fun K hK => ?_) (fun K hK => ?_)
                      · skip
                        refine goes_ Try.func30 (by kernel_rfl) rfl #[.agg #[.int .i64 t90014, .slice Ao22 t90015.length co22], .int .i64 t90005, .int .i64 (rd t90002 t90005)] (by rfl) rfl rfl (by (try simp only [List.map_toArray, List.map_cons, List.map_nil]); first | done | rfl | (simp only [List.length_drop, List.length_take]; rfl)) ?_
                        with_reducible refine (impl_MapMove.calls kj5 t90014 _ _ t90015 t90005 (rd t90002 t90005) t90023 t90024 t90027 _ ?side1 ?side2 A49.out).mono ?_
                        (case side1 => repeat (first | exact (Kd.Q_reads' HO_90020001.out).2.2 | (with_reducible refine Kd.C_alloc ?_ _) | (with_reducible refine Kd.C_drewN ?_ _) | (with_reducible refine Kd.C_drew ?_)))
                        (case side2 => exact (Kd.Q_reads' HO_90020001.out).2.1)
                        rintro e w76 ⟨v90025, rfl, ho0, hb⟩
                        have HS4_ := (hb.cell (World.block_lt_of_cell? _ _ (hHeld.2.2.2.2))).trans (hHeld.2.2.2.2)
                        refine ⟨_, rfl, ?_⟩
                        have n0_ := Aside0.mk (Kd.Q_elder' (by (with_reducible repeat (first | apply Kd.Q_alloc | apply Kd.Q_drewN | apply Kd.Q_drew)); exact HO_90008001.out) (Kd.R_base ho0) hb)
                        have n1_ := Aside0.mk (Kd.Q_elder' (by (with_reducible repeat (first | apply Kd.Q_alloc | apply Kd.Q_drewN | apply Kd.Q_drew)); exact HO_90014001.out) (Kd.R_base ho0) hb)
                        have n2_ := Aside0.mk (Kd.Q_elder' (by (with_reducible repeat (first | apply Kd.Q_alloc | apply Kd.Q_drewN | apply Kd.Q_drew)); exact HO_90020001.out) (Kd.R_base ho0) hb)
                        have n3_ := Aside0.mk (Kd.R_lower (Kd.R_new' (Kd.R_new' (Kd.R_new' ho0 (Kd.Q_lt (by (with_reducible repeat (first | apply Kd.Q_alloc | apply Kd.Q_drewN | apply Kd.Q_drew)); exact HO_90008001.out))) (Kd.Q_lt (by (with_reducible repeat (first | apply Kd.Q_alloc | apply Kd.Q_drewN | apply Kd.Q_drew)); exact HO_90014001.out))) (Kd.Q_lt (by (with_reducible repeat (first | apply Kd.Q_alloc | apply Kd.Q_drewN | apply Kd.Q_drew)); exact HO_90020001.out))) (below_size (by repeat (first | (with_reducible first | exact HB.out | apply below_alloc | apply pw_below_drewN | apply below_drew1 | refine below_set ?_ GE90007.out | refine below_set ?_ GE90013.out | refine below_set ?_ GE90019.out) | exact HB.out))))
                        have n4_ := Aside0.mk (blk_below (g := gb90007) (o := .cells #[.int .i64 t90001, .slice (some ad90022) t90002.length co10] 27 (0, 0)) (by (with_reducible repeat (first | refine blk_drewN ?_ _ | refine blk_drew ?_ | refine blk_alloc ?_ _)); exact BK90007.out) hb)
                        have n5_ := Aside0.mk (blk_below (g := gb90013) (o := .cells #[.int .i64 t90008, .slice Ao15 t90009.length co15] 27 (0, 0)) (by (with_reducible repeat (first | refine blk_drewN ?_ _ | refine blk_drew ?_ | refine blk_alloc ?_ _)); exact BK90013.out) hb)
                        have n6_ := Aside0.mk (blk_below (g := gb90019) (o := .cells #[.int .i64 t90014, .slice Ao22 t90015.length co22] 27 (0, 0)) (by (with_reducible repeat (first | refine blk_drewN ?_ _ | refine blk_drew ?_ | refine blk_alloc ?_ _)); exact BK90019.out) hb)
                        have n7_ := Aside0.mk (below_step (by repeat (first | (with_reducible first | exact HB.out | apply below_alloc | apply pw_below_drewN | apply below_drew1 | refine below_set ?_ GE90007.out | refine below_set ?_ GE90013.out | refine below_set ?_ GE90019.out) | exact HB.out)) hb)
                        clear HO_90008001
                        clear HO_90014001
                        clear HO_90020001
                        clear BK90007
                        clear BK90013
                        clear BK90019
                        clear HB
                        have HO_90008001 := n0_
                        have HO_90014001 := n1_
                        have HO_90020001 := n2_
                        have HO90026 := n3_
                        have BK90007 := n4_
                        have BK90013 := n5_
                        have BK90019 := n6_
                        have HB := n7_
                        clear n0_ n1_ n2_ n3_ n4_ n5_ n6_ n7_
                        (try clear hb)
                        (try clear hb2)
                        (try clear hk)
                        (try clear hi)
                        (try clear ho0)
                        refine hK.out _ _ ⟨(blk_cell BK90019.out 0).trans rfl, (blk_cell BK90019.out 1).trans rfl, (blk_cell BK90007.out 0).trans rfl, (blk_cell BK90007.out 1).trans rfl, HS4_⟩ (fun hHeld => ?_)
                        clear hK K
                        refine norm_ (a' := ?_) ?_ ?_
                        rotate_left
                        · show Act.put _ (some 64) _ = _
                          simp only [Act.put, List.setIfInBounds_toArray, List.set_cons_zero, List.set_cons_succ, i64_w, i32_w]
                          rfl
                        refine pure_ (i := 8) (N := some 56) (v := ?_) (a' := ?_) #[true, true, true, true, true, true, true, true, true, false, false, false, false, false] rfl rfl (any_of HT_.out (by kernel_rfl)) (fun _ _ _ h => h) (Or.inl ⟨by rfl, ?_⟩) ?_ ?_
                        rotate_left
                        · intro w'
                          go_simp
                          with_reducible rfl
                        rotate_left
                        · simp only [Act.put, List.setIfInBounds_toArray, List.set_cons_zero, List.set_cons_succ, i64_w, i32_w]
                          rfl
                        refine pure_ (i := 9) (N := some 65) (v := ?_) (a' := ?_) #[true, true, true, true, true, true, true, true, true, true, false, false, false, false] rfl rfl (any_of HT_.out (by kernel_rfl)) (fun _ _ _ h => h) (Or.inl ⟨by rfl, ?_⟩) ?_ ?_
                        rotate_left
                        · intro w'
                          go_simp
                          with_reducible rfl
                        rotate_left
                        · simp only [Act.put, List.setIfInBounds_toArray, List.set_cons_zero, List.set_cons_succ, i64_w, i32_w]
                          rfl
                        refine pure_ (i := 10) (N := some 66) (v := ?_) (a' := ?_) #[true, true, true, true, true, true, true, true, true, true, true, false, false, false] rfl rfl (any_of HT_.out (by kernel_rfl)) (fun _ _ _ h => h) (Or.inl ⟨by rfl, ?_⟩) ?_ ?_
                        rotate_left
                        · intro w'
                          go_simp
                          with_reducible rfl
                        rotate_left
                        · simp only [Act.put, List.setIfInBounds_toArray, List.set_cons_zero, List.set_cons_succ, i64_w, i32_w]
                          rfl
                        refine one_ (i := 11) (N := some 10) #[true, true, true, true, true, true, true, true, true, true, true, true, false, false] rfl rfl (one_of HT_.out (by kernel_rfl)) (by decide) (fun K hK => ?_)
                        refine box_step ?hg (N := 10) ?hd (cs := #[.int .i64 0, .slice none 0 0]) (t := 27) ?hr ?_; (case hd => rfl); (case hg => rfl); (case hr => first | (go_simp; done) | (go_simp; rfl))
                        intro gb90028 hg w77 hbox hb
                        have HS4_ := (hb.cell (World.block_lt_of_cell? _ _ (hHeld.2.2.2.2))).trans (hHeld.2.2.2.2)
                        have n0_ := Aside0.mk (Kd.Q_below (by (with_reducible repeat (first | apply Kd.Q_alloc | apply Kd.Q_drewN | apply Kd.Q_drew)); exact HO_90008001.out) hb)
                        have n1_ := Aside0.mk (Kd.Q_below (by (with_reducible repeat (first | apply Kd.Q_alloc | apply Kd.Q_drewN | apply Kd.Q_drew)); exact HO_90014001.out) hb)
                        have n2_ := Aside0.mk (Kd.Q_below (by (with_reducible repeat (first | apply Kd.Q_alloc | apply Kd.Q_drewN | apply Kd.Q_drew)); exact HO_90020001.out) hb)
                        have n3_ := Aside0.mk (Kd.R_below (by (with_reducible repeat (first | apply Kd.R_alloc | apply Kd.R_drewN | apply Kd.R_drew)); exact HO90026.out) hb)
                        have n4_ := Aside0.mk (blk_below (g := gb90007) (o := .cells #[.int .i64 t90001, .slice (some ad90022) t90002.length co10] 27 (0, 0)) (by (with_reducible repeat (first | refine blk_drewN ?_ _ | refine blk_drew ?_ | refine blk_alloc ?_ _)); exact BK90007.out) hb)
                        have n5_ := Aside0.mk (blk_below (g := gb90013) (o := .cells #[.int .i64 t90008, .slice Ao15 t90009.length co15] 27 (0, 0)) (by (with_reducible repeat (first | refine blk_drewN ?_ _ | refine blk_drew ?_ | refine blk_alloc ?_ _)); exact BK90013.out) hb)
                        have n6_ := Aside0.mk (blk_below (g := gb90019) (o := .cells #[.int .i64 t90014, .slice Ao22 t90015.length co22] 27 (0, 0)) (by (with_reducible repeat (first | refine blk_drewN ?_ _ | refine blk_drew ?_ | refine blk_alloc ?_ _)); exact BK90019.out) hb)
                        have n7_ := Aside0.mk (below_step (by repeat (first | (with_reducible first | exact HB.out | apply below_alloc | apply pw_below_drewN | apply below_drew1 | refine below_set ?_ GE90007.out | refine below_set ?_ GE90013.out | refine below_set ?_ GE90019.out) | exact HB.out)) hb)
                        have n8_ := Aside0.mk (hbox)
                        have n9_ := Aside0.mk ((by rw [hg]; exact (below_size (by repeat (first | (with_reducible first | exact HB.out | apply below_alloc | apply pw_below_drewN | apply below_drew1 | refine below_set ?_ GE90007.out | refine below_set ?_ GE90013.out | refine below_set ?_ GE90019.out) | exact HB.out))) : w.heap.size ≤ gb90028))
                        have n10_ := Aside0.mk ((by rw [hg]; exact (below_size (by repeat (first | (with_reducible first | exact HB.out | apply below_alloc | apply pw_below_drewN | apply below_drew1 | refine below_set ?_ GE90007.out | refine below_set ?_ GE90013.out | refine below_set ?_ GE90019.out) | exact HB.out))) : w.heap.size ≤ gb90028))
                        have n11_ := Aside0.mk ((by rw [hg]; exact Nat.ne_of_lt (blk_lt (g := gb90007) (o := .cells #[.int .i64 t90001, .slice (some ad90022) t90002.length co10] 27 (0, 0)) (by (with_reducible repeat (first | refine blk_drewN ?_ _ | refine blk_drew ?_ | refine blk_alloc ?_ _)); exact BK90007.out)) : gb90007 ≠ gb90028))
                        have n12_ := Aside0.mk ((by rw [hg]; exact Nat.ne_of_gt (blk_lt (g := gb90007) (o := .cells #[.int .i64 t90001, .slice (some ad90022) t90002.length co10] 27 (0, 0)) (by (with_reducible repeat (first | refine blk_drewN ?_ _ | refine blk_drew ?_ | refine blk_alloc ?_ _)); exact BK90007.out)) : gb90028 ≠ gb90007))
                        have n13_ := Aside0.mk ((by rw [hg]; exact Nat.ne_of_lt (blk_lt (g := gb90013) (o := .cells #[.int .i64 t90008, .slice Ao15 t90009.length co15] 27 (0, 0)) (by (with_reducible repeat (first | refine blk_drewN ?_ _ | refine blk_drew ?_ | refine blk_alloc ?_ _)); exact BK90013.out)) : gb90013 ≠ gb90028))
                        have n14_ := Aside0.mk ((by rw [hg]; exact Nat.ne_of_gt (blk_lt (g := gb90013) (o := .cells #[.int .i64 t90008, .slice Ao15 t90009.length co15] 27 (0, 0)) (by (with_reducible repeat (first | refine blk_drewN ?_ _ | refine blk_drew ?_ | refine blk_alloc ?_ _)); exact BK90013.out)) : gb90028 ≠ gb90013))
                        have n15_ := Aside0.mk ((by rw [hg]; exact Nat.ne_of_lt (blk_lt (g := gb90019) (o := .cells #[.int .i64 t90014, .slice Ao22 t90015.length co22] 27 (0, 0)) (by (with_reducible repeat (first | refine blk_drewN ?_ _ | refine blk_drew ?_ | refine blk_alloc ?_ _)); exact BK90019.out)) : gb90019 ≠ gb90028))
                        have n16_ := Aside0.mk ((by rw [hg]; exact Nat.ne_of_gt (blk_lt (g := gb90019) (o := .cells #[.int .i64 t90014, .slice Ao22 t90015.length co22] 27 (0, 0)) (by (with_reducible repeat (first | refine blk_drewN ?_ _ | refine blk_drew ?_ | refine blk_alloc ?_ _)); exact BK90019.out)) : gb90028 ≠ gb90019))
                        clear HO_90008001
                        clear HO_90014001
                        clear HO_90020001
                        clear HO90026
                        clear BK90007
                        clear BK90013
                        clear BK90019
                        clear HB
                        have HO_90008001 := n0_
                        have HO_90014001 := n1_
                        have HO_90020001 := n2_
                        have HO90026 := n3_
                        have BK90007 := n4_
                        have BK90013 := n5_
                        have BK90019 := n6_
                        have HB := n7_
                        have BK90028 := n8_
                        have GW90028 := n9_
                        have GE90028 := n10_
                        have NB90007_90028 := n11_
                        have NB90028_90007 := n12_
                        have NB90013_90028 := n13_
                        have NB90028_90013 := n14_
                        have NB90019_90028 := n15_
                        have NB90028_90019 := n16_
                        clear n0_ n1_ n2_ n3_ n4_ n5_ n6_ n7_ n8_ n9_ n10_ n11_ n12_ n13_ n14_ n15_ n16_
                        clear hb hbox hg
                        refine hK.out _ _ ⟨(blk_cell BK90019.out 0).trans rfl, (blk_cell BK90019.out 1).trans rfl, (blk_cell BK90007.out 0).trans rfl, (blk_cell BK90007.out 1).trans rfl, HS4_⟩ (fun hHeld => ?_)
                        clear hK K
                        refine norm_ (a' := ?_) ?_ ?_
                        rotate_left
                        · show Act.put _ (some 10) _ = _
                          simp only [Act.put, List.setIfInBounds_toArray, List.set_cons_zero, List.set_cons_succ, i64_w, i32_w]
                          rfl
                        exact norm_ (by simp only [putAll, Act.put, List.setIfInBounds_toArray, List.set_cons_zero, List.set_cons_succ]) (hCont (v90025, gb90028) _ ⟨hHeld, (by (with_reducible repeat (first | apply Kd.R_alloc | apply Kd.R_drewN | apply Kd.R_drew)); exact Kd.R_mono HO90026.out (fun _ hk => ⟨hk.1.1.2, ⟨hk.1.2, hk.2⟩⟩)), (by (with_reducible repeat (first | apply Kd.Q_alloc | apply Kd.Q_drewN | apply Kd.Q_drew)); exact Kd.Q_mono HO_90008001.out (fun _ hk => ⟨hk.2, ⟨hk.1.1, hk.1.2⟩⟩)), (by (with_reducible repeat (first | apply Kd.Q_alloc | apply Kd.Q_drewN | apply Kd.Q_drew)); exact Kd.Q_mono HO_90014001.out (fun _ hk => ⟨hk.2, ⟨hk.1.1, hk.1.2⟩⟩)), (by (with_reducible repeat (first | apply Kd.Q_alloc | apply Kd.Q_drewN | apply Kd.Q_drew)); exact Kd.Q_mono HO_90020001.out (fun _ hk => ⟨hk.2, ⟨hk.1.1, hk.1.2⟩⟩)), (by (with_reducible repeat (first | refine blk_drewN ?_ _ | refine blk_drew ?_ | refine blk_alloc ?_ _)); exact BK90007.out), (by (with_reducible repeat (first | refine blk_drewN ?_ _ | refine blk_drew ?_ | refine blk_alloc ?_ _)); exact BK90013.out), (by (with_reducible repeat (first | refine blk_drewN ?_ _ | refine blk_drew ?_ | refine blk_alloc ?_ _)); exact BK90019.out), (by (with_reducible repeat (first | refine blk_drewN ?_ _ | refine blk_drew ?_ | refine blk_alloc ?_ _)); exact BK90028.out), GW90028.out, GE90028.out, NB90007_90028.out, NB90028_90007.out, NB90013_90028.out, NB90028_90013.out, NB90019_90028.out, NB90028_90019.out, (by repeat (first | (with_reducible first | exact HB.out | apply below_alloc | apply pw_below_drewN | apply below_drew1 | refine below_set ?_ GE90007.out | refine below_set ?_ GE90013.out | refine below_set ?_ GE90019.out | refine below_set ?_ GE90028.out) | exact HB.out))⟩)
                      · skip
                        refine box_step ?hg (N := 10) ?hd (cs := #[.int .i64 0, .slice none 0 0]) (t := 27) ?hr ?_; (case hd => rfl); (case hg => rfl); (case hr => first | (go_simp; done) | (go_simp; rfl))
                        intro gb90028 hg w76 hbox hb
                        have HS4_ := (hb.cell (World.block_lt_of_cell? _ _ (hHeld.2.2.2.2))).trans (hHeld.2.2.2.2)
                        have n0_ := Aside0.mk (Kd.Q_below (by (with_reducible repeat (first | apply Kd.Q_alloc | apply Kd.Q_drewN | apply Kd.Q_drew)); exact HO_90008001.out) hb)
                        have n1_ := Aside0.mk (Kd.Q_below (by (with_reducible repeat (first | apply Kd.Q_alloc | apply Kd.Q_drewN | apply Kd.Q_drew)); exact HO_90014001.out) hb)
                        have n2_ := Aside0.mk (Kd.Q_below (by (with_reducible repeat (first | apply Kd.Q_alloc | apply Kd.Q_drewN | apply Kd.Q_drew)); exact HO_90020001.out) hb)
                        have n3_ := Aside0.mk (blk_below (g := gb90007) (o := .cells #[.int .i64 t90001, .slice (some ad90022) t90002.length co10] 27 (0, 0)) (by (with_reducible repeat (first | refine blk_drewN ?_ _ | refine blk_drew ?_ | refine blk_alloc ?_ _)); exact BK90007.out) hb)
                        have n4_ := Aside0.mk (blk_below (g := gb90013) (o := .cells #[.int .i64 t90008, .slice Ao15 t90009.length co15] 27 (0, 0)) (by (with_reducible repeat (first | refine blk_drewN ?_ _ | refine blk_drew ?_ | refine blk_alloc ?_ _)); exact BK90013.out) hb)
                        have n5_ := Aside0.mk (blk_below (g := gb90019) (o := .cells #[.int .i64 t90014, .slice Ao22 t90015.length co22] 27 (0, 0)) (by (with_reducible repeat (first | refine blk_drewN ?_ _ | refine blk_drew ?_ | refine blk_alloc ?_ _)); exact BK90019.out) hb)
                        have n6_ := Aside0.mk (below_step (by repeat (first | (with_reducible first | exact HB.out | apply below_alloc | apply pw_below_drewN | apply below_drew1 | refine below_set ?_ GE90007.out | refine below_set ?_ GE90013.out | refine below_set ?_ GE90019.out) | exact HB.out)) hb)
                        have n7_ := Aside0.mk (hbox)
                        have n8_ := Aside0.mk ((by rw [hg]; exact (below_size (by repeat (first | (with_reducible first | exact HB.out | apply below_alloc | apply pw_below_drewN | apply below_drew1 | refine below_set ?_ GE90007.out | refine below_set ?_ GE90013.out | refine below_set ?_ GE90019.out) | exact HB.out))) : w.heap.size ≤ gb90028))
                        have n9_ := Aside0.mk ((by rw [hg]; exact (below_size (by repeat (first | (with_reducible first | exact HB.out | apply below_alloc | apply pw_below_drewN | apply below_drew1 | refine below_set ?_ GE90007.out | refine below_set ?_ GE90013.out | refine below_set ?_ GE90019.out) | exact HB.out))) : w.heap.size ≤ gb90028))
                        have n10_ := Aside0.mk ((by rw [hg]; exact Nat.ne_of_lt (blk_lt (g := gb90007) (o := .cells #[.int .i64 t90001, .slice (some ad90022) t90002.length co10] 27 (0, 0)) (by (with_reducible repeat (first | refine blk_drewN ?_ _ | refine blk_drew ?_ | refine blk_alloc ?_ _)); exact BK90007.out)) : gb90007 ≠ gb90028))
                        have n11_ := Aside0.mk ((by rw [hg]; exact Nat.ne_of_gt (blk_lt (g := gb90007) (o := .cells #[.int .i64 t90001, .slice (some ad90022) t90002.length co10] 27 (0, 0)) (by (with_reducible repeat (first | refine blk_drewN ?_ _ | refine blk_drew ?_ | refine blk_alloc ?_ _)); exact BK90007.out)) : gb90028 ≠ gb90007))
                        have n12_ := Aside0.mk ((by rw [hg]; exact Nat.ne_of_lt (blk_lt (g := gb90013) (o := .cells #[.int .i64 t90008, .slice Ao15 t90009.length co15] 27 (0, 0)) (by (with_reducible repeat (first | refine blk_drewN ?_ _ | refine blk_drew ?_ | refine blk_alloc ?_ _)); exact BK90013.out)) : gb90013 ≠ gb90028))
                        have n13_ := Aside0.mk ((by rw [hg]; exact Nat.ne_of_gt (blk_lt (g := gb90013) (o := .cells #[.int .i64 t90008, .slice Ao15 t90009.length co15] 27 (0, 0)) (by (with_reducible repeat (first | refine blk_drewN ?_ _ | refine blk_drew ?_ | refine blk_alloc ?_ _)); exact BK90013.out)) : gb90028 ≠ gb90013))
                        have n14_ := Aside0.mk ((by rw [hg]; exact Nat.ne_of_lt (blk_lt (g := gb90019) (o := .cells #[.int .i64 t90014, .slice Ao22 t90015.length co22] 27 (0, 0)) (by (with_reducible repeat (first | refine blk_drewN ?_ _ | refine blk_drew ?_ | refine blk_alloc ?_ _)); exact BK90019.out)) : gb90019 ≠ gb90028))
                        have n15_ := Aside0.mk ((by rw [hg]; exact Nat.ne_of_gt (blk_lt (g := gb90019) (o := .cells #[.int .i64 t90014, .slice Ao22 t90015.length co22] 27 (0, 0)) (by (with_reducible repeat (first | refine blk_drewN ?_ _ | refine blk_drew ?_ | refine blk_alloc ?_ _)); exact BK90019.out)) : gb90028 ≠ gb90019))
                        clear HO_90008001
                        clear HO_90014001
                        clear HO_90020001
                        clear BK90007
                        clear BK90013
                        clear BK90019
                        clear HB
                        have HO_90008001 := n0_
                        have HO_90014001 := n1_
                        have HO_90020001 := n2_
                        have BK90007 := n3_
                        have BK90013 := n4_
                        have BK90019 := n5_
                        have HB := n6_
                        have BK90028 := n7_
                        have GW90028 := n8_
                        have GE90028 := n9_
                        have NB90007_90028 := n10_
                        have NB90028_90007 := n11_
                        have NB90013_90028 := n12_
                        have NB90028_90013 := n13_
                        have NB90019_90028 := n14_
                        have NB90028_90019 := n15_
                        clear n0_ n1_ n2_ n3_ n4_ n5_ n6_ n7_ n8_ n9_ n10_ n11_ n12_ n13_ n14_ n15_
                        clear hb hbox hg
                        refine hK.out _ _ ⟨(blk_cell BK90019.out 0).trans rfl, (blk_cell BK90019.out 1).trans rfl, (blk_cell BK90007.out 0).trans rfl, (blk_cell BK90007.out 1).trans rfl, HS4_⟩ (fun hHeld => ?_)
                        clear hK K
                        refine norm_ (a' := ?_) ?_ ?_
                        rotate_left
                        · show Act.put _ (some 10) _ = _
                          simp only [Act.put, List.setIfInBounds_toArray, List.set_cons_zero, List.set_cons_succ, i64_w, i32_w]
                          rfl
                        refine one_ (i := 7) (N := some 64) #[true, true, true, true, true, true, true, true, false, false, false, true, false, false] rfl rfl (one_of HT_.out (by kernel_rfl)) (by decide) (fun K hK => ?_)
                        refine goes_ Try.func30 (by kernel_rfl) rfl #[.agg #[.int .i64 t90014, .slice Ao22 t90015.length co22], .int .i64 t90005, .int .i64 (rd t90002 t90005)] (by rfl) rfl rfl (by (try simp only [List.map_toArray, List.map_cons, List.map_nil]); first | done | rfl | (simp only [List.length_drop, List.length_take]; rfl)) ?_
                        with_reducible refine (impl_MapMove.calls kj5 t90014 _ _ t90015 t90005 (rd t90002 t90005) t90023 t90024 t90027 _ ?side1 ?side2 A49.out).mono ?_
                        (case side1 => repeat (first | exact (Kd.Q_reads' HO_90020001.out).2.2 | (with_reducible refine Kd.C_alloc ?_ _) | (with_reducible refine Kd.C_drewN ?_ _) | (with_reducible refine Kd.C_drew ?_)))
                        (case side2 => exact (Kd.Q_reads' HO_90020001.out).2.1)
                        rintro e w77 ⟨v90025, rfl, ho0, hb⟩
                        have HS4_ := (hb.cell (World.block_lt_of_cell? _ _ (hHeld.2.2.2.2))).trans (hHeld.2.2.2.2)
                        refine ⟨_, rfl, ?_⟩
                        have n0_ := Aside0.mk (Kd.Q_elder' (by (with_reducible repeat (first | apply Kd.Q_alloc | apply Kd.Q_drewN | apply Kd.Q_drew)); exact HO_90008001.out) (Kd.R_base ho0) hb)
                        have n1_ := Aside0.mk (Kd.Q_elder' (by (with_reducible repeat (first | apply Kd.Q_alloc | apply Kd.Q_drewN | apply Kd.Q_drew)); exact HO_90014001.out) (Kd.R_base ho0) hb)
                        have n2_ := Aside0.mk (Kd.Q_elder' (by (with_reducible repeat (first | apply Kd.Q_alloc | apply Kd.Q_drewN | apply Kd.Q_drew)); exact HO_90020001.out) (Kd.R_base ho0) hb)
                        have n3_ := Aside0.mk (Kd.R_lower (Kd.R_new' (Kd.R_new' (Kd.R_new' ho0 (Kd.Q_lt (by (with_reducible repeat (first | apply Kd.Q_alloc | apply Kd.Q_drewN | apply Kd.Q_drew)); exact HO_90008001.out))) (Kd.Q_lt (by (with_reducible repeat (first | apply Kd.Q_alloc | apply Kd.Q_drewN | apply Kd.Q_drew)); exact HO_90014001.out))) (Kd.Q_lt (by (with_reducible repeat (first | apply Kd.Q_alloc | apply Kd.Q_drewN | apply Kd.Q_drew)); exact HO_90020001.out))) (below_size (by repeat (first | (with_reducible first | exact HB.out | apply below_alloc | apply pw_below_drewN | apply below_drew1 | refine below_set ?_ GE90007.out | refine below_set ?_ GE90013.out | refine below_set ?_ GE90019.out | refine below_set ?_ GE90028.out) | exact HB.out))))
                        have n4_ := Aside0.mk (blk_below (g := gb90007) (o := .cells #[.int .i64 t90001, .slice (some ad90022) t90002.length co10] 27 (0, 0)) (by (with_reducible repeat (first | refine blk_drewN ?_ _ | refine blk_drew ?_ | refine blk_alloc ?_ _)); exact BK90007.out) hb)
                        have n5_ := Aside0.mk (blk_below (g := gb90013) (o := .cells #[.int .i64 t90008, .slice Ao15 t90009.length co15] 27 (0, 0)) (by (with_reducible repeat (first | refine blk_drewN ?_ _ | refine blk_drew ?_ | refine blk_alloc ?_ _)); exact BK90013.out) hb)
                        have n6_ := Aside0.mk (blk_below (g := gb90019) (o := .cells #[.int .i64 t90014, .slice Ao22 t90015.length co22] 27 (0, 0)) (by (with_reducible repeat (first | refine blk_drewN ?_ _ | refine blk_drew ?_ | refine blk_alloc ?_ _)); exact BK90019.out) hb)
                        have n7_ := Aside0.mk (blk_below (g := gb90028) (o := .cells #[.int .i64 0, .slice none 0 0] 27 (0, 0)) (by (with_reducible repeat (first | refine blk_drewN ?_ _ | refine blk_drew ?_ | refine blk_alloc ?_ _)); exact BK90028.out) hb)
                        have n8_ := Aside0.mk (below_step (by repeat (first | (with_reducible first | exact HB.out | apply below_alloc | apply pw_below_drewN | apply below_drew1 | refine below_set ?_ GE90007.out | refine below_set ?_ GE90013.out | refine below_set ?_ GE90019.out | refine below_set ?_ GE90028.out) | exact HB.out)) hb)
                        clear HO_90008001
                        clear HO_90014001
                        clear HO_90020001
                        clear BK90007
                        clear BK90013
                        clear BK90019
                        clear BK90028
                        clear HB
                        have HO_90008001 := n0_
                        have HO_90014001 := n1_
                        have HO_90020001 := n2_
                        have HO90026 := n3_
                        have BK90007 := n4_
                        have BK90013 := n5_
                        have BK90019 := n6_
                        have BK90028 := n7_
                        have HB := n8_
                        clear n0_ n1_ n2_ n3_ n4_ n5_ n6_ n7_ n8_
                        (try clear hb)
                        (try clear hb2)
                        (try clear hk)
                        (try clear hi)
                        (try clear ho0)
                        refine hK.out _ _ ⟨(blk_cell BK90019.out 0).trans rfl, (blk_cell BK90019.out 1).trans rfl, (blk_cell BK90007.out 0).trans rfl, (blk_cell BK90007.out 1).trans rfl, HS4_⟩ (fun hHeld => ?_)
                        clear hK K
                        refine norm_ (a' := ?_) ?_ ?_
                        rotate_left
                        · show Act.put _ (some 64) _ = _
                          simp only [Act.put, List.setIfInBounds_toArray, List.set_cons_zero, List.set_cons_succ, i64_w, i32_w]
                          rfl
                        refine pure_ (i := 8) (N := some 56) (v := ?_) (a' := ?_) #[true, true, true, true, true, true, true, true, true, false, false, true, false, false] rfl rfl (any_of HT_.out (by kernel_rfl)) (fun _ _ _ h => h) (Or.inl ⟨by rfl, ?_⟩) ?_ ?_
                        rotate_left
                        · intro w'
                          go_simp
                          with_reducible rfl
                        rotate_left
                        · simp only [Act.put, List.setIfInBounds_toArray, List.set_cons_zero, List.set_cons_succ, i64_w, i32_w]
                          rfl
                        refine pure_ (i := 9) (N := some 65) (v := ?_) (a' := ?_) #[true, true, true, true, true, true, true, true, true, true, false, true, false, false] rfl rfl (any_of HT_.out (by kernel_rfl)) (fun _ _ _ h => h) (Or.inl ⟨by rfl, ?_⟩) ?_ ?_
                        rotate_left
                        · intro w'
                          go_simp
                          with_reducible rfl
                        rotate_left
                        · simp only [Act.put, List.setIfInBounds_toArray, List.set_cons_zero, List.set_cons_succ, i64_w, i32_w]
                          rfl
                        refine pure_ (i := 10) (N := some 66) (v := ?_) (a' := ?_) #[true, true, true, true, true, true, true, true, true, true, true, true, false, false] rfl rfl (any_of HT_.out (by kernel_rfl)) (fun _ _ _ h => h) (Or.inl ⟨by rfl, ?_⟩) ?_ ?_
                        rotate_left
                        · intro w'
                          go_simp
                          with_reducible rfl
                        rotate_left
                        · simp only [Act.put, List.setIfInBounds_toArray, List.set_cons_zero, List.set_cons_succ, i64_w, i32_w]
                          rfl
                        exact norm_ (by simp only [putAll, Act.put, List.setIfInBounds_toArray, List.set_cons_zero, List.set_cons_succ]) (hCont (v90025, gb90028) _ ⟨hHeld, (by (with_reducible repeat (first | apply Kd.R_alloc | apply Kd.R_drewN | apply Kd.R_drew)); exact Kd.R_mono HO90026.out (fun _ hk => ⟨hk.1.1.2, ⟨hk.1.2, hk.2⟩⟩)), (by (with_reducible repeat (first | apply Kd.Q_alloc | apply Kd.Q_drewN | apply Kd.Q_drew)); exact Kd.Q_mono HO_90008001.out (fun _ hk => ⟨hk.2, ⟨hk.1.1, hk.1.2⟩⟩)), (by (with_reducible repeat (first | apply Kd.Q_alloc | apply Kd.Q_drewN | apply Kd.Q_drew)); exact Kd.Q_mono HO_90014001.out (fun _ hk => ⟨hk.2, ⟨hk.1.1, hk.1.2⟩⟩)), (by (with_reducible repeat (first | apply Kd.Q_alloc | apply Kd.Q_drewN | apply Kd.Q_drew)); exact Kd.Q_mono HO_90020001.out (fun _ hk => ⟨hk.2, ⟨hk.1.1, hk.1.2⟩⟩)), (by (with_reducible repeat (first | refine blk_drewN ?_ _ | refine blk_drew ?_ | refine blk_alloc ?_ _)); exact BK90007.out), (by (with_reducible repeat (first | refine blk_drewN ?_ _ | refine blk_drew ?_ | refine blk_alloc ?_ _)); exact BK90013.out), (by (with_reducible repeat (first | refine blk_drewN ?_ _ | refine blk_drew ?_ | refine blk_alloc ?_ _)); exact BK90019.out), (by (with_reducible repeat (first | refine blk_drewN ?_ _ | refine blk_drew ?_ | refine blk_alloc ?_ _)); exact BK90028.out), GW90028.out, GE90028.out, NB90007_90028.out, NB90028_90007.out, NB90013_90028.out, NB90028_90013.out, NB90019_90028.out, NB90028_90019.out, (by repeat (first | (with_reducible first | exact HB.out | apply below_alloc | apply pw_below_drewN | apply below_drew1 | refine below_set ?_ GE90007.out | refine below_set ?_ GE90013.out | refine below_set ?_ GE90019.out | refine below_set ?_ GE90028.out) | exact HB.out))⟩)
                    rintro ⟨v90025, gb90028⟩ w78 ⟨hS_, h0_, h1_, h2_, h3_, h4_, h5_, h6_, h7_, h8_, h9_, h10_, h11_, h12_, h13_, h14_, h15_, h16_⟩
                    have n0_ : Aside0 (Kd.R (Kd.int .i64) 3 w78 w.heap.size (fun k_ => some k_ ≠ (.slice (some ad90022) t90002.length co10 : Value).ownBlock ∧ some k_ ≠ (.slice Ao15 t90009.length co15 : Value).ownBlock ∧ some k_ ≠ (.slice Ao22 t90015.length co22 : Value).ownBlock) v90025 t90024) := ⟨h0_⟩
                    have n1_ : Aside0 (Kd.Q (Kd.int .i64) 3 w78 w.heap.size (fun k_ => some k_ ≠ (v90025 : Value).ownBlock ∧ some k_ ≠ (.slice Ao15 t90009.length co15 : Value).ownBlock ∧ some k_ ≠ (.slice Ao22 t90015.length co22 : Value).ownBlock) (.slice (some ad90022) t90002.length co10) t90002) := ⟨h1_⟩
                    have n2_ : Aside0 (Kd.Q (Kd.int .i64) 3 w78 w.heap.size (fun k_ => some k_ ≠ (v90025 : Value).ownBlock ∧ some k_ ≠ (.slice (some ad90022) t90002.length co10 : Value).ownBlock ∧ some k_ ≠ (.slice Ao22 t90015.length co22 : Value).ownBlock) (.slice Ao15 t90009.length co15) t90009) := ⟨h2_⟩
                    have n3_ : Aside0 (Kd.Q (Kd.int .i64) 3 w78 w.heap.size (fun k_ => some k_ ≠ (v90025 : Value).ownBlock ∧ some k_ ≠ (.slice (some ad90022) t90002.length co10 : Value).ownBlock ∧ some k_ ≠ (.slice Ao15 t90009.length co15 : Value).ownBlock) (.slice Ao22 t90015.length co22) t90015) := ⟨h3_⟩
                    have n4_ : Aside0 (w78.heap[gb90007]? = some (.cells #[.int .i64 t90001, .slice (some ad90022) t90002.length co10] 27 (0, 0))) := ⟨h4_⟩
                    have n5_ : Aside0 (w78.heap[gb90013]? = some (.cells #[.int .i64 t90008, .slice Ao15 t90009.length co15] 27 (0, 0))) := ⟨h5_⟩
                    have n6_ : Aside0 (w78.heap[gb90019]? = some (.cells #[.int .i64 t90014, .slice Ao22 t90015.length co22] 27 (0, 0))) := ⟨h6_⟩
                    have n7_ : Aside0 (w78.heap[gb90028]? = some (.cells #[.int .i64 0, .slice none 0 0] 27 (0, 0))) := ⟨h7_⟩
                    have n8_ : Aside0 (w.heap.size ≤ gb90028) := ⟨h8_⟩
                    have n9_ : Aside0 (w.heap.size ≤ gb90028) := ⟨h9_⟩
                    have n10_ : Aside0 (gb90007 ≠ gb90028) := ⟨h10_⟩
                    have n11_ : Aside0 (gb90028 ≠ gb90007) := ⟨h11_⟩
                    have n12_ : Aside0 (gb90013 ≠ gb90028) := ⟨h12_⟩
                    have n13_ : Aside0 (gb90028 ≠ gb90013) := ⟨h13_⟩
                    have n14_ : Aside0 (gb90019 ≠ gb90028) := ⟨h14_⟩
                    have n15_ : Aside0 (gb90028 ≠ gb90019) := ⟨h15_⟩
                    have n16_ : Aside0 (Below w.heap.size w w78) := ⟨h16_⟩
                    clear HO_90008001
                    clear HO_90014001
                    clear HO_90020001
                    clear BK90007
                    clear BK90013
                    clear BK90019
                    clear HB
                    clear h0_ h1_ h2_ h3_ h4_ h5_ h6_ h7_ h8_ h9_ h10_ h11_ h12_ h13_ h14_ h15_ h16_
                    have HO90026 := n0_
                    have HO_90008001 := n1_
                    have HO_90014001 := n2_
                    have HO_90020001 := n3_
                    have BK90007 := n4_
                    have BK90013 := n5_
                    have BK90019 := n6_
                    have BK90028 := n7_
                    have GW90028 := n8_
                    have GE90028 := n9_
                    have NB90007_90028 := n10_
                    have NB90028_90007 := n11_
                    have NB90013_90028 := n12_
                    have NB90028_90013 := n13_
                    have NB90019_90028 := n14_
                    have NB90028_90019 := n15_
                    have HB := n16_
                    clear n0_ n1_ n2_ n3_ n4_ n5_ n6_ n7_ n8_ n9_ n10_ n11_ n12_ n13_ n14_ n15_ n16_
                    have hHeld : w78.cell? ⟨gb90019, 0, none⟩ = some (.int .i64 t90014) ∧ w78.cell? ⟨gb90019, 1, none⟩ = some (.slice Ao22 t90015.length co22) ∧ w78.cell? ⟨gb90007, 0, none⟩ = some (.int .i64 t90001) ∧ w78.cell? ⟨gb90007, 1, none⟩ = some (.slice (some ad90022) t90002.length co10) ∧ w78.cell? (ad90022.add (t90005).toNat) = some (.int .i64 (rd t90002 t90005)) := hS_
                    obtain ⟨Ao80, co80, eo80⟩ := Kd.R_slice HO90026.out
                    (first | subst eo80 | (injection eo80 with f1_ f2_ f3_; have f4_ := f1_.symm; have f5_ := f3_.symm; clear f1_ f2_ f3_; subst f4_; subst f5_))
                    refine norm_ (a' := ?_) ?_ ?_
                    rotate_left
                    · simp only [putAll, Act.put, List.setIfInBounds_toArray, List.set_cons_zero, List.set_cons_succ]
                      rfl
                    refine one_ (i := 12) (N := none) #[true, true, true, true, true, true, true, true, true, true, true, true, true, false] rfl rfl (one_of HT_.out (by kernel_rfl)) (by decide) (fun K hK => ?_)
                    have hs79 : w78.cell? ⟨gb90028, 0, none⟩ = some (.int .i64 0) := (blk_cell BK90028.out 0).trans rfl
                    have hfs79 := blk_frozen BK90028.out 0
                    have hns79_0 := NB90007_90028.out
                    have hns79_1 := NB90013_90028.out
                    have hns79_2 := NB90019_90028.out
                    have hms79_0 := NB90028_90007.out
                    have hms79_1 := NB90028_90013.out
                    have hms79_2 := NB90028_90019.out
                    have hs81 : w78.cell? ⟨gb90028, 1, none⟩ = some (.slice none 0 0) := (blk_cell BK90028.out 1).trans rfl
                    have hfs81 := blk_frozen BK90028.out 1
                    have hns81_0 := NB90007_90028.out
                    have hns81_1 := NB90013_90028.out
                    have hns81_2 := NB90019_90028.out
                    have hms81_0 := NB90028_90007.out
                    have hms81_1 := NB90028_90013.out
                    have hms81_2 := NB90028_90019.out
                    refine skip_ (w1 := ?_) (by rfl) rfl ?_ ?_
                    rotate_left
                    · go_simp
                      rfl
                    refine hK.out _ _ ⟨((cell_far (p := ⟨gb90028, _, none⟩) NB90019_90028.out _).trans (((cell_far (p := ⟨gb90028, _, none⟩) NB90019_90028.out _).trans (hHeld.1)))), ((cell_far (p := ⟨gb90028, _, none⟩) NB90019_90028.out _).trans (((cell_far (p := ⟨gb90028, _, none⟩) NB90019_90028.out _).trans (hHeld.2.1)))), ((cell_far (p := ⟨gb90028, _, none⟩) NB90007_90028.out _).trans (((cell_far (p := ⟨gb90028, _, none⟩) NB90007_90028.out _).trans (hHeld.2.2.1)))), ((cell_far (p := ⟨gb90028, _, none⟩) NB90007_90028.out _).trans (((cell_far (p := ⟨gb90028, _, none⟩) NB90007_90028.out _).trans (hHeld.2.2.2.1)))), ((cell_far (p := ⟨gb90028, _, none⟩) (by first | exact Kd.own_blk (Kd.Q_ne HO_90008001.out BK90028.out (by decide)) | (rw [add_block]; exact Kd.own_blk (Kd.Q_ne HO_90008001.out BK90028.out (by decide))) | (show (Addr.add _ _).block ≠ _; rw [add_block]; exact Kd.own_blk (Kd.Q_ne HO_90008001.out BK90028.out (by decide))) | (dsimp only; exact Kd.own_blk (Kd.Q_ne HO_90008001.out BK90028.out (by decide)))) _).trans (((cell_far (p := ⟨gb90028, _, none⟩) (by first | exact Kd.own_blk (Kd.Q_ne HO_90008001.out BK90028.out (by decide)) | (rw [add_block]; exact Kd.own_blk (Kd.Q_ne HO_90008001.out BK90028.out (by decide))) | (show (Addr.add _ _).block ≠ _; rw [add_block]; exact Kd.own_blk (Kd.Q_ne HO_90008001.out BK90028.out (by decide))) | (dsimp only; exact Kd.own_blk (Kd.Q_ne HO_90008001.out BK90028.out (by decide)))) _).trans (hHeld.2.2.2.2))))⟩ (fun hHeld => ?_)
                    clear hK K
                    refine pure_ (i := 13) (N := some 11) (v := ?_) (a' := ?_) #[true, true, true, true, true, true, true, true, true, true, true, true, true, true] rfl rfl (any_of HT_.out (by kernel_rfl)) (fun _ _ _ h => h) (Or.inl ⟨by rfl, ?_⟩) ?_ ?_
                    rotate_left
                    · intro w'
                      go_simp
                      with_reducible rfl
                    rotate_left
                    · simp only [Act.put, List.setIfInBounds_toArray, List.set_cons_zero, List.set_cons_succ, i64_w, i32_w]
                      rfl
                    refine done_ (done_of HT_.out (by kernel_rfl)) ?_
                    have hnb82 := NB90028_90007.out
                    have hnc82 := NB90007_90028.out
                    have hnb83 := NB90028_90013.out
                    have hnc83 := NB90013_90028.out
                    have hnb84 := NB90028_90019.out
                    have hnc84 := NB90019_90028.out
                    have hcz85_0 : w78.cell? ⟨gb90028, 0, none⟩ = some (.int .i64 0) := (blk_cell BK90028.out 0).trans rfl
                    have hcz85_1 : w78.cell? ⟨gb90028, 1, none⟩ = some (.slice none 0 0) := (blk_cell BK90028.out 1).trans rfl
                    have hfz85_0 := blk_frozen BK90028.out 0
                    have hfz85_1 := blk_frozen BK90028.out 1
                    have hnb86 := NB90007_90013.out
                    have hnc86 := NB90013_90007.out
                    have hnb87 := NB90007_90019.out
                    have hnc87 := NB90019_90007.out
                    have hcz88_0 : w78.cell? ⟨gb90007, 0, none⟩ = some (.int .i64 t90001) := (blk_cell BK90007.out 0).trans rfl
                    have hcz88_1 : w78.cell? ⟨gb90007, 1, none⟩ = some (.slice (some ad90022) t90002.length co10) := (blk_cell BK90007.out 1).trans rfl
                    have hfz88_0 := blk_frozen BK90007.out 0
                    have hfz88_1 := blk_frozen BK90007.out 1
                    try go_wp2_with (first | (go_at_call 32; (with_reducible refine (laws_loInts.calls kj5 _ _ t90024 _ _ t90002 false _ ?side1 ?side2 ?side3 ?side4 A59.out).mono ?_); (case side1 => refine (Kd.R_reads' (e := 3) (base := w.heap.size) (ok := fun k_ => (some k_ ≠ (.slice (some ad90022) t90002.length co10 : Value).ownBlock ∧ (some k_ ≠ (.slice Ao15 t90009.length co15 : Value).ownBlock ∧ some k_ ≠ (.slice Ao22 t90015.length co22 : Value).ownBlock))) (n := t90024.length) (c := co80) ?_).2.2; exact (by (with_reducible repeat (first | apply Kd.R_alloc | apply Kd.R_drewN | apply Kd.R_drew)); exact (Kd.R_mono (Kd.R_far (p := ⟨gb90028, 1, none⟩) (Kd.R_far (p := ⟨gb90028, 0, none⟩) (Kd.R_types HO90026.out BK90028.out (by decide)) (fun _ hk => hk.2) (.int .i64 t90023)) (fun _ hk => hk.2) (.slice Ao80 t90024.length co80)) (fun _ h_ => h_.1)))); (case side2 => exact (Kd.R_reads' HO90026.out).2.1); (case side3 => refine (Kd.Q_reads' (e := 3) (base := w.heap.size) (ok := fun k_ => (some k_ ≠ (.slice Ao80 t90024.length co80 : Value).ownBlock ∧ (some k_ ≠ (.slice Ao15 t90009.length co15 : Value).ownBlock ∧ some k_ ≠ (.slice Ao22 t90015.length co22 : Value).ownBlock))) (n := t90002.length) (c := co10) ?_).2.2; exact (by (with_reducible repeat (first | apply Kd.Q_alloc | apply Kd.Q_drewN | apply Kd.Q_drew)); exact (Kd.Q_mono (Kd.Q_far (p := ⟨gb90028, 1, none⟩) (Kd.Q_far (p := ⟨gb90028, 0, none⟩) (Kd.Q_types HO_90008001.out BK90028.out (by decide)) (fun _ hk => hk.2) (.int .i64 t90023)) (fun _ hk => hk.2) (.slice Ao80 t90024.length co80)) (fun _ h_ => h_.1)))); (case side4 => exact (Kd.Q_reads' HO_90008001.out).2.1); rintro e w' ⟨rfl, ⟨nd, rfl⟩⟩))
                    go_ret
                    exact ⟨by first | rfl | (simp [errW_none, errW_some] <;> rfl) | (simp [*, errW_none, errW_some] <;> rfl), by repeat (first | (with_reducible first | exact HB.out | apply below_alloc | apply pw_below_drewN | apply below_drew1 | refine below_set ?_ GE90007.out | refine below_set ?_ GE90013.out | refine below_set ?_ GE90019.out | refine below_set ?_ GE90028.out) | exact HB.out)⟩
                · rw [if_neg c58] at H
                  have c58b0 : (t90027 == 0) = false := beq_eq_false_iff_ne.mpr c58
                  have c58b1 : (t90027 != 0) = true := bne_iff_ne.mpr c58
                  obtain rfl := Option.some.inj H
                  try go_wp2
                  have n0_ := Aside0.mk (Kd.Q_drew HO_90008001.out)
                  have n1_ := Aside0.mk (Kd.Q_drew HO_90014001.out)
                  have n2_ := Aside0.mk (Kd.Q_drew HO_90020001.out)
                  have n3_ := Aside0.mk (blk_drew BK90007.out)
                  have n4_ := Aside0.mk (blk_drew BK90013.out)
                  have n5_ := Aside0.mk (blk_drew BK90019.out)
                  have n6_ := Aside0.mk (below_drew1 HB.out)
                  clear HO_90008001
                  clear HO_90014001
                  clear HO_90020001
                  clear BK90007
                  clear BK90013
                  clear BK90019
                  clear HB
                  have HO_90008001 := n0_
                  have HO_90014001 := n1_
                  have HO_90020001 := n2_
                  have BK90007 := n3_
                  have BK90013 := n4_
                  have BK90019 := n5_
                  have HB := n6_
                  clear n0_ n1_ n2_ n3_ n4_ n5_ n6_
                  have p90022 : 0 ≤ (t90005 : Int) := of_decide_eq_true (by first | (with_reducible assumption) | assumption)
                  have q90022 : t90005 < (t90002.length : Int) := of_decide_eq_true (by first | (with_reducible assumption) | assumption)
                  obtain ⟨ad90022, e90022, hx90022_0⟩ := Kd.at_int (Kd.Q_reads' HO_90008001.out).2.2 t90005 p90022 q90022
                  cases e90022
                  replace p90022 := eq_true p90022
                  replace q90022 := eq_true q90022
                  refine start_ (n := 14) (S := fun w' => w'.cell? ⟨gb90019, 0, none⟩ = some (.int .i64 t90014) ∧ w'.cell? ⟨gb90019, 1, none⟩ = some (.slice Ao22 t90015.length co22) ∧ w'.cell? ⟨gb90007, 0, none⟩ = some (.int .i64 t90001) ∧ w'.cell? ⟨gb90007, 1, none⟩ = some (.slice (some ad90022) t90002.length co10) ∧ w'.cell? (ad90022.add (t90005).toNat) = some (.int .i64 (rd t90002 t90005))) (ds := []) #[false, false, false, false, false, false, false, false, false, false, false, false, false, false] (by kernel_rfl) rfl rfl ⟨(blk_cell BK90019.out 0).trans rfl, (blk_cell BK90019.out 1).trans rfl, (blk_cell BK90007.out 0).trans rfl, (blk_cell BK90007.out 1).trans rfl, hx90022_0⟩ (fun hHeld => ?_); refine with_tabW laws_FnMapBack.tab8 laws_FnMapBack.bits8 (fun HT_ HW_ => ?_)
                  generalize wc.drew = w89 at HO_90008001 HO_90014001 HO_90020001 BK90007 BK90013 BK90019 HB hx90022_0 hHeld ⊢
                  refine pure_ (i := 1) (N := some 58) (v := ?_) (a' := ?_) #[false, true, false, false, false, false, false, false, false, false, false, false, false, false] rfl rfl (any_of HT_.out (by kernel_rfl)) (fun _ _ _ h => h) (Or.inl ⟨by rfl, ?_⟩) ?_ ?_
                  rotate_left
                  · intro w'
                    go_simp
                    with_reducible rfl
                  rotate_left
                  · simp only [Act.put, List.setIfInBounds_toArray, List.set_cons_zero, List.set_cons_succ, i64_w, i32_w]
                    rfl
                  refine pure_ (i := 2) (N := some 59) (v := ?_) (a' := ?_) #[false, true, true, false, false, false, false, false, false, false, false, false, false, false] rfl rfl (any_of HT_.out (by kernel_rfl)) (fun _ _ _ h => h) (Or.inl ⟨by rfl, ?_⟩) ?_ ?_
                  rotate_left
                  · intro w'
                    go_simp
                    with_reducible rfl
                  rotate_left
                  · simp only [Act.put, List.setIfInBounds_toArray, List.set_cons_zero, List.set_cons_succ, i64_w, i32_w]
                    rfl
                  refine pure_ (i := 4) (N := some 61) (v := ?_) (a' := ?_) #[false, true, true, false, true, false, false, false, false, false, false, false, false, false] rfl rfl (any_of HT_.out (by kernel_rfl)) (fun _ _ _ h => h) (Or.inl ⟨by rfl, ?_⟩) ?_ ?_
                  rotate_left
                  · intro w'
                    go_simp
                    with_reducible rfl
                  rotate_left
                  · simp only [Act.put, List.setIfInBounds_toArray, List.set_cons_zero, List.set_cons_succ, i64_w, i32_w]
                    rfl
                  refine take_ (i := 0) (N := some 57) (v := ?_) (a' := ?_) #[true, true, true, false, true, false, false, false, false, false, false, false, false, false] rfl rfl (take_ofW HT_.out HW_.out (by kernel_rfl)) (fun _ _ _ h => h) (Or.inl ⟨by rfl, ?_⟩) hHeld ?_ ?_
                  rotate_left
                  · rintro w' ⟨s0, s1, s2, s3, s4⟩
                    go_simp
                    with_reducible rfl
                  rotate_left
                  · simp only [Act.put, List.setIfInBounds_toArray, List.set_cons_zero, List.set_cons_succ, i64_w, i32_w]
                    rfl
                  refine take_ (i := 3) (N := some 60) (v := ?_) (a' := ?_) #[true, true, true, true, true, false, false, false, false, false, false, false, false, false] rfl rfl (take_ofW HT_.out HW_.out (by kernel_rfl)) (fun _ _ _ h => h) (Or.inl ⟨by rfl, ?_⟩) hHeld ?_ ?_
                  rotate_left
                  · rintro w' ⟨s0, s1, s2, s3, s4⟩
                    go_simp
                    with_reducible rfl
                  rotate_left
                  · simp only [Act.put, List.setIfInBounds_toArray, List.set_cons_zero, List.set_cons_succ, i64_w, i32_w]
                    rfl
                  refine pure_ (i := 5) (N := some 62) (v := ?_) (a' := ?_) #[true, true, true, true, true, true, false, false, false, false, false, false, false, false] rfl rfl (any_of HT_.out (by kernel_rfl)) (fun _ _ _ h => h) (Or.inl ⟨by rfl, ?_⟩) ?_ ?_
                  rotate_left
                  · intro w'
                    go_simp
                    with_reducible rfl
                  rotate_left
                  · simp only [Act.put, List.setIfInBounds_toArray, List.set_cons_zero, List.set_cons_succ, i64_w, i32_w]
                    rfl
                  refine take_ (i := 6) (N := some 63) (v := ?_) (a' := ?_) #[true, true, true, true, true, true, true, false, false, false, false, false, false, false] rfl rfl (take_ofW HT_.out HW_.out (by kernel_rfl)) (fun _ _ _ h => h) (Or.inl ⟨by rfl, ?_⟩) hHeld ?_ ?_
                  rotate_left
                  · rintro w' ⟨s0, s1, s2, s3, s4⟩
                    go_simp
                    with_reducible rfl
                  rotate_left
                  · simp only [Act.put, List.setIfInBounds_toArray, List.set_cons_zero, List.set_cons_succ, i64_w, i32_w]
                    rfl
                  refine join_ (σ := Value × Nat) 2 #[true, true, true, true, true, true, true, true, true, true, true, true, false, false] (fun s_ => [(64, .tuple #[.agg #[.int .i64 t90023, s_.1], .int .i64 t90027]), (10, .pointer (some ⟨s_.2, 0, none⟩)), (56, .tuple #[.agg #[.int .i64 t90023, s_.1], .int .i64 t90027]), (65, .agg #[.int .i64 t90023, s_.1]), (66, .int .i64 t90027)]) (fun s_ w' => (w'.cell? ⟨gb90019, 0, none⟩ = some (.int .i64 t90014) ∧ w'.cell? ⟨gb90019, 1, none⟩ = some (.slice Ao22 t90015.length co22) ∧ w'.cell? ⟨gb90007, 0, none⟩ = some (.int .i64 t90001) ∧ w'.cell? ⟨gb90007, 1, none⟩ = some (.slice (some ad90022) t90002.length co10) ∧ w'.cell? (ad90022.add (t90005).toNat) = some (.int .i64 (rd t90002 t90005))) ∧ (Kd.R (Kd.int .i64) 3 w' w.heap.size (fun k_ => some k_ ≠ (.slice (some ad90022) t90002.length co10 : Value).ownBlock ∧ some k_ ≠ (.slice Ao15 t90009.length co15 : Value).ownBlock ∧ some k_ ≠ (.slice Ao22 t90015.length co22 : Value).ownBlock) s_.1 t90024) ∧ (Kd.Q (Kd.int .i64) 3 w' w.heap.size (fun k_ => some k_ ≠ (s_.1 : Value).ownBlock ∧ some k_ ≠ (.slice Ao15 t90009.length co15 : Value).ownBlock ∧ some k_ ≠ (.slice Ao22 t90015.length co22 : Value).ownBlock) (.slice (some ad90022) t90002.length co10) t90002) ∧ (Kd.Q (Kd.int .i64) 3 w' w.heap.size (fun k_ => some k_ ≠ (s_.1 : Value).ownBlock ∧ some k_ ≠ (.slice (some ad90022) t90002.length co10 : Value).ownBlock ∧ some k_ ≠ (.slice Ao22 t90015.length co22 : Value).ownBlock) (.slice Ao15 t90009.length co15) t90009) ∧ (Kd.Q (Kd.int .i64) 3 w' w.heap.size (fun k_ => some k_ ≠ (s_.1 : Value).ownBlock ∧ some k_ ≠ (.slice (some ad90022) t90002.length co10 : Value).ownBlock ∧ some k_ ≠ (.slice Ao15 t90009.length co15 : Value).ownBlock) (.slice Ao22 t90015.length co22) t90015) ∧ (w'.heap[gb90007]? = some (.cells #[.int .i64 t90001, .slice (some ad90022) t90002.length co10] 27 (0, 0))) ∧ (w'.heap[gb90013]? = some (.cells #[.int .i64 t90008, .slice Ao15 t90009.length co15] 27 (0, 0))) ∧ (w'.heap[gb90019]? = some (.cells #[.int .i64 t90014, .slice Ao22 t90015.length co22] 27 (0, 0))) ∧ (w'.heap[s_.2]? = some (.cells #[.int .i64 0, .slice none 0 0] 27 (0, 0))) ∧ (w.heap.size ≤ s_.2) ∧ (w.heap.size ≤ s_.2) ∧ (gb90007 ≠ s_.2) ∧ (s_.2 ≠ gb90007) ∧ (gb90013 ≠ s_.2) ∧ (s_.2 ≠ gb90013) ∧ (gb90019 ≠ s_.2) ∧ (s_.2 ≠ gb90019) ∧ (Below w.heap.size w w')) ?_ ?_
                  rotate_left
                  · intro hCont
                    refine two_ (i := 7) (j := 11) (Ni := some 64) (Nj := some 10) #[true, true, true, true, true, true, true, true, false, false, false, false, false, false] #[true, true, true, true, true, true, true, false, false, false, false, true, false, false] rfl rfl rfl rfl (two_of HT_.out (by kernel_rfl)) (by decide) (by decide) (fun K hK => ?_) (fun K hK => ?_)
                    · skip
                      refine goes_ Try.func30 (by kernel_rfl) rfl #[.agg #[.int .i64 t90014, .slice Ao22 t90015.length co22], .int .i64 t90005, .int .i64 (rd t90002 t90005)] (by rfl) rfl rfl (by (try simp only [List.map_toArray, List.map_cons, List.map_nil]); first | done | rfl | (simp only [List.length_drop, List.length_take]; rfl)) ?_
                      with_reducible refine (impl_MapMove.calls kj5 t90014 _ _ t90015 t90005 (rd t90002 t90005) t90023 t90024 t90027 _ ?side1 ?side2 A49.out).mono ?_
                      (case side1 => repeat (first | exact (Kd.Q_reads' HO_90020001.out).2.2 | (with_reducible refine Kd.C_alloc ?_ _) | (with_reducible refine Kd.C_drewN ?_ _) | (with_reducible refine Kd.C_drew ?_)))
                      (case side2 => exact (Kd.Q_reads' HO_90020001.out).2.1)
                      rintro e w90 ⟨v90025, rfl, ho0, hb⟩
                      have HS4_ := (hb.cell (World.block_lt_of_cell? _ _ (hHeld.2.2.2.2))).trans (hHeld.2.2.2.2)
                      refine ⟨_, rfl, ?_⟩
                      have n0_ := Aside0.mk (Kd.Q_elder' (by (with_reducible repeat (first | apply Kd.Q_alloc | apply Kd.Q_drewN | apply Kd.Q_drew)); exact HO_90008001.out) (Kd.R_base ho0) hb)
                      have n1_ := Aside0.mk (Kd.Q_elder' (by (with_reducible repeat (first | apply Kd.Q_alloc | apply Kd.Q_drewN | apply Kd.Q_drew)); exact HO_90014001.out) (Kd.R_base ho0) hb)
                      have n2_ := Aside0.mk (Kd.Q_elder' (by (with_reducible repeat (first | apply Kd.Q_alloc | apply Kd.Q_drewN | apply Kd.Q_drew)); exact HO_90020001.out) (Kd.R_base ho0) hb)
                      have n3_ := Aside0.mk (Kd.R_lower (Kd.R_new' (Kd.R_new' (Kd.R_new' ho0 (Kd.Q_lt (by (with_reducible repeat (first | apply Kd.Q_alloc | apply Kd.Q_drewN | apply Kd.Q_drew)); exact HO_90008001.out))) (Kd.Q_lt (by (with_reducible repeat (first | apply Kd.Q_alloc | apply Kd.Q_drewN | apply Kd.Q_drew)); exact HO_90014001.out))) (Kd.Q_lt (by (with_reducible repeat (first | apply Kd.Q_alloc | apply Kd.Q_drewN | apply Kd.Q_drew)); exact HO_90020001.out))) (below_size (by repeat (first | (with_reducible first | exact HB.out | apply below_alloc | apply pw_below_drewN | apply below_drew1 | refine below_set ?_ GE90007.out | refine below_set ?_ GE90013.out | refine below_set ?_ GE90019.out) | exact HB.out))))
                      have n4_ := Aside0.mk (blk_below (g := gb90007) (o := .cells #[.int .i64 t90001, .slice (some ad90022) t90002.length co10] 27 (0, 0)) (by (with_reducible repeat (first | refine blk_drewN ?_ _ | refine blk_drew ?_ | refine blk_alloc ?_ _)); exact BK90007.out) hb)
                      have n5_ := Aside0.mk (blk_below (g := gb90013) (o := .cells #[.int .i64 t90008, .slice Ao15 t90009.length co15] 27 (0, 0)) (by (with_reducible repeat (first | refine blk_drewN ?_ _ | refine blk_drew ?_ | refine blk_alloc ?_ _)); exact BK90013.out) hb)
                      have n6_ := Aside0.mk (blk_below (g := gb90019) (o := .cells #[.int .i64 t90014, .slice Ao22 t90015.length co22] 27 (0, 0)) (by (with_reducible repeat (first | refine blk_drewN ?_ _ | refine blk_drew ?_ | refine blk_alloc ?_ _)); exact BK90019.out) hb)
                      have n7_ := Aside0.mk (below_step (by repeat (first | (with_reducible first | exact HB.out | apply below_alloc | apply pw_below_drewN | apply below_drew1 | refine below_set ?_ GE90007.out | refine below_set ?_ GE90013.out | refine below_set ?_ GE90019.out) | exact HB.out)) hb)
                      clear HO_90008001
                      clear HO_90014001
                      clear HO_90020001
                      clear BK90007
                      clear BK90013
                      clear BK90019
                      clear HB
                      have HO_90008001 := n0_
                      have HO_90014001 := n1_
                      have HO_90020001 := n2_
                      have HO90026 := n3_
                      have BK90007 := n4_
                      have BK90013 := n5_
                      have BK90019 := n6_
                      have HB := n7_
                      clear n0_ n1_ n2_ n3_ n4_ n5_ n6_ n7_
                      (try clear hb)
                      (try clear hb2)
                      (try clear hk)
                      (try clear hi)
                      (try clear ho0)
                      refine hK.out _ _ ⟨(blk_cell BK90019.out 0).trans rfl, (blk_cell BK90019.out 1).trans rfl, (blk_cell BK90007.out 0).trans rfl, (blk_cell BK90007.out 1).trans rfl, HS4_⟩ (fun hHeld => ?_)
                      clear hK K
                      refine norm_ (a' := ?_) ?_ ?_
                      rotate_left
                      · show Act.put _ (some 64) _ = _
                        simp only [Act.put, List.setIfInBounds_toArray, List.set_cons_zero, List.set_cons_succ, i64_w, i32_w]
                        rfl
                      refine pure_ (i := 8) (N := some 56) (v := ?_) (a' := ?_) #[true, true, true, true, true, true, true, true, true, false, false, false, false, false] rfl rfl (any_of HT_.out (by kernel_rfl)) (fun _ _ _ h => h) (Or.inl ⟨by rfl, ?_⟩) ?_ ?_
                      rotate_left
                      · intro w'
                        go_simp
                        with_reducible rfl
                      rotate_left
                      · simp only [Act.put, List.setIfInBounds_toArray, List.set_cons_zero, List.set_cons_succ, i64_w, i32_w]
                        rfl
                      refine pure_ (i := 9) (N := some 65) (v := ?_) (a' := ?_) #[true, true, true, true, true, true, true, true, true, true, false, false, false, false] rfl rfl (any_of HT_.out (by kernel_rfl)) (fun _ _ _ h => h) (Or.inl ⟨by rfl, ?_⟩) ?_ ?_
                      rotate_left
                      · intro w'
                        go_simp
                        with_reducible rfl
                      rotate_left
                      · simp only [Act.put, List.setIfInBounds_toArray, List.set_cons_zero, List.set_cons_succ, i64_w, i32_w]
                        rfl
                      refine pure_ (i := 10) (N := some 66) (v := ?_) (a' := ?_) #[true, true, true, true, true, true, true, true, true, true, true, false, false, false] rfl rfl (any_of HT_.out (by kernel_rfl)) (fun _ _ _ h => h) (Or.inl ⟨by rfl, ?_⟩) ?_ ?_
                      rotate_left
                      · intro w'
                        go_simp
                        with_reducible rfl
                      rotate_left
                      · simp only [Act.put, List.setIfInBounds_toArray, List.set_cons_zero, List.set_cons_succ, i64_w, i32_w]
                        rfl
                      refine one_ (i := 11) (N := some 10) #[true, true, true, true, true, true, true, true, true, true, true, true, false, false] rfl rfl (one_of HT_.out (by kernel_rfl)) (by decide) (fun K hK => ?_)
                      refine box_step ?hg (N := 10) ?hd (cs := #[.int .i64 0, .slice none 0 0]) (t := 27) ?hr ?_; (case hd => rfl); (case hg => rfl); (case hr => first | (go_simp; done) | (go_simp; rfl))
                      intro gb90028 hg w91 hbox hb
                      have HS4_ := (hb.cell (World.block_lt_of_cell? _ _ (hHeld.2.2.2.2))).trans (hHeld.2.2.2.2)
                      have n0_ := Aside0.mk (Kd.Q_below (by (with_reducible repeat (first | apply Kd.Q_alloc | apply Kd.Q_drewN | apply Kd.Q_drew)); exact HO_90008001.out) hb)
                      have n1_ := Aside0.mk (Kd.Q_below (by (with_reducible repeat (first | apply Kd.Q_alloc | apply Kd.Q_drewN | apply Kd.Q_drew)); exact HO_90014001.out) hb)
                      have n2_ := Aside0.mk (Kd.Q_below (by (with_reducible repeat (first | apply Kd.Q_alloc | apply Kd.Q_drewN | apply Kd.Q_drew)); exact HO_90020001.out) hb)
                      have n3_ := Aside0.mk (Kd.R_below (by (with_reducible repeat (first | apply Kd.R_alloc | apply Kd.R_drewN | apply Kd.R_drew)); exact HO90026.out) hb)
                      have n4_ := Aside0.mk (blk_below (g := gb90007) (o := .cells #[.int .i64 t90001, .slice (some ad90022) t90002.length co10] 27 (0, 0)) (by (with_reducible repeat (first | refine blk_drewN ?_ _ | refine blk_drew ?_ | refine blk_alloc ?_ _)); exact BK90007.out) hb)
                      have n5_ := Aside0.mk (blk_below (g := gb90013) (o := .cells #[.int .i64 t90008, .slice Ao15 t90009.length co15] 27 (0, 0)) (by (with_reducible repeat (first | refine blk_drewN ?_ _ | refine blk_drew ?_ | refine blk_alloc ?_ _)); exact BK90013.out) hb)
                      have n6_ := Aside0.mk (blk_below (g := gb90019) (o := .cells #[.int .i64 t90014, .slice Ao22 t90015.length co22] 27 (0, 0)) (by (with_reducible repeat (first | refine blk_drewN ?_ _ | refine blk_drew ?_ | refine blk_alloc ?_ _)); exact BK90019.out) hb)
                      have n7_ := Aside0.mk (below_step (by repeat (first | (with_reducible first | exact HB.out | apply below_alloc | apply pw_below_drewN | apply below_drew1 | refine below_set ?_ GE90007.out | refine below_set ?_ GE90013.out | refine below_set ?_ GE90019.out) | exact HB.out)) hb)
                      have n8_ := Aside0.mk (hbox)
                      have n9_ := Aside0.mk ((by rw [hg]; exact (below_size (by repeat (first | (with_reducible first | exact HB.out | apply below_alloc | apply pw_below_drewN | apply below_drew1 | refine below_set ?_ GE90007.out | refine below_set ?_ GE90013.out | refine below_set ?_ GE90019.out) | exact HB.out))) : w.heap.size ≤ gb90028))
                      have n10_ := Aside0.mk ((by rw [hg]; exact (below_size (by repeat (first | (with_reducible first | exact HB.out | apply below_alloc | apply pw_below_drewN | apply below_drew1 | refine below_set ?_ GE90007.out | refine below_set ?_ GE90013.out | refine below_set ?_ GE90019.out) | exact HB.out))) : w.heap.size ≤ gb90028))
                      have n11_ := Aside0.mk ((by rw [hg]; exact Nat.ne_of_lt (blk_lt (g := gb90007) (o := .cells #[.int .i64 t90001, .slice (some ad90022) t90002.length co10] 27 (0, 0)) (by (with_reducible repeat (first | refine blk_drewN ?_ _ | refine blk_drew ?_ | refine blk_alloc ?_ _)); exact BK90007.out)) : gb90007 ≠ gb90028))
                      have n12_ := Aside0.mk ((by rw [hg]; exact Nat.ne_of_gt (blk_lt (g := gb90007) (o := .cells #[.int .i64 t90001, .slice (some ad90022) t90002.length co10] 27 (0, 0)) (by (with_reducible repeat (first | refine blk_drewN ?_ _ | refine blk_drew ?_ | refine blk_alloc ?_ _)); exact BK90007.out)) : gb90028 ≠ gb90007))
                      have n13_ := Aside0.mk ((by rw [hg]; exact Nat.ne_of_lt (blk_lt (g := gb90013) (o := .cells #[.int .i64 t90008, .slice Ao15 t90009.length co15] 27 (0, 0)) (by (with_reducible repeat (first | refine blk_drewN ?_ _ | refine blk_drew ?_ | refine blk_alloc ?_ _)); exact BK90013.out)) : gb90013 ≠ gb90028))
                      have n14_ := Aside0.mk ((by rw [hg]; exact Nat.ne_of_gt (blk_lt (g := gb90013) (o := .cells #[.int .i64 t90008, .slice Ao15 t90009.length co15] 27 (0, 0)) (by (with_reducible repeat (first | refine blk_drewN ?_ _ | refine blk_drew ?_ | refine blk_alloc ?_ _)); exact BK90013.out)) : gb90028 ≠ gb90013))
                      have n15_ := Aside0.mk ((by rw [hg]; exact Nat.ne_of_lt (blk_lt (g := gb90019) (o := .cells #[.int .i64 t90014, .slice Ao22 t90015.length co22] 27 (0, 0)) (by (with_reducible repeat (first | refine blk_drewN ?_ _ | refine blk_drew ?_ | refine blk_alloc ?_ _)); exact BK90019.out)) : gb90019 ≠ gb90028))
                      have n16_ := Aside0.mk ((by rw [hg]; exact Nat.ne_of_gt (blk_lt (g := gb90019) (o := .cells #[.int .i64 t90014, .slice Ao22 t90015.length co22] 27 (0, 0)) (by (with_reducible repeat (first | refine blk_drewN ?_ _ | refine blk_drew ?_ | refine blk_alloc ?_ _)); exact BK90019.out)) : gb90028 ≠ gb90019))
                      clear HO_90008001
                      clear HO_90014001
                      clear HO_90020001
                      clear HO90026
                      clear BK90007
                      clear BK90013
                      clear BK90019
                      clear HB
                      have HO_90008001 := n0_
                      have HO_90014001 := n1_
                      have HO_90020001 := n2_
                      have HO90026 := n3_
                      have BK90007 := n4_
                      have BK90013 := n5_
                      have BK90019 := n6_
                      have HB := n7_
                      have BK90028 := n8_
                      have GW90028 := n9_
                      have GE90028 := n10_
                      have NB90007_90028 := n11_
                      have NB90028_90007 := n12_
                      have NB90013_90028 := n13_
                      have NB90028_90013 := n14_
                      have NB90019_90028 := n15_
                      have NB90028_90019 := n16_
                      clear n0_ n1_ n2_ n3_ n4_ n5_ n6_ n7_ n8_ n9_ n10_ n11_ n12_ n13_ n14_ n15_ n16_
                      clear hb hbox hg
                      refine hK.out _ _ ⟨(blk_cell BK90019.out 0).trans rfl, (blk_cell BK90019.out 1).trans rfl, (blk_cell BK90007.out 0).trans rfl, (blk_cell BK90007.out 1).trans rfl, HS4_⟩ (fun hHeld => ?_)
                      clear hK K
                      refine norm_ (a' := ?_) ?_ ?_
                      rotate_left
                      · show Act.put _ (some 10) _ = _
                        simp only [Act.put, List.setIfInBounds_toArray, List.set_cons_zero, List.set_cons_succ, i64_w, i32_w]
                        rfl
                      exact norm_ (by simp only [putAll, Act.put, List.setIfInBounds_toArray, List.set_cons_zero, List.set_cons_succ]) (hCont (v90025, gb90028) _ ⟨hHeld, (by (with_reducible repeat (first | apply Kd.R_alloc | apply Kd.R_drewN | apply Kd.R_drew)); exact Kd.R_mono HO90026.out (fun _ hk => ⟨hk.1.1.2, ⟨hk.1.2, hk.2⟩⟩)), (by (with_reducible repeat (first | apply Kd.Q_alloc | apply Kd.Q_drewN | apply Kd.Q_drew)); exact Kd.Q_mono HO_90008001.out (fun _ hk => ⟨hk.2, ⟨hk.1.1, hk.1.2⟩⟩)), (by (with_reducible repeat (first | apply Kd.Q_alloc | apply Kd.Q_drewN | apply Kd.Q_drew)); exact Kd.Q_mono HO_90014001.out (fun _ hk => ⟨hk.2, ⟨hk.1.1, hk.1.2⟩⟩)), (by (with_reducible repeat (first | apply Kd.Q_alloc | apply Kd.Q_drewN | apply Kd.Q_drew)); exact Kd.Q_mono HO_90020001.out (fun _ hk => ⟨hk.2, ⟨hk.1.1, hk.1.2⟩⟩)), (by (with_reducible repeat (first | refine blk_drewN ?_ _ | refine blk_drew ?_ | refine blk_alloc ?_ _)); exact BK90007.out), (by (with_reducible repeat (first | refine blk_drewN ?_ _ | refine blk_drew ?_ | refine blk_alloc ?_ _)); exact BK90013.out), (by (with_reducible repeat (first | refine blk_drewN ?_ _ | refine blk_drew ?_ | refine blk_alloc ?_ _)); exact BK90019.out), (by (with_reducible repeat (first | refine blk_drewN ?_ _ | refine blk_drew ?_ | refine blk_alloc ?_ _)); exact BK90028.out), GW90028.out, GE90028.out, NB90007_90028.out, NB90028_90007.out, NB90013_90028.out, NB90028_90013.out, NB90019_90028.out, NB90028_90019.out, (by repeat (first | (with_reducible first | exact HB.out | apply below_alloc | apply pw_below_drewN | apply below_drew1 | refine below_set ?_ GE90007.out | refine below_set ?_ GE90013.out | refine below_set ?_ GE90019.out | refine below_set ?_ GE90028.out) | exact HB.out))⟩)
                    · skip
                      refine box_step ?hg (N := 10) ?hd (cs := #[.int .i64 0, .slice none 0 0]) (t := 27) ?hr ?_; (case hd => rfl); (case hg => rfl); (case hr => first | (go_simp; done) | (go_simp; rfl))
                      intro gb90028 hg w90 hbox hb
                      have HS4_ := (hb.cell (World.block_lt_of_cell? _ _ (hHeld.2.2.2.2))).trans (hHeld.2.2.2.2)
                      have n0_ := Aside0.mk (Kd.Q_below (by (with_reducible repeat (first | apply Kd.Q_alloc | apply Kd.Q_drewN | apply Kd.Q_drew)); exact HO_90008001.out) hb)
                      have n1_ := Aside0.mk (Kd.Q_below (by (with_reducible repeat (first | apply Kd.Q_alloc | apply Kd.Q_drewN | apply Kd.Q_drew)); exact HO_90014001.out) hb)
                      have n2_ := Aside0.mk (Kd.Q_below (by (with_reducible repeat (first | apply Kd.Q_alloc | apply Kd.Q_drewN | apply Kd.Q_drew)); exact HO_90020001.out) hb)
                      have n3_ := Aside0.mk (blk_below (g := gb90007) (o := .cells #[.int .i64 t90001, .slice (some ad90022) t90002.length co10] 27 (0, 0)) (by (with_reducible repeat (first | refine blk_drewN ?_ _ | refine blk_drew ?_ | refine blk_alloc ?_ _)); exact BK90007.out) hb)
                      have n4_ := Aside0.mk (blk_below (g := gb90013) (o := .cells #[.int .i64 t90008, .slice Ao15 t90009.length co15] 27 (0, 0)) (by (with_reducible repeat (first | refine blk_drewN ?_ _ | refine blk_drew ?_ | refine blk_alloc ?_ _)); exact BK90013.out) hb)
                      have n5_ := Aside0.mk (blk_below (g := gb90019) (o := .cells #[.int .i64 t90014, .slice Ao22 t90015.length co22] 27 (0, 0)) (by (with_reducible repeat (first | refine blk_drewN ?_ _ | refine blk_drew ?_ | refine blk_alloc ?_ _)); exact BK90019.out) hb)
                      have n6_ := Aside0.mk (below_step (by repeat (first | (with_reducible first | exact HB.out | apply below_alloc | apply pw_below_drewN | apply below_drew1 | refine below_set ?_ GE90007.out | refine below_set ?_ GE90013.out | refine below_set ?_ GE90019.out) | exact HB.out)) hb)
                      have n7_ := Aside0.mk (hbox)
                      have n8_ := Aside0.mk ((by rw [hg]; exact (below_size (by repeat (first | (with_reducible first | exact HB.out | apply below_alloc | apply pw_below_drewN | apply below_drew1 | refine below_set ?_ GE90007.out | refine below_set ?_ GE90013.out | refine below_set ?_ GE90019.out) | exact HB.out))) : w.heap.size ≤ gb90028))
                      have n9_ := Aside0.mk ((by rw [hg]; exact (below_size (by repeat (first | (with_reducible first | exact HB.out | apply below_alloc | apply pw_below_drewN | apply below_drew1 | refine below_set ?_ GE90007.out | refine below_set ?_ GE90013.out | refine below_set ?_ GE90019.out) | exact HB.out))) : w.heap.size ≤ gb90028))
                      have n10_ := Aside0.mk ((by rw [hg]; exact Nat.ne_of_lt (blk_lt (g := gb90007) (o := .cells #[.int .i64 t90001, .slice (some ad90022) t90002.length co10] 27 (0, 0)) (by (with_reducible repeat (first | refine blk_drewN ?_ _ | refine blk_drew ?_ | refine blk_alloc ?_ _)); exact BK90007.out)) : gb90007 ≠ gb90028))
                      have n11_ := Aside0.mk ((by rw [hg]; exact Nat.ne_of_gt (blk_lt (g := gb90007) (o := .cells #[.int .i64 t90001, .slice (some ad90022) t90002.length co10] 27 (0, 0)) (by (with_reducible repeat (first | refine blk_drewN ?_ _ | refine blk_drew ?_ | refine blk_alloc ?_ _)); exact BK90007.out)) : gb90028 ≠ gb90007))
                      have n12_ := Aside0.mk ((by rw [hg]; exact Nat.ne_of_lt (blk_lt (g := gb90013) (o := .cells #[.int .i64 t90008, .slice Ao15 t90009.length co15] 27 (0, 0)) (by (with_reducible repeat (first | refine blk_drewN ?_ _ | refine blk_drew ?_ | refine blk_alloc ?_ _)); exact BK90013.out)) : gb90013 ≠ gb90028))
                      have n13_ := Aside0.mk ((by rw [hg]; exact Nat.ne_of_gt (blk_lt (g := gb90013) (o := .cells #[.int .i64 t90008, .slice Ao15 t90009.length co15] 27 (0, 0)) (by (with_reducible repeat (first | refine blk_drewN ?_ _ | refine blk_drew ?_ | refine blk_alloc ?_ _)); exact BK90013.out)) : gb90028 ≠ gb90013))
                      have n14_ := Aside0.mk ((by rw [hg]; exact Nat.ne_of_lt (blk_lt (g := gb90019) (o := .cells #[.int .i64 t90014, .slice Ao22 t90015.length co22] 27 (0, 0)) (by (with_reducible repeat (first | refine blk_drewN ?_ _ | refine blk_drew ?_ | refine blk_alloc ?_ _)); exact BK90019.out)) : gb90019 ≠ gb90028))
                      have n15_ := Aside0.mk ((by rw [hg]; exact Nat.ne_of_gt (blk_lt (g := gb90019) (o := .cells #[.int .i64 t90014, .slice Ao22 t90015.length co22] 27 (0, 0)) (by (with_reducible repeat (first | refine blk_drewN ?_ _ | refine blk_drew ?_ | refine blk_alloc ?_ _)); exact BK90019.out)) : gb90028 ≠ gb90019))
                      clear HO_90008001
                      clear HO_90014001
                      clear HO_90020001
                      clear BK90007
                      clear BK90013
                      clear BK90019
                      clear HB
                      have HO_90008001 := n0_
                      have HO_90014001 := n1_
                      have HO_90020001 := n2_
                      have BK90007 := n3_
                      have BK90013 := n4_
                      have BK90019 := n5_
                      have HB := n6_
                      have BK90028 := n7_
                      have GW90028 := n8_
                      have GE90028 := n9_
                      have NB90007_90028 := n10_
                      have NB90028_90007 := n11_
                      have NB90013_90028 := n12_
                      have NB90028_90013 := n13_
                      have NB90019_90028 := n14_
                      have NB90028_90019 := n15_
                      clear n0_ n1_ n2_ n3_ n4_ n5_ n6_ n7_ n8_ n9_ n10_ n11_ n12_ n13_ n14_ n15_
                      clear hb hbox hg
                      refine hK.out _ _ ⟨(blk_cell BK90019.out 0).trans rfl, (blk_cell BK90019.out 1).trans rfl, (blk_cell BK90007.out 0).trans rfl, (blk_cell BK90007.out 1).trans rfl, HS4_⟩ (fun hHeld => ?_)
                      clear hK K
                      refine norm_ (a' := ?_) ?_ ?_
                      rotate_left
                      · show Act.put _ (some 10) _ = _
                        simp only [Act.put, List.setIfInBounds_toArray, List.set_cons_zero, List.set_cons_succ, i64_w, i32_w]
                        rfl
                      refine one_ (i := 7) (N := some 64) #[true, true, true, true, true, true, true, true, false, false, false, true, false, false] rfl rfl (one_of HT_.out (by kernel_rfl)) (by decide) (fun K hK => ?_)
                      refine goes_ Try.func30 (by kernel_rfl) rfl #[.agg #[.int .i64 t90014, .slice Ao22 t90015.length co22], .int .i64 t90005, .int .i64 (rd t90002 t90005)] (by rfl) rfl rfl (by (try simp only [List.map_toArray, List.map_cons, List.map_nil]); first | done | rfl | (simp only [List.length_drop, List.length_take]; rfl)) ?_
                      with_reducible refine (impl_MapMove.calls kj5 t90014 _ _ t90015 t90005 (rd t90002 t90005) t90023 t90024 t90027 _ ?side1 ?side2 A49.out).mono ?_
                      (case side1 => repeat (first | exact (Kd.Q_reads' HO_90020001.out).2.2 | (with_reducible refine Kd.C_alloc ?_ _) | (with_reducible refine Kd.C_drewN ?_ _) | (with_reducible refine Kd.C_drew ?_)))
                      (case side2 => exact (Kd.Q_reads' HO_90020001.out).2.1)
                      rintro e w91 ⟨v90025, rfl, ho0, hb⟩
                      have HS4_ := (hb.cell (World.block_lt_of_cell? _ _ (hHeld.2.2.2.2))).trans (hHeld.2.2.2.2)
                      refine ⟨_, rfl, ?_⟩
                      have n0_ := Aside0.mk (Kd.Q_elder' (by (with_reducible repeat (first | apply Kd.Q_alloc | apply Kd.Q_drewN | apply Kd.Q_drew)); exact HO_90008001.out) (Kd.R_base ho0) hb)
                      have n1_ := Aside0.mk (Kd.Q_elder' (by (with_reducible repeat (first | apply Kd.Q_alloc | apply Kd.Q_drewN | apply Kd.Q_drew)); exact HO_90014001.out) (Kd.R_base ho0) hb)
                      have n2_ := Aside0.mk (Kd.Q_elder' (by (with_reducible repeat (first | apply Kd.Q_alloc | apply Kd.Q_drewN | apply Kd.Q_drew)); exact HO_90020001.out) (Kd.R_base ho0) hb)
                      have n3_ := Aside0.mk (Kd.R_lower (Kd.R_new' (Kd.R_new' (Kd.R_new' ho0 (Kd.Q_lt (by (with_reducible repeat (first | apply Kd.Q_alloc | apply Kd.Q_drewN | apply Kd.Q_drew)); exact HO_90008001.out))) (Kd.Q_lt (by (with_reducible repeat (first | apply Kd.Q_alloc | apply Kd.Q_drewN | apply Kd.Q_drew)); exact HO_90014001.out))) (Kd.Q_lt (by (with_reducible repeat (first | apply Kd.Q_alloc | apply Kd.Q_drewN | apply Kd.Q_drew)); exact HO_90020001.out))) (below_size (by repeat (first | (with_reducible first | exact HB.out | apply below_alloc | apply pw_below_drewN | apply below_drew1 | refine below_set ?_ GE90007.out | refine below_set ?_ GE90013.out | refine below_set ?_ GE90019.out | refine below_set ?_ GE90028.out) | exact HB.out))))
                      have n4_ := Aside0.mk (blk_below (g := gb90007) (o := .cells #[.int .i64 t90001, .slice (some ad90022) t90002.length co10] 27 (0, 0)) (by (with_reducible repeat (first | refine blk_drewN ?_ _ | refine blk_drew ?_ | refine blk_alloc ?_ _)); exact BK90007.out) hb)
                      have n5_ := Aside0.mk (blk_below (g := gb90013) (o := .cells #[.int .i64 t90008, .slice Ao15 t90009.length co15] 27 (0, 0)) (by (with_reducible repeat (first | refine blk_drewN ?_ _ | refine blk_drew ?_ | refine blk_alloc ?_ _)); exact BK90013.out) hb)
                      have n6_ := Aside0.mk (blk_below (g := gb90019) (o := .cells #[.int .i64 t90014, .slice Ao22 t90015.length co22] 27 (0, 0)) (by (with_reducible repeat (first | refine blk_drewN ?_ _ | refine blk_drew ?_ | refine blk_alloc ?_ _)); exact BK90019.out) hb)
                      have n7_ := Aside0.mk (blk_below (g := gb90028) (o := .cells #[.int .i64 0, .slice none 0 0] 27 (0, 0)) (by (with_reducible repeat (first | refine blk_drewN ?_ _ | refine blk_drew ?_ | refine blk_alloc ?_ _)); exact BK90028.out) hb)
                      have n8_ := Aside0.mk (below_step (by repeat (first | (with_reducible first | exact HB.out | apply below_alloc | apply pw_below_drewN | apply below_drew1 | refine below_set ?_ GE90007.out | refine below_set ?_ GE90013.out | refine below_set ?_ GE90019.out | refine below_set ?_ GE90028.out) | exact HB.out)) hb)
                      clear HO_90008001
                      clear HO_90014001
                      clear HO_90020001
                      clear BK90007
                      clear BK90013
                      clear BK90019
                      clear BK90028
                      clear HB
                      have HO_90008001 := n0_
                      have HO_90014001 := n1_
                      have HO_90020001 := n2_
                      have HO90026 := n3_
                      have BK90007 := n4_
                      have BK90013 := n5_
                      have BK90019 := n6_
                      have BK90028 := n7_
                      have HB := n8_
                      clear n0_ n1_ n2_ n3_ n4_ n5_ n6_ n7_ n8_
                      (try clear hb)
                      (try clear hb2)
                      (try clear hk)
                      (try clear hi)
                      (try clear ho0)
                      refine hK.out _ _ ⟨(blk_cell BK90019.out 0).trans rfl, (blk_cell BK90019.out 1).trans rfl, (blk_cell BK90007.out 0).trans rfl, (blk_cell BK90007.out 1).trans rfl, HS4_⟩ (fun hHeld => ?_)
                      clear hK K
                      refine norm_ (a' := ?_) ?_ ?_
                      rotate_left
                      · show Act.put _ (some 64) _ = _
                        simp only [Act.put, List.setIfInBounds_toArray, List.set_cons_zero, List.set_cons_succ, i64_w, i32_w]
                        rfl
                      refine pure_ (i := 8) (N := some 56) (v := ?_) (a' := ?_) #[true, true, true, true, true, true, true, true, true, false, false, true, false, false] rfl rfl (any_of HT_.out (by kernel_rfl)) (fun _ _ _ h => h) (Or.inl ⟨by rfl, ?_⟩) ?_ ?_
                      rotate_left
                      · intro w'
                        go_simp
                        with_reducible rfl
                      rotate_left
                      · simp only [Act.put, List.setIfInBounds_toArray, List.set_cons_zero, List.set_cons_succ, i64_w, i32_w]
                        rfl
                      refine pure_ (i := 9) (N := some 65) (v := ?_) (a' := ?_) #[true, true, true, true, true, true, true, true, true, true, false, true, false, false] rfl rfl (any_of HT_.out (by kernel_rfl)) (fun _ _ _ h => h) (Or.inl ⟨by rfl, ?_⟩) ?_ ?_
                      rotate_left
                      · intro w'
                        go_simp
                        with_reducible rfl
                      rotate_left
                      · simp only [Act.put, List.setIfInBounds_toArray, List.set_cons_zero, List.set_cons_succ, i64_w, i32_w]
                        rfl
                      refine pure_ (i := 10) (N := some 66) (v := ?_) (a' := ?_) #[true, true, true, true, true, true, true, true, true, true, true, true, false, false] rfl rfl (any_of HT_.out (by kernel_rfl)) (fun _ _ _ h => h) (Or.inl ⟨by rfl, ?_⟩) ?_ ?_
                      rotate_left
                      · intro w'
                        go_simp
                        with_reducible rfl
                      rotate_left
                      · simp only [Act.put, List.setIfInBounds_toArray, List.set_cons_zero, List.set_cons_succ, i64_w, i32_w]
                        rfl
                      exact norm_ (by simp only [putAll, Act.put, List.setIfInBounds_toArray, List.set_cons_zero, List.set_cons_succ]) (hCont (v90025, gb90028) _ ⟨hHeld, (by (with_reducible repeat (first | apply Kd.R_alloc | apply Kd.R_drewN | apply Kd.R_drew)); exact Kd.R_mono HO90026.out (fun _ hk => ⟨hk.1.1.2, ⟨hk.1.2, hk.2⟩⟩)), (by (with_reducible repeat (first | apply Kd.Q_alloc | apply Kd.Q_drewN | apply Kd.Q_drew)); exact Kd.Q_mono HO_90008001.out (fun _ hk => ⟨hk.2, ⟨hk.1.1, hk.1.2⟩⟩)), (by (with_reducible repeat (first | apply Kd.Q_alloc | apply Kd.Q_drewN | apply Kd.Q_drew)); exact Kd.Q_mono HO_90014001.out (fun _ hk => ⟨hk.2, ⟨hk.1.1, hk.1.2⟩⟩)), (by (with_reducible repeat (first | apply Kd.Q_alloc | apply Kd.Q_drewN | apply Kd.Q_drew)); exact Kd.Q_mono HO_90020001.out (fun _ hk => ⟨hk.2, ⟨hk.1.1, hk.1.2⟩⟩)), (by (with_reducible repeat (first | refine blk_drewN ?_ _ | refine blk_drew ?_ | refine blk_alloc ?_ _)); exact BK90007.out), (by (with_reducible repeat (first | refine blk_drewN ?_ _ | refine blk_drew ?_ | refine blk_alloc ?_ _)); exact BK90013.out), (by (with_reducible repeat (first | refine blk_drewN ?_ _ | refine blk_drew ?_ | refine blk_alloc ?_ _)); exact BK90019.out), (by (with_reducible repeat (first | refine blk_drewN ?_ _ | refine blk_drew ?_ | refine blk_alloc ?_ _)); exact BK90028.out), GW90028.out, GE90028.out, NB90007_90028.out, NB90028_90007.out, NB90013_90028.out, NB90028_90013.out, NB90019_90028.out, NB90028_90019.out, (by repeat (first | (with_reducible first | exact HB.out | apply below_alloc | apply pw_below_drewN | apply below_drew1 | refine below_set ?_ GE90007.out | refine below_set ?_ GE90013.out | refine below_set ?_ GE90019.out | refine below_set ?_ GE90028.out) | exact HB.out))⟩)
                  rintro ⟨v90025, gb90028⟩ w92 ⟨hS_, h0_, h1_, h2_, h3_, h4_, h5_, h6_, h7_, h8_, h9_, h10_, h11_, h12_, h13_, h14_, h15_, h16_⟩
                  have n0_ : Aside0 (Kd.R (Kd.int .i64) 3 w92 w.heap.size (fun k_ => some k_ ≠ (.slice (some ad90022) t90002.length co10 : Value).ownBlock ∧ some k_ ≠ (.slice Ao15 t90009.length co15 : Value).ownBlock ∧ some k_ ≠ (.slice Ao22 t90015.length co22 : Value).ownBlock) v90025 t90024) := ⟨h0_⟩
                  have n1_ : Aside0 (Kd.Q (Kd.int .i64) 3 w92 w.heap.size (fun k_ => some k_ ≠ (v90025 : Value).ownBlock ∧ some k_ ≠ (.slice Ao15 t90009.length co15 : Value).ownBlock ∧ some k_ ≠ (.slice Ao22 t90015.length co22 : Value).ownBlock) (.slice (some ad90022) t90002.length co10) t90002) := ⟨h1_⟩
                  have n2_ : Aside0 (Kd.Q (Kd.int .i64) 3 w92 w.heap.size (fun k_ => some k_ ≠ (v90025 : Value).ownBlock ∧ some k_ ≠ (.slice (some ad90022) t90002.length co10 : Value).ownBlock ∧ some k_ ≠ (.slice Ao22 t90015.length co22 : Value).ownBlock) (.slice Ao15 t90009.length co15) t90009) := ⟨h2_⟩
                  have n3_ : Aside0 (Kd.Q (Kd.int .i64) 3 w92 w.heap.size (fun k_ => some k_ ≠ (v90025 : Value).ownBlock ∧ some k_ ≠ (.slice (some ad90022) t90002.length co10 : Value).ownBlock ∧ some k_ ≠ (.slice Ao15 t90009.length co15 : Value).ownBlock) (.slice Ao22 t90015.length co22) t90015) := ⟨h3_⟩
                  have n4_ : Aside0 (w92.heap[gb90007]? = some (.cells #[.int .i64 t90001, .slice (some ad90022) t90002.length co10] 27 (0, 0))) := ⟨h4_⟩
                  have n5_ : Aside0 (w92.heap[gb90013]? = some (.cells #[.int .i64 t90008, .slice Ao15 t90009.length co15] 27 (0, 0))) := ⟨h5_⟩
                  have n6_ : Aside0 (w92.heap[gb90019]? = some (.cells #[.int .i64 t90014, .slice Ao22 t90015.length co22] 27 (0, 0))) := ⟨h6_⟩
                  have n7_ : Aside0 (w92.heap[gb90028]? = some (.cells #[.int .i64 0, .slice none 0 0] 27 (0, 0))) := ⟨h7_⟩
                  have n8_ : Aside0 (w.heap.size ≤ gb90028) := ⟨h8_⟩
                  have n9_ : Aside0 (w.heap.size ≤ gb90028) := ⟨h9_⟩
                  have n10_ : Aside0 (gb90007 ≠ gb90028) := ⟨h10_⟩
                  have n11_ : Aside0 (gb90028 ≠ gb90007) := ⟨h11_⟩
                  have n12_ : Aside0 (gb90013 ≠ gb90028) := ⟨h12_⟩
                  have n13_ : Aside0 (gb90028 ≠ gb90013) := ⟨h13_⟩
                  have n14_ : Aside0 (gb90019 ≠ gb90028) := ⟨h14_⟩
                  have n15_ : Aside0 (gb90028 ≠ gb90019) := ⟨h15_⟩
                  have n16_ : Aside0 (Below w.heap.size w w92) := ⟨h16_⟩
                  clear HO_90008001
                  clear HO_90014001
                  clear HO_90020001
                  clear BK90007
                  clear BK90013
                  clear BK90019
                  clear HB
                  clear h0_ h1_ h2_ h3_ h4_ h5_ h6_ h7_ h8_ h9_ h10_ h11_ h12_ h13_ h14_ h15_ h16_
                  have HO90026 := n0_
                  have HO_90008001 := n1_
                  have HO_90014001 := n2_
                  have HO_90020001 := n3_
                  have BK90007 := n4_
                  have BK90013 := n5_
                  have BK90019 := n6_
                  have BK90028 := n7_
                  have GW90028 := n8_
                  have GE90028 := n9_
                  have NB90007_90028 := n10_
                  have NB90028_90007 := n11_
                  have NB90013_90028 := n12_
                  have NB90028_90013 := n13_
                  have NB90019_90028 := n14_
                  have NB90028_90019 := n15_
                  have HB := n16_
                  clear n0_ n1_ n2_ n3_ n4_ n5_ n6_ n7_ n8_ n9_ n10_ n11_ n12_ n13_ n14_ n15_ n16_
                  have hHeld : w92.cell? ⟨gb90019, 0, none⟩ = some (.int .i64 t90014) ∧ w92.cell? ⟨gb90019, 1, none⟩ = some (.slice Ao22 t90015.length co22) ∧ w92.cell? ⟨gb90007, 0, none⟩ = some (.int .i64 t90001) ∧ w92.cell? ⟨gb90007, 1, none⟩ = some (.slice (some ad90022) t90002.length co10) ∧ w92.cell? (ad90022.add (t90005).toNat) = some (.int .i64 (rd t90002 t90005)) := hS_
                  obtain ⟨Ao94, co94, eo94⟩ := Kd.R_slice HO90026.out
                  (first | subst eo94 | (injection eo94 with f1_ f2_ f3_; have f4_ := f1_.symm; have f5_ := f3_.symm; clear f1_ f2_ f3_; subst f4_; subst f5_))
                  refine norm_ (a' := ?_) ?_ ?_
                  rotate_left
                  · simp only [putAll, Act.put, List.setIfInBounds_toArray, List.set_cons_zero, List.set_cons_succ]
                    rfl
                  refine one_ (i := 12) (N := none) #[true, true, true, true, true, true, true, true, true, true, true, true, true, false] rfl rfl (one_of HT_.out (by kernel_rfl)) (by decide) (fun K hK => ?_)
                  have hs93 : w92.cell? ⟨gb90028, 0, none⟩ = some (.int .i64 0) := (blk_cell BK90028.out 0).trans rfl
                  have hfs93 := blk_frozen BK90028.out 0
                  have hns93_0 := NB90007_90028.out
                  have hns93_1 := NB90013_90028.out
                  have hns93_2 := NB90019_90028.out
                  have hms93_0 := NB90028_90007.out
                  have hms93_1 := NB90028_90013.out
                  have hms93_2 := NB90028_90019.out
                  have hs95 : w92.cell? ⟨gb90028, 1, none⟩ = some (.slice none 0 0) := (blk_cell BK90028.out 1).trans rfl
                  have hfs95 := blk_frozen BK90028.out 1
                  have hns95_0 := NB90007_90028.out
                  have hns95_1 := NB90013_90028.out
                  have hns95_2 := NB90019_90028.out
                  have hms95_0 := NB90028_90007.out
                  have hms95_1 := NB90028_90013.out
                  have hms95_2 := NB90028_90019.out
                  refine skip_ (w1 := ?_) (by rfl) rfl ?_ ?_
                  rotate_left
                  · go_simp
                    rfl
                  refine hK.out _ _ ⟨((cell_far (p := ⟨gb90028, _, none⟩) NB90019_90028.out _).trans (((cell_far (p := ⟨gb90028, _, none⟩) NB90019_90028.out _).trans (hHeld.1)))), ((cell_far (p := ⟨gb90028, _, none⟩) NB90019_90028.out _).trans (((cell_far (p := ⟨gb90028, _, none⟩) NB90019_90028.out _).trans (hHeld.2.1)))), ((cell_far (p := ⟨gb90028, _, none⟩) NB90007_90028.out _).trans (((cell_far (p := ⟨gb90028, _, none⟩) NB90007_90028.out _).trans (hHeld.2.2.1)))), ((cell_far (p := ⟨gb90028, _, none⟩) NB90007_90028.out _).trans (((cell_far (p := ⟨gb90028, _, none⟩) NB90007_90028.out _).trans (hHeld.2.2.2.1)))), ((cell_far (p := ⟨gb90028, _, none⟩) (by first | exact Kd.own_blk (Kd.Q_ne HO_90008001.out BK90028.out (by decide)) | (rw [add_block]; exact Kd.own_blk (Kd.Q_ne HO_90008001.out BK90028.out (by decide))) | (show (Addr.add _ _).block ≠ _; rw [add_block]; exact Kd.own_blk (Kd.Q_ne HO_90008001.out BK90028.out (by decide))) | (dsimp only; exact Kd.own_blk (Kd.Q_ne HO_90008001.out BK90028.out (by decide)))) _).trans (((cell_far (p := ⟨gb90028, _, none⟩) (by first | exact Kd.own_blk (Kd.Q_ne HO_90008001.out BK90028.out (by decide)) | (rw [add_block]; exact Kd.own_blk (Kd.Q_ne HO_90008001.out BK90028.out (by decide))) | (show (Addr.add _ _).block ≠ _; rw [add_block]; exact Kd.own_blk (Kd.Q_ne HO_90008001.out BK90028.out (by decide))) | (dsimp only; exact Kd.own_blk (Kd.Q_ne HO_90008001.out BK90028.out (by decide)))) _).trans (hHeld.2.2.2.2))))⟩ (fun hHeld => ?_)
                  clear hK K
                  refine pure_ (i := 13) (N := some 11) (v := ?_) (a' := ?_) #[true, true, true, true, true, true, true, true, true, true, true, true, true, true] rfl rfl (any_of HT_.out (by kernel_rfl)) (fun _ _ _ h => h) (Or.inl ⟨by rfl, ?_⟩) ?_ ?_
                  rotate_left
                  · intro w'
                    go_simp
                    with_reducible rfl
                  rotate_left
                  · simp only [Act.put, List.setIfInBounds_toArray, List.set_cons_zero, List.set_cons_succ, i64_w, i32_w]
                    rfl
                  refine done_ (done_of HT_.out (by kernel_rfl)) ?_
                  try go_wp2
                  go_ret
                  exact ⟨by first | rfl | (simp [errW_none, errW_some] <;> rfl) | (simp [*, errW_none, errW_some] <;> rfl), by repeat (first | (with_reducible first | exact HB.out | apply below_alloc | apply pw_below_drewN | apply below_drew1 | refine below_set ?_ GE90007.out | refine below_set ?_ GE90013.out | refine below_set ?_ GE90019.out | refine below_set ?_ GE90028.out) | exact HB.out)⟩
            · rw [if_neg c48] at H
              exact absurd H (by simp)
          · rw [if_neg c47] at H
            exact absurd H (by simp)

/-- THE ONE PURE STATEMENT of laws_FnMapBack: yours. -/
def laws_FnMapBack.Pure : Prop := ∀ (l0 : List Int), l0.length ≤ maxLen → l0.length * 1 ≤ 140737488351232 → (∀ x ∈ l0, (Lit.int .u8 x).wf = true) → ∃ k, laws_FnMapBack.f k l0 = some true
theorem laws_FnMapBack.walk (P : laws_FnMapBack.Pure) (a0 : Option Addr) (len0 cap0 : Nat) (z0 : List Int) (w : World) (w0 : (a0 = none ∧ len0 = 0 ∧ cap0 = 0 ∧ z0 = []) ∨ ∃ x, a0 = some x ∧ len0 ≤ cap0 ∧ cap0 ≤ maxLen ∧ z0.length = cap0 ∧ (∀ i, i < z0.length → w.cell? (x.add i) = some (.int .u8 (z0.getD i 0))) ∧ ∀ n ∈ z0, (Lit.int .u8 n).wf = true) (y0 : len0 * 1 ≤ 140737488351232) :
    Calls Try.prog 8 #[.slice a0 len0 cap0] w fun e w' => e = .returned (.bool true) ∧ Below w.heap.size w w' := by
  obtain ⟨l0, rfl, hr0, hm0, hw0, hc0⟩ := ReadsInt.ofRowC w0
  obtain ⟨k, h⟩ := P l0 hm0 y0 hw0
  refine (laws_FnMapBack.calls k _ _ l0 true w (Kd.C_of_reads (d := (0 : Int)) (h1 := fun _ => rfl) hr0) hc0 h).mono ?_
  rintro e w' ⟨rfl, hd⟩
  exact ⟨rfl, hd⟩

end Go.Proofs.Ytnpmepaiigbhlaa.PX
