-- Written by a program of this workplace (wip/xprint.py over the kit's print.py) out of the translation.
import Derived.Test.YtnpmepaiigbhlaaPXx0
import Derived.Test.YtnpmepaiigbhlaaPXx4
import Derived.Test.YtnpmepaiigbhlaaPXx6
import Derived.Test.YtnpmepaiigbhlaaPXx8
import Derived.Test.YtnpmepaiigbhlaaPXx9
import Derived.Test.YtnpmepaiigbhlaaPXx10
import Derived.Test.YtnpmepaiigbhlaaPXx11
import Derived.Test.YtnpmepaiigbhlaaPXx12
import Derived.Test.YtnpmepaiigbhlaaPXx13
import Derived.Test.YtnpmepaiigbhlaaPXx18
namespace Go.Proofs.Ytnpmepaiigbhlaa.PX
open Go.RowKit Go.Proofs.YtnpmepaiigbhlaaW.PrintWords Go.Proofs.YtnpmepaiigbhlaaW.PrintLast Go.Proofs.YtnpmepaiigbhlaaW.PrintMore
attribute [local go_sem] max2_int min2_int max_two min_two max_three min_three max_four min_four   -- for this text's walks alone
set_option linter.unusedVariables false
set_option linter.unusedSimpArgs false

/-! ### laws_FnMapKeys: function 12 -/
mutual
def laws_FnMapKeys.j0 : Nat → Bool → Bool → Int → List Int → Option (Bool)
  | 0, _, _, _, _ => none
  | k + 1, x4, x24, x130006000, x130006001 => if x24 = true then (some false) else (laws_FnMapKeys.l0 k x4 (-1) x130006000 x130006001)
def laws_FnMapKeys.l0 : Nat → Bool → Int → Int → List Int → Option (Bool)
  | 0, _, _, _, _ => none
  | k + 1, x4, x5, x130006000, x130006001 => if x5 ≤ 32 then ((impl_MapHouse.f k x130006000 x130006001 x5).bind fun t130017 => ((impl_MapSlot.f x5).bind fun t130018 => ((spec_MapHouse.f k x130006000 x130006001 x5).bind fun t130019 => (if t130017 = t130019 then ((spec_MapSlot.f x5).bind fun t130020 => (if t130018 = t130020 then (if x4 = true then (if x5 ≥ 0 then (laws_FnMapKeys.j2 k x4 x5 t130017 t130018 ((decide (t130017 ≥ 0)) != (decide (x5 < 32))) x130006000 x130006001) else (laws_FnMapKeys.j2 k x4 x5 t130017 t130018 ((decide (t130017 ≥ 0)) != false) x130006000 x130006001)) else (laws_FnMapKeys.j2 k x4 x5 t130017 t130018 ((decide (t130017 ≥ 0)) != false) x130006000 x130006001)) else (laws_FnMapKeys.j2 k x4 x5 t130017 t130018 true x130006000 x130006001))) else (laws_FnMapKeys.j2 k x4 x5 t130017 t130018 true x130006000 x130006001))))) else (some true)
def laws_FnMapKeys.j2 : Nat → Bool → Int → Int → Int → Bool → Int → List Int → Option (Bool)
  | 0, _, _, _, _, _, _, _ => none
  | k + 1, x4, x5, x6, x7, x58, x130006000, x130006001 => if x58 = true then (some false) else (if x5 > 0 then ((impl_MapSlot.f (wrap64 (x5 - 1))).bind fun t130021 => (if x7 = t130021 then ((impl_MapHouse.f k x130006000 x130006001 (wrap64 (x5 - 1))).bind fun t130022 => (if x6 = t130022 then (if x7 ≥ 0 then ((impl_MapSlot.f (wrap64 (x5 - 1))).bind fun t130023 => (if x7 < t130023 then (some false) else (laws_FnMapKeys.l0 k x4 (wrap64 (x5 + 1)) x130006000 x130006001))) else (laws_FnMapKeys.l0 k x4 (wrap64 (x5 + 1)) x130006000 x130006001)) else (some false))) else (if x7 ≥ 0 then ((impl_MapSlot.f (wrap64 (x5 - 1))).bind fun t130024 => (if x7 < t130024 then (some false) else (laws_FnMapKeys.l0 k x4 (wrap64 (x5 + 1)) x130006000 x130006001))) else (laws_FnMapKeys.l0 k x4 (wrap64 (x5 + 1)) x130006000 x130006001)))) else (if x7 ≥ 0 then (laws_FnMapKeys.l0 k x4 (wrap64 (x5 + 1)) x130006000 x130006001) else (laws_FnMapKeys.l0 k x4 (wrap64 (x5 + 1)) x130006000 x130006001)))
end
def laws_FnMapKeys.f (k : Nat) (l0 : List Int) : Option (Bool) := if (l0.length : Int) > 1048576 then (some true) else ((spec_DrawMapOk.f k l0).bind fun bt130001 => ((spec_MapOk.f k bt130001.1 bt130001.2).bind fun t130006 => ((impl_MapOk.f k bt130001.1 bt130001.2).bind fun t130007 => (if (t130007 != t130006) = true then (laws_FnMapKeys.j0 k t130006 true bt130001.1 bt130001.2) else ((impl_MapStart.f).bind fun bt130008 => ((spec_MapStart.f k).bind fun bt130012 => ((laws_loMap.f k bt130008.1 bt130008.2 bt130012.1 bt130012.2).bind fun t130016 => (laws_FnMapKeys.j0 k t130006 (!t130016) bt130001.1 bt130001.2))))))))
theorem laws_FnMapKeys.mono_l : ∀ k, (∀ y0 y1 y2 y3, LeO (laws_FnMapKeys.j0 k y0 y1 y2 y3) (laws_FnMapKeys.j0 (k + 1) y0 y1 y2 y3)) ∧ (∀ y0 y1 y2 y3, LeO (laws_FnMapKeys.l0 k y0 y1 y2 y3) (laws_FnMapKeys.l0 (k + 1) y0 y1 y2 y3)) ∧ (∀ y0 y1 y2 y3 y4 y5 y6, LeO (laws_FnMapKeys.j2 k y0 y1 y2 y3 y4 y5 y6) (laws_FnMapKeys.j2 (k + 1) y0 y1 y2 y3 y4 y5 y6))
  | 0 => ⟨fun _ _ _ _ r h => by simp [laws_FnMapKeys.j0] at h, fun _ _ _ _ r h => by simp [laws_FnMapKeys.l0] at h, fun _ _ _ _ _ _ _ r h => by simp [laws_FnMapKeys.j2] at h⟩
  | k + 1 => by
    obtain ⟨ih0, ih1, ih2⟩ := laws_FnMapKeys.mono_l k
    refine ⟨?_, ?_, ?_⟩
    · intro y0 y1 y2 y3
      unfold laws_FnMapKeys.j0
      repeat' first
      | (with_reducible exact ih0 _ _ _ _)
      | (with_reducible exact ih1 _ _ _ _)
      | (with_reducible exact ih2 _ _ _ _ _ _ _)
      | (with_reducible exact impl_MapHouse.mono _ _ _ _)
      | (with_reducible exact impl_MapOk.mono _ _ _)
      | (with_reducible exact laws_loMap.mono _ _ _ _ _)
      | (with_reducible exact spec_DrawMapOk.mono _ _)
      | (with_reducible exact spec_MapHouse.mono _ _ _ _)
      | (with_reducible exact spec_MapOk.mono _ _ _)
      | (with_reducible exact spec_MapStart.mono _)
      | (with_reducible exact LeO.refl _)
      | (with_reducible exact LeO.none _)
      | (with_reducible refine LeO.ite ?_ ?_)
      | (with_reducible refine LeO.bind ?_ (fun _ => ?_))
      | exact ih0 _ _ _ _
      | exact ih1 _ _ _ _
      | exact ih2 _ _ _ _ _ _ _
      | exact impl_MapHouse.mono _ _ _ _
      | exact impl_MapOk.mono _ _ _
      | exact laws_loMap.mono _ _ _ _ _
      | exact spec_DrawMapOk.mono _ _
      | exact spec_MapHouse.mono _ _ _ _
      | exact spec_MapOk.mono _ _ _
      | exact spec_MapStart.mono _
      | exact LeO.none _
      | refine LeO.ite ?_ ?_
      | refine LeO.bind ?_ (fun _ => ?_)
    · intro y0 y1 y2 y3
      unfold laws_FnMapKeys.l0
      repeat' first
      | (with_reducible exact ih0 _ _ _ _)
      | (with_reducible exact ih1 _ _ _ _)
      | (with_reducible exact ih2 _ _ _ _ _ _ _)
      | (with_reducible exact impl_MapHouse.mono _ _ _ _)
      | (with_reducible exact impl_MapOk.mono _ _ _)
      | (with_reducible exact laws_loMap.mono _ _ _ _ _)
      | (with_reducible exact spec_DrawMapOk.mono _ _)
      | (with_reducible exact spec_MapHouse.mono _ _ _ _)
      | (with_reducible exact spec_MapOk.mono _ _ _)
      | (with_reducible exact spec_MapStart.mono _)
      | (with_reducible exact LeO.refl _)
      | (with_reducible exact LeO.none _)
      | (with_reducible refine LeO.ite ?_ ?_)
      | (with_reducible refine LeO.bind ?_ (fun _ => ?_))
      | exact ih0 _ _ _ _
      | exact ih1 _ _ _ _
      | exact ih2 _ _ _ _ _ _ _
      | exact impl_MapHouse.mono _ _ _ _
      | exact impl_MapOk.mono _ _ _
      | exact laws_loMap.mono _ _ _ _ _
      | exact spec_DrawMapOk.mono _ _
      | exact spec_MapHouse.mono _ _ _ _
      | exact spec_MapOk.mono _ _ _
      | exact spec_MapStart.mono _
      | exact LeO.none _
      | refine LeO.ite ?_ ?_
      | refine LeO.bind ?_ (fun _ => ?_)
    · intro y0 y1 y2 y3 y4 y5 y6
      unfold laws_FnMapKeys.j2
      repeat' first
      | (with_reducible exact ih0 _ _ _ _)
      | (with_reducible exact ih1 _ _ _ _)
      | (with_reducible exact ih2 _ _ _ _ _ _ _)
      | (with_reducible exact impl_MapHouse.mono _ _ _ _)
      | (with_reducible exact impl_MapOk.mono _ _ _)
      | (with_reducible exact laws_loMap.mono _ _ _ _ _)
      | (with_reducible exact spec_DrawMapOk.mono _ _)
      | (with_reducible exact spec_MapHouse.mono _ _ _ _)
      | (with_reducible exact spec_MapOk.mono _ _ _)
      | (with_reducible exact spec_MapStart.mono _)
      | (with_reducible exact LeO.refl _)
      | (with_reducible exact LeO.none _)
      | (with_reducible refine LeO.ite ?_ ?_)
      | (with_reducible refine LeO.bind ?_ (fun _ => ?_))
      | exact ih0 _ _ _ _
      | exact ih1 _ _ _ _
      | exact ih2 _ _ _ _ _ _ _
      | exact impl_MapHouse.mono _ _ _ _
      | exact impl_MapOk.mono _ _ _
      | exact laws_loMap.mono _ _ _ _ _
      | exact spec_DrawMapOk.mono _ _
      | exact spec_MapHouse.mono _ _ _ _
      | exact spec_MapOk.mono _ _ _
      | exact spec_MapStart.mono _
      | exact LeO.none _
      | refine LeO.ite ?_ ?_
      | refine LeO.bind ?_ (fun _ => ?_)
theorem laws_FnMapKeys.mono : ∀ a0 k, LeO (laws_FnMapKeys.f k a0) (laws_FnMapKeys.f (k + 1) a0) := by
  intro a0 k
  obtain ⟨ih0, ih1, ih2⟩ := laws_FnMapKeys.mono_l k
  unfold laws_FnMapKeys.f
  repeat' first
      | (with_reducible exact ih0 _ _ _ _)
      | (with_reducible exact ih1 _ _ _ _)
      | (with_reducible exact ih2 _ _ _ _ _ _ _)
      | (with_reducible exact impl_MapHouse.mono _ _ _ _)
      | (with_reducible exact impl_MapOk.mono _ _ _)
      | (with_reducible exact laws_loMap.mono _ _ _ _ _)
      | (with_reducible exact spec_DrawMapOk.mono _ _)
      | (with_reducible exact spec_MapHouse.mono _ _ _ _)
      | (with_reducible exact spec_MapOk.mono _ _ _)
      | (with_reducible exact spec_MapStart.mono _)
      | (with_reducible exact LeO.refl _)
      | (with_reducible exact LeO.none _)
      | (with_reducible refine LeO.ite ?_ ?_)
      | (with_reducible refine LeO.bind ?_ (fun _ => ?_))
      | exact ih0 _ _ _ _
      | exact ih1 _ _ _ _
      | exact ih2 _ _ _ _ _ _ _
      | exact impl_MapHouse.mono _ _ _ _
      | exact impl_MapOk.mono _ _ _
      | exact laws_loMap.mono _ _ _ _ _
      | exact spec_DrawMapOk.mono _ _
      | exact spec_MapHouse.mono _ _ _ _
      | exact spec_MapOk.mono _ _ _
      | exact spec_MapStart.mono _
      | exact LeO.none _
      | refine LeO.ite ?_ ?_
      | refine LeO.bind ?_ (fun _ => ?_)
set_option maxHeartbeats 8000000 in
set_option maxRecDepth 100000 in
theorem laws_FnMapKeys.calls (k : Nat) (A0 : Option Addr) (c0 : Nat) (l0 : List Int) (r : Bool) (w : World) (hr0 : Kd.C (Kd.int .u8) w A0 l0.length l0) (hc0 : l0.length ≤ c0) (h : laws_FnMapKeys.f k l0 = some r) :
    Calls Try.prog 12 #[.slice A0 l0.length c0] w fun e w' => e = .returned (.bool r) ∧ Below w.heap.size w w' := by
  have hu27 := Try.underlying27
  have HR0 := Aside0.mk hr0
  have HC0 := Aside0.mk hc0
  clear hr0 hc0
  have HB := Aside0.mk (Below.refl w.heap.size w)
  have H : (if (l0.length : Int) > 1048576 then (some true) else ((spec_DrawMapOk.f k l0).bind fun bt130001 => ((spec_MapOk.f k bt130001.1 bt130001.2).bind fun t130006 => ((impl_MapOk.f k bt130001.1 bt130001.2).bind fun t130007 => (if (t130007 != t130006) = true then (laws_FnMapKeys.j0 k t130006 true bt130001.1 bt130001.2) else ((impl_MapStart.f).bind fun bt130008 => ((spec_MapStart.f k).bind fun bt130012 => ((laws_loMap.f k bt130008.1 bt130008.2 bt130012.1 bt130012.2).bind fun t130016 => (laws_FnMapKeys.j0 k t130006 (!t130016) bt130001.1 bt130001.2))))))))) = some r := h
  clear h
  by_cases c2 : (l0.length : Int) > 1048576
  · rw [if_pos c2] at H
    have c2b0 : decide (1048576 < (l0.length : Int)) = true := decide_eq_true c2
    have c2b1 : decide (1048576 < l0.length) = true := decide_eq_true (by omega)
    clear c2
    obtain rfl := Option.some.inj H
    go_enter Try.func12, Try.ntmps12
    go_wp2
    go_ret
    exact ⟨by first | rfl | (simp [errW_none, errW_some] <;> rfl) | (simp [*, errW_none, errW_some] <;> rfl), by repeat (first | (with_reducible first | exact HB.out | apply below_alloc | apply pw_below_drewN | apply below_drew1) | exact HB.out)⟩
  · rw [if_neg c2] at H
    have c2b0 : decide (1048576 < (l0.length : Int)) = false := decide_eq_false c2
    have c2b1 : decide (1048576 < l0.length) = false := decide_eq_false (by omega)
    clear c2
    replace H := Option.bind_eq_some_iff.mp H
    obtain ⟨⟨t130001, t130002⟩, A30, H⟩ := H
    replace H : ((spec_MapOk.f k t130001 t130002).bind fun t130006 => ((impl_MapOk.f k t130001 t130002).bind fun t130007 => (if (t130007 != t130006) = true then (laws_FnMapKeys.j0 k t130006 true t130001 t130002) else ((impl_MapStart.f).bind fun bt130008 => ((spec_MapStart.f k).bind fun bt130012 => ((laws_loMap.f k bt130008.1 bt130008.2 bt130012.1 bt130012.2).bind fun t130016 => (laws_FnMapKeys.j0 k t130006 (!t130016) t130001 t130002))))))) = some r := H
    have A3 := Aside0.mk A30
    clear A30
    replace H := Option.bind_eq_some_iff.mp H
    obtain ⟨t130006, A40, H⟩ := H
    replace H : ((impl_MapOk.f k t130001 t130002).bind fun t130007 => (if (t130007 != t130006) = true then (laws_FnMapKeys.j0 k t130006 true t130001 t130002) else ((impl_MapStart.f).bind fun bt130008 => ((spec_MapStart.f k).bind fun bt130012 => ((laws_loMap.f k bt130008.1 bt130008.2 bt130012.1 bt130012.2).bind fun t130016 => (laws_FnMapKeys.j0 k t130006 (!t130016) t130001 t130002)))))) = some r := H
    have A4 := Aside0.mk A40
    clear A40
    have HC5 := Aside0.mk H
    clear H
    go_enter Try.func12, Try.ntmps12
    go_upto_region 5 with (first | ((with_reducible refine gate_callee (f := 33) rfl ?_); refine goesL_ (some 12) rfl rfl Try.func33 (by kernel_rfl) rfl #[.slice A0 l0.length c0] rfl (by (try simp only [List.map_toArray, List.map_cons, List.map_nil]); first | done | rfl | (simp only [List.length_drop, List.length_take]; rfl)) ?_; (with_reducible refine (spec_DrawMapOk.calls k _ _ l0 t130001 t130002 _ ?side1 ?side2 A3.out).mono ?_); (case side1 => repeat (first | exact HR0.out | (with_reducible refine Kd.C_alloc ?_ _) | (with_reducible refine Kd.C_drewN ?_ _) | (with_reducible refine Kd.C_drew ?_))); (case side2 => exact HC0.out); rintro e w6 ⟨v130003, rfl, ho0, hb⟩; refine ⟨_, rfl, ?_⟩; have n0_ := Aside0.mk (Kd.Q_lower ho0 (below_size (by repeat (first | (with_reducible first | exact HB.out | apply below_alloc | apply pw_below_drewN | apply below_drew1) | exact HB.out)))); have n1_ := Aside0.mk (below_step (by repeat (first | (with_reducible first | exact HB.out | apply below_alloc | apply pw_below_drewN | apply below_drew1) | exact HB.out)) hb); clear HB; have HO130004 := n0_; have HB := n1_; clear n0_ n1_; (try clear hb); (try clear hb2); (try clear hk); (try clear hi); (try clear ho0)) | ((with_reducible refine gate_dst (N := 3) rfl ?_); refine box_event ?hg (N := 3) ?hd (cs := #[.int .i64 0, .slice none 0 0]) (t := 27) ?hr ?_; (case hd => rfl); (case hg => rfl); (case hr => first | (go_simp; done) | (go_simp; rfl)); intro gb130005 hg w7 hbox hb; have n0_ := Aside0.mk (Kd.Q_below (by (with_reducible repeat (first | apply Kd.Q_alloc | apply Kd.Q_drewN | apply Kd.Q_drew)); exact HO130004.out) hb); have n1_ := Aside0.mk (below_step (by repeat (first | (with_reducible first | exact HB.out | apply below_alloc | apply pw_below_drewN | apply below_drew1) | exact HB.out)) hb); have n2_ := Aside0.mk (hbox); have n3_ := Aside0.mk ((by rw [hg]; exact (below_size (by repeat (first | (with_reducible first | exact HB.out | apply below_alloc | apply pw_below_drewN | apply below_drew1) | exact HB.out))) : w.heap.size ≤ gb130005)); have n4_ := Aside0.mk ((by rw [hg]; exact (below_size (by repeat (first | (with_reducible first | exact HB.out | apply below_alloc | apply pw_below_drewN | apply below_drew1) | exact HB.out))) : w.heap.size ≤ gb130005)); clear HO130004; clear HB; have HO130004 := n0_; have HB := n1_; have BK130005 := n2_; have GW130005 := n3_; have GE130005 := n4_; clear n0_ n1_ n2_ n3_ n4_; clear hb hbox hg; have hcz8_0 : w7.cell? ⟨gb130005, 0, none⟩ = some (.int .i64 0) := (blk_cell BK130005.out 0).trans rfl; have hcz8_1 : w7.cell? ⟨gb130005, 1, none⟩ = some (.slice none 0 0) := (blk_cell BK130005.out 1).trans rfl; have hfz8_0 := blk_frozen BK130005.out 0; have hfz8_1 := blk_frozen BK130005.out 1; obtain ⟨Ao9, co9, eo9, _⟩ := Kd.Q_slice HO130004.out; subst eo9) | ((with_reducible refine gate_callee (f := 23) rfl ?_); refine goesL_ (some 14) rfl rfl Try.func23 (by kernel_rfl) rfl #[.agg #[.int .i64 t130001, .slice Ao9 t130002.length co9]] rfl (by (try simp only [List.map_toArray, List.map_cons, List.map_nil]); first | done | rfl | (simp only [List.length_drop, List.length_take]; rfl)) ?_; (with_reducible refine (spec_MapOk.calls k t130001 _ _ t130002 t130006 _ ?side1 ?side2 A4.out).mono ?_); (case side1 => refine (Kd.Q_reads' (e := 3) (base := w.heap.size) (ok := fun k_ => True) (n := t130002.length) (c := co9) ?_).2.2; exact (by (with_reducible repeat (first | apply Kd.Q_alloc | apply Kd.Q_drewN | apply Kd.Q_drew)); exact (Kd.Q_mono (Kd.Q_far (p := ⟨gb130005, 1, none⟩) (Kd.Q_far (p := ⟨gb130005, 0, none⟩) (Kd.Q_types HO130004.out BK130005.out (by decide)) (fun _ hk => hk.2) (.int .i64 t130001)) (fun _ hk => hk.2) (.slice Ao9 t130002.length co9)) (fun _ h_ => h_.1)))); (case side2 => exact (Kd.Q_reads' HO130004.out).2.1); rintro e w10 ⟨rfl, hb⟩; refine ⟨_, rfl, ?_⟩; have n0_ := Aside0.mk (Kd.Q_below (by (with_reducible repeat (first | apply Kd.Q_alloc | apply Kd.Q_drewN | apply Kd.Q_drew)); exact (Kd.Q_mono (Kd.Q_far (p := ⟨gb130005, 1, none⟩) (Kd.Q_far (p := ⟨gb130005, 0, none⟩) (Kd.Q_types HO130004.out BK130005.out (by decide)) (fun _ hk => hk.2) (.int .i64 t130001)) (fun _ hk => hk.2) (.slice Ao9 t130002.length co9)) (fun _ h_ => h_.1))) hb); have n1_ := Aside0.mk (blk_below (g := gb130005) (o := .cells #[.int .i64 t130001, .slice Ao9 t130002.length co9] 27 (0, 0)) (by (with_reducible repeat (first | refine blk_drewN ?_ _ | refine blk_drew ?_ | refine blk_alloc ?_ _)); refine blk_put (cs := #[.int .i64 t130001, .slice none 0 0]) ?_ 1 _ rfl; (with_reducible repeat (first | refine blk_drewN ?_ _ | refine blk_drew ?_ | refine blk_alloc ?_ _)); refine blk_put (cs := #[.int .i64 0, .slice none 0 0]) ?_ 0 _ rfl; (with_reducible repeat (first | refine blk_drewN ?_ _ | refine blk_drew ?_ | refine blk_alloc ?_ _)); exact BK130005.out) hb); have n2_ := Aside0.mk (below_step (by repeat (first | (with_reducible first | exact HB.out | apply below_alloc | apply pw_below_drewN | apply below_drew1 | refine below_set ?_ GE130005.out) | exact HB.out)) hb); clear HO130004; clear BK130005; clear HB; have HO130004 := n0_; have BK130005 := n1_; have HB := n2_; clear n0_ n1_ n2_; (try clear hb); (try clear hb2); (try clear hk); (try clear hi)))
    (try simp only [Act.put, List.setIfInBounds_toArray, List.set_cons_zero, List.set_cons_succ])
    go_cut [24] (fun v24 wc => ∃ (kq : Nat) (x24_4 : Bool), v24 = .bool x24_4 ∧ Aside0 (laws_FnMapKeys.j0 kq t130006 x24_4 t130001 t130002 = some r) ∧ Aside0 (kq ≤ k) ∧ Aside0 (Kd.Q (Kd.int .i64) 3 wc w.heap.size (fun _ => True) (.slice Ao9 t130002.length co9) t130002) ∧ Aside0 (wc.heap[gb130005]? = some (.cells #[.int .i64 t130001, (.slice Ao9 t130002.length co9)] 27 (0, 0))) ∧ Aside0 (Below w.heap.size w wc))
    case first =>
      have H := HC5.out
      clear HC5
      replace H := Option.bind_eq_some_iff.mp H
      obtain ⟨t130007, A110, H⟩ := H
      replace H : (if (t130007 != t130006) = true then (laws_FnMapKeys.j0 k t130006 true t130001 t130002) else ((impl_MapStart.f).bind fun bt130008 => ((spec_MapStart.f k).bind fun bt130012 => ((laws_loMap.f k bt130008.1 bt130008.2 bt130012.1 bt130012.2).bind fun t130016 => (laws_FnMapKeys.j0 k t130006 (!t130016) t130001 t130002))))) = some r := H
      have A11 := Aside0.mk A110
      clear A110
      by_cases c12 : (t130007 != t130006) = true
      · rw [if_pos c12] at H
        have c12b0 : (t130007 != t130006) = true := c12
        (try (have c12b1 : decide (t130007 = t130006) = false := by simpa using c12))
        (try (have c12b2 : (t130007 == t130006) = false := by simpa using c12))
        (try (have c12b3 : ¬ (t130007 = t130006) := by simpa using c12))
        clear c12
        (first | rw [c12b0] | (simp only [i64_w, i32_w]; rw [c12b0]) | skip)
        have H' := Aside0.mk H
        clear H
        have hcz13_0 : w10.cell? ⟨gb130005, 0, none⟩ = some (.int .i64 t130001) := (blk_cell BK130005.out 0).trans rfl
        have hcz13_1 : w10.cell? ⟨gb130005, 1, none⟩ = some (.slice Ao9 t130002.length co9) := (blk_cell BK130005.out 1).trans rfl
        have hfz13_0 := blk_frozen BK130005.out 0
        have hfz13_1 := blk_frozen BK130005.out 1
        go_wp2_with (first | ((with_reducible refine gate_callee (f := 25) rfl ?_); refine goesL_ (some 16) rfl rfl Try.func25 (by kernel_rfl) rfl #[.agg #[.int .i64 t130001, .slice Ao9 t130002.length co9]] rfl (by (try simp only [List.map_toArray, List.map_cons, List.map_nil]); first | done | rfl | (simp only [List.length_drop, List.length_take]; rfl)) ?_; (with_reducible refine (impl_MapOk.calls k t130001 _ _ t130002 t130007 _ ?side1 ?side2 A11.out).mono ?_); (case side1 => repeat (first | exact (Kd.Q_reads' HO130004.out).2.2 | (with_reducible refine Kd.C_alloc ?_ _) | (with_reducible refine Kd.C_drewN ?_ _) | (with_reducible refine Kd.C_drew ?_))); (case side2 => exact (Kd.Q_reads' HO130004.out).2.1); rintro e w14 ⟨rfl, hb⟩; refine ⟨_, rfl, ?_⟩; have n0_ := Aside0.mk (Kd.Q_below (by (with_reducible repeat (first | apply Kd.Q_alloc | apply Kd.Q_drewN | apply Kd.Q_drew)); exact HO130004.out) hb); have n1_ := Aside0.mk (blk_below (g := gb130005) (o := .cells #[.int .i64 t130001, .slice Ao9 t130002.length co9] 27 (0, 0)) (by (with_reducible repeat (first | refine blk_drewN ?_ _ | refine blk_drew ?_ | refine blk_alloc ?_ _)); exact BK130005.out) hb); have n2_ := Aside0.mk (below_step (by repeat (first | (with_reducible first | exact HB.out | apply below_alloc | apply pw_below_drewN | apply below_drew1 | refine below_set ?_ GE130005.out) | exact HB.out)) hb); clear HO130004; clear BK130005; clear HB; have HO130004 := n0_; have BK130005 := n1_; have HB := n2_; clear n0_ n1_ n2_; (try clear hb); (try clear hb2); (try clear hk); (try clear hi)))
        go_meet
        case rel => exact ⟨_, (true), (by first | rfl | (simp; done) | (simp [*]; done)), H', ⟨by first | omega | exact Nat.le_refl _⟩, ⟨by (with_reducible repeat (first | apply Kd.Q_alloc | apply Kd.Q_drewN | apply Kd.Q_drew)); exact HO130004.out⟩, ⟨by (with_reducible repeat (first | refine blk_drewN ?_ _ | refine blk_drew ?_ | refine blk_alloc ?_ _)); exact BK130005.out⟩, ⟨by repeat (first | (with_reducible first | exact HB.out | apply below_alloc | apply pw_below_drewN | apply below_drew1 | refine below_set ?_ GE130005.out) | exact HB.out)⟩⟩
      · rw [if_neg c12] at H
        have c12b0 : (t130007 != t130006) = false := by simpa using c12
        (try (have c12b1 : decide (t130007 = t130006) = true := by simpa using c12))
        (try (have c12b2 : (t130007 == t130006) = true := by simpa using c12))
        clear c12
        (first | rw [c12b0] | (simp only [i64_w, i32_w]; rw [c12b0]) | skip)
        replace H := Option.bind_eq_some_iff.mp H
        obtain ⟨⟨t130008, t130009⟩, A150, H⟩ := H
        replace H : ((spec_MapStart.f k).bind fun bt130012 => ((laws_loMap.f k t130008 t130009 bt130012.1 bt130012.2).bind fun t130016 => (laws_FnMapKeys.j0 k t130006 (!t130016) t130001 t130002))) = some r := H
        have A15 := Aside0.mk A150
        clear A150
        replace H := Option.bind_eq_some_iff.mp H
        obtain ⟨⟨t130012, t130013⟩, A160, H⟩ := H
        replace H : ((laws_loMap.f k t130008 t130009 t130012 t130013).bind fun t130016 => (laws_FnMapKeys.j0 k t130006 (!t130016) t130001 t130002)) = some r := H
        have A16 := Aside0.mk A160
        clear A160
        replace H := Option.bind_eq_some_iff.mp H
        obtain ⟨t130016, A170, H⟩ := H
        replace H : (laws_FnMapKeys.j0 k t130006 (!t130016) t130001 t130002) = some r := H
        have A17 := Aside0.mk A170
        clear A170
        have H' := Aside0.mk H
        clear H
        have hcz18_0 : w10.cell? ⟨gb130005, 0, none⟩ = some (.int .i64 t130001) := (blk_cell BK130005.out 0).trans rfl
        have hcz18_1 : w10.cell? ⟨gb130005, 1, none⟩ = some (.slice Ao9 t130002.length co9) := (blk_cell BK130005.out 1).trans rfl
        have hfz18_0 := blk_frozen BK130005.out 0
        have hfz18_1 := blk_frozen BK130005.out 1
        go_wp2_with (first | ((with_reducible refine gate_callee (f := 25) rfl ?_); refine goesL_ (some 16) rfl rfl Try.func25 (by kernel_rfl) rfl #[.agg #[.int .i64 t130001, .slice Ao9 t130002.length co9]] rfl (by (try simp only [List.map_toArray, List.map_cons, List.map_nil]); first | done | rfl | (simp only [List.length_drop, List.length_take]; rfl)) ?_; (with_reducible refine (impl_MapOk.calls k t130001 _ _ t130002 t130007 _ ?side1 ?side2 A11.out).mono ?_); (case side1 => repeat (first | exact (Kd.Q_reads' HO130004.out).2.2 | (with_reducible refine Kd.C_alloc ?_ _) | (with_reducible refine Kd.C_drewN ?_ _) | (with_reducible refine Kd.C_drew ?_))); (case side2 => exact (Kd.Q_reads' HO130004.out).2.1); rintro e w19 ⟨rfl, hb⟩; refine ⟨_, rfl, ?_⟩; have n0_ := Aside0.mk (Kd.Q_below (by (with_reducible repeat (first | apply Kd.Q_alloc | apply Kd.Q_drewN | apply Kd.Q_drew)); exact HO130004.out) hb); have n1_ := Aside0.mk (blk_below (g := gb130005) (o := .cells #[.int .i64 t130001, .slice Ao9 t130002.length co9] 27 (0, 0)) (by (with_reducible repeat (first | refine blk_drewN ?_ _ | refine blk_drew ?_ | refine blk_alloc ?_ _)); exact BK130005.out) hb); have n2_ := Aside0.mk (below_step (by repeat (first | (with_reducible first | exact HB.out | apply below_alloc | apply pw_below_drewN | apply below_drew1 | refine below_set ?_ GE130005.out) | exact HB.out)) hb); clear HO130004; clear BK130005; clear HB; have HO130004 := n0_; have BK130005 := n1_; have HB := n2_; clear n0_ n1_ n2_; (try clear hb); (try clear hb2); (try clear hk); (try clear hi)) | (go_at_call 18; (with_reducible refine (impl_MapStart.calls  t130008 t130009 _ A15.out).mono ?_); rintro e w20 ⟨v130010, rfl, ho0, hb⟩; have n0_ := Aside0.mk (Kd.Q_elder' (by (with_reducible repeat (first | apply Kd.Q_alloc | apply Kd.Q_drewN | apply Kd.Q_drew)); exact HO130004.out) (Kd.R_base ho0) hb); have n1_ := Aside0.mk (Kd.R_lower (Kd.R_new' ho0 (Kd.Q_lt (by (with_reducible repeat (first | apply Kd.Q_alloc | apply Kd.Q_drewN | apply Kd.Q_drew)); exact HO130004.out))) (below_size (by repeat (first | (with_reducible first | exact HB.out | apply below_alloc | apply pw_below_drewN | apply below_drew1 | refine below_set ?_ GE130005.out) | exact HB.out)))); have n2_ := Aside0.mk (blk_below (g := gb130005) (o := .cells #[.int .i64 t130001, .slice Ao9 t130002.length co9] 27 (0, 0)) (by (with_reducible repeat (first | refine blk_drewN ?_ _ | refine blk_drew ?_ | refine blk_alloc ?_ _)); exact BK130005.out) hb); have n3_ := Aside0.mk (below_step (by repeat (first | (with_reducible first | exact HB.out | apply below_alloc | apply pw_below_drewN | apply below_drew1 | refine below_set ?_ GE130005.out) | exact HB.out)) hb); clear HO130004; clear BK130005; clear HB; have HO130004 := n0_; have HO130011 := n1_; have BK130005 := n2_; have HB := n3_; clear n0_ n1_ n2_ n3_; (try clear hb); (try clear hb2); (try clear hk); (try clear hi); (try clear ho0)) | (go_at_call 17; (with_reducible refine (spec_MapStart.calls k  t130012 t130013 _ A16.out).mono ?_); rintro e w21 ⟨v130014, rfl, ho0, hb⟩; have n0_ := Aside0.mk (Kd.Q_elder' (by (with_reducible repeat (first | apply Kd.Q_alloc | apply Kd.Q_drewN | apply Kd.Q_drew)); exact HO130004.out) (Kd.R_base ho0) hb); have n1_ := Aside0.mk (Kd.R_elder' (by (with_reducible repeat (first | apply Kd.R_alloc | apply Kd.R_drewN | apply Kd.R_drew)); exact HO130011.out) (Kd.R_base ho0) hb); have n2_ := Aside0.mk (Kd.R_lower (Kd.R_new' (Kd.R_new' ho0 (Kd.Q_lt (by (with_reducible repeat (first | apply Kd.Q_alloc | apply Kd.Q_drewN | apply Kd.Q_drew)); exact HO130004.out))) (Kd.R_lt (by (with_reducible repeat (first | apply Kd.R_alloc | apply Kd.R_drewN | apply Kd.R_drew)); exact HO130011.out))) (below_size (by repeat (first | (with_reducible first | exact HB.out | apply below_alloc | apply pw_below_drewN | apply below_drew1 | refine below_set ?_ GE130005.out) | exact HB.out)))); have n3_ := Aside0.mk (blk_below (g := gb130005) (o := .cells #[.int .i64 t130001, .slice Ao9 t130002.length co9] 27 (0, 0)) (by (with_reducible repeat (first | refine blk_drewN ?_ _ | refine blk_drew ?_ | refine blk_alloc ?_ _)); exact BK130005.out) hb); have n4_ := Aside0.mk (below_step (by repeat (first | (with_reducible first | exact HB.out | apply below_alloc | apply pw_below_drewN | apply below_drew1 | refine below_set ?_ GE130005.out) | exact HB.out)) hb); clear HO130004; clear HO130011; clear BK130005; clear HB; have HO130004 := n0_; have HO130011 := n1_; have HO130015 := n2_; have BK130005 := n3_; have HB := n4_; clear n0_ n1_ n2_ n3_ n4_; (try clear hb); (try clear hb2); (try clear hk); (try clear hi); (try clear ho0); obtain ⟨Ao22, co22, eo22⟩ := Kd.R_slice HO130011.out; subst eo22; obtain ⟨Ao23, co23, eo23⟩ := Kd.R_slice HO130015.out; subst eo23) | (go_at_call 31; (with_reducible refine (laws_loMap.calls k t130008 _ _ t130009 t130012 _ _ t130013 t130016 _ ?side1 ?side2 ?side3 ?side4 A17.out).mono ?_); (case side1 => repeat (first | exact (Kd.R_reads' HO130011.out).2.2 | (with_reducible refine Kd.C_alloc ?_ _) | (with_reducible refine Kd.C_drewN ?_ _) | (with_reducible refine Kd.C_drew ?_))); (case side2 => exact (Kd.R_reads' HO130011.out).2.1); (case side3 => repeat (first | exact (Kd.R_reads' HO130015.out).2.2 | (with_reducible refine Kd.C_alloc ?_ _) | (with_reducible refine Kd.C_drewN ?_ _) | (with_reducible refine Kd.C_drew ?_))); (case side4 => exact (Kd.R_reads' HO130015.out).2.1); rintro e w24 ⟨rfl, hb⟩; have n0_ := Aside0.mk (Kd.Q_below (by (with_reducible repeat (first | apply Kd.Q_alloc | apply Kd.Q_drewN | apply Kd.Q_drew)); exact HO130004.out) hb); have n1_ := Aside0.mk (Kd.R_below (by (with_reducible repeat (first | apply Kd.R_alloc | apply Kd.R_drewN | apply Kd.R_drew)); exact HO130011.out) hb); have n2_ := Aside0.mk (Kd.R_below (by (with_reducible repeat (first | apply Kd.R_alloc | apply Kd.R_drewN | apply Kd.R_drew)); exact HO130015.out) hb); have n3_ := Aside0.mk (blk_below (g := gb130005) (o := .cells #[.int .i64 t130001, .slice Ao9 t130002.length co9] 27 (0, 0)) (by (with_reducible repeat (first | refine blk_drewN ?_ _ | refine blk_drew ?_ | refine blk_alloc ?_ _)); exact BK130005.out) hb); have n4_ := Aside0.mk (below_step (by repeat (first | (with_reducible first | exact HB.out | apply below_alloc | apply pw_below_drewN | apply below_drew1 | refine below_set ?_ GE130005.out) | exact HB.out)) hb); clear HO130004; clear HO130011; clear HO130015; clear BK130005; clear HB; have HO130004 := n0_; have HO130011 := n1_; have HO130015 := n2_; have BK130005 := n3_; have HB := n4_; clear n0_ n1_ n2_ n3_ n4_; (try clear hb); (try clear hb2); (try clear hk); (try clear hi)))
        go_meet
        case rel => exact ⟨_, (!t130016), (by first | rfl | (simp; done) | (simp [*]; done)), H', ⟨by first | omega | exact Nat.le_refl _⟩, ⟨by (with_reducible repeat (first | apply Kd.Q_alloc | apply Kd.Q_drewN | apply Kd.Q_drew)); exact Kd.Q_mono HO130004.out (fun _ hk => trivial)⟩, ⟨by (with_reducible repeat (first | refine blk_drewN ?_ _ | refine blk_drew ?_ | refine blk_alloc ?_ _)); exact BK130005.out⟩, ⟨by repeat (first | (with_reducible first | exact HB.out | apply below_alloc | apply pw_below_drewN | apply below_drew1 | refine below_set ?_ GE130005.out) | exact HB.out)⟩⟩
    case rest =>
      clear HC5
      try clear c1
      try clear c2
      try clear c2b0
      try clear c2b1
      try clear p2
      try clear c3
      try clear c12
      try clear c12b0
      try clear c12b1
      try clear c12b2
      try clear c23
      try clear hcz13_0
      try clear hcz13_1
      try clear hcz18_0
      try clear hcz18_1
      try clear hcz8_0
      try clear hcz8_1
      try clear hfz13_0
      try clear hfz13_1
      try clear hfz18_0
      try clear hfz18_1
      try clear hfz8_0
      try clear hfz8_1
      obtain ⟨kq, x24_4, rfl, HA, HJ4, HO_130006001, BK130005, HB⟩ := hcut
      cases kq with
      | zero => exact absurd HA.out (by simp [laws_FnMapKeys.j0])
      | succ kj4 =>
        have H := HA.out
        clear HA
        simp only [laws_FnMapKeys.j0] at H
        by_cases c25 : x24_4 = true
        · subst c25
          have H1 : (some false) = some r := by rw [if_pos rfl] at H; exact H
          clear H
          have H := H1
          clear H1
          obtain rfl := Option.some.inj H
          go_wp2
          go_ret
          exact ⟨by first | rfl | (simp [errW_none, errW_some] <;> rfl) | (simp [*, errW_none, errW_some] <;> rfl), by repeat (first | (with_reducible first | exact HB.out | apply below_alloc | apply pw_below_drewN | apply below_drew1 | refine below_set ?_ GE130005.out) | exact HB.out)⟩
        · replace c25 := Bool.eq_false_iff.mpr c25
          subst c25
          have H1 : (laws_FnMapKeys.l0 kj4 t130006 (-1) t130001 t130002) = some r := by rw [if_neg (show ¬ (false = true) by decide)] at H; exact H
          clear H
          have H := H1
          clear H1
          have H' := Aside0.mk H
          clear H
          go_wp2
          go_loopg [5] kj4 (fun kq v5 w' => ∃ (x5_2 : Int), v5 = .int .i64 x5_2 ∧ Aside0 (laws_FnMapKeys.l0 kq t130006 x5_2 t130001 t130002 = some r) ∧ Aside0 (kq ≤ kj4) ∧ Aside0 (Kd.Q (Kd.int .i64) 3 w' w.heap.size (fun _ => True) (.slice Ao9 t130002.length co9) t130002) ∧ Aside0 (w'.heap[gb130005]? = some (.cells #[.int .i64 t130001, (.slice Ao9 t130002.length co9)] 27 (0, 0))) ∧ Aside0 (Below w.heap.size w w'))
          case atStart => exact ⟨((-1)), (by first | rfl | (simp; done) | (simp [*]; done)), H', ⟨Nat.le_refl _⟩, ⟨by (with_reducible repeat (first | apply Kd.Q_alloc | apply Kd.Q_drewN | apply Kd.Q_drew)); exact HO_130006001.out⟩, ⟨by (with_reducible repeat (first | refine blk_drewN ?_ _ | refine blk_drew ?_ | refine blk_alloc ?_ _)); exact BK130005.out⟩, ⟨by repeat (first | (with_reducible first | exact HB.out | apply below_alloc | apply pw_below_drewN | apply below_drew1 | refine below_set ?_ GE130005.out) | exact HB.out)⟩⟩
          case round =>
            clear H'
            try clear c1
            try clear c2
            try clear c2b0
            try clear c2b1
            try clear p2
            try clear c3
            try clear c12
            try clear c12b0
            try clear c12b1
            try clear c12b2
            try clear c23
            try clear c25
            try clear hcz13_0
            try clear hcz13_1
            try clear hcz18_0
            try clear hcz18_1
            try clear hcz8_0
            try clear hcz8_1
            try clear hfz13_0
            try clear hfz13_1
            try clear hfz18_0
            try clear hfz18_1
            try clear hfz8_0
            try clear hfz8_1
            try clear p2
            obtain ⟨x5_2, rfl, HA, HK2, HO_130006001, BK130005, HB⟩ := hrel
            cases gk with
            | zero => exact absurd HA.out (by simp [laws_FnMapKeys.l0])
            | succ k2 =>
              have H := HA.out
              clear HA
              simp only [laws_FnMapKeys.l0] at H
              by_cases c26 : x5_2 ≤ 32
              · rw [if_pos c26] at H
                have c26b0 : decide (x5_2 ≤ 32) = true := decide_eq_true c26
                clear c26
                replace H := Option.bind_eq_some_iff.mp H
                obtain ⟨t130017, A270, H⟩ := H
                replace H : ((impl_MapSlot.f x5_2).bind fun t130018 => ((spec_MapHouse.f k2 t130001 t130002 x5_2).bind fun t130019 => (if t130017 = t130019 then ((spec_MapSlot.f x5_2).bind fun t130020 => (if t130018 = t130020 then (if t130006 = true then (if x5_2 ≥ 0 then (laws_FnMapKeys.j2 k2 t130006 x5_2 t130017 t130018 ((decide (t130017 ≥ 0)) != (decide (x5_2 < 32))) t130001 t130002) else (laws_FnMapKeys.j2 k2 t130006 x5_2 t130017 t130018 ((decide (t130017 ≥ 0)) != false) t130001 t130002)) else (laws_FnMapKeys.j2 k2 t130006 x5_2 t130017 t130018 ((decide (t130017 ≥ 0)) != false) t130001 t130002)) else (laws_FnMapKeys.j2 k2 t130006 x5_2 t130017 t130018 true t130001 t130002))) else (laws_FnMapKeys.j2 k2 t130006 x5_2 t130017 t130018 true t130001 t130002)))) = some r := H
                have A27 := Aside0.mk A270
                clear A270
                replace H := Option.bind_eq_some_iff.mp H
                obtain ⟨t130018, A280, H⟩ := H
                replace H : ((spec_MapHouse.f k2 t130001 t130002 x5_2).bind fun t130019 => (if t130017 = t130019 then ((spec_MapSlot.f x5_2).bind fun t130020 => (if t130018 = t130020 then (if t130006 = true then (if x5_2 ≥ 0 then (laws_FnMapKeys.j2 k2 t130006 x5_2 t130017 t130018 ((decide (t130017 ≥ 0)) != (decide (x5_2 < 32))) t130001 t130002) else (laws_FnMapKeys.j2 k2 t130006 x5_2 t130017 t130018 ((decide (t130017 ≥ 0)) != false) t130001 t130002)) else (laws_FnMapKeys.j2 k2 t130006 x5_2 t130017 t130018 ((decide (t130017 ≥ 0)) != false) t130001 t130002)) else (laws_FnMapKeys.j2 k2 t130006 x5_2 t130017 t130018 true t130001 t130002))) else (laws_FnMapKeys.j2 k2 t130006 x5_2 t130017 t130018 true t130001 t130002))) = some r := H
                have A28 := Aside0.mk A280
                clear A280
                have HC29 := Aside0.mk H
                clear H
                have hcz30_0 : wr.cell? ⟨gb130005, 0, none⟩ = some (.int .i64 t130001) := (blk_cell BK130005.out 0).trans rfl
                have hcz30_1 : wr.cell? ⟨gb130005, 1, none⟩ = some (.slice Ao9 t130002.length co9) := (blk_cell BK130005.out 1).trans rfl
                have hfz30_0 := blk_frozen BK130005.out 0
                have hfz30_1 := blk_frozen BK130005.out 1
                go_upto_region 12 with (first | ((with_reducible refine gate_callee (f := 27) rfl ?_); refine goesL_ (some 31) rfl rfl Try.func27 (by kernel_rfl) rfl #[.agg #[.int .i64 t130001, .slice Ao9 t130002.length co9], .int .i64 x5_2] rfl (by (try simp only [List.map_toArray, List.map_cons, List.map_nil]); first | done | rfl | (simp only [List.length_drop, List.length_take]; rfl)) ?_; (with_reducible refine (impl_MapHouse.calls k2 t130001 _ _ t130002 x5_2 t130017 _ ?side1 ?side2 A27.out).mono ?_); (case side1 => repeat (first | exact (Kd.Q_reads' HO_130006001.out).2.2 | (with_reducible refine Kd.C_alloc ?_ _) | (with_reducible refine Kd.C_drewN ?_ _) | (with_reducible refine Kd.C_drew ?_))); (case side2 => exact (Kd.Q_reads' HO_130006001.out).2.1); rintro e w31 ⟨rfl, hb⟩; refine ⟨_, rfl, ?_⟩; have n0_ := Aside0.mk (Kd.Q_below (by (with_reducible repeat (first | apply Kd.Q_alloc | apply Kd.Q_drewN | apply Kd.Q_drew)); exact HO_130006001.out) hb); have n1_ := Aside0.mk (blk_below (g := gb130005) (o := .cells #[.int .i64 t130001, .slice Ao9 t130002.length co9] 27 (0, 0)) (by (with_reducible repeat (first | refine blk_drewN ?_ _ | refine blk_drew ?_ | refine blk_alloc ?_ _)); exact BK130005.out) hb); have n2_ := Aside0.mk (below_step (by repeat (first | (with_reducible first | exact HB.out | apply below_alloc | apply pw_below_drewN | apply below_drew1 | refine below_set ?_ GE130005.out) | exact HB.out)) hb); clear HO_130006001; clear BK130005; clear HB; have HO_130006001 := n0_; have BK130005 := n1_; have HB := n2_; clear n0_ n1_ n2_; (try clear hb); (try clear hb2); (try clear hk); (try clear hi)) | ((with_reducible refine gate_callee (f := 16) rfl ?_); refine goesL_ (some 33) rfl rfl Try.func16 (by kernel_rfl) rfl #[.int .i64 x5_2] rfl (by (try simp only [List.map_toArray, List.map_cons, List.map_nil]); first | done | rfl | (simp only [List.length_drop, List.length_take]; rfl)) ?_; (with_reducible refine (impl_MapSlot.calls x5_2 t130018 _ A28.out).mono ?_); rintro e w' ⟨rfl, ⟨nd, rfl⟩⟩; refine ⟨_, rfl, ?_⟩))
                (try simp only [Act.put, List.setIfInBounds_toArray, List.set_cons_zero, List.set_cons_succ])
                go_cut [58] (fun v58 wc => ∃ (kq : Nat) (x58_28 : Bool), v58 = .bool x58_28 ∧ Aside0 (laws_FnMapKeys.j2 kq t130006 x5_2 t130017 t130018 x58_28 t130001 t130002 = some r) ∧ Aside0 (kq ≤ k2) ∧ Aside0 (Kd.Q (Kd.int .i64) 3 wc w.heap.size (fun _ => True) (.slice Ao9 t130002.length co9) t130002) ∧ Aside0 (wc.heap[gb130005]? = some (.cells #[.int .i64 t130001, (.slice Ao9 t130002.length co9)] 27 (0, 0))) ∧ Aside0 (Below w.heap.size w wc))
                case first =>
                  have H := HC29.out
                  clear HC29
                  replace H := Option.bind_eq_some_iff.mp H
                  obtain ⟨t130019, A320, H⟩ := H
                  replace H : (if t130017 = t130019 then ((spec_MapSlot.f x5_2).bind fun t130020 => (if t130018 = t130020 then (if t130006 = true then (if x5_2 ≥ 0 then (laws_FnMapKeys.j2 k2 t130006 x5_2 t130017 t130018 ((decide (t130017 ≥ 0)) != (decide (x5_2 < 32))) t130001 t130002) else (laws_FnMapKeys.j2 k2 t130006 x5_2 t130017 t130018 ((decide (t130017 ≥ 0)) != false) t130001 t130002)) else (laws_FnMapKeys.j2 k2 t130006 x5_2 t130017 t130018 ((decide (t130017 ≥ 0)) != false) t130001 t130002)) else (laws_FnMapKeys.j2 k2 t130006 x5_2 t130017 t130018 true t130001 t130002))) else (laws_FnMapKeys.j2 k2 t130006 x5_2 t130017 t130018 true t130001 t130002)) = some r := H
                  have A32 := Aside0.mk A320
                  clear A320
                  by_cases c33 : t130017 = t130019
                  · rw [if_pos c33] at H
                    have c33b0 : (t130017 == t130019) = true := beq_iff_eq.mpr c33
                    have c33b1 : (t130017 != t130019) = false := bne_eq_false_iff_eq.mpr c33
                    clear c33
                    (first | rw [c33b0] | (simp only [i64_w, i32_w]; rw [c33b0]) | skip)
                    replace H := Option.bind_eq_some_iff.mp H
                    obtain ⟨t130020, A340, H⟩ := H
                    replace H : (if t130018 = t130020 then (if t130006 = true then (if x5_2 ≥ 0 then (laws_FnMapKeys.j2 k2 t130006 x5_2 t130017 t130018 ((decide (t130017 ≥ 0)) != (decide (x5_2 < 32))) t130001 t130002) else (laws_FnMapKeys.j2 k2 t130006 x5_2 t130017 t130018 ((decide (t130017 ≥ 0)) != false) t130001 t130002)) else (laws_FnMapKeys.j2 k2 t130006 x5_2 t130017 t130018 ((decide (t130017 ≥ 0)) != false) t130001 t130002)) else (laws_FnMapKeys.j2 k2 t130006 x5_2 t130017 t130018 true t130001 t130002)) = some r := H
                    have A34 := Aside0.mk A340
                    clear A340
                    by_cases c35 : t130018 = t130020
                    · rw [if_pos c35] at H
                      have c35b0 : (t130018 == t130020) = true := beq_iff_eq.mpr c35
                      have c35b1 : (t130018 != t130020) = false := bne_eq_false_iff_eq.mpr c35
                      clear c35
                      by_cases c36 : t130006 = true
                      · subst c36
                        have H1 : (if x5_2 ≥ 0 then (laws_FnMapKeys.j2 k2 true x5_2 t130017 t130018 ((decide (t130017 ≥ 0)) != (decide (x5_2 < 32))) t130001 t130002) else (laws_FnMapKeys.j2 k2 true x5_2 t130017 t130018 ((decide (t130017 ≥ 0)) != false) t130001 t130002)) = some r := by rw [if_pos rfl] at H; exact H
                        clear H
                        have H := H1
                        clear H1
                        by_cases c37 : x5_2 ≥ 0
                        · rw [if_pos c37] at H
                          have c37b0 : decide (0 ≤ x5_2) = true := decide_eq_true c37
                          clear c37
                          have H' := Aside0.mk H
                          clear H
                          have hcz38_0 : w31.cell? ⟨gb130005, 0, none⟩ = some (.int .i64 t130001) := (blk_cell BK130005.out 0).trans rfl
                          have hcz38_1 : w31.cell? ⟨gb130005, 1, none⟩ = some (.slice Ao9 t130002.length co9) := (blk_cell BK130005.out 1).trans rfl
                          have hfz38_0 := blk_frozen BK130005.out 0
                          have hfz38_1 := blk_frozen BK130005.out 1
                          go_wp2_with (first | ((with_reducible refine gate_callee (f := 26) rfl ?_); refine goesL_ (some 37) rfl rfl Try.func26 (by kernel_rfl) rfl #[.agg #[.int .i64 t130001, .slice Ao9 t130002.length co9], .int .i64 x5_2] rfl (by (try simp only [List.map_toArray, List.map_cons, List.map_nil]); first | done | rfl | (simp only [List.length_drop, List.length_take]; rfl)) ?_; (with_reducible refine (spec_MapHouse.calls k2 t130001 _ _ t130002 x5_2 t130019 _ ?side1 ?side2 A32.out).mono ?_); (case side1 => repeat (first | exact (Kd.Q_reads' HO_130006001.out).2.2 | (with_reducible refine Kd.C_alloc ?_ _) | (with_reducible refine Kd.C_drewN ?_ _) | (with_reducible refine Kd.C_drew ?_))); (case side2 => exact (Kd.Q_reads' HO_130006001.out).2.1); rintro e w39 ⟨rfl, hb⟩; refine ⟨_, rfl, ?_⟩; have n0_ := Aside0.mk (Kd.Q_below (by (with_reducible repeat (first | apply Kd.Q_alloc | apply Kd.Q_drewN | apply Kd.Q_drew)); exact HO_130006001.out) hb); have n1_ := Aside0.mk (blk_below (g := gb130005) (o := .cells #[.int .i64 t130001, .slice Ao9 t130002.length co9] 27 (0, 0)) (by (with_reducible repeat (first | refine blk_drewN ?_ _ | refine blk_drew ?_ | refine blk_alloc ?_ _)); exact BK130005.out) hb); have n2_ := Aside0.mk (below_step (by repeat (first | (with_reducible first | exact HB.out | apply below_alloc | apply pw_below_drewN | apply below_drew1 | refine below_set ?_ GE130005.out) | exact HB.out)) hb); clear HO_130006001; clear BK130005; clear HB; have HO_130006001 := n0_; have BK130005 := n1_; have HB := n2_; clear n0_ n1_ n2_; (try clear hb); (try clear hb2); (try clear hk); (try clear hi)) | (go_at_call 15; (with_reducible refine (spec_MapSlot.calls x5_2 t130020 _ A34.out).mono ?_); rintro e w' ⟨rfl, ⟨nd, rfl⟩⟩))
                          go_meet
                          case rel => exact ⟨_, (((decide (t130017 ≥ 0)) != (decide (x5_2 < 32)))), (by first | rfl | (simp; done) | (simp [*]; done)), H', ⟨by have := HJ4.out; have := HK2.out; first | omega | exact Nat.le_refl _⟩, ⟨by (with_reducible repeat (first | apply Kd.Q_alloc | apply Kd.Q_drewN | apply Kd.Q_drew)); exact HO_130006001.out⟩, ⟨by (with_reducible repeat (first | refine blk_drewN ?_ _ | refine blk_drew ?_ | refine blk_alloc ?_ _)); exact BK130005.out⟩, ⟨by repeat (first | (with_reducible first | exact HB.out | apply below_alloc | apply pw_below_drewN | apply below_drew1 | refine below_set ?_ GE130005.out) | exact HB.out)⟩⟩
                        · rw [if_neg c37] at H
                          have c37b0 : decide (0 ≤ x5_2) = false := decide_eq_false c37
                          clear c37
                          have H' := Aside0.mk H
                          clear H
                          have hcz40_0 : w31.cell? ⟨gb130005, 0, none⟩ = some (.int .i64 t130001) := (blk_cell BK130005.out 0).trans rfl
                          have hcz40_1 : w31.cell? ⟨gb130005, 1, none⟩ = some (.slice Ao9 t130002.length co9) := (blk_cell BK130005.out 1).trans rfl
                          have hfz40_0 := blk_frozen BK130005.out 0
                          have hfz40_1 := blk_frozen BK130005.out 1
                          go_wp2_with (first | ((with_reducible refine gate_callee (f := 26) rfl ?_); refine goesL_ (some 37) rfl rfl Try.func26 (by kernel_rfl) rfl #[.agg #[.int .i64 t130001, .slice Ao9 t130002.length co9], .int .i64 x5_2] rfl (by (try simp only [List.map_toArray, List.map_cons, List.map_nil]); first | done | rfl | (simp only [List.length_drop, List.length_take]; rfl)) ?_; (with_reducible refine (spec_MapHouse.calls k2 t130001 _ _ t130002 x5_2 t130019 _ ?side1 ?side2 A32.out).mono ?_); (case side1 => repeat (first | exact (Kd.Q_reads' HO_130006001.out).2.2 | (with_reducible refine Kd.C_alloc ?_ _) | (with_reducible refine Kd.C_drewN ?_ _) | (with_reducible refine Kd.C_drew ?_))); (case side2 => exact (Kd.Q_reads' HO_130006001.out).2.1); rintro e w41 ⟨rfl, hb⟩; refine ⟨_, rfl, ?_⟩; have n0_ := Aside0.mk (Kd.Q_below (by (with_reducible repeat (first | apply Kd.Q_alloc | apply Kd.Q_drewN | apply Kd.Q_drew)); exact HO_130006001.out) hb); have n1_ := Aside0.mk (blk_below (g := gb130005) (o := .cells #[.int .i64 t130001, .slice Ao9 t130002.length co9] 27 (0, 0)) (by (with_reducible repeat (first | refine blk_drewN ?_ _ | refine blk_drew ?_ | refine blk_alloc ?_ _)); exact BK130005.out) hb); have n2_ := Aside0.mk (below_step (by repeat (first | (with_reducible first | exact HB.out | apply below_alloc | apply pw_below_drewN | apply below_drew1 | refine below_set ?_ GE130005.out) | exact HB.out)) hb); clear HO_130006001; clear BK130005; clear HB; have HO_130006001 := n0_; have BK130005 := n1_; have HB := n2_; clear n0_ n1_ n2_; (try clear hb); (try clear hb2); (try clear hk); (try clear hi)) | (go_at_call 15; (with_reducible refine (spec_MapSlot.calls x5_2 t130020 _ A34.out).mono ?_); rintro e w' ⟨rfl, ⟨nd, rfl⟩⟩))
                          go_meet
                          case rel => exact ⟨_, (((decide (t130017 ≥ 0)) != false)), (by first | rfl | (simp; done) | (simp [*]; done)), H', ⟨by have := HJ4.out; have := HK2.out; first | omega | exact Nat.le_refl _⟩, ⟨by (with_reducible repeat (first | apply Kd.Q_alloc | apply Kd.Q_drewN | apply Kd.Q_drew)); exact HO_130006001.out⟩, ⟨by (with_reducible repeat (first | refine blk_drewN ?_ _ | refine blk_drew ?_ | refine blk_alloc ?_ _)); exact BK130005.out⟩, ⟨by repeat (first | (with_reducible first | exact HB.out | apply below_alloc | apply pw_below_drewN | apply below_drew1 | refine below_set ?_ GE130005.out) | exact HB.out)⟩⟩
                      · replace c36 := Bool.eq_false_iff.mpr c36
                        subst c36
                        have H1 : (laws_FnMapKeys.j2 k2 false x5_2 t130017 t130018 ((decide (t130017 ≥ 0)) != false) t130001 t130002) = some r := by rw [if_neg (show ¬ (false = true) by decide)] at H; exact H
                        clear H
                        have H := H1
                        clear H1
                        have H' := Aside0.mk H
                        clear H
                        have hcz42_0 : w31.cell? ⟨gb130005, 0, none⟩ = some (.int .i64 t130001) := (blk_cell BK130005.out 0).trans rfl
                        have hcz42_1 : w31.cell? ⟨gb130005, 1, none⟩ = some (.slice Ao9 t130002.length co9) := (blk_cell BK130005.out 1).trans rfl
                        have hfz42_0 := blk_frozen BK130005.out 0
                        have hfz42_1 := blk_frozen BK130005.out 1
                        go_wp2_with (first | ((with_reducible refine gate_callee (f := 26) rfl ?_); refine goesL_ (some 37) rfl rfl Try.func26 (by kernel_rfl) rfl #[.agg #[.int .i64 t130001, .slice Ao9 t130002.length co9], .int .i64 x5_2] rfl (by (try simp only [List.map_toArray, List.map_cons, List.map_nil]); first | done | rfl | (simp only [List.length_drop, List.length_take]; rfl)) ?_; (with_reducible refine (spec_MapHouse.calls k2 t130001 _ _ t130002 x5_2 t130019 _ ?side1 ?side2 A32.out).mono ?_); (case side1 => repeat (first | exact (Kd.Q_reads' HO_130006001.out).2.2 | (with_reducible refine Kd.C_alloc ?_ _) | (with_reducible refine Kd.C_drewN ?_ _) | (with_reducible refine Kd.C_drew ?_))); (case side2 => exact (Kd.Q_reads' HO_130006001.out).2.1); rintro e w43 ⟨rfl, hb⟩; refine ⟨_, rfl, ?_⟩; have n0_ := Aside0.mk (Kd.Q_below (by (with_reducible repeat (first | apply Kd.Q_alloc | apply Kd.Q_drewN | apply Kd.Q_drew)); exact HO_130006001.out) hb); have n1_ := Aside0.mk (blk_below (g := gb130005) (o := .cells #[.int .i64 t130001, .slice Ao9 t130002.length co9] 27 (0, 0)) (by (with_reducible repeat (first | refine blk_drewN ?_ _ | refine blk_drew ?_ | refine blk_alloc ?_ _)); exact BK130005.out) hb); have n2_ := Aside0.mk (below_step (by repeat (first | (with_reducible first | exact HB.out | apply below_alloc | apply pw_below_drewN | apply below_drew1 | refine below_set ?_ GE130005.out) | exact HB.out)) hb); clear HO_130006001; clear BK130005; clear HB; have HO_130006001 := n0_; have BK130005 := n1_; have HB := n2_; clear n0_ n1_ n2_; (try clear hb); (try clear hb2); (try clear hk); (try clear hi)) | (go_at_call 15; (with_reducible refine (spec_MapSlot.calls x5_2 t130020 _ A34.out).mono ?_); rintro e w' ⟨rfl, ⟨nd, rfl⟩⟩))
                        go_meet
                        case rel => exact ⟨_, (((decide (t130017 ≥ 0)) != false)), (by first | rfl | (simp; done) | (simp [*]; done)), H', ⟨by have := HJ4.out; have := HK2.out; first | omega | exact Nat.le_refl _⟩, ⟨by (with_reducible repeat (first | apply Kd.Q_alloc | apply Kd.Q_drewN | apply Kd.Q_drew)); exact HO_130006001.out⟩, ⟨by (with_reducible repeat (first | refine blk_drewN ?_ _ | refine blk_drew ?_ | refine blk_alloc ?_ _)); exact BK130005.out⟩, ⟨by repeat (first | (with_reducible first | exact HB.out | apply below_alloc | apply pw_below_drewN | apply below_drew1 | refine below_set ?_ GE130005.out) | exact HB.out)⟩⟩
                    · rw [if_neg c35] at H
                      have c35b0 : (t130018 == t130020) = false := beq_eq_false_iff_ne.mpr c35
                      have c35b1 : (t130018 != t130020) = true := bne_iff_ne.mpr c35
                      have H' := Aside0.mk H
                      clear H
                      have hcz44_0 : w31.cell? ⟨gb130005, 0, none⟩ = some (.int .i64 t130001) := (blk_cell BK130005.out 0).trans rfl
                      have hcz44_1 : w31.cell? ⟨gb130005, 1, none⟩ = some (.slice Ao9 t130002.length co9) := (blk_cell BK130005.out 1).trans rfl
                      have hfz44_0 := blk_frozen BK130005.out 0
                      have hfz44_1 := blk_frozen BK130005.out 1
                      go_wp2_with (first | ((with_reducible refine gate_callee (f := 26) rfl ?_); refine goesL_ (some 37) rfl rfl Try.func26 (by kernel_rfl) rfl #[.agg #[.int .i64 t130001, .slice Ao9 t130002.length co9], .int .i64 x5_2] rfl (by (try simp only [List.map_toArray, List.map_cons, List.map_nil]); first | done | rfl | (simp only [List.length_drop, List.length_take]; rfl)) ?_; (with_reducible refine (spec_MapHouse.calls k2 t130001 _ _ t130002 x5_2 t130019 _ ?side1 ?side2 A32.out).mono ?_); (case side1 => repeat (first | exact (Kd.Q_reads' HO_130006001.out).2.2 | (with_reducible refine Kd.C_alloc ?_ _) | (with_reducible refine Kd.C_drewN ?_ _) | (with_reducible refine Kd.C_drew ?_))); (case side2 => exact (Kd.Q_reads' HO_130006001.out).2.1); rintro e w45 ⟨rfl, hb⟩; refine ⟨_, rfl, ?_⟩; have n0_ := Aside0.mk (Kd.Q_below (by (with_reducible repeat (first | apply Kd.Q_alloc | apply Kd.Q_drewN | apply Kd.Q_drew)); exact HO_130006001.out) hb); have n1_ := Aside0.mk (blk_below (g := gb130005) (o := .cells #[.int .i64 t130001, .slice Ao9 t130002.length co9] 27 (0, 0)) (by (with_reducible repeat (first | refine blk_drewN ?_ _ | refine blk_drew ?_ | refine blk_alloc ?_ _)); exact BK130005.out) hb); have n2_ := Aside0.mk (below_step (by repeat (first | (with_reducible first | exact HB.out | apply below_alloc | apply pw_below_drewN | apply below_drew1 | refine below_set ?_ GE130005.out) | exact HB.out)) hb); clear HO_130006001; clear BK130005; clear HB; have HO_130006001 := n0_; have BK130005 := n1_; have HB := n2_; clear n0_ n1_ n2_; (try clear hb); (try clear hb2); (try clear hk); (try clear hi)) | (go_at_call 15; (with_reducible refine (spec_MapSlot.calls x5_2 t130020 _ A34.out).mono ?_); rintro e w' ⟨rfl, ⟨nd, rfl⟩⟩))
                      go_meet
                      case rel => exact ⟨_, (true), (by first | rfl | (simp; done) | (simp [*]; done)), H', ⟨by have := HJ4.out; have := HK2.out; first | omega | exact Nat.le_refl _⟩, ⟨by (with_reducible repeat (first | apply Kd.Q_alloc | apply Kd.Q_drewN | apply Kd.Q_drew)); exact HO_130006001.out⟩, ⟨by (with_reducible repeat (first | refine blk_drewN ?_ _ | refine blk_drew ?_ | refine blk_alloc ?_ _)); exact BK130005.out⟩, ⟨by repeat (first | (with_reducible first | exact HB.out | apply below_alloc | apply pw_below_drewN | apply below_drew1 | refine below_set ?_ GE130005.out) | exact HB.out)⟩⟩
                  · rw [if_neg c33] at H
                    have c33b0 : (t130017 == t130019) = false := beq_eq_false_iff_ne.mpr c33
                    have c33b1 : (t130017 != t130019) = true := bne_iff_ne.mpr c33
                    (first | rw [c33b0] | (simp only [i64_w, i32_w]; rw [c33b0]) | skip)
                    have H' := Aside0.mk H
                    clear H
                    have hcz46_0 : w31.cell? ⟨gb130005, 0, none⟩ = some (.int .i64 t130001) := (blk_cell BK130005.out 0).trans rfl
                    have hcz46_1 : w31.cell? ⟨gb130005, 1, none⟩ = some (.slice Ao9 t130002.length co9) := (blk_cell BK130005.out 1).trans rfl
                    have hfz46_0 := blk_frozen BK130005.out 0
                    have hfz46_1 := blk_frozen BK130005.out 1
                    go_wp2_with (first | ((with_reducible refine gate_callee (f := 26) rfl ?_); refine goesL_ (some 37) rfl rfl Try.func26 (by kernel_rfl) rfl #[.agg #[.int .i64 t130001, .slice Ao9 t130002.length co9], .int .i64 x5_2] rfl (by (try simp only [List.map_toArray, List.map_cons, List.map_nil]); first | done | rfl | (simp only [List.length_drop, List.length_take]; rfl)) ?_; (with_reducible refine (spec_MapHouse.calls k2 t130001 _ _ t130002 x5_2 t130019 _ ?side1 ?side2 A32.out).mono ?_); (case side1 => repeat (first | exact (Kd.Q_reads' HO_130006001.out).2.2 | (with_reducible refine Kd.C_alloc ?_ _) | (with_reducible refine Kd.C_drewN ?_ _) | (with_reducible refine Kd.C_drew ?_))); (case side2 => exact (Kd.Q_reads' HO_130006001.out).2.1); rintro e w47 ⟨rfl, hb⟩; refine ⟨_, rfl, ?_⟩; have n0_ := Aside0.mk (Kd.Q_below (by (with_reducible repeat (first | apply Kd.Q_alloc | apply Kd.Q_drewN | apply Kd.Q_drew)); exact HO_130006001.out) hb); have n1_ := Aside0.mk (blk_below (g := gb130005) (o := .cells #[.int .i64 t130001, .slice Ao9 t130002.length co9] 27 (0, 0)) (by (with_reducible repeat (first | refine blk_drewN ?_ _ | refine blk_drew ?_ | refine blk_alloc ?_ _)); exact BK130005.out) hb); have n2_ := Aside0.mk (below_step (by repeat (first | (with_reducible first | exact HB.out | apply below_alloc | apply pw_below_drewN | apply below_drew1 | refine below_set ?_ GE130005.out) | exact HB.out)) hb); clear HO_130006001; clear BK130005; clear HB; have HO_130006001 := n0_; have BK130005 := n1_; have HB := n2_; clear n0_ n1_ n2_; (try clear hb); (try clear hb2); (try clear hk); (try clear hi)))
                    go_meet
                    case rel => exact ⟨_, (true), (by first | rfl | (simp; done) | (simp [*]; done)), H', ⟨by have := HJ4.out; have := HK2.out; first | omega | exact Nat.le_refl _⟩, ⟨by (with_reducible repeat (first | apply Kd.Q_alloc | apply Kd.Q_drewN | apply Kd.Q_drew)); exact HO_130006001.out⟩, ⟨by (with_reducible repeat (first | refine blk_drewN ?_ _ | refine blk_drew ?_ | refine blk_alloc ?_ _)); exact BK130005.out⟩, ⟨by repeat (first | (with_reducible first | exact HB.out | apply below_alloc | apply pw_below_drewN | apply below_drew1 | refine below_set ?_ GE130005.out) | exact HB.out)⟩⟩
                case rest =>
                  clear HC29
                  try clear c1
                  try clear c2
                  try clear c2b0
                  try clear c2b1
                  try clear p2
                  try clear c3
                  try clear c12
                  try clear c12b0
                  try clear c12b1
                  try clear c12b2
                  try clear c16
                  try clear c23
                  try clear c25
                  try clear c26
                  try clear c26b0
                  try clear c27
                  try clear c33
                  try clear c33b0
                  try clear c33b1
                  try clear c35
                  try clear c35b0
                  try clear c35b1
                  try clear c36
                  try clear c37
                  try clear c37b0
                  try clear hcz13_0
                  try clear hcz13_1
                  try clear hcz18_0
                  try clear hcz18_1
                  try clear hcz30_0
                  try clear hcz30_1
                  try clear hcz38_0
                  try clear hcz38_1
                  try clear hcz40_0
                  try clear hcz40_1
                  try clear hcz42_0
                  try clear hcz42_1
                  try clear hcz44_0
                  try clear hcz44_1
                  try clear hcz46_0
                  try clear hcz46_1
                  try clear hcz8_0
                  try clear hcz8_1
                  try clear hfz13_0
                  try clear hfz13_1
                  try clear hfz18_0
                  try clear hfz18_1
                  try clear hfz30_0
                  try clear hfz30_1
                  try clear hfz38_0
                  try clear hfz38_1
                  try clear hfz40_0
                  try clear hfz40_1
                  try clear hfz42_0
                  try clear hfz42_1
                  try clear hfz44_0
                  try clear hfz44_1
                  try clear hfz46_0
                  try clear hfz46_1
                  try clear hfz8_0
                  try clear hfz8_1
                  try clear p2
                  obtain ⟨kq, x58_28, rfl, HA, HJ28, HO_130006001, BK130005, HB⟩ := hcut
                  cases kq with
                  | zero => exact absurd HA.out (by simp [laws_FnMapKeys.j2])
                  | succ kj28 =>
                    have H := HA.out
                    clear HA
                    simp only [laws_FnMapKeys.j2] at H
                    by_cases c48 : x58_28 = true
                    · subst c48
                      have H1 : (some false) = some r := by rw [if_pos rfl] at H; exact H
                      clear H
                      have H := H1
                      clear H1
                      obtain rfl := Option.some.inj H
                      go_wp2
                      go_ret
                      exact ⟨by first | rfl | (simp [errW_none, errW_some] <;> rfl) | (simp [*, errW_none, errW_some] <;> rfl), by repeat (first | (with_reducible first | exact HB.out | apply below_alloc | apply pw_below_drewN | apply below_drew1 | refine below_set ?_ GE130005.out) | exact HB.out)⟩
                    · replace c48 := Bool.eq_false_iff.mpr c48
                      subst c48
                      have H1 : (if x5_2 > 0 then ((impl_MapSlot.f (wrap64 (x5_2 - 1))).bind fun t130021 => (if t130018 = t130021 then ((impl_MapHouse.f kj28 t130001 t130002 (wrap64 (x5_2 - 1))).bind fun t130022 => (if t130017 = t130022 then (if t130018 ≥ 0 then ((impl_MapSlot.f (wrap64 (x5_2 - 1))).bind fun t130023 => (if t130018 < t130023 then (some false) else (laws_FnMapKeys.l0 kj28 t130006 (wrap64 (x5_2 + 1)) t130001 t130002))) else (laws_FnMapKeys.l0 kj28 t130006 (wrap64 (x5_2 + 1)) t130001 t130002)) else (some false))) else (if t130018 ≥ 0 then ((impl_MapSlot.f (wrap64 (x5_2 - 1))).bind fun t130024 => (if t130018 < t130024 then (some false) else (laws_FnMapKeys.l0 kj28 t130006 (wrap64 (x5_2 + 1)) t130001 t130002))) else (laws_FnMapKeys.l0 kj28 t130006 (wrap64 (x5_2 + 1)) t130001 t130002)))) else (if t130018 ≥ 0 then (laws_FnMapKeys.l0 kj28 t130006 (wrap64 (x5_2 + 1)) t130001 t130002) else (laws_FnMapKeys.l0 kj28 t130006 (wrap64 (x5_2 + 1)) t130001 t130002))) = some r := by rw [if_neg (show ¬ (false = true) by decide)] at H; exact H
                      clear H
                      have H := H1
                      clear H1
                      by_cases c49 : x5_2 > 0
                      · rw [if_pos c49] at H
                        have c49b0 : decide (0 < x5_2) = true := decide_eq_true c49
                        clear c49
                        replace H := Option.bind_eq_some_iff.mp H
                        obtain ⟨t130021, A500, H⟩ := H
                        replace H : (if t130018 = t130021 then ((impl_MapHouse.f kj28 t130001 t130002 (wrap64 (x5_2 - 1))).bind fun t130022 => (if t130017 = t130022 then (if t130018 ≥ 0 then ((impl_MapSlot.f (wrap64 (x5_2 - 1))).bind fun t130023 => (if t130018 < t130023 then (some false) else (laws_FnMapKeys.l0 kj28 t130006 (wrap64 (x5_2 + 1)) t130001 t130002))) else (laws_FnMapKeys.l0 kj28 t130006 (wrap64 (x5_2 + 1)) t130001 t130002)) else (some false))) else (if t130018 ≥ 0 then ((impl_MapSlot.f (wrap64 (x5_2 - 1))).bind fun t130024 => (if t130018 < t130024 then (some false) else (laws_FnMapKeys.l0 kj28 t130006 (wrap64 (x5_2 + 1)) t130001 t130002))) else (laws_FnMapKeys.l0 kj28 t130006 (wrap64 (x5_2 + 1)) t130001 t130002))) = some r := H
                        have A50 := Aside0.mk A500
                        clear A500
                        by_cases c51 : t130018 = t130021
                        · rw [if_pos c51] at H
                          have c51b0 : (t130018 == t130021) = true := beq_iff_eq.mpr c51
                          have c51b1 : (t130018 != t130021) = false := bne_eq_false_iff_eq.mpr c51
                          clear c51
                          replace H := Option.bind_eq_some_iff.mp H
                          obtain ⟨t130022, A520, H⟩ := H
                          replace H : (if t130017 = t130022 then (if t130018 ≥ 0 then ((impl_MapSlot.f (wrap64 (x5_2 - 1))).bind fun t130023 => (if t130018 < t130023 then (some false) else (laws_FnMapKeys.l0 kj28 t130006 (wrap64 (x5_2 + 1)) t130001 t130002))) else (laws_FnMapKeys.l0 kj28 t130006 (wrap64 (x5_2 + 1)) t130001 t130002)) else (some false)) = some r := H
                          have A52 := Aside0.mk A520
                          clear A520
                          by_cases c53 : t130017 = t130022
                          · rw [if_pos c53] at H
                            have c53b0 : (t130017 == t130022) = true := beq_iff_eq.mpr c53
                            have c53b1 : (t130017 != t130022) = false := bne_eq_false_iff_eq.mpr c53
                            clear c53
                            by_cases c54 : t130018 ≥ 0
                            · rw [if_pos c54] at H
                              have c54b0 : decide (0 ≤ t130018) = true := decide_eq_true c54
                              clear c54
                              replace H := Option.bind_eq_some_iff.mp H
                              obtain ⟨t130023, A550, H⟩ := H
                              replace H : (if t130018 < t130023 then (some false) else (laws_FnMapKeys.l0 kj28 t130006 (wrap64 (x5_2 + 1)) t130001 t130002)) = some r := H
                              have A55 := Aside0.mk A550
                              clear A550
                              by_cases c56 : t130018 < t130023
                              · rw [if_pos c56] at H
                                have c56b0 : decide (t130018 < t130023) = true := decide_eq_true c56
                                clear c56
                                obtain rfl := Option.some.inj H
                                go_wp2_with (first | (go_at_call 16; (with_reducible refine (impl_MapSlot.calls (wrap64 (x5_2 - 1)) t130021 _ A50.out).mono ?_); rintro e w' ⟨rfl, ⟨nd, rfl⟩⟩; have hcz57_0 : wc.cell? ⟨gb130005, 0, none⟩ = some (.int .i64 t130001) := (blk_cell BK130005.out 0).trans rfl; have hcz57_1 : wc.cell? ⟨gb130005, 1, none⟩ = some (.slice Ao9 t130002.length co9) := (blk_cell BK130005.out 1).trans rfl; have hfz57_0 := blk_frozen BK130005.out 0; have hfz57_1 := blk_frozen BK130005.out 1) | (go_at_call 27; (with_reducible refine (impl_MapHouse.calls kj28 t130001 _ _ t130002 (wrap64 (x5_2 - 1)) t130022 _ ?side1 ?side2 A52.out).mono ?_); (case side1 => repeat (first | exact (Kd.Q_reads' HO_130006001.out).2.2 | (with_reducible refine Kd.C_alloc ?_ _) | (with_reducible refine Kd.C_drewN ?_ _) | (with_reducible refine Kd.C_drew ?_))); (case side2 => exact (Kd.Q_reads' HO_130006001.out).2.1); rintro e w58 ⟨rfl, hb⟩; have n0_ := Aside0.mk (Kd.Q_below (by (with_reducible repeat (first | apply Kd.Q_alloc | apply Kd.Q_drewN | apply Kd.Q_drew)); exact HO_130006001.out) hb); have n1_ := Aside0.mk (blk_below (g := gb130005) (o := .cells #[.int .i64 t130001, .slice Ao9 t130002.length co9] 27 (0, 0)) (by (with_reducible repeat (first | refine blk_drewN ?_ _ | refine blk_drew ?_ | refine blk_alloc ?_ _)); exact BK130005.out) hb); have n2_ := Aside0.mk (below_step (by repeat (first | (with_reducible first | exact HB.out | apply below_alloc | apply pw_below_drewN | apply below_drew1 | refine below_set ?_ GE130005.out) | exact HB.out)) hb); clear HO_130006001; clear BK130005; clear HB; have HO_130006001 := n0_; have BK130005 := n1_; have HB := n2_; clear n0_ n1_ n2_; (try clear hb); (try clear hb2); (try clear hk); (try clear hi)) | (go_at_call 16; (with_reducible refine (impl_MapSlot.calls (wrap64 (x5_2 - 1)) t130023 _ A55.out).mono ?_); rintro e w' ⟨rfl, ⟨nd, rfl⟩⟩))
                                go_ret
                                exact ⟨by first | rfl | (simp [errW_none, errW_some] <;> rfl) | (simp [*, errW_none, errW_some] <;> rfl), by repeat (first | (with_reducible first | exact HB.out | apply below_alloc | apply pw_below_drewN | apply below_drew1 | refine below_set ?_ GE130005.out) | exact HB.out)⟩
                              · rw [if_neg c56] at H
                                have c56b0 : decide (t130018 < t130023) = false := decide_eq_false c56
                                clear c56
                                have H' := Aside0.mk H
                                clear H
                                go_wp2_with (first | (go_at_call 16; (with_reducible refine (impl_MapSlot.calls (wrap64 (x5_2 - 1)) t130021 _ A50.out).mono ?_); rintro e w' ⟨rfl, ⟨nd, rfl⟩⟩; have hcz59_0 : wc.cell? ⟨gb130005, 0, none⟩ = some (.int .i64 t130001) := (blk_cell BK130005.out 0).trans rfl; have hcz59_1 : wc.cell? ⟨gb130005, 1, none⟩ = some (.slice Ao9 t130002.length co9) := (blk_cell BK130005.out 1).trans rfl; have hfz59_0 := blk_frozen BK130005.out 0; have hfz59_1 := blk_frozen BK130005.out 1) | (go_at_call 27; (with_reducible refine (impl_MapHouse.calls kj28 t130001 _ _ t130002 (wrap64 (x5_2 - 1)) t130022 _ ?side1 ?side2 A52.out).mono ?_); (case side1 => repeat (first | exact (Kd.Q_reads' HO_130006001.out).2.2 | (with_reducible refine Kd.C_alloc ?_ _) | (with_reducible refine Kd.C_drewN ?_ _) | (with_reducible refine Kd.C_drew ?_))); (case side2 => exact (Kd.Q_reads' HO_130006001.out).2.1); rintro e w60 ⟨rfl, hb⟩; have n0_ := Aside0.mk (Kd.Q_below (by (with_reducible repeat (first | apply Kd.Q_alloc | apply Kd.Q_drewN | apply Kd.Q_drew)); exact HO_130006001.out) hb); have n1_ := Aside0.mk (blk_below (g := gb130005) (o := .cells #[.int .i64 t130001, .slice Ao9 t130002.length co9] 27 (0, 0)) (by (with_reducible repeat (first | refine blk_drewN ?_ _ | refine blk_drew ?_ | refine blk_alloc ?_ _)); exact BK130005.out) hb); have n2_ := Aside0.mk (below_step (by repeat (first | (with_reducible first | exact HB.out | apply below_alloc | apply pw_below_drewN | apply below_drew1 | refine below_set ?_ GE130005.out) | exact HB.out)) hb); clear HO_130006001; clear BK130005; clear HB; have HO_130006001 := n0_; have BK130005 := n1_; have HB := n2_; clear n0_ n1_ n2_; (try clear hb); (try clear hb2); (try clear hk); (try clear hi)) | (go_at_call 16; (with_reducible refine (impl_MapSlot.calls (wrap64 (x5_2 - 1)) t130023 _ A55.out).mono ?_); rintro e w' ⟨rfl, ⟨nd, rfl⟩⟩))
                                go_roundg kj28
                                case measure => have := HJ4.out; have := HK2.out; have := HJ28.out; omega
                                case rel => exact ⟨(wrap64 (x5_2 + 1)), (by first | rfl | (simp; done) | (simp [*]; done)), H', ⟨by have := HJ4.out; have := HK2.out; have := HJ28.out; omega⟩, ⟨by (with_reducible repeat (first | apply Kd.Q_alloc | apply Kd.Q_drewN | apply Kd.Q_drew)); exact HO_130006001.out⟩, ⟨by (with_reducible repeat (first | refine blk_drewN ?_ _ | refine blk_drew ?_ | refine blk_alloc ?_ _)); exact BK130005.out⟩, ⟨by repeat (first | (with_reducible first | exact HB.out | apply below_alloc | apply pw_below_drewN | apply below_drew1 | refine below_set ?_ GE130005.out) | exact HB.out)⟩⟩
                            · rw [if_neg c54] at H
                              have c54b0 : decide (0 ≤ t130018) = false := decide_eq_false c54
                              clear c54
                              have H' := Aside0.mk H
                              clear H
                              go_wp2_with (first | (go_at_call 16; (with_reducible refine (impl_MapSlot.calls (wrap64 (x5_2 - 1)) t130021 _ A50.out).mono ?_); rintro e w' ⟨rfl, ⟨nd, rfl⟩⟩; have hcz61_0 : wc.cell? ⟨gb130005, 0, none⟩ = some (.int .i64 t130001) := (blk_cell BK130005.out 0).trans rfl; have hcz61_1 : wc.cell? ⟨gb130005, 1, none⟩ = some (.slice Ao9 t130002.length co9) := (blk_cell BK130005.out 1).trans rfl; have hfz61_0 := blk_frozen BK130005.out 0; have hfz61_1 := blk_frozen BK130005.out 1) | (go_at_call 27; (with_reducible refine (impl_MapHouse.calls kj28 t130001 _ _ t130002 (wrap64 (x5_2 - 1)) t130022 _ ?side1 ?side2 A52.out).mono ?_); (case side1 => repeat (first | exact (Kd.Q_reads' HO_130006001.out).2.2 | (with_reducible refine Kd.C_alloc ?_ _) | (with_reducible refine Kd.C_drewN ?_ _) | (with_reducible refine Kd.C_drew ?_))); (case side2 => exact (Kd.Q_reads' HO_130006001.out).2.1); rintro e w62 ⟨rfl, hb⟩; have n0_ := Aside0.mk (Kd.Q_below (by (with_reducible repeat (first | apply Kd.Q_alloc | apply Kd.Q_drewN | apply Kd.Q_drew)); exact HO_130006001.out) hb); have n1_ := Aside0.mk (blk_below (g := gb130005) (o := .cells #[.int .i64 t130001, .slice Ao9 t130002.length co9] 27 (0, 0)) (by (with_reducible repeat (first | refine blk_drewN ?_ _ | refine blk_drew ?_ | refine blk_alloc ?_ _)); exact BK130005.out) hb); have n2_ := Aside0.mk (below_step (by repeat (first | (with_reducible first | exact HB.out | apply below_alloc | apply pw_below_drewN | apply below_drew1 | refine below_set ?_ GE130005.out) | exact HB.out)) hb); clear HO_130006001; clear BK130005; clear HB; have HO_130006001 := n0_; have BK130005 := n1_; have HB := n2_; clear n0_ n1_ n2_; (try clear hb); (try clear hb2); (try clear hk); (try clear hi)))
                              go_roundg kj28
                              case measure => have := HJ4.out; have := HK2.out; have := HJ28.out; omega
                              case rel => exact ⟨(wrap64 (x5_2 + 1)), (by first | rfl | (simp; done) | (simp [*]; done)), H', ⟨by have := HJ4.out; have := HK2.out; have := HJ28.out; omega⟩, ⟨by (with_reducible repeat (first | apply Kd.Q_alloc | apply Kd.Q_drewN | apply Kd.Q_drew)); exact HO_130006001.out⟩, ⟨by (with_reducible repeat (first | refine blk_drewN ?_ _ | refine blk_drew ?_ | refine blk_alloc ?_ _)); exact BK130005.out⟩, ⟨by repeat (first | (with_reducible first | exact HB.out | apply below_alloc | apply pw_below_drewN | apply below_drew1 | refine below_set ?_ GE130005.out) | exact HB.out)⟩⟩
                          · rw [if_neg c53] at H
                            have c53b0 : (t130017 == t130022) = false := beq_eq_false_iff_ne.mpr c53
                            have c53b1 : (t130017 != t130022) = true := bne_iff_ne.mpr c53
                            obtain rfl := Option.some.inj H
                            go_wp2_with (first | (go_at_call 16; (with_reducible refine (impl_MapSlot.calls (wrap64 (x5_2 - 1)) t130021 _ A50.out).mono ?_); rintro e w' ⟨rfl, ⟨nd, rfl⟩⟩; have hcz63_0 : wc.cell? ⟨gb130005, 0, none⟩ = some (.int .i64 t130001) := (blk_cell BK130005.out 0).trans rfl; have hcz63_1 : wc.cell? ⟨gb130005, 1, none⟩ = some (.slice Ao9 t130002.length co9) := (blk_cell BK130005.out 1).trans rfl; have hfz63_0 := blk_frozen BK130005.out 0; have hfz63_1 := blk_frozen BK130005.out 1) | (go_at_call 27; (with_reducible refine (impl_MapHouse.calls kj28 t130001 _ _ t130002 (wrap64 (x5_2 - 1)) t130022 _ ?side1 ?side2 A52.out).mono ?_); (case side1 => repeat (first | exact (Kd.Q_reads' HO_130006001.out).2.2 | (with_reducible refine Kd.C_alloc ?_ _) | (with_reducible refine Kd.C_drewN ?_ _) | (with_reducible refine Kd.C_drew ?_))); (case side2 => exact (Kd.Q_reads' HO_130006001.out).2.1); rintro e w64 ⟨rfl, hb⟩; have n0_ := Aside0.mk (Kd.Q_below (by (with_reducible repeat (first | apply Kd.Q_alloc | apply Kd.Q_drewN | apply Kd.Q_drew)); exact HO_130006001.out) hb); have n1_ := Aside0.mk (blk_below (g := gb130005) (o := .cells #[.int .i64 t130001, .slice Ao9 t130002.length co9] 27 (0, 0)) (by (with_reducible repeat (first | refine blk_drewN ?_ _ | refine blk_drew ?_ | refine blk_alloc ?_ _)); exact BK130005.out) hb); have n2_ := Aside0.mk (below_step (by repeat (first | (with_reducible first | exact HB.out | apply below_alloc | apply pw_below_drewN | apply below_drew1 | refine below_set ?_ GE130005.out) | exact HB.out)) hb); clear HO_130006001; clear BK130005; clear HB; have HO_130006001 := n0_; have BK130005 := n1_; have HB := n2_; clear n0_ n1_ n2_; (try clear hb); (try clear hb2); (try clear hk); (try clear hi)))
                            go_ret
                            exact ⟨by first | rfl | (simp [errW_none, errW_some] <;> rfl) | (simp [*, errW_none, errW_some] <;> rfl), by repeat (first | (with_reducible first | exact HB.out | apply below_alloc | apply pw_below_drewN | apply below_drew1 | refine below_set ?_ GE130005.out) | exact HB.out)⟩
                        · rw [if_neg c51] at H
                          have c51b0 : (t130018 == t130021) = false := beq_eq_false_iff_ne.mpr c51
                          have c51b1 : (t130018 != t130021) = true := bne_iff_ne.mpr c51
                          by_cases c65 : t130018 ≥ 0
                          · rw [if_pos c65] at H
                            have c65b0 : decide (0 ≤ t130018) = true := decide_eq_true c65
                            clear c65
                            replace H := Option.bind_eq_some_iff.mp H
                            obtain ⟨t130024, A660, H⟩ := H
                            replace H : (if t130018 < t130024 then (some false) else (laws_FnMapKeys.l0 kj28 t130006 (wrap64 (x5_2 + 1)) t130001 t130002)) = some r := H
                            have A66 := Aside0.mk A660
                            clear A660
                            have E66 := Option.some.inj (A66.out.symm.trans A50.out)
                            by_cases c67 : t130018 < t130024
                            · rw [if_pos c67] at H
                              have c67b0 : decide (t130018 < t130024) = true := decide_eq_true c67
                              have c67b1 := c67b0
                              rw [E66] at c67b1
                              clear c67
                              obtain rfl := Option.some.inj H
                              go_wp2_with (first | (go_at_call 16; (with_reducible refine (impl_MapSlot.calls (wrap64 (x5_2 - 1)) t130021 _ A50.out).mono ?_); rintro e w' ⟨rfl, ⟨nd, rfl⟩⟩) | (go_at_call 16; (with_reducible refine (impl_MapSlot.calls (wrap64 (x5_2 - 1)) t130024 _ A66.out).mono ?_); rintro e w' ⟨rfl, ⟨nd, rfl⟩⟩))
                              go_ret
                              exact ⟨by first | rfl | (simp [errW_none, errW_some] <;> rfl) | (simp [*, errW_none, errW_some] <;> rfl), by repeat (first | (with_reducible first | exact HB.out | apply below_alloc | apply pw_below_drewN | apply below_drew1 | refine below_set ?_ GE130005.out) | exact HB.out)⟩
                            · rw [if_neg c67] at H
                              have c67b0 : decide (t130018 < t130024) = false := decide_eq_false c67
                              have c67b1 := c67b0
                              rw [E66] at c67b1
                              clear c67
                              have H' := Aside0.mk H
                              clear H
                              go_wp2_with (first | (go_at_call 16; (with_reducible refine (impl_MapSlot.calls (wrap64 (x5_2 - 1)) t130021 _ A50.out).mono ?_); rintro e w' ⟨rfl, ⟨nd, rfl⟩⟩) | (go_at_call 16; (with_reducible refine (impl_MapSlot.calls (wrap64 (x5_2 - 1)) t130024 _ A66.out).mono ?_); rintro e w' ⟨rfl, ⟨nd, rfl⟩⟩))
                              go_roundg kj28
                              case measure => have := HJ4.out; have := HK2.out; have := HJ28.out; omega
                              case rel => exact ⟨(wrap64 (x5_2 + 1)), (by first | rfl | (simp; done) | (simp [*]; done)), H', ⟨by have := HJ4.out; have := HK2.out; have := HJ28.out; omega⟩, ⟨by (with_reducible repeat (first | apply Kd.Q_alloc | apply Kd.Q_drewN | apply Kd.Q_drew)); exact HO_130006001.out⟩, ⟨by (with_reducible repeat (first | refine blk_drewN ?_ _ | refine blk_drew ?_ | refine blk_alloc ?_ _)); exact BK130005.out⟩, ⟨by repeat (first | (with_reducible first | exact HB.out | apply below_alloc | apply pw_below_drewN | apply below_drew1 | refine below_set ?_ GE130005.out) | exact HB.out)⟩⟩
                          · rw [if_neg c65] at H
                            have c65b0 : decide (0 ≤ t130018) = false := decide_eq_false c65
                            clear c65
                            have H' := Aside0.mk H
                            clear H
                            go_wp2_with (first | (go_at_call 16; (with_reducible refine (impl_MapSlot.calls (wrap64 (x5_2 - 1)) t130021 _ A50.out).mono ?_); rintro e w' ⟨rfl, ⟨nd, rfl⟩⟩))
                            go_roundg kj28
                            case measure => have := HJ4.out; have := HK2.out; have := HJ28.out; omega
                            case rel => exact ⟨(wrap64 (x5_2 + 1)), (by first | rfl | (simp; done) | (simp [*]; done)), H', ⟨by have := HJ4.out; have := HK2.out; have := HJ28.out; omega⟩, ⟨by (with_reducible repeat (first | apply Kd.Q_alloc | apply Kd.Q_drewN | apply Kd.Q_drew)); exact HO_130006001.out⟩, ⟨by (with_reducible repeat (first | refine blk_drewN ?_ _ | refine blk_drew ?_ | refine blk_alloc ?_ _)); exact BK130005.out⟩, ⟨by repeat (first | (with_reducible first | exact HB.out | apply below_alloc | apply pw_below_drewN | apply below_drew1 | refine below_set ?_ GE130005.out) | exact HB.out)⟩⟩
                      · rw [if_neg c49] at H
                        have c49b0 : decide (0 < x5_2) = false := decide_eq_false c49
                        clear c49
                        by_cases c68 : t130018 ≥ 0
                        · rw [if_pos c68] at H
                          have c68b0 : decide (0 ≤ t130018) = true := decide_eq_true c68
                          clear c68
                          have H' := Aside0.mk H
                          clear H
                          go_wp2
                          go_roundg kj28
                          case measure => have := HJ4.out; have := HK2.out; have := HJ28.out; omega
                          case rel => exact ⟨(wrap64 (x5_2 + 1)), (by first | rfl | (simp; done) | (simp [*]; done)), H', ⟨by have := HJ4.out; have := HK2.out; have := HJ28.out; omega⟩, ⟨by (with_reducible repeat (first | apply Kd.Q_alloc | apply Kd.Q_drewN | apply Kd.Q_drew)); exact HO_130006001.out⟩, ⟨by (with_reducible repeat (first | refine blk_drewN ?_ _ | refine blk_drew ?_ | refine blk_alloc ?_ _)); exact BK130005.out⟩, ⟨by repeat (first | (with_reducible first | exact HB.out | apply below_alloc | apply pw_below_drewN | apply below_drew1 | refine below_set ?_ GE130005.out) | exact HB.out)⟩⟩
                        · rw [if_neg c68] at H
                          have c68b0 : decide (0 ≤ t130018) = false := decide_eq_false c68
                          clear c68
                          have H' := Aside0.mk H
                          clear H
                          go_wp2
                          go_roundg kj28
                          case measure => have := HJ4.out; have := HK2.out; have := HJ28.out; omega
                          case rel => exact ⟨(wrap64 (x5_2 + 1)), (by first | rfl | (simp; done) | (simp [*]; done)), H', ⟨by have := HJ4.out; have := HK2.out; have := HJ28.out; omega⟩, ⟨by (with_reducible repeat (first | apply Kd.Q_alloc | apply Kd.Q_drewN | apply Kd.Q_drew)); exact HO_130006001.out⟩, ⟨by (with_reducible repeat (first | refine blk_drewN ?_ _ | refine blk_drew ?_ | refine blk_alloc ?_ _)); exact BK130005.out⟩, ⟨by repeat (first | (with_reducible first | exact HB.out | apply below_alloc | apply pw_below_drewN | apply below_drew1 | refine below_set ?_ GE130005.out) | exact HB.out)⟩⟩
              · rw [if_neg c26] at H
                have c26b0 : decide (x5_2 ≤ 32) = false := decide_eq_false c26
                clear c26
                obtain rfl := Option.some.inj H
                go_wp2
                go_ret
                exact ⟨by first | rfl | (simp [errW_none, errW_some] <;> rfl) | (simp [*, errW_none, errW_some] <;> rfl), by repeat (first | (with_reducible first | exact HB.out | apply below_alloc | apply pw_below_drewN | apply below_drew1 | refine below_set ?_ GE130005.out) | exact HB.out)⟩

/-- THE ONE PURE STATEMENT of laws_FnMapKeys: yours. -/
def laws_FnMapKeys.Pure : Prop := ∀ (l0 : List Int), l0.length ≤ maxLen → l0.length * 1 ≤ 140737488351232 → (∀ x ∈ l0, (Lit.int .u8 x).wf = true) → ∃ k, laws_FnMapKeys.f k l0 = some true
theorem laws_FnMapKeys.walk (P : laws_FnMapKeys.Pure) (a0 : Option Addr) (len0 cap0 : Nat) (z0 : List Int) (w : World) (w0 : (a0 = none ∧ len0 = 0 ∧ cap0 = 0 ∧ z0 = []) ∨ ∃ x, a0 = some x ∧ len0 ≤ cap0 ∧ cap0 ≤ maxLen ∧ z0.length = cap0 ∧ (∀ i, i < z0.length → w.cell? (x.add i) = some (.int .u8 (z0.getD i 0))) ∧ ∀ n ∈ z0, (Lit.int .u8 n).wf = true) (y0 : len0 * 1 ≤ 140737488351232) :
    Calls Try.prog 12 #[.slice a0 len0 cap0] w fun e w' => e = .returned (.bool true) ∧ Below w.heap.size w w' := by
  obtain ⟨l0, rfl, hr0, hm0, hw0, hc0⟩ := ReadsInt.ofRowC w0
  obtain ⟨k, h⟩ := P l0 hm0 y0 hw0
  refine (laws_FnMapKeys.calls k _ _ l0 true w (Kd.C_of_reads (d := (0 : Int)) (h1 := fun _ => rfl) hr0) hc0 h).mono ?_
  rintro e w' ⟨rfl, hd⟩
  exact ⟨rfl, hd⟩

end Go.Proofs.Ytnpmepaiigbhlaa.PX
