-- Written by a program of this workplace (wip/xprint.py over the kit's print.py) out of the translation.
import Derived.Test.YtnpmepaiigbhlaaPXx0
import Derived.Test.YtnpmepaiigbhlaaPXx7
import Derived.Test.YtnpmepaiigbhlaaPXx8
import Derived.Test.YtnpmepaiigbhlaaPXx9
import Derived.Test.YtnpmepaiigbhlaaPXx14
import Derived.Test.YtnpmepaiigbhlaaPXx15
import Derived.Test.YtnpmepaiigbhlaaPXx29
namespace Go.Proofs.Ytnpmepaiigbhlaa.PX
open Go.RowKit Go.Proofs.YtnpmepaiigbhlaaW.PrintWords Go.Proofs.YtnpmepaiigbhlaaW.PrintLast Go.Proofs.YtnpmepaiigbhlaaW.PrintMore
attribute [local go_sem] max2_int min2_int max_two min_two max_three min_three max_four min_four   -- for this text's walks alone
set_option linter.unusedVariables false
set_option linter.unusedSimpArgs false

/-! ### laws_FnExactMapMove: function 11 -/
mutual
def laws_FnExactMapMove.j0 : Nat → Int → Int → Int → Int → Bool → Int → List Int → Int → List Int → Int → List Int → Int → List Int → Option (Bool)
  | 0, _, _, _, _, _, _, _, _, _, _, _, _, _ => none
  | k + 1, x1, x2, x9, x12, x48, x120002000, x120002001, x120013000, x120013001, x120018000, x120018001, x120024000, x120024001 => if x48 = true then (some false) else ((laws_toMap.f k x120002000 x120002001).bind fun bt120025 => ((laws_eqMap.f k x120018000 x120018001 bt120025.1 bt120025.2).bind fun t120029 => (if t120029 = true then ((laws_markMap.f k x120018000 x120018001 1).bind fun bt120030 => (if bt120030.1 < 0 then (laws_FnExactMapMove.j1 k x1 x2 x9 true x120002000 x120002001 x120013000 x120013001 x120024000 x120024001) else ((laws_eqMap.f k x120024000 x120024001 x120013000 x120013001).bind fun t120032 => (if t120032 = true then (laws_FnExactMapMove.j1 k x1 x2 x9 (x12 != x9) x120002000 x120002001 x120013000 x120013001 x120024000 x120024001) else (laws_FnExactMapMove.j1 k x1 x2 x9 true x120002000 x120002001 x120013000 x120013001 x120024000 x120024001))))) else (some false))))
def laws_FnExactMapMove.j1 : Nat → Int → Int → Int → Bool → Int → List Int → Int → List Int → Int → List Int → Option (Bool)
  | 0, _, _, _, _, _, _, _, _, _, _ => none
  | k + 1, x1, x2, x9, x69, x120002000, x120002001, x120013000, x120013001, x120024000, x120024001 => if x69 = true then (some false) else ((laws_markMap.f k x120024000 x120024001 1).bind fun bt120033 => ((laws_heldMap.f k x120024000 bt120033.2 1).bind fun t120035 => (if t120035 < 0 then (some false) else (if t120035 = bt120033.1 then ((laws_toMap.f k x120002000 x120002001).bind fun bt120036 => ((impl_MapMove.f k bt120036.1 bt120036.2 x1 x2).bind fun bt120040 => ((laws_eqMap.f k bt120040.1 bt120040.2.1 x120013000 x120013001).bind fun t120046 => (if t120046 = true then (laws_FnExactMapMove.j2 k bt120033.1 (bt120040.2.2 != x9) x120024000 bt120033.2) else (laws_FnExactMapMove.j2 k bt120033.1 true x120024000 bt120033.2))))) else (some false)))))
def laws_FnExactMapMove.j2 : Nat → Int → Bool → Int → List Int → Option (Bool)
  | 0, _, _, _, _ => none
  | k + 1, x14, x97, x120024000, x120024001 => if x97 = true then (some false) else ((laws_heldMap.f k x120024000 x120024001 1).bind fun t120047 => (if t120047 < 0 then (some false) else (if t120047 = x14 then (some true) else (some false))))
end
def laws_FnExactMapMove.f (k : Nat) (a0_0 : Int) (l0_1 : List Int) (a1 : Int) (a2 : Int) : Option (Bool) := (laws_szMap.f a0_0 l0_1 1048576).bind fun t120002 => (if t120002 < 0 then (some true) else ((laws_toMap.f k a0_0 l0_1).bind fun bt120003 => ((spec_MapMove.f k bt120003.1 bt120003.2 a1 a2).bind fun bt120007 => ((laws_toMap.f k a0_0 l0_1).bind fun bt120013 => ((impl_MapMove.f k bt120013.1 bt120013.2 a1 a2).bind fun bt120018 => ((laws_eqMap.f k bt120018.1 bt120018.2.1 bt120007.1 bt120007.2.1).bind fun t120024 => (if t120024 = true then (laws_FnExactMapMove.j0 k a1 a2 bt120007.2.2 bt120018.2.2 (bt120018.2.2 != bt120007.2.2) a0_0 l0_1 bt120007.1 bt120007.2.1 bt120013.1 bt120013.2 bt120018.1 bt120018.2.1) else (laws_FnExactMapMove.j0 k a1 a2 bt120007.2.2 bt120018.2.2 true a0_0 l0_1 bt120007.1 bt120007.2.1 bt120013.1 bt120013.2 bt120018.1 bt120018.2.1))))))))
theorem laws_FnExactMapMove.mono_l : ∀ k, (∀ y0 y1 y2 y3 y4 y5 y6 y7 y8 y9 y10 y11 y12, LeO (laws_FnExactMapMove.j0 k y0 y1 y2 y3 y4 y5 y6 y7 y8 y9 y10 y11 y12) (laws_FnExactMapMove.j0 (k + 1) y0 y1 y2 y3 y4 y5 y6 y7 y8 y9 y10 y11 y12)) ∧ (∀ y0 y1 y2 y3 y4 y5 y6 y7 y8 y9, LeO (laws_FnExactMapMove.j1 k y0 y1 y2 y3 y4 y5 y6 y7 y8 y9) (laws_FnExactMapMove.j1 (k + 1) y0 y1 y2 y3 y4 y5 y6 y7 y8 y9)) ∧ (∀ y0 y1 y2 y3, LeO (laws_FnExactMapMove.j2 k y0 y1 y2 y3) (laws_FnExactMapMove.j2 (k + 1) y0 y1 y2 y3))
  | 0 => ⟨fun _ _ _ _ _ _ _ _ _ _ _ _ _ r h => by simp [laws_FnExactMapMove.j0] at h, fun _ _ _ _ _ _ _ _ _ _ r h => by simp [laws_FnExactMapMove.j1] at h, fun _ _ _ _ r h => by simp [laws_FnExactMapMove.j2] at h⟩
  | k + 1 => by
    obtain ⟨ih0, ih1, ih2⟩ := laws_FnExactMapMove.mono_l k
    refine ⟨?_, ?_, ?_⟩
    · intro y0 y1 y2 y3 y4 y5 y6 y7 y8 y9 y10 y11 y12
      unfold laws_FnExactMapMove.j0
      repeat' first
      | (with_reducible exact ih0 _ _ _ _ _ _ _ _ _ _ _ _ _)
      | (with_reducible exact ih1 _ _ _ _ _ _ _ _ _ _)
      | (with_reducible exact ih2 _ _ _ _)
      | (with_reducible exact impl_MapMove.mono _ _ _ _ _)
      | (with_reducible exact laws_eqMap.mono _ _ _ _ _)
      | (with_reducible exact laws_heldMap.mono _ _ _ _)
      | (with_reducible exact laws_markMap.mono _ _ _ _)
      | (with_reducible exact laws_toMap.mono _ _ _)
      | (with_reducible exact spec_MapMove.mono _ _ _ _ _)
      | (with_reducible exact LeO.refl _)
      | (with_reducible exact LeO.none _)
      | (with_reducible refine LeO.ite ?_ ?_)
      | (with_reducible refine LeO.bind ?_ (fun _ => ?_))
      | exact ih0 _ _ _ _ _ _ _ _ _ _ _ _ _
      | exact ih1 _ _ _ _ _ _ _ _ _ _
      | exact ih2 _ _ _ _
      | exact impl_MapMove.mono _ _ _ _ _
      | exact laws_eqMap.mono _ _ _ _ _
      | exact laws_heldMap.mono _ _ _ _
      | exact laws_markMap.mono _ _ _ _
      | exact laws_toMap.mono _ _ _
      | exact spec_MapMove.mono _ _ _ _ _
      | exact LeO.none _
      | refine LeO.ite ?_ ?_
      | refine LeO.bind ?_ (fun _ => ?_)
    · intro y0 y1 y2 y3 y4 y5 y6 y7 y8 y9
      unfold laws_FnExactMapMove.j1
      repeat' first
      | (with_reducible exact ih0 _ _ _ _ _ _ _ _ _ _ _ _ _)
      | (with_reducible exact ih1 _ _ _ _ _ _ _ _ _ _)
      | (with_reducible exact ih2 _ _ _ _)
      | (with_reducible exact impl_MapMove.mono _ _ _ _ _)
      | (with_reducible exact laws_eqMap.mono _ _ _ _ _)
      | (with_reducible exact laws_heldMap.mono _ _ _ _)
      | (with_reducible exact laws_markMap.mono _ _ _ _)
      | (with_reducible exact laws_toMap.mono _ _ _)
      | (with_reducible exact spec_MapMove.mono _ _ _ _ _)
      | (with_reducible exact LeO.refl _)
      | (with_reducible exact LeO.none _)
      | (with_reducible refine LeO.ite ?_ ?_)
      | (with_reducible refine LeO.bind ?_ (fun _ => ?_))
      | exact ih0 _ _ _ _ _ _ _ _ _ _ _ _ _
      | exact ih1 _ _ _ _ _ _ _ _ _ _
      | exact ih2 _ _ _ _
      | exact impl_MapMove.mono _ _ _ _ _
      | exact laws_eqMap.mono _ _ _ _ _
      | exact laws_heldMap.mono _ _ _ _
      | exact laws_markMap.mono _ _ _ _
      | exact laws_toMap.mono _ _ _
      | exact spec_MapMove.mono _ _ _ _ _
      | exact LeO.none _
      | refine LeO.ite ?_ ?_
      | refine LeO.bind ?_ (fun _ => ?_)
    · intro y0 y1 y2 y3
      unfold laws_FnExactMapMove.j2
      repeat' first
      | (with_reducible exact ih0 _ _ _ _ _ _ _ _ _ _ _ _ _)
      | (with_reducible exact ih1 _ _ _ _ _ _ _ _ _ _)
      | (with_reducible exact ih2 _ _ _ _)
      | (with_reducible exact impl_MapMove.mono _ _ _ _ _)
      | (with_reducible exact laws_eqMap.mono _ _ _ _ _)
      | (with_reducible exact laws_heldMap.mono _ _ _ _)
      | (with_reducible exact laws_markMap.mono _ _ _ _)
      | (with_reducible exact laws_toMap.mono _ _ _)
      | (with_reducible exact spec_MapMove.mono _ _ _ _ _)
      | (with_reducible exact LeO.refl _)
      | (with_reducible exact LeO.none _)
      | (with_reducible refine LeO.ite ?_ ?_)
      | (with_reducible refine LeO.bind ?_ (fun _ => ?_))
      | exact ih0 _ _ _ _ _ _ _ _ _ _ _ _ _
      | exact ih1 _ _ _ _ _ _ _ _ _ _
      | exact ih2 _ _ _ _
      | exact impl_MapMove.mono _ _ _ _ _
      | exact laws_eqMap.mono _ _ _ _ _
      | exact laws_heldMap.mono _ _ _ _
      | exact laws_markMap.mono _ _ _ _
      | exact laws_toMap.mono _ _ _
      | exact spec_MapMove.mono _ _ _ _ _
      | exact LeO.none _
      | refine LeO.ite ?_ ?_
      | refine LeO.bind ?_ (fun _ => ?_)
theorem laws_FnExactMapMove.mono : ∀ a0 a1 a2 a3 k, LeO (laws_FnExactMapMove.f k a0 a1 a2 a3) (laws_FnExactMapMove.f (k + 1) a0 a1 a2 a3) := by
  intro a0 a1 a2 a3 k
  obtain ⟨ih0, ih1, ih2⟩ := laws_FnExactMapMove.mono_l k
  unfold laws_FnExactMapMove.f
  repeat' first
      | (with_reducible exact ih0 _ _ _ _ _ _ _ _ _ _ _ _ _)
      | (with_reducible exact ih1 _ _ _ _ _ _ _ _ _ _)
      | (with_reducible exact ih2 _ _ _ _)
      | (with_reducible exact impl_MapMove.mono _ _ _ _ _)
      | (with_reducible exact laws_eqMap.mono _ _ _ _ _)
      | (with_reducible exact laws_heldMap.mono _ _ _ _)
      | (with_reducible exact laws_markMap.mono _ _ _ _)
      | (with_reducible exact laws_toMap.mono _ _ _)
      | (with_reducible exact spec_MapMove.mono _ _ _ _ _)
      | (with_reducible exact LeO.refl _)
      | (with_reducible exact LeO.none _)
      | (with_reducible refine LeO.ite ?_ ?_)
      | (with_reducible refine LeO.bind ?_ (fun _ => ?_))
      | exact ih0 _ _ _ _ _ _ _ _ _ _ _ _ _
      | exact ih1 _ _ _ _ _ _ _ _ _ _
      | exact ih2 _ _ _ _
      | exact impl_MapMove.mono _ _ _ _ _
      | exact laws_eqMap.mono _ _ _ _ _
      | exact laws_heldMap.mono _ _ _ _
      | exact laws_markMap.mono _ _ _ _
      | exact laws_toMap.mono _ _ _
      | exact spec_MapMove.mono _ _ _ _ _
      | exact LeO.none _
      | refine LeO.ite ?_ ?_
      | refine LeO.bind ?_ (fun _ => ?_)
set_option maxHeartbeats 8000000 in
set_option maxRecDepth 100000 in
theorem laws_FnExactMapMove.calls (k : Nat) (a0_0 : Int) (A0_1 : Option Addr) (c0_1 : Nat) (l0_1 : List Int) (a1 : Int) (a2 : Int) (r : Bool) (w : World) (hr0_1 : Kd.C (Kd.int .i64) w A0_1 l0_1.length l0_1) (hc0_1 : l0_1.length ≤ c0_1) (h : laws_FnExactMapMove.f k a0_0 l0_1 a1 a2 = some r) :
    Calls Try.prog 11 #[.agg #[.int .i64 a0_0, .slice A0_1 l0_1.length c0_1], .int .i64 a1, .int .i64 a2] w fun e w' => e = .returned (.bool r) ∧ Below w.heap.size w w' := by
  have hu31 := Try.underlying31
  have hu27 := Try.underlying27
  have HR0_1 := Aside0.mk hr0_1
  have HC0_1 := Aside0.mk hc0_1
  clear hr0_1 hc0_1
  have HB := Aside0.mk (Below.refl w.heap.size w)
  have H : ((laws_szMap.f a0_0 l0_1 1048576).bind fun t120002 => (if t120002 < 0 then (some true) else ((laws_toMap.f k a0_0 l0_1).bind fun bt120003 => ((spec_MapMove.f k bt120003.1 bt120003.2 a1 a2).bind fun bt120007 => ((laws_toMap.f k a0_0 l0_1).bind fun bt120013 => ((impl_MapMove.f k bt120013.1 bt120013.2 a1 a2).bind fun bt120018 => ((laws_eqMap.f k bt120018.1 bt120018.2.1 bt120007.1 bt120007.2.1).bind fun t120024 => (if t120024 = true then (laws_FnExactMapMove.j0 k a1 a2 bt120007.2.2 bt120018.2.2 (bt120018.2.2 != bt120007.2.2) a0_0 l0_1 bt120007.1 bt120007.2.1 bt120013.1 bt120013.2 bt120018.1 bt120018.2.1) else (laws_FnExactMapMove.j0 k a1 a2 bt120007.2.2 bt120018.2.2 true a0_0 l0_1 bt120007.1 bt120007.2.1 bt120013.1 bt120013.2 bt120018.1 bt120018.2.1))))))))) = some r := h
  clear h
  replace H := Option.bind_eq_some_iff.mp H
  obtain ⟨t120002, A40, H⟩ := H
  replace H : (if t120002 < 0 then (some true) else ((laws_toMap.f k a0_0 l0_1).bind fun bt120003 => ((spec_MapMove.f k bt120003.1 bt120003.2 a1 a2).bind fun bt120007 => ((laws_toMap.f k a0_0 l0_1).bind fun bt120013 => ((impl_MapMove.f k bt120013.1 bt120013.2 a1 a2).bind fun bt120018 => ((laws_eqMap.f k bt120018.1 bt120018.2.1 bt120007.1 bt120007.2.1).bind fun t120024 => (if t120024 = true then (laws_FnExactMapMove.j0 k a1 a2 bt120007.2.2 bt120018.2.2 (bt120018.2.2 != bt120007.2.2) a0_0 l0_1 bt120007.1 bt120007.2.1 bt120013.1 bt120013.2 bt120018.1 bt120018.2.1) else (laws_FnExactMapMove.j0 k a1 a2 bt120007.2.2 bt120018.2.2 true a0_0 l0_1 bt120007.1 bt120007.2.1 bt120013.1 bt120013.2 bt120018.1 bt120018.2.1)))))))) = some r := H
  have A4 := Aside0.mk A40
  clear A40
  by_cases c5 : t120002 < 0
  · rw [if_pos c5] at H
    have c5b0 : decide (t120002 < 0) = true := decide_eq_true c5
    clear c5
    obtain rfl := Option.some.inj H
    go_enter Try.func11, Try.ntmps11
    go_wp2_with (first | ((with_reducible refine gate_dst (N := 3) rfl ?_); refine box_event ?hg (N := 3) ?hd (cs := #[.int .i64 a0_0, .slice A0_1 l0_1.length c0_1]) (t := 31) ?hr ?_; (case hd => rfl); (case hg => rfl); (case hr => first | (go_simp; done) | (go_simp; rfl)); intro gb120001 hg w6 hbox hb; have n0_ := Aside0.mk (below_step (by repeat (first | (with_reducible first | exact HB.out | apply below_alloc | apply pw_below_drewN | apply below_drew1) | exact HB.out)) hb); have n1_ := Aside0.mk (hbox); have n2_ := Aside0.mk ((by rw [hg]; exact (below_size (by repeat (first | (with_reducible first | exact HB.out | apply below_alloc | apply pw_below_drewN | apply below_drew1) | exact HB.out))) : w.heap.size ≤ gb120001)); have n3_ := Aside0.mk ((by rw [hg]; exact (below_size (by repeat (first | (with_reducible first | exact HB.out | apply below_alloc | apply pw_below_drewN | apply below_drew1) | exact HB.out))) : w.heap.size ≤ gb120001)); clear HB; have HB := n0_; have BK120001 := n1_; have GW120001 := n2_; have GE120001 := n3_; clear n0_ n1_ n2_ n3_; clear hb hbox hg; have hcz7_0 : w6.cell? ⟨gb120001, 0, none⟩ = some (.int .i64 a0_0) := (blk_cell BK120001.out 0).trans rfl; have hcz7_1 : w6.cell? ⟨gb120001, 1, none⟩ = some (.slice A0_1 l0_1.length c0_1) := (blk_cell BK120001.out 1).trans rfl; have hfz7_0 := blk_frozen BK120001.out 0; have hfz7_1 := blk_frozen BK120001.out 1) | ((with_reducible refine gate_callee (f := 22) rfl ?_); refine goesL_ (some 20) rfl rfl Try.func22 (by kernel_rfl) rfl #[.agg #[.int .i64 a0_0, .slice A0_1 l0_1.length c0_1], .int .i64 1048576] rfl (by (try simp only [List.map_toArray, List.map_cons, List.map_nil]); first | done | rfl | (simp only [List.length_drop, List.length_take]; rfl)) ?_; (with_reducible refine (laws_szMap.calls a0_0 _ _ l0_1 1048576 t120002 _ ?side1 ?side2 A4.out).mono ?_); (case side1 => repeat (first | exact (Kd.C_below HR0_1.out HB.out) | (with_reducible refine Kd.C_alloc ?_ _) | (with_reducible refine Kd.C_drewN ?_ _) | (with_reducible refine Kd.C_drew ?_))); (case side2 => exact HC0_1.out); rintro e w8 ⟨rfl, hb⟩; refine ⟨_, rfl, ?_⟩; have n0_ := Aside0.mk (blk_below (g := gb120001) (o := .cells #[.int .i64 a0_0, .slice A0_1 l0_1.length c0_1] 31 (0, 0)) (by (with_reducible repeat (first | refine blk_drewN ?_ _ | refine blk_drew ?_ | refine blk_alloc ?_ _)); exact BK120001.out) hb); have n1_ := Aside0.mk (below_step (by repeat (first | (with_reducible first | exact HB.out | apply below_alloc | apply pw_below_drewN | apply below_drew1 | refine below_set ?_ GE120001.out) | exact HB.out)) hb); clear BK120001; clear HB; have BK120001 := n0_; have HB := n1_; clear n0_ n1_; (try clear hb); (try clear hb2); (try clear hk); (try clear hi)))
    go_ret
    exact ⟨by first | rfl | (simp [errW_none, errW_some] <;> rfl) | (simp [*, errW_none, errW_some] <;> rfl), by repeat (first | (with_reducible first | exact HB.out | apply below_alloc | apply pw_below_drewN | apply below_drew1 | refine below_set ?_ GE120001.out) | exact HB.out)⟩
  · rw [if_neg c5] at H
    have c5b0 : decide (t120002 < 0) = false := decide_eq_false c5
    clear c5
    replace H := Option.bind_eq_some_iff.mp H
    obtain ⟨⟨t120003, t120004⟩, A90, H⟩ := H
    replace H : ((spec_MapMove.f k t120003 t120004 a1 a2).bind fun bt120007 => ((laws_toMap.f k a0_0 l0_1).bind fun bt120013 => ((impl_MapMove.f k bt120013.1 bt120013.2 a1 a2).bind fun bt120018 => ((laws_eqMap.f k bt120018.1 bt120018.2.1 bt120007.1 bt120007.2.1).bind fun t120024 => (if t120024 = true then (laws_FnExactMapMove.j0 k a1 a2 bt120007.2.2 bt120018.2.2 (bt120018.2.2 != bt120007.2.2) a0_0 l0_1 bt120007.1 bt120007.2.1 bt120013.1 bt120013.2 bt120018.1 bt120018.2.1) else (laws_FnExactMapMove.j0 k a1 a2 bt120007.2.2 bt120018.2.2 true a0_0 l0_1 bt120007.1 bt120007.2.1 bt120013.1 bt120013.2 bt120018.1 bt120018.2.1)))))) = some r := H
    have A9 := Aside0.mk A90
    clear A90
    replace H := Option.bind_eq_some_iff.mp H
    obtain ⟨⟨t120007, t120008, t120011⟩, A100, H⟩ := H
    replace H : ((laws_toMap.f k a0_0 l0_1).bind fun bt120013 => ((impl_MapMove.f k bt120013.1 bt120013.2 a1 a2).bind fun bt120018 => ((laws_eqMap.f k bt120018.1 bt120018.2.1 t120007 t120008).bind fun t120024 => (if t120024 = true then (laws_FnExactMapMove.j0 k a1 a2 t120011 bt120018.2.2 (bt120018.2.2 != t120011) a0_0 l0_1 t120007 t120008 bt120013.1 bt120013.2 bt120018.1 bt120018.2.1) else (laws_FnExactMapMove.j0 k a1 a2 t120011 bt120018.2.2 true a0_0 l0_1 t120007 t120008 bt120013.1 bt120013.2 bt120018.1 bt120018.2.1))))) = some r := H
    have A10 := Aside0.mk A100
    clear A100
    replace H := Option.bind_eq_some_iff.mp H
    obtain ⟨⟨t120013, t120014⟩, A110, H⟩ := H
    replace H : ((impl_MapMove.f k t120013 t120014 a1 a2).bind fun bt120018 => ((laws_eqMap.f k bt120018.1 bt120018.2.1 t120007 t120008).bind fun t120024 => (if t120024 = true then (laws_FnExactMapMove.j0 k a1 a2 t120011 bt120018.2.2 (bt120018.2.2 != t120011) a0_0 l0_1 t120007 t120008 t120013 t120014 bt120018.1 bt120018.2.1) else (laws_FnExactMapMove.j0 k a1 a2 t120011 bt120018.2.2 true a0_0 l0_1 t120007 t120008 t120013 t120014 bt120018.1 bt120018.2.1)))) = some r := H
    have A11 := Aside0.mk A110
    clear A110
    replace H := Option.bind_eq_some_iff.mp H
    obtain ⟨⟨t120018, t120019, t120022⟩, A120, H⟩ := H
    replace H : ((laws_eqMap.f k t120018 t120019 t120007 t120008).bind fun t120024 => (if t120024 = true then (laws_FnExactMapMove.j0 k a1 a2 t120011 t120022 (t120022 != t120011) a0_0 l0_1 t120007 t120008 t120013 t120014 t120018 t120019) else (laws_FnExactMapMove.j0 k a1 a2 t120011 t120022 true a0_0 l0_1 t120007 t120008 t120013 t120014 t120018 t120019))) = some r := H
    have A12 := Aside0.mk A120
    clear A120
    have HC13 := Aside0.mk H
    clear H
    go_enter Try.func11, Try.ntmps11
    go_upto_region 8 with (first | ((with_reducible refine gate_dst (N := 3) rfl ?_); refine box_event ?hg (N := 3) ?hd (cs := #[.int .i64 a0_0, .slice A0_1 l0_1.length c0_1]) (t := 31) ?hr ?_; (case hd => rfl); (case hg => rfl); (case hr => first | (go_simp; done) | (go_simp; rfl)); intro gb120001 hg w14 hbox hb; have n0_ := Aside0.mk (below_step (by repeat (first | (with_reducible first | exact HB.out | apply below_alloc | apply pw_below_drewN | apply below_drew1) | exact HB.out)) hb); have n1_ := Aside0.mk (hbox); have n2_ := Aside0.mk ((by rw [hg]; exact (below_size (by repeat (first | (with_reducible first | exact HB.out | apply below_alloc | apply pw_below_drewN | apply below_drew1) | exact HB.out))) : w.heap.size ≤ gb120001)); have n3_ := Aside0.mk ((by rw [hg]; exact (below_size (by repeat (first | (with_reducible first | exact HB.out | apply below_alloc | apply pw_below_drewN | apply below_drew1) | exact HB.out))) : w.heap.size ≤ gb120001)); clear HB; have HB := n0_; have BK120001 := n1_; have GW120001 := n2_; have GE120001 := n3_; clear n0_ n1_ n2_ n3_; clear hb hbox hg; have hcz15_0 : w14.cell? ⟨gb120001, 0, none⟩ = some (.int .i64 a0_0) := (blk_cell BK120001.out 0).trans rfl; have hcz15_1 : w14.cell? ⟨gb120001, 1, none⟩ = some (.slice A0_1 l0_1.length c0_1) := (blk_cell BK120001.out 1).trans rfl; have hfz15_0 := blk_frozen BK120001.out 0; have hfz15_1 := blk_frozen BK120001.out 1) | ((with_reducible refine gate_callee (f := 22) rfl ?_); refine goesL_ (some 20) rfl rfl Try.func22 (by kernel_rfl) rfl #[.agg #[.int .i64 a0_0, .slice A0_1 l0_1.length c0_1], .int .i64 1048576] rfl (by (try simp only [List.map_toArray, List.map_cons, List.map_nil]); first | done | rfl | (simp only [List.length_drop, List.length_take]; rfl)) ?_; (with_reducible refine (laws_szMap.calls a0_0 _ _ l0_1 1048576 t120002 _ ?side1 ?side2 A4.out).mono ?_); (case side1 => repeat (first | exact (Kd.C_below HR0_1.out HB.out) | (with_reducible refine Kd.C_alloc ?_ _) | (with_reducible refine Kd.C_drewN ?_ _) | (with_reducible refine Kd.C_drew ?_))); (case side2 => exact HC0_1.out); rintro e w16 ⟨rfl, hb⟩; refine ⟨_, rfl, ?_⟩; have n0_ := Aside0.mk (blk_below (g := gb120001) (o := .cells #[.int .i64 a0_0, .slice A0_1 l0_1.length c0_1] 31 (0, 0)) (by (with_reducible repeat (first | refine blk_drewN ?_ _ | refine blk_drew ?_ | refine blk_alloc ?_ _)); exact BK120001.out) hb); have n1_ := Aside0.mk (below_step (by repeat (first | (with_reducible first | exact HB.out | apply below_alloc | apply pw_below_drewN | apply below_drew1 | refine below_set ?_ GE120001.out) | exact HB.out)) hb); clear BK120001; clear HB; have BK120001 := n0_; have HB := n1_; clear n0_ n1_; (try clear hb); (try clear hb2); (try clear hk); (try clear hi); have hcz17_0 : w16.cell? ⟨gb120001, 0, none⟩ = some (.int .i64 a0_0) := (blk_cell BK120001.out 0).trans rfl; have hcz17_1 : w16.cell? ⟨gb120001, 1, none⟩ = some (.slice A0_1 l0_1.length c0_1) := (blk_cell BK120001.out 1).trans rfl; have hfz17_0 := blk_frozen BK120001.out 0; have hfz17_1 := blk_frozen BK120001.out 1) | ((with_reducible refine gate_callee (f := 24) rfl ?_); refine goesL_ (some 25) rfl rfl Try.func24 (by kernel_rfl) rfl #[.agg #[.int .i64 a0_0, .slice A0_1 l0_1.length c0_1]] rfl (by (try simp only [List.map_toArray, List.map_cons, List.map_nil]); first | done | rfl | (simp only [List.length_drop, List.length_take]; rfl)) ?_; (with_reducible refine (laws_toMap.calls k a0_0 _ _ l0_1 t120003 t120004 _ ?side1 ?side2 A9.out).mono ?_); (case side1 => repeat (first | exact (Kd.C_below HR0_1.out HB.out) | (with_reducible refine Kd.C_alloc ?_ _) | (with_reducible refine Kd.C_drewN ?_ _) | (with_reducible refine Kd.C_drew ?_))); (case side2 => exact HC0_1.out); rintro e w18 ⟨v120005, rfl, ho0, hb⟩; refine ⟨_, rfl, ?_⟩; have n0_ := Aside0.mk (Kd.R_lower ho0 (below_size (by repeat (first | (with_reducible first | exact HB.out | apply below_alloc | apply pw_below_drewN | apply below_drew1 | refine below_set ?_ GE120001.out) | exact HB.out)))); have n1_ := Aside0.mk (blk_below (g := gb120001) (o := .cells #[.int .i64 a0_0, .slice A0_1 l0_1.length c0_1] 31 (0, 0)) (by (with_reducible repeat (first | refine blk_drewN ?_ _ | refine blk_drew ?_ | refine blk_alloc ?_ _)); exact BK120001.out) hb); have n2_ := Aside0.mk (below_step (by repeat (first | (with_reducible first | exact HB.out | apply below_alloc | apply pw_below_drewN | apply below_drew1 | refine below_set ?_ GE120001.out) | exact HB.out)) hb); clear BK120001; clear HB; have HO120006 := n0_; have BK120001 := n1_; have HB := n2_; clear n0_ n1_ n2_; (try clear hb); (try clear hb2); (try clear hk); (try clear hi); (try clear ho0); obtain ⟨Ao19, co19, eo19⟩ := Kd.R_slice HO120006.out; subst eo19) | ((with_reducible refine gate_callee (f := 29) rfl ?_); refine goesL_ (some 28) rfl rfl Try.func29 (by kernel_rfl) rfl #[.agg #[.int .i64 t120003, .slice Ao19 t120004.length co19], .int .i64 a1, .int .i64 a2] rfl (by (try simp only [List.map_toArray, List.map_cons, List.map_nil]); first | done | rfl | (simp only [List.length_drop, List.length_take]; rfl)) ?_; (with_reducible refine (spec_MapMove.calls k t120003 _ _ t120004 a1 a2 t120007 t120008 t120011 _ ?side1 ?side2 A10.out).mono ?_); (case side1 => repeat (first | exact (Kd.R_reads' HO120006.out).2.2 | (with_reducible refine Kd.C_alloc ?_ _) | (with_reducible refine Kd.C_drewN ?_ _) | (with_reducible refine Kd.C_drew ?_))); (case side2 => exact (Kd.R_reads' HO120006.out).2.1); rintro e w20 ⟨v120009, rfl, ho0, hb⟩; refine ⟨_, rfl, ?_⟩; have n0_ := Aside0.mk (Kd.R_elder' (by (with_reducible repeat (first | apply Kd.R_alloc | apply Kd.R_drewN | apply Kd.R_drew)); exact HO120006.out) (Kd.R_base ho0) hb); have n1_ := Aside0.mk (Kd.R_lower (Kd.R_new' ho0 (Kd.R_lt (by (with_reducible repeat (first | apply Kd.R_alloc | apply Kd.R_drewN | apply Kd.R_drew)); exact HO120006.out))) (below_size (by repeat (first | (with_reducible first | exact HB.out | apply below_alloc | apply pw_below_drewN | apply below_drew1 | refine below_set ?_ GE120001.out) | exact HB.out)))); have n2_ := Aside0.mk (blk_below (g := gb120001) (o := .cells #[.int .i64 a0_0, .slice A0_1 l0_1.length c0_1] 31 (0, 0)) (by (with_reducible repeat (first | refine blk_drewN ?_ _ | refine blk_drew ?_ | refine blk_alloc ?_ _)); exact BK120001.out) hb); have n3_ := Aside0.mk (below_step (by repeat (first | (with_reducible first | exact HB.out | apply below_alloc | apply pw_below_drewN | apply below_drew1 | refine below_set ?_ GE120001.out) | exact HB.out)) hb); clear HO120006; clear BK120001; clear HB; have HO120006 := n0_; have HO120010 := n1_; have BK120001 := n2_; have HB := n3_; clear n0_ n1_ n2_ n3_; (try clear hb); (try clear hb2); (try clear hk); (try clear hi); (try clear ho0)) | ((with_reducible refine gate_dst (N := 8) rfl ?_); refine box_event ?hg (N := 8) ?hd (cs := #[.int .i64 0, .slice none 0 0]) (t := 27) ?hr ?_; (case hd => rfl); (case hg => rfl); (case hr => first | (go_simp; done) | (go_simp; rfl)); intro gb120012 hg w21 hbox hb; have n0_ := Aside0.mk (Kd.R_below (by (with_reducible repeat (first | apply Kd.R_alloc | apply Kd.R_drewN | apply Kd.R_drew)); exact HO120006.out) hb); have n1_ := Aside0.mk (Kd.R_below (by (with_reducible repeat (first | apply Kd.R_alloc | apply Kd.R_drewN | apply Kd.R_drew)); exact HO120010.out) hb); have n2_ := Aside0.mk (blk_below (g := gb120001) (o := .cells #[.int .i64 a0_0, .slice A0_1 l0_1.length c0_1] 31 (0, 0)) (by (with_reducible repeat (first | refine blk_drewN ?_ _ | refine blk_drew ?_ | refine blk_alloc ?_ _)); exact BK120001.out) hb); have n3_ := Aside0.mk (below_step (by repeat (first | (with_reducible first | exact HB.out | apply below_alloc | apply pw_below_drewN | apply below_drew1 | refine below_set ?_ GE120001.out) | exact HB.out)) hb); have n4_ := Aside0.mk (hbox); have n5_ := Aside0.mk ((by rw [hg]; exact (below_size (by repeat (first | (with_reducible first | exact HB.out | apply below_alloc | apply pw_below_drewN | apply below_drew1 | refine below_set ?_ GE120001.out) | exact HB.out))) : w.heap.size ≤ gb120012)); have n6_ := Aside0.mk ((by rw [hg]; exact (below_size (by repeat (first | (with_reducible first | exact HB.out | apply below_alloc | apply pw_below_drewN | apply below_drew1 | refine below_set ?_ GE120001.out) | exact HB.out))) : w.heap.size ≤ gb120012)); have n7_ := Aside0.mk ((by rw [hg]; exact Nat.ne_of_lt (blk_lt (g := gb120001) (o := .cells #[.int .i64 a0_0, .slice A0_1 l0_1.length c0_1] 31 (0, 0)) (by (with_reducible repeat (first | refine blk_drewN ?_ _ | refine blk_drew ?_ | refine blk_alloc ?_ _)); exact BK120001.out)) : gb120001 ≠ gb120012)); have n8_ := Aside0.mk ((by rw [hg]; exact Nat.ne_of_gt (blk_lt (g := gb120001) (o := .cells #[.int .i64 a0_0, .slice A0_1 l0_1.length c0_1] 31 (0, 0)) (by (with_reducible repeat (first | refine blk_drewN ?_ _ | refine blk_drew ?_ | refine blk_alloc ?_ _)); exact BK120001.out)) : gb120012 ≠ gb120001)); clear HO120006; clear HO120010; clear BK120001; clear HB; have HO120006 := n0_; have HO120010 := n1_; have BK120001 := n2_; have HB := n3_; have BK120012 := n4_; have GW120012 := n5_; have GE120012 := n6_; have NB120001_120012 := n7_; have NB120012_120001 := n8_; clear n0_ n1_ n2_ n3_ n4_ n5_ n6_ n7_ n8_; clear hb hbox hg; have hnb22 := NB120012_120001.out; have hnc22 := NB120001_120012.out; have hcz23_0 : w21.cell? ⟨gb120012, 0, none⟩ = some (.int .i64 0) := (blk_cell BK120012.out 0).trans rfl; have hcz23_1 : w21.cell? ⟨gb120012, 1, none⟩ = some (.slice none 0 0) := (blk_cell BK120012.out 1).trans rfl; have hfz23_0 := blk_frozen BK120012.out 0; have hfz23_1 := blk_frozen BK120012.out 1; obtain ⟨Ao24, co24, eo24⟩ := Kd.R_slice HO120010.out; subst eo24; have hcz25_0 : w21.cell? ⟨gb120001, 0, none⟩ = some (.int .i64 a0_0) := (blk_cell BK120001.out 0).trans rfl; have hcz25_1 : w21.cell? ⟨gb120001, 1, none⟩ = some (.slice A0_1 l0_1.length c0_1) := (blk_cell BK120001.out 1).trans rfl; have hfz25_0 := blk_frozen BK120001.out 0; have hfz25_1 := blk_frozen BK120001.out 1) | ((with_reducible refine gate_callee (f := 24) rfl ?_); refine goesL_ (some 32) rfl rfl Try.func24 (by kernel_rfl) rfl #[.agg #[.int .i64 a0_0, .slice A0_1 l0_1.length c0_1]] rfl (by (try simp only [List.map_toArray, List.map_cons, List.map_nil]); first | done | rfl | (simp only [List.length_drop, List.length_take]; rfl)) ?_; (with_reducible refine (laws_toMap.calls k a0_0 _ _ l0_1 t120013 t120014 _ ?side1 ?side2 A11.out).mono ?_); (case side1 => exact Kd.C_below HR0_1.out (by repeat (first | (with_reducible first | exact HB.out | apply below_alloc | apply pw_below_drewN | apply below_drew1 | refine below_set ?_ GE120001.out | refine below_set ?_ GE120012.out) | exact HB.out))); (case side2 => exact HC0_1.out); rintro e w26 ⟨v120015, rfl, ho0, hb⟩; refine ⟨_, rfl, ?_⟩; have n0_ := Aside0.mk (Kd.R_elder' (by (with_reducible repeat (first | apply Kd.R_alloc | apply Kd.R_drewN | apply Kd.R_drew)); exact (Kd.R_mono (Kd.R_far (p := ⟨gb120012, 1, none⟩) (Kd.R_far (p := ⟨gb120012, 0, none⟩) (Kd.R_types HO120006.out BK120012.out (by decide)) (fun _ hk => hk.2) (.int .i64 t120007)) (fun _ hk => hk.2) (.slice Ao24 t120008.length co24)) (fun _ h_ => h_.1))) (Kd.R_base ho0) hb); have n1_ := Aside0.mk (Kd.R_elder' (by (with_reducible repeat (first | apply Kd.R_alloc | apply Kd.R_drewN | apply Kd.R_drew)); exact (Kd.R_mono (Kd.R_far (p := ⟨gb120012, 1, none⟩) (Kd.R_far (p := ⟨gb120012, 0, none⟩) (Kd.R_types HO120010.out BK120012.out (by decide)) (fun _ hk => hk.2) (.int .i64 t120007)) (fun _ hk => hk.2) (.slice Ao24 t120008.length co24)) (fun _ h_ => h_.1))) (Kd.R_base ho0) hb); have n2_ := Aside0.mk (Kd.R_lower (Kd.R_new' (Kd.R_new' ho0 (Kd.R_lt (by (with_reducible repeat (first | apply Kd.R_alloc | apply Kd.R_drewN | apply Kd.R_drew)); exact (Kd.R_mono (Kd.R_far (p := ⟨gb120012, 1, none⟩) (Kd.R_far (p := ⟨gb120012, 0, none⟩) (Kd.R_types HO120006.out BK120012.out (by decide)) (fun _ hk => hk.2) (.int .i64 t120007)) (fun _ hk => hk.2) (.slice Ao24 t120008.length co24)) (fun _ h_ => h_.1))))) (Kd.R_lt (by (with_reducible repeat (first | apply Kd.R_alloc | apply Kd.R_drewN | apply Kd.R_drew)); exact (Kd.R_mono (Kd.R_far (p := ⟨gb120012, 1, none⟩) (Kd.R_far (p := ⟨gb120012, 0, none⟩) (Kd.R_types HO120010.out BK120012.out (by decide)) (fun _ hk => hk.2) (.int .i64 t120007)) (fun _ hk => hk.2) (.slice Ao24 t120008.length co24)) (fun _ h_ => h_.1))))) (below_size (by repeat (first | (with_reducible first | exact HB.out | apply below_alloc | apply pw_below_drewN | apply below_drew1 | refine below_set ?_ GE120001.out | refine below_set ?_ GE120012.out) | exact HB.out)))); have n3_ := Aside0.mk (blk_below (g := gb120001) (o := .cells #[.int .i64 a0_0, .slice A0_1 l0_1.length c0_1] 31 (0, 0)) (by (with_reducible repeat (first | refine blk_drewN ?_ _ | refine blk_drew ?_ | refine blk_alloc ?_ _)); refine blk_far ?_ NB120001_120012.out _; (with_reducible repeat (first | refine blk_drewN ?_ _ | refine blk_drew ?_ | refine blk_alloc ?_ _)); refine blk_far ?_ NB120001_120012.out _; (with_reducible repeat (first | refine blk_drewN ?_ _ | refine blk_drew ?_ | refine blk_alloc ?_ _)); exact BK120001.out) hb); have n4_ := Aside0.mk (blk_below (g := gb120012) (o := .cells #[.int .i64 t120007, .slice Ao24 t120008.length co24] 27 (0, 0)) (by (with_reducible repeat (first | refine blk_drewN ?_ _ | refine blk_drew ?_ | refine blk_alloc ?_ _)); refine blk_put (cs := #[.int .i64 t120007, .slice none 0 0]) ?_ 1 _ rfl; (with_reducible repeat (first | refine blk_drewN ?_ _ | refine blk_drew ?_ | refine blk_alloc ?_ _)); refine blk_put (cs := #[.int .i64 0, .slice none 0 0]) ?_ 0 _ rfl; (with_reducible repeat (first | refine blk_drewN ?_ _ | refine blk_drew ?_ | refine blk_alloc ?_ _)); exact BK120012.out) hb); have n5_ := Aside0.mk (below_step (by repeat (first | (with_reducible first | exact HB.out | apply below_alloc | apply pw_below_drewN | apply below_drew1 | refine below_set ?_ GE120001.out | refine below_set ?_ GE120012.out) | exact HB.out)) hb); clear HO120006; clear HO120010; clear BK120001; clear BK120012; clear HB; have HO120006 := n0_; have HO120010 := n1_; have HO120016 := n2_; have BK120001 := n3_; have BK120012 := n4_; have HB := n5_; clear n0_ n1_ n2_ n3_ n4_ n5_; (try clear hb); (try clear hb2); (try clear hk); (try clear hi); (try clear ho0)) | ((with_reducible refine gate_dst (N := 10) rfl ?_); refine box_event ?hg (N := 10) ?hd (cs := #[.int .i64 0, .slice none 0 0]) (t := 27) ?hr ?_; (case hd => rfl); (case hg => rfl); (case hr => first | (go_simp; done) | (go_simp; rfl)); intro gb120017 hg w27 hbox hb; have n0_ := Aside0.mk (Kd.R_below (by (with_reducible repeat (first | apply Kd.R_alloc | apply Kd.R_drewN | apply Kd.R_drew)); exact HO120006.out) hb); have n1_ := Aside0.mk (Kd.R_below (by (with_reducible repeat (first | apply Kd.R_alloc | apply Kd.R_drewN | apply Kd.R_drew)); exact HO120010.out) hb); have n2_ := Aside0.mk (Kd.R_below (by (with_reducible repeat (first | apply Kd.R_alloc | apply Kd.R_drewN | apply Kd.R_drew)); exact HO120016.out) hb); have n3_ := Aside0.mk (blk_below (g := gb120001) (o := .cells #[.int .i64 a0_0, .slice A0_1 l0_1.length c0_1] 31 (0, 0)) (by (with_reducible repeat (first | refine blk_drewN ?_ _ | refine blk_drew ?_ | refine blk_alloc ?_ _)); exact BK120001.out) hb); have n4_ := Aside0.mk (blk_below (g := gb120012) (o := .cells #[.int .i64 t120007, .slice Ao24 t120008.length co24] 27 (0, 0)) (by (with_reducible repeat (first | refine blk_drewN ?_ _ | refine blk_drew ?_ | refine blk_alloc ?_ _)); exact BK120012.out) hb); have n5_ := Aside0.mk (below_step (by repeat (first | (with_reducible first | exact HB.out | apply below_alloc | apply pw_below_drewN | apply below_drew1 | refine below_set ?_ GE120001.out | refine below_set ?_ GE120012.out) | exact HB.out)) hb); have n6_ := Aside0.mk (hbox); have n7_ := Aside0.mk ((by rw [hg]; exact (below_size (by repeat (first | (with_reducible first | exact HB.out | apply below_alloc | apply pw_below_drewN | apply below_drew1 | refine below_set ?_ GE120001.out | refine below_set ?_ GE120012.out) | exact HB.out))) : w.heap.size ≤ gb120017)); have n8_ := Aside0.mk ((by rw [hg]; exact (below_size (by repeat (first | (with_reducible first | exact HB.out | apply below_alloc | apply pw_below_drewN | apply below_drew1 | refine below_set ?_ GE120001.out | refine below_set ?_ GE120012.out) | exact HB.out))) : w.heap.size ≤ gb120017)); have n9_ := Aside0.mk ((by rw [hg]; exact Nat.ne_of_lt (blk_lt (g := gb120001) (o := .cells #[.int .i64 a0_0, .slice A0_1 l0_1.length c0_1] 31 (0, 0)) (by (with_reducible repeat (first | refine blk_drewN ?_ _ | refine blk_drew ?_ | refine blk_alloc ?_ _)); exact BK120001.out)) : gb120001 ≠ gb120017)); have n10_ := Aside0.mk ((by rw [hg]; exact Nat.ne_of_gt (blk_lt (g := gb120001) (o := .cells #[.int .i64 a0_0, .slice A0_1 l0_1.length c0_1] 31 (0, 0)) (by (with_reducible repeat (first | refine blk_drewN ?_ _ | refine blk_drew ?_ | refine blk_alloc ?_ _)); exact BK120001.out)) : gb120017 ≠ gb120001)); have n11_ := Aside0.mk ((by rw [hg]; exact Nat.ne_of_lt (blk_lt (g := gb120012) (o := .cells #[.int .i64 t120007, .slice Ao24 t120008.length co24] 27 (0, 0)) (by (with_reducible repeat (first | refine blk_drewN ?_ _ | refine blk_drew ?_ | refine blk_alloc ?_ _)); exact BK120012.out)) : gb120012 ≠ gb120017)); have n12_ := Aside0.mk ((by rw [hg]; exact Nat.ne_of_gt (blk_lt (g := gb120012) (o := .cells #[.int .i64 t120007, .slice Ao24 t120008.length co24] 27 (0, 0)) (by (with_reducible repeat (first | refine blk_drewN ?_ _ | refine blk_drew ?_ | refine blk_alloc ?_ _)); exact BK120012.out)) : gb120017 ≠ gb120012)); clear HO120006; clear HO120010; clear HO120016; clear BK120001; clear BK120012; clear HB; have HO120006 := n0_; have HO120010 := n1_; have HO120016 := n2_; have BK120001 := n3_; have BK120012 := n4_; have HB := n5_; have BK120017 := n6_; have GW120017 := n7_; have GE120017 := n8_; have NB120001_120017 := n9_; have NB120017_120001 := n10_; have NB120012_120017 := n11_; have NB120017_120012 := n12_; clear n0_ n1_ n2_ n3_ n4_ n5_ n6_ n7_ n8_ n9_ n10_ n11_ n12_; clear hb hbox hg; have hnb28 := NB120017_120001.out; have hnc28 := NB120001_120017.out; have hnb29 := NB120017_120012.out; have hnc29 := NB120012_120017.out; have hcz30_0 : w27.cell? ⟨gb120017, 0, none⟩ = some (.int .i64 0) := (blk_cell BK120017.out 0).trans rfl; have hcz30_1 : w27.cell? ⟨gb120017, 1, none⟩ = some (.slice none 0 0) := (blk_cell BK120017.out 1).trans rfl; have hfz30_0 := blk_frozen BK120017.out 0; have hfz30_1 := blk_frozen BK120017.out 1; obtain ⟨Ao31, co31, eo31⟩ := Kd.R_slice HO120016.out; subst eo31) | ((with_reducible refine gate_callee (f := 30) rfl ?_); refine goesL_ (some 37) rfl rfl Try.func30 (by kernel_rfl) rfl #[.agg #[.int .i64 t120013, .slice Ao31 t120014.length co31], .int .i64 a1, .int .i64 a2] rfl (by (try simp only [List.map_toArray, List.map_cons, List.map_nil]); first | done | rfl | (simp only [List.length_drop, List.length_take]; rfl)) ?_; (with_reducible refine (impl_MapMove.calls k t120013 _ _ t120014 a1 a2 t120018 t120019 t120022 _ ?side1 ?side2 A12.out).mono ?_); (case side1 => refine (Kd.R_reads' (e := 3) (base := w.heap.size) (ok := fun k_ => ((True ∧ some k_ ≠ (.slice Ao19 t120004.length co19 : Value).ownBlock) ∧ some k_ ≠ (.slice Ao24 t120008.length co24 : Value).ownBlock)) (n := t120014.length) (c := co31) ?_).2.2; exact (by (with_reducible repeat (first | apply Kd.R_alloc | apply Kd.R_drewN | apply Kd.R_drew)); exact (Kd.R_mono (Kd.R_far (p := ⟨gb120017, 1, none⟩) (Kd.R_far (p := ⟨gb120017, 0, none⟩) (Kd.R_types HO120016.out BK120017.out (by decide)) (fun _ hk => hk.2) (.int .i64 t120013)) (fun _ hk => hk.2) (.slice Ao31 t120014.length co31)) (fun _ h_ => h_.1)))); (case side2 => exact (Kd.R_reads' HO120016.out).2.1); rintro e w32 ⟨v120020, rfl, ho0, hb⟩; refine ⟨_, rfl, ?_⟩; have n0_ := Aside0.mk (Kd.R_elder' (by (with_reducible repeat (first | apply Kd.R_alloc | apply Kd.R_drewN | apply Kd.R_drew)); exact (Kd.R_mono (Kd.R_far (p := ⟨gb120017, 1, none⟩) (Kd.R_far (p := ⟨gb120017, 0, none⟩) (Kd.R_types HO120006.out BK120017.out (by decide)) (fun _ hk => hk.2) (.int .i64 t120013)) (fun _ hk => hk.2) (.slice Ao31 t120014.length co31)) (fun _ h_ => h_.1))) (Kd.R_base ho0) hb); have n1_ := Aside0.mk (Kd.R_elder' (by (with_reducible repeat (first | apply Kd.R_alloc | apply Kd.R_drewN | apply Kd.R_drew)); exact (Kd.R_mono (Kd.R_far (p := ⟨gb120017, 1, none⟩) (Kd.R_far (p := ⟨gb120017, 0, none⟩) (Kd.R_types HO120010.out BK120017.out (by decide)) (fun _ hk => hk.2) (.int .i64 t120013)) (fun _ hk => hk.2) (.slice Ao31 t120014.length co31)) (fun _ h_ => h_.1))) (Kd.R_base ho0) hb); have n2_ := Aside0.mk (Kd.R_elder' (by (with_reducible repeat (first | apply Kd.R_alloc | apply Kd.R_drewN | apply Kd.R_drew)); exact (Kd.R_mono (Kd.R_far (p := ⟨gb120017, 1, none⟩) (Kd.R_far (p := ⟨gb120017, 0, none⟩) (Kd.R_types HO120016.out BK120017.out (by decide)) (fun _ hk => hk.2) (.int .i64 t120013)) (fun _ hk => hk.2) (.slice Ao31 t120014.length co31)) (fun _ h_ => h_.1))) (Kd.R_base ho0) hb); have n3_ := Aside0.mk (Kd.R_lower (Kd.R_new' (Kd.R_new' (Kd.R_new' ho0 (Kd.R_lt (by (with_reducible repeat (first | apply Kd.R_alloc | apply Kd.R_drewN | apply Kd.R_drew)); exact (Kd.R_mono (Kd.R_far (p := ⟨gb120017, 1, none⟩) (Kd.R_far (p := ⟨gb120017, 0, none⟩) (Kd.R_types HO120006.out BK120017.out (by decide)) (fun _ hk => hk.2) (.int .i64 t120013)) (fun _ hk => hk.2) (.slice Ao31 t120014.length co31)) (fun _ h_ => h_.1))))) (Kd.R_lt (by (with_reducible repeat (first | apply Kd.R_alloc | apply Kd.R_drewN | apply Kd.R_drew)); exact (Kd.R_mono (Kd.R_far (p := ⟨gb120017, 1, none⟩) (Kd.R_far (p := ⟨gb120017, 0, none⟩) (Kd.R_types HO120010.out BK120017.out (by decide)) (fun _ hk => hk.2) (.int .i64 t120013)) (fun _ hk => hk.2) (.slice Ao31 t120014.length co31)) (fun _ h_ => h_.1))))) (Kd.R_lt (by (with_reducible repeat (first | apply Kd.R_alloc | apply Kd.R_drewN | apply Kd.R_drew)); exact (Kd.R_mono (Kd.R_far (p := ⟨gb120017, 1, none⟩) (Kd.R_far (p := ⟨gb120017, 0, none⟩) (Kd.R_types HO120016.out BK120017.out (by decide)) (fun _ hk => hk.2) (.int .i64 t120013)) (fun _ hk => hk.2) (.slice Ao31 t120014.length co31)) (fun _ h_ => h_.1))))) (below_size (by repeat (first | (with_reducible first | exact HB.out | apply below_alloc | apply pw_below_drewN | apply below_drew1 | refine below_set ?_ GE120001.out | refine below_set ?_ GE120012.out | refine below_set ?_ GE120017.out) | exact HB.out)))); have n4_ := Aside0.mk (blk_below (g := gb120001) (o := .cells #[.int .i64 a0_0, .slice A0_1 l0_1.length c0_1] 31 (0, 0)) (by (with_reducible repeat (first | refine blk_drewN ?_ _ | refine blk_drew ?_ | refine blk_alloc ?_ _)); refine blk_far ?_ NB120001_120017.out _; (with_reducible repeat (first | refine blk_drewN ?_ _ | refine blk_drew ?_ | refine blk_alloc ?_ _)); refine blk_far ?_ NB120001_120017.out _; (with_reducible repeat (first | refine blk_drewN ?_ _ | refine blk_drew ?_ | refine blk_alloc ?_ _)); exact BK120001.out) hb); have n5_ := Aside0.mk (blk_below (g := gb120012) (o := .cells #[.int .i64 t120007, .slice Ao24 t120008.length co24] 27 (0, 0)) (by (with_reducible repeat (first | refine blk_drewN ?_ _ | refine blk_drew ?_ | refine blk_alloc ?_ _)); refine blk_far ?_ NB120012_120017.out _; (with_reducible repeat (first | refine blk_drewN ?_ _ | refine blk_drew ?_ | refine blk_alloc ?_ _)); refine blk_far ?_ NB120012_120017.out _; (with_reducible repeat (first | refine blk_drewN ?_ _ | refine blk_drew ?_ | refine blk_alloc ?_ _)); exact BK120012.out) hb); have n6_ := Aside0.mk (blk_below (g := gb120017) (o := .cells #[.int .i64 t120013, .slice Ao31 t120014.length co31] 27 (0, 0)) (by (with_reducible repeat (first | refine blk_drewN ?_ _ | refine blk_drew ?_ | refine blk_alloc ?_ _)); refine blk_put (cs := #[.int .i64 t120013, .slice none 0 0]) ?_ 1 _ rfl; (with_reducible repeat (first | refine blk_drewN ?_ _ | refine blk_drew ?_ | refine blk_alloc ?_ _)); refine blk_put (cs := #[.int .i64 0, .slice none 0 0]) ?_ 0 _ rfl; (with_reducible repeat (first | refine blk_drewN ?_ _ | refine blk_drew ?_ | refine blk_alloc ?_ _)); exact BK120017.out) hb); have n7_ := Aside0.mk (below_step (by repeat (first | (with_reducible first | exact HB.out | apply below_alloc | apply pw_below_drewN | apply below_drew1 | refine below_set ?_ GE120001.out | refine below_set ?_ GE120012.out | refine below_set ?_ GE120017.out) | exact HB.out)) hb); clear HO120006; clear HO120010; clear HO120016; clear BK120001; clear BK120012; clear BK120017; clear HB; have HO120006 := n0_; have HO120010 := n1_; have HO120016 := n2_; have HO120021 := n3_; have BK120001 := n4_; have BK120012 := n5_; have BK120017 := n6_; have HB := n7_; clear n0_ n1_ n2_ n3_ n4_ n5_ n6_ n7_; (try clear hb); (try clear hb2); (try clear hk); (try clear hi); (try clear ho0)) | ((with_reducible refine gate_dst (N := 11) rfl ?_); refine box_event ?hg (N := 11) ?hd (cs := #[.int .i64 0, .slice none 0 0]) (t := 27) ?hr ?_; (case hd => rfl); (case hg => rfl); (case hr => first | (go_simp; done) | (go_simp; rfl)); intro gb120023 hg w33 hbox hb; have n0_ := Aside0.mk (Kd.R_below (by (with_reducible repeat (first | apply Kd.R_alloc | apply Kd.R_drewN | apply Kd.R_drew)); exact HO120006.out) hb); have n1_ := Aside0.mk (Kd.R_below (by (with_reducible repeat (first | apply Kd.R_alloc | apply Kd.R_drewN | apply Kd.R_drew)); exact HO120010.out) hb); have n2_ := Aside0.mk (Kd.R_below (by (with_reducible repeat (first | apply Kd.R_alloc | apply Kd.R_drewN | apply Kd.R_drew)); exact HO120016.out) hb); have n3_ := Aside0.mk (Kd.R_below (by (with_reducible repeat (first | apply Kd.R_alloc | apply Kd.R_drewN | apply Kd.R_drew)); exact HO120021.out) hb); have n4_ := Aside0.mk (blk_below (g := gb120001) (o := .cells #[.int .i64 a0_0, .slice A0_1 l0_1.length c0_1] 31 (0, 0)) (by (with_reducible repeat (first | refine blk_drewN ?_ _ | refine blk_drew ?_ | refine blk_alloc ?_ _)); exact BK120001.out) hb); have n5_ := Aside0.mk (blk_below (g := gb120012) (o := .cells #[.int .i64 t120007, .slice Ao24 t120008.length co24] 27 (0, 0)) (by (with_reducible repeat (first | refine blk_drewN ?_ _ | refine blk_drew ?_ | refine blk_alloc ?_ _)); exact BK120012.out) hb); have n6_ := Aside0.mk (blk_below (g := gb120017) (o := .cells #[.int .i64 t120013, .slice Ao31 t120014.length co31] 27 (0, 0)) (by (with_reducible repeat (first | refine blk_drewN ?_ _ | refine blk_drew ?_ | refine blk_alloc ?_ _)); exact BK120017.out) hb); have n7_ := Aside0.mk (below_step (by repeat (first | (with_reducible first | exact HB.out | apply below_alloc | apply pw_below_drewN | apply below_drew1 | refine below_set ?_ GE120001.out | refine below_set ?_ GE120012.out | refine below_set ?_ GE120017.out) | exact HB.out)) hb); have n8_ := Aside0.mk (hbox); have n9_ := Aside0.mk ((by rw [hg]; exact (below_size (by repeat (first | (with_reducible first | exact HB.out | apply below_alloc | apply pw_below_drewN | apply below_drew1 | refine below_set ?_ GE120001.out | refine below_set ?_ GE120012.out | refine below_set ?_ GE120017.out) | exact HB.out))) : w.heap.size ≤ gb120023)); have n10_ := Aside0.mk ((by rw [hg]; exact (below_size (by repeat (first | (with_reducible first | exact HB.out | apply below_alloc | apply pw_below_drewN | apply below_drew1 | refine below_set ?_ GE120001.out | refine below_set ?_ GE120012.out | refine below_set ?_ GE120017.out) | exact HB.out))) : w.heap.size ≤ gb120023)); have n11_ := Aside0.mk ((by rw [hg]; exact Nat.ne_of_lt (blk_lt (g := gb120001) (o := .cells #[.int .i64 a0_0, .slice A0_1 l0_1.length c0_1] 31 (0, 0)) (by (with_reducible repeat (first | refine blk_drewN ?_ _ | refine blk_drew ?_ | refine blk_alloc ?_ _)); exact BK120001.out)) : gb120001 ≠ gb120023)); have n12_ := Aside0.mk ((by rw [hg]; exact Nat.ne_of_gt (blk_lt (g := gb120001) (o := .cells #[.int .i64 a0_0, .slice A0_1 l0_1.length c0_1] 31 (0, 0)) (by (with_reducible repeat (first | refine blk_drewN ?_ _ | refine blk_drew ?_ | refine blk_alloc ?_ _)); exact BK120001.out)) : gb120023 ≠ gb120001)); have n13_ := Aside0.mk ((by rw [hg]; exact Nat.ne_of_lt (blk_lt (g := gb120012) (o := .cells #[.int .i64 t120007, .slice Ao24 t120008.length co24] 27 (0, 0)) (by (with_reducible repeat (first | refine blk_drewN ?_ _ | refine blk_drew ?_ | refine blk_alloc ?_ _)); exact BK120012.out)) : gb120012 ≠ gb120023)); have n14_ := Aside0.mk ((by rw [hg]; exact Nat.ne_of_gt (blk_lt (g := gb120012) (o := .cells #[.int .i64 t120007, .slice Ao24 t120008.length co24] 27 (0, 0)) (by (with_reducible repeat (first | refine blk_drewN ?_ _ | refine blk_drew ?_ | refine blk_alloc ?_ _)); exact BK120012.out)) : gb120023 ≠ gb120012)); have n15_ := Aside0.mk ((by rw [hg]; exact Nat.ne_of_lt (blk_lt (g := gb120017) (o := .cells #[.int .i64 t120013, .slice Ao31 t120014.length co31] 27 (0, 0)) (by (with_reducible repeat (first | refine blk_drewN ?_ _ | refine blk_drew ?_ | refine blk_alloc ?_ _)); exact BK120017.out)) : gb120017 ≠ gb120023)); have n16_ := Aside0.mk ((by rw [hg]; exact Nat.ne_of_gt (blk_lt (g := gb120017) (o := .cells #[.int .i64 t120013, .slice Ao31 t120014.length co31] 27 (0, 0)) (by (with_reducible repeat (first | refine blk_drewN ?_ _ | refine blk_drew ?_ | refine blk_alloc ?_ _)); exact BK120017.out)) : gb120023 ≠ gb120017)); clear HO120006; clear HO120010; clear HO120016; clear HO120021; clear BK120001; clear BK120012; clear BK120017; clear HB; have HO120006 := n0_; have HO120010 := n1_; have HO120016 := n2_; have HO120021 := n3_; have BK120001 := n4_; have BK120012 := n5_; have BK120017 := n6_; have HB := n7_; have BK120023 := n8_; have GW120023 := n9_; have GE120023 := n10_; have NB120001_120023 := n11_; have NB120023_120001 := n12_; have NB120012_120023 := n13_; have NB120023_120012 := n14_; have NB120017_120023 := n15_; have NB120023_120017 := n16_; clear n0_ n1_ n2_ n3_ n4_ n5_ n6_ n7_ n8_ n9_ n10_ n11_ n12_ n13_ n14_ n15_ n16_; clear hb hbox hg; have hnb34 := NB120023_120001.out; have hnc34 := NB120001_120023.out; have hnb35 := NB120023_120012.out; have hnc35 := NB120012_120023.out; have hnb36 := NB120023_120017.out; have hnc36 := NB120017_120023.out; have hcz37_0 : w33.cell? ⟨gb120023, 0, none⟩ = some (.int .i64 0) := (blk_cell BK120023.out 0).trans rfl; have hcz37_1 : w33.cell? ⟨gb120023, 1, none⟩ = some (.slice none 0 0) := (blk_cell BK120023.out 1).trans rfl; have hfz37_0 := blk_frozen BK120023.out 0; have hfz37_1 := blk_frozen BK120023.out 1; obtain ⟨Ao38, co38, eo38⟩ := Kd.R_slice HO120021.out; subst eo38))
    (try simp only [Act.put, List.setIfInBounds_toArray, List.set_cons_zero, List.set_cons_succ])
    go_cut [48] (fun v48 wc => ∃ (kq : Nat) (x48_12 : Bool), v48 = .bool x48_12 ∧ Aside0 (laws_FnExactMapMove.j0 kq a1 a2 t120011 t120022 x48_12 a0_0 l0_1 t120007 t120008 t120013 t120014 t120018 t120019 = some r) ∧ Aside0 (kq ≤ k) ∧ Aside0 (Kd.R (Kd.int .i64) 3 wc w.heap.size (fun k_ => some k_ ≠ ((.slice Ao31 t120014.length co31) : Value).ownBlock ∧ some k_ ≠ ((.slice Ao38 t120019.length co38) : Value).ownBlock) (.slice Ao24 t120008.length co24) t120008) ∧ Aside0 (Kd.R (Kd.int .i64) 3 wc w.heap.size (fun k_ => some k_ ≠ ((.slice Ao24 t120008.length co24) : Value).ownBlock ∧ some k_ ≠ ((.slice Ao38 t120019.length co38) : Value).ownBlock) (.slice Ao31 t120014.length co31) t120014) ∧ Aside0 (Kd.R (Kd.int .i64) 3 wc w.heap.size (fun k_ => some k_ ≠ ((.slice Ao24 t120008.length co24) : Value).ownBlock ∧ some k_ ≠ ((.slice Ao31 t120014.length co31) : Value).ownBlock) (.slice Ao38 t120019.length co38) t120019) ∧ Aside0 (wc.heap[gb120001]? = some (.cells #[.int .i64 a0_0, (.slice A0_1 l0_1.length c0_1)] 31 (0, 0))) ∧ Aside0 (wc.heap[gb120012]? = some (.cells #[.int .i64 t120007, (.slice Ao24 t120008.length co24)] 27 (0, 0))) ∧ Aside0 (wc.heap[gb120017]? = some (.cells #[.int .i64 t120013, (.slice Ao31 t120014.length co31)] 27 (0, 0))) ∧ Aside0 (wc.heap[gb120023]? = some (.cells #[.int .i64 t120018, (.slice Ao38 t120019.length co38)] 27 (0, 0))) ∧ Aside0 (Below w.heap.size w wc))
    case first =>
      have H := HC13.out
      clear HC13
      replace H := Option.bind_eq_some_iff.mp H
      obtain ⟨t120024, A390, H⟩ := H
      replace H : (if t120024 = true then (laws_FnExactMapMove.j0 k a1 a2 t120011 t120022 (t120022 != t120011) a0_0 l0_1 t120007 t120008 t120013 t120014 t120018 t120019) else (laws_FnExactMapMove.j0 k a1 a2 t120011 t120022 true a0_0 l0_1 t120007 t120008 t120013 t120014 t120018 t120019)) = some r := H
      have A39 := Aside0.mk A390
      clear A390
      by_cases c40 : t120024 = true
      · subst c40
        have H1 : (laws_FnExactMapMove.j0 k a1 a2 t120011 t120022 (t120022 != t120011) a0_0 l0_1 t120007 t120008 t120013 t120014 t120018 t120019) = some r := by rw [if_pos rfl] at H; exact H
        clear H
        have H := H1
        clear H1
        have H' := Aside0.mk H
        clear H
        have hnb41 := NB120023_120001.out
        have hnc41 := NB120001_120023.out
        have hnb42 := NB120023_120012.out
        have hnc42 := NB120012_120023.out
        have hnb43 := NB120023_120017.out
        have hnc43 := NB120017_120023.out
        have hcz44_0 : w33.cell? ⟨gb120023, 0, none⟩ = some (.int .i64 0) := (blk_cell BK120023.out 0).trans rfl
        have hcz44_1 : w33.cell? ⟨gb120023, 1, none⟩ = some (.slice none 0 0) := (blk_cell BK120023.out 1).trans rfl
        have hfz44_0 := blk_frozen BK120023.out 0
        have hfz44_1 := blk_frozen BK120023.out 1
        have hnb45 := NB120012_120001.out
        have hnc45 := NB120001_120012.out
        have hnb46 := NB120012_120017.out
        have hnc46 := NB120017_120012.out
        have hcz47_0 : w33.cell? ⟨gb120012, 0, none⟩ = some (.int .i64 t120007) := (blk_cell BK120012.out 0).trans rfl
        have hcz47_1 : w33.cell? ⟨gb120012, 1, none⟩ = some (.slice Ao24 t120008.length co24) := (blk_cell BK120012.out 1).trans rfl
        have hfz47_0 := blk_frozen BK120012.out 0
        have hfz47_1 := blk_frozen BK120012.out 1
        go_wp2_with (first | ((with_reducible refine gate_callee (f := 19) rfl ?_); refine goesL_ (some 42) rfl rfl Try.func19 (by kernel_rfl) rfl #[.agg #[.int .i64 t120018, .slice Ao38 t120019.length co38], .agg #[.int .i64 t120007, .slice Ao24 t120008.length co24]] rfl (by (try simp only [List.map_toArray, List.map_cons, List.map_nil]); first | done | rfl | (simp only [List.length_drop, List.length_take]; rfl)) ?_; (with_reducible refine (laws_eqMap.calls k t120018 _ _ t120019 t120007 _ _ t120008 true _ ?side1 ?side2 ?side3 ?side4 A39.out).mono ?_); (case side1 => refine (Kd.R_reads' (e := 3) (base := w.heap.size) (ok := fun k_ => (((True ∧ some k_ ≠ (.slice Ao19 t120004.length co19 : Value).ownBlock) ∧ some k_ ≠ (.slice Ao24 t120008.length co24 : Value).ownBlock) ∧ some k_ ≠ (.slice Ao31 t120014.length co31 : Value).ownBlock)) (n := t120019.length) (c := co38) ?_).2.2; exact (by (with_reducible repeat (first | apply Kd.R_alloc | apply Kd.R_drewN | apply Kd.R_drew)); exact (Kd.R_mono (Kd.R_far (p := ⟨gb120023, 1, none⟩) (Kd.R_far (p := ⟨gb120023, 0, none⟩) (Kd.R_types HO120021.out BK120023.out (by decide)) (fun _ hk => hk.2) (.int .i64 t120018)) (fun _ hk => hk.2) (.slice Ao38 t120019.length co38)) (fun _ h_ => h_.1)))); (case side2 => exact (Kd.R_reads' HO120021.out).2.1); (case side3 => refine (Kd.R_reads' (e := 3) (base := w.heap.size) (ok := fun k_ => (((True ∧ some k_ ≠ (.slice Ao19 t120004.length co19 : Value).ownBlock) ∧ some k_ ≠ (.slice Ao31 t120014.length co31 : Value).ownBlock) ∧ some k_ ≠ (.slice Ao38 t120019.length co38 : Value).ownBlock)) (n := t120008.length) (c := co24) ?_).2.2; exact (by (with_reducible repeat (first | apply Kd.R_alloc | apply Kd.R_drewN | apply Kd.R_drew)); exact (Kd.R_mono (Kd.R_far (p := ⟨gb120023, 1, none⟩) (Kd.R_far (p := ⟨gb120023, 0, none⟩) (Kd.R_types HO120010.out BK120023.out (by decide)) (fun _ hk => hk.2) (.int .i64 t120018)) (fun _ hk => hk.2) (.slice Ao38 t120019.length co38)) (fun _ h_ => h_.1)))); (case side4 => exact (Kd.R_reads' HO120010.out).2.1); rintro e w48 ⟨rfl, hb⟩; refine ⟨_, rfl, ?_⟩; have n0_ := Aside0.mk (Kd.R_below (by (with_reducible repeat (first | apply Kd.R_alloc | apply Kd.R_drewN | apply Kd.R_drew)); exact (Kd.R_mono (Kd.R_far (p := ⟨gb120023, 1, none⟩) (Kd.R_far (p := ⟨gb120023, 0, none⟩) (Kd.R_types HO120006.out BK120023.out (by decide)) (fun _ hk => hk.2) (.int .i64 t120018)) (fun _ hk => hk.2) (.slice Ao38 t120019.length co38)) (fun _ h_ => h_.1))) hb); have n1_ := Aside0.mk (Kd.R_below (by (with_reducible repeat (first | apply Kd.R_alloc | apply Kd.R_drewN | apply Kd.R_drew)); exact (Kd.R_mono (Kd.R_far (p := ⟨gb120023, 1, none⟩) (Kd.R_far (p := ⟨gb120023, 0, none⟩) (Kd.R_types HO120010.out BK120023.out (by decide)) (fun _ hk => hk.2) (.int .i64 t120018)) (fun _ hk => hk.2) (.slice Ao38 t120019.length co38)) (fun _ h_ => h_.1))) hb); have n2_ := Aside0.mk (Kd.R_below (by (with_reducible repeat (first | apply Kd.R_alloc | apply Kd.R_drewN | apply Kd.R_drew)); exact (Kd.R_mono (Kd.R_far (p := ⟨gb120023, 1, none⟩) (Kd.R_far (p := ⟨gb120023, 0, none⟩) (Kd.R_types HO120016.out BK120023.out (by decide)) (fun _ hk => hk.2) (.int .i64 t120018)) (fun _ hk => hk.2) (.slice Ao38 t120019.length co38)) (fun _ h_ => h_.1))) hb); have n3_ := Aside0.mk (Kd.R_below (by (with_reducible repeat (first | apply Kd.R_alloc | apply Kd.R_drewN | apply Kd.R_drew)); exact (Kd.R_mono (Kd.R_far (p := ⟨gb120023, 1, none⟩) (Kd.R_far (p := ⟨gb120023, 0, none⟩) (Kd.R_types HO120021.out BK120023.out (by decide)) (fun _ hk => hk.2) (.int .i64 t120018)) (fun _ hk => hk.2) (.slice Ao38 t120019.length co38)) (fun _ h_ => h_.1))) hb); have n4_ := Aside0.mk (blk_below (g := gb120001) (o := .cells #[.int .i64 a0_0, .slice A0_1 l0_1.length c0_1] 31 (0, 0)) (by (with_reducible repeat (first | refine blk_drewN ?_ _ | refine blk_drew ?_ | refine blk_alloc ?_ _)); refine blk_far ?_ NB120001_120023.out _; (with_reducible repeat (first | refine blk_drewN ?_ _ | refine blk_drew ?_ | refine blk_alloc ?_ _)); refine blk_far ?_ NB120001_120023.out _; (with_reducible repeat (first | refine blk_drewN ?_ _ | refine blk_drew ?_ | refine blk_alloc ?_ _)); exact BK120001.out) hb); have n5_ := Aside0.mk (blk_below (g := gb120012) (o := .cells #[.int .i64 t120007, .slice Ao24 t120008.length co24] 27 (0, 0)) (by (with_reducible repeat (first | refine blk_drewN ?_ _ | refine blk_drew ?_ | refine blk_alloc ?_ _)); refine blk_far ?_ NB120012_120023.out _; (with_reducible repeat (first | refine blk_drewN ?_ _ | refine blk_drew ?_ | refine blk_alloc ?_ _)); refine blk_far ?_ NB120012_120023.out _; (with_reducible repeat (first | refine blk_drewN ?_ _ | refine blk_drew ?_ | refine blk_alloc ?_ _)); exact BK120012.out) hb); have n6_ := Aside0.mk (blk_below (g := gb120017) (o := .cells #[.int .i64 t120013, .slice Ao31 t120014.length co31] 27 (0, 0)) (by (with_reducible repeat (first | refine blk_drewN ?_ _ | refine blk_drew ?_ | refine blk_alloc ?_ _)); refine blk_far ?_ NB120017_120023.out _; (with_reducible repeat (first | refine blk_drewN ?_ _ | refine blk_drew ?_ | refine blk_alloc ?_ _)); refine blk_far ?_ NB120017_120023.out _; (with_reducible repeat (first | refine blk_drewN ?_ _ | refine blk_drew ?_ | refine blk_alloc ?_ _)); exact BK120017.out) hb); have n7_ := Aside0.mk (blk_below (g := gb120023) (o := .cells #[.int .i64 t120018, .slice Ao38 t120019.length co38] 27 (0, 0)) (by (with_reducible repeat (first | refine blk_drewN ?_ _ | refine blk_drew ?_ | refine blk_alloc ?_ _)); refine blk_put (cs := #[.int .i64 t120018, .slice none 0 0]) ?_ 1 _ rfl; (with_reducible repeat (first | refine blk_drewN ?_ _ | refine blk_drew ?_ | refine blk_alloc ?_ _)); refine blk_put (cs := #[.int .i64 0, .slice none 0 0]) ?_ 0 _ rfl; (with_reducible repeat (first | refine blk_drewN ?_ _ | refine blk_drew ?_ | refine blk_alloc ?_ _)); exact BK120023.out) hb); have n8_ := Aside0.mk (below_step (by repeat (first | (with_reducible first | exact HB.out | apply below_alloc | apply pw_below_drewN | apply below_drew1 | refine below_set ?_ GE120001.out | refine below_set ?_ GE120012.out | refine below_set ?_ GE120017.out | refine below_set ?_ GE120023.out) | exact HB.out)) hb); clear HO120006; clear HO120010; clear HO120016; clear HO120021; clear BK120001; clear BK120012; clear BK120017; clear BK120023; clear HB; have HO120006 := n0_; have HO120010 := n1_; have HO120016 := n2_; have HO120021 := n3_; have BK120001 := n4_; have BK120012 := n5_; have BK120017 := n6_; have BK120023 := n7_; have HB := n8_; clear n0_ n1_ n2_ n3_ n4_ n5_ n6_ n7_ n8_; (try clear hb); (try clear hb2); (try clear hk); (try clear hi)))
        go_meet
        case rel => exact ⟨_, ((t120022 != t120011)), (by first | rfl | (simp; done) | (simp [*]; done)), H', ⟨by first | omega | exact Nat.le_refl _⟩, ⟨by (with_reducible repeat (first | apply Kd.R_alloc | apply Kd.R_drewN | apply Kd.R_drew)); exact Kd.R_mono HO120010.out (fun _ hk => ⟨hk.1.2, hk.2⟩)⟩, ⟨by (with_reducible repeat (first | apply Kd.R_alloc | apply Kd.R_drewN | apply Kd.R_drew)); exact Kd.R_mono HO120016.out (fun _ hk => ⟨hk.1.2, hk.2⟩)⟩, ⟨by (with_reducible repeat (first | apply Kd.R_alloc | apply Kd.R_drewN | apply Kd.R_drew)); exact Kd.R_mono HO120021.out (fun _ hk => ⟨hk.1.2, hk.2⟩)⟩, ⟨by (with_reducible repeat (first | refine blk_drewN ?_ _ | refine blk_drew ?_ | refine blk_alloc ?_ _)); exact BK120001.out⟩, ⟨by (with_reducible repeat (first | refine blk_drewN ?_ _ | refine blk_drew ?_ | refine blk_alloc ?_ _)); exact BK120012.out⟩, ⟨by (with_reducible repeat (first | refine blk_drewN ?_ _ | refine blk_drew ?_ | refine blk_alloc ?_ _)); exact BK120017.out⟩, ⟨by (with_reducible repeat (first | refine blk_drewN ?_ _ | refine blk_drew ?_ | refine blk_alloc ?_ _)); exact BK120023.out⟩, ⟨by repeat (first | (with_reducible first | exact HB.out | apply below_alloc | apply pw_below_drewN | apply below_drew1 | refine below_set ?_ GE120001.out | refine below_set ?_ GE120012.out | refine below_set ?_ GE120017.out | refine below_set ?_ GE120023.out) | exact HB.out)⟩⟩
      · replace c40 := Bool.eq_false_iff.mpr c40
        subst c40
        have H1 : (laws_FnExactMapMove.j0 k a1 a2 t120011 t120022 true a0_0 l0_1 t120007 t120008 t120013 t120014 t120018 t120019) = some r := by rw [if_neg (show ¬ (false = true) by decide)] at H; exact H
        clear H
        have H := H1
        clear H1
        have H' := Aside0.mk H
        clear H
        have hnb49 := NB120023_120001.out
        have hnc49 := NB120001_120023.out
        have hnb50 := NB120023_120012.out
        have hnc50 := NB120012_120023.out
        have hnb51 := NB120023_120017.out
        have hnc51 := NB120017_120023.out
        have hcz52_0 : w33.cell? ⟨gb120023, 0, none⟩ = some (.int .i64 0) := (blk_cell BK120023.out 0).trans rfl
        have hcz52_1 : w33.cell? ⟨gb120023, 1, none⟩ = some (.slice none 0 0) := (blk_cell BK120023.out 1).trans rfl
        have hfz52_0 := blk_frozen BK120023.out 0
        have hfz52_1 := blk_frozen BK120023.out 1
        have hnb53 := NB120012_120001.out
        have hnc53 := NB120001_120012.out
        have hnb54 := NB120012_120017.out
        have hnc54 := NB120017_120012.out
        have hcz55_0 : w33.cell? ⟨gb120012, 0, none⟩ = some (.int .i64 t120007) := (blk_cell BK120012.out 0).trans rfl
        have hcz55_1 : w33.cell? ⟨gb120012, 1, none⟩ = some (.slice Ao24 t120008.length co24) := (blk_cell BK120012.out 1).trans rfl
        have hfz55_0 := blk_frozen BK120012.out 0
        have hfz55_1 := blk_frozen BK120012.out 1
        go_wp2_with (first | ((with_reducible refine gate_callee (f := 19) rfl ?_); refine goesL_ (some 42) rfl rfl Try.func19 (by kernel_rfl) rfl #[.agg #[.int .i64 t120018, .slice Ao38 t120019.length co38], .agg #[.int .i64 t120007, .slice Ao24 t120008.length co24]] rfl (by (try simp only [List.map_toArray, List.map_cons, List.map_nil]); first | done | rfl | (simp only [List.length_drop, List.length_take]; rfl)) ?_; (with_reducible refine (laws_eqMap.calls k t120018 _ _ t120019 t120007 _ _ t120008 false _ ?side1 ?side2 ?side3 ?side4 A39.out).mono ?_); (case side1 => refine (Kd.R_reads' (e := 3) (base := w.heap.size) (ok := fun k_ => (((True ∧ some k_ ≠ (.slice Ao19 t120004.length co19 : Value).ownBlock) ∧ some k_ ≠ (.slice Ao24 t120008.length co24 : Value).ownBlock) ∧ some k_ ≠ (.slice Ao31 t120014.length co31 : Value).ownBlock)) (n := t120019.length) (c := co38) ?_).2.2; exact (by (with_reducible repeat (first | apply Kd.R_alloc | apply Kd.R_drewN | apply Kd.R_drew)); exact (Kd.R_mono (Kd.R_far (p := ⟨gb120023, 1, none⟩) (Kd.R_far (p := ⟨gb120023, 0, none⟩) (Kd.R_types HO120021.out BK120023.out (by decide)) (fun _ hk => hk.2) (.int .i64 t120018)) (fun _ hk => hk.2) (.slice Ao38 t120019.length co38)) (fun _ h_ => h_.1)))); (case side2 => exact (Kd.R_reads' HO120021.out).2.1); (case side3 => refine (Kd.R_reads' (e := 3) (base := w.heap.size) (ok := fun k_ => (((True ∧ some k_ ≠ (.slice Ao19 t120004.length co19 : Value).ownBlock) ∧ some k_ ≠ (.slice Ao31 t120014.length co31 : Value).ownBlock) ∧ some k_ ≠ (.slice Ao38 t120019.length co38 : Value).ownBlock)) (n := t120008.length) (c := co24) ?_).2.2; exact (by (with_reducible repeat (first | apply Kd.R_alloc | apply Kd.R_drewN | apply Kd.R_drew)); exact (Kd.R_mono (Kd.R_far (p := ⟨gb120023, 1, none⟩) (Kd.R_far (p := ⟨gb120023, 0, none⟩) (Kd.R_types HO120010.out BK120023.out (by decide)) (fun _ hk => hk.2) (.int .i64 t120018)) (fun _ hk => hk.2) (.slice Ao38 t120019.length co38)) (fun _ h_ => h_.1)))); (case side4 => exact (Kd.R_reads' HO120010.out).2.1); rintro e w56 ⟨rfl, hb⟩; refine ⟨_, rfl, ?_⟩; have n0_ := Aside0.mk (Kd.R_below (by (with_reducible repeat (first | apply Kd.R_alloc | apply Kd.R_drewN | apply Kd.R_drew)); exact (Kd.R_mono (Kd.R_far (p := ⟨gb120023, 1, none⟩) (Kd.R_far (p := ⟨gb120023, 0, none⟩) (Kd.R_types HO120006.out BK120023.out (by decide)) (fun _ hk => hk.2) (.int .i64 t120018)) (fun _ hk => hk.2) (.slice Ao38 t120019.length co38)) (fun _ h_ => h_.1))) hb); have n1_ := Aside0.mk (Kd.R_below (by (with_reducible repeat (first | apply Kd.R_alloc | apply Kd.R_drewN | apply Kd.R_drew)); exact (Kd.R_mono (Kd.R_far (p := ⟨gb120023, 1, none⟩) (Kd.R_far (p := ⟨gb120023, 0, none⟩) (Kd.R_types HO120010.out BK120023.out (by decide)) (fun _ hk => hk.2) (.int .i64 t120018)) (fun _ hk => hk.2) (.slice Ao38 t120019.length co38)) (fun _ h_ => h_.1))) hb); have n2_ := Aside0.mk (Kd.R_below (by (with_reducible repeat (first | apply Kd.R_alloc | apply Kd.R_drewN | apply Kd.R_drew)); exact (Kd.R_mono (Kd.R_far (p := ⟨gb120023, 1, none⟩) (Kd.R_far (p := ⟨gb120023, 0, none⟩) (Kd.R_types HO120016.out BK120023.out (by decide)) (fun _ hk => hk.2) (.int .i64 t120018)) (fun _ hk => hk.2) (.slice Ao38 t120019.length co38)) (fun _ h_ => h_.1))) hb); have n3_ := Aside0.mk (Kd.R_below (by (with_reducible repeat (first | apply Kd.R_alloc | apply Kd.R_drewN | apply Kd.R_drew)); exact (Kd.R_mono (Kd.R_far (p := ⟨gb120023, 1, none⟩) (Kd.R_far (p := ⟨gb120023, 0, none⟩) (Kd.R_types HO120021.out BK120023.out (by decide)) (fun _ hk => hk.2) (.int .i64 t120018)) (fun _ hk => hk.2) (.slice Ao38 t120019.length co38)) (fun _ h_ => h_.1))) hb); have n4_ := Aside0.mk (blk_below (g := gb120001) (o := .cells #[.int .i64 a0_0, .slice A0_1 l0_1.length c0_1] 31 (0, 0)) (by (with_reducible repeat (first | refine blk_drewN ?_ _ | refine blk_drew ?_ | refine blk_alloc ?_ _)); refine blk_far ?_ NB120001_120023.out _; (with_reducible repeat (first | refine blk_drewN ?_ _ | refine blk_drew ?_ | refine blk_alloc ?_ _)); refine blk_far ?_ NB120001_120023.out _; (with_reducible repeat (first | refine blk_drewN ?_ _ | refine blk_drew ?_ | refine blk_alloc ?_ _)); exact BK120001.out) hb); have n5_ := Aside0.mk (blk_below (g := gb120012) (o := .cells #[.int .i64 t120007, .slice Ao24 t120008.length co24] 27 (0, 0)) (by (with_reducible repeat (first | refine blk_drewN ?_ _ | refine blk_drew ?_ | refine blk_alloc ?_ _)); refine blk_far ?_ NB120012_120023.out _; (with_reducible repeat (first | refine blk_drewN ?_ _ | refine blk_drew ?_ | refine blk_alloc ?_ _)); refine blk_far ?_ NB120012_120023.out _; (with_reducible repeat (first | refine blk_drewN ?_ _ | refine blk_drew ?_ | refine blk_alloc ?_ _)); exact BK120012.out) hb); have n6_ := Aside0.mk (blk_below (g := gb120017) (o := .cells #[.int .i64 t120013, .slice Ao31 t120014.length co31] 27 (0, 0)) (by (with_reducible repeat (first | refine blk_drewN ?_ _ | refine blk_drew ?_ | refine blk_alloc ?_ _)); refine blk_far ?_ NB120017_120023.out _; (with_reducible repeat (first | refine blk_drewN ?_ _ | refine blk_drew ?_ | refine blk_alloc ?_ _)); refine blk_far ?_ NB120017_120023.out _; (with_reducible repeat (first | refine blk_drewN ?_ _ | refine blk_drew ?_ | refine blk_alloc ?_ _)); exact BK120017.out) hb); have n7_ := Aside0.mk (blk_below (g := gb120023) (o := .cells #[.int .i64 t120018, .slice Ao38 t120019.length co38] 27 (0, 0)) (by (with_reducible repeat (first | refine blk_drewN ?_ _ | refine blk_drew ?_ | refine blk_alloc ?_ _)); refine blk_put (cs := #[.int .i64 t120018, .slice none 0 0]) ?_ 1 _ rfl; (with_reducible repeat (first | refine blk_drewN ?_ _ | refine blk_drew ?_ | refine blk_alloc ?_ _)); refine blk_put (cs := #[.int .i64 0, .slice none 0 0]) ?_ 0 _ rfl; (with_reducible repeat (first | refine blk_drewN ?_ _ | refine blk_drew ?_ | refine blk_alloc ?_ _)); exact BK120023.out) hb); have n8_ := Aside0.mk (below_step (by repeat (first | (with_reducible first | exact HB.out | apply below_alloc | apply pw_below_drewN | apply below_drew1 | refine below_set ?_ GE120001.out | refine below_set ?_ GE120012.out | refine below_set ?_ GE120017.out | refine below_set ?_ GE120023.out) | exact HB.out)) hb); clear HO120006; clear HO120010; clear HO120016; clear HO120021; clear BK120001; clear BK120012; clear BK120017; clear BK120023; clear HB; have HO120006 := n0_; have HO120010 := n1_; have HO120016 := n2_; have HO120021 := n3_; have BK120001 := n4_; have BK120012 := n5_; have BK120017 := n6_; have BK120023 := n7_; have HB := n8_; clear n0_ n1_ n2_ n3_ n4_ n5_ n6_ n7_ n8_; (try clear hb); (try clear hb2); (try clear hk); (try clear hi)))
        go_meet
        case rel => exact ⟨_, (true), (by first | rfl | (simp; done) | (simp [*]; done)), H', ⟨by first | omega | exact Nat.le_refl _⟩, ⟨by (with_reducible repeat (first | apply Kd.R_alloc | apply Kd.R_drewN | apply Kd.R_drew)); exact Kd.R_mono HO120010.out (fun _ hk => ⟨hk.1.2, hk.2⟩)⟩, ⟨by (with_reducible repeat (first | apply Kd.R_alloc | apply Kd.R_drewN | apply Kd.R_drew)); exact Kd.R_mono HO120016.out (fun _ hk => ⟨hk.1.2, hk.2⟩)⟩, ⟨by (with_reducible repeat (first | apply Kd.R_alloc | apply Kd.R_drewN | apply Kd.R_drew)); exact Kd.R_mono HO120021.out (fun _ hk => ⟨hk.1.2, hk.2⟩)⟩, ⟨by (with_reducible repeat (first | refine blk_drewN ?_ _ | refine blk_drew ?_ | refine blk_alloc ?_ _)); exact BK120001.out⟩, ⟨by (with_reducible repeat (first | refine blk_drewN ?_ _ | refine blk_drew ?_ | refine blk_alloc ?_ _)); exact BK120012.out⟩, ⟨by (with_reducible repeat (first | refine blk_drewN ?_ _ | refine blk_drew ?_ | refine blk_alloc ?_ _)); exact BK120017.out⟩, ⟨by (with_reducible repeat (first | refine blk_drewN ?_ _ | refine blk_drew ?_ | refine blk_alloc ?_ _)); exact BK120023.out⟩, ⟨by repeat (first | (with_reducible first | exact HB.out | apply below_alloc | apply pw_below_drewN | apply below_drew1 | refine below_set ?_ GE120001.out | refine below_set ?_ GE120012.out | refine below_set ?_ GE120017.out | refine below_set ?_ GE120023.out) | exact HB.out)⟩⟩
    case rest =>
      clear HC13
      try clear c1
      try clear c2
      try clear p2
      try clear c3
      try clear c4
      try clear c5
      try clear c5b0
      try clear c11
      try clear c19
      try clear c22
      try clear c24
      try clear c28
      try clear c29
      try clear c30
      try clear c34
      try clear c35
      try clear c36
      try clear c40
      try clear c41
      try clear c42
      try clear c43
      try clear c45
      try clear c46
      try clear c49
      try clear c50
      try clear c51
      try clear c53
      try clear c54
      try clear hcz15_0
      try clear hcz15_1
      try clear hcz17_0
      try clear hcz17_1
      try clear hcz23_0
      try clear hcz23_1
      try clear hcz25_0
      try clear hcz25_1
      try clear hcz30_0
      try clear hcz30_1
      try clear hcz37_0
      try clear hcz37_1
      try clear hcz44_0
      try clear hcz44_1
      try clear hcz47_0
      try clear hcz47_1
      try clear hcz52_0
      try clear hcz52_1
      try clear hcz55_0
      try clear hcz55_1
      try clear hcz7_0
      try clear hcz7_1
      try clear hfz15_0
      try clear hfz15_1
      try clear hfz17_0
      try clear hfz17_1
      try clear hfz23_0
      try clear hfz23_1
      try clear hfz25_0
      try clear hfz25_1
      try clear hfz30_0
      try clear hfz30_1
      try clear hfz37_0
      try clear hfz37_1
      try clear hfz44_0
      try clear hfz44_1
      try clear hfz47_0
      try clear hfz47_1
      try clear hfz52_0
      try clear hfz52_1
      try clear hfz55_0
      try clear hfz55_1
      try clear hfz7_0
      try clear hfz7_1
      obtain ⟨kq, x48_12, rfl, HA, HJ12, HO_120013001, HO_120018001, HO_120024001, BK120001, BK120012, BK120017, BK120023, HB⟩ := hcut
      cases kq with
      | zero => exact absurd HA.out (by simp [laws_FnExactMapMove.j0])
      | succ kj12 =>
        have H := HA.out
        clear HA
        simp only [laws_FnExactMapMove.j0] at H
        by_cases c57 : x48_12 = true
        · subst c57
          have H1 : (some false) = some r := by rw [if_pos rfl] at H; exact H
          clear H
          have H := H1
          clear H1
          obtain rfl := Option.some.inj H
          go_wp2
          go_ret
          exact ⟨by first | rfl | (simp [errW_none, errW_some] <;> rfl) | (simp [*, errW_none, errW_some] <;> rfl), by repeat (first | (with_reducible first | exact HB.out | apply below_alloc | apply pw_below_drewN | apply below_drew1 | refine below_set ?_ GE120001.out | refine below_set ?_ GE120012.out | refine below_set ?_ GE120017.out | refine below_set ?_ GE120023.out) | exact HB.out)⟩
        · replace c57 := Bool.eq_false_iff.mpr c57
          subst c57
          have H1 : ((laws_toMap.f kj12 a0_0 l0_1).bind fun bt120025 => ((laws_eqMap.f kj12 t120013 t120014 bt120025.1 bt120025.2).bind fun t120029 => (if t120029 = true then ((laws_markMap.f kj12 t120013 t120014 1).bind fun bt120030 => (if bt120030.1 < 0 then (laws_FnExactMapMove.j1 kj12 a1 a2 t120011 true a0_0 l0_1 t120007 t120008 t120018 t120019) else ((laws_eqMap.f kj12 t120018 t120019 t120007 t120008).bind fun t120032 => (if t120032 = true then (laws_FnExactMapMove.j1 kj12 a1 a2 t120011 (t120022 != t120011) a0_0 l0_1 t120007 t120008 t120018 t120019) else (laws_FnExactMapMove.j1 kj12 a1 a2 t120011 true a0_0 l0_1 t120007 t120008 t120018 t120019))))) else (some false)))) = some r := by rw [if_neg (show ¬ (false = true) by decide)] at H; exact H
          clear H
          have H := H1
          clear H1
          replace H := Option.bind_eq_some_iff.mp H
          obtain ⟨⟨t120025, t120026⟩, A580, H⟩ := H
          replace H : ((laws_eqMap.f kj12 t120013 t120014 t120025 t120026).bind fun t120029 => (if t120029 = true then ((laws_markMap.f kj12 t120013 t120014 1).bind fun bt120030 => (if bt120030.1 < 0 then (laws_FnExactMapMove.j1 kj12 a1 a2 t120011 true a0_0 l0_1 t120007 t120008 t120018 t120019) else ((laws_eqMap.f kj12 t120018 t120019 t120007 t120008).bind fun t120032 => (if t120032 = true then (laws_FnExactMapMove.j1 kj12 a1 a2 t120011 (t120022 != t120011) a0_0 l0_1 t120007 t120008 t120018 t120019) else (laws_FnExactMapMove.j1 kj12 a1 a2 t120011 true a0_0 l0_1 t120007 t120008 t120018 t120019))))) else (some false))) = some r := H
          have A58 := Aside0.mk A580
          clear A580
          replace H := Option.bind_eq_some_iff.mp H
          obtain ⟨t120029, A590, H⟩ := H
          replace H : (if t120029 = true then ((laws_markMap.f kj12 t120013 t120014 1).bind fun bt120030 => (if bt120030.1 < 0 then (laws_FnExactMapMove.j1 kj12 a1 a2 t120011 true a0_0 l0_1 t120007 t120008 t120018 t120019) else ((laws_eqMap.f kj12 t120018 t120019 t120007 t120008).bind fun t120032 => (if t120032 = true then (laws_FnExactMapMove.j1 kj12 a1 a2 t120011 (t120022 != t120011) a0_0 l0_1 t120007 t120008 t120018 t120019) else (laws_FnExactMapMove.j1 kj12 a1 a2 t120011 true a0_0 l0_1 t120007 t120008 t120018 t120019))))) else (some false)) = some r := H
          have A59 := Aside0.mk A590
          clear A590
          by_cases c60 : t120029 = true
          · subst c60
            have H1 : ((laws_markMap.f kj12 t120013 t120014 1).bind fun bt120030 => (if bt120030.1 < 0 then (laws_FnExactMapMove.j1 kj12 a1 a2 t120011 true a0_0 l0_1 t120007 t120008 t120018 t120019) else ((laws_eqMap.f kj12 t120018 t120019 t120007 t120008).bind fun t120032 => (if t120032 = true then (laws_FnExactMapMove.j1 kj12 a1 a2 t120011 (t120022 != t120011) a0_0 l0_1 t120007 t120008 t120018 t120019) else (laws_FnExactMapMove.j1 kj12 a1 a2 t120011 true a0_0 l0_1 t120007 t120008 t120018 t120019))))) = some r := by rw [if_pos rfl] at H; exact H
            clear H
            have H := H1
            clear H1
            replace H := Option.bind_eq_some_iff.mp H
            obtain ⟨⟨t120030, t120031⟩, A610, H⟩ := H
            replace H : (if t120030 < 0 then (laws_FnExactMapMove.j1 kj12 a1 a2 t120011 true a0_0 l0_1 t120007 t120008 t120018 t120019) else ((laws_eqMap.f kj12 t120018 t120019 t120007 t120008).bind fun t120032 => (if t120032 = true then (laws_FnExactMapMove.j1 kj12 a1 a2 t120011 (t120022 != t120011) a0_0 l0_1 t120007 t120008 t120018 t120019) else (laws_FnExactMapMove.j1 kj12 a1 a2 t120011 true a0_0 l0_1 t120007 t120008 t120018 t120019)))) = some r := H
            have A61 := Aside0.mk A610
            clear A610
            have HC62 := Aside0.mk H
            clear H
            try go_wp2
            have n0_ := Aside0.mk (Kd.R_drew HO_120013001.out)
            have n1_ := Aside0.mk (Kd.R_drew HO_120018001.out)
            have n2_ := Aside0.mk (Kd.R_drew HO_120024001.out)
            have n3_ := Aside0.mk (blk_drew BK120001.out)
            have n4_ := Aside0.mk (blk_drew BK120012.out)
            have n5_ := Aside0.mk (blk_drew BK120017.out)
            have n6_ := Aside0.mk (blk_drew BK120023.out)
            have n7_ := Aside0.mk (below_drew1 HB.out)
            clear HO_120013001
            clear HO_120018001
            clear HO_120024001
            clear BK120001
            clear BK120012
            clear BK120017
            clear BK120023
            clear HB
            have HO_120013001 := n0_
            have HO_120018001 := n1_
            have HO_120024001 := n2_
            have BK120001 := n3_
            have BK120012 := n4_
            have BK120017 := n5_
            have BK120023 := n6_
            have HB := n7_
            clear n0_ n1_ n2_ n3_ n4_ n5_ n6_ n7_
            refine start_ (n := 5) (S := fun w' => w'.cell? ⟨gb120017, 0, none⟩ = some (.int .i64 t120013) ∧ w'.cell? ⟨gb120017, 1, none⟩ = some (.slice Ao31 t120014.length co31) ∧ w'.cell? ⟨gb120001, 0, none⟩ = some (.int .i64 a0_0) ∧ w'.cell? ⟨gb120001, 1, none⟩ = some (.slice A0_1 l0_1.length c0_1)) (ds := []) #[false, false, false, false, false] (by kernel_rfl) rfl rfl ⟨(blk_cell BK120017.out 0).trans rfl, (blk_cell BK120017.out 1).trans rfl, (blk_cell BK120001.out 0).trans rfl, (blk_cell BK120001.out 1).trans rfl⟩ (fun hHeld => ?_)
            generalize wc.drew = w63 at HO_120013001 HO_120018001 HO_120024001 BK120001 BK120012 BK120017 BK120023 HB hHeld ⊢
            refine take_ (i := 0) (N := some 49) (v := ?_) (a' := ?_) #[true, false, false, false, false] rfl rfl (by kernel_rfl) (fun _ _ _ h => h) (Or.inl ⟨by rfl, ?_⟩) hHeld ?_ ?_
            rotate_left
            · rintro w' ⟨s0, s1, s2, s3⟩
              go_simp
              with_reducible rfl
            rotate_left
            · simp only [Act.put, List.setIfInBounds_toArray, List.set_cons_zero, List.set_cons_succ, i64_w, i32_w]
              rfl
            refine take_ (i := 1) (N := some 50) (v := ?_) (a' := ?_) #[true, true, false, false, false] rfl rfl (by kernel_rfl) (fun _ _ _ h => h) (Or.inl ⟨by rfl, ?_⟩) hHeld ?_ ?_
            rotate_left
            · rintro w' ⟨s0, s1, s2, s3⟩
              go_simp
              with_reducible rfl
            rotate_left
            · simp only [Act.put, List.setIfInBounds_toArray, List.set_cons_zero, List.set_cons_succ, i64_w, i32_w]
              rfl
            refine one_ (i := 2) (N := some 51) #[true, true, true, false, false] rfl rfl (by kernel_rfl) (by decide) (fun K hK => ?_)
            refine goes_ Try.func24 (by kernel_rfl) rfl #[.agg #[.int .i64 a0_0, .slice A0_1 l0_1.length c0_1]] (by rfl) rfl rfl (by (try simp only [List.map_toArray, List.map_cons, List.map_nil]); first | done | rfl | (simp only [List.length_drop, List.length_take]; rfl)) ?_
            with_reducible refine (laws_toMap.calls kj12 a0_0 _ _ l0_1 t120025 t120026 _ ?side1 ?side2 A58.out).mono ?_
            (case side1 => repeat (first | exact (Kd.C_below HR0_1.out HB.out) | (with_reducible refine Kd.C_alloc ?_ _) | (with_reducible refine Kd.C_drewN ?_ _) | (with_reducible refine Kd.C_drew ?_)))
            (case side2 => exact HC0_1.out)
            rintro e w64 ⟨v120027, rfl, ho0, hb⟩
            refine ⟨_, rfl, ?_⟩
            have n0_ := Aside0.mk (Kd.R_elder' (by (with_reducible repeat (first | apply Kd.R_alloc | apply Kd.R_drewN | apply Kd.R_drew)); exact HO_120013001.out) (Kd.R_base ho0) hb)
            have n1_ := Aside0.mk (Kd.R_elder' (by (with_reducible repeat (first | apply Kd.R_alloc | apply Kd.R_drewN | apply Kd.R_drew)); exact HO_120018001.out) (Kd.R_base ho0) hb)
            have n2_ := Aside0.mk (Kd.R_elder' (by (with_reducible repeat (first | apply Kd.R_alloc | apply Kd.R_drewN | apply Kd.R_drew)); exact HO_120024001.out) (Kd.R_base ho0) hb)
            have n3_ := Aside0.mk (Kd.R_lower (Kd.R_new' (Kd.R_new' (Kd.R_new' ho0 (Kd.R_lt (by (with_reducible repeat (first | apply Kd.R_alloc | apply Kd.R_drewN | apply Kd.R_drew)); exact HO_120013001.out))) (Kd.R_lt (by (with_reducible repeat (first | apply Kd.R_alloc | apply Kd.R_drewN | apply Kd.R_drew)); exact HO_120018001.out))) (Kd.R_lt (by (with_reducible repeat (first | apply Kd.R_alloc | apply Kd.R_drewN | apply Kd.R_drew)); exact HO_120024001.out))) (below_size (by repeat (first | (with_reducible first | exact HB.out | apply below_alloc | apply pw_below_drewN | apply below_drew1 | refine below_set ?_ GE120001.out | refine below_set ?_ GE120012.out | refine below_set ?_ GE120017.out | refine below_set ?_ GE120023.out) | exact HB.out))))
            have n4_ := Aside0.mk (blk_below (g := gb120001) (o := .cells #[.int .i64 a0_0, .slice A0_1 l0_1.length c0_1] 31 (0, 0)) (by (with_reducible repeat (first | refine blk_drewN ?_ _ | refine blk_drew ?_ | refine blk_alloc ?_ _)); exact BK120001.out) hb)
            have n5_ := Aside0.mk (blk_below (g := gb120012) (o := .cells #[.int .i64 t120007, .slice Ao24 t120008.length co24] 27 (0, 0)) (by (with_reducible repeat (first | refine blk_drewN ?_ _ | refine blk_drew ?_ | refine blk_alloc ?_ _)); exact BK120012.out) hb)
            have n6_ := Aside0.mk (blk_below (g := gb120017) (o := .cells #[.int .i64 t120013, .slice Ao31 t120014.length co31] 27 (0, 0)) (by (with_reducible repeat (first | refine blk_drewN ?_ _ | refine blk_drew ?_ | refine blk_alloc ?_ _)); exact BK120017.out) hb)
            have n7_ := Aside0.mk (blk_below (g := gb120023) (o := .cells #[.int .i64 t120018, .slice Ao38 t120019.length co38] 27 (0, 0)) (by (with_reducible repeat (first | refine blk_drewN ?_ _ | refine blk_drew ?_ | refine blk_alloc ?_ _)); exact BK120023.out) hb)
            have n8_ := Aside0.mk (below_step (by repeat (first | (with_reducible first | exact HB.out | apply below_alloc | apply pw_below_drewN | apply below_drew1 | refine below_set ?_ GE120001.out | refine below_set ?_ GE120012.out | refine below_set ?_ GE120017.out | refine below_set ?_ GE120023.out) | exact HB.out)) hb)
            clear HO_120013001
            clear HO_120018001
            clear HO_120024001
            clear BK120001
            clear BK120012
            clear BK120017
            clear BK120023
            clear HB
            have HO_120013001 := n0_
            have HO_120018001 := n1_
            have HO_120024001 := n2_
            have HO120028 := n3_
            have BK120001 := n4_
            have BK120012 := n5_
            have BK120017 := n6_
            have BK120023 := n7_
            have HB := n8_
            clear n0_ n1_ n2_ n3_ n4_ n5_ n6_ n7_ n8_
            (try clear hb)
            (try clear hb2)
            (try clear hk)
            (try clear hi)
            (try clear ho0)
            obtain ⟨Ao65, co65, eo65⟩ := Kd.R_slice HO120028.out
            (first | subst eo65 | (injection eo65 with f1_ f2_ f3_; have f4_ := f1_.symm; have f5_ := f3_.symm; clear f1_ f2_ f3_; subst f4_; subst f5_))
            refine hK.out _ _ ⟨(blk_cell BK120017.out 0).trans rfl, (blk_cell BK120017.out 1).trans rfl, (blk_cell BK120001.out 0).trans rfl, (blk_cell BK120001.out 1).trans rfl⟩ (fun hHeld => ?_)
            clear hK K
            refine norm_ (a' := ?_) ?_ ?_
            rotate_left
            · show Act.put _ (some 51) _ = _
              simp only [Act.put, List.setIfInBounds_toArray, List.set_cons_zero, List.set_cons_succ, i64_w, i32_w]
              rfl
            refine one_ (i := 3) (N := some 52) #[true, true, true, true, false] rfl rfl (by kernel_rfl) (by decide) (fun K hK => ?_)
            refine goes_ Try.func19 (by kernel_rfl) rfl #[.agg #[.int .i64 t120013, .slice Ao31 t120014.length co31], .agg #[.int .i64 t120025, .slice Ao65 t120026.length co65]] (by rfl) rfl rfl (by (try simp only [List.map_toArray, List.map_cons, List.map_nil]); first | done | rfl | (simp only [List.length_drop, List.length_take]; rfl)) ?_
            with_reducible refine (laws_eqMap.calls kj12 t120013 _ _ t120014 t120025 _ _ t120026 true _ ?side1 ?side2 ?side3 ?side4 A59.out).mono ?_
            (case side1 => repeat (first | exact (Kd.R_reads' HO_120018001.out).2.2 | (with_reducible refine Kd.C_alloc ?_ _) | (with_reducible refine Kd.C_drewN ?_ _) | (with_reducible refine Kd.C_drew ?_)))
            (case side2 => exact (Kd.R_reads' HO_120018001.out).2.1)
            (case side3 => repeat (first | exact (Kd.R_reads' HO120028.out).2.2 | (with_reducible refine Kd.C_alloc ?_ _) | (with_reducible refine Kd.C_drewN ?_ _) | (with_reducible refine Kd.C_drew ?_)))
            (case side4 => exact (Kd.R_reads' HO120028.out).2.1)
            rintro e w66 ⟨rfl, hb⟩
            refine ⟨_, rfl, ?_⟩
            have n0_ := Aside0.mk (Kd.R_below (by (with_reducible repeat (first | apply Kd.R_alloc | apply Kd.R_drewN | apply Kd.R_drew)); exact HO_120013001.out) hb)
            have n1_ := Aside0.mk (Kd.R_below (by (with_reducible repeat (first | apply Kd.R_alloc | apply Kd.R_drewN | apply Kd.R_drew)); exact HO_120018001.out) hb)
            have n2_ := Aside0.mk (Kd.R_below (by (with_reducible repeat (first | apply Kd.R_alloc | apply Kd.R_drewN | apply Kd.R_drew)); exact HO_120024001.out) hb)
            have n3_ := Aside0.mk (Kd.R_below (by (with_reducible repeat (first | apply Kd.R_alloc | apply Kd.R_drewN | apply Kd.R_drew)); exact HO120028.out) hb)
            have n4_ := Aside0.mk (blk_below (g := gb120001) (o := .cells #[.int .i64 a0_0, .slice A0_1 l0_1.length c0_1] 31 (0, 0)) (by (with_reducible repeat (first | refine blk_drewN ?_ _ | refine blk_drew ?_ | refine blk_alloc ?_ _)); exact BK120001.out) hb)
            have n5_ := Aside0.mk (blk_below (g := gb120012) (o := .cells #[.int .i64 t120007, .slice Ao24 t120008.length co24] 27 (0, 0)) (by (with_reducible repeat (first | refine blk_drewN ?_ _ | refine blk_drew ?_ | refine blk_alloc ?_ _)); exact BK120012.out) hb)
            have n6_ := Aside0.mk (blk_below (g := gb120017) (o := .cells #[.int .i64 t120013, .slice Ao31 t120014.length co31] 27 (0, 0)) (by (with_reducible repeat (first | refine blk_drewN ?_ _ | refine blk_drew ?_ | refine blk_alloc ?_ _)); exact BK120017.out) hb)
            have n7_ := Aside0.mk (blk_below (g := gb120023) (o := .cells #[.int .i64 t120018, .slice Ao38 t120019.length co38] 27 (0, 0)) (by (with_reducible repeat (first | refine blk_drewN ?_ _ | refine blk_drew ?_ | refine blk_alloc ?_ _)); exact BK120023.out) hb)
            have n8_ := Aside0.mk (below_step (by repeat (first | (with_reducible first | exact HB.out | apply below_alloc | apply pw_below_drewN | apply below_drew1 | refine below_set ?_ GE120001.out | refine below_set ?_ GE120012.out | refine below_set ?_ GE120017.out | refine below_set ?_ GE120023.out) | exact HB.out)) hb)
            clear HO_120013001
            clear HO_120018001
            clear HO_120024001
            clear HO120028
            clear BK120001
            clear BK120012
            clear BK120017
            clear BK120023
            clear HB
            have HO_120013001 := n0_
            have HO_120018001 := n1_
            have HO_120024001 := n2_
            have HO120028 := n3_
            have BK120001 := n4_
            have BK120012 := n5_
            have BK120017 := n6_
            have BK120023 := n7_
            have HB := n8_
            clear n0_ n1_ n2_ n3_ n4_ n5_ n6_ n7_ n8_
            (try clear hb)
            (try clear hb2)
            (try clear hk)
            (try clear hi)
            refine hK.out _ _ ⟨(blk_cell BK120017.out 0).trans rfl, (blk_cell BK120017.out 1).trans rfl, (blk_cell BK120001.out 0).trans rfl, (blk_cell BK120001.out 1).trans rfl⟩ (fun hHeld => ?_)
            clear hK K
            refine norm_ (a' := ?_) ?_ ?_
            rotate_left
            · show Act.put _ (some 52) _ = _
              simp only [Act.put, List.setIfInBounds_toArray, List.set_cons_zero, List.set_cons_succ, i64_w, i32_w]
              rfl
            refine pure_ (i := 4) (N := some 53) (v := ?_) (a' := ?_) #[true, true, true, true, true] rfl rfl (by kernel_rfl) (fun _ _ _ h => h) (Or.inl ⟨by rfl, ?_⟩) ?_ ?_
            rotate_left
            · intro w'
              go_simp
              with_reducible rfl
            rotate_left
            · simp only [Act.put, List.setIfInBounds_toArray, List.set_cons_zero, List.set_cons_succ, i64_w, i32_w]
              rfl
            refine done_ (by kernel_rfl) ?_
            have hnb67 := NB120017_120001.out
            have hnc67 := NB120001_120017.out
            have hnb68 := NB120017_120012.out
            have hnc68 := NB120012_120017.out
            have hnb69 := NB120017_120023.out
            have hnc69 := NB120023_120017.out
            have hcz70_0 : w66.cell? ⟨gb120017, 0, none⟩ = some (.int .i64 t120013) := (blk_cell BK120017.out 0).trans rfl
            have hcz70_1 : w66.cell? ⟨gb120017, 1, none⟩ = some (.slice Ao31 t120014.length co31) := (blk_cell BK120017.out 1).trans rfl
            have hfz70_0 := blk_frozen BK120017.out 0
            have hfz70_1 := blk_frozen BK120017.out 1
            go_upto_region 14 with (first | ((with_reducible refine gate_callee (f := 20) rfl ?_); refine goesL_ (some 56) rfl rfl Try.func20 (by kernel_rfl) rfl #[.agg #[.int .i64 t120013, .slice Ao31 t120014.length co31], .int .i64 1] rfl (by (try simp only [List.map_toArray, List.map_cons, List.map_nil]); first | done | rfl | (simp only [List.length_drop, List.length_take]; rfl)) ?_; (with_reducible refine (laws_markMap.calls kj12 t120013 (fun k_ => some k_ = (.slice Ao31 t120014.length co31 : Value).ownBlock) (.slice Ao31 t120014.length co31) t120014 1 t120030 t120031 w _ ?side1 ?side2 A61.out).mono ?_); (case side1 => repeat (first | (with_reducible first | exact HB.out | apply below_alloc | apply pw_below_drewN | apply below_drew1 | refine below_set ?_ GE120001.out | refine below_set ?_ GE120012.out | refine below_set ?_ GE120017.out | refine below_set ?_ GE120023.out) | exact HB.out)); (case side2 => exact Kd.R_tight rfl HO_120018001.out); rintro e w71 ⟨rfl, hy0, hb, hkp⟩; refine ⟨_, rfl, ?_⟩; have n0_ := Aside0.mk (Kd.R_mono (ok' := fun k_ => some k_ ≠ (.slice Ao31 t120014.length co31 : Value).ownBlock ∧ some k_ ≠ (.slice Ao38 t120019.length co38 : Value).ownBlock ∧ some k_ ≠ (.slice Ao65 t120026.length co65 : Value).ownBlock) (Kd.R_keptB (HO_120013001.out) hkp (fun k_ hk_ hs_ => (hk_.1.1) hs_)) (fun k_ hk_ => ⟨hk_.1.1.1, hk_.1.1.2, hk_.1.2⟩)); have n1_ := Aside0.mk (Kd.R_reok rfl hy0 (fun k_ e_ => HO_120018001.out.1 k_ e_)); have n2_ := Aside0.mk (Kd.R_mono (ok' := fun k_ => some k_ ≠ (.slice Ao24 t120008.length co24 : Value).ownBlock ∧ some k_ ≠ (.slice Ao31 t120014.length co31 : Value).ownBlock ∧ some k_ ≠ (.slice Ao65 t120026.length co65 : Value).ownBlock) (Kd.R_keptB (HO_120024001.out) hkp (fun k_ hk_ hs_ => (hk_.1.2) hs_)) (fun k_ hk_ => ⟨hk_.1.1.1, hk_.1.1.2, hk_.1.2⟩)); have n3_ := Aside0.mk (blk_kept (by (with_reducible repeat (first | refine blk_drewN ?_ _ | refine blk_drew ?_ | refine blk_alloc ?_ _)); exact BK120001.out) hkp (fun hs_ => (fun e_ => (Kd.R_ne HO_120018001.out BK120001.out (by decide)) e_) hs_)); have n4_ := Aside0.mk (blk_kept (by (with_reducible repeat (first | refine blk_drewN ?_ _ | refine blk_drew ?_ | refine blk_alloc ?_ _)); exact BK120012.out) hkp (fun hs_ => (fun e_ => (Kd.R_ne HO_120018001.out BK120012.out (by decide)) e_) hs_)); have n5_ := Aside0.mk (blk_kept (by (with_reducible repeat (first | refine blk_drewN ?_ _ | refine blk_drew ?_ | refine blk_alloc ?_ _)); exact BK120017.out) hkp (fun hs_ => (fun e_ => (Kd.R_ne HO_120018001.out BK120017.out (by decide)) e_) hs_)); have n6_ := Aside0.mk (blk_kept (by (with_reducible repeat (first | refine blk_drewN ?_ _ | refine blk_drew ?_ | refine blk_alloc ?_ _)); exact BK120023.out) hkp (fun hs_ => (fun e_ => (Kd.R_ne HO_120018001.out BK120023.out (by decide)) e_) hs_)); have n7_ := Aside0.mk (Kd.R_mono (ok' := fun k_ => some k_ ≠ (.slice Ao24 t120008.length co24 : Value).ownBlock ∧ some k_ ≠ (.slice Ao31 t120014.length co31 : Value).ownBlock ∧ some k_ ≠ (.slice Ao38 t120019.length co38 : Value).ownBlock) (Kd.R_keptB (HO120028.out) hkp (fun k_ hk_ hs_ => (hk_.1.2) hs_)) (fun k_ hk_ => ⟨hk_.1.1.1.2, hk_.1.1.2, hk_.1.2⟩)); have n8_ := Aside0.mk (hb); clear HO_120013001; clear HO_120018001; clear HO_120024001; clear BK120001; clear BK120012; clear BK120017; clear BK120023; clear HO120028; clear HB; have HO_120013001 := n0_; have HO_120018001 := n1_; have HO_120024001 := n2_; have BK120001 := n3_; have BK120012 := n4_; have BK120017 := n5_; have BK120023 := n6_; have HO120028 := n7_; have HB := n8_; clear n0_ n1_ n2_ n3_ n4_ n5_ n6_ n7_ n8_; (try clear hb); (try clear hkp); (try clear hy0)))
            (try simp only [Act.put, List.setIfInBounds_toArray, List.set_cons_zero, List.set_cons_succ])
            go_cut [69] (fun v69 wc => ∃ (kq : Nat) (x69_61 : Bool), v69 = .bool x69_61 ∧ Aside0 (laws_FnExactMapMove.j1 kq a1 a2 t120011 x69_61 a0_0 l0_1 t120007 t120008 t120018 t120019 = some r) ∧ Aside0 (kq ≤ kj12) ∧ Aside0 (Kd.R (Kd.int .i64) 3 wc w.heap.size (fun k_ => some k_ ≠ ((.slice Ao31 t120014.length co31) : Value).ownBlock ∧ some k_ ≠ ((.slice Ao38 t120019.length co38) : Value).ownBlock) (.slice Ao24 t120008.length co24) t120008) ∧ Aside0 (Kd.R (Kd.int .i64) 3 wc w.heap.size (fun k_ => some k_ ≠ ((.slice Ao24 t120008.length co24) : Value).ownBlock ∧ some k_ ≠ ((.slice Ao38 t120019.length co38) : Value).ownBlock) (.slice Ao31 t120014.length co31) t120031) ∧ Aside0 (Kd.R (Kd.int .i64) 3 wc w.heap.size (fun k_ => some k_ ≠ ((.slice Ao24 t120008.length co24) : Value).ownBlock ∧ some k_ ≠ ((.slice Ao31 t120014.length co31) : Value).ownBlock) (.slice Ao38 t120019.length co38) t120019) ∧ Aside0 (wc.heap[gb120001]? = some (.cells #[.int .i64 a0_0, (.slice A0_1 l0_1.length c0_1)] 31 (0, 0))) ∧ Aside0 (wc.heap[gb120012]? = some (.cells #[.int .i64 t120007, (.slice Ao24 t120008.length co24)] 27 (0, 0))) ∧ Aside0 (wc.heap[gb120017]? = some (.cells #[.int .i64 t120013, (.slice Ao31 t120014.length co31)] 27 (0, 0))) ∧ Aside0 (wc.heap[gb120023]? = some (.cells #[.int .i64 t120018, (.slice Ao38 t120019.length co38)] 27 (0, 0))) ∧ Aside0 (Below w.heap.size w wc))
            case first =>
              have H := HC62.out
              clear HC62
              by_cases c72 : t120030 < 0
              · rw [if_pos c72] at H
                have c72b0 : decide (t120030 < 0) = true := decide_eq_true c72
                clear c72
                (first | rw [c72b0] | (simp only [i64_w, i32_w]; rw [c72b0]) | skip)
                have H' := Aside0.mk H
                clear H
                go_wp2
                go_meet
                case rel => exact ⟨_, (true), (by first | rfl | (simp; done) | (simp [*]; done)), H', ⟨by have := HJ12.out; first | omega | exact Nat.le_refl _⟩, ⟨by (with_reducible repeat (first | apply Kd.R_alloc | apply Kd.R_drewN | apply Kd.R_drew)); exact Kd.R_mono HO_120013001.out (fun _ hk => ⟨hk.1, hk.2.1⟩)⟩, ⟨by (with_reducible repeat (first | apply Kd.R_alloc | apply Kd.R_drewN | apply Kd.R_drew)); exact Kd.R_mono HO_120018001.out (fun _ hk => ⟨hk.1.1, hk.1.2⟩)⟩, ⟨by (with_reducible repeat (first | apply Kd.R_alloc | apply Kd.R_drewN | apply Kd.R_drew)); exact Kd.R_mono HO_120024001.out (fun _ hk => ⟨hk.1, hk.2.1⟩)⟩, ⟨by (with_reducible repeat (first | refine blk_drewN ?_ _ | refine blk_drew ?_ | refine blk_alloc ?_ _)); exact BK120001.out⟩, ⟨by (with_reducible repeat (first | refine blk_drewN ?_ _ | refine blk_drew ?_ | refine blk_alloc ?_ _)); exact BK120012.out⟩, ⟨by (with_reducible repeat (first | refine blk_drewN ?_ _ | refine blk_drew ?_ | refine blk_alloc ?_ _)); exact BK120017.out⟩, ⟨by (with_reducible repeat (first | refine blk_drewN ?_ _ | refine blk_drew ?_ | refine blk_alloc ?_ _)); exact BK120023.out⟩, ⟨by repeat (first | (with_reducible first | exact HB.out | apply below_alloc | apply pw_below_drewN | apply below_drew1 | refine below_set ?_ GE120001.out | refine below_set ?_ GE120012.out | refine below_set ?_ GE120017.out | refine below_set ?_ GE120023.out) | exact HB.out)⟩⟩
              · rw [if_neg c72] at H
                have c72b0 : decide (t120030 < 0) = false := decide_eq_false c72
                clear c72
                (first | rw [c72b0] | (simp only [i64_w, i32_w]; rw [c72b0]) | skip)
                replace H := Option.bind_eq_some_iff.mp H
                obtain ⟨t120032, A730, H⟩ := H
                replace H : (if t120032 = true then (laws_FnExactMapMove.j1 kj12 a1 a2 t120011 (t120022 != t120011) a0_0 l0_1 t120007 t120008 t120018 t120019) else (laws_FnExactMapMove.j1 kj12 a1 a2 t120011 true a0_0 l0_1 t120007 t120008 t120018 t120019)) = some r := H
                have A73 := Aside0.mk A730
                clear A730
                by_cases c74 : t120032 = true
                · subst c74
                  have H1 : (laws_FnExactMapMove.j1 kj12 a1 a2 t120011 (t120022 != t120011) a0_0 l0_1 t120007 t120008 t120018 t120019) = some r := by rw [if_pos rfl] at H; exact H
                  clear H
                  have H := H1
                  clear H1
                  have H' := Aside0.mk H
                  clear H
                  have hnb75 := NB120023_120001.out
                  have hnc75 := NB120001_120023.out
                  have hnb76 := NB120023_120012.out
                  have hnc76 := NB120012_120023.out
                  have hnb77 := NB120023_120017.out
                  have hnc77 := NB120017_120023.out
                  have hcz78_0 : w71.cell? ⟨gb120023, 0, none⟩ = some (.int .i64 t120018) := (blk_cell BK120023.out 0).trans rfl
                  have hcz78_1 : w71.cell? ⟨gb120023, 1, none⟩ = some (.slice Ao38 t120019.length co38) := (blk_cell BK120023.out 1).trans rfl
                  have hfz78_0 := blk_frozen BK120023.out 0
                  have hfz78_1 := blk_frozen BK120023.out 1
                  have hnb79 := NB120012_120001.out
                  have hnc79 := NB120001_120012.out
                  have hnb80 := NB120012_120017.out
                  have hnc80 := NB120017_120012.out
                  have hcz81_0 : w71.cell? ⟨gb120012, 0, none⟩ = some (.int .i64 t120007) := (blk_cell BK120012.out 0).trans rfl
                  have hcz81_1 : w71.cell? ⟨gb120012, 1, none⟩ = some (.slice Ao24 t120008.length co24) := (blk_cell BK120012.out 1).trans rfl
                  have hfz81_0 := blk_frozen BK120012.out 0
                  have hfz81_1 := blk_frozen BK120012.out 1
                  go_wp2_with (first | (go_at_call 19; (with_reducible refine (laws_eqMap.calls kj12 t120018 _ _ t120019 t120007 _ _ t120008 true _ ?side1 ?side2 ?side3 ?side4 A73.out).mono ?_); (case side1 => repeat (first | exact (Kd.R_reads' HO_120024001.out).2.2 | (with_reducible refine Kd.C_alloc ?_ _) | (with_reducible refine Kd.C_drewN ?_ _) | (with_reducible refine Kd.C_drew ?_))); (case side2 => exact (Kd.R_reads' HO_120024001.out).2.1); (case side3 => repeat (first | exact (Kd.R_reads' HO_120013001.out).2.2 | (with_reducible refine Kd.C_alloc ?_ _) | (with_reducible refine Kd.C_drewN ?_ _) | (with_reducible refine Kd.C_drew ?_))); (case side4 => exact (Kd.R_reads' HO_120013001.out).2.1); rintro e w82 ⟨rfl, hb⟩; have n0_ := Aside0.mk (Kd.R_below (by (with_reducible repeat (first | apply Kd.R_alloc | apply Kd.R_drewN | apply Kd.R_drew)); exact HO_120013001.out) hb); have n1_ := Aside0.mk (Kd.R_below (by (with_reducible repeat (first | apply Kd.R_alloc | apply Kd.R_drewN | apply Kd.R_drew)); exact HO_120018001.out) hb); have n2_ := Aside0.mk (Kd.R_below (by (with_reducible repeat (first | apply Kd.R_alloc | apply Kd.R_drewN | apply Kd.R_drew)); exact HO_120024001.out) hb); have n3_ := Aside0.mk (Kd.R_below (by (with_reducible repeat (first | apply Kd.R_alloc | apply Kd.R_drewN | apply Kd.R_drew)); exact HO120028.out) hb); have n4_ := Aside0.mk (blk_below (g := gb120001) (o := .cells #[.int .i64 a0_0, .slice A0_1 l0_1.length c0_1] 31 (0, 0)) (by (with_reducible repeat (first | refine blk_drewN ?_ _ | refine blk_drew ?_ | refine blk_alloc ?_ _)); exact BK120001.out) hb); have n5_ := Aside0.mk (blk_below (g := gb120012) (o := .cells #[.int .i64 t120007, .slice Ao24 t120008.length co24] 27 (0, 0)) (by (with_reducible repeat (first | refine blk_drewN ?_ _ | refine blk_drew ?_ | refine blk_alloc ?_ _)); exact BK120012.out) hb); have n6_ := Aside0.mk (blk_below (g := gb120017) (o := .cells #[.int .i64 t120013, .slice Ao31 t120014.length co31] 27 (0, 0)) (by (with_reducible repeat (first | refine blk_drewN ?_ _ | refine blk_drew ?_ | refine blk_alloc ?_ _)); exact BK120017.out) hb); have n7_ := Aside0.mk (blk_below (g := gb120023) (o := .cells #[.int .i64 t120018, .slice Ao38 t120019.length co38] 27 (0, 0)) (by (with_reducible repeat (first | refine blk_drewN ?_ _ | refine blk_drew ?_ | refine blk_alloc ?_ _)); exact BK120023.out) hb); have n8_ := Aside0.mk (below_step (by repeat (first | (with_reducible first | exact HB.out | apply below_alloc | apply pw_below_drewN | apply below_drew1 | refine below_set ?_ GE120001.out | refine below_set ?_ GE120012.out | refine below_set ?_ GE120017.out | refine below_set ?_ GE120023.out) | exact HB.out)) hb); clear HO_120013001; clear HO_120018001; clear HO_120024001; clear HO120028; clear BK120001; clear BK120012; clear BK120017; clear BK120023; clear HB; have HO_120013001 := n0_; have HO_120018001 := n1_; have HO_120024001 := n2_; have HO120028 := n3_; have BK120001 := n4_; have BK120012 := n5_; have BK120017 := n6_; have BK120023 := n7_; have HB := n8_; clear n0_ n1_ n2_ n3_ n4_ n5_ n6_ n7_ n8_; (try clear hb); (try clear hb2); (try clear hk); (try clear hi)))
                  go_meet
                  case rel => exact ⟨_, ((t120022 != t120011)), (by first | rfl | (simp; done) | (simp [*]; done)), H', ⟨by have := HJ12.out; first | omega | exact Nat.le_refl _⟩, ⟨by (with_reducible repeat (first | apply Kd.R_alloc | apply Kd.R_drewN | apply Kd.R_drew)); exact Kd.R_mono HO_120013001.out (fun _ hk => ⟨hk.1, hk.2.1⟩)⟩, ⟨by (with_reducible repeat (first | apply Kd.R_alloc | apply Kd.R_drewN | apply Kd.R_drew)); exact Kd.R_mono HO_120018001.out (fun _ hk => ⟨hk.1.1, hk.1.2⟩)⟩, ⟨by (with_reducible repeat (first | apply Kd.R_alloc | apply Kd.R_drewN | apply Kd.R_drew)); exact Kd.R_mono HO_120024001.out (fun _ hk => ⟨hk.1, hk.2.1⟩)⟩, ⟨by (with_reducible repeat (first | refine blk_drewN ?_ _ | refine blk_drew ?_ | refine blk_alloc ?_ _)); exact BK120001.out⟩, ⟨by (with_reducible repeat (first | refine blk_drewN ?_ _ | refine blk_drew ?_ | refine blk_alloc ?_ _)); exact BK120012.out⟩, ⟨by (with_reducible repeat (first | refine blk_drewN ?_ _ | refine blk_drew ?_ | refine blk_alloc ?_ _)); exact BK120017.out⟩, ⟨by (with_reducible repeat (first | refine blk_drewN ?_ _ | refine blk_drew ?_ | refine blk_alloc ?_ _)); exact BK120023.out⟩, ⟨by repeat (first | (with_reducible first | exact HB.out | apply below_alloc | apply pw_below_drewN | apply below_drew1 | refine below_set ?_ GE120001.out | refine below_set ?_ GE120012.out | refine below_set ?_ GE120017.out | refine below_set ?_ GE120023.out) | exact HB.out)⟩⟩
                · replace c74 := Bool.eq_false_iff.mpr c74
                  subst c74
                  have H1 : (laws_FnExactMapMove.j1 kj12 a1 a2 t120011 true a0_0 l0_1 t120007 t120008 t120018 t120019) = some r := by rw [if_neg (show ¬ (false = true) by decide)] at H; exact H
                  clear H
                  have H := H1
                  clear H1
                  have H' := Aside0.mk H
                  clear H
                  have hnb83 := NB120023_120001.out
                  have hnc83 := NB120001_120023.out
                  have hnb84 := NB120023_120012.out
                  have hnc84 := NB120012_120023.out
                  have hnb85 := NB120023_120017.out
                  have hnc85 := NB120017_120023.out
                  have hcz86_0 : w71.cell? ⟨gb120023, 0, none⟩ = some (.int .i64 t120018) := (blk_cell BK120023.out 0).trans rfl
                  have hcz86_1 : w71.cell? ⟨gb120023, 1, none⟩ = some (.slice Ao38 t120019.length co38) := (blk_cell BK120023.out 1).trans rfl
                  have hfz86_0 := blk_frozen BK120023.out 0
                  have hfz86_1 := blk_frozen BK120023.out 1
                  have hnb87 := NB120012_120001.out
                  have hnc87 := NB120001_120012.out
                  have hnb88 := NB120012_120017.out
                  have hnc88 := NB120017_120012.out
                  have hcz89_0 : w71.cell? ⟨gb120012, 0, none⟩ = some (.int .i64 t120007) := (blk_cell BK120012.out 0).trans rfl
                  have hcz89_1 : w71.cell? ⟨gb120012, 1, none⟩ = some (.slice Ao24 t120008.length co24) := (blk_cell BK120012.out 1).trans rfl
                  have hfz89_0 := blk_frozen BK120012.out 0
                  have hfz89_1 := blk_frozen BK120012.out 1
                  go_wp2_with (first | (go_at_call 19; (with_reducible refine (laws_eqMap.calls kj12 t120018 _ _ t120019 t120007 _ _ t120008 false _ ?side1 ?side2 ?side3 ?side4 A73.out).mono ?_); (case side1 => repeat (first | exact (Kd.R_reads' HO_120024001.out).2.2 | (with_reducible refine Kd.C_alloc ?_ _) | (with_reducible refine Kd.C_drewN ?_ _) | (with_reducible refine Kd.C_drew ?_))); (case side2 => exact (Kd.R_reads' HO_120024001.out).2.1); (case side3 => repeat (first | exact (Kd.R_reads' HO_120013001.out).2.2 | (with_reducible refine Kd.C_alloc ?_ _) | (with_reducible refine Kd.C_drewN ?_ _) | (with_reducible refine Kd.C_drew ?_))); (case side4 => exact (Kd.R_reads' HO_120013001.out).2.1); rintro e w90 ⟨rfl, hb⟩; have n0_ := Aside0.mk (Kd.R_below (by (with_reducible repeat (first | apply Kd.R_alloc | apply Kd.R_drewN | apply Kd.R_drew)); exact HO_120013001.out) hb); have n1_ := Aside0.mk (Kd.R_below (by (with_reducible repeat (first | apply Kd.R_alloc | apply Kd.R_drewN | apply Kd.R_drew)); exact HO_120018001.out) hb); have n2_ := Aside0.mk (Kd.R_below (by (with_reducible repeat (first | apply Kd.R_alloc | apply Kd.R_drewN | apply Kd.R_drew)); exact HO_120024001.out) hb); have n3_ := Aside0.mk (Kd.R_below (by (with_reducible repeat (first | apply Kd.R_alloc | apply Kd.R_drewN | apply Kd.R_drew)); exact HO120028.out) hb); have n4_ := Aside0.mk (blk_below (g := gb120001) (o := .cells #[.int .i64 a0_0, .slice A0_1 l0_1.length c0_1] 31 (0, 0)) (by (with_reducible repeat (first | refine blk_drewN ?_ _ | refine blk_drew ?_ | refine blk_alloc ?_ _)); exact BK120001.out) hb); have n5_ := Aside0.mk (blk_below (g := gb120012) (o := .cells #[.int .i64 t120007, .slice Ao24 t120008.length co24] 27 (0, 0)) (by (with_reducible repeat (first | refine blk_drewN ?_ _ | refine blk_drew ?_ | refine blk_alloc ?_ _)); exact BK120012.out) hb); have n6_ := Aside0.mk (blk_below (g := gb120017) (o := .cells #[.int .i64 t120013, .slice Ao31 t120014.length co31] 27 (0, 0)) (by (with_reducible repeat (first | refine blk_drewN ?_ _ | refine blk_drew ?_ | refine blk_alloc ?_ _)); exact BK120017.out) hb); have n7_ := Aside0.mk (blk_below (g := gb120023) (o := .cells #[.int .i64 t120018, .slice Ao38 t120019.length co38] 27 (0, 0)) (by (with_reducible repeat (first | refine blk_drewN ?_ _ | refine blk_drew ?_ | refine blk_alloc ?_ _)); exact BK120023.out) hb); have n8_ := Aside0.mk (below_step (by repeat (first | (with_reducible first | exact HB.out | apply below_alloc | apply pw_below_drewN | apply below_drew1 | refine below_set ?_ GE120001.out | refine below_set ?_ GE120012.out | refine below_set ?_ GE120017.out | refine below_set ?_ GE120023.out) | exact HB.out)) hb); clear HO_120013001; clear HO_120018001; clear HO_120024001; clear HO120028; clear BK120001; clear BK120012; clear BK120017; clear BK120023; clear HB; have HO_120013001 := n0_; have HO_120018001 := n1_; have HO_120024001 := n2_; have HO120028 := n3_; have BK120001 := n4_; have BK120012 := n5_; have BK120017 := n6_; have BK120023 := n7_; have HB := n8_; clear n0_ n1_ n2_ n3_ n4_ n5_ n6_ n7_ n8_; (try clear hb); (try clear hb2); (try clear hk); (try clear hi)))
                  go_meet
                  case rel => exact ⟨_, (true), (by first | rfl | (simp; done) | (simp [*]; done)), H', ⟨by have := HJ12.out; first | omega | exact Nat.le_refl _⟩, ⟨by (with_reducible repeat (first | apply Kd.R_alloc | apply Kd.R_drewN | apply Kd.R_drew)); exact Kd.R_mono HO_120013001.out (fun _ hk => ⟨hk.1, hk.2.1⟩)⟩, ⟨by (with_reducible repeat (first | apply Kd.R_alloc | apply Kd.R_drewN | apply Kd.R_drew)); exact Kd.R_mono HO_120018001.out (fun _ hk => ⟨hk.1.1, hk.1.2⟩)⟩, ⟨by (with_reducible repeat (first | apply Kd.R_alloc | apply Kd.R_drewN | apply Kd.R_drew)); exact Kd.R_mono HO_120024001.out (fun _ hk => ⟨hk.1, hk.2.1⟩)⟩, ⟨by (with_reducible repeat (first | refine blk_drewN ?_ _ | refine blk_drew ?_ | refine blk_alloc ?_ _)); exact BK120001.out⟩, ⟨by (with_reducible repeat (first | refine blk_drewN ?_ _ | refine blk_drew ?_ | refine blk_alloc ?_ _)); exact BK120012.out⟩, ⟨by (with_reducible repeat (first | refine blk_drewN ?_ _ | refine blk_drew ?_ | refine blk_alloc ?_ _)); exact BK120017.out⟩, ⟨by (with_reducible repeat (first | refine blk_drewN ?_ _ | refine blk_drew ?_ | refine blk_alloc ?_ _)); exact BK120023.out⟩, ⟨by repeat (first | (with_reducible first | exact HB.out | apply below_alloc | apply pw_below_drewN | apply below_drew1 | refine below_set ?_ GE120001.out | refine below_set ?_ GE120012.out | refine below_set ?_ GE120017.out | refine below_set ?_ GE120023.out) | exact HB.out)⟩⟩
            case rest =>
              clear HC62
              try clear c1
              try clear c2
              try clear p2
              try clear c3
              try clear c4
              try clear c5
              try clear c5b0
              try clear c6
              try clear c7
              try clear c8
              try clear c11
              try clear c19
              try clear c20
              try clear c22
              try clear c24
              try clear c28
              try clear c29
              try clear c30
              try clear c34
              try clear c35
              try clear c36
              try clear c40
              try clear c41
              try clear c42
              try clear c43
              try clear c45
              try clear c46
              try clear c49
              try clear c50
              try clear c51
              try clear c53
              try clear c54
              try clear c57
              try clear c60
              try clear c67
              try clear c68
              try clear c69
              try clear c72
              try clear c72b0
              try clear c74
              try clear c75
              try clear c76
              try clear c77
              try clear c79
              try clear c80
              try clear c83
              try clear c84
              try clear c85
              try clear c87
              try clear c88
              try clear hcz15_0
              try clear hcz15_1
              try clear hcz17_0
              try clear hcz17_1
              try clear hcz23_0
              try clear hcz23_1
              try clear hcz25_0
              try clear hcz25_1
              try clear hcz30_0
              try clear hcz30_1
              try clear hcz37_0
              try clear hcz37_1
              try clear hcz44_0
              try clear hcz44_1
              try clear hcz47_0
              try clear hcz47_1
              try clear hcz52_0
              try clear hcz52_1
              try clear hcz55_0
              try clear hcz55_1
              try clear hcz70_0
              try clear hcz70_1
              try clear hcz78_0
              try clear hcz78_1
              try clear hcz7_0
              try clear hcz7_1
              try clear hcz81_0
              try clear hcz81_1
              try clear hcz86_0
              try clear hcz86_1
              try clear hcz89_0
              try clear hcz89_1
              try clear hfz15_0
              try clear hfz15_1
              try clear hfz17_0
              try clear hfz17_1
              try clear hfz23_0
              try clear hfz23_1
              try clear hfz25_0
              try clear hfz25_1
              try clear hfz30_0
              try clear hfz30_1
              try clear hfz37_0
              try clear hfz37_1
              try clear hfz44_0
              try clear hfz44_1
              try clear hfz47_0
              try clear hfz47_1
              try clear hfz52_0
              try clear hfz52_1
              try clear hfz55_0
              try clear hfz55_1
              try clear hfz70_0
              try clear hfz70_1
              try clear hfz78_0
              try clear hfz78_1
              try clear hfz7_0
              try clear hfz7_1
              try clear hfz81_0
              try clear hfz81_1
              try clear hfz86_0
              try clear hfz86_1
              try clear hfz89_0
              try clear hfz89_1
              try clear p2
              obtain ⟨kq, x69_61, rfl, HA, HJ61, HO_120013001, HO_120018001, HO_120024001, BK120001, BK120012, BK120017, BK120023, HB⟩ := hcut
              have hl120018001_61 := (Kd.R_reads' HO_120018001.out).1
              rw [hl120018001_61] at HO_120018001
              (try simp only [hl120018001_61])
              (try simp only [hl120018001_61] at BK120001)
              (try simp only [hl120018001_61] at BK120012)
              (try simp only [hl120018001_61] at BK120017)
              (try simp only [hl120018001_61] at BK120023)
              (try simp only [hl120018001_61] at HO_120013001)
              (try simp only [hl120018001_61] at HO_120024001)
              cases kq with
              | zero => exact absurd HA.out (by simp [laws_FnExactMapMove.j1])
              | succ kj61 =>
                have H := HA.out
                clear HA
                simp only [laws_FnExactMapMove.j1] at H
                by_cases c91 : x69_61 = true
                · subst c91
                  have H1 : (some false) = some r := by rw [if_pos rfl] at H; exact H
                  clear H
                  have H := H1
                  clear H1
                  obtain rfl := Option.some.inj H
                  go_wp2
                  go_ret
                  exact ⟨by first | rfl | (simp [errW_none, errW_some] <;> rfl) | (simp [*, errW_none, errW_some] <;> rfl), by repeat (first | (with_reducible first | exact HB.out | apply below_alloc | apply pw_below_drewN | apply below_drew1 | refine below_set ?_ GE120001.out | refine below_set ?_ GE120012.out | refine below_set ?_ GE120017.out | refine below_set ?_ GE120023.out) | exact HB.out)⟩
                · replace c91 := Bool.eq_false_iff.mpr c91
                  subst c91
                  have H1 : ((laws_markMap.f kj61 t120018 t120019 1).bind fun bt120033 => ((laws_heldMap.f kj61 t120018 bt120033.2 1).bind fun t120035 => (if t120035 < 0 then (some false) else (if t120035 = bt120033.1 then ((laws_toMap.f kj61 a0_0 l0_1).bind fun bt120036 => ((impl_MapMove.f kj61 bt120036.1 bt120036.2 a1 a2).bind fun bt120040 => ((laws_eqMap.f kj61 bt120040.1 bt120040.2.1 t120007 t120008).bind fun t120046 => (if t120046 = true then (laws_FnExactMapMove.j2 kj61 bt120033.1 (bt120040.2.2 != t120011) t120018 bt120033.2) else (laws_FnExactMapMove.j2 kj61 bt120033.1 true t120018 bt120033.2))))) else (some false))))) = some r := by rw [if_neg (show ¬ (false = true) by decide)] at H; exact H
                  clear H
                  have H := H1
                  clear H1
                  replace H := Option.bind_eq_some_iff.mp H
                  obtain ⟨⟨t120033, t120034⟩, A920, H⟩ := H
                  replace H : ((laws_heldMap.f kj61 t120018 t120034 1).bind fun t120035 => (if t120035 < 0 then (some false) else (if t120035 = t120033 then ((laws_toMap.f kj61 a0_0 l0_1).bind fun bt120036 => ((impl_MapMove.f kj61 bt120036.1 bt120036.2 a1 a2).bind fun bt120040 => ((laws_eqMap.f kj61 bt120040.1 bt120040.2.1 t120007 t120008).bind fun t120046 => (if t120046 = true then (laws_FnExactMapMove.j2 kj61 t120033 (bt120040.2.2 != t120011) t120018 t120034) else (laws_FnExactMapMove.j2 kj61 t120033 true t120018 t120034))))) else (some false)))) = some r := H
                  have A92 := Aside0.mk A920
                  clear A920
                  replace H := Option.bind_eq_some_iff.mp H
                  obtain ⟨t120035, A930, H⟩ := H
                  replace H : (if t120035 < 0 then (some false) else (if t120035 = t120033 then ((laws_toMap.f kj61 a0_0 l0_1).bind fun bt120036 => ((impl_MapMove.f kj61 bt120036.1 bt120036.2 a1 a2).bind fun bt120040 => ((laws_eqMap.f kj61 bt120040.1 bt120040.2.1 t120007 t120008).bind fun t120046 => (if t120046 = true then (laws_FnExactMapMove.j2 kj61 t120033 (bt120040.2.2 != t120011) t120018 t120034) else (laws_FnExactMapMove.j2 kj61 t120033 true t120018 t120034))))) else (some false))) = some r := H
                  have A93 := Aside0.mk A930
                  clear A930
                  by_cases c94 : t120035 < 0
                  · rw [if_pos c94] at H
                    have c94b0 : decide (t120035 < 0) = true := decide_eq_true c94
                    clear c94
                    obtain rfl := Option.some.inj H
                    have hnb95 := NB120023_120001.out
                    have hnc95 := NB120001_120023.out
                    have hnb96 := NB120023_120012.out
                    have hnc96 := NB120012_120023.out
                    have hnb97 := NB120023_120017.out
                    have hnc97 := NB120017_120023.out
                    have hcz98_0 : wc.cell? ⟨gb120023, 0, none⟩ = some (.int .i64 t120018) := (blk_cell BK120023.out 0).trans rfl
                    have hcz98_1 : wc.cell? ⟨gb120023, 1, none⟩ = some (.slice Ao38 t120019.length co38) := (blk_cell BK120023.out 1).trans rfl
                    have hfz98_0 := blk_frozen BK120023.out 0
                    have hfz98_1 := blk_frozen BK120023.out 1
                    go_wp2_with (first | ((with_reducible refine gate_callee (f := 20) rfl ?_); refine goesL_ (some 72) rfl rfl Try.func20 (by kernel_rfl) rfl #[.agg #[.int .i64 t120018, .slice Ao38 t120019.length co38], .int .i64 1] rfl (by (try simp only [List.map_toArray, List.map_cons, List.map_nil]); first | done | rfl | (simp only [List.length_drop, List.length_take]; rfl)) ?_; (with_reducible refine (laws_markMap.calls kj61 t120018 (fun k_ => some k_ = (.slice Ao38 t120019.length co38 : Value).ownBlock) (.slice Ao38 t120019.length co38) t120019 1 t120033 t120034 w _ ?side1 ?side2 A92.out).mono ?_); (case side1 => repeat (first | (with_reducible first | exact HB.out | apply below_alloc | apply pw_below_drewN | apply below_drew1 | refine below_set ?_ GE120001.out | refine below_set ?_ GE120012.out | refine below_set ?_ GE120017.out | refine below_set ?_ GE120023.out) | exact HB.out)); (case side2 => exact Kd.R_tight rfl HO_120024001.out); rintro e w99 ⟨rfl, hy0, hb, hkp⟩; refine ⟨_, rfl, ?_⟩; have n0_ := Aside0.mk (Kd.R_mono (ok' := fun k_ => some k_ ≠ (.slice Ao31 t120031.length co31 : Value).ownBlock ∧ some k_ ≠ (.slice Ao38 t120019.length co38 : Value).ownBlock) (Kd.R_keptB (HO_120013001.out) hkp (fun k_ hk_ hs_ => (hk_.2) hs_)) (fun k_ hk_ => ⟨hk_.1.1, hk_.1.2⟩)); have n1_ := Aside0.mk (Kd.R_mono (ok' := fun k_ => some k_ ≠ (.slice Ao24 t120008.length co24 : Value).ownBlock ∧ some k_ ≠ (.slice Ao38 t120019.length co38 : Value).ownBlock) (Kd.R_keptB (HO_120018001.out) hkp (fun k_ hk_ hs_ => (hk_.2) hs_)) (fun k_ hk_ => ⟨hk_.1.1, hk_.1.2⟩)); have n2_ := Aside0.mk (Kd.R_reok rfl hy0 (fun k_ e_ => HO_120024001.out.1 k_ e_)); have n3_ := Aside0.mk (blk_kept (by (with_reducible repeat (first | refine blk_drewN ?_ _ | refine blk_drew ?_ | refine blk_alloc ?_ _)); exact BK120001.out) hkp (fun hs_ => (fun e_ => (Kd.R_ne HO_120024001.out BK120001.out (by decide)) e_) hs_)); have n4_ := Aside0.mk (blk_kept (by (with_reducible repeat (first | refine blk_drewN ?_ _ | refine blk_drew ?_ | refine blk_alloc ?_ _)); exact BK120012.out) hkp (fun hs_ => (fun e_ => (Kd.R_ne HO_120024001.out BK120012.out (by decide)) e_) hs_)); have n5_ := Aside0.mk (blk_kept (by (with_reducible repeat (first | refine blk_drewN ?_ _ | refine blk_drew ?_ | refine blk_alloc ?_ _)); exact BK120017.out) hkp (fun hs_ => (fun e_ => (Kd.R_ne HO_120024001.out BK120017.out (by decide)) e_) hs_)); have n6_ := Aside0.mk (blk_kept (by (with_reducible repeat (first | refine blk_drewN ?_ _ | refine blk_drew ?_ | refine blk_alloc ?_ _)); exact BK120023.out) hkp (fun hs_ => (fun e_ => (Kd.R_ne HO_120024001.out BK120023.out (by decide)) e_) hs_)); have n7_ := Aside0.mk (hb); clear HO_120013001; clear HO_120018001; clear HO_120024001; clear BK120001; clear BK120012; clear BK120017; clear BK120023; clear HB; have HO_120013001 := n0_; have HO_120018001 := n1_; have HO_120024001 := n2_; have BK120001 := n3_; have BK120012 := n4_; have BK120017 := n5_; have BK120023 := n6_; have HB := n7_; clear n0_ n1_ n2_ n3_ n4_ n5_ n6_ n7_; (try clear hb); (try clear hkp); (try clear hy0); have hcz100_0 : w99.cell? ⟨gb120023, 0, none⟩ = some (.int .i64 t120018) := (blk_cell BK120023.out 0).trans rfl; have hcz100_1 : w99.cell? ⟨gb120023, 1, none⟩ = some (.slice Ao38 t120019.length co38) := (blk_cell BK120023.out 1).trans rfl; have hfz100_0 := blk_frozen BK120023.out 0; have hfz100_1 := blk_frozen BK120023.out 1) | ((with_reducible refine gate_callee (f := 21) rfl ?_); refine goesL_ (some 75) rfl rfl Try.func21 (by kernel_rfl) rfl #[.agg #[.int .i64 t120018, .slice Ao38 t120034.length co38], .int .i64 1] rfl (by (try simp only [List.map_toArray, List.map_cons, List.map_nil]); first | done | (rw [show t120034.length = t120019.length from (Kd.R_reads' HO_120024001.out).1.symm] <;> rfl) | rfl | (simp only [List.length_drop, List.length_take]; rfl)) ?_; (with_reducible refine (laws_heldMap.calls kj61 t120018 _ _ t120034 1 t120035 _ ?side1 ?side2 A93.out).mono ?_); (case side1 => repeat (first | exact (Kd.R_reads' HO_120024001.out).2.2 | (with_reducible refine Kd.C_alloc ?_ _) | (with_reducible refine Kd.C_drewN ?_ _) | (with_reducible refine Kd.C_drew ?_))); (case side2 => rw [show t120034.length = t120019.length from (Kd.R_reads' HO_120024001.out).1.symm]; exact (Kd.R_reads' HO_120024001.out).2.1); rintro e w101 ⟨rfl, hb⟩; refine ⟨_, rfl, ?_⟩; have n0_ := Aside0.mk (Kd.R_below (by (with_reducible repeat (first | apply Kd.R_alloc | apply Kd.R_drewN | apply Kd.R_drew)); exact HO_120013001.out) hb); have n1_ := Aside0.mk (Kd.R_below (by (with_reducible repeat (first | apply Kd.R_alloc | apply Kd.R_drewN | apply Kd.R_drew)); exact HO_120018001.out) hb); have n2_ := Aside0.mk (Kd.R_below (by (with_reducible repeat (first | apply Kd.R_alloc | apply Kd.R_drewN | apply Kd.R_drew)); exact HO_120024001.out) hb); have n3_ := Aside0.mk (blk_below (g := gb120001) (o := .cells #[.int .i64 a0_0, .slice A0_1 l0_1.length c0_1] 31 (0, 0)) (by (with_reducible repeat (first | refine blk_drewN ?_ _ | refine blk_drew ?_ | refine blk_alloc ?_ _)); exact BK120001.out) hb); have n4_ := Aside0.mk (blk_below (g := gb120012) (o := .cells #[.int .i64 t120007, .slice Ao24 t120008.length co24] 27 (0, 0)) (by (with_reducible repeat (first | refine blk_drewN ?_ _ | refine blk_drew ?_ | refine blk_alloc ?_ _)); exact BK120012.out) hb); have n5_ := Aside0.mk (blk_below (g := gb120017) (o := .cells #[.int .i64 t120013, .slice Ao31 t120031.length co31] 27 (0, 0)) (by (with_reducible repeat (first | refine blk_drewN ?_ _ | refine blk_drew ?_ | refine blk_alloc ?_ _)); exact BK120017.out) hb); have n6_ := Aside0.mk (blk_below (g := gb120023) (o := .cells #[.int .i64 t120018, .slice Ao38 t120019.length co38] 27 (0, 0)) (by (with_reducible repeat (first | refine blk_drewN ?_ _ | refine blk_drew ?_ | refine blk_alloc ?_ _)); exact BK120023.out) hb); have n7_ := Aside0.mk (below_step (by repeat (first | (with_reducible first | exact HB.out | apply below_alloc | apply pw_below_drewN | apply below_drew1 | refine below_set ?_ GE120001.out | refine below_set ?_ GE120012.out | refine below_set ?_ GE120017.out | refine below_set ?_ GE120023.out) | exact HB.out)) hb); clear HO_120013001; clear HO_120018001; clear HO_120024001; clear BK120001; clear BK120012; clear BK120017; clear BK120023; clear HB; have HO_120013001 := n0_; have HO_120018001 := n1_; have HO_120024001 := n2_; have BK120001 := n3_; have BK120012 := n4_; have BK120017 := n5_; have BK120023 := n6_; have HB := n7_; clear n0_ n1_ n2_ n3_ n4_ n5_ n6_ n7_; (try clear hb); (try clear hb2); (try clear hk); (try clear hi)))
                    go_ret
                    exact ⟨by first | rfl | (simp [errW_none, errW_some] <;> rfl) | (simp [*, errW_none, errW_some] <;> rfl), by repeat (first | (with_reducible first | exact HB.out | apply below_alloc | apply pw_below_drewN | apply below_drew1 | refine below_set ?_ GE120001.out | refine below_set ?_ GE120012.out | refine below_set ?_ GE120017.out | refine below_set ?_ GE120023.out) | exact HB.out)⟩
                  · rw [if_neg c94] at H
                    have c94b0 : decide (t120035 < 0) = false := decide_eq_false c94
                    clear c94
                    by_cases c102 : t120035 = t120033
                    · rw [if_pos c102] at H
                      have c102b0 : (t120035 == t120033) = true := beq_iff_eq.mpr c102
                      have c102b1 : (t120035 != t120033) = false := bne_eq_false_iff_eq.mpr c102
                      clear c102
                      replace H := Option.bind_eq_some_iff.mp H
                      obtain ⟨⟨t120036, t120037⟩, A1030, H⟩ := H
                      replace H : ((impl_MapMove.f kj61 t120036 t120037 a1 a2).bind fun bt120040 => ((laws_eqMap.f kj61 bt120040.1 bt120040.2.1 t120007 t120008).bind fun t120046 => (if t120046 = true then (laws_FnExactMapMove.j2 kj61 t120033 (bt120040.2.2 != t120011) t120018 t120034) else (laws_FnExactMapMove.j2 kj61 t120033 true t120018 t120034)))) = some r := H
                      have A103 := Aside0.mk A1030
                      clear A1030
                      replace H := Option.bind_eq_some_iff.mp H
                      obtain ⟨⟨t120040, t120041, t120044⟩, A1040, H⟩ := H
                      replace H : ((laws_eqMap.f kj61 t120040 t120041 t120007 t120008).bind fun t120046 => (if t120046 = true then (laws_FnExactMapMove.j2 kj61 t120033 (t120044 != t120011) t120018 t120034) else (laws_FnExactMapMove.j2 kj61 t120033 true t120018 t120034))) = some r := H
                      have A104 := Aside0.mk A1040
                      clear A1040
                      have HC105 := Aside0.mk H
                      clear H
                      have hnb106 := NB120023_120001.out
                      have hnc106 := NB120001_120023.out
                      have hnb107 := NB120023_120012.out
                      have hnc107 := NB120012_120023.out
                      have hnb108 := NB120023_120017.out
                      have hnc108 := NB120017_120023.out
                      have hcz109_0 : wc.cell? ⟨gb120023, 0, none⟩ = some (.int .i64 t120018) := (blk_cell BK120023.out 0).trans rfl
                      have hcz109_1 : wc.cell? ⟨gb120023, 1, none⟩ = some (.slice Ao38 t120019.length co38) := (blk_cell BK120023.out 1).trans rfl
                      have hfz109_0 := blk_frozen BK120023.out 0
                      have hfz109_1 := blk_frozen BK120023.out 1
                      go_upto_region 25 with (first | ((with_reducible refine gate_callee (f := 20) rfl ?_); refine goesL_ (some 72) rfl rfl Try.func20 (by kernel_rfl) rfl #[.agg #[.int .i64 t120018, .slice Ao38 t120019.length co38], .int .i64 1] rfl (by (try simp only [List.map_toArray, List.map_cons, List.map_nil]); first | done | rfl | (simp only [List.length_drop, List.length_take]; rfl)) ?_; (with_reducible refine (laws_markMap.calls kj61 t120018 (fun k_ => some k_ = (.slice Ao38 t120019.length co38 : Value).ownBlock) (.slice Ao38 t120019.length co38) t120019 1 t120033 t120034 w _ ?side1 ?side2 A92.out).mono ?_); (case side1 => repeat (first | (with_reducible first | exact HB.out | apply below_alloc | apply pw_below_drewN | apply below_drew1 | refine below_set ?_ GE120001.out | refine below_set ?_ GE120012.out | refine below_set ?_ GE120017.out | refine below_set ?_ GE120023.out) | exact HB.out)); (case side2 => exact Kd.R_tight rfl HO_120024001.out); rintro e w110 ⟨rfl, hy0, hb, hkp⟩; refine ⟨_, rfl, ?_⟩; have n0_ := Aside0.mk (Kd.R_mono (ok' := fun k_ => some k_ ≠ (.slice Ao31 t120031.length co31 : Value).ownBlock ∧ some k_ ≠ (.slice Ao38 t120019.length co38 : Value).ownBlock) (Kd.R_keptB (HO_120013001.out) hkp (fun k_ hk_ hs_ => (hk_.2) hs_)) (fun k_ hk_ => ⟨hk_.1.1, hk_.1.2⟩)); have n1_ := Aside0.mk (Kd.R_mono (ok' := fun k_ => some k_ ≠ (.slice Ao24 t120008.length co24 : Value).ownBlock ∧ some k_ ≠ (.slice Ao38 t120019.length co38 : Value).ownBlock) (Kd.R_keptB (HO_120018001.out) hkp (fun k_ hk_ hs_ => (hk_.2) hs_)) (fun k_ hk_ => ⟨hk_.1.1, hk_.1.2⟩)); have n2_ := Aside0.mk (Kd.R_reok rfl hy0 (fun k_ e_ => HO_120024001.out.1 k_ e_)); have n3_ := Aside0.mk (blk_kept (by (with_reducible repeat (first | refine blk_drewN ?_ _ | refine blk_drew ?_ | refine blk_alloc ?_ _)); exact BK120001.out) hkp (fun hs_ => (fun e_ => (Kd.R_ne HO_120024001.out BK120001.out (by decide)) e_) hs_)); have n4_ := Aside0.mk (blk_kept (by (with_reducible repeat (first | refine blk_drewN ?_ _ | refine blk_drew ?_ | refine blk_alloc ?_ _)); exact BK120012.out) hkp (fun hs_ => (fun e_ => (Kd.R_ne HO_120024001.out BK120012.out (by decide)) e_) hs_)); have n5_ := Aside0.mk (blk_kept (by (with_reducible repeat (first | refine blk_drewN ?_ _ | refine blk_drew ?_ | refine blk_alloc ?_ _)); exact BK120017.out) hkp (fun hs_ => (fun e_ => (Kd.R_ne HO_120024001.out BK120017.out (by decide)) e_) hs_)); have n6_ := Aside0.mk (blk_kept (by (with_reducible repeat (first | refine blk_drewN ?_ _ | refine blk_drew ?_ | refine blk_alloc ?_ _)); exact BK120023.out) hkp (fun hs_ => (fun e_ => (Kd.R_ne HO_120024001.out BK120023.out (by decide)) e_) hs_)); have n7_ := Aside0.mk (hb); clear HO_120013001; clear HO_120018001; clear HO_120024001; clear BK120001; clear BK120012; clear BK120017; clear BK120023; clear HB; have HO_120013001 := n0_; have HO_120018001 := n1_; have HO_120024001 := n2_; have BK120001 := n3_; have BK120012 := n4_; have BK120017 := n5_; have BK120023 := n6_; have HB := n7_; clear n0_ n1_ n2_ n3_ n4_ n5_ n6_ n7_; (try clear hb); (try clear hkp); (try clear hy0); have hcz111_0 : w110.cell? ⟨gb120023, 0, none⟩ = some (.int .i64 t120018) := (blk_cell BK120023.out 0).trans rfl; have hcz111_1 : w110.cell? ⟨gb120023, 1, none⟩ = some (.slice Ao38 t120019.length co38) := (blk_cell BK120023.out 1).trans rfl; have hfz111_0 := blk_frozen BK120023.out 0; have hfz111_1 := blk_frozen BK120023.out 1) | ((with_reducible refine gate_callee (f := 21) rfl ?_); refine goesL_ (some 75) rfl rfl Try.func21 (by kernel_rfl) rfl #[.agg #[.int .i64 t120018, .slice Ao38 t120034.length co38], .int .i64 1] rfl (by (try simp only [List.map_toArray, List.map_cons, List.map_nil]); first | done | (rw [show t120034.length = t120019.length from (Kd.R_reads' HO_120024001.out).1.symm] <;> rfl) | rfl | (simp only [List.length_drop, List.length_take]; rfl)) ?_; (with_reducible refine (laws_heldMap.calls kj61 t120018 _ _ t120034 1 t120035 _ ?side1 ?side2 A93.out).mono ?_); (case side1 => repeat (first | exact (Kd.R_reads' HO_120024001.out).2.2 | (with_reducible refine Kd.C_alloc ?_ _) | (with_reducible refine Kd.C_drewN ?_ _) | (with_reducible refine Kd.C_drew ?_))); (case side2 => rw [show t120034.length = t120019.length from (Kd.R_reads' HO_120024001.out).1.symm]; exact (Kd.R_reads' HO_120024001.out).2.1); rintro e w112 ⟨rfl, hb⟩; refine ⟨_, rfl, ?_⟩; have n0_ := Aside0.mk (Kd.R_below (by (with_reducible repeat (first | apply Kd.R_alloc | apply Kd.R_drewN | apply Kd.R_drew)); exact HO_120013001.out) hb); have n1_ := Aside0.mk (Kd.R_below (by (with_reducible repeat (first | apply Kd.R_alloc | apply Kd.R_drewN | apply Kd.R_drew)); exact HO_120018001.out) hb); have n2_ := Aside0.mk (Kd.R_below (by (with_reducible repeat (first | apply Kd.R_alloc | apply Kd.R_drewN | apply Kd.R_drew)); exact HO_120024001.out) hb); have n3_ := Aside0.mk (blk_below (g := gb120001) (o := .cells #[.int .i64 a0_0, .slice A0_1 l0_1.length c0_1] 31 (0, 0)) (by (with_reducible repeat (first | refine blk_drewN ?_ _ | refine blk_drew ?_ | refine blk_alloc ?_ _)); exact BK120001.out) hb); have n4_ := Aside0.mk (blk_below (g := gb120012) (o := .cells #[.int .i64 t120007, .slice Ao24 t120008.length co24] 27 (0, 0)) (by (with_reducible repeat (first | refine blk_drewN ?_ _ | refine blk_drew ?_ | refine blk_alloc ?_ _)); exact BK120012.out) hb); have n5_ := Aside0.mk (blk_below (g := gb120017) (o := .cells #[.int .i64 t120013, .slice Ao31 t120031.length co31] 27 (0, 0)) (by (with_reducible repeat (first | refine blk_drewN ?_ _ | refine blk_drew ?_ | refine blk_alloc ?_ _)); exact BK120017.out) hb); have n6_ := Aside0.mk (blk_below (g := gb120023) (o := .cells #[.int .i64 t120018, .slice Ao38 t120019.length co38] 27 (0, 0)) (by (with_reducible repeat (first | refine blk_drewN ?_ _ | refine blk_drew ?_ | refine blk_alloc ?_ _)); exact BK120023.out) hb); have n7_ := Aside0.mk (below_step (by repeat (first | (with_reducible first | exact HB.out | apply below_alloc | apply pw_below_drewN | apply below_drew1 | refine below_set ?_ GE120001.out | refine below_set ?_ GE120012.out | refine below_set ?_ GE120017.out | refine below_set ?_ GE120023.out) | exact HB.out)) hb); clear HO_120013001; clear HO_120018001; clear HO_120024001; clear BK120001; clear BK120012; clear BK120017; clear BK120023; clear HB; have HO_120013001 := n0_; have HO_120018001 := n1_; have HO_120024001 := n2_; have BK120001 := n3_; have BK120012 := n4_; have BK120017 := n5_; have BK120023 := n6_; have HB := n7_; clear n0_ n1_ n2_ n3_ n4_ n5_ n6_ n7_; (try clear hb); (try clear hb2); (try clear hk); (try clear hi); have hnb113 := NB120001_120012.out; have hnc113 := NB120012_120001.out; have hnb114 := NB120001_120017.out; have hnc114 := NB120017_120001.out; have hcz115_0 : w112.cell? ⟨gb120001, 0, none⟩ = some (.int .i64 a0_0) := (blk_cell BK120001.out 0).trans rfl; have hcz115_1 : w112.cell? ⟨gb120001, 1, none⟩ = some (.slice A0_1 l0_1.length c0_1) := (blk_cell BK120001.out 1).trans rfl; have hfz115_0 := blk_frozen BK120001.out 0; have hfz115_1 := blk_frozen BK120001.out 1) | ((with_reducible refine gate_callee (f := 24) rfl ?_); refine goesL_ (some 83) rfl rfl Try.func24 (by kernel_rfl) rfl #[.agg #[.int .i64 a0_0, .slice A0_1 l0_1.length c0_1]] rfl (by (try simp only [List.map_toArray, List.map_cons, List.map_nil]); first | done | rfl | (simp only [List.length_drop, List.length_take]; rfl)) ?_; (with_reducible refine (laws_toMap.calls kj61 a0_0 _ _ l0_1 t120036 t120037 _ ?side1 ?side2 A103.out).mono ?_); (case side1 => repeat (first | exact (Kd.C_below HR0_1.out HB.out) | (with_reducible refine Kd.C_alloc ?_ _) | (with_reducible refine Kd.C_drewN ?_ _) | (with_reducible refine Kd.C_drew ?_))); (case side2 => exact HC0_1.out); rintro e w116 ⟨v120038, rfl, ho0, hb⟩; refine ⟨_, rfl, ?_⟩; have n0_ := Aside0.mk (Kd.R_elder' (by (with_reducible repeat (first | apply Kd.R_alloc | apply Kd.R_drewN | apply Kd.R_drew)); exact HO_120013001.out) (Kd.R_base ho0) hb); have n1_ := Aside0.mk (Kd.R_elder' (by (with_reducible repeat (first | apply Kd.R_alloc | apply Kd.R_drewN | apply Kd.R_drew)); exact HO_120018001.out) (Kd.R_base ho0) hb); have n2_ := Aside0.mk (Kd.R_elder' (by (with_reducible repeat (first | apply Kd.R_alloc | apply Kd.R_drewN | apply Kd.R_drew)); exact HO_120024001.out) (Kd.R_base ho0) hb); have n3_ := Aside0.mk (Kd.R_lower (Kd.R_new' (Kd.R_new' (Kd.R_new' ho0 (Kd.R_lt (by (with_reducible repeat (first | apply Kd.R_alloc | apply Kd.R_drewN | apply Kd.R_drew)); exact HO_120013001.out))) (Kd.R_lt (by (with_reducible repeat (first | apply Kd.R_alloc | apply Kd.R_drewN | apply Kd.R_drew)); exact HO_120018001.out))) (Kd.R_lt (by (with_reducible repeat (first | apply Kd.R_alloc | apply Kd.R_drewN | apply Kd.R_drew)); exact HO_120024001.out))) (below_size (by repeat (first | (with_reducible first | exact HB.out | apply below_alloc | apply pw_below_drewN | apply below_drew1 | refine below_set ?_ GE120001.out | refine below_set ?_ GE120012.out | refine below_set ?_ GE120017.out | refine below_set ?_ GE120023.out) | exact HB.out)))); have n4_ := Aside0.mk (blk_below (g := gb120001) (o := .cells #[.int .i64 a0_0, .slice A0_1 l0_1.length c0_1] 31 (0, 0)) (by (with_reducible repeat (first | refine blk_drewN ?_ _ | refine blk_drew ?_ | refine blk_alloc ?_ _)); exact BK120001.out) hb); have n5_ := Aside0.mk (blk_below (g := gb120012) (o := .cells #[.int .i64 t120007, .slice Ao24 t120008.length co24] 27 (0, 0)) (by (with_reducible repeat (first | refine blk_drewN ?_ _ | refine blk_drew ?_ | refine blk_alloc ?_ _)); exact BK120012.out) hb); have n6_ := Aside0.mk (blk_below (g := gb120017) (o := .cells #[.int .i64 t120013, .slice Ao31 t120031.length co31] 27 (0, 0)) (by (with_reducible repeat (first | refine blk_drewN ?_ _ | refine blk_drew ?_ | refine blk_alloc ?_ _)); exact BK120017.out) hb); have n7_ := Aside0.mk (blk_below (g := gb120023) (o := .cells #[.int .i64 t120018, .slice Ao38 t120019.length co38] 27 (0, 0)) (by (with_reducible repeat (first | refine blk_drewN ?_ _ | refine blk_drew ?_ | refine blk_alloc ?_ _)); exact BK120023.out) hb); have n8_ := Aside0.mk (below_step (by repeat (first | (with_reducible first | exact HB.out | apply below_alloc | apply pw_below_drewN | apply below_drew1 | refine below_set ?_ GE120001.out | refine below_set ?_ GE120012.out | refine below_set ?_ GE120017.out | refine below_set ?_ GE120023.out) | exact HB.out)) hb); clear HO_120013001; clear HO_120018001; clear HO_120024001; clear BK120001; clear BK120012; clear BK120017; clear BK120023; clear HB; have HO_120013001 := n0_; have HO_120018001 := n1_; have HO_120024001 := n2_; have HO120039 := n3_; have BK120001 := n4_; have BK120012 := n5_; have BK120017 := n6_; have BK120023 := n7_; have HB := n8_; clear n0_ n1_ n2_ n3_ n4_ n5_ n6_ n7_ n8_; (try clear hb); (try clear hb2); (try clear hk); (try clear hi); (try clear ho0); obtain ⟨Ao117, co117, eo117⟩ := Kd.R_slice HO120039.out; subst eo117) | ((with_reducible refine gate_callee (f := 30) rfl ?_); refine goesL_ (some 86) rfl rfl Try.func30 (by kernel_rfl) rfl #[.agg #[.int .i64 t120036, .slice Ao117 t120037.length co117], .int .i64 a1, .int .i64 a2] rfl (by (try simp only [List.map_toArray, List.map_cons, List.map_nil]); first | done | rfl | (simp only [List.length_drop, List.length_take]; rfl)) ?_; (with_reducible refine (impl_MapMove.calls kj61 t120036 _ _ t120037 a1 a2 t120040 t120041 t120044 _ ?side1 ?side2 A104.out).mono ?_); (case side1 => repeat (first | exact (Kd.R_reads' HO120039.out).2.2 | (with_reducible refine Kd.C_alloc ?_ _) | (with_reducible refine Kd.C_drewN ?_ _) | (with_reducible refine Kd.C_drew ?_))); (case side2 => exact (Kd.R_reads' HO120039.out).2.1); rintro e w118 ⟨v120042, rfl, ho0, hb⟩; refine ⟨_, rfl, ?_⟩; have n0_ := Aside0.mk (Kd.R_elder' (by (with_reducible repeat (first | apply Kd.R_alloc | apply Kd.R_drewN | apply Kd.R_drew)); exact HO_120013001.out) (Kd.R_base ho0) hb); have n1_ := Aside0.mk (Kd.R_elder' (by (with_reducible repeat (first | apply Kd.R_alloc | apply Kd.R_drewN | apply Kd.R_drew)); exact HO_120018001.out) (Kd.R_base ho0) hb); have n2_ := Aside0.mk (Kd.R_elder' (by (with_reducible repeat (first | apply Kd.R_alloc | apply Kd.R_drewN | apply Kd.R_drew)); exact HO_120024001.out) (Kd.R_base ho0) hb); have n3_ := Aside0.mk (Kd.R_elder' (by (with_reducible repeat (first | apply Kd.R_alloc | apply Kd.R_drewN | apply Kd.R_drew)); exact HO120039.out) (Kd.R_base ho0) hb); have n4_ := Aside0.mk (Kd.R_lower (Kd.R_new' (Kd.R_new' (Kd.R_new' (Kd.R_new' ho0 (Kd.R_lt (by (with_reducible repeat (first | apply Kd.R_alloc | apply Kd.R_drewN | apply Kd.R_drew)); exact HO_120013001.out))) (Kd.R_lt (by (with_reducible repeat (first | apply Kd.R_alloc | apply Kd.R_drewN | apply Kd.R_drew)); exact HO_120018001.out))) (Kd.R_lt (by (with_reducible repeat (first | apply Kd.R_alloc | apply Kd.R_drewN | apply Kd.R_drew)); exact HO_120024001.out))) (Kd.R_lt (by (with_reducible repeat (first | apply Kd.R_alloc | apply Kd.R_drewN | apply Kd.R_drew)); exact HO120039.out))) (below_size (by repeat (first | (with_reducible first | exact HB.out | apply below_alloc | apply pw_below_drewN | apply below_drew1 | refine below_set ?_ GE120001.out | refine below_set ?_ GE120012.out | refine below_set ?_ GE120017.out | refine below_set ?_ GE120023.out) | exact HB.out)))); have n5_ := Aside0.mk (blk_below (g := gb120001) (o := .cells #[.int .i64 a0_0, .slice A0_1 l0_1.length c0_1] 31 (0, 0)) (by (with_reducible repeat (first | refine blk_drewN ?_ _ | refine blk_drew ?_ | refine blk_alloc ?_ _)); exact BK120001.out) hb); have n6_ := Aside0.mk (blk_below (g := gb120012) (o := .cells #[.int .i64 t120007, .slice Ao24 t120008.length co24] 27 (0, 0)) (by (with_reducible repeat (first | refine blk_drewN ?_ _ | refine blk_drew ?_ | refine blk_alloc ?_ _)); exact BK120012.out) hb); have n7_ := Aside0.mk (blk_below (g := gb120017) (o := .cells #[.int .i64 t120013, .slice Ao31 t120031.length co31] 27 (0, 0)) (by (with_reducible repeat (first | refine blk_drewN ?_ _ | refine blk_drew ?_ | refine blk_alloc ?_ _)); exact BK120017.out) hb); have n8_ := Aside0.mk (blk_below (g := gb120023) (o := .cells #[.int .i64 t120018, .slice Ao38 t120019.length co38] 27 (0, 0)) (by (with_reducible repeat (first | refine blk_drewN ?_ _ | refine blk_drew ?_ | refine blk_alloc ?_ _)); exact BK120023.out) hb); have n9_ := Aside0.mk (below_step (by repeat (first | (with_reducible first | exact HB.out | apply below_alloc | apply pw_below_drewN | apply below_drew1 | refine below_set ?_ GE120001.out | refine below_set ?_ GE120012.out | refine below_set ?_ GE120017.out | refine below_set ?_ GE120023.out) | exact HB.out)) hb); clear HO_120013001; clear HO_120018001; clear HO_120024001; clear HO120039; clear BK120001; clear BK120012; clear BK120017; clear BK120023; clear HB; have HO_120013001 := n0_; have HO_120018001 := n1_; have HO_120024001 := n2_; have HO120039 := n3_; have HO120043 := n4_; have BK120001 := n5_; have BK120012 := n6_; have BK120017 := n7_; have BK120023 := n8_; have HB := n9_; clear n0_ n1_ n2_ n3_ n4_ n5_ n6_ n7_ n8_ n9_; (try clear hb); (try clear hb2); (try clear hk); (try clear hi); (try clear ho0)) | ((with_reducible refine gate_dst (N := 16) rfl ?_); refine box_event ?hg (N := 16) ?hd (cs := #[.int .i64 0, .slice none 0 0]) (t := 27) ?hr ?_; (case hd => rfl); (case hg => rfl); (case hr => first | (go_simp; done) | (go_simp; rfl)); intro gb120045 hg w119 hbox hb; have n0_ := Aside0.mk (Kd.R_below (by (with_reducible repeat (first | apply Kd.R_alloc | apply Kd.R_drewN | apply Kd.R_drew)); exact HO_120013001.out) hb); have n1_ := Aside0.mk (Kd.R_below (by (with_reducible repeat (first | apply Kd.R_alloc | apply Kd.R_drewN | apply Kd.R_drew)); exact HO_120018001.out) hb); have n2_ := Aside0.mk (Kd.R_below (by (with_reducible repeat (first | apply Kd.R_alloc | apply Kd.R_drewN | apply Kd.R_drew)); exact HO_120024001.out) hb); have n3_ := Aside0.mk (Kd.R_below (by (with_reducible repeat (first | apply Kd.R_alloc | apply Kd.R_drewN | apply Kd.R_drew)); exact HO120039.out) hb); have n4_ := Aside0.mk (Kd.R_below (by (with_reducible repeat (first | apply Kd.R_alloc | apply Kd.R_drewN | apply Kd.R_drew)); exact HO120043.out) hb); have n5_ := Aside0.mk (blk_below (g := gb120001) (o := .cells #[.int .i64 a0_0, .slice A0_1 l0_1.length c0_1] 31 (0, 0)) (by (with_reducible repeat (first | refine blk_drewN ?_ _ | refine blk_drew ?_ | refine blk_alloc ?_ _)); exact BK120001.out) hb); have n6_ := Aside0.mk (blk_below (g := gb120012) (o := .cells #[.int .i64 t120007, .slice Ao24 t120008.length co24] 27 (0, 0)) (by (with_reducible repeat (first | refine blk_drewN ?_ _ | refine blk_drew ?_ | refine blk_alloc ?_ _)); exact BK120012.out) hb); have n7_ := Aside0.mk (blk_below (g := gb120017) (o := .cells #[.int .i64 t120013, .slice Ao31 t120031.length co31] 27 (0, 0)) (by (with_reducible repeat (first | refine blk_drewN ?_ _ | refine blk_drew ?_ | refine blk_alloc ?_ _)); exact BK120017.out) hb); have n8_ := Aside0.mk (blk_below (g := gb120023) (o := .cells #[.int .i64 t120018, .slice Ao38 t120019.length co38] 27 (0, 0)) (by (with_reducible repeat (first | refine blk_drewN ?_ _ | refine blk_drew ?_ | refine blk_alloc ?_ _)); exact BK120023.out) hb); have n9_ := Aside0.mk (below_step (by repeat (first | (with_reducible first | exact HB.out | apply below_alloc | apply pw_below_drewN | apply below_drew1 | refine below_set ?_ GE120001.out | refine below_set ?_ GE120012.out | refine below_set ?_ GE120017.out | refine below_set ?_ GE120023.out) | exact HB.out)) hb); have n10_ := Aside0.mk (hbox); have n11_ := Aside0.mk ((by rw [hg]; exact (below_size (by repeat (first | (with_reducible first | exact HB.out | apply below_alloc | apply pw_below_drewN | apply below_drew1 | refine below_set ?_ GE120001.out | refine below_set ?_ GE120012.out | refine below_set ?_ GE120017.out | refine below_set ?_ GE120023.out) | exact HB.out))) : w.heap.size ≤ gb120045)); have n12_ := Aside0.mk ((by rw [hg]; exact (below_size (by repeat (first | (with_reducible first | exact HB.out | apply below_alloc | apply pw_below_drewN | apply below_drew1 | refine below_set ?_ GE120001.out | refine below_set ?_ GE120012.out | refine below_set ?_ GE120017.out | refine below_set ?_ GE120023.out) | exact HB.out))) : w.heap.size ≤ gb120045)); have n13_ := Aside0.mk ((by rw [hg]; exact Nat.ne_of_lt (blk_lt (g := gb120001) (o := .cells #[.int .i64 a0_0, .slice A0_1 l0_1.length c0_1] 31 (0, 0)) (by (with_reducible repeat (first | refine blk_drewN ?_ _ | refine blk_drew ?_ | refine blk_alloc ?_ _)); exact BK120001.out)) : gb120001 ≠ gb120045)); have n14_ := Aside0.mk ((by rw [hg]; exact Nat.ne_of_gt (blk_lt (g := gb120001) (o := .cells #[.int .i64 a0_0, .slice A0_1 l0_1.length c0_1] 31 (0, 0)) (by (with_reducible repeat (first | refine blk_drewN ?_ _ | refine blk_drew ?_ | refine blk_alloc ?_ _)); exact BK120001.out)) : gb120045 ≠ gb120001)); have n15_ := Aside0.mk ((by rw [hg]; exact Nat.ne_of_lt (blk_lt (g := gb120012) (o := .cells #[.int .i64 t120007, .slice Ao24 t120008.length co24] 27 (0, 0)) (by (with_reducible repeat (first | refine blk_drewN ?_ _ | refine blk_drew ?_ | refine blk_alloc ?_ _)); exact BK120012.out)) : gb120012 ≠ gb120045)); have n16_ := Aside0.mk ((by rw [hg]; exact Nat.ne_of_gt (blk_lt (g := gb120012) (o := .cells #[.int .i64 t120007, .slice Ao24 t120008.length co24] 27 (0, 0)) (by (with_reducible repeat (first | refine blk_drewN ?_ _ | refine blk_drew ?_ | refine blk_alloc ?_ _)); exact BK120012.out)) : gb120045 ≠ gb120012)); have n17_ := Aside0.mk ((by rw [hg]; exact Nat.ne_of_lt (blk_lt (g := gb120017) (o := .cells #[.int .i64 t120013, .slice Ao31 t120031.length co31] 27 (0, 0)) (by (with_reducible repeat (first | refine blk_drewN ?_ _ | refine blk_drew ?_ | refine blk_alloc ?_ _)); exact BK120017.out)) : gb120017 ≠ gb120045)); have n18_ := Aside0.mk ((by rw [hg]; exact Nat.ne_of_gt (blk_lt (g := gb120017) (o := .cells #[.int .i64 t120013, .slice Ao31 t120031.length co31] 27 (0, 0)) (by (with_reducible repeat (first | refine blk_drewN ?_ _ | refine blk_drew ?_ | refine blk_alloc ?_ _)); exact BK120017.out)) : gb120045 ≠ gb120017)); have n19_ := Aside0.mk ((by rw [hg]; exact Nat.ne_of_lt (blk_lt (g := gb120023) (o := .cells #[.int .i64 t120018, .slice Ao38 t120019.length co38] 27 (0, 0)) (by (with_reducible repeat (first | refine blk_drewN ?_ _ | refine blk_drew ?_ | refine blk_alloc ?_ _)); exact BK120023.out)) : gb120023 ≠ gb120045)); have n20_ := Aside0.mk ((by rw [hg]; exact Nat.ne_of_gt (blk_lt (g := gb120023) (o := .cells #[.int .i64 t120018, .slice Ao38 t120019.length co38] 27 (0, 0)) (by (with_reducible repeat (first | refine blk_drewN ?_ _ | refine blk_drew ?_ | refine blk_alloc ?_ _)); exact BK120023.out)) : gb120045 ≠ gb120023)); clear HO_120013001; clear HO_120018001; clear HO_120024001; clear HO120039; clear HO120043; clear BK120001; clear BK120012; clear BK120017; clear BK120023; clear HB; have HO_120013001 := n0_; have HO_120018001 := n1_; have HO_120024001 := n2_; have HO120039 := n3_; have HO120043 := n4_; have BK120001 := n5_; have BK120012 := n6_; have BK120017 := n7_; have BK120023 := n8_; have HB := n9_; have BK120045 := n10_; have GW120045 := n11_; have GE120045 := n12_; have NB120001_120045 := n13_; have NB120045_120001 := n14_; have NB120012_120045 := n15_; have NB120045_120012 := n16_; have NB120017_120045 := n17_; have NB120045_120017 := n18_; have NB120023_120045 := n19_; have NB120045_120023 := n20_; clear n0_ n1_ n2_ n3_ n4_ n5_ n6_ n7_ n8_ n9_ n10_ n11_ n12_ n13_ n14_ n15_ n16_ n17_ n18_ n19_ n20_; clear hb hbox hg; have hnb120 := NB120045_120001.out; have hnc120 := NB120001_120045.out; have hnb121 := NB120045_120012.out; have hnc121 := NB120012_120045.out; have hnb122 := NB120045_120017.out; have hnc122 := NB120017_120045.out; have hnb123 := NB120045_120023.out; have hnc123 := NB120023_120045.out; have hcz124_0 : w119.cell? ⟨gb120045, 0, none⟩ = some (.int .i64 0) := (blk_cell BK120045.out 0).trans rfl; have hcz124_1 : w119.cell? ⟨gb120045, 1, none⟩ = some (.slice none 0 0) := (blk_cell BK120045.out 1).trans rfl; have hfz124_0 := blk_frozen BK120045.out 0; have hfz124_1 := blk_frozen BK120045.out 1; obtain ⟨Ao125, co125, eo125⟩ := Kd.R_slice HO120043.out; subst eo125))
                      (try simp only [Act.put, List.setIfInBounds_toArray, List.set_cons_zero, List.set_cons_succ])
                      go_cut [97] (fun v97 wc => ∃ (kq : Nat) (x97_104 : Bool), v97 = .bool x97_104 ∧ Aside0 (laws_FnExactMapMove.j2 kq t120033 x97_104 t120018 t120034 = some r) ∧ Aside0 (kq ≤ kj61) ∧ Aside0 (Kd.R (Kd.int .i64) 3 wc w.heap.size (fun k_ => some k_ ≠ ((.slice Ao31 t120031.length co31) : Value).ownBlock ∧ some k_ ≠ ((.slice Ao38 t120019.length co38) : Value).ownBlock ∧ some k_ ≠ ((.slice Ao125 t120041.length co125) : Value).ownBlock) (.slice Ao24 t120008.length co24) t120008) ∧ Aside0 (Kd.R (Kd.int .i64) 3 wc w.heap.size (fun k_ => some k_ ≠ ((.slice Ao24 t120008.length co24) : Value).ownBlock ∧ some k_ ≠ ((.slice Ao38 t120019.length co38) : Value).ownBlock ∧ some k_ ≠ ((.slice Ao125 t120041.length co125) : Value).ownBlock) (.slice Ao31 t120031.length co31) t120031) ∧ Aside0 (Kd.R (Kd.int .i64) 3 wc w.heap.size (fun k_ => some k_ ≠ ((.slice Ao24 t120008.length co24) : Value).ownBlock ∧ some k_ ≠ ((.slice Ao31 t120031.length co31) : Value).ownBlock ∧ some k_ ≠ ((.slice Ao125 t120041.length co125) : Value).ownBlock) (.slice Ao38 t120019.length co38) t120034) ∧ Aside0 (Kd.R (Kd.int .i64) 3 wc w.heap.size (fun k_ => some k_ ≠ ((.slice Ao24 t120008.length co24) : Value).ownBlock ∧ some k_ ≠ ((.slice Ao31 t120031.length co31) : Value).ownBlock ∧ some k_ ≠ ((.slice Ao38 t120019.length co38) : Value).ownBlock) (.slice Ao125 t120041.length co125) t120041) ∧ Aside0 (wc.heap[gb120001]? = some (.cells #[.int .i64 a0_0, (.slice A0_1 l0_1.length c0_1)] 31 (0, 0))) ∧ Aside0 (wc.heap[gb120012]? = some (.cells #[.int .i64 t120007, (.slice Ao24 t120008.length co24)] 27 (0, 0))) ∧ Aside0 (wc.heap[gb120017]? = some (.cells #[.int .i64 t120013, (.slice Ao31 t120031.length co31)] 27 (0, 0))) ∧ Aside0 (wc.heap[gb120023]? = some (.cells #[.int .i64 t120018, (.slice Ao38 t120019.length co38)] 27 (0, 0))) ∧ Aside0 (wc.heap[gb120045]? = some (.cells #[.int .i64 t120040, (.slice Ao125 t120041.length co125)] 27 (0, 0))) ∧ Aside0 (Below w.heap.size w wc))
                      case first =>
                        have H := HC105.out
                        clear HC105
                        replace H := Option.bind_eq_some_iff.mp H
                        obtain ⟨t120046, A1260, H⟩ := H
                        replace H : (if t120046 = true then (laws_FnExactMapMove.j2 kj61 t120033 (t120044 != t120011) t120018 t120034) else (laws_FnExactMapMove.j2 kj61 t120033 true t120018 t120034)) = some r := H
                        have A126 := Aside0.mk A1260
                        clear A1260
                        by_cases c127 : t120046 = true
                        · subst c127
                          have H1 : (laws_FnExactMapMove.j2 kj61 t120033 (t120044 != t120011) t120018 t120034) = some r := by rw [if_pos rfl] at H; exact H
                          clear H
                          have H := H1
                          clear H1
                          have H' := Aside0.mk H
                          clear H
                          have hnb128 := NB120045_120001.out
                          have hnc128 := NB120001_120045.out
                          have hnb129 := NB120045_120012.out
                          have hnc129 := NB120012_120045.out
                          have hnb130 := NB120045_120017.out
                          have hnc130 := NB120017_120045.out
                          have hnb131 := NB120045_120023.out
                          have hnc131 := NB120023_120045.out
                          have hcz132_0 : w119.cell? ⟨gb120045, 0, none⟩ = some (.int .i64 0) := (blk_cell BK120045.out 0).trans rfl
                          have hcz132_1 : w119.cell? ⟨gb120045, 1, none⟩ = some (.slice none 0 0) := (blk_cell BK120045.out 1).trans rfl
                          have hfz132_0 := blk_frozen BK120045.out 0
                          have hfz132_1 := blk_frozen BK120045.out 1
                          have hnb133 := NB120012_120001.out
                          have hnc133 := NB120001_120012.out
                          have hnb134 := NB120012_120017.out
                          have hnc134 := NB120017_120012.out
                          have hnb135 := NB120012_120023.out
                          have hnc135 := NB120023_120012.out
                          have hcz136_0 : w119.cell? ⟨gb120012, 0, none⟩ = some (.int .i64 t120007) := (blk_cell BK120012.out 0).trans rfl
                          have hcz136_1 : w119.cell? ⟨gb120012, 1, none⟩ = some (.slice Ao24 t120008.length co24) := (blk_cell BK120012.out 1).trans rfl
                          have hfz136_0 := blk_frozen BK120012.out 0
                          have hfz136_1 := blk_frozen BK120012.out 1
                          go_wp2_with (first | ((with_reducible refine gate_callee (f := 19) rfl ?_); refine goesL_ (some 91) rfl rfl Try.func19 (by kernel_rfl) rfl #[.agg #[.int .i64 t120040, .slice Ao125 t120041.length co125], .agg #[.int .i64 t120007, .slice Ao24 t120008.length co24]] rfl (by (try simp only [List.map_toArray, List.map_cons, List.map_nil]); first | done | rfl | (simp only [List.length_drop, List.length_take]; rfl)) ?_; (with_reducible refine (laws_eqMap.calls kj61 t120040 _ _ t120041 t120007 _ _ t120008 true _ ?side1 ?side2 ?side3 ?side4 A126.out).mono ?_); (case side1 => refine (Kd.R_reads' (e := 3) (base := w.heap.size) (ok := fun k_ => ((((True ∧ some k_ ≠ (.slice Ao24 t120008.length co24 : Value).ownBlock) ∧ some k_ ≠ (.slice Ao31 t120031.length co31 : Value).ownBlock) ∧ some k_ ≠ (.slice Ao38 t120019.length co38 : Value).ownBlock) ∧ some k_ ≠ (.slice Ao117 t120037.length co117 : Value).ownBlock)) (n := t120041.length) (c := co125) ?_).2.2; exact (by (with_reducible repeat (first | apply Kd.R_alloc | apply Kd.R_drewN | apply Kd.R_drew)); exact (Kd.R_mono (Kd.R_far (p := ⟨gb120045, 1, none⟩) (Kd.R_far (p := ⟨gb120045, 0, none⟩) (Kd.R_types HO120043.out BK120045.out (by decide)) (fun _ hk => hk.2) (.int .i64 t120040)) (fun _ hk => hk.2) (.slice Ao125 t120041.length co125)) (fun _ h_ => h_.1)))); (case side2 => exact (Kd.R_reads' HO120043.out).2.1); (case side3 => refine (Kd.R_reads' (e := 3) (base := w.heap.size) (ok := fun k_ => (((some k_ ≠ (.slice Ao31 t120031.length co31 : Value).ownBlock ∧ some k_ ≠ (.slice Ao38 t120019.length co38 : Value).ownBlock) ∧ some k_ ≠ (.slice Ao117 t120037.length co117 : Value).ownBlock) ∧ some k_ ≠ (.slice Ao125 t120041.length co125 : Value).ownBlock)) (n := t120008.length) (c := co24) ?_).2.2; exact (by (with_reducible repeat (first | apply Kd.R_alloc | apply Kd.R_drewN | apply Kd.R_drew)); exact (Kd.R_mono (Kd.R_far (p := ⟨gb120045, 1, none⟩) (Kd.R_far (p := ⟨gb120045, 0, none⟩) (Kd.R_types HO_120013001.out BK120045.out (by decide)) (fun _ hk => hk.2) (.int .i64 t120040)) (fun _ hk => hk.2) (.slice Ao125 t120041.length co125)) (fun _ h_ => h_.1)))); (case side4 => exact (Kd.R_reads' HO_120013001.out).2.1); rintro e w137 ⟨rfl, hb⟩; refine ⟨_, rfl, ?_⟩; have n0_ := Aside0.mk (Kd.R_below (by (with_reducible repeat (first | apply Kd.R_alloc | apply Kd.R_drewN | apply Kd.R_drew)); exact (Kd.R_mono (Kd.R_far (p := ⟨gb120045, 1, none⟩) (Kd.R_far (p := ⟨gb120045, 0, none⟩) (Kd.R_types HO_120013001.out BK120045.out (by decide)) (fun _ hk => hk.2) (.int .i64 t120040)) (fun _ hk => hk.2) (.slice Ao125 t120041.length co125)) (fun _ h_ => h_.1))) hb); have n1_ := Aside0.mk (Kd.R_below (by (with_reducible repeat (first | apply Kd.R_alloc | apply Kd.R_drewN | apply Kd.R_drew)); exact (Kd.R_mono (Kd.R_far (p := ⟨gb120045, 1, none⟩) (Kd.R_far (p := ⟨gb120045, 0, none⟩) (Kd.R_types HO_120018001.out BK120045.out (by decide)) (fun _ hk => hk.2) (.int .i64 t120040)) (fun _ hk => hk.2) (.slice Ao125 t120041.length co125)) (fun _ h_ => h_.1))) hb); have n2_ := Aside0.mk (Kd.R_below (by (with_reducible repeat (first | apply Kd.R_alloc | apply Kd.R_drewN | apply Kd.R_drew)); exact (Kd.R_mono (Kd.R_far (p := ⟨gb120045, 1, none⟩) (Kd.R_far (p := ⟨gb120045, 0, none⟩) (Kd.R_types HO_120024001.out BK120045.out (by decide)) (fun _ hk => hk.2) (.int .i64 t120040)) (fun _ hk => hk.2) (.slice Ao125 t120041.length co125)) (fun _ h_ => h_.1))) hb); have n3_ := Aside0.mk (Kd.R_below (by (with_reducible repeat (first | apply Kd.R_alloc | apply Kd.R_drewN | apply Kd.R_drew)); exact (Kd.R_mono (Kd.R_far (p := ⟨gb120045, 1, none⟩) (Kd.R_far (p := ⟨gb120045, 0, none⟩) (Kd.R_types HO120039.out BK120045.out (by decide)) (fun _ hk => hk.2) (.int .i64 t120040)) (fun _ hk => hk.2) (.slice Ao125 t120041.length co125)) (fun _ h_ => h_.1))) hb); have n4_ := Aside0.mk (Kd.R_below (by (with_reducible repeat (first | apply Kd.R_alloc | apply Kd.R_drewN | apply Kd.R_drew)); exact (Kd.R_mono (Kd.R_far (p := ⟨gb120045, 1, none⟩) (Kd.R_far (p := ⟨gb120045, 0, none⟩) (Kd.R_types HO120043.out BK120045.out (by decide)) (fun _ hk => hk.2) (.int .i64 t120040)) (fun _ hk => hk.2) (.slice Ao125 t120041.length co125)) (fun _ h_ => h_.1))) hb); have n5_ := Aside0.mk (blk_below (g := gb120001) (o := .cells #[.int .i64 a0_0, .slice A0_1 l0_1.length c0_1] 31 (0, 0)) (by (with_reducible repeat (first | refine blk_drewN ?_ _ | refine blk_drew ?_ | refine blk_alloc ?_ _)); refine blk_far ?_ NB120001_120045.out _; (with_reducible repeat (first | refine blk_drewN ?_ _ | refine blk_drew ?_ | refine blk_alloc ?_ _)); refine blk_far ?_ NB120001_120045.out _; (with_reducible repeat (first | refine blk_drewN ?_ _ | refine blk_drew ?_ | refine blk_alloc ?_ _)); exact BK120001.out) hb); have n6_ := Aside0.mk (blk_below (g := gb120012) (o := .cells #[.int .i64 t120007, .slice Ao24 t120008.length co24] 27 (0, 0)) (by (with_reducible repeat (first | refine blk_drewN ?_ _ | refine blk_drew ?_ | refine blk_alloc ?_ _)); refine blk_far ?_ NB120012_120045.out _; (with_reducible repeat (first | refine blk_drewN ?_ _ | refine blk_drew ?_ | refine blk_alloc ?_ _)); refine blk_far ?_ NB120012_120045.out _; (with_reducible repeat (first | refine blk_drewN ?_ _ | refine blk_drew ?_ | refine blk_alloc ?_ _)); exact BK120012.out) hb); have n7_ := Aside0.mk (blk_below (g := gb120017) (o := .cells #[.int .i64 t120013, .slice Ao31 t120031.length co31] 27 (0, 0)) (by (with_reducible repeat (first | refine blk_drewN ?_ _ | refine blk_drew ?_ | refine blk_alloc ?_ _)); refine blk_far ?_ NB120017_120045.out _; (with_reducible repeat (first | refine blk_drewN ?_ _ | refine blk_drew ?_ | refine blk_alloc ?_ _)); refine blk_far ?_ NB120017_120045.out _; (with_reducible repeat (first | refine blk_drewN ?_ _ | refine blk_drew ?_ | refine blk_alloc ?_ _)); exact BK120017.out) hb); have n8_ := Aside0.mk (blk_below (g := gb120023) (o := .cells #[.int .i64 t120018, .slice Ao38 t120019.length co38] 27 (0, 0)) (by (with_reducible repeat (first | refine blk_drewN ?_ _ | refine blk_drew ?_ | refine blk_alloc ?_ _)); refine blk_far ?_ NB120023_120045.out _; (with_reducible repeat (first | refine blk_drewN ?_ _ | refine blk_drew ?_ | refine blk_alloc ?_ _)); refine blk_far ?_ NB120023_120045.out _; (with_reducible repeat (first | refine blk_drewN ?_ _ | refine blk_drew ?_ | refine blk_alloc ?_ _)); exact BK120023.out) hb); have n9_ := Aside0.mk (blk_below (g := gb120045) (o := .cells #[.int .i64 t120040, .slice Ao125 t120041.length co125] 27 (0, 0)) (by (with_reducible repeat (first | refine blk_drewN ?_ _ | refine blk_drew ?_ | refine blk_alloc ?_ _)); refine blk_put (cs := #[.int .i64 t120040, .slice none 0 0]) ?_ 1 _ rfl; (with_reducible repeat (first | refine blk_drewN ?_ _ | refine blk_drew ?_ | refine blk_alloc ?_ _)); refine blk_put (cs := #[.int .i64 0, .slice none 0 0]) ?_ 0 _ rfl; (with_reducible repeat (first | refine blk_drewN ?_ _ | refine blk_drew ?_ | refine blk_alloc ?_ _)); exact BK120045.out) hb); have n10_ := Aside0.mk (below_step (by repeat (first | (with_reducible first | exact HB.out | apply below_alloc | apply pw_below_drewN | apply below_drew1 | refine below_set ?_ GE120001.out | refine below_set ?_ GE120012.out | refine below_set ?_ GE120017.out | refine below_set ?_ GE120023.out | refine below_set ?_ GE120045.out) | exact HB.out)) hb); clear HO_120013001; clear HO_120018001; clear HO_120024001; clear HO120039; clear HO120043; clear BK120001; clear BK120012; clear BK120017; clear BK120023; clear BK120045; clear HB; have HO_120013001 := n0_; have HO_120018001 := n1_; have HO_120024001 := n2_; have HO120039 := n3_; have HO120043 := n4_; have BK120001 := n5_; have BK120012 := n6_; have BK120017 := n7_; have BK120023 := n8_; have BK120045 := n9_; have HB := n10_; clear n0_ n1_ n2_ n3_ n4_ n5_ n6_ n7_ n8_ n9_ n10_; (try clear hb); (try clear hb2); (try clear hk); (try clear hi)))
                          go_meet
                          case rel => exact ⟨_, ((t120044 != t120011)), (by first | rfl | (simp; done) | (simp [*]; done)), H', ⟨by have := HJ12.out; have := HJ61.out; first | omega | exact Nat.le_refl _⟩, ⟨by (try simp only [hl120018001_61]); (with_reducible repeat (first | apply Kd.R_alloc | apply Kd.R_drewN | apply Kd.R_drew)); exact Kd.R_mono HO_120013001.out (fun _ hk => ⟨hk.1.1.1, ⟨hk.1.1.2, hk.2⟩⟩)⟩, ⟨by (try simp only [hl120018001_61]); (with_reducible repeat (first | apply Kd.R_alloc | apply Kd.R_drewN | apply Kd.R_drew)); exact Kd.R_mono HO_120018001.out (fun _ hk => ⟨hk.1.1.1, ⟨hk.1.1.2, hk.2⟩⟩)⟩, ⟨by (try simp only [hl120018001_61]); (with_reducible repeat (first | apply Kd.R_alloc | apply Kd.R_drewN | apply Kd.R_drew)); exact Kd.R_mono HO_120024001.out (fun _ hk => ⟨hk.1.1.1, ⟨hk.1.1.2, hk.2⟩⟩)⟩, ⟨by (try simp only [hl120018001_61]); (with_reducible repeat (first | apply Kd.R_alloc | apply Kd.R_drewN | apply Kd.R_drew)); exact Kd.R_mono HO120043.out (fun _ hk => ⟨hk.1.1.1.2, ⟨hk.1.1.2, hk.1.2⟩⟩)⟩, ⟨by (try simp only [hl120018001_61]); (with_reducible repeat (first | refine blk_drewN ?_ _ | refine blk_drew ?_ | refine blk_alloc ?_ _)); exact BK120001.out⟩, ⟨by (try simp only [hl120018001_61]); (with_reducible repeat (first | refine blk_drewN ?_ _ | refine blk_drew ?_ | refine blk_alloc ?_ _)); exact BK120012.out⟩, ⟨by (try simp only [hl120018001_61]); (with_reducible repeat (first | refine blk_drewN ?_ _ | refine blk_drew ?_ | refine blk_alloc ?_ _)); exact BK120017.out⟩, ⟨by (try simp only [hl120018001_61]); (with_reducible repeat (first | refine blk_drewN ?_ _ | refine blk_drew ?_ | refine blk_alloc ?_ _)); exact BK120023.out⟩, ⟨by (try simp only [hl120018001_61]); (with_reducible repeat (first | refine blk_drewN ?_ _ | refine blk_drew ?_ | refine blk_alloc ?_ _)); exact BK120045.out⟩, ⟨by repeat (first | (with_reducible first | exact HB.out | apply below_alloc | apply pw_below_drewN | apply below_drew1 | refine below_set ?_ GE120001.out | refine below_set ?_ GE120012.out | refine below_set ?_ GE120017.out | refine below_set ?_ GE120023.out | refine below_set ?_ GE120045.out) | exact HB.out)⟩⟩
                        · replace c127 := Bool.eq_false_iff.mpr c127
                          subst c127
                          have H1 : (laws_FnExactMapMove.j2 kj61 t120033 true t120018 t120034) = some r := by rw [if_neg (show ¬ (false = true) by decide)] at H; exact H
                          clear H
                          have H := H1
                          clear H1
                          have H' := Aside0.mk H
                          clear H
                          have hnb138 := NB120045_120001.out
                          have hnc138 := NB120001_120045.out
                          have hnb139 := NB120045_120012.out
                          have hnc139 := NB120012_120045.out
                          have hnb140 := NB120045_120017.out
                          have hnc140 := NB120017_120045.out
                          have hnb141 := NB120045_120023.out
                          have hnc141 := NB120023_120045.out
                          have hcz142_0 : w119.cell? ⟨gb120045, 0, none⟩ = some (.int .i64 0) := (blk_cell BK120045.out 0).trans rfl
                          have hcz142_1 : w119.cell? ⟨gb120045, 1, none⟩ = some (.slice none 0 0) := (blk_cell BK120045.out 1).trans rfl
                          have hfz142_0 := blk_frozen BK120045.out 0
                          have hfz142_1 := blk_frozen BK120045.out 1
                          have hnb143 := NB120012_120001.out
                          have hnc143 := NB120001_120012.out
                          have hnb144 := NB120012_120017.out
                          have hnc144 := NB120017_120012.out
                          have hnb145 := NB120012_120023.out
                          have hnc145 := NB120023_120012.out
                          have hcz146_0 : w119.cell? ⟨gb120012, 0, none⟩ = some (.int .i64 t120007) := (blk_cell BK120012.out 0).trans rfl
                          have hcz146_1 : w119.cell? ⟨gb120012, 1, none⟩ = some (.slice Ao24 t120008.length co24) := (blk_cell BK120012.out 1).trans rfl
                          have hfz146_0 := blk_frozen BK120012.out 0
                          have hfz146_1 := blk_frozen BK120012.out 1
                          go_wp2_with (first | ((with_reducible refine gate_callee (f := 19) rfl ?_); refine goesL_ (some 91) rfl rfl Try.func19 (by kernel_rfl) rfl #[.agg #[.int .i64 t120040, .slice Ao125 t120041.length co125], .agg #[.int .i64 t120007, .slice Ao24 t120008.length co24]] rfl (by (try simp only [List.map_toArray, List.map_cons, List.map_nil]); first | done | rfl | (simp only [List.length_drop, List.length_take]; rfl)) ?_; (with_reducible refine (laws_eqMap.calls kj61 t120040 _ _ t120041 t120007 _ _ t120008 false _ ?side1 ?side2 ?side3 ?side4 A126.out).mono ?_); (case side1 => refine (Kd.R_reads' (e := 3) (base := w.heap.size) (ok := fun k_ => ((((True ∧ some k_ ≠ (.slice Ao24 t120008.length co24 : Value).ownBlock) ∧ some k_ ≠ (.slice Ao31 t120031.length co31 : Value).ownBlock) ∧ some k_ ≠ (.slice Ao38 t120019.length co38 : Value).ownBlock) ∧ some k_ ≠ (.slice Ao117 t120037.length co117 : Value).ownBlock)) (n := t120041.length) (c := co125) ?_).2.2; exact (by (with_reducible repeat (first | apply Kd.R_alloc | apply Kd.R_drewN | apply Kd.R_drew)); exact (Kd.R_mono (Kd.R_far (p := ⟨gb120045, 1, none⟩) (Kd.R_far (p := ⟨gb120045, 0, none⟩) (Kd.R_types HO120043.out BK120045.out (by decide)) (fun _ hk => hk.2) (.int .i64 t120040)) (fun _ hk => hk.2) (.slice Ao125 t120041.length co125)) (fun _ h_ => h_.1)))); (case side2 => exact (Kd.R_reads' HO120043.out).2.1); (case side3 => refine (Kd.R_reads' (e := 3) (base := w.heap.size) (ok := fun k_ => (((some k_ ≠ (.slice Ao31 t120031.length co31 : Value).ownBlock ∧ some k_ ≠ (.slice Ao38 t120019.length co38 : Value).ownBlock) ∧ some k_ ≠ (.slice Ao117 t120037.length co117 : Value).ownBlock) ∧ some k_ ≠ (.slice Ao125 t120041.length co125 : Value).ownBlock)) (n := t120008.length) (c := co24) ?_).2.2; exact (by (with_reducible repeat (first | apply Kd.R_alloc | apply Kd.R_drewN | apply Kd.R_drew)); exact (Kd.R_mono (Kd.R_far (p := ⟨gb120045, 1, none⟩) (Kd.R_far (p := ⟨gb120045, 0, none⟩) (Kd.R_types HO_120013001.out BK120045.out (by decide)) (fun _ hk => hk.2) (.int .i64 t120040)) (fun _ hk => hk.2) (.slice Ao125 t120041.length co125)) (fun _ h_ => h_.1)))); (case side4 => exact (Kd.R_reads' HO_120013001.out).2.1); rintro e w147 ⟨rfl, hb⟩; refine ⟨_, rfl, ?_⟩; have n0_ := Aside0.mk (Kd.R_below (by (with_reducible repeat (first | apply Kd.R_alloc | apply Kd.R_drewN | apply Kd.R_drew)); exact (Kd.R_mono (Kd.R_far (p := ⟨gb120045, 1, none⟩) (Kd.R_far (p := ⟨gb120045, 0, none⟩) (Kd.R_types HO_120013001.out BK120045.out (by decide)) (fun _ hk => hk.2) (.int .i64 t120040)) (fun _ hk => hk.2) (.slice Ao125 t120041.length co125)) (fun _ h_ => h_.1))) hb); have n1_ := Aside0.mk (Kd.R_below (by (with_reducible repeat (first | apply Kd.R_alloc | apply Kd.R_drewN | apply Kd.R_drew)); exact (Kd.R_mono (Kd.R_far (p := ⟨gb120045, 1, none⟩) (Kd.R_far (p := ⟨gb120045, 0, none⟩) (Kd.R_types HO_120018001.out BK120045.out (by decide)) (fun _ hk => hk.2) (.int .i64 t120040)) (fun _ hk => hk.2) (.slice Ao125 t120041.length co125)) (fun _ h_ => h_.1))) hb); have n2_ := Aside0.mk (Kd.R_below (by (with_reducible repeat (first | apply Kd.R_alloc | apply Kd.R_drewN | apply Kd.R_drew)); exact (Kd.R_mono (Kd.R_far (p := ⟨gb120045, 1, none⟩) (Kd.R_far (p := ⟨gb120045, 0, none⟩) (Kd.R_types HO_120024001.out BK120045.out (by decide)) (fun _ hk => hk.2) (.int .i64 t120040)) (fun _ hk => hk.2) (.slice Ao125 t120041.length co125)) (fun _ h_ => h_.1))) hb); have n3_ := Aside0.mk (Kd.R_below (by (with_reducible repeat (first | apply Kd.R_alloc | apply Kd.R_drewN | apply Kd.R_drew)); exact (Kd.R_mono (Kd.R_far (p := ⟨gb120045, 1, none⟩) (Kd.R_far (p := ⟨gb120045, 0, none⟩) (Kd.R_types HO120039.out BK120045.out (by decide)) (fun _ hk => hk.2) (.int .i64 t120040)) (fun _ hk => hk.2) (.slice Ao125 t120041.length co125)) (fun _ h_ => h_.1))) hb); have n4_ := Aside0.mk (Kd.R_below (by (with_reducible repeat (first | apply Kd.R_alloc | apply Kd.R_drewN | apply Kd.R_drew)); exact (Kd.R_mono (Kd.R_far (p := ⟨gb120045, 1, none⟩) (Kd.R_far (p := ⟨gb120045, 0, none⟩) (Kd.R_types HO120043.out BK120045.out (by decide)) (fun _ hk => hk.2) (.int .i64 t120040)) (fun _ hk => hk.2) (.slice Ao125 t120041.length co125)) (fun _ h_ => h_.1))) hb); have n5_ := Aside0.mk (blk_below (g := gb120001) (o := .cells #[.int .i64 a0_0, .slice A0_1 l0_1.length c0_1] 31 (0, 0)) (by (with_reducible repeat (first | refine blk_drewN ?_ _ | refine blk_drew ?_ | refine blk_alloc ?_ _)); refine blk_far ?_ NB120001_120045.out _; (with_reducible repeat (first | refine blk_drewN ?_ _ | refine blk_drew ?_ | refine blk_alloc ?_ _)); refine blk_far ?_ NB120001_120045.out _; (with_reducible repeat (first | refine blk_drewN ?_ _ | refine blk_drew ?_ | refine blk_alloc ?_ _)); exact BK120001.out) hb); have n6_ := Aside0.mk (blk_below (g := gb120012) (o := .cells #[.int .i64 t120007, .slice Ao24 t120008.length co24] 27 (0, 0)) (by (with_reducible repeat (first | refine blk_drewN ?_ _ | refine blk_drew ?_ | refine blk_alloc ?_ _)); refine blk_far ?_ NB120012_120045.out _; (with_reducible repeat (first | refine blk_drewN ?_ _ | refine blk_drew ?_ | refine blk_alloc ?_ _)); refine blk_far ?_ NB120012_120045.out _; (with_reducible repeat (first | refine blk_drewN ?_ _ | refine blk_drew ?_ | refine blk_alloc ?_ _)); exact BK120012.out) hb); have n7_ := Aside0.mk (blk_below (g := gb120017) (o := .cells #[.int .i64 t120013, .slice Ao31 t120031.length co31] 27 (0, 0)) (by (with_reducible repeat (first | refine blk_drewN ?_ _ | refine blk_drew ?_ | refine blk_alloc ?_ _)); refine blk_far ?_ NB120017_120045.out _; (with_reducible repeat (first | refine blk_drewN ?_ _ | refine blk_drew ?_ | refine blk_alloc ?_ _)); refine blk_far ?_ NB120017_120045.out _; (with_reducible repeat (first | refine blk_drewN ?_ _ | refine blk_drew ?_ | refine blk_alloc ?_ _)); exact BK120017.out) hb); have n8_ := Aside0.mk (blk_below (g := gb120023) (o := .cells #[.int .i64 t120018, .slice Ao38 t120019.length co38] 27 (0, 0)) (by (with_reducible repeat (first | refine blk_drewN ?_ _ | refine blk_drew ?_ | refine blk_alloc ?_ _)); refine blk_far ?_ NB120023_120045.out _; (with_reducible repeat (first | refine blk_drewN ?_ _ | refine blk_drew ?_ | refine blk_alloc ?_ _)); refine blk_far ?_ NB120023_120045.out _; (with_reducible repeat (first | refine blk_drewN ?_ _ | refine blk_drew ?_ | refine blk_alloc ?_ _)); exact BK120023.out) hb); have n9_ := Aside0.mk (blk_below (g := gb120045) (o := .cells #[.int .i64 t120040, .slice Ao125 t120041.length co125] 27 (0, 0)) (by (with_reducible repeat (first | refine blk_drewN ?_ _ | refine blk_drew ?_ | refine blk_alloc ?_ _)); refine blk_put (cs := #[.int .i64 t120040, .slice none 0 0]) ?_ 1 _ rfl; (with_reducible repeat (first | refine blk_drewN ?_ _ | refine blk_drew ?_ | refine blk_alloc ?_ _)); refine blk_put (cs := #[.int .i64 0, .slice none 0 0]) ?_ 0 _ rfl; (with_reducible repeat (first | refine blk_drewN ?_ _ | refine blk_drew ?_ | refine blk_alloc ?_ _)); exact BK120045.out) hb); have n10_ := Aside0.mk (below_step (by repeat (first | (with_reducible first | exact HB.out | apply below_alloc | apply pw_below_drewN | apply below_drew1 | refine below_set ?_ GE120001.out | refine below_set ?_ GE120012.out | refine below_set ?_ GE120017.out | refine below_set ?_ GE120023.out | refine below_set ?_ GE120045.out) | exact HB.out)) hb); clear HO_120013001; clear HO_120018001; clear HO_120024001; clear HO120039; clear HO120043; clear BK120001; clear BK120012; clear BK120017; clear BK120023; clear BK120045; clear HB; have HO_120013001 := n0_; have HO_120018001 := n1_; have HO_120024001 := n2_; have HO120039 := n3_; have HO120043 := n4_; have BK120001 := n5_; have BK120012 := n6_; have BK120017 := n7_; have BK120023 := n8_; have BK120045 := n9_; have HB := n10_; clear n0_ n1_ n2_ n3_ n4_ n5_ n6_ n7_ n8_ n9_ n10_; (try clear hb); (try clear hb2); (try clear hk); (try clear hi)))
                          go_meet
                          case rel => exact ⟨_, (true), (by first | rfl | (simp; done) | (simp [*]; done)), H', ⟨by have := HJ12.out; have := HJ61.out; first | omega | exact Nat.le_refl _⟩, ⟨by (try simp only [hl120018001_61]); (with_reducible repeat (first | apply Kd.R_alloc | apply Kd.R_drewN | apply Kd.R_drew)); exact Kd.R_mono HO_120013001.out (fun _ hk => ⟨hk.1.1.1, ⟨hk.1.1.2, hk.2⟩⟩)⟩, ⟨by (try simp only [hl120018001_61]); (with_reducible repeat (first | apply Kd.R_alloc | apply Kd.R_drewN | apply Kd.R_drew)); exact Kd.R_mono HO_120018001.out (fun _ hk => ⟨hk.1.1.1, ⟨hk.1.1.2, hk.2⟩⟩)⟩, ⟨by (try simp only [hl120018001_61]); (with_reducible repeat (first | apply Kd.R_alloc | apply Kd.R_drewN | apply Kd.R_drew)); exact Kd.R_mono HO_120024001.out (fun _ hk => ⟨hk.1.1.1, ⟨hk.1.1.2, hk.2⟩⟩)⟩, ⟨by (try simp only [hl120018001_61]); (with_reducible repeat (first | apply Kd.R_alloc | apply Kd.R_drewN | apply Kd.R_drew)); exact Kd.R_mono HO120043.out (fun _ hk => ⟨hk.1.1.1.2, ⟨hk.1.1.2, hk.1.2⟩⟩)⟩, ⟨by (try simp only [hl120018001_61]); (with_reducible repeat (first | refine blk_drewN ?_ _ | refine blk_drew ?_ | refine blk_alloc ?_ _)); exact BK120001.out⟩, ⟨by (try simp only [hl120018001_61]); (with_reducible repeat (first | refine blk_drewN ?_ _ | refine blk_drew ?_ | refine blk_alloc ?_ _)); exact BK120012.out⟩, ⟨by (try simp only [hl120018001_61]); (with_reducible repeat (first | refine blk_drewN ?_ _ | refine blk_drew ?_ | refine blk_alloc ?_ _)); exact BK120017.out⟩, ⟨by (try simp only [hl120018001_61]); (with_reducible repeat (first | refine blk_drewN ?_ _ | refine blk_drew ?_ | refine blk_alloc ?_ _)); exact BK120023.out⟩, ⟨by (try simp only [hl120018001_61]); (with_reducible repeat (first | refine blk_drewN ?_ _ | refine blk_drew ?_ | refine blk_alloc ?_ _)); exact BK120045.out⟩, ⟨by repeat (first | (with_reducible first | exact HB.out | apply below_alloc | apply pw_below_drewN | apply below_drew1 | refine below_set ?_ GE120001.out | refine below_set ?_ GE120012.out | refine below_set ?_ GE120017.out | refine below_set ?_ GE120023.out | refine below_set ?_ GE120045.out) | exact HB.out)⟩⟩
                      case rest =>
                        clear HC105
                        try clear c1
                        try clear c2
                        try clear p2
                        try clear c3
                        try clear c4
                        try clear c5
                        try clear c5b0
                        try clear c6
                        try clear c7
                        try clear c8
                        try clear c9
                        try clear c10
                        try clear c11
                        try clear c12
                        try clear c13
                        try clear c14
                        try clear c19
                        try clear c20
                        try clear c21
                        try clear c22
                        try clear c24
                        try clear c28
                        try clear c29
                        try clear c30
                        try clear c34
                        try clear c35
                        try clear c36
                        try clear c40
                        try clear c41
                        try clear c42
                        try clear c43
                        try clear c45
                        try clear c46
                        try clear c49
                        try clear c50
                        try clear c51
                        try clear c53
                        try clear c54
                        try clear c57
                        try clear c60
                        try clear c67
                        try clear c68
                        try clear c69
                        try clear c72
                        try clear c72b0
                        try clear c74
                        try clear c75
                        try clear c76
                        try clear c77
                        try clear c79
                        try clear c80
                        try clear c83
                        try clear c84
                        try clear c85
                        try clear c87
                        try clear c88
                        try clear c91
                        try clear c94
                        try clear c94b0
                        try clear c95
                        try clear c96
                        try clear c97
                        try clear c102
                        try clear c102b0
                        try clear c102b1
                        try clear c106
                        try clear c107
                        try clear c108
                        try clear c113
                        try clear c114
                        try clear c120
                        try clear c121
                        try clear c122
                        try clear c123
                        try clear c127
                        try clear c128
                        try clear c129
                        try clear c130
                        try clear c131
                        try clear c133
                        try clear c134
                        try clear c135
                        try clear c138
                        try clear c139
                        try clear c140
                        try clear c141
                        try clear c143
                        try clear c144
                        try clear c145
                        try clear hcz100_0
                        try clear hcz100_1
                        try clear hcz109_0
                        try clear hcz109_1
                        try clear hcz111_0
                        try clear hcz111_1
                        try clear hcz115_0
                        try clear hcz115_1
                        try clear hcz124_0
                        try clear hcz124_1
                        try clear hcz132_0
                        try clear hcz132_1
                        try clear hcz136_0
                        try clear hcz136_1
                        try clear hcz142_0
                        try clear hcz142_1
                        try clear hcz146_0
                        try clear hcz146_1
                        try clear hcz15_0
                        try clear hcz15_1
                        try clear hcz17_0
                        try clear hcz17_1
                        try clear hcz23_0
                        try clear hcz23_1
                        try clear hcz25_0
                        try clear hcz25_1
                        try clear hcz30_0
                        try clear hcz30_1
                        try clear hcz37_0
                        try clear hcz37_1
                        try clear hcz44_0
                        try clear hcz44_1
                        try clear hcz47_0
                        try clear hcz47_1
                        try clear hcz52_0
                        try clear hcz52_1
                        try clear hcz55_0
                        try clear hcz55_1
                        try clear hcz70_0
                        try clear hcz70_1
                        try clear hcz78_0
                        try clear hcz78_1
                        try clear hcz7_0
                        try clear hcz7_1
                        try clear hcz81_0
                        try clear hcz81_1
                        try clear hcz86_0
                        try clear hcz86_1
                        try clear hcz89_0
                        try clear hcz89_1
                        try clear hcz98_0
                        try clear hcz98_1
                        try clear hfz100_0
                        try clear hfz100_1
                        try clear hfz109_0
                        try clear hfz109_1
                        try clear hfz111_0
                        try clear hfz111_1
                        try clear hfz115_0
                        try clear hfz115_1
                        try clear hfz124_0
                        try clear hfz124_1
                        try clear hfz132_0
                        try clear hfz132_1
                        try clear hfz136_0
                        try clear hfz136_1
                        try clear hfz142_0
                        try clear hfz142_1
                        try clear hfz146_0
                        try clear hfz146_1
                        try clear hfz15_0
                        try clear hfz15_1
                        try clear hfz17_0
                        try clear hfz17_1
                        try clear hfz23_0
                        try clear hfz23_1
                        try clear hfz25_0
                        try clear hfz25_1
                        try clear hfz30_0
                        try clear hfz30_1
                        try clear hfz37_0
                        try clear hfz37_1
                        try clear hfz44_0
                        try clear hfz44_1
                        try clear hfz47_0
                        try clear hfz47_1
                        try clear hfz52_0
                        try clear hfz52_1
                        try clear hfz55_0
                        try clear hfz55_1
                        try clear hfz70_0
                        try clear hfz70_1
                        try clear hfz78_0
                        try clear hfz78_1
                        try clear hfz7_0
                        try clear hfz7_1
                        try clear hfz81_0
                        try clear hfz81_1
                        try clear hfz86_0
                        try clear hfz86_1
                        try clear hfz89_0
                        try clear hfz89_1
                        try clear hfz98_0
                        try clear hfz98_1
                        try clear p2
                        obtain ⟨kq, x97_104, rfl, HA, HJ104, HO_120013001, HO_120018001, HO_120024001, HO_120046001, BK120001, BK120012, BK120017, BK120023, BK120045, HB⟩ := hcut
                        have hl120024001_104 := (Kd.R_reads' HO_120024001.out).1
                        rw [hl120024001_104] at HO_120024001
                        (try simp only [hl120024001_104])
                        (try simp only [hl120024001_104] at BK120001)
                        (try simp only [hl120024001_104] at BK120012)
                        (try simp only [hl120024001_104] at BK120017)
                        (try simp only [hl120024001_104] at BK120023)
                        (try simp only [hl120024001_104] at BK120045)
                        (try simp only [hl120024001_104] at HO_120013001)
                        (try simp only [hl120024001_104] at HO_120018001)
                        (try simp only [hl120024001_104] at HO_120046001)
                        cases kq with
                        | zero => exact absurd HA.out (by simp [laws_FnExactMapMove.j2])
                        | succ kj104 =>
                          have H := HA.out
                          clear HA
                          simp only [laws_FnExactMapMove.j2] at H
                          by_cases c148 : x97_104 = true
                          · subst c148
                            have H1 : (some false) = some r := by rw [if_pos rfl] at H; exact H
                            clear H
                            have H := H1
                            clear H1
                            obtain rfl := Option.some.inj H
                            go_wp2
                            go_ret
                            exact ⟨by first | rfl | (simp [errW_none, errW_some] <;> rfl) | (simp [*, errW_none, errW_some] <;> rfl), by repeat (first | (with_reducible first | exact HB.out | apply below_alloc | apply pw_below_drewN | apply below_drew1 | refine below_set ?_ GE120001.out | refine below_set ?_ GE120012.out | refine below_set ?_ GE120017.out | refine below_set ?_ GE120023.out | refine below_set ?_ GE120045.out) | exact HB.out)⟩
                          · replace c148 := Bool.eq_false_iff.mpr c148
                            subst c148
                            have H1 : ((laws_heldMap.f kj104 t120018 t120034 1).bind fun t120047 => (if t120047 < 0 then (some false) else (if t120047 = t120033 then (some true) else (some false)))) = some r := by rw [if_neg (show ¬ (false = true) by decide)] at H; exact H
                            clear H
                            have H := H1
                            clear H1
                            replace H := Option.bind_eq_some_iff.mp H
                            obtain ⟨t120047, A1490, H⟩ := H
                            replace H : (if t120047 < 0 then (some false) else (if t120047 = t120033 then (some true) else (some false))) = some r := H
                            have A149 := Aside0.mk A1490
                            clear A1490
                            by_cases c150 : t120047 < 0
                            · rw [if_pos c150] at H
                              have c150b0 : decide (t120047 < 0) = true := decide_eq_true c150
                              clear c150
                              obtain rfl := Option.some.inj H
                              have hnb151 := NB120023_120001.out
                              have hnc151 := NB120001_120023.out
                              have hnb152 := NB120023_120012.out
                              have hnc152 := NB120012_120023.out
                              have hnb153 := NB120023_120017.out
                              have hnc153 := NB120017_120023.out
                              have hnb154 := NB120023_120045.out
                              have hnc154 := NB120045_120023.out
                              have hcz155_0 : wc.cell? ⟨gb120023, 0, none⟩ = some (.int .i64 t120018) := (blk_cell BK120023.out 0).trans rfl
                              have hcz155_1 : wc.cell? ⟨gb120023, 1, none⟩ = some (.slice Ao38 t120034.length co38) := (blk_cell BK120023.out 1).trans rfl
                              have hfz155_0 := blk_frozen BK120023.out 0
                              have hfz155_1 := blk_frozen BK120023.out 1
                              go_wp2_with (first | ((with_reducible refine gate_callee (f := 21) rfl ?_); refine goesL_ (some 100) rfl rfl Try.func21 (by kernel_rfl) rfl #[.agg #[.int .i64 t120018, .slice Ao38 t120034.length co38], .int .i64 1] rfl (by (try simp only [List.map_toArray, List.map_cons, List.map_nil]); first | done | rfl | (simp only [List.length_drop, List.length_take]; rfl)) ?_; (with_reducible refine (laws_heldMap.calls kj104 t120018 _ _ t120034 1 t120047 _ ?side1 ?side2 A149.out).mono ?_); (case side1 => repeat (first | exact (Kd.R_reads' HO_120024001.out).2.2 | (with_reducible refine Kd.C_alloc ?_ _) | (with_reducible refine Kd.C_drewN ?_ _) | (with_reducible refine Kd.C_drew ?_))); (case side2 => exact (Kd.R_reads' HO_120024001.out).2.1); rintro e w156 ⟨rfl, hb⟩; refine ⟨_, rfl, ?_⟩; have n0_ := Aside0.mk (Kd.R_below (by (with_reducible repeat (first | apply Kd.R_alloc | apply Kd.R_drewN | apply Kd.R_drew)); exact HO_120013001.out) hb); have n1_ := Aside0.mk (Kd.R_below (by (with_reducible repeat (first | apply Kd.R_alloc | apply Kd.R_drewN | apply Kd.R_drew)); exact HO_120018001.out) hb); have n2_ := Aside0.mk (Kd.R_below (by (with_reducible repeat (first | apply Kd.R_alloc | apply Kd.R_drewN | apply Kd.R_drew)); exact HO_120024001.out) hb); have n3_ := Aside0.mk (Kd.R_below (by (with_reducible repeat (first | apply Kd.R_alloc | apply Kd.R_drewN | apply Kd.R_drew)); exact HO_120046001.out) hb); have n4_ := Aside0.mk (blk_below (g := gb120001) (o := .cells #[.int .i64 a0_0, .slice A0_1 l0_1.length c0_1] 31 (0, 0)) (by (with_reducible repeat (first | refine blk_drewN ?_ _ | refine blk_drew ?_ | refine blk_alloc ?_ _)); exact BK120001.out) hb); have n5_ := Aside0.mk (blk_below (g := gb120012) (o := .cells #[.int .i64 t120007, .slice Ao24 t120008.length co24] 27 (0, 0)) (by (with_reducible repeat (first | refine blk_drewN ?_ _ | refine blk_drew ?_ | refine blk_alloc ?_ _)); exact BK120012.out) hb); have n6_ := Aside0.mk (blk_below (g := gb120017) (o := .cells #[.int .i64 t120013, .slice Ao31 t120031.length co31] 27 (0, 0)) (by (with_reducible repeat (first | refine blk_drewN ?_ _ | refine blk_drew ?_ | refine blk_alloc ?_ _)); exact BK120017.out) hb); have n7_ := Aside0.mk (blk_below (g := gb120023) (o := .cells #[.int .i64 t120018, .slice Ao38 t120034.length co38] 27 (0, 0)) (by (with_reducible repeat (first | refine blk_drewN ?_ _ | refine blk_drew ?_ | refine blk_alloc ?_ _)); exact BK120023.out) hb); have n8_ := Aside0.mk (blk_below (g := gb120045) (o := .cells #[.int .i64 t120040, .slice Ao125 t120041.length co125] 27 (0, 0)) (by (with_reducible repeat (first | refine blk_drewN ?_ _ | refine blk_drew ?_ | refine blk_alloc ?_ _)); exact BK120045.out) hb); have n9_ := Aside0.mk (below_step (by repeat (first | (with_reducible first | exact HB.out | apply below_alloc | apply pw_below_drewN | apply below_drew1 | refine below_set ?_ GE120001.out | refine below_set ?_ GE120012.out | refine below_set ?_ GE120017.out | refine below_set ?_ GE120023.out | refine below_set ?_ GE120045.out) | exact HB.out)) hb); clear HO_120013001; clear HO_120018001; clear HO_120024001; clear HO_120046001; clear BK120001; clear BK120012; clear BK120017; clear BK120023; clear BK120045; clear HB; have HO_120013001 := n0_; have HO_120018001 := n1_; have HO_120024001 := n2_; have HO_120046001 := n3_; have BK120001 := n4_; have BK120012 := n5_; have BK120017 := n6_; have BK120023 := n7_; have BK120045 := n8_; have HB := n9_; clear n0_ n1_ n2_ n3_ n4_ n5_ n6_ n7_ n8_ n9_; (try clear hb); (try clear hb2); (try clear hk); (try clear hi)))
                              go_ret
                              exact ⟨by first | rfl | (simp [errW_none, errW_some] <;> rfl) | (simp [*, errW_none, errW_some] <;> rfl), by repeat (first | (with_reducible first | exact HB.out | apply below_alloc | apply pw_below_drewN | apply below_drew1 | refine below_set ?_ GE120001.out | refine below_set ?_ GE120012.out | refine below_set ?_ GE120017.out | refine below_set ?_ GE120023.out | refine below_set ?_ GE120045.out) | exact HB.out)⟩
                            · rw [if_neg c150] at H
                              have c150b0 : decide (t120047 < 0) = false := decide_eq_false c150
                              clear c150
                              by_cases c157 : t120047 = t120033
                              · rw [if_pos c157] at H
                                have c157b0 : (t120047 == t120033) = true := beq_iff_eq.mpr c157
                                have c157b1 : (t120047 != t120033) = false := bne_eq_false_iff_eq.mpr c157
                                clear c157
                                obtain rfl := Option.some.inj H
                                have hnb158 := NB120023_120001.out
                                have hnc158 := NB120001_120023.out
                                have hnb159 := NB120023_120012.out
                                have hnc159 := NB120012_120023.out
                                have hnb160 := NB120023_120017.out
                                have hnc160 := NB120017_120023.out
                                have hnb161 := NB120023_120045.out
                                have hnc161 := NB120045_120023.out
                                have hcz162_0 : wc.cell? ⟨gb120023, 0, none⟩ = some (.int .i64 t120018) := (blk_cell BK120023.out 0).trans rfl
                                have hcz162_1 : wc.cell? ⟨gb120023, 1, none⟩ = some (.slice Ao38 t120034.length co38) := (blk_cell BK120023.out 1).trans rfl
                                have hfz162_0 := blk_frozen BK120023.out 0
                                have hfz162_1 := blk_frozen BK120023.out 1
                                go_wp2_with (first | ((with_reducible refine gate_callee (f := 21) rfl ?_); refine goesL_ (some 100) rfl rfl Try.func21 (by kernel_rfl) rfl #[.agg #[.int .i64 t120018, .slice Ao38 t120034.length co38], .int .i64 1] rfl (by (try simp only [List.map_toArray, List.map_cons, List.map_nil]); first | done | rfl | (simp only [List.length_drop, List.length_take]; rfl)) ?_; (with_reducible refine (laws_heldMap.calls kj104 t120018 _ _ t120034 1 t120047 _ ?side1 ?side2 A149.out).mono ?_); (case side1 => repeat (first | exact (Kd.R_reads' HO_120024001.out).2.2 | (with_reducible refine Kd.C_alloc ?_ _) | (with_reducible refine Kd.C_drewN ?_ _) | (with_reducible refine Kd.C_drew ?_))); (case side2 => exact (Kd.R_reads' HO_120024001.out).2.1); rintro e w163 ⟨rfl, hb⟩; refine ⟨_, rfl, ?_⟩; have n0_ := Aside0.mk (Kd.R_below (by (with_reducible repeat (first | apply Kd.R_alloc | apply Kd.R_drewN | apply Kd.R_drew)); exact HO_120013001.out) hb); have n1_ := Aside0.mk (Kd.R_below (by (with_reducible repeat (first | apply Kd.R_alloc | apply Kd.R_drewN | apply Kd.R_drew)); exact HO_120018001.out) hb); have n2_ := Aside0.mk (Kd.R_below (by (with_reducible repeat (first | apply Kd.R_alloc | apply Kd.R_drewN | apply Kd.R_drew)); exact HO_120024001.out) hb); have n3_ := Aside0.mk (Kd.R_below (by (with_reducible repeat (first | apply Kd.R_alloc | apply Kd.R_drewN | apply Kd.R_drew)); exact HO_120046001.out) hb); have n4_ := Aside0.mk (blk_below (g := gb120001) (o := .cells #[.int .i64 a0_0, .slice A0_1 l0_1.length c0_1] 31 (0, 0)) (by (with_reducible repeat (first | refine blk_drewN ?_ _ | refine blk_drew ?_ | refine blk_alloc ?_ _)); exact BK120001.out) hb); have n5_ := Aside0.mk (blk_below (g := gb120012) (o := .cells #[.int .i64 t120007, .slice Ao24 t120008.length co24] 27 (0, 0)) (by (with_reducible repeat (first | refine blk_drewN ?_ _ | refine blk_drew ?_ | refine blk_alloc ?_ _)); exact BK120012.out) hb); have n6_ := Aside0.mk (blk_below (g := gb120017) (o := .cells #[.int .i64 t120013, .slice Ao31 t120031.length co31] 27 (0, 0)) (by (with_reducible repeat (first | refine blk_drewN ?_ _ | refine blk_drew ?_ | refine blk_alloc ?_ _)); exact BK120017.out) hb); have n7_ := Aside0.mk (blk_below (g := gb120023) (o := .cells #[.int .i64 t120018, .slice Ao38 t120034.length co38] 27 (0, 0)) (by (with_reducible repeat (first | refine blk_drewN ?_ _ | refine blk_drew ?_ | refine blk_alloc ?_ _)); exact BK120023.out) hb); have n8_ := Aside0.mk (blk_below (g := gb120045) (o := .cells #[.int .i64 t120040, .slice Ao125 t120041.length co125] 27 (0, 0)) (by (with_reducible repeat (first | refine blk_drewN ?_ _ | refine blk_drew ?_ | refine blk_alloc ?_ _)); exact BK120045.out) hb); have n9_ := Aside0.mk (below_step (by repeat (first | (with_reducible first | exact HB.out | apply below_alloc | apply pw_below_drewN | apply below_drew1 | refine below_set ?_ GE120001.out | refine below_set ?_ GE120012.out | refine below_set ?_ GE120017.out | refine below_set ?_ GE120023.out | refine below_set ?_ GE120045.out) | exact HB.out)) hb); clear HO_120013001; clear HO_120018001; clear HO_120024001; clear HO_120046001; clear BK120001; clear BK120012; clear BK120017; clear BK120023; clear BK120045; clear HB; have HO_120013001 := n0_; have HO_120018001 := n1_; have HO_120024001 := n2_; have HO_120046001 := n3_; have BK120001 := n4_; have BK120012 := n5_; have BK120017 := n6_; have BK120023 := n7_; have BK120045 := n8_; have HB := n9_; clear n0_ n1_ n2_ n3_ n4_ n5_ n6_ n7_ n8_ n9_; (try clear hb); (try clear hb2); (try clear hk); (try clear hi)))
                                go_ret
                                exact ⟨by first | rfl | (simp [errW_none, errW_some] <;> rfl) | (simp [*, errW_none, errW_some] <;> rfl), by repeat (first | (with_reducible first | exact HB.out | apply below_alloc | apply pw_below_drewN | apply below_drew1 | refine below_set ?_ GE120001.out | refine below_set ?_ GE120012.out | refine below_set ?_ GE120017.out | refine below_set ?_ GE120023.out | refine below_set ?_ GE120045.out) | exact HB.out)⟩
                              · rw [if_neg c157] at H
                                have c157b0 : (t120047 == t120033) = false := beq_eq_false_iff_ne.mpr c157
                                have c157b1 : (t120047 != t120033) = true := bne_iff_ne.mpr c157
                                obtain rfl := Option.some.inj H
                                have hnb164 := NB120023_120001.out
                                have hnc164 := NB120001_120023.out
                                have hnb165 := NB120023_120012.out
                                have hnc165 := NB120012_120023.out
                                have hnb166 := NB120023_120017.out
                                have hnc166 := NB120017_120023.out
                                have hnb167 := NB120023_120045.out
                                have hnc167 := NB120045_120023.out
                                have hcz168_0 : wc.cell? ⟨gb120023, 0, none⟩ = some (.int .i64 t120018) := (blk_cell BK120023.out 0).trans rfl
                                have hcz168_1 : wc.cell? ⟨gb120023, 1, none⟩ = some (.slice Ao38 t120034.length co38) := (blk_cell BK120023.out 1).trans rfl
                                have hfz168_0 := blk_frozen BK120023.out 0
                                have hfz168_1 := blk_frozen BK120023.out 1
                                go_wp2_with (first | ((with_reducible refine gate_callee (f := 21) rfl ?_); refine goesL_ (some 100) rfl rfl Try.func21 (by kernel_rfl) rfl #[.agg #[.int .i64 t120018, .slice Ao38 t120034.length co38], .int .i64 1] rfl (by (try simp only [List.map_toArray, List.map_cons, List.map_nil]); first | done | rfl | (simp only [List.length_drop, List.length_take]; rfl)) ?_; (with_reducible refine (laws_heldMap.calls kj104 t120018 _ _ t120034 1 t120047 _ ?side1 ?side2 A149.out).mono ?_); (case side1 => repeat (first | exact (Kd.R_reads' HO_120024001.out).2.2 | (with_reducible refine Kd.C_alloc ?_ _) | (with_reducible refine Kd.C_drewN ?_ _) | (with_reducible refine Kd.C_drew ?_))); (case side2 => exact (Kd.R_reads' HO_120024001.out).2.1); rintro e w169 ⟨rfl, hb⟩; refine ⟨_, rfl, ?_⟩; have n0_ := Aside0.mk (Kd.R_below (by (with_reducible repeat (first | apply Kd.R_alloc | apply Kd.R_drewN | apply Kd.R_drew)); exact HO_120013001.out) hb); have n1_ := Aside0.mk (Kd.R_below (by (with_reducible repeat (first | apply Kd.R_alloc | apply Kd.R_drewN | apply Kd.R_drew)); exact HO_120018001.out) hb); have n2_ := Aside0.mk (Kd.R_below (by (with_reducible repeat (first | apply Kd.R_alloc | apply Kd.R_drewN | apply Kd.R_drew)); exact HO_120024001.out) hb); have n3_ := Aside0.mk (Kd.R_below (by (with_reducible repeat (first | apply Kd.R_alloc | apply Kd.R_drewN | apply Kd.R_drew)); exact HO_120046001.out) hb); have n4_ := Aside0.mk (blk_below (g := gb120001) (o := .cells #[.int .i64 a0_0, .slice A0_1 l0_1.length c0_1] 31 (0, 0)) (by (with_reducible repeat (first | refine blk_drewN ?_ _ | refine blk_drew ?_ | refine blk_alloc ?_ _)); exact BK120001.out) hb); have n5_ := Aside0.mk (blk_below (g := gb120012) (o := .cells #[.int .i64 t120007, .slice Ao24 t120008.length co24] 27 (0, 0)) (by (with_reducible repeat (first | refine blk_drewN ?_ _ | refine blk_drew ?_ | refine blk_alloc ?_ _)); exact BK120012.out) hb); have n6_ := Aside0.mk (blk_below (g := gb120017) (o := .cells #[.int .i64 t120013, .slice Ao31 t120031.length co31] 27 (0, 0)) (by (with_reducible repeat (first | refine blk_drewN ?_ _ | refine blk_drew ?_ | refine blk_alloc ?_ _)); exact BK120017.out) hb); have n7_ := Aside0.mk (blk_below (g := gb120023) (o := .cells #[.int .i64 t120018, .slice Ao38 t120034.length co38] 27 (0, 0)) (by (with_reducible repeat (first | refine blk_drewN ?_ _ | refine blk_drew ?_ | refine blk_alloc ?_ _)); exact BK120023.out) hb); have n8_ := Aside0.mk (blk_below (g := gb120045) (o := .cells #[.int .i64 t120040, .slice Ao125 t120041.length co125] 27 (0, 0)) (by (with_reducible repeat (first | refine blk_drewN ?_ _ | refine blk_drew ?_ | refine blk_alloc ?_ _)); exact BK120045.out) hb); have n9_ := Aside0.mk (below_step (by repeat (first | (with_reducible first | exact HB.out | apply below_alloc | apply pw_below_drewN | apply below_drew1 | refine below_set ?_ GE120001.out | refine below_set ?_ GE120012.out | refine below_set ?_ GE120017.out | refine below_set ?_ GE120023.out | refine below_set ?_ GE120045.out) | exact HB.out)) hb); clear HO_120013001; clear HO_120018001; clear HO_120024001; clear HO_120046001; clear BK120001; clear BK120012; clear BK120017; clear BK120023; clear BK120045; clear HB; have HO_120013001 := n0_; have HO_120018001 := n1_; have HO_120024001 := n2_; have HO_120046001 := n3_; have BK120001 := n4_; have BK120012 := n5_; have BK120017 := n6_; have BK120023 := n7_; have BK120045 := n8_; have HB := n9_; clear n0_ n1_ n2_ n3_ n4_ n5_ n6_ n7_ n8_ n9_; (try clear hb); (try clear hb2); (try clear hk); (try clear hi)))
                                go_ret
                                exact ⟨by first | rfl | (simp [errW_none, errW_some] <;> rfl) | (simp [*, errW_none, errW_some] <;> rfl), by repeat (first | (with_reducible first | exact HB.out | apply below_alloc | apply pw_below_drewN | apply below_drew1 | refine below_set ?_ GE120001.out | refine below_set ?_ GE120012.out | refine below_set ?_ GE120017.out | refine below_set ?_ GE120023.out | refine below_set ?_ GE120045.out) | exact HB.out)⟩
                    · rw [if_neg c102] at H
                      have c102b0 : (t120035 == t120033) = false := beq_eq_false_iff_ne.mpr c102
                      have c102b1 : (t120035 != t120033) = true := bne_iff_ne.mpr c102
                      obtain rfl := Option.some.inj H
                      have hnb170 := NB120023_120001.out
                      have hnc170 := NB120001_120023.out
                      have hnb171 := NB120023_120012.out
                      have hnc171 := NB120012_120023.out
                      have hnb172 := NB120023_120017.out
                      have hnc172 := NB120017_120023.out
                      have hcz173_0 : wc.cell? ⟨gb120023, 0, none⟩ = some (.int .i64 t120018) := (blk_cell BK120023.out 0).trans rfl
                      have hcz173_1 : wc.cell? ⟨gb120023, 1, none⟩ = some (.slice Ao38 t120019.length co38) := (blk_cell BK120023.out 1).trans rfl
                      have hfz173_0 := blk_frozen BK120023.out 0
                      have hfz173_1 := blk_frozen BK120023.out 1
                      go_wp2_with (first | ((with_reducible refine gate_callee (f := 20) rfl ?_); refine goesL_ (some 72) rfl rfl Try.func20 (by kernel_rfl) rfl #[.agg #[.int .i64 t120018, .slice Ao38 t120019.length co38], .int .i64 1] rfl (by (try simp only [List.map_toArray, List.map_cons, List.map_nil]); first | done | rfl | (simp only [List.length_drop, List.length_take]; rfl)) ?_; (with_reducible refine (laws_markMap.calls kj61 t120018 (fun k_ => some k_ = (.slice Ao38 t120019.length co38 : Value).ownBlock) (.slice Ao38 t120019.length co38) t120019 1 t120033 t120034 w _ ?side1 ?side2 A92.out).mono ?_); (case side1 => repeat (first | (with_reducible first | exact HB.out | apply below_alloc | apply pw_below_drewN | apply below_drew1 | refine below_set ?_ GE120001.out | refine below_set ?_ GE120012.out | refine below_set ?_ GE120017.out | refine below_set ?_ GE120023.out) | exact HB.out)); (case side2 => exact Kd.R_tight rfl HO_120024001.out); rintro e w174 ⟨rfl, hy0, hb, hkp⟩; refine ⟨_, rfl, ?_⟩; have n0_ := Aside0.mk (Kd.R_mono (ok' := fun k_ => some k_ ≠ (.slice Ao31 t120031.length co31 : Value).ownBlock ∧ some k_ ≠ (.slice Ao38 t120019.length co38 : Value).ownBlock) (Kd.R_keptB (HO_120013001.out) hkp (fun k_ hk_ hs_ => (hk_.2) hs_)) (fun k_ hk_ => ⟨hk_.1.1, hk_.1.2⟩)); have n1_ := Aside0.mk (Kd.R_mono (ok' := fun k_ => some k_ ≠ (.slice Ao24 t120008.length co24 : Value).ownBlock ∧ some k_ ≠ (.slice Ao38 t120019.length co38 : Value).ownBlock) (Kd.R_keptB (HO_120018001.out) hkp (fun k_ hk_ hs_ => (hk_.2) hs_)) (fun k_ hk_ => ⟨hk_.1.1, hk_.1.2⟩)); have n2_ := Aside0.mk (Kd.R_reok rfl hy0 (fun k_ e_ => HO_120024001.out.1 k_ e_)); have n3_ := Aside0.mk (blk_kept (by (with_reducible repeat (first | refine blk_drewN ?_ _ | refine blk_drew ?_ | refine blk_alloc ?_ _)); exact BK120001.out) hkp (fun hs_ => (fun e_ => (Kd.R_ne HO_120024001.out BK120001.out (by decide)) e_) hs_)); have n4_ := Aside0.mk (blk_kept (by (with_reducible repeat (first | refine blk_drewN ?_ _ | refine blk_drew ?_ | refine blk_alloc ?_ _)); exact BK120012.out) hkp (fun hs_ => (fun e_ => (Kd.R_ne HO_120024001.out BK120012.out (by decide)) e_) hs_)); have n5_ := Aside0.mk (blk_kept (by (with_reducible repeat (first | refine blk_drewN ?_ _ | refine blk_drew ?_ | refine blk_alloc ?_ _)); exact BK120017.out) hkp (fun hs_ => (fun e_ => (Kd.R_ne HO_120024001.out BK120017.out (by decide)) e_) hs_)); have n6_ := Aside0.mk (blk_kept (by (with_reducible repeat (first | refine blk_drewN ?_ _ | refine blk_drew ?_ | refine blk_alloc ?_ _)); exact BK120023.out) hkp (fun hs_ => (fun e_ => (Kd.R_ne HO_120024001.out BK120023.out (by decide)) e_) hs_)); have n7_ := Aside0.mk (hb); clear HO_120013001; clear HO_120018001; clear HO_120024001; clear BK120001; clear BK120012; clear BK120017; clear BK120023; clear HB; have HO_120013001 := n0_; have HO_120018001 := n1_; have HO_120024001 := n2_; have BK120001 := n3_; have BK120012 := n4_; have BK120017 := n5_; have BK120023 := n6_; have HB := n7_; clear n0_ n1_ n2_ n3_ n4_ n5_ n6_ n7_; (try clear hb); (try clear hkp); (try clear hy0); have hcz175_0 : w174.cell? ⟨gb120023, 0, none⟩ = some (.int .i64 t120018) := (blk_cell BK120023.out 0).trans rfl; have hcz175_1 : w174.cell? ⟨gb120023, 1, none⟩ = some (.slice Ao38 t120019.length co38) := (blk_cell BK120023.out 1).trans rfl; have hfz175_0 := blk_frozen BK120023.out 0; have hfz175_1 := blk_frozen BK120023.out 1) | ((with_reducible refine gate_callee (f := 21) rfl ?_); refine goesL_ (some 75) rfl rfl Try.func21 (by kernel_rfl) rfl #[.agg #[.int .i64 t120018, .slice Ao38 t120034.length co38], .int .i64 1] rfl (by (try simp only [List.map_toArray, List.map_cons, List.map_nil]); first | done | (rw [show t120034.length = t120019.length from (Kd.R_reads' HO_120024001.out).1.symm] <;> rfl) | rfl | (simp only [List.length_drop, List.length_take]; rfl)) ?_; (with_reducible refine (laws_heldMap.calls kj61 t120018 _ _ t120034 1 t120035 _ ?side1 ?side2 A93.out).mono ?_); (case side1 => repeat (first | exact (Kd.R_reads' HO_120024001.out).2.2 | (with_reducible refine Kd.C_alloc ?_ _) | (with_reducible refine Kd.C_drewN ?_ _) | (with_reducible refine Kd.C_drew ?_))); (case side2 => rw [show t120034.length = t120019.length from (Kd.R_reads' HO_120024001.out).1.symm]; exact (Kd.R_reads' HO_120024001.out).2.1); rintro e w176 ⟨rfl, hb⟩; refine ⟨_, rfl, ?_⟩; have n0_ := Aside0.mk (Kd.R_below (by (with_reducible repeat (first | apply Kd.R_alloc | apply Kd.R_drewN | apply Kd.R_drew)); exact HO_120013001.out) hb); have n1_ := Aside0.mk (Kd.R_below (by (with_reducible repeat (first | apply Kd.R_alloc | apply Kd.R_drewN | apply Kd.R_drew)); exact HO_120018001.out) hb); have n2_ := Aside0.mk (Kd.R_below (by (with_reducible repeat (first | apply Kd.R_alloc | apply Kd.R_drewN | apply Kd.R_drew)); exact HO_120024001.out) hb); have n3_ := Aside0.mk (blk_below (g := gb120001) (o := .cells #[.int .i64 a0_0, .slice A0_1 l0_1.length c0_1] 31 (0, 0)) (by (with_reducible repeat (first | refine blk_drewN ?_ _ | refine blk_drew ?_ | refine blk_alloc ?_ _)); exact BK120001.out) hb); have n4_ := Aside0.mk (blk_below (g := gb120012) (o := .cells #[.int .i64 t120007, .slice Ao24 t120008.length co24] 27 (0, 0)) (by (with_reducible repeat (first | refine blk_drewN ?_ _ | refine blk_drew ?_ | refine blk_alloc ?_ _)); exact BK120012.out) hb); have n5_ := Aside0.mk (blk_below (g := gb120017) (o := .cells #[.int .i64 t120013, .slice Ao31 t120031.length co31] 27 (0, 0)) (by (with_reducible repeat (first | refine blk_drewN ?_ _ | refine blk_drew ?_ | refine blk_alloc ?_ _)); exact BK120017.out) hb); have n6_ := Aside0.mk (blk_below (g := gb120023) (o := .cells #[.int .i64 t120018, .slice Ao38 t120019.length co38] 27 (0, 0)) (by (with_reducible repeat (first | refine blk_drewN ?_ _ | refine blk_drew ?_ | refine blk_alloc ?_ _)); exact BK120023.out) hb); have n7_ := Aside0.mk (below_step (by repeat (first | (with_reducible first | exact HB.out | apply below_alloc | apply pw_below_drewN | apply below_drew1 | refine below_set ?_ GE120001.out | refine below_set ?_ GE120012.out | refine below_set ?_ GE120017.out | refine below_set ?_ GE120023.out) | exact HB.out)) hb); clear HO_120013001; clear HO_120018001; clear HO_120024001; clear BK120001; clear BK120012; clear BK120017; clear BK120023; clear HB; have HO_120013001 := n0_; have HO_120018001 := n1_; have HO_120024001 := n2_; have BK120001 := n3_; have BK120012 := n4_; have BK120017 := n5_; have BK120023 := n6_; have HB := n7_; clear n0_ n1_ n2_ n3_ n4_ n5_ n6_ n7_; (try clear hb); (try clear hb2); (try clear hk); (try clear hi)))
                      go_ret
                      exact ⟨by first | rfl | (simp [errW_none, errW_some] <;> rfl) | (simp [*, errW_none, errW_some] <;> rfl), by repeat (first | (with_reducible first | exact HB.out | apply below_alloc | apply pw_below_drewN | apply below_drew1 | refine below_set ?_ GE120001.out | refine below_set ?_ GE120012.out | refine below_set ?_ GE120017.out | refine below_set ?_ GE120023.out) | exact HB.out)⟩
          · replace c60 := Bool.eq_false_iff.mpr c60
            subst c60
            have H1 : (some false) = some r := by rw [if_neg (show ¬ (false = true) by decide)] at H; exact H
            clear H
            have H := H1
            clear H1
            obtain rfl := Option.some.inj H
            try go_wp2
            have n0_ := Aside0.mk (Kd.R_drew HO_120013001.out)
            have n1_ := Aside0.mk (Kd.R_drew HO_120018001.out)
            have n2_ := Aside0.mk (Kd.R_drew HO_120024001.out)
            have n3_ := Aside0.mk (blk_drew BK120001.out)
            have n4_ := Aside0.mk (blk_drew BK120012.out)
            have n5_ := Aside0.mk (blk_drew BK120017.out)
            have n6_ := Aside0.mk (blk_drew BK120023.out)
            have n7_ := Aside0.mk (below_drew1 HB.out)
            clear HO_120013001
            clear HO_120018001
            clear HO_120024001
            clear BK120001
            clear BK120012
            clear BK120017
            clear BK120023
            clear HB
            have HO_120013001 := n0_
            have HO_120018001 := n1_
            have HO_120024001 := n2_
            have BK120001 := n3_
            have BK120012 := n4_
            have BK120017 := n5_
            have BK120023 := n6_
            have HB := n7_
            clear n0_ n1_ n2_ n3_ n4_ n5_ n6_ n7_
            refine start_ (n := 5) (S := fun w' => w'.cell? ⟨gb120017, 0, none⟩ = some (.int .i64 t120013) ∧ w'.cell? ⟨gb120017, 1, none⟩ = some (.slice Ao31 t120014.length co31) ∧ w'.cell? ⟨gb120001, 0, none⟩ = some (.int .i64 a0_0) ∧ w'.cell? ⟨gb120001, 1, none⟩ = some (.slice A0_1 l0_1.length c0_1)) (ds := []) #[false, false, false, false, false] (by kernel_rfl) rfl rfl ⟨(blk_cell BK120017.out 0).trans rfl, (blk_cell BK120017.out 1).trans rfl, (blk_cell BK120001.out 0).trans rfl, (blk_cell BK120001.out 1).trans rfl⟩ (fun hHeld => ?_)
            generalize wc.drew = w177 at HO_120013001 HO_120018001 HO_120024001 BK120001 BK120012 BK120017 BK120023 HB hHeld ⊢
            refine take_ (i := 0) (N := some 49) (v := ?_) (a' := ?_) #[true, false, false, false, false] rfl rfl (by kernel_rfl) (fun _ _ _ h => h) (Or.inl ⟨by rfl, ?_⟩) hHeld ?_ ?_
            rotate_left
            · rintro w' ⟨s0, s1, s2, s3⟩
              go_simp
              with_reducible rfl
            rotate_left
            · simp only [Act.put, List.setIfInBounds_toArray, List.set_cons_zero, List.set_cons_succ, i64_w, i32_w]
              rfl
            refine take_ (i := 1) (N := some 50) (v := ?_) (a' := ?_) #[true, true, false, false, false] rfl rfl (by kernel_rfl) (fun _ _ _ h => h) (Or.inl ⟨by rfl, ?_⟩) hHeld ?_ ?_
            rotate_left
            · rintro w' ⟨s0, s1, s2, s3⟩
              go_simp
              with_reducible rfl
            rotate_left
            · simp only [Act.put, List.setIfInBounds_toArray, List.set_cons_zero, List.set_cons_succ, i64_w, i32_w]
              rfl
            refine one_ (i := 2) (N := some 51) #[true, true, true, false, false] rfl rfl (by kernel_rfl) (by decide) (fun K hK => ?_)
            refine goes_ Try.func24 (by kernel_rfl) rfl #[.agg #[.int .i64 a0_0, .slice A0_1 l0_1.length c0_1]] (by rfl) rfl rfl (by (try simp only [List.map_toArray, List.map_cons, List.map_nil]); first | done | rfl | (simp only [List.length_drop, List.length_take]; rfl)) ?_
            with_reducible refine (laws_toMap.calls kj12 a0_0 _ _ l0_1 t120025 t120026 _ ?side1 ?side2 A58.out).mono ?_
            (case side1 => repeat (first | exact (Kd.C_below HR0_1.out HB.out) | (with_reducible refine Kd.C_alloc ?_ _) | (with_reducible refine Kd.C_drewN ?_ _) | (with_reducible refine Kd.C_drew ?_)))
            (case side2 => exact HC0_1.out)
            rintro e w178 ⟨v120027, rfl, ho0, hb⟩
            refine ⟨_, rfl, ?_⟩
            have n0_ := Aside0.mk (Kd.R_elder' (by (with_reducible repeat (first | apply Kd.R_alloc | apply Kd.R_drewN | apply Kd.R_drew)); exact HO_120013001.out) (Kd.R_base ho0) hb)
            have n1_ := Aside0.mk (Kd.R_elder' (by (with_reducible repeat (first | apply Kd.R_alloc | apply Kd.R_drewN | apply Kd.R_drew)); exact HO_120018001.out) (Kd.R_base ho0) hb)
            have n2_ := Aside0.mk (Kd.R_elder' (by (with_reducible repeat (first | apply Kd.R_alloc | apply Kd.R_drewN | apply Kd.R_drew)); exact HO_120024001.out) (Kd.R_base ho0) hb)
            have n3_ := Aside0.mk (Kd.R_lower (Kd.R_new' (Kd.R_new' (Kd.R_new' ho0 (Kd.R_lt (by (with_reducible repeat (first | apply Kd.R_alloc | apply Kd.R_drewN | apply Kd.R_drew)); exact HO_120013001.out))) (Kd.R_lt (by (with_reducible repeat (first | apply Kd.R_alloc | apply Kd.R_drewN | apply Kd.R_drew)); exact HO_120018001.out))) (Kd.R_lt (by (with_reducible repeat (first | apply Kd.R_alloc | apply Kd.R_drewN | apply Kd.R_drew)); exact HO_120024001.out))) (below_size (by repeat (first | (with_reducible first | exact HB.out | apply below_alloc | apply pw_below_drewN | apply below_drew1 | refine below_set ?_ GE120001.out | refine below_set ?_ GE120012.out | refine below_set ?_ GE120017.out | refine below_set ?_ GE120023.out) | exact HB.out))))
            have n4_ := Aside0.mk (blk_below (g := gb120001) (o := .cells #[.int .i64 a0_0, .slice A0_1 l0_1.length c0_1] 31 (0, 0)) (by (with_reducible repeat (first | refine blk_drewN ?_ _ | refine blk_drew ?_ | refine blk_alloc ?_ _)); exact BK120001.out) hb)
            have n5_ := Aside0.mk (blk_below (g := gb120012) (o := .cells #[.int .i64 t120007, .slice Ao24 t120008.length co24] 27 (0, 0)) (by (with_reducible repeat (first | refine blk_drewN ?_ _ | refine blk_drew ?_ | refine blk_alloc ?_ _)); exact BK120012.out) hb)
            have n6_ := Aside0.mk (blk_below (g := gb120017) (o := .cells #[.int .i64 t120013, .slice Ao31 t120014.length co31] 27 (0, 0)) (by (with_reducible repeat (first | refine blk_drewN ?_ _ | refine blk_drew ?_ | refine blk_alloc ?_ _)); exact BK120017.out) hb)
            have n7_ := Aside0.mk (blk_below (g := gb120023) (o := .cells #[.int .i64 t120018, .slice Ao38 t120019.length co38] 27 (0, 0)) (by (with_reducible repeat (first | refine blk_drewN ?_ _ | refine blk_drew ?_ | refine blk_alloc ?_ _)); exact BK120023.out) hb)
            have n8_ := Aside0.mk (below_step (by repeat (first | (with_reducible first | exact HB.out | apply below_alloc | apply pw_below_drewN | apply below_drew1 | refine below_set ?_ GE120001.out | refine below_set ?_ GE120012.out | refine below_set ?_ GE120017.out | refine below_set ?_ GE120023.out) | exact HB.out)) hb)
            clear HO_120013001
            clear HO_120018001
            clear HO_120024001
            clear BK120001
            clear BK120012
            clear BK120017
            clear BK120023
            clear HB
            have HO_120013001 := n0_
            have HO_120018001 := n1_
            have HO_120024001 := n2_
            have HO120028 := n3_
            have BK120001 := n4_
            have BK120012 := n5_
            have BK120017 := n6_
            have BK120023 := n7_
            have HB := n8_
            clear n0_ n1_ n2_ n3_ n4_ n5_ n6_ n7_ n8_
            (try clear hb)
            (try clear hb2)
            (try clear hk)
            (try clear hi)
            (try clear ho0)
            obtain ⟨Ao179, co179, eo179⟩ := Kd.R_slice HO120028.out
            (first | subst eo179 | (injection eo179 with f1_ f2_ f3_; have f4_ := f1_.symm; have f5_ := f3_.symm; clear f1_ f2_ f3_; subst f4_; subst f5_))
            refine hK.out _ _ ⟨(blk_cell BK120017.out 0).trans rfl, (blk_cell BK120017.out 1).trans rfl, (blk_cell BK120001.out 0).trans rfl, (blk_cell BK120001.out 1).trans rfl⟩ (fun hHeld => ?_)
            clear hK K
            refine norm_ (a' := ?_) ?_ ?_
            rotate_left
            · show Act.put _ (some 51) _ = _
              simp only [Act.put, List.setIfInBounds_toArray, List.set_cons_zero, List.set_cons_succ, i64_w, i32_w]
              rfl
            refine one_ (i := 3) (N := some 52) #[true, true, true, true, false] rfl rfl (by kernel_rfl) (by decide) (fun K hK => ?_)
            refine goes_ Try.func19 (by kernel_rfl) rfl #[.agg #[.int .i64 t120013, .slice Ao31 t120014.length co31], .agg #[.int .i64 t120025, .slice Ao179 t120026.length co179]] (by rfl) rfl rfl (by (try simp only [List.map_toArray, List.map_cons, List.map_nil]); first | done | rfl | (simp only [List.length_drop, List.length_take]; rfl)) ?_
            with_reducible refine (laws_eqMap.calls kj12 t120013 _ _ t120014 t120025 _ _ t120026 false _ ?side1 ?side2 ?side3 ?side4 A59.out).mono ?_
            (case side1 => repeat (first | exact (Kd.R_reads' HO_120018001.out).2.2 | (with_reducible refine Kd.C_alloc ?_ _) | (with_reducible refine Kd.C_drewN ?_ _) | (with_reducible refine Kd.C_drew ?_)))
            (case side2 => exact (Kd.R_reads' HO_120018001.out).2.1)
            (case side3 => repeat (first | exact (Kd.R_reads' HO120028.out).2.2 | (with_reducible refine Kd.C_alloc ?_ _) | (with_reducible refine Kd.C_drewN ?_ _) | (with_reducible refine Kd.C_drew ?_)))
            (case side4 => exact (Kd.R_reads' HO120028.out).2.1)
            rintro e w180 ⟨rfl, hb⟩
            refine ⟨_, rfl, ?_⟩
            have n0_ := Aside0.mk (Kd.R_below (by (with_reducible repeat (first | apply Kd.R_alloc | apply Kd.R_drewN | apply Kd.R_drew)); exact HO_120013001.out) hb)
            have n1_ := Aside0.mk (Kd.R_below (by (with_reducible repeat (first | apply Kd.R_alloc | apply Kd.R_drewN | apply Kd.R_drew)); exact HO_120018001.out) hb)
            have n2_ := Aside0.mk (Kd.R_below (by (with_reducible repeat (first | apply Kd.R_alloc | apply Kd.R_drewN | apply Kd.R_drew)); exact HO_120024001.out) hb)
            have n3_ := Aside0.mk (Kd.R_below (by (with_reducible repeat (first | apply Kd.R_alloc | apply Kd.R_drewN | apply Kd.R_drew)); exact HO120028.out) hb)
            have n4_ := Aside0.mk (blk_below (g := gb120001) (o := .cells #[.int .i64 a0_0, .slice A0_1 l0_1.length c0_1] 31 (0, 0)) (by (with_reducible repeat (first | refine blk_drewN ?_ _ | refine blk_drew ?_ | refine blk_alloc ?_ _)); exact BK120001.out) hb)
            have n5_ := Aside0.mk (blk_below (g := gb120012) (o := .cells #[.int .i64 t120007, .slice Ao24 t120008.length co24] 27 (0, 0)) (by (with_reducible repeat (first | refine blk_drewN ?_ _ | refine blk_drew ?_ | refine blk_alloc ?_ _)); exact BK120012.out) hb)
            have n6_ := Aside0.mk (blk_below (g := gb120017) (o := .cells #[.int .i64 t120013, .slice Ao31 t120014.length co31] 27 (0, 0)) (by (with_reducible repeat (first | refine blk_drewN ?_ _ | refine blk_drew ?_ | refine blk_alloc ?_ _)); exact BK120017.out) hb)
            have n7_ := Aside0.mk (blk_below (g := gb120023) (o := .cells #[.int .i64 t120018, .slice Ao38 t120019.length co38] 27 (0, 0)) (by (with_reducible repeat (first | refine blk_drewN ?_ _ | refine blk_drew ?_ | refine blk_alloc ?_ _)); exact BK120023.out) hb)
            have n8_ := Aside0.mk (below_step (by repeat (first | (with_reducible first | exact HB.out | apply below_alloc | apply pw_below_drewN | apply below_drew1 | refine below_set ?_ GE120001.out | refine below_set ?_ GE120012.out | refine below_set ?_ GE120017.out | refine below_set ?_ GE120023.out) | exact HB.out)) hb)
            clear HO_120013001
            clear HO_120018001
            clear HO_120024001
            clear HO120028
            clear BK120001
            clear BK120012
            clear BK120017
            clear BK120023
            clear HB
            have HO_120013001 := n0_
            have HO_120018001 := n1_
            have HO_120024001 := n2_
            have HO120028 := n3_
            have BK120001 := n4_
            have BK120012 := n5_
            have BK120017 := n6_
            have BK120023 := n7_
            have HB := n8_
            clear n0_ n1_ n2_ n3_ n4_ n5_ n6_ n7_ n8_
            (try clear hb)
            (try clear hb2)
            (try clear hk)
            (try clear hi)
            refine hK.out _ _ ⟨(blk_cell BK120017.out 0).trans rfl, (blk_cell BK120017.out 1).trans rfl, (blk_cell BK120001.out 0).trans rfl, (blk_cell BK120001.out 1).trans rfl⟩ (fun hHeld => ?_)
            clear hK K
            refine norm_ (a' := ?_) ?_ ?_
            rotate_left
            · show Act.put _ (some 52) _ = _
              simp only [Act.put, List.setIfInBounds_toArray, List.set_cons_zero, List.set_cons_succ, i64_w, i32_w]
              rfl
            refine pure_ (i := 4) (N := some 53) (v := ?_) (a' := ?_) #[true, true, true, true, true] rfl rfl (by kernel_rfl) (fun _ _ _ h => h) (Or.inl ⟨by rfl, ?_⟩) ?_ ?_
            rotate_left
            · intro w'
              go_simp
              with_reducible rfl
            rotate_left
            · simp only [Act.put, List.setIfInBounds_toArray, List.set_cons_zero, List.set_cons_succ, i64_w, i32_w]
              rfl
            refine done_ (by kernel_rfl) ?_
            try go_wp2
            go_ret
            exact ⟨by first | rfl | (simp [errW_none, errW_some] <;> rfl) | (simp [*, errW_none, errW_some] <;> rfl), by repeat (first | (with_reducible first | exact HB.out | apply below_alloc | apply pw_below_drewN | apply below_drew1 | refine below_set ?_ GE120001.out | refine below_set ?_ GE120012.out | refine below_set ?_ GE120017.out | refine below_set ?_ GE120023.out) | exact HB.out)⟩


/-- THE ONE PURE STATEMENT of laws_FnExactMapMove: yours. -/
def laws_FnExactMapMove.Pure : Prop := ∀ (a0_0 : Int) (l0_1 : List Int) (a1 : Int) (a2 : Int), (B31 (⟨a0_0, l0_1⟩ : S31)) → ((Lit.int .i64 a1).wf = true) → ((Lit.int .i64 a2).wf = true) → ∃ k, laws_FnExactMapMove.f k a0_0 l0_1 a1 a2 = some true
theorem laws_FnExactMapMove.walk (P : laws_FnExactMapMove.Pure) (a0_0 : Int) (A0_1 : Option Addr) (c0_1 : Nat) (l0_1 : List Int) (a1 : Int) (a2 : Int) (w : World) (hr0_1 : Kd.C (Kd.int .i64) w A0_1 l0_1.length l0_1) (hc0_1 : l0_1.length ≤ c0_1) (w0 : B31 (⟨a0_0, l0_1⟩ : S31)) (w1 : (Lit.int .i64 a1).wf = true) (w2 : (Lit.int .i64 a2).wf = true) :
    Calls Try.prog 11 #[.agg #[.int .i64 a0_0, .slice A0_1 l0_1.length c0_1], .int .i64 a1, .int .i64 a2] w fun e w' => e = .returned (.bool true) ∧ Below w.heap.size w w' := by
  obtain ⟨k, h⟩ := P a0_0 l0_1 a1 a2 w0 w1 w2
  refine (laws_FnExactMapMove.calls k a0_0 A0_1 c0_1 l0_1 a1 a2 true w hr0_1 hc0_1 h).mono ?_
  rintro e w' ⟨rfl, hd⟩
  exact ⟨rfl, hd⟩

end Go.Proofs.Ytnpmepaiigbhlaa.PX
