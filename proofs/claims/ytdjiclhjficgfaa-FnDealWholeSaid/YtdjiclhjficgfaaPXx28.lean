-- Written by a program of this workplace (wip/xprint.py over the kit's print.py) out of the translation.
import Derived.Test.YtdjiclhjficgfaaPXx0
import Derived.Test.YtdjiclhjficgfaaPXx11
import Derived.Test.YtdjiclhjficgfaaPXx13
import Derived.Test.YtdjiclhjficgfaaPXx19
import Derived.Test.YtdjiclhjficgfaaPXx20
namespace Go.Proofs.Ytdjiclhjficgfaa.PX
open Go.RowKit Go.Proofs.YtdjiclhjficgfaaW.PrintWords Go.Proofs.YtdjiclhjficgfaaW.PrintLast Go.Proofs.YtdjiclhjficgfaaW.PrintMore
attribute [local go_sem] max2_int min2_int max_two min_two max_three min_three max_four min_four   -- for this text's walks alone
set_option linter.unusedVariables false
set_option linter.unusedSimpArgs false

/-! ### laws_FnDealWhole: function 9 -/
mutual
def laws_FnDealWhole.j0 : Nat → List (S46) → List (S48) → Int → List Int → List (S48) → Bool → Option (Bool)
  | 0, _, _, _, _, _, _ => none
  | k + 1, x3, x4, x8, x9, x10, x49 => if x49 = true then (some false) else (if x8 = 0 then (laws_FnDealWhole.l0 k x3 x4 x9 0 0) else (some ((wrap64 ((x9.length : Int) + (x10.length : Int))) == 0)))
def laws_FnDealWhole.l0 : Nat → List (S46) → List (S48) → List Int → Int → Int → Option (Bool)
  | 0, _, _, _, _, _ => none
  | k + 1, x3, x4, x9, x11, x12 => if x12 < (x3.length : Int) then (if 0 ≤ x12 then (if ((rd_T46 x3 x12).f0) = 1 then (if ((rd_T46 x3 x12).f0) = 4 then (if x12 = 0 then ((laws_loGet.f k x4 ((rd_T46 x3 x12).f1)).bind fun t100026 => (if t100026 < ((rd_T46 x3 x12).f2) then (some false) else (laws_FnDealWhole.l0 k x3 x4 x9 (wrap64 (x11 + 1)) (wrap64 (x12 + 1))))) else (laws_FnDealWhole.l0 k x3 x4 x9 (wrap64 (x11 + 1)) (wrap64 (x12 + 1)))) else (laws_FnDealWhole.l0 k x3 x4 x9 (wrap64 (x11 + 1)) (wrap64 (x12 + 1)))) else (if ((rd_T46 x3 x12).f0) = 4 then (if x12 = 0 then ((laws_loGet.f k x4 ((rd_T46 x3 x12).f1)).bind fun t100030 => (if t100030 < ((rd_T46 x3 x12).f2) then (some false) else (laws_FnDealWhole.l0 k x3 x4 x9 x11 (wrap64 (x12 + 1))))) else (laws_FnDealWhole.l0 k x3 x4 x9 x11 (wrap64 (x12 + 1)))) else (laws_FnDealWhole.l0 k x3 x4 x9 x11 (wrap64 (x12 + 1))))) else (none)) else (some ((x9.length : Int) == x11))
end
def laws_FnDealWhole.f (k : Nat) (l0 : List Int) : Option (Bool) := if (l0.length : Int) > 1048576 then (some true) else ((spec_DrawDealRun.f k l0).bind fun bt100001 => ((spec_DealRun.f k bt100001.1 bt100001.2).bind fun bt100007 => ((impl_DealRun.f k bt100001.1 bt100001.2).bind fun bt100014 => (if bt100014.1 = bt100007.1 then ((laws_loInts.f k bt100014.2.1 bt100007.2.1).bind fun t100021 => (if t100021 = true then ((laws_loPairs.f k bt100014.2.2 bt100007.2.2).bind fun t100022 => (laws_FnDealWhole.j0 k bt100001.1 bt100001.2 bt100014.1 bt100014.2.1 bt100014.2.2 (!t100022))) else (laws_FnDealWhole.j0 k bt100001.1 bt100001.2 bt100014.1 bt100014.2.1 bt100014.2.2 true))) else (laws_FnDealWhole.j0 k bt100001.1 bt100001.2 bt100014.1 bt100014.2.1 bt100014.2.2 true)))))
theorem laws_FnDealWhole.mono_l : ∀ k, (∀ y0 y1 y2 y3 y4 y5, LeO (laws_FnDealWhole.j0 k y0 y1 y2 y3 y4 y5) (laws_FnDealWhole.j0 (k + 1) y0 y1 y2 y3 y4 y5)) ∧ (∀ y0 y1 y2 y3 y4, LeO (laws_FnDealWhole.l0 k y0 y1 y2 y3 y4) (laws_FnDealWhole.l0 (k + 1) y0 y1 y2 y3 y4))
  | 0 => ⟨fun _ _ _ _ _ _ r h => by simp [laws_FnDealWhole.j0] at h, fun _ _ _ _ _ r h => by simp [laws_FnDealWhole.l0] at h⟩
  | k + 1 => by
    obtain ⟨ih0, ih1⟩ := laws_FnDealWhole.mono_l k
    refine ⟨?_, ?_⟩
    · intro y0 y1 y2 y3 y4 y5
      unfold laws_FnDealWhole.j0
      repeat' first
      | (with_reducible exact ih0 _ _ _ _ _ _)
      | (with_reducible exact ih1 _ _ _ _ _)
      | (with_reducible exact impl_DealRun.mono _ _ _)
      | (with_reducible exact laws_loGet.mono _ _ _)
      | (with_reducible exact laws_loInts.mono _ _ _)
      | (with_reducible exact laws_loPairs.mono _ _ _)
      | (with_reducible exact spec_DealRun.mono _ _ _)
      | (with_reducible exact spec_DrawDealRun.mono _ _)
      | (with_reducible exact LeO.refl _)
      | (with_reducible exact LeO.none _)
      | (with_reducible refine LeO.ite ?_ ?_)
      | (with_reducible refine LeO.bind ?_ (fun _ => ?_))
      | exact ih0 _ _ _ _ _ _
      | exact ih1 _ _ _ _ _
      | exact impl_DealRun.mono _ _ _
      | exact laws_loGet.mono _ _ _
      | exact laws_loInts.mono _ _ _
      | exact laws_loPairs.mono _ _ _
      | exact spec_DealRun.mono _ _ _
      | exact spec_DrawDealRun.mono _ _
      | exact LeO.none _
      | refine LeO.ite ?_ ?_
      | refine LeO.bind ?_ (fun _ => ?_)
    · intro y0 y1 y2 y3 y4
      unfold laws_FnDealWhole.l0
      repeat' first
      | (with_reducible exact ih0 _ _ _ _ _ _)
      | (with_reducible exact ih1 _ _ _ _ _)
      | (with_reducible exact impl_DealRun.mono _ _ _)
      | (with_reducible exact laws_loGet.mono _ _ _)
      | (with_reducible exact laws_loInts.mono _ _ _)
      | (with_reducible exact laws_loPairs.mono _ _ _)
      | (with_reducible exact spec_DealRun.mono _ _ _)
      | (with_reducible exact spec_DrawDealRun.mono _ _)
      | (with_reducible exact LeO.refl _)
      | (with_reducible exact LeO.none _)
      | (with_reducible refine LeO.ite ?_ ?_)
      | (with_reducible refine LeO.bind ?_ (fun _ => ?_))
      | exact ih0 _ _ _ _ _ _
      | exact ih1 _ _ _ _ _
      | exact impl_DealRun.mono _ _ _
      | exact laws_loGet.mono _ _ _
      | exact laws_loInts.mono _ _ _
      | exact laws_loPairs.mono _ _ _
      | exact spec_DealRun.mono _ _ _
      | exact spec_DrawDealRun.mono _ _
      | exact LeO.none _
      | refine LeO.ite ?_ ?_
      | refine LeO.bind ?_ (fun _ => ?_)
theorem laws_FnDealWhole.mono : ∀ a0 k, LeO (laws_FnDealWhole.f k a0) (laws_FnDealWhole.f (k + 1) a0) := by
  intro a0 k
  obtain ⟨ih0, ih1⟩ := laws_FnDealWhole.mono_l k
  unfold laws_FnDealWhole.f
  repeat' first
      | (with_reducible exact ih0 _ _ _ _ _ _)
      | (with_reducible exact ih1 _ _ _ _ _)
      | (with_reducible exact impl_DealRun.mono _ _ _)
      | (with_reducible exact laws_loGet.mono _ _ _)
      | (with_reducible exact laws_loInts.mono _ _ _)
      | (with_reducible exact laws_loPairs.mono _ _ _)
      | (with_reducible exact spec_DealRun.mono _ _ _)
      | (with_reducible exact spec_DrawDealRun.mono _ _)
      | (with_reducible exact LeO.refl _)
      | (with_reducible exact LeO.none _)
      | (with_reducible refine LeO.ite ?_ ?_)
      | (with_reducible refine LeO.bind ?_ (fun _ => ?_))
      | exact ih0 _ _ _ _ _ _
      | exact ih1 _ _ _ _ _
      | exact impl_DealRun.mono _ _ _
      | exact laws_loGet.mono _ _ _
      | exact laws_loInts.mono _ _ _
      | exact laws_loPairs.mono _ _ _
      | exact spec_DealRun.mono _ _ _
      | exact spec_DrawDealRun.mono _ _
      | exact LeO.none _
      | refine LeO.ite ?_ ?_
      | refine LeO.bind ?_ (fun _ => ?_)
set_option maxHeartbeats 8000000 in
set_option maxRecDepth 100000 in
theorem laws_FnDealWhole.calls (k : Nat) (A0 : Option Addr) (c0 : Nat) (l0 : List Int) (r : Bool) (w : World) (hr0 : Kd.C (Kd.int .u8) w A0 l0.length l0) (hc0 : l0.length ≤ c0) (hr_ : r = true) (h : laws_FnDealWhole.f k l0 = some r) :
    Calls Try.prog 9 #[.slice A0 l0.length c0] w fun e w' => e = .returned (.bool r) ∧ Below w.heap.size w w' := by
  subst hr_
  have HR0 := Aside0.mk hr0
  have HC0 := Aside0.mk hc0
  clear hr0 hc0
  have HB := Aside0.mk (Below.refl w.heap.size w)
  have H : (if (l0.length : Int) > 1048576 then (some true) else ((spec_DrawDealRun.f k l0).bind fun bt100001 => ((spec_DealRun.f k bt100001.1 bt100001.2).bind fun bt100007 => ((impl_DealRun.f k bt100001.1 bt100001.2).bind fun bt100014 => (if bt100014.1 = bt100007.1 then ((laws_loInts.f k bt100014.2.1 bt100007.2.1).bind fun t100021 => (if t100021 = true then ((laws_loPairs.f k bt100014.2.2 bt100007.2.2).bind fun t100022 => (laws_FnDealWhole.j0 k bt100001.1 bt100001.2 bt100014.1 bt100014.2.1 bt100014.2.2 (!t100022))) else (laws_FnDealWhole.j0 k bt100001.1 bt100001.2 bt100014.1 bt100014.2.1 bt100014.2.2 true))) else (laws_FnDealWhole.j0 k bt100001.1 bt100001.2 bt100014.1 bt100014.2.1 bt100014.2.2 true)))))) = some true := h
  clear h
  by_cases c2 : (l0.length : Int) > 1048576
  · rw [if_pos c2] at H
    have c2b0 : decide (1048576 < (l0.length : Int)) = true := decide_eq_true c2
    have c2b1 : decide (1048576 < l0.length) = true := decide_eq_true (by omega)
    clear c2
    clear H
    go_enter Try.func9, Try.ntmps9
    go_wp2
    repeat (go_quiet (fail); try go_wp2)
    go_ret
    exact ⟨by first | rfl | (simp [errW_none, errW_some] <;> rfl) | (simp [*, errW_none, errW_some] <;> rfl), by repeat (first | (with_reducible first | exact HB.out | apply below_alloc | apply pw_below_drewN | apply below_drew1) | exact HB.out)⟩
  · rw [if_neg c2] at H
    have c2b0 : decide (1048576 < (l0.length : Int)) = false := decide_eq_false c2
    have c2b1 : decide (1048576 < l0.length) = false := decide_eq_false (by omega)
    clear c2
    replace H := Option.bind_eq_some_iff.mp H
    obtain ⟨⟨t100001, t100002⟩, A30, H⟩ := H
    replace H : ((spec_DealRun.f k t100001 t100002).bind fun bt100007 => ((impl_DealRun.f k t100001 t100002).bind fun bt100014 => (if bt100014.1 = bt100007.1 then ((laws_loInts.f k bt100014.2.1 bt100007.2.1).bind fun t100021 => (if t100021 = true then ((laws_loPairs.f k bt100014.2.2 bt100007.2.2).bind fun t100022 => (laws_FnDealWhole.j0 k t100001 t100002 bt100014.1 bt100014.2.1 bt100014.2.2 (!t100022))) else (laws_FnDealWhole.j0 k t100001 t100002 bt100014.1 bt100014.2.1 bt100014.2.2 true))) else (laws_FnDealWhole.j0 k t100001 t100002 bt100014.1 bt100014.2.1 bt100014.2.2 true)))) = some true := H
    have A3 := Aside0.mk A30
    clear A30
    replace H := Option.bind_eq_some_iff.mp H
    obtain ⟨⟨t100007, t100008, t100011⟩, A40, H⟩ := H
    replace H : ((impl_DealRun.f k t100001 t100002).bind fun bt100014 => (if bt100014.1 = t100007 then ((laws_loInts.f k bt100014.2.1 t100008).bind fun t100021 => (if t100021 = true then ((laws_loPairs.f k bt100014.2.2 t100011).bind fun t100022 => (laws_FnDealWhole.j0 k t100001 t100002 bt100014.1 bt100014.2.1 bt100014.2.2 (!t100022))) else (laws_FnDealWhole.j0 k t100001 t100002 bt100014.1 bt100014.2.1 bt100014.2.2 true))) else (laws_FnDealWhole.j0 k t100001 t100002 bt100014.1 bt100014.2.1 bt100014.2.2 true))) = some true := H
    have A4 := Aside0.mk A40
    clear A40
    replace H := Option.bind_eq_some_iff.mp H
    obtain ⟨⟨t100014, t100015, t100016⟩, A50, H⟩ := H
    replace H : (if t100014 = t100007 then ((laws_loInts.f k t100015 t100008).bind fun t100021 => (if t100021 = true then ((laws_loPairs.f k t100016 t100011).bind fun t100022 => (laws_FnDealWhole.j0 k t100001 t100002 t100014 t100015 t100016 (!t100022))) else (laws_FnDealWhole.j0 k t100001 t100002 t100014 t100015 t100016 true))) else (laws_FnDealWhole.j0 k t100001 t100002 t100014 t100015 t100016 true)) = some true := H
    have A5 := Aside0.mk A50
    clear A50
    have HC6 := Aside0.mk H
    clear H
    go_enter Try.func9, Try.ntmps9
    go_upto_region 6 with (first | (go_at_call 30; (with_reducible refine (spec_DrawDealRun.calls k _ _ l0 t100001 t100002 _ ?side1 ?side2 A3.out).mono ?_); (case side1 => repeat (first | exact HR0.out | (with_reducible refine Kd.C_alloc ?_ _) | (with_reducible refine Kd.C_drewN ?_ _) | (with_reducible refine Kd.C_drew ?_))); (case side2 => exact HC0.out); rintro e w7 ⟨v100003, v100005, rfl, ho0, ho1, hb⟩; have n0_ := Aside0.mk (Kd.R_lower ho0 (below_size (by repeat (first | (with_reducible first | exact HB.out | apply below_alloc | apply pw_below_drewN | apply below_drew1) | exact HB.out)))); have n1_ := Aside0.mk (Kd.R_lower ho1 (below_size (by repeat (first | (with_reducible first | exact HB.out | apply below_alloc | apply pw_below_drewN | apply below_drew1) | exact HB.out)))); have n2_ := Aside0.mk (below_step (by repeat (first | (with_reducible first | exact HB.out | apply below_alloc | apply pw_below_drewN | apply below_drew1) | exact HB.out)) hb); clear HB; have HO100004 := n0_; have HO100006 := n1_; have HB := n2_; clear n0_ n1_ n2_; (try clear hb); (try clear hb2); (try clear hk); (try clear hi); (try clear ho0); (try clear ho1); obtain ⟨Ao8, co8, eo8⟩ := Kd.R_slice HO100004.out; subst eo8; obtain ⟨Ao9, co9, eo9⟩ := Kd.R_slice HO100006.out; subst eo9) | (go_at_call 20; (with_reducible refine (spec_DealRun.calls k _ _ t100001 (fun k_ => some k_ = (.slice Ao9 t100002.length co9 : Value).ownBlock) _ _ t100002 t100007 t100008 t100011 _ ?side1 ?side2 ?side3 A4.out).mono ?_); (case side1 => repeat (first | exact (Kd.R_reads' HO100004.out).2.2 | (with_reducible refine Kd.C_alloc ?_ _) | (with_reducible refine Kd.C_drewN ?_ _) | (with_reducible refine Kd.C_drew ?_))); (case side2 => exact (Kd.R_reads' HO100004.out).2.1); (case side3 => exact Kd.R_V (Kd.R_tight rfl (Kd.R_apart' (HO100006.out) (Kd.R_typed HO100004.out) (by decide)))); rintro e w10 ⟨v100009, v100012, rfl, ho0, ho1, hb⟩; have n0_ := Aside0.mk (Kd.R_below (by (with_reducible repeat (first | apply Kd.R_alloc | apply Kd.R_drewN | apply Kd.R_drew)); exact HO100004.out) hb); have n1_ := Aside0.mk (Kd.R_elder' (by (with_reducible repeat (first | apply Kd.R_alloc | apply Kd.R_drewN | apply Kd.R_drew)); exact HO100006.out) (Kd.R_base ho1) hb); have n2_ := Aside0.mk (Kd.R_lower (Kd.R_mono (ok' := fun k_ => True) ho0 (fun _ hk_ => trivial)) (below_size (by repeat (first | (with_reducible first | exact HB.out | apply below_alloc | apply pw_below_drewN | apply below_drew1) | exact HB.out)))); have n3_ := Aside0.mk (Kd.R_lower (Kd.R_new' (Kd.R_mono (ok' := fun k_ => True) ho1 (fun _ hk_ => trivial)) (Kd.R_lt (by (with_reducible repeat (first | apply Kd.R_alloc | apply Kd.R_drewN | apply Kd.R_drew)); exact HO100006.out))) (below_size (by repeat (first | (with_reducible first | exact HB.out | apply below_alloc | apply pw_below_drewN | apply below_drew1) | exact HB.out)))); have n4_ := Aside0.mk (below_step (by repeat (first | (with_reducible first | exact HB.out | apply below_alloc | apply pw_below_drewN | apply below_drew1) | exact HB.out)) hb); clear HO100004; clear HO100006; clear HB; have HO100004 := n0_; have HO100006 := n1_; have HO100010 := n2_; have HO100013 := n3_; have HB := n4_; clear n0_ n1_ n2_ n3_ n4_; (try clear hb); (try clear hb2); (try clear hk); (try clear hi); (try clear ho0); (try clear ho1)) | (go_at_call 22; (with_reducible refine (impl_DealRun.calls k _ _ t100001 _ _ t100002 t100014 t100015 t100016 _ ?side1 ?side2 ?side3 ?side4 A5.out).mono ?_); (case side1 => repeat (first | exact (Kd.R_reads' HO100004.out).2.2 | (with_reducible refine Kd.C_alloc ?_ _) | (with_reducible refine Kd.C_drewN ?_ _) | (with_reducible refine Kd.C_drew ?_))); (case side2 => exact (Kd.R_reads' HO100004.out).2.1); (case side3 => repeat (first | exact (Kd.R_reads' HO100006.out).2.2 | (with_reducible refine Kd.C_alloc ?_ _) | (with_reducible refine Kd.C_drewN ?_ _) | (with_reducible refine Kd.C_drew ?_))); (case side4 => exact (Kd.R_reads' HO100006.out).2.1); rintro e w11 ⟨v100017, v100019, rfl, ho0, ho1, hb⟩; have n0_ := Aside0.mk (Kd.R_below (by (with_reducible repeat (first | apply Kd.R_alloc | apply Kd.R_drewN | apply Kd.R_drew)); exact HO100004.out) hb); have n1_ := Aside0.mk (Kd.R_elder' (by (with_reducible repeat (first | apply Kd.R_alloc | apply Kd.R_drewN | apply Kd.R_drew)); exact HO100006.out) (Kd.R_base ho1) hb); have n2_ := Aside0.mk (Kd.R_elder' (by (with_reducible repeat (first | apply Kd.R_alloc | apply Kd.R_drewN | apply Kd.R_drew)); exact HO100010.out) (Kd.R_base ho0) hb); have n3_ := Aside0.mk (Kd.R_elder' (by (with_reducible repeat (first | apply Kd.R_alloc | apply Kd.R_drewN | apply Kd.R_drew)); exact HO100013.out) (Kd.R_base ho1) hb); have n4_ := Aside0.mk (Kd.R_lower (Kd.R_new' ho0 (Kd.R_lt (by (with_reducible repeat (first | apply Kd.R_alloc | apply Kd.R_drewN | apply Kd.R_drew)); exact HO100010.out))) (below_size (by repeat (first | (with_reducible first | exact HB.out | apply below_alloc | apply pw_below_drewN | apply below_drew1) | exact HB.out)))); have n5_ := Aside0.mk (Kd.R_lower (Kd.R_new' (Kd.R_new' ho1 (Kd.R_lt (by (with_reducible repeat (first | apply Kd.R_alloc | apply Kd.R_drewN | apply Kd.R_drew)); exact HO100006.out))) (Kd.R_lt (by (with_reducible repeat (first | apply Kd.R_alloc | apply Kd.R_drewN | apply Kd.R_drew)); exact HO100013.out))) (below_size (by repeat (first | (with_reducible first | exact HB.out | apply below_alloc | apply pw_below_drewN | apply below_drew1) | exact HB.out)))); have n6_ := Aside0.mk (below_step (by repeat (first | (with_reducible first | exact HB.out | apply below_alloc | apply pw_below_drewN | apply below_drew1) | exact HB.out)) hb); clear HO100004; clear HO100006; clear HO100010; clear HO100013; clear HB; have HO100004 := n0_; have HO100006 := n1_; have HO100010 := n2_; have HO100013 := n3_; have HO100018 := n4_; have HO100020 := n5_; have HB := n6_; clear n0_ n1_ n2_ n3_ n4_ n5_ n6_; (try clear hb); (try clear hb2); (try clear hk); (try clear hi); (try clear ho0); (try clear ho1)))
    repeat (go_quiet (first | (go_at_call 30; (with_reducible refine (spec_DrawDealRun.calls k _ _ l0 t100001 t100002 _ ?side1 ?side2 A3.out).mono ?_); (case side1 => repeat (first | exact HR0.out | (with_reducible refine Kd.C_alloc ?_ _) | (with_reducible refine Kd.C_drewN ?_ _) | (with_reducible refine Kd.C_drew ?_))); (case side2 => exact HC0.out); rintro e w7 ⟨v100003, v100005, rfl, ho0, ho1, hb⟩; have n0_ := Aside0.mk (Kd.R_lower ho0 (below_size (by repeat (first | (with_reducible first | exact HB.out | apply below_alloc | apply pw_below_drewN | apply below_drew1) | exact HB.out)))); have n1_ := Aside0.mk (Kd.R_lower ho1 (below_size (by repeat (first | (with_reducible first | exact HB.out | apply below_alloc | apply pw_below_drewN | apply below_drew1) | exact HB.out)))); have n2_ := Aside0.mk (below_step (by repeat (first | (with_reducible first | exact HB.out | apply below_alloc | apply pw_below_drewN | apply below_drew1) | exact HB.out)) hb); clear HB; have HO100004 := n0_; have HO100006 := n1_; have HB := n2_; clear n0_ n1_ n2_; (try clear hb); (try clear hb2); (try clear hk); (try clear hi); (try clear ho0); (try clear ho1); obtain ⟨Ao8, co8, eo8⟩ := Kd.R_slice HO100004.out; subst eo8; obtain ⟨Ao9, co9, eo9⟩ := Kd.R_slice HO100006.out; subst eo9) | (go_at_call 20; (with_reducible refine (spec_DealRun.calls k _ _ t100001 (fun k_ => some k_ = (.slice Ao9 t100002.length co9 : Value).ownBlock) _ _ t100002 t100007 t100008 t100011 _ ?side1 ?side2 ?side3 A4.out).mono ?_); (case side1 => repeat (first | exact (Kd.R_reads' HO100004.out).2.2 | (with_reducible refine Kd.C_alloc ?_ _) | (with_reducible refine Kd.C_drewN ?_ _) | (with_reducible refine Kd.C_drew ?_))); (case side2 => exact (Kd.R_reads' HO100004.out).2.1); (case side3 => exact Kd.R_V (Kd.R_tight rfl (Kd.R_apart' (HO100006.out) (Kd.R_typed HO100004.out) (by decide)))); rintro e w10 ⟨v100009, v100012, rfl, ho0, ho1, hb⟩; have n0_ := Aside0.mk (Kd.R_below (by (with_reducible repeat (first | apply Kd.R_alloc | apply Kd.R_drewN | apply Kd.R_drew)); exact HO100004.out) hb); have n1_ := Aside0.mk (Kd.R_elder' (by (with_reducible repeat (first | apply Kd.R_alloc | apply Kd.R_drewN | apply Kd.R_drew)); exact HO100006.out) (Kd.R_base ho1) hb); have n2_ := Aside0.mk (Kd.R_lower (Kd.R_mono (ok' := fun k_ => True) ho0 (fun _ hk_ => trivial)) (below_size (by repeat (first | (with_reducible first | exact HB.out | apply below_alloc | apply pw_below_drewN | apply below_drew1) | exact HB.out)))); have n3_ := Aside0.mk (Kd.R_lower (Kd.R_new' (Kd.R_mono (ok' := fun k_ => True) ho1 (fun _ hk_ => trivial)) (Kd.R_lt (by (with_reducible repeat (first | apply Kd.R_alloc | apply Kd.R_drewN | apply Kd.R_drew)); exact HO100006.out))) (below_size (by repeat (first | (with_reducible first | exact HB.out | apply below_alloc | apply pw_below_drewN | apply below_drew1) | exact HB.out)))); have n4_ := Aside0.mk (below_step (by repeat (first | (with_reducible first | exact HB.out | apply below_alloc | apply pw_below_drewN | apply below_drew1) | exact HB.out)) hb); clear HO100004; clear HO100006; clear HB; have HO100004 := n0_; have HO100006 := n1_; have HO100010 := n2_; have HO100013 := n3_; have HB := n4_; clear n0_ n1_ n2_ n3_ n4_; (try clear hb); (try clear hb2); (try clear hk); (try clear hi); (try clear ho0); (try clear ho1)) | (go_at_call 22; (with_reducible refine (impl_DealRun.calls k _ _ t100001 _ _ t100002 t100014 t100015 t100016 _ ?side1 ?side2 ?side3 ?side4 A5.out).mono ?_); (case side1 => repeat (first | exact (Kd.R_reads' HO100004.out).2.2 | (with_reducible refine Kd.C_alloc ?_ _) | (with_reducible refine Kd.C_drewN ?_ _) | (with_reducible refine Kd.C_drew ?_))); (case side2 => exact (Kd.R_reads' HO100004.out).2.1); (case side3 => repeat (first | exact (Kd.R_reads' HO100006.out).2.2 | (with_reducible refine Kd.C_alloc ?_ _) | (with_reducible refine Kd.C_drewN ?_ _) | (with_reducible refine Kd.C_drew ?_))); (case side4 => exact (Kd.R_reads' HO100006.out).2.1); rintro e w11 ⟨v100017, v100019, rfl, ho0, ho1, hb⟩; have n0_ := Aside0.mk (Kd.R_below (by (with_reducible repeat (first | apply Kd.R_alloc | apply Kd.R_drewN | apply Kd.R_drew)); exact HO100004.out) hb); have n1_ := Aside0.mk (Kd.R_elder' (by (with_reducible repeat (first | apply Kd.R_alloc | apply Kd.R_drewN | apply Kd.R_drew)); exact HO100006.out) (Kd.R_base ho1) hb); have n2_ := Aside0.mk (Kd.R_elder' (by (with_reducible repeat (first | apply Kd.R_alloc | apply Kd.R_drewN | apply Kd.R_drew)); exact HO100010.out) (Kd.R_base ho0) hb); have n3_ := Aside0.mk (Kd.R_elder' (by (with_reducible repeat (first | apply Kd.R_alloc | apply Kd.R_drewN | apply Kd.R_drew)); exact HO100013.out) (Kd.R_base ho1) hb); have n4_ := Aside0.mk (Kd.R_lower (Kd.R_new' ho0 (Kd.R_lt (by (with_reducible repeat (first | apply Kd.R_alloc | apply Kd.R_drewN | apply Kd.R_drew)); exact HO100010.out))) (below_size (by repeat (first | (with_reducible first | exact HB.out | apply below_alloc | apply pw_below_drewN | apply below_drew1) | exact HB.out)))); have n5_ := Aside0.mk (Kd.R_lower (Kd.R_new' (Kd.R_new' ho1 (Kd.R_lt (by (with_reducible repeat (first | apply Kd.R_alloc | apply Kd.R_drewN | apply Kd.R_drew)); exact HO100006.out))) (Kd.R_lt (by (with_reducible repeat (first | apply Kd.R_alloc | apply Kd.R_drewN | apply Kd.R_drew)); exact HO100013.out))) (below_size (by repeat (first | (with_reducible first | exact HB.out | apply below_alloc | apply pw_below_drewN | apply below_drew1) | exact HB.out)))); have n6_ := Aside0.mk (below_step (by repeat (first | (with_reducible first | exact HB.out | apply below_alloc | apply pw_below_drewN | apply below_drew1) | exact HB.out)) hb); clear HO100004; clear HO100006; clear HO100010; clear HO100013; clear HB; have HO100004 := n0_; have HO100006 := n1_; have HO100010 := n2_; have HO100013 := n3_; have HO100018 := n4_; have HO100020 := n5_; have HB := n6_; clear n0_ n1_ n2_ n3_ n4_ n5_ n6_; (try clear hb); (try clear hb2); (try clear hk); (try clear hi); (try clear ho0); (try clear ho1))); go_upto_region 6 with (first | (go_at_call 30; (with_reducible refine (spec_DrawDealRun.calls k _ _ l0 t100001 t100002 _ ?side1 ?side2 A3.out).mono ?_); (case side1 => repeat (first | exact HR0.out | (with_reducible refine Kd.C_alloc ?_ _) | (with_reducible refine Kd.C_drewN ?_ _) | (with_reducible refine Kd.C_drew ?_))); (case side2 => exact HC0.out); rintro e w7 ⟨v100003, v100005, rfl, ho0, ho1, hb⟩; have n0_ := Aside0.mk (Kd.R_lower ho0 (below_size (by repeat (first | (with_reducible first | exact HB.out | apply below_alloc | apply pw_below_drewN | apply below_drew1) | exact HB.out)))); have n1_ := Aside0.mk (Kd.R_lower ho1 (below_size (by repeat (first | (with_reducible first | exact HB.out | apply below_alloc | apply pw_below_drewN | apply below_drew1) | exact HB.out)))); have n2_ := Aside0.mk (below_step (by repeat (first | (with_reducible first | exact HB.out | apply below_alloc | apply pw_below_drewN | apply below_drew1) | exact HB.out)) hb); clear HB; have HO100004 := n0_; have HO100006 := n1_; have HB := n2_; clear n0_ n1_ n2_; (try clear hb); (try clear hb2); (try clear hk); (try clear hi); (try clear ho0); (try clear ho1); obtain ⟨Ao8, co8, eo8⟩ := Kd.R_slice HO100004.out; subst eo8; obtain ⟨Ao9, co9, eo9⟩ := Kd.R_slice HO100006.out; subst eo9) | (go_at_call 20; (with_reducible refine (spec_DealRun.calls k _ _ t100001 (fun k_ => some k_ = (.slice Ao9 t100002.length co9 : Value).ownBlock) _ _ t100002 t100007 t100008 t100011 _ ?side1 ?side2 ?side3 A4.out).mono ?_); (case side1 => repeat (first | exact (Kd.R_reads' HO100004.out).2.2 | (with_reducible refine Kd.C_alloc ?_ _) | (with_reducible refine Kd.C_drewN ?_ _) | (with_reducible refine Kd.C_drew ?_))); (case side2 => exact (Kd.R_reads' HO100004.out).2.1); (case side3 => exact Kd.R_V (Kd.R_tight rfl (Kd.R_apart' (HO100006.out) (Kd.R_typed HO100004.out) (by decide)))); rintro e w10 ⟨v100009, v100012, rfl, ho0, ho1, hb⟩; have n0_ := Aside0.mk (Kd.R_below (by (with_reducible repeat (first | apply Kd.R_alloc | apply Kd.R_drewN | apply Kd.R_drew)); exact HO100004.out) hb); have n1_ := Aside0.mk (Kd.R_elder' (by (with_reducible repeat (first | apply Kd.R_alloc | apply Kd.R_drewN | apply Kd.R_drew)); exact HO100006.out) (Kd.R_base ho1) hb); have n2_ := Aside0.mk (Kd.R_lower (Kd.R_mono (ok' := fun k_ => True) ho0 (fun _ hk_ => trivial)) (below_size (by repeat (first | (with_reducible first | exact HB.out | apply below_alloc | apply pw_below_drewN | apply below_drew1) | exact HB.out)))); have n3_ := Aside0.mk (Kd.R_lower (Kd.R_new' (Kd.R_mono (ok' := fun k_ => True) ho1 (fun _ hk_ => trivial)) (Kd.R_lt (by (with_reducible repeat (first | apply Kd.R_alloc | apply Kd.R_drewN | apply Kd.R_drew)); exact HO100006.out))) (below_size (by repeat (first | (with_reducible first | exact HB.out | apply below_alloc | apply pw_below_drewN | apply below_drew1) | exact HB.out)))); have n4_ := Aside0.mk (below_step (by repeat (first | (with_reducible first | exact HB.out | apply below_alloc | apply pw_below_drewN | apply below_drew1) | exact HB.out)) hb); clear HO100004; clear HO100006; clear HB; have HO100004 := n0_; have HO100006 := n1_; have HO100010 := n2_; have HO100013 := n3_; have HB := n4_; clear n0_ n1_ n2_ n3_ n4_; (try clear hb); (try clear hb2); (try clear hk); (try clear hi); (try clear ho0); (try clear ho1)) | (go_at_call 22; (with_reducible refine (impl_DealRun.calls k _ _ t100001 _ _ t100002 t100014 t100015 t100016 _ ?side1 ?side2 ?side3 ?side4 A5.out).mono ?_); (case side1 => repeat (first | exact (Kd.R_reads' HO100004.out).2.2 | (with_reducible refine Kd.C_alloc ?_ _) | (with_reducible refine Kd.C_drewN ?_ _) | (with_reducible refine Kd.C_drew ?_))); (case side2 => exact (Kd.R_reads' HO100004.out).2.1); (case side3 => repeat (first | exact (Kd.R_reads' HO100006.out).2.2 | (with_reducible refine Kd.C_alloc ?_ _) | (with_reducible refine Kd.C_drewN ?_ _) | (with_reducible refine Kd.C_drew ?_))); (case side4 => exact (Kd.R_reads' HO100006.out).2.1); rintro e w11 ⟨v100017, v100019, rfl, ho0, ho1, hb⟩; have n0_ := Aside0.mk (Kd.R_below (by (with_reducible repeat (first | apply Kd.R_alloc | apply Kd.R_drewN | apply Kd.R_drew)); exact HO100004.out) hb); have n1_ := Aside0.mk (Kd.R_elder' (by (with_reducible repeat (first | apply Kd.R_alloc | apply Kd.R_drewN | apply Kd.R_drew)); exact HO100006.out) (Kd.R_base ho1) hb); have n2_ := Aside0.mk (Kd.R_elder' (by (with_reducible repeat (first | apply Kd.R_alloc | apply Kd.R_drewN | apply Kd.R_drew)); exact HO100010.out) (Kd.R_base ho0) hb); have n3_ := Aside0.mk (Kd.R_elder' (by (with_reducible repeat (first | apply Kd.R_alloc | apply Kd.R_drewN | apply Kd.R_drew)); exact HO100013.out) (Kd.R_base ho1) hb); have n4_ := Aside0.mk (Kd.R_lower (Kd.R_new' ho0 (Kd.R_lt (by (with_reducible repeat (first | apply Kd.R_alloc | apply Kd.R_drewN | apply Kd.R_drew)); exact HO100010.out))) (below_size (by repeat (first | (with_reducible first | exact HB.out | apply below_alloc | apply pw_below_drewN | apply below_drew1) | exact HB.out)))); have n5_ := Aside0.mk (Kd.R_lower (Kd.R_new' (Kd.R_new' ho1 (Kd.R_lt (by (with_reducible repeat (first | apply Kd.R_alloc | apply Kd.R_drewN | apply Kd.R_drew)); exact HO100006.out))) (Kd.R_lt (by (with_reducible repeat (first | apply Kd.R_alloc | apply Kd.R_drewN | apply Kd.R_drew)); exact HO100013.out))) (below_size (by repeat (first | (with_reducible first | exact HB.out | apply below_alloc | apply pw_below_drewN | apply below_drew1) | exact HB.out)))); have n6_ := Aside0.mk (below_step (by repeat (first | (with_reducible first | exact HB.out | apply below_alloc | apply pw_below_drewN | apply below_drew1) | exact HB.out)) hb); clear HO100004; clear HO100006; clear HO100010; clear HO100013; clear HB; have HO100004 := n0_; have HO100006 := n1_; have HO100010 := n2_; have HO100013 := n3_; have HO100018 := n4_; have HO100020 := n5_; have HB := n6_; clear n0_ n1_ n2_ n3_ n4_ n5_ n6_; (try clear hb); (try clear hb2); (try clear hk); (try clear hi); (try clear ho0); (try clear ho1))))
    (try simp only [Act.put, List.setIfInBounds_toArray, List.set_cons_zero, List.set_cons_succ])
    go_cut [49] (fun v49 wc => ∃ (kq : Nat) (x49_5 : Bool), v49 = .bool x49_5 ∧ Aside0 (laws_FnDealWhole.j0 kq t100001 t100002 t100014 t100015 t100016 x49_5 = some true) ∧ Aside0 (kq ≤ k) ∧ Aside0 (Kd.R k46 46 wc w.heap.size (fun _ => True) (.slice Ao8 t100001.length co8) t100001) ∧ Aside0 (Kd.R k48 48 wc w.heap.size (fun k_ => some k_ ≠ (v100019 : Value).ownBlock) (.slice Ao9 t100002.length co9) t100002) ∧ Aside0 (Kd.R (Kd.int .i64) 3 wc w.heap.size (fun _ => True) v100017 t100015) ∧ Aside0 (Kd.R k48 48 wc w.heap.size (fun k_ => some k_ ≠ ((.slice Ao9 t100002.length co9) : Value).ownBlock) v100019 t100016) ∧ Aside0 (Below w.heap.size w wc))
    case first =>
      have H := HC6.out
      clear HC6
      by_cases c12 : t100014 = t100007
      · rw [if_pos c12] at H
        have c12b0 : (t100014 == t100007) = true := beq_iff_eq.mpr c12
        have c12b1 : (t100014 != t100007) = false := bne_eq_false_iff_eq.mpr c12
        clear c12
        (first | rw [c12b0] | (simp only [i64_w, i32_w]; rw [c12b0]) | skip)
        replace H := Option.bind_eq_some_iff.mp H
        obtain ⟨t100021, A130, H⟩ := H
        replace H : (if t100021 = true then ((laws_loPairs.f k t100016 t100011).bind fun t100022 => (laws_FnDealWhole.j0 k t100001 t100002 t100014 t100015 t100016 (!t100022))) else (laws_FnDealWhole.j0 k t100001 t100002 t100014 t100015 t100016 true)) = some true := H
        have A13 := Aside0.mk A130
        clear A130
        by_cases c14 : t100021 = true
        · subst c14
          have H1 : ((laws_loPairs.f k t100016 t100011).bind fun t100022 => (laws_FnDealWhole.j0 k t100001 t100002 t100014 t100015 t100016 (!t100022))) = some true := by rw [if_pos rfl] at H; exact H
          clear H
          have H := H1
          clear H1
          replace H := Option.bind_eq_some_iff.mp H
          obtain ⟨t100022, A150, H⟩ := H
          replace H : (laws_FnDealWhole.j0 k t100001 t100002 t100014 t100015 t100016 (!t100022)) = some true := H
          have A15 := Aside0.mk A150
          clear A150
          have H' := Aside0.mk H
          clear H
          obtain ⟨Ao16, co16, eo16⟩ := Kd.R_slice HO100018.out
          subst eo16
          obtain ⟨Ao17, co17, eo17⟩ := Kd.R_slice HO100010.out
          subst eo17
          go_wp2_with (first | (go_at_call 31; (with_reducible refine (laws_loInts.calls k _ _ t100015 _ _ t100008 true _ ?side1 ?side2 ?side3 ?side4 A13.out).mono ?_); (case side1 => repeat (first | exact (Kd.R_reads' HO100018.out).2.2 | (with_reducible refine Kd.C_alloc ?_ _) | (with_reducible refine Kd.C_drewN ?_ _) | (with_reducible refine Kd.C_drew ?_))); (case side2 => exact (Kd.R_reads' HO100018.out).2.1); (case side3 => repeat (first | exact (Kd.R_reads' HO100010.out).2.2 | (with_reducible refine Kd.C_alloc ?_ _) | (with_reducible refine Kd.C_drewN ?_ _) | (with_reducible refine Kd.C_drew ?_))); (case side4 => exact (Kd.R_reads' HO100010.out).2.1); rintro e w' ⟨rfl, ⟨nd, rfl⟩⟩; (try first | exact ⟨rfl, _, World.drewN_drewN _ _ _⟩ | exact ⟨rfl, _, Eq.trans (World.drewN_drewN _ _ _) (congrArg (World.drewN _) (Nat.add_assoc _ _ _))⟩); obtain ⟨Ao18, co18, eo18⟩ := Kd.R_slice HO100020.out; subst eo18; obtain ⟨Ao19, co19, eo19⟩ := Kd.R_slice HO100013.out; subst eo19) | (go_at_call 32; (with_reducible refine (laws_loPairs.calls k _ _ t100016 _ _ t100011 t100022 _ ?side1 ?side2 ?side3 ?side4 A15.out).mono ?_); (case side1 => repeat (first | exact (Kd.R_reads' HO100020.out).2.2 | (with_reducible refine Kd.C_alloc ?_ _) | (with_reducible refine Kd.C_drewN ?_ _) | (with_reducible refine Kd.C_drew ?_))); (case side2 => exact (Kd.R_reads' HO100020.out).2.1); (case side3 => repeat (first | exact (Kd.R_reads' HO100013.out).2.2 | (with_reducible refine Kd.C_alloc ?_ _) | (with_reducible refine Kd.C_drewN ?_ _) | (with_reducible refine Kd.C_drew ?_))); (case side4 => exact (Kd.R_reads' HO100013.out).2.1); rintro e w' ⟨rfl, ⟨nd, rfl⟩⟩; (try first | exact ⟨rfl, _, World.drewN_drewN _ _ _⟩ | exact ⟨rfl, _, Eq.trans (World.drewN_drewN _ _ _) (congrArg (World.drewN _) (Nat.add_assoc _ _ _))⟩)))
          repeat (go_quiet (first | (go_at_call 31; (with_reducible refine (laws_loInts.calls k _ _ t100015 _ _ t100008 true _ ?side1 ?side2 ?side3 ?side4 A13.out).mono ?_); (case side1 => repeat (first | exact (Kd.R_reads' HO100018.out).2.2 | (with_reducible refine Kd.C_alloc ?_ _) | (with_reducible refine Kd.C_drewN ?_ _) | (with_reducible refine Kd.C_drew ?_))); (case side2 => exact (Kd.R_reads' HO100018.out).2.1); (case side3 => repeat (first | exact (Kd.R_reads' HO100010.out).2.2 | (with_reducible refine Kd.C_alloc ?_ _) | (with_reducible refine Kd.C_drewN ?_ _) | (with_reducible refine Kd.C_drew ?_))); (case side4 => exact (Kd.R_reads' HO100010.out).2.1); rintro e w' ⟨rfl, ⟨nd, rfl⟩⟩; (try first | exact ⟨rfl, _, World.drewN_drewN _ _ _⟩ | exact ⟨rfl, _, Eq.trans (World.drewN_drewN _ _ _) (congrArg (World.drewN _) (Nat.add_assoc _ _ _))⟩); obtain ⟨Ao18, co18, eo18⟩ := Kd.R_slice HO100020.out; subst eo18; obtain ⟨Ao19, co19, eo19⟩ := Kd.R_slice HO100013.out; subst eo19) | (go_at_call 32; (with_reducible refine (laws_loPairs.calls k _ _ t100016 _ _ t100011 t100022 _ ?side1 ?side2 ?side3 ?side4 A15.out).mono ?_); (case side1 => repeat (first | exact (Kd.R_reads' HO100020.out).2.2 | (with_reducible refine Kd.C_alloc ?_ _) | (with_reducible refine Kd.C_drewN ?_ _) | (with_reducible refine Kd.C_drew ?_))); (case side2 => exact (Kd.R_reads' HO100020.out).2.1); (case side3 => repeat (first | exact (Kd.R_reads' HO100013.out).2.2 | (with_reducible refine Kd.C_alloc ?_ _) | (with_reducible refine Kd.C_drewN ?_ _) | (with_reducible refine Kd.C_drew ?_))); (case side4 => exact (Kd.R_reads' HO100013.out).2.1); rintro e w' ⟨rfl, ⟨nd, rfl⟩⟩; (try first | exact ⟨rfl, _, World.drewN_drewN _ _ _⟩ | exact ⟨rfl, _, Eq.trans (World.drewN_drewN _ _ _) (congrArg (World.drewN _) (Nat.add_assoc _ _ _))⟩))); try go_wp2_with (first | (go_at_call 31; (with_reducible refine (laws_loInts.calls k _ _ t100015 _ _ t100008 true _ ?side1 ?side2 ?side3 ?side4 A13.out).mono ?_); (case side1 => repeat (first | exact (Kd.R_reads' HO100018.out).2.2 | (with_reducible refine Kd.C_alloc ?_ _) | (with_reducible refine Kd.C_drewN ?_ _) | (with_reducible refine Kd.C_drew ?_))); (case side2 => exact (Kd.R_reads' HO100018.out).2.1); (case side3 => repeat (first | exact (Kd.R_reads' HO100010.out).2.2 | (with_reducible refine Kd.C_alloc ?_ _) | (with_reducible refine Kd.C_drewN ?_ _) | (with_reducible refine Kd.C_drew ?_))); (case side4 => exact (Kd.R_reads' HO100010.out).2.1); rintro e w' ⟨rfl, ⟨nd, rfl⟩⟩; (try first | exact ⟨rfl, _, World.drewN_drewN _ _ _⟩ | exact ⟨rfl, _, Eq.trans (World.drewN_drewN _ _ _) (congrArg (World.drewN _) (Nat.add_assoc _ _ _))⟩); obtain ⟨Ao18, co18, eo18⟩ := Kd.R_slice HO100020.out; subst eo18; obtain ⟨Ao19, co19, eo19⟩ := Kd.R_slice HO100013.out; subst eo19) | (go_at_call 32; (with_reducible refine (laws_loPairs.calls k _ _ t100016 _ _ t100011 t100022 _ ?side1 ?side2 ?side3 ?side4 A15.out).mono ?_); (case side1 => repeat (first | exact (Kd.R_reads' HO100020.out).2.2 | (with_reducible refine Kd.C_alloc ?_ _) | (with_reducible refine Kd.C_drewN ?_ _) | (with_reducible refine Kd.C_drew ?_))); (case side2 => exact (Kd.R_reads' HO100020.out).2.1); (case side3 => repeat (first | exact (Kd.R_reads' HO100013.out).2.2 | (with_reducible refine Kd.C_alloc ?_ _) | (with_reducible refine Kd.C_drewN ?_ _) | (with_reducible refine Kd.C_drew ?_))); (case side4 => exact (Kd.R_reads' HO100013.out).2.1); rintro e w' ⟨rfl, ⟨nd, rfl⟩⟩; (try first | exact ⟨rfl, _, World.drewN_drewN _ _ _⟩ | exact ⟨rfl, _, Eq.trans (World.drewN_drewN _ _ _) (congrArg (World.drewN _) (Nat.add_assoc _ _ _))⟩))))
          go_meet
          case rel => exact ⟨_, (!t100022), (by first | rfl | (simp; done) | (simp [*]; done)), H', ⟨by first | omega | exact Nat.le_refl _⟩, ⟨by (with_reducible repeat (first | apply Kd.R_alloc | apply Kd.R_drewN | apply Kd.R_drew)); exact HO100004.out⟩, ⟨by (with_reducible repeat (first | apply Kd.R_alloc | apply Kd.R_drewN | apply Kd.R_drew)); exact Kd.R_mono HO100006.out (fun _ hk => hk.2)⟩, ⟨by (with_reducible repeat (first | apply Kd.R_alloc | apply Kd.R_drewN | apply Kd.R_drew)); exact Kd.R_mono HO100018.out (fun _ hk => trivial)⟩, ⟨by (with_reducible repeat (first | apply Kd.R_alloc | apply Kd.R_drewN | apply Kd.R_drew)); exact Kd.R_mono HO100020.out (fun _ hk => hk.1.2)⟩, ⟨by repeat (first | (with_reducible first | exact HB.out | apply below_alloc | apply pw_below_drewN | apply below_drew1) | exact HB.out)⟩⟩
        · replace c14 := Bool.eq_false_iff.mpr c14
          subst c14
          have H1 : (laws_FnDealWhole.j0 k t100001 t100002 t100014 t100015 t100016 true) = some true := by rw [if_neg (show ¬ (false = true) by decide)] at H; exact H
          clear H
          have H := H1
          clear H1
          have H' := Aside0.mk H
          clear H
          obtain ⟨Ao20, co20, eo20⟩ := Kd.R_slice HO100018.out
          subst eo20
          obtain ⟨Ao21, co21, eo21⟩ := Kd.R_slice HO100010.out
          subst eo21
          go_wp2_with (first | (go_at_call 31; (with_reducible refine (laws_loInts.calls k _ _ t100015 _ _ t100008 false _ ?side1 ?side2 ?side3 ?side4 A13.out).mono ?_); (case side1 => repeat (first | exact (Kd.R_reads' HO100018.out).2.2 | (with_reducible refine Kd.C_alloc ?_ _) | (with_reducible refine Kd.C_drewN ?_ _) | (with_reducible refine Kd.C_drew ?_))); (case side2 => exact (Kd.R_reads' HO100018.out).2.1); (case side3 => repeat (first | exact (Kd.R_reads' HO100010.out).2.2 | (with_reducible refine Kd.C_alloc ?_ _) | (with_reducible refine Kd.C_drewN ?_ _) | (with_reducible refine Kd.C_drew ?_))); (case side4 => exact (Kd.R_reads' HO100010.out).2.1); rintro e w' ⟨rfl, ⟨nd, rfl⟩⟩; (try first | exact ⟨rfl, _, World.drewN_drewN _ _ _⟩ | exact ⟨rfl, _, Eq.trans (World.drewN_drewN _ _ _) (congrArg (World.drewN _) (Nat.add_assoc _ _ _))⟩)))
          repeat (go_quiet (first | (go_at_call 31; (with_reducible refine (laws_loInts.calls k _ _ t100015 _ _ t100008 false _ ?side1 ?side2 ?side3 ?side4 A13.out).mono ?_); (case side1 => repeat (first | exact (Kd.R_reads' HO100018.out).2.2 | (with_reducible refine Kd.C_alloc ?_ _) | (with_reducible refine Kd.C_drewN ?_ _) | (with_reducible refine Kd.C_drew ?_))); (case side2 => exact (Kd.R_reads' HO100018.out).2.1); (case side3 => repeat (first | exact (Kd.R_reads' HO100010.out).2.2 | (with_reducible refine Kd.C_alloc ?_ _) | (with_reducible refine Kd.C_drewN ?_ _) | (with_reducible refine Kd.C_drew ?_))); (case side4 => exact (Kd.R_reads' HO100010.out).2.1); rintro e w' ⟨rfl, ⟨nd, rfl⟩⟩; (try first | exact ⟨rfl, _, World.drewN_drewN _ _ _⟩ | exact ⟨rfl, _, Eq.trans (World.drewN_drewN _ _ _) (congrArg (World.drewN _) (Nat.add_assoc _ _ _))⟩))); try go_wp2_with (first | (go_at_call 31; (with_reducible refine (laws_loInts.calls k _ _ t100015 _ _ t100008 false _ ?side1 ?side2 ?side3 ?side4 A13.out).mono ?_); (case side1 => repeat (first | exact (Kd.R_reads' HO100018.out).2.2 | (with_reducible refine Kd.C_alloc ?_ _) | (with_reducible refine Kd.C_drewN ?_ _) | (with_reducible refine Kd.C_drew ?_))); (case side2 => exact (Kd.R_reads' HO100018.out).2.1); (case side3 => repeat (first | exact (Kd.R_reads' HO100010.out).2.2 | (with_reducible refine Kd.C_alloc ?_ _) | (with_reducible refine Kd.C_drewN ?_ _) | (with_reducible refine Kd.C_drew ?_))); (case side4 => exact (Kd.R_reads' HO100010.out).2.1); rintro e w' ⟨rfl, ⟨nd, rfl⟩⟩; (try first | exact ⟨rfl, _, World.drewN_drewN _ _ _⟩ | exact ⟨rfl, _, Eq.trans (World.drewN_drewN _ _ _) (congrArg (World.drewN _) (Nat.add_assoc _ _ _))⟩))))
          go_meet
          case rel => exact ⟨_, (true), (by first | rfl | (simp; done) | (simp [*]; done)), H', ⟨by first | omega | exact Nat.le_refl _⟩, ⟨by (with_reducible repeat (first | apply Kd.R_alloc | apply Kd.R_drewN | apply Kd.R_drew)); exact HO100004.out⟩, ⟨by (with_reducible repeat (first | apply Kd.R_alloc | apply Kd.R_drewN | apply Kd.R_drew)); exact Kd.R_mono HO100006.out (fun _ hk => hk.2)⟩, ⟨by (with_reducible repeat (first | apply Kd.R_alloc | apply Kd.R_drewN | apply Kd.R_drew)); exact Kd.R_mono HO100018.out (fun _ hk => trivial)⟩, ⟨by (with_reducible repeat (first | apply Kd.R_alloc | apply Kd.R_drewN | apply Kd.R_drew)); exact Kd.R_mono HO100020.out (fun _ hk => hk.1.2)⟩, ⟨by repeat (first | (with_reducible first | exact HB.out | apply below_alloc | apply pw_below_drewN | apply below_drew1) | exact HB.out)⟩⟩
      · rw [if_neg c12] at H
        have c12b0 : (t100014 == t100007) = false := beq_eq_false_iff_ne.mpr c12
        have c12b1 : (t100014 != t100007) = true := bne_iff_ne.mpr c12
        (first | rw [c12b0] | (simp only [i64_w, i32_w]; rw [c12b0]) | skip)
        have H' := Aside0.mk H
        clear H
        go_wp2
        repeat (go_quiet (fail); try go_wp2)
        go_meet
        case rel => exact ⟨_, (true), (by first | rfl | (simp; done) | (simp [*]; done)), H', ⟨by first | omega | exact Nat.le_refl _⟩, ⟨by (with_reducible repeat (first | apply Kd.R_alloc | apply Kd.R_drewN | apply Kd.R_drew)); exact HO100004.out⟩, ⟨by (with_reducible repeat (first | apply Kd.R_alloc | apply Kd.R_drewN | apply Kd.R_drew)); exact Kd.R_mono HO100006.out (fun _ hk => hk.2)⟩, ⟨by (with_reducible repeat (first | apply Kd.R_alloc | apply Kd.R_drewN | apply Kd.R_drew)); exact Kd.R_mono HO100018.out (fun _ hk => trivial)⟩, ⟨by (with_reducible repeat (first | apply Kd.R_alloc | apply Kd.R_drewN | apply Kd.R_drew)); exact Kd.R_mono HO100020.out (fun _ hk => hk.1.2)⟩, ⟨by repeat (first | (with_reducible first | exact HB.out | apply below_alloc | apply pw_below_drewN | apply below_drew1) | exact HB.out)⟩⟩
    case rest =>
      clear HC6
      try clear c1
      try clear c2
      try clear c2b0
      try clear c2b1
      try clear p2
      try clear c9
      try clear c12
      try clear c12b0
      try clear c12b1
      try clear c14
      obtain ⟨kq, x49_5, rfl, HA, HJ5, HO_3, HO_4, HO_9, HO_10, HB⟩ := hcut
      cases kq with
      | zero => exact absurd HA.out (by simp [laws_FnDealWhole.j0])
      | succ kj5 =>
        have H := HA.out
        clear HA
        simp only [laws_FnDealWhole.j0] at H
        by_cases c22 : x49_5 = true
        · subst c22
          have H1 : (some false) = some true := by rw [if_pos rfl] at H; exact H
          clear H
          have H := H1
          clear H1
          exact absurd H (by decide)
        · replace c22 := Bool.eq_false_iff.mpr c22
          subst c22
          have H1 : (if t100014 = 0 then (laws_FnDealWhole.l0 kj5 t100001 t100002 t100015 0 0) else (some ((wrap64 ((t100015.length : Int) + (t100016.length : Int))) == 0))) = some true := by rw [if_neg (show ¬ (false = true) by decide)] at H; exact H
          clear H
          have H := H1
          clear H1
          by_cases c23 : t100014 = 0
          · rw [if_pos c23] at H
            have c23b0 : (t100014 == 0) = true := beq_iff_eq.mpr c23
            have c23b1 : (t100014 != 0) = false := bne_eq_false_iff_eq.mpr c23
            clear c23
            have H' := Aside0.mk H
            clear H
            go_wp2
            repeat (go_quiet (fail); try go_wp2)
            go_loopg [11, 12] kj5 (fun kq v11 v12 w' => ∃ (x11_2 : Int) (x12_2 : Int), v11 = .int .i64 x11_2 ∧ v12 = .int .i64 x12_2 ∧ Aside0 (laws_FnDealWhole.l0 kq t100001 t100002 t100015 x11_2 x12_2 = some true) ∧ Aside0 (kq ≤ kj5) ∧ Aside0 (Kd.R k46 46 w' w.heap.size (fun _ => True) (.slice Ao8 t100001.length co8) t100001) ∧ Aside0 (Kd.R k48 48 w' w.heap.size (fun _ => True) (.slice Ao9 t100002.length co9) t100002) ∧ Aside0 (Kd.R (Kd.int .i64) 3 w' w.heap.size (fun _ => True) v100017 t100015) ∧ Aside0 (Below w.heap.size w w'))
            case atStart => exact ⟨(0), (0), (by first | rfl | (simp; done) | (simp [*]; done)), (by first | rfl | (simp; done) | (simp [*]; done)), H', ⟨Nat.le_refl _⟩, ⟨by (with_reducible repeat (first | apply Kd.R_alloc | apply Kd.R_drewN | apply Kd.R_drew)); exact HO_3.out⟩, ⟨by (with_reducible repeat (first | apply Kd.R_alloc | apply Kd.R_drewN | apply Kd.R_drew)); exact Kd.R_mono HO_4.out (fun _ hk => trivial)⟩, ⟨by (with_reducible repeat (first | apply Kd.R_alloc | apply Kd.R_drewN | apply Kd.R_drew)); exact HO_9.out⟩, ⟨by repeat (first | (with_reducible first | exact HB.out | apply below_alloc | apply pw_below_drewN | apply below_drew1) | exact HB.out)⟩⟩
            case round =>
              clear H'
              try clear c1
              try clear c2
              try clear c2b0
              try clear c2b1
              try clear p2
              try clear p6
              try clear c9
              try clear c12
              try clear c12b0
              try clear c12b1
              try clear c14
              try clear c22
              try clear c23
              try clear c23b0
              try clear c23b1
              try clear p2
              obtain ⟨x11_2, x12_2, rfl, rfl, HA, HK2, HO_3, HO_4, HO_9, HB⟩ := hrel
              cases gk with
              | zero => exact absurd HA.out (by simp [laws_FnDealWhole.l0])
              | succ k2 =>
                have H := HA.out
                clear HA
                simp only [laws_FnDealWhole.l0] at H
                by_cases c24 : x12_2 < (t100001.length : Int)
                · rw [if_pos c24] at H
                  have c24b0 : decide (x12_2 < (t100001.length : Int)) = true := decide_eq_true c24
                  clear c24
                  by_cases c25 : 0 ≤ x12_2
                  · rw [if_pos c25] at H
                    have c25b0 : decide (0 ≤ x12_2) = true := decide_eq_true c25
                    clear c25
                    by_cases c26 : ((rd_T46 t100001 x12_2).f0) = 1
                    · rw [if_pos c26] at H
                      have c26b0 : (((rd_T46 t100001 x12_2).f0) == 1) = true := beq_iff_eq.mpr c26
                      have c26b1 : (((rd_T46 t100001 x12_2).f0) != 1) = false := bne_eq_false_iff_eq.mpr c26
                      clear c26
                      by_cases c27 : ((rd_T46 t100001 x12_2).f0) = 4
                      · rw [if_pos c27] at H
                        have c27b0 : (((rd_T46 t100001 x12_2).f0) == 4) = true := beq_iff_eq.mpr c27
                        have c27b1 : (((rd_T46 t100001 x12_2).f0) != 4) = false := bne_eq_false_iff_eq.mpr c27
                        clear c27
                        by_cases c28 : x12_2 = 0
                        · rw [if_pos c28] at H
                          have c28b0 : (x12_2 == 0) = true := beq_iff_eq.mpr c28
                          have c28b1 : (x12_2 != 0) = false := bne_eq_false_iff_eq.mpr c28
                          clear c28
                          replace H := Option.bind_eq_some_iff.mp H
                          obtain ⟨t100026, A290, H⟩ := H
                          replace H : (if t100026 < ((rd_T46 t100001 x12_2).f2) then (some false) else (laws_FnDealWhole.l0 k2 t100001 t100002 t100015 (wrap64 (x11_2 + 1)) (wrap64 (x12_2 + 1)))) = some true := H
                          have A29 := Aside0.mk A290
                          clear A290
                          by_cases c30 : t100026 < ((rd_T46 t100001 x12_2).f2)
                          · rw [if_pos c30] at H
                            have c30b0 : decide (t100026 < ((rd_T46 t100001 x12_2).f2)) = true := decide_eq_true c30
                            clear c30
                            exact absurd H (by decide)
                          · rw [if_neg c30] at H
                            have c30b0 : decide (t100026 < ((rd_T46 t100001 x12_2).f2)) = false := decide_eq_false c30
                            clear c30
                            have H' := Aside0.mk H
                            clear H
                            have p100023 : 0 ≤ (x12_2 : Int) := of_decide_eq_true (by first | (with_reducible assumption) | assumption)
                            have q100023 : x12_2 < (t100001.length : Int) := of_decide_eq_true (by first | (with_reducible assumption) | assumption)
                            obtain ⟨ad100023, e100023, hx100023_0, hx100023_1, hx100023_2⟩ := at_T46 (Kd.R_reads' HO_3.out).2.2 x12_2 p100023 q100023
                            cases e100023
                            replace p100023 := eq_true p100023
                            replace q100023 := eq_true q100023
                            have p100024 : 0 ≤ (x12_2 : Int) := of_decide_eq_true (by first | (with_reducible assumption) | assumption)
                            have q100024 : x12_2 < (t100001.length : Int) := of_decide_eq_true (by first | (with_reducible assumption) | assumption)
                            obtain ⟨ad100024, e100024, hx100024_0, hx100024_1, hx100024_2⟩ := at_T46 (Kd.R_reads' HO_3.out).2.2 x12_2 p100024 q100024
                            obtain rfl : ad100023 = ad100024 := (by injection e100024)
                            replace p100024 := eq_true p100024
                            replace q100024 := eq_true q100024
                            have p100025 : 0 ≤ (x12_2 : Int) := of_decide_eq_true (by first | (with_reducible assumption) | assumption)
                            have q100025 : x12_2 < (t100001.length : Int) := of_decide_eq_true (by first | (with_reducible assumption) | assumption)
                            obtain ⟨ad100025, e100025, hx100025_0, hx100025_1, hx100025_2⟩ := at_T46 (Kd.R_reads' HO_3.out).2.2 x12_2 p100025 q100025
                            obtain rfl : ad100023 = ad100025 := (by injection e100025)
                            replace p100025 := eq_true p100025
                            replace q100025 := eq_true q100025
                            go_wp2_with (first | (go_at_call 33; (with_reducible refine (laws_loGet.calls k2 _ _ t100002 ((rd_T46 t100001 x12_2).f1) t100026 _ ?side1 ?side2 A29.out).mono ?_); (case side1 => repeat (first | exact (Kd.R_reads' HO_4.out).2.2 | (with_reducible refine Kd.C_alloc ?_ _) | (with_reducible refine Kd.C_drewN ?_ _) | (with_reducible refine Kd.C_drew ?_))); (case side2 => exact (Kd.R_reads' HO_4.out).2.1); rintro e w' ⟨rfl, ⟨nd, rfl⟩⟩; (try first | exact ⟨rfl, _, World.drewN_drewN _ _ _⟩ | exact ⟨rfl, _, Eq.trans (World.drewN_drewN _ _ _) (congrArg (World.drewN _) (Nat.add_assoc _ _ _))⟩); have p100027 : 0 ≤ (x12_2 : Int) := of_decide_eq_true (by first | (with_reducible assumption) | assumption); have q100027 : x12_2 < (t100001.length : Int) := of_decide_eq_true (by first | (with_reducible assumption) | assumption); obtain ⟨ad100027, e100027, hx100027_0, hx100027_1, hx100027_2⟩ := at_T46 (Kd.R_reads' HO_3.out).2.2 x12_2 p100027 q100027; obtain rfl : ad100023 = ad100027 := (by injection e100027); replace p100027 := eq_true p100027; replace q100027 := eq_true q100027))
                            repeat (go_quiet (first | (go_at_call 33; (with_reducible refine (laws_loGet.calls k2 _ _ t100002 ((rd_T46 t100001 x12_2).f1) t100026 _ ?side1 ?side2 A29.out).mono ?_); (case side1 => repeat (first | exact (Kd.R_reads' HO_4.out).2.2 | (with_reducible refine Kd.C_alloc ?_ _) | (with_reducible refine Kd.C_drewN ?_ _) | (with_reducible refine Kd.C_drew ?_))); (case side2 => exact (Kd.R_reads' HO_4.out).2.1); rintro e w' ⟨rfl, ⟨nd, rfl⟩⟩; (try first | exact ⟨rfl, _, World.drewN_drewN _ _ _⟩ | exact ⟨rfl, _, Eq.trans (World.drewN_drewN _ _ _) (congrArg (World.drewN _) (Nat.add_assoc _ _ _))⟩); have p100027 : 0 ≤ (x12_2 : Int) := of_decide_eq_true (by first | (with_reducible assumption) | assumption); have q100027 : x12_2 < (t100001.length : Int) := of_decide_eq_true (by first | (with_reducible assumption) | assumption); obtain ⟨ad100027, e100027, hx100027_0, hx100027_1, hx100027_2⟩ := at_T46 (Kd.R_reads' HO_3.out).2.2 x12_2 p100027 q100027; obtain rfl : ad100023 = ad100027 := (by injection e100027); replace p100027 := eq_true p100027; replace q100027 := eq_true q100027)); try go_wp2_with (first | (go_at_call 33; (with_reducible refine (laws_loGet.calls k2 _ _ t100002 ((rd_T46 t100001 x12_2).f1) t100026 _ ?side1 ?side2 A29.out).mono ?_); (case side1 => repeat (first | exact (Kd.R_reads' HO_4.out).2.2 | (with_reducible refine Kd.C_alloc ?_ _) | (with_reducible refine Kd.C_drewN ?_ _) | (with_reducible refine Kd.C_drew ?_))); (case side2 => exact (Kd.R_reads' HO_4.out).2.1); rintro e w' ⟨rfl, ⟨nd, rfl⟩⟩; (try first | exact ⟨rfl, _, World.drewN_drewN _ _ _⟩ | exact ⟨rfl, _, Eq.trans (World.drewN_drewN _ _ _) (congrArg (World.drewN _) (Nat.add_assoc _ _ _))⟩); have p100027 : 0 ≤ (x12_2 : Int) := of_decide_eq_true (by first | (with_reducible assumption) | assumption); have q100027 : x12_2 < (t100001.length : Int) := of_decide_eq_true (by first | (with_reducible assumption) | assumption); obtain ⟨ad100027, e100027, hx100027_0, hx100027_1, hx100027_2⟩ := at_T46 (Kd.R_reads' HO_3.out).2.2 x12_2 p100027 q100027; obtain rfl : ad100023 = ad100027 := (by injection e100027); replace p100027 := eq_true p100027; replace q100027 := eq_true q100027)))
                            go_roundg k2
                            case measure => have := HJ5.out; have := HK2.out; omega
                            case rel => exact ⟨(wrap64 (x11_2 + 1)), (wrap64 (x12_2 + 1)), (by first | rfl | (simp; done) | (simp [*]; done)), (by first | rfl | (simp; done) | (simp [*]; done)), H', ⟨by have := HJ5.out; have := HK2.out; omega⟩, ⟨by (with_reducible repeat (first | apply Kd.R_alloc | apply Kd.R_drewN | apply Kd.R_drew)); exact HO_3.out⟩, ⟨by (with_reducible repeat (first | apply Kd.R_alloc | apply Kd.R_drewN | apply Kd.R_drew)); exact HO_4.out⟩, ⟨by (with_reducible repeat (first | apply Kd.R_alloc | apply Kd.R_drewN | apply Kd.R_drew)); exact HO_9.out⟩, ⟨by repeat (first | (with_reducible first | exact HB.out | apply below_alloc | apply pw_below_drewN | apply below_drew1) | exact HB.out)⟩⟩
                        · rw [if_neg c28] at H
                          have c28b0 : (x12_2 == 0) = false := beq_eq_false_iff_ne.mpr c28
                          have c28b1 : (x12_2 != 0) = true := bne_iff_ne.mpr c28
                          have H' := Aside0.mk H
                          clear H
                          have p100023 : 0 ≤ (x12_2 : Int) := of_decide_eq_true (by first | (with_reducible assumption) | assumption)
                          have q100023 : x12_2 < (t100001.length : Int) := of_decide_eq_true (by first | (with_reducible assumption) | assumption)
                          obtain ⟨ad100023, e100023, hx100023_0, hx100023_1, hx100023_2⟩ := at_T46 (Kd.R_reads' HO_3.out).2.2 x12_2 p100023 q100023
                          cases e100023
                          replace p100023 := eq_true p100023
                          replace q100023 := eq_true q100023
                          have p100024 : 0 ≤ (x12_2 : Int) := of_decide_eq_true (by first | (with_reducible assumption) | assumption)
                          have q100024 : x12_2 < (t100001.length : Int) := of_decide_eq_true (by first | (with_reducible assumption) | assumption)
                          obtain ⟨ad100024, e100024, hx100024_0, hx100024_1, hx100024_2⟩ := at_T46 (Kd.R_reads' HO_3.out).2.2 x12_2 p100024 q100024
                          obtain rfl : ad100023 = ad100024 := (by injection e100024)
                          replace p100024 := eq_true p100024
                          replace q100024 := eq_true q100024
                          go_wp2
                          repeat (go_quiet (fail); try go_wp2)
                          go_roundg k2
                          case measure => have := HJ5.out; have := HK2.out; omega
                          case rel => exact ⟨(wrap64 (x11_2 + 1)), (wrap64 (x12_2 + 1)), (by first | rfl | (simp; done) | (simp [*]; done)), (by first | rfl | (simp; done) | (simp [*]; done)), H', ⟨by have := HJ5.out; have := HK2.out; omega⟩, ⟨by (with_reducible repeat (first | apply Kd.R_alloc | apply Kd.R_drewN | apply Kd.R_drew)); exact HO_3.out⟩, ⟨by (with_reducible repeat (first | apply Kd.R_alloc | apply Kd.R_drewN | apply Kd.R_drew)); exact HO_4.out⟩, ⟨by (with_reducible repeat (first | apply Kd.R_alloc | apply Kd.R_drewN | apply Kd.R_drew)); exact HO_9.out⟩, ⟨by repeat (first | (with_reducible first | exact HB.out | apply below_alloc | apply pw_below_drewN | apply below_drew1) | exact HB.out)⟩⟩
                      · rw [if_neg c27] at H
                        have c27b0 : (((rd_T46 t100001 x12_2).f0) == 4) = false := beq_eq_false_iff_ne.mpr c27
                        have c27b1 : (((rd_T46 t100001 x12_2).f0) != 4) = true := bne_iff_ne.mpr c27
                        have H' := Aside0.mk H
                        clear H
                        have p100023 : 0 ≤ (x12_2 : Int) := of_decide_eq_true (by first | (with_reducible assumption) | assumption)
                        have q100023 : x12_2 < (t100001.length : Int) := of_decide_eq_true (by first | (with_reducible assumption) | assumption)
                        obtain ⟨ad100023, e100023, hx100023_0, hx100023_1, hx100023_2⟩ := at_T46 (Kd.R_reads' HO_3.out).2.2 x12_2 p100023 q100023
                        cases e100023
                        replace p100023 := eq_true p100023
                        replace q100023 := eq_true q100023
                        have p100024 : 0 ≤ (x12_2 : Int) := of_decide_eq_true (by first | (with_reducible assumption) | assumption)
                        have q100024 : x12_2 < (t100001.length : Int) := of_decide_eq_true (by first | (with_reducible assumption) | assumption)
                        obtain ⟨ad100024, e100024, hx100024_0, hx100024_1, hx100024_2⟩ := at_T46 (Kd.R_reads' HO_3.out).2.2 x12_2 p100024 q100024
                        obtain rfl : ad100023 = ad100024 := (by injection e100024)
                        replace p100024 := eq_true p100024
                        replace q100024 := eq_true q100024
                        go_wp2
                        repeat (go_quiet (fail); try go_wp2)
                        go_roundg k2
                        case measure => have := HJ5.out; have := HK2.out; omega
                        case rel => exact ⟨(wrap64 (x11_2 + 1)), (wrap64 (x12_2 + 1)), (by first | rfl | (simp; done) | (simp [*]; done)), (by first | rfl | (simp; done) | (simp [*]; done)), H', ⟨by have := HJ5.out; have := HK2.out; omega⟩, ⟨by (with_reducible repeat (first | apply Kd.R_alloc | apply Kd.R_drewN | apply Kd.R_drew)); exact HO_3.out⟩, ⟨by (with_reducible repeat (first | apply Kd.R_alloc | apply Kd.R_drewN | apply Kd.R_drew)); exact HO_4.out⟩, ⟨by (with_reducible repeat (first | apply Kd.R_alloc | apply Kd.R_drewN | apply Kd.R_drew)); exact HO_9.out⟩, ⟨by repeat (first | (with_reducible first | exact HB.out | apply below_alloc | apply pw_below_drewN | apply below_drew1) | exact HB.out)⟩⟩
                    · rw [if_neg c26] at H
                      have c26b0 : (((rd_T46 t100001 x12_2).f0) == 1) = false := beq_eq_false_iff_ne.mpr c26
                      have c26b1 : (((rd_T46 t100001 x12_2).f0) != 1) = true := bne_iff_ne.mpr c26
                      by_cases c31 : ((rd_T46 t100001 x12_2).f0) = 4
                      · rw [if_pos c31] at H
                        have c31b0 : (((rd_T46 t100001 x12_2).f0) == 4) = true := beq_iff_eq.mpr c31
                        have c31b1 : (((rd_T46 t100001 x12_2).f0) != 4) = false := bne_eq_false_iff_eq.mpr c31
                        clear c31
                        by_cases c32 : x12_2 = 0
                        · rw [if_pos c32] at H
                          have c32b0 : (x12_2 == 0) = true := beq_iff_eq.mpr c32
                          have c32b1 : (x12_2 != 0) = false := bne_eq_false_iff_eq.mpr c32
                          clear c32
                          replace H := Option.bind_eq_some_iff.mp H
                          obtain ⟨t100030, A330, H⟩ := H
                          replace H : (if t100030 < ((rd_T46 t100001 x12_2).f2) then (some false) else (laws_FnDealWhole.l0 k2 t100001 t100002 t100015 x11_2 (wrap64 (x12_2 + 1)))) = some true := H
                          have A33 := Aside0.mk A330
                          clear A330
                          by_cases c34 : t100030 < ((rd_T46 t100001 x12_2).f2)
                          · rw [if_pos c34] at H
                            have c34b0 : decide (t100030 < ((rd_T46 t100001 x12_2).f2)) = true := decide_eq_true c34
                            clear c34
                            exact absurd H (by decide)
                          · rw [if_neg c34] at H
                            have c34b0 : decide (t100030 < ((rd_T46 t100001 x12_2).f2)) = false := decide_eq_false c34
                            clear c34
                            have H' := Aside0.mk H
                            clear H
                            have p100023 : 0 ≤ (x12_2 : Int) := of_decide_eq_true (by first | (with_reducible assumption) | assumption)
                            have q100023 : x12_2 < (t100001.length : Int) := of_decide_eq_true (by first | (with_reducible assumption) | assumption)
                            obtain ⟨ad100023, e100023, hx100023_0, hx100023_1, hx100023_2⟩ := at_T46 (Kd.R_reads' HO_3.out).2.2 x12_2 p100023 q100023
                            cases e100023
                            replace p100023 := eq_true p100023
                            replace q100023 := eq_true q100023
                            have p100028 : 0 ≤ (x12_2 : Int) := of_decide_eq_true (by first | (with_reducible assumption) | assumption)
                            have q100028 : x12_2 < (t100001.length : Int) := of_decide_eq_true (by first | (with_reducible assumption) | assumption)
                            obtain ⟨ad100028, e100028, hx100028_0, hx100028_1, hx100028_2⟩ := at_T46 (Kd.R_reads' HO_3.out).2.2 x12_2 p100028 q100028
                            obtain rfl : ad100023 = ad100028 := (by injection e100028)
                            replace p100028 := eq_true p100028
                            replace q100028 := eq_true q100028
                            have p100029 : 0 ≤ (x12_2 : Int) := of_decide_eq_true (by first | (with_reducible assumption) | assumption)
                            have q100029 : x12_2 < (t100001.length : Int) := of_decide_eq_true (by first | (with_reducible assumption) | assumption)
                            obtain ⟨ad100029, e100029, hx100029_0, hx100029_1, hx100029_2⟩ := at_T46 (Kd.R_reads' HO_3.out).2.2 x12_2 p100029 q100029
                            obtain rfl : ad100023 = ad100029 := (by injection e100029)
                            replace p100029 := eq_true p100029
                            replace q100029 := eq_true q100029
                            go_wp2_with (first | (go_at_call 33; (with_reducible refine (laws_loGet.calls k2 _ _ t100002 ((rd_T46 t100001 x12_2).f1) t100030 _ ?side1 ?side2 A33.out).mono ?_); (case side1 => repeat (first | exact (Kd.R_reads' HO_4.out).2.2 | (with_reducible refine Kd.C_alloc ?_ _) | (with_reducible refine Kd.C_drewN ?_ _) | (with_reducible refine Kd.C_drew ?_))); (case side2 => exact (Kd.R_reads' HO_4.out).2.1); rintro e w' ⟨rfl, ⟨nd, rfl⟩⟩; (try first | exact ⟨rfl, _, World.drewN_drewN _ _ _⟩ | exact ⟨rfl, _, Eq.trans (World.drewN_drewN _ _ _) (congrArg (World.drewN _) (Nat.add_assoc _ _ _))⟩); have p100031 : 0 ≤ (x12_2 : Int) := of_decide_eq_true (by first | (with_reducible assumption) | assumption); have q100031 : x12_2 < (t100001.length : Int) := of_decide_eq_true (by first | (with_reducible assumption) | assumption); obtain ⟨ad100031, e100031, hx100031_0, hx100031_1, hx100031_2⟩ := at_T46 (Kd.R_reads' HO_3.out).2.2 x12_2 p100031 q100031; obtain rfl : ad100023 = ad100031 := (by injection e100031); replace p100031 := eq_true p100031; replace q100031 := eq_true q100031))
                            repeat (go_quiet (first | (go_at_call 33; (with_reducible refine (laws_loGet.calls k2 _ _ t100002 ((rd_T46 t100001 x12_2).f1) t100030 _ ?side1 ?side2 A33.out).mono ?_); (case side1 => repeat (first | exact (Kd.R_reads' HO_4.out).2.2 | (with_reducible refine Kd.C_alloc ?_ _) | (with_reducible refine Kd.C_drewN ?_ _) | (with_reducible refine Kd.C_drew ?_))); (case side2 => exact (Kd.R_reads' HO_4.out).2.1); rintro e w' ⟨rfl, ⟨nd, rfl⟩⟩; (try first | exact ⟨rfl, _, World.drewN_drewN _ _ _⟩ | exact ⟨rfl, _, Eq.trans (World.drewN_drewN _ _ _) (congrArg (World.drewN _) (Nat.add_assoc _ _ _))⟩); have p100031 : 0 ≤ (x12_2 : Int) := of_decide_eq_true (by first | (with_reducible assumption) | assumption); have q100031 : x12_2 < (t100001.length : Int) := of_decide_eq_true (by first | (with_reducible assumption) | assumption); obtain ⟨ad100031, e100031, hx100031_0, hx100031_1, hx100031_2⟩ := at_T46 (Kd.R_reads' HO_3.out).2.2 x12_2 p100031 q100031; obtain rfl : ad100023 = ad100031 := (by injection e100031); replace p100031 := eq_true p100031; replace q100031 := eq_true q100031)); try go_wp2_with (first | (go_at_call 33; (with_reducible refine (laws_loGet.calls k2 _ _ t100002 ((rd_T46 t100001 x12_2).f1) t100030 _ ?side1 ?side2 A33.out).mono ?_); (case side1 => repeat (first | exact (Kd.R_reads' HO_4.out).2.2 | (with_reducible refine Kd.C_alloc ?_ _) | (with_reducible refine Kd.C_drewN ?_ _) | (with_reducible refine Kd.C_drew ?_))); (case side2 => exact (Kd.R_reads' HO_4.out).2.1); rintro e w' ⟨rfl, ⟨nd, rfl⟩⟩; (try first | exact ⟨rfl, _, World.drewN_drewN _ _ _⟩ | exact ⟨rfl, _, Eq.trans (World.drewN_drewN _ _ _) (congrArg (World.drewN _) (Nat.add_assoc _ _ _))⟩); have p100031 : 0 ≤ (x12_2 : Int) := of_decide_eq_true (by first | (with_reducible assumption) | assumption); have q100031 : x12_2 < (t100001.length : Int) := of_decide_eq_true (by first | (with_reducible assumption) | assumption); obtain ⟨ad100031, e100031, hx100031_0, hx100031_1, hx100031_2⟩ := at_T46 (Kd.R_reads' HO_3.out).2.2 x12_2 p100031 q100031; obtain rfl : ad100023 = ad100031 := (by injection e100031); replace p100031 := eq_true p100031; replace q100031 := eq_true q100031)))
                            go_roundg k2
                            case measure => have := HJ5.out; have := HK2.out; omega
                            case rel => exact ⟨(x11_2), (wrap64 (x12_2 + 1)), (by first | rfl | (simp; done) | (simp [*]; done)), (by first | rfl | (simp; done) | (simp [*]; done)), H', ⟨by have := HJ5.out; have := HK2.out; omega⟩, ⟨by (with_reducible repeat (first | apply Kd.R_alloc | apply Kd.R_drewN | apply Kd.R_drew)); exact HO_3.out⟩, ⟨by (with_reducible repeat (first | apply Kd.R_alloc | apply Kd.R_drewN | apply Kd.R_drew)); exact HO_4.out⟩, ⟨by (with_reducible repeat (first | apply Kd.R_alloc | apply Kd.R_drewN | apply Kd.R_drew)); exact HO_9.out⟩, ⟨by repeat (first | (with_reducible first | exact HB.out | apply below_alloc | apply pw_below_drewN | apply below_drew1) | exact HB.out)⟩⟩
                        · rw [if_neg c32] at H
                          have c32b0 : (x12_2 == 0) = false := beq_eq_false_iff_ne.mpr c32
                          have c32b1 : (x12_2 != 0) = true := bne_iff_ne.mpr c32
                          have H' := Aside0.mk H
                          clear H
                          have p100023 : 0 ≤ (x12_2 : Int) := of_decide_eq_true (by first | (with_reducible assumption) | assumption)
                          have q100023 : x12_2 < (t100001.length : Int) := of_decide_eq_true (by first | (with_reducible assumption) | assumption)
                          obtain ⟨ad100023, e100023, hx100023_0, hx100023_1, hx100023_2⟩ := at_T46 (Kd.R_reads' HO_3.out).2.2 x12_2 p100023 q100023
                          cases e100023
                          replace p100023 := eq_true p100023
                          replace q100023 := eq_true q100023
                          have p100028 : 0 ≤ (x12_2 : Int) := of_decide_eq_true (by first | (with_reducible assumption) | assumption)
                          have q100028 : x12_2 < (t100001.length : Int) := of_decide_eq_true (by first | (with_reducible assumption) | assumption)
                          obtain ⟨ad100028, e100028, hx100028_0, hx100028_1, hx100028_2⟩ := at_T46 (Kd.R_reads' HO_3.out).2.2 x12_2 p100028 q100028
                          obtain rfl : ad100023 = ad100028 := (by injection e100028)
                          replace p100028 := eq_true p100028
                          replace q100028 := eq_true q100028
                          go_wp2
                          repeat (go_quiet (fail); try go_wp2)
                          go_roundg k2
                          case measure => have := HJ5.out; have := HK2.out; omega
                          case rel => exact ⟨(x11_2), (wrap64 (x12_2 + 1)), (by first | rfl | (simp; done) | (simp [*]; done)), (by first | rfl | (simp; done) | (simp [*]; done)), H', ⟨by have := HJ5.out; have := HK2.out; omega⟩, ⟨by (with_reducible repeat (first | apply Kd.R_alloc | apply Kd.R_drewN | apply Kd.R_drew)); exact HO_3.out⟩, ⟨by (with_reducible repeat (first | apply Kd.R_alloc | apply Kd.R_drewN | apply Kd.R_drew)); exact HO_4.out⟩, ⟨by (with_reducible repeat (first | apply Kd.R_alloc | apply Kd.R_drewN | apply Kd.R_drew)); exact HO_9.out⟩, ⟨by repeat (first | (with_reducible first | exact HB.out | apply below_alloc | apply pw_below_drewN | apply below_drew1) | exact HB.out)⟩⟩
                      · rw [if_neg c31] at H
                        have c31b0 : (((rd_T46 t100001 x12_2).f0) == 4) = false := beq_eq_false_iff_ne.mpr c31
                        have c31b1 : (((rd_T46 t100001 x12_2).f0) != 4) = true := bne_iff_ne.mpr c31
                        have H' := Aside0.mk H
                        clear H
                        have p100023 : 0 ≤ (x12_2 : Int) := of_decide_eq_true (by first | (with_reducible assumption) | assumption)
                        have q100023 : x12_2 < (t100001.length : Int) := of_decide_eq_true (by first | (with_reducible assumption) | assumption)
                        obtain ⟨ad100023, e100023, hx100023_0, hx100023_1, hx100023_2⟩ := at_T46 (Kd.R_reads' HO_3.out).2.2 x12_2 p100023 q100023
                        cases e100023
                        replace p100023 := eq_true p100023
                        replace q100023 := eq_true q100023
                        have p100028 : 0 ≤ (x12_2 : Int) := of_decide_eq_true (by first | (with_reducible assumption) | assumption)
                        have q100028 : x12_2 < (t100001.length : Int) := of_decide_eq_true (by first | (with_reducible assumption) | assumption)
                        obtain ⟨ad100028, e100028, hx100028_0, hx100028_1, hx100028_2⟩ := at_T46 (Kd.R_reads' HO_3.out).2.2 x12_2 p100028 q100028
                        obtain rfl : ad100023 = ad100028 := (by injection e100028)
                        replace p100028 := eq_true p100028
                        replace q100028 := eq_true q100028
                        go_wp2
                        repeat (go_quiet (fail); try go_wp2)
                        go_roundg k2
                        case measure => have := HJ5.out; have := HK2.out; omega
                        case rel => exact ⟨(x11_2), (wrap64 (x12_2 + 1)), (by first | rfl | (simp; done) | (simp [*]; done)), (by first | rfl | (simp; done) | (simp [*]; done)), H', ⟨by have := HJ5.out; have := HK2.out; omega⟩, ⟨by (with_reducible repeat (first | apply Kd.R_alloc | apply Kd.R_drewN | apply Kd.R_drew)); exact HO_3.out⟩, ⟨by (with_reducible repeat (first | apply Kd.R_alloc | apply Kd.R_drewN | apply Kd.R_drew)); exact HO_4.out⟩, ⟨by (with_reducible repeat (first | apply Kd.R_alloc | apply Kd.R_drewN | apply Kd.R_drew)); exact HO_9.out⟩, ⟨by repeat (first | (with_reducible first | exact HB.out | apply below_alloc | apply pw_below_drewN | apply below_drew1) | exact HB.out)⟩⟩
                  · rw [if_neg c25] at H
                    exact absurd H (by simp)
                · rw [if_neg c24] at H
                  have c24b0 : decide (x12_2 < (t100001.length : Int)) = false := decide_eq_false c24
                  clear c24
                  first
                  | exact absurd H (by decide)
                  | have hv_ := Option.some.inj H
                    clear H
                    obtain ⟨Ao35, co35, eo35⟩ := Kd.R_slice HO_9.out
                    subst eo35
                    go_wp2
                    repeat (go_quiet (fail); try go_wp2)
                    go_ret
                    exact ⟨by first | rfl | exact congrArg (fun b : Bool => Ending.returned (.bool b)) hv_ | (simp [errW_none, errW_some] <;> rfl) | (simp [*, errW_none, errW_some] <;> rfl), by repeat (first | (with_reducible first | exact HB.out | apply below_alloc | apply pw_below_drewN | apply below_drew1) | exact HB.out)⟩
          · rw [if_neg c23] at H
            have c23b0 : (t100014 == 0) = false := beq_eq_false_iff_ne.mpr c23
            have c23b1 : (t100014 != 0) = true := bne_iff_ne.mpr c23
            first
            | exact absurd H (by decide)
            | have hv_ := Option.some.inj H
              clear H
              obtain ⟨Ao36, co36, eo36⟩ := Kd.R_slice HO_9.out
              subst eo36
              obtain ⟨Ao37, co37, eo37⟩ := Kd.R_slice HO_10.out
              subst eo37
              go_wp2
              repeat (go_quiet (fail); try go_wp2)
              go_ret
              exact ⟨by first | rfl | exact congrArg (fun b : Bool => Ending.returned (.bool b)) hv_ | (simp [errW_none, errW_some] <;> rfl) | (simp [*, errW_none, errW_some] <;> rfl), by repeat (first | (with_reducible first | exact HB.out | apply below_alloc | apply pw_below_drewN | apply below_drew1) | exact HB.out)⟩

/-- THE ONE PURE STATEMENT of laws_FnDealWhole: yours. -/
def laws_FnDealWhole.Pure : Prop := ∀ (l0 : List Int), l0.length ≤ maxLen → l0.length * 1 ≤ 140737488351232 → (∀ x ∈ l0, (Lit.int .u8 x).wf = true) → ∃ k, laws_FnDealWhole.f k l0 = some true
theorem laws_FnDealWhole.walk (P : laws_FnDealWhole.Pure) (a0 : Option Addr) (len0 cap0 : Nat) (z0 : List Int) (w : World) (w0 : (a0 = none ∧ len0 = 0 ∧ cap0 = 0 ∧ z0 = []) ∨ ∃ x, a0 = some x ∧ len0 ≤ cap0 ∧ cap0 ≤ maxLen ∧ z0.length = cap0 ∧ (∀ i, i < z0.length → w.cell? (x.add i) = some (.int .u8 (z0.getD i 0))) ∧ ∀ n ∈ z0, (Lit.int .u8 n).wf = true) (y0 : len0 * 1 ≤ 140737488351232) :
    Calls Try.prog 9 #[.slice a0 len0 cap0] w fun e w' => e = .returned (.bool true) ∧ Below w.heap.size w w' := by
  obtain ⟨l0, rfl, hr0, hm0, hw0, hc0⟩ := ReadsInt.ofRowC w0
  obtain ⟨k, h⟩ := P l0 hm0 y0 hw0
  refine (laws_FnDealWhole.calls k _ _ l0 true w (Kd.C_of_reads (d := (0 : Int)) (h1 := fun _ => rfl) hr0) hc0 rfl h).mono ?_
  rintro e w' ⟨rfl, hd⟩
  exact ⟨rfl, hd⟩

end Go.Proofs.Ytdjiclhjficgfaa.PX
