-- Written by a program of this workplace (wip/xprint.py over the kit's print.py) out of the translation.
import Derived.Test.YtdjiclhjficgfaaPXx0
import Derived.Test.YtdjiclhjficgfaaPXx11
namespace Go.Proofs.Ytdjiclhjficgfaa.PX
open Go.RowKit Go.Proofs.YtdjiclhjficgfaaW.PrintWords Go.Proofs.YtdjiclhjficgfaaW.PrintLast Go.Proofs.YtdjiclhjficgfaaW.PrintMore
attribute [local go_sem] max2_int min2_int max_two min_two max_three min_three max_four min_four   -- for this text's walks alone
set_option linter.unusedVariables false
set_option linter.unusedSimpArgs false

/-! ### laws_heldSaidS: function 67 -/
def laws_heldSaidS.l0 : Nat → List (S108) → Int → Int → Option (Int)
  | 0, _, _, _ => none
  | k + 1, x0, x1, x5 => if x5 < (x0.length : Int) then (if 0 ≤ x5 then (if ((rd_T108 x0 x5).f0) = x1 then (if ((rd_T108 x0 x5).f1) = (wrap64 (x1 + 1)) then (if ((rd_T108 x0 x5).f2) = (wrap64 ((wrap64 (x1 + 1)) + 1)) then ((laws_heldIntS.f k ((rd_T108 x0 x5).f3) (wrap64 ((wrap64 ((wrap64 (x1 + 1)) + 1)) + 1))).bind fun t680005 => (if t680005 < 0 then (some (-1)) else (laws_heldSaidS.l0 k x0 t680005 (wrap64 (x5 + 1))))) else (some (-1))) else (some (-1))) else (some (-1))) else (none)) else (some x1)
def laws_heldSaidS.f (k : Nat) (l0 : List (S108)) (a1 : Int) : Option (Int) := laws_heldSaidS.l0 k l0 a1 0
theorem laws_heldSaidS.mono_l : ∀ k, (∀ y0 y1 y2, LeO (laws_heldSaidS.l0 k y0 y1 y2) (laws_heldSaidS.l0 (k + 1) y0 y1 y2))
  | 0 => fun _ _ _ r h => by simp [laws_heldSaidS.l0] at h
  | k + 1 => by
    have ih0 := laws_heldSaidS.mono_l k
    · intro y0 y1 y2
      unfold laws_heldSaidS.l0
      repeat' first
      | (with_reducible exact ih0 _ _ _)
      | (with_reducible exact laws_heldIntS.mono _ _ _)
      | (with_reducible exact LeO.refl _)
      | (with_reducible exact LeO.none _)
      | (with_reducible refine LeO.ite ?_ ?_)
      | (with_reducible refine LeO.bind ?_ (fun _ => ?_))
      | exact ih0 _ _ _
      | exact laws_heldIntS.mono _ _ _
      | exact LeO.none _
      | refine LeO.ite ?_ ?_
      | refine LeO.bind ?_ (fun _ => ?_)
theorem laws_heldSaidS.mono : ∀ a0 a1 k, LeO (laws_heldSaidS.f k a0 a1) (laws_heldSaidS.f (k + 1) a0 a1) := by
  intro a0 a1 k
  have ih0 := laws_heldSaidS.mono_l k
  unfold laws_heldSaidS.f
  repeat' first
      | (with_reducible exact ih0 _ _ _)
      | (with_reducible exact laws_heldIntS.mono _ _ _)
      | (with_reducible exact LeO.refl _)
      | (with_reducible exact LeO.none _)
      | (with_reducible refine LeO.ite ?_ ?_)
      | (with_reducible refine LeO.bind ?_ (fun _ => ?_))
      | exact ih0 _ _ _
      | exact laws_heldIntS.mono _ _ _
      | exact LeO.none _
      | refine LeO.ite ?_ ?_
      | refine LeO.bind ?_ (fun _ => ?_)
set_option maxHeartbeats 8000000 in
set_option maxRecDepth 100000 in
theorem laws_heldSaidS.calls (k : Nat) (A0 : Option Addr) (c0 : Nat) (l0 : List (S108)) (a1 : Int) (r : Int) (w : World) (hr0 : Kd.C k108 w A0 l0.length l0) (hc0 : l0.length ≤ c0) (h : laws_heldSaidS.f k l0 a1 = some r) :
    Calls Try.prog 67 #[.slice A0 l0.length c0, .int .i64 a1] w fun e w' => e = .returned (.int .i64 r) ∧ Drawn0 w w' := by
  have HR0 := Aside0.mk hr0
  have HC0 := Aside0.mk hc0
  clear hr0 hc0
  have H : (laws_heldSaidS.l0 k l0 a1 0) = some r := h
  clear h
  have H' := Aside0.mk H
  clear H
  go_enter Try.func67, Try.ntmps67
  go_wp2
  go_loopg [1, 5] k (fun kq v1 v5 w' => ∃ (x1_1 : Int) (x5_1 : Int), v1 = .int .i64 x1_1 ∧ v5 = .int .i64 x5_1 ∧ Aside0 (laws_heldSaidS.l0 kq l0 x1_1 x5_1 = some r) ∧ Aside0 (kq ≤ k) ∧ Drawn0 w w')
  case atStart => exact ⟨(a1), (0), (by first | rfl | (simp; done) | (simp [*]; done)), (by first | rfl | (simp; done) | (simp [*]; done)), H', ⟨Nat.le_refl _⟩, by repeat (first | exact Drawn0.refl _ | apply Drawn0.step)⟩
  case round =>
    clear H'
    try clear p2
    obtain ⟨x1_1, x5_1, rfl, rfl, HA, HK1, ⟨m1, rfl⟩⟩ := hrel
    cases gk with
    | zero => exact absurd HA.out (by simp [laws_heldSaidS.l0])
    | succ k1 =>
      have H := HA.out
      clear HA
      simp only [laws_heldSaidS.l0] at H
      by_cases c3 : x5_1 < (l0.length : Int)
      · rw [if_pos c3] at H
        have c3b0 : decide (x5_1 < (l0.length : Int)) = true := decide_eq_true c3
        clear c3
        by_cases c4 : 0 ≤ x5_1
        · rw [if_pos c4] at H
          have c4b0 : decide (0 ≤ x5_1) = true := decide_eq_true c4
          clear c4
          by_cases c5 : ((rd_T108 l0 x5_1).f0) = x1_1
          · rw [if_pos c5] at H
            have c5b0 : (((rd_T108 l0 x5_1).f0) == x1_1) = true := beq_iff_eq.mpr c5
            have c5b1 : (((rd_T108 l0 x5_1).f0) != x1_1) = false := bne_eq_false_iff_eq.mpr c5
            clear c5
            by_cases c6 : ((rd_T108 l0 x5_1).f1) = (wrap64 (x1_1 + 1))
            · rw [if_pos c6] at H
              have c6b0 : (((rd_T108 l0 x5_1).f1) == (wrap64 (x1_1 + 1))) = true := beq_iff_eq.mpr c6
              have c6b1 : (((rd_T108 l0 x5_1).f1) != (wrap64 (x1_1 + 1))) = false := bne_eq_false_iff_eq.mpr c6
              clear c6
              by_cases c7 : ((rd_T108 l0 x5_1).f2) = (wrap64 ((wrap64 (x1_1 + 1)) + 1))
              · rw [if_pos c7] at H
                have c7b0 : (((rd_T108 l0 x5_1).f2) == (wrap64 ((wrap64 (x1_1 + 1)) + 1))) = true := beq_iff_eq.mpr c7
                have c7b1 : (((rd_T108 l0 x5_1).f2) != (wrap64 ((wrap64 (x1_1 + 1)) + 1))) = false := bne_eq_false_iff_eq.mpr c7
                clear c7
                replace H := Option.bind_eq_some_iff.mp H
                obtain ⟨t680005, A80, H⟩ := H
                replace H : (if t680005 < 0 then (some (-1)) else (laws_heldSaidS.l0 k1 l0 t680005 (wrap64 (x5_1 + 1)))) = some r := H
                have A8 := Aside0.mk A80
                clear A80
                by_cases c9 : t680005 < 0
                · rw [if_pos c9] at H
                  have c9b0 : decide (t680005 < 0) = true := decide_eq_true c9
                  clear c9
                  obtain rfl := Option.some.inj H
                  have p680001 : 0 ≤ (x5_1 : Int) := of_decide_eq_true (by first | (with_reducible assumption) | assumption)
                  have q680001 : x5_1 < (l0.length : Int) := of_decide_eq_true (by first | (with_reducible assumption) | assumption)
                  obtain ⟨ad680001, A680001_3, c680001_3, e680001, hx680001_0, hx680001_1, hx680001_2, hx680001_3, hl680001_3, hi680001_3⟩ := at_T108 HR0.out x5_1 p680001 q680001
                  cases e680001
                  have HR680001_3 := Aside0.mk hi680001_3
                  have HC680001_3 := Aside0.mk hl680001_3
                  clear hi680001_3 hl680001_3
                  replace p680001 := eq_true p680001
                  replace q680001 := eq_true q680001
                  have p680002 : 0 ≤ (x5_1 : Int) := of_decide_eq_true (by first | (with_reducible assumption) | assumption)
                  have q680002 : x5_1 < (l0.length : Int) := of_decide_eq_true (by first | (with_reducible assumption) | assumption)
                  obtain ⟨ad680002, A680002_3, c680002_3, e680002, hx680002_0, hx680002_1, hx680002_2, hx680002_3, hl680002_3, hi680002_3⟩ := at_T108 HR0.out x5_1 p680002 q680002
                  obtain rfl : ad680001 = ad680002 := (by injection e680002)
                  have HR680002_3 := Aside0.mk hi680002_3
                  have HC680002_3 := Aside0.mk hl680002_3
                  clear hi680002_3 hl680002_3
                  replace p680002 := eq_true p680002
                  replace q680002 := eq_true q680002
                  have ea_ := Option.some.inj (hx680001_3.symm.trans hx680002_3)
                  injection ea_ with ea_ en_ ec_
                  subst ea_
                  subst ec_
                  clear en_
                  have p680003 : 0 ≤ (x5_1 : Int) := of_decide_eq_true (by first | (with_reducible assumption) | assumption)
                  have q680003 : x5_1 < (l0.length : Int) := of_decide_eq_true (by first | (with_reducible assumption) | assumption)
                  obtain ⟨ad680003, A680003_3, c680003_3, e680003, hx680003_0, hx680003_1, hx680003_2, hx680003_3, hl680003_3, hi680003_3⟩ := at_T108 HR0.out x5_1 p680003 q680003
                  obtain rfl : ad680001 = ad680003 := (by injection e680003)
                  have HR680003_3 := Aside0.mk hi680003_3
                  have HC680003_3 := Aside0.mk hl680003_3
                  clear hi680003_3 hl680003_3
                  replace p680003 := eq_true p680003
                  replace q680003 := eq_true q680003
                  have ea_ := Option.some.inj (hx680001_3.symm.trans hx680003_3)
                  injection ea_ with ea_ en_ ec_
                  subst ea_
                  subst ec_
                  clear en_
                  have p680004 : 0 ≤ (x5_1 : Int) := of_decide_eq_true (by first | (with_reducible assumption) | assumption)
                  have q680004 : x5_1 < (l0.length : Int) := of_decide_eq_true (by first | (with_reducible assumption) | assumption)
                  obtain ⟨ad680004, A680004_3, c680004_3, e680004, hx680004_0, hx680004_1, hx680004_2, hx680004_3, hl680004_3, hi680004_3⟩ := at_T108 HR0.out x5_1 p680004 q680004
                  obtain rfl : ad680001 = ad680004 := (by injection e680004)
                  have HR680004_3 := Aside0.mk hi680004_3
                  have HC680004_3 := Aside0.mk hl680004_3
                  clear hi680004_3 hl680004_3
                  replace p680004 := eq_true p680004
                  replace q680004 := eq_true q680004
                  have ea_ := Option.some.inj (hx680001_3.symm.trans hx680004_3)
                  injection ea_ with ea_ en_ ec_
                  subst ea_
                  subst ec_
                  clear en_
                  go_wp2_with (first | ((with_reducible refine gate_callee (f := 28) rfl ?_); refine goesL_ (some 45) rfl rfl Try.func28 (by kernel_rfl) rfl #[.slice A680001_3 ((rd_T108 l0 x5_1).f3).length c680001_3, .int .i64 (wrap64 ((wrap64 ((wrap64 (x1_1 + 1)) + 1)) + 1))] rfl (by (try simp only [List.map_toArray, List.map_cons, List.map_nil]); first | done | rfl | (simp only [List.length_drop, List.length_take]; rfl)) ?_; (with_reducible refine (laws_heldIntS.calls k1 _ _ ((rd_T108 l0 x5_1).f3) (wrap64 ((wrap64 ((wrap64 (x1_1 + 1)) + 1)) + 1)) t680005 _ ?side1 ?side2 A8.out).mono ?_); (case side1 => repeat (first | exact HR680004_3.out | (with_reducible refine Kd.C_alloc ?_ _) | (with_reducible refine Kd.C_drewN ?_ _) | (with_reducible refine Kd.C_drew ?_))); (case side2 => exact HC680004_3.out); rintro e w' ⟨rfl, ⟨nd, rfl⟩⟩; refine ⟨_, rfl, ?_⟩))
                  go_ret
                  exact ⟨by first | rfl | (simp; done) | (simp [*]; done), by repeat (first | exact Drawn0.refl _ | apply Drawn0.step)⟩
                · rw [if_neg c9] at H
                  have c9b0 : decide (t680005 < 0) = false := decide_eq_false c9
                  clear c9
                  have H' := Aside0.mk H
                  clear H
                  have p680001 : 0 ≤ (x5_1 : Int) := of_decide_eq_true (by first | (with_reducible assumption) | assumption)
                  have q680001 : x5_1 < (l0.length : Int) := of_decide_eq_true (by first | (with_reducible assumption) | assumption)
                  obtain ⟨ad680001, A680001_3, c680001_3, e680001, hx680001_0, hx680001_1, hx680001_2, hx680001_3, hl680001_3, hi680001_3⟩ := at_T108 HR0.out x5_1 p680001 q680001
                  cases e680001
                  have HR680001_3 := Aside0.mk hi680001_3
                  have HC680001_3 := Aside0.mk hl680001_3
                  clear hi680001_3 hl680001_3
                  replace p680001 := eq_true p680001
                  replace q680001 := eq_true q680001
                  have p680002 : 0 ≤ (x5_1 : Int) := of_decide_eq_true (by first | (with_reducible assumption) | assumption)
                  have q680002 : x5_1 < (l0.length : Int) := of_decide_eq_true (by first | (with_reducible assumption) | assumption)
                  obtain ⟨ad680002, A680002_3, c680002_3, e680002, hx680002_0, hx680002_1, hx680002_2, hx680002_3, hl680002_3, hi680002_3⟩ := at_T108 HR0.out x5_1 p680002 q680002
                  obtain rfl : ad680001 = ad680002 := (by injection e680002)
                  have HR680002_3 := Aside0.mk hi680002_3
                  have HC680002_3 := Aside0.mk hl680002_3
                  clear hi680002_3 hl680002_3
                  replace p680002 := eq_true p680002
                  replace q680002 := eq_true q680002
                  have ea_ := Option.some.inj (hx680001_3.symm.trans hx680002_3)
                  injection ea_ with ea_ en_ ec_
                  subst ea_
                  subst ec_
                  clear en_
                  have p680003 : 0 ≤ (x5_1 : Int) := of_decide_eq_true (by first | (with_reducible assumption) | assumption)
                  have q680003 : x5_1 < (l0.length : Int) := of_decide_eq_true (by first | (with_reducible assumption) | assumption)
                  obtain ⟨ad680003, A680003_3, c680003_3, e680003, hx680003_0, hx680003_1, hx680003_2, hx680003_3, hl680003_3, hi680003_3⟩ := at_T108 HR0.out x5_1 p680003 q680003
                  obtain rfl : ad680001 = ad680003 := (by injection e680003)
                  have HR680003_3 := Aside0.mk hi680003_3
                  have HC680003_3 := Aside0.mk hl680003_3
                  clear hi680003_3 hl680003_3
                  replace p680003 := eq_true p680003
                  replace q680003 := eq_true q680003
                  have ea_ := Option.some.inj (hx680001_3.symm.trans hx680003_3)
                  injection ea_ with ea_ en_ ec_
                  subst ea_
                  subst ec_
                  clear en_
                  have p680004 : 0 ≤ (x5_1 : Int) := of_decide_eq_true (by first | (with_reducible assumption) | assumption)
                  have q680004 : x5_1 < (l0.length : Int) := of_decide_eq_true (by first | (with_reducible assumption) | assumption)
                  obtain ⟨ad680004, A680004_3, c680004_3, e680004, hx680004_0, hx680004_1, hx680004_2, hx680004_3, hl680004_3, hi680004_3⟩ := at_T108 HR0.out x5_1 p680004 q680004
                  obtain rfl : ad680001 = ad680004 := (by injection e680004)
                  have HR680004_3 := Aside0.mk hi680004_3
                  have HC680004_3 := Aside0.mk hl680004_3
                  clear hi680004_3 hl680004_3
                  replace p680004 := eq_true p680004
                  replace q680004 := eq_true q680004
                  have ea_ := Option.some.inj (hx680001_3.symm.trans hx680004_3)
                  injection ea_ with ea_ en_ ec_
                  subst ea_
                  subst ec_
                  clear en_
                  go_wp2_with (first | ((with_reducible refine gate_callee (f := 28) rfl ?_); refine goesL_ (some 45) rfl rfl Try.func28 (by kernel_rfl) rfl #[.slice A680001_3 ((rd_T108 l0 x5_1).f3).length c680001_3, .int .i64 (wrap64 ((wrap64 ((wrap64 (x1_1 + 1)) + 1)) + 1))] rfl (by (try simp only [List.map_toArray, List.map_cons, List.map_nil]); first | done | rfl | (simp only [List.length_drop, List.length_take]; rfl)) ?_; (with_reducible refine (laws_heldIntS.calls k1 _ _ ((rd_T108 l0 x5_1).f3) (wrap64 ((wrap64 ((wrap64 (x1_1 + 1)) + 1)) + 1)) t680005 _ ?side1 ?side2 A8.out).mono ?_); (case side1 => repeat (first | exact HR680004_3.out | (with_reducible refine Kd.C_alloc ?_ _) | (with_reducible refine Kd.C_drewN ?_ _) | (with_reducible refine Kd.C_drew ?_))); (case side2 => exact HC680004_3.out); rintro e w' ⟨rfl, ⟨nd, rfl⟩⟩; refine ⟨_, rfl, ?_⟩))
                  go_roundg k1
                  case measure => have := HK1.out; omega
                  case rel => exact ⟨(t680005), (wrap64 (x5_1 + 1)), (by first | rfl | (simp; done) | (simp [*]; done)), (by first | rfl | (simp; done) | (simp [*]; done)), H', ⟨by have := HK1.out; omega⟩, by repeat (first | exact Drawn0.refl _ | apply Drawn0.step)⟩
              · rw [if_neg c7] at H
                have c7b0 : (((rd_T108 l0 x5_1).f2) == (wrap64 ((wrap64 (x1_1 + 1)) + 1))) = false := beq_eq_false_iff_ne.mpr c7
                have c7b1 : (((rd_T108 l0 x5_1).f2) != (wrap64 ((wrap64 (x1_1 + 1)) + 1))) = true := bne_iff_ne.mpr c7
                obtain rfl := Option.some.inj H
                have p680001 : 0 ≤ (x5_1 : Int) := of_decide_eq_true (by first | (with_reducible assumption) | assumption)
                have q680001 : x5_1 < (l0.length : Int) := of_decide_eq_true (by first | (with_reducible assumption) | assumption)
                obtain ⟨ad680001, A680001_3, c680001_3, e680001, hx680001_0, hx680001_1, hx680001_2, hx680001_3, hl680001_3, hi680001_3⟩ := at_T108 HR0.out x5_1 p680001 q680001
                cases e680001
                have HR680001_3 := Aside0.mk hi680001_3
                have HC680001_3 := Aside0.mk hl680001_3
                clear hi680001_3 hl680001_3
                replace p680001 := eq_true p680001
                replace q680001 := eq_true q680001
                have p680002 : 0 ≤ (x5_1 : Int) := of_decide_eq_true (by first | (with_reducible assumption) | assumption)
                have q680002 : x5_1 < (l0.length : Int) := of_decide_eq_true (by first | (with_reducible assumption) | assumption)
                obtain ⟨ad680002, A680002_3, c680002_3, e680002, hx680002_0, hx680002_1, hx680002_2, hx680002_3, hl680002_3, hi680002_3⟩ := at_T108 HR0.out x5_1 p680002 q680002
                obtain rfl : ad680001 = ad680002 := (by injection e680002)
                have HR680002_3 := Aside0.mk hi680002_3
                have HC680002_3 := Aside0.mk hl680002_3
                clear hi680002_3 hl680002_3
                replace p680002 := eq_true p680002
                replace q680002 := eq_true q680002
                have ea_ := Option.some.inj (hx680001_3.symm.trans hx680002_3)
                injection ea_ with ea_ en_ ec_
                subst ea_
                subst ec_
                clear en_
                have p680003 : 0 ≤ (x5_1 : Int) := of_decide_eq_true (by first | (with_reducible assumption) | assumption)
                have q680003 : x5_1 < (l0.length : Int) := of_decide_eq_true (by first | (with_reducible assumption) | assumption)
                obtain ⟨ad680003, A680003_3, c680003_3, e680003, hx680003_0, hx680003_1, hx680003_2, hx680003_3, hl680003_3, hi680003_3⟩ := at_T108 HR0.out x5_1 p680003 q680003
                obtain rfl : ad680001 = ad680003 := (by injection e680003)
                have HR680003_3 := Aside0.mk hi680003_3
                have HC680003_3 := Aside0.mk hl680003_3
                clear hi680003_3 hl680003_3
                replace p680003 := eq_true p680003
                replace q680003 := eq_true q680003
                have ea_ := Option.some.inj (hx680001_3.symm.trans hx680003_3)
                injection ea_ with ea_ en_ ec_
                subst ea_
                subst ec_
                clear en_
                go_wp2
                go_ret
                exact ⟨by first | rfl | (simp; done) | (simp [*]; done), by repeat (first | exact Drawn0.refl _ | apply Drawn0.step)⟩
            · rw [if_neg c6] at H
              have c6b0 : (((rd_T108 l0 x5_1).f1) == (wrap64 (x1_1 + 1))) = false := beq_eq_false_iff_ne.mpr c6
              have c6b1 : (((rd_T108 l0 x5_1).f1) != (wrap64 (x1_1 + 1))) = true := bne_iff_ne.mpr c6
              obtain rfl := Option.some.inj H
              have p680001 : 0 ≤ (x5_1 : Int) := of_decide_eq_true (by first | (with_reducible assumption) | assumption)
              have q680001 : x5_1 < (l0.length : Int) := of_decide_eq_true (by first | (with_reducible assumption) | assumption)
              obtain ⟨ad680001, A680001_3, c680001_3, e680001, hx680001_0, hx680001_1, hx680001_2, hx680001_3, hl680001_3, hi680001_3⟩ := at_T108 HR0.out x5_1 p680001 q680001
              cases e680001
              have HR680001_3 := Aside0.mk hi680001_3
              have HC680001_3 := Aside0.mk hl680001_3
              clear hi680001_3 hl680001_3
              replace p680001 := eq_true p680001
              replace q680001 := eq_true q680001
              have p680002 : 0 ≤ (x5_1 : Int) := of_decide_eq_true (by first | (with_reducible assumption) | assumption)
              have q680002 : x5_1 < (l0.length : Int) := of_decide_eq_true (by first | (with_reducible assumption) | assumption)
              obtain ⟨ad680002, A680002_3, c680002_3, e680002, hx680002_0, hx680002_1, hx680002_2, hx680002_3, hl680002_3, hi680002_3⟩ := at_T108 HR0.out x5_1 p680002 q680002
              obtain rfl : ad680001 = ad680002 := (by injection e680002)
              have HR680002_3 := Aside0.mk hi680002_3
              have HC680002_3 := Aside0.mk hl680002_3
              clear hi680002_3 hl680002_3
              replace p680002 := eq_true p680002
              replace q680002 := eq_true q680002
              have ea_ := Option.some.inj (hx680001_3.symm.trans hx680002_3)
              injection ea_ with ea_ en_ ec_
              subst ea_
              subst ec_
              clear en_
              go_wp2
              go_ret
              exact ⟨by first | rfl | (simp; done) | (simp [*]; done), by repeat (first | exact Drawn0.refl _ | apply Drawn0.step)⟩
          · rw [if_neg c5] at H
            have c5b0 : (((rd_T108 l0 x5_1).f0) == x1_1) = false := beq_eq_false_iff_ne.mpr c5
            have c5b1 : (((rd_T108 l0 x5_1).f0) != x1_1) = true := bne_iff_ne.mpr c5
            obtain rfl := Option.some.inj H
            have p680001 : 0 ≤ (x5_1 : Int) := of_decide_eq_true (by first | (with_reducible assumption) | assumption)
            have q680001 : x5_1 < (l0.length : Int) := of_decide_eq_true (by first | (with_reducible assumption) | assumption)
            obtain ⟨ad680001, A680001_3, c680001_3, e680001, hx680001_0, hx680001_1, hx680001_2, hx680001_3, hl680001_3, hi680001_3⟩ := at_T108 HR0.out x5_1 p680001 q680001
            cases e680001
            have HR680001_3 := Aside0.mk hi680001_3
            have HC680001_3 := Aside0.mk hl680001_3
            clear hi680001_3 hl680001_3
            replace p680001 := eq_true p680001
            replace q680001 := eq_true q680001
            go_wp2
            go_ret
            exact ⟨by first | rfl | (simp; done) | (simp [*]; done), by repeat (first | exact Drawn0.refl _ | apply Drawn0.step)⟩
        · rw [if_neg c4] at H
          exact absurd H (by simp)
      · rw [if_neg c3] at H
        have c3b0 : decide (x5_1 < (l0.length : Int)) = false := decide_eq_false c3
        clear c3
        obtain rfl := Option.some.inj H
        go_wp2
        go_ret
        exact ⟨by first | rfl | (simp; done) | (simp [*]; done), by repeat (first | exact Drawn0.refl _ | apply Drawn0.step)⟩

/-! ### laws_heldBooks: function 39 -/
def laws_heldBooks.f (k : Nat) (a0_0 : Int) (a0_1 : Int) (l0_2 : List Int) (l0_3 : List (S48)) (l0_4 : List (S108)) (a1 : Int) : Option (Int) := (laws_heldMap.f k a0_1 l0_2 a1).bind fun t400002 => (if t400002 < 0 then (some (-1)) else ((laws_heldPairS.f k l0_3 t400002).bind fun t400003 => (if t400003 < 0 then (some (-1)) else ((laws_heldSaidS.f k l0_4 t400003).bind fun t400004 => (if t400004 < 0 then (some (-1)) else (some t400004))))))
theorem laws_heldBooks.mono : ∀ a0 a1 a2 a3 a4 a5 k, LeO (laws_heldBooks.f k a0 a1 a2 a3 a4 a5) (laws_heldBooks.f (k + 1) a0 a1 a2 a3 a4 a5) := by
  intro a0 a1 a2 a3 a4 a5 k
  unfold laws_heldBooks.f
  repeat' first
      | (with_reducible exact laws_heldMap.mono _ _ _ _)
      | (with_reducible exact laws_heldPairS.mono _ _ _)
      | (with_reducible exact laws_heldSaidS.mono _ _ _)
      | (with_reducible exact LeO.refl _)
      | (with_reducible exact LeO.none _)
      | (with_reducible refine LeO.ite ?_ ?_)
      | (with_reducible refine LeO.bind ?_ (fun _ => ?_))
      | exact laws_heldMap.mono _ _ _ _
      | exact laws_heldPairS.mono _ _ _
      | exact laws_heldSaidS.mono _ _ _
      | exact LeO.none _
      | refine LeO.ite ?_ ?_
      | refine LeO.bind ?_ (fun _ => ?_)
set_option maxHeartbeats 8000000 in
set_option maxRecDepth 100000 in
theorem laws_heldBooks.calls (k : Nat) (a0_0 : Int) (a0_1 : Int) (A0_2 : Option Addr) (c0_2 : Nat) (l0_2 : List Int) (A0_3 : Option Addr) (c0_3 : Nat) (l0_3 : List (S48)) (A0_4 : Option Addr) (c0_4 : Nat) (l0_4 : List (S108)) (a1 : Int) (r : Int) (w : World) (hr0_2 : Kd.C (Kd.int .i64) w A0_2 l0_2.length l0_2) (hc0_2 : l0_2.length ≤ c0_2) (hr0_3 : Kd.C k48 w A0_3 l0_3.length l0_3) (hc0_3 : l0_3.length ≤ c0_3) (hr0_4 : Kd.C k108 w A0_4 l0_4.length l0_4) (hc0_4 : l0_4.length ≤ c0_4) (h : laws_heldBooks.f k a0_0 a0_1 l0_2 l0_3 l0_4 a1 = some r) :
    Calls Try.prog 39 #[.agg #[.int .i64 a0_0, .int .i64 a0_1, .slice A0_2 l0_2.length c0_2, .slice A0_3 l0_3.length c0_3, .slice A0_4 l0_4.length c0_4], .int .i64 a1] w fun e w' => e = .returned (.int .i64 r) ∧ Below w.heap.size w w' := by
  have hu56 := Try.underlying56
  have hu53 := Try.underlying53
  have HR0_2 := Aside0.mk hr0_2
  have HC0_2 := Aside0.mk hc0_2
  clear hr0_2 hc0_2
  have HR0_3 := Aside0.mk hr0_3
  have HC0_3 := Aside0.mk hc0_3
  clear hr0_3 hc0_3
  have HR0_4 := Aside0.mk hr0_4
  have HC0_4 := Aside0.mk hc0_4
  clear hr0_4 hc0_4
  have HB := Aside0.mk (Below.refl w.heap.size w)
  have H : ((laws_heldMap.f k a0_1 l0_2 a1).bind fun t400002 => (if t400002 < 0 then (some (-1)) else ((laws_heldPairS.f k l0_3 t400002).bind fun t400003 => (if t400003 < 0 then (some (-1)) else ((laws_heldSaidS.f k l0_4 t400003).bind fun t400004 => (if t400004 < 0 then (some (-1)) else (some t400004))))))) = some r := h
  clear h
  replace H := Option.bind_eq_some_iff.mp H
  obtain ⟨t400002, A30, H⟩ := H
  replace H : (if t400002 < 0 then (some (-1)) else ((laws_heldPairS.f k l0_3 t400002).bind fun t400003 => (if t400003 < 0 then (some (-1)) else ((laws_heldSaidS.f k l0_4 t400003).bind fun t400004 => (if t400004 < 0 then (some (-1)) else (some t400004)))))) = some r := H
  have A3 := Aside0.mk A30
  clear A30
  by_cases c4 : t400002 < 0
  · rw [if_pos c4] at H
    have c4b0 : decide (t400002 < 0) = true := decide_eq_true c4
    clear c4
    obtain rfl := Option.some.inj H
    go_enter Try.func39, Try.ntmps39
    go_wp2_with (first | ((with_reducible refine gate_dst (N := 2) rfl ?_); refine box_event ?hg (N := 2) ?hd (cs := #[.int .i64 a0_0, .int .i64 a0_1, .slice A0_2 l0_2.length c0_2, .slice A0_3 l0_3.length c0_3, .slice A0_4 l0_4.length c0_4]) (t := 56) ?hr ?_; (case hd => rfl); (case hg => rfl); (case hr => first | (go_simp; done) | (go_simp; rfl)); intro gb400001 hg w5 hbox hb; have n0_ := Aside0.mk (below_step (by repeat (first | (with_reducible first | exact HB.out | apply below_alloc | apply pw_below_drewN | apply below_drew1) | exact HB.out)) hb); have n1_ := Aside0.mk (hbox); have n2_ := Aside0.mk ((by rw [hg]; exact (below_size (by repeat (first | (with_reducible first | exact HB.out | apply below_alloc | apply pw_below_drewN | apply below_drew1) | exact HB.out))) : w.heap.size ≤ gb400001)); have n3_ := Aside0.mk ((by rw [hg]; exact (below_size (by repeat (first | (with_reducible first | exact HB.out | apply below_alloc | apply pw_below_drewN | apply below_drew1) | exact HB.out))) : w.heap.size ≤ gb400001)); clear HB; have HB := n0_; have BK400001 := n1_; have GW400001 := n2_; have GE400001 := n3_; clear n0_ n1_ n2_ n3_; clear hb hbox hg; have hcz6_0 : w5.cell? ⟨gb400001, 0, none⟩ = some (.int .i64 a0_0) := (blk_cell BK400001.out 0).trans rfl; have hcz6_1 : w5.cell? ⟨gb400001, 1, none⟩ = some (.int .i64 a0_1) := (blk_cell BK400001.out 1).trans rfl; have hcz6_2 : w5.cell? ⟨gb400001, 2, none⟩ = some (.slice A0_2 l0_2.length c0_2) := (blk_cell BK400001.out 2).trans rfl; have hcz6_3 : w5.cell? ⟨gb400001, 3, none⟩ = some (.slice A0_3 l0_3.length c0_3) := (blk_cell BK400001.out 3).trans rfl; have hcz6_4 : w5.cell? ⟨gb400001, 4, none⟩ = some (.slice A0_4 l0_4.length c0_4) := (blk_cell BK400001.out 4).trans rfl; have hfz6_0 := blk_frozen BK400001.out 0; have hfz6_1 := blk_frozen BK400001.out 1; have hfz6_2 := blk_frozen BK400001.out 2; have hfz6_3 := blk_frozen BK400001.out 3; have hfz6_4 := blk_frozen BK400001.out 4) | ((with_reducible refine gate_callee (f := 66) rfl ?_); refine goesL_ (some 8) rfl rfl Try.func66 (by kernel_rfl) rfl #[.agg #[.int .i64 a0_1, .slice A0_2 l0_2.length c0_2], .int .i64 a1] rfl (by (try simp only [List.map_toArray, List.map_cons, List.map_nil]); first | done | rfl | (simp only [List.length_drop, List.length_take]; rfl)) ?_; (with_reducible refine (laws_heldMap.calls k a0_1 _ _ l0_2 a1 t400002 _ ?side1 ?side2 A3.out).mono ?_); (case side1 => repeat (first | exact (Kd.C_below HR0_2.out HB.out) | (with_reducible refine Kd.C_alloc ?_ _) | (with_reducible refine Kd.C_drewN ?_ _) | (with_reducible refine Kd.C_drew ?_))); (case side2 => exact HC0_2.out); rintro e w7 ⟨rfl, hb⟩; refine ⟨_, rfl, ?_⟩; have n0_ := Aside0.mk (blk_below (g := gb400001) (o := .cells #[.int .i64 a0_0, .int .i64 a0_1, .slice A0_2 l0_2.length c0_2, .slice A0_3 l0_3.length c0_3, .slice A0_4 l0_4.length c0_4] 56 (0, 0)) (by (with_reducible repeat (first | refine blk_drewN ?_ _ | refine blk_drew ?_ | refine blk_alloc ?_ _)); exact BK400001.out) hb); have n1_ := Aside0.mk (below_step (by repeat (first | (with_reducible first | exact HB.out | apply below_alloc | apply pw_below_drewN | apply below_drew1 | refine below_set ?_ GE400001.out) | exact HB.out)) hb); clear BK400001; clear HB; have BK400001 := n0_; have HB := n1_; clear n0_ n1_; (try clear hb); (try clear hb2); (try clear hk); (try clear hi)))
    go_ret
    exact ⟨by first | rfl | (simp [errW_none, errW_some] <;> rfl) | (simp [*, errW_none, errW_some] <;> rfl), by repeat (first | (with_reducible first | exact HB.out | apply below_alloc | apply pw_below_drewN | apply below_drew1 | refine below_set ?_ GE400001.out) | exact HB.out)⟩
  · rw [if_neg c4] at H
    have c4b0 : decide (t400002 < 0) = false := decide_eq_false c4
    clear c4
    replace H := Option.bind_eq_some_iff.mp H
    obtain ⟨t400003, A80, H⟩ := H
    replace H : (if t400003 < 0 then (some (-1)) else ((laws_heldSaidS.f k l0_4 t400003).bind fun t400004 => (if t400004 < 0 then (some (-1)) else (some t400004)))) = some r := H
    have A8 := Aside0.mk A80
    clear A80
    by_cases c9 : t400003 < 0
    · rw [if_pos c9] at H
      have c9b0 : decide (t400003 < 0) = true := decide_eq_true c9
      clear c9
      obtain rfl := Option.some.inj H
      go_enter Try.func39, Try.ntmps39
      go_wp2_with (first | ((with_reducible refine gate_dst (N := 2) rfl ?_); refine box_event ?hg (N := 2) ?hd (cs := #[.int .i64 a0_0, .int .i64 a0_1, .slice A0_2 l0_2.length c0_2, .slice A0_3 l0_3.length c0_3, .slice A0_4 l0_4.length c0_4]) (t := 56) ?hr ?_; (case hd => rfl); (case hg => rfl); (case hr => first | (go_simp; done) | (go_simp; rfl)); intro gb400001 hg w10 hbox hb; have n0_ := Aside0.mk (below_step (by repeat (first | (with_reducible first | exact HB.out | apply below_alloc | apply pw_below_drewN | apply below_drew1) | exact HB.out)) hb); have n1_ := Aside0.mk (hbox); have n2_ := Aside0.mk ((by rw [hg]; exact (below_size (by repeat (first | (with_reducible first | exact HB.out | apply below_alloc | apply pw_below_drewN | apply below_drew1) | exact HB.out))) : w.heap.size ≤ gb400001)); have n3_ := Aside0.mk ((by rw [hg]; exact (below_size (by repeat (first | (with_reducible first | exact HB.out | apply below_alloc | apply pw_below_drewN | apply below_drew1) | exact HB.out))) : w.heap.size ≤ gb400001)); clear HB; have HB := n0_; have BK400001 := n1_; have GW400001 := n2_; have GE400001 := n3_; clear n0_ n1_ n2_ n3_; clear hb hbox hg; have hcz11_0 : w10.cell? ⟨gb400001, 0, none⟩ = some (.int .i64 a0_0) := (blk_cell BK400001.out 0).trans rfl; have hcz11_1 : w10.cell? ⟨gb400001, 1, none⟩ = some (.int .i64 a0_1) := (blk_cell BK400001.out 1).trans rfl; have hcz11_2 : w10.cell? ⟨gb400001, 2, none⟩ = some (.slice A0_2 l0_2.length c0_2) := (blk_cell BK400001.out 2).trans rfl; have hcz11_3 : w10.cell? ⟨gb400001, 3, none⟩ = some (.slice A0_3 l0_3.length c0_3) := (blk_cell BK400001.out 3).trans rfl; have hcz11_4 : w10.cell? ⟨gb400001, 4, none⟩ = some (.slice A0_4 l0_4.length c0_4) := (blk_cell BK400001.out 4).trans rfl; have hfz11_0 := blk_frozen BK400001.out 0; have hfz11_1 := blk_frozen BK400001.out 1; have hfz11_2 := blk_frozen BK400001.out 2; have hfz11_3 := blk_frozen BK400001.out 3; have hfz11_4 := blk_frozen BK400001.out 4) | ((with_reducible refine gate_callee (f := 66) rfl ?_); refine goesL_ (some 8) rfl rfl Try.func66 (by kernel_rfl) rfl #[.agg #[.int .i64 a0_1, .slice A0_2 l0_2.length c0_2], .int .i64 a1] rfl (by (try simp only [List.map_toArray, List.map_cons, List.map_nil]); first | done | rfl | (simp only [List.length_drop, List.length_take]; rfl)) ?_; (with_reducible refine (laws_heldMap.calls k a0_1 _ _ l0_2 a1 t400002 _ ?side1 ?side2 A3.out).mono ?_); (case side1 => repeat (first | exact (Kd.C_below HR0_2.out HB.out) | (with_reducible refine Kd.C_alloc ?_ _) | (with_reducible refine Kd.C_drewN ?_ _) | (with_reducible refine Kd.C_drew ?_))); (case side2 => exact HC0_2.out); rintro e w12 ⟨rfl, hb⟩; refine ⟨_, rfl, ?_⟩; have n0_ := Aside0.mk (blk_below (g := gb400001) (o := .cells #[.int .i64 a0_0, .int .i64 a0_1, .slice A0_2 l0_2.length c0_2, .slice A0_3 l0_3.length c0_3, .slice A0_4 l0_4.length c0_4] 56 (0, 0)) (by (with_reducible repeat (first | refine blk_drewN ?_ _ | refine blk_drew ?_ | refine blk_alloc ?_ _)); exact BK400001.out) hb); have n1_ := Aside0.mk (below_step (by repeat (first | (with_reducible first | exact HB.out | apply below_alloc | apply pw_below_drewN | apply below_drew1 | refine below_set ?_ GE400001.out) | exact HB.out)) hb); clear BK400001; clear HB; have BK400001 := n0_; have HB := n1_; clear n0_ n1_; (try clear hb); (try clear hb2); (try clear hk); (try clear hi); have hcz13_0 : w12.cell? ⟨gb400001, 0, none⟩ = some (.int .i64 a0_0) := (blk_cell BK400001.out 0).trans rfl; have hcz13_1 : w12.cell? ⟨gb400001, 1, none⟩ = some (.int .i64 a0_1) := (blk_cell BK400001.out 1).trans rfl; have hcz13_2 : w12.cell? ⟨gb400001, 2, none⟩ = some (.slice A0_2 l0_2.length c0_2) := (blk_cell BK400001.out 2).trans rfl; have hcz13_3 : w12.cell? ⟨gb400001, 3, none⟩ = some (.slice A0_3 l0_3.length c0_3) := (blk_cell BK400001.out 3).trans rfl; have hcz13_4 : w12.cell? ⟨gb400001, 4, none⟩ = some (.slice A0_4 l0_4.length c0_4) := (blk_cell BK400001.out 4).trans rfl; have hfz13_0 := blk_frozen BK400001.out 0; have hfz13_1 := blk_frozen BK400001.out 1; have hfz13_2 := blk_frozen BK400001.out 2; have hfz13_3 := blk_frozen BK400001.out 3; have hfz13_4 := blk_frozen BK400001.out 4) | ((with_reducible refine gate_callee (f := 29) rfl ?_); refine goesL_ (some 14) rfl rfl Try.func29 (by kernel_rfl) rfl #[.slice A0_3 l0_3.length c0_3, .int .i64 t400002] rfl (by (try simp only [List.map_toArray, List.map_cons, List.map_nil]); first | done | rfl | (simp only [List.length_drop, List.length_take]; rfl)) ?_; (with_reducible refine (laws_heldPairS.calls k _ _ l0_3 t400002 t400003 _ ?side1 ?side2 A8.out).mono ?_); (case side1 => repeat (first | exact (Kd.C_below HR0_3.out HB.out) | (with_reducible refine Kd.C_alloc ?_ _) | (with_reducible refine Kd.C_drewN ?_ _) | (with_reducible refine Kd.C_drew ?_))); (case side2 => exact HC0_3.out); rintro e w' ⟨rfl, ⟨nd, rfl⟩⟩; refine ⟨_, rfl, ?_⟩))
      go_ret
      exact ⟨by first | rfl | (simp [errW_none, errW_some] <;> rfl) | (simp [*, errW_none, errW_some] <;> rfl), by repeat (first | (with_reducible first | exact HB.out | apply below_alloc | apply pw_below_drewN | apply below_drew1 | refine below_set ?_ GE400001.out) | exact HB.out)⟩
    · rw [if_neg c9] at H
      have c9b0 : decide (t400003 < 0) = false := decide_eq_false c9
      clear c9
      replace H := Option.bind_eq_some_iff.mp H
      obtain ⟨t400004, A140, H⟩ := H
      replace H : (if t400004 < 0 then (some (-1)) else (some t400004)) = some r := H
      have A14 := Aside0.mk A140
      clear A140
      by_cases c15 : t400004 < 0
      · rw [if_pos c15] at H
        have c15b0 : decide (t400004 < 0) = true := decide_eq_true c15
        clear c15
        obtain rfl := Option.some.inj H
        go_enter Try.func39, Try.ntmps39
        go_wp2_with (first | ((with_reducible refine gate_dst (N := 2) rfl ?_); refine box_event ?hg (N := 2) ?hd (cs := #[.int .i64 a0_0, .int .i64 a0_1, .slice A0_2 l0_2.length c0_2, .slice A0_3 l0_3.length c0_3, .slice A0_4 l0_4.length c0_4]) (t := 56) ?hr ?_; (case hd => rfl); (case hg => rfl); (case hr => first | (go_simp; done) | (go_simp; rfl)); intro gb400001 hg w16 hbox hb; have n0_ := Aside0.mk (below_step (by repeat (first | (with_reducible first | exact HB.out | apply below_alloc | apply pw_below_drewN | apply below_drew1) | exact HB.out)) hb); have n1_ := Aside0.mk (hbox); have n2_ := Aside0.mk ((by rw [hg]; exact (below_size (by repeat (first | (with_reducible first | exact HB.out | apply below_alloc | apply pw_below_drewN | apply below_drew1) | exact HB.out))) : w.heap.size ≤ gb400001)); have n3_ := Aside0.mk ((by rw [hg]; exact (below_size (by repeat (first | (with_reducible first | exact HB.out | apply below_alloc | apply pw_below_drewN | apply below_drew1) | exact HB.out))) : w.heap.size ≤ gb400001)); clear HB; have HB := n0_; have BK400001 := n1_; have GW400001 := n2_; have GE400001 := n3_; clear n0_ n1_ n2_ n3_; clear hb hbox hg; have hcz17_0 : w16.cell? ⟨gb400001, 0, none⟩ = some (.int .i64 a0_0) := (blk_cell BK400001.out 0).trans rfl; have hcz17_1 : w16.cell? ⟨gb400001, 1, none⟩ = some (.int .i64 a0_1) := (blk_cell BK400001.out 1).trans rfl; have hcz17_2 : w16.cell? ⟨gb400001, 2, none⟩ = some (.slice A0_2 l0_2.length c0_2) := (blk_cell BK400001.out 2).trans rfl; have hcz17_3 : w16.cell? ⟨gb400001, 3, none⟩ = some (.slice A0_3 l0_3.length c0_3) := (blk_cell BK400001.out 3).trans rfl; have hcz17_4 : w16.cell? ⟨gb400001, 4, none⟩ = some (.slice A0_4 l0_4.length c0_4) := (blk_cell BK400001.out 4).trans rfl; have hfz17_0 := blk_frozen BK400001.out 0; have hfz17_1 := blk_frozen BK400001.out 1; have hfz17_2 := blk_frozen BK400001.out 2; have hfz17_3 := blk_frozen BK400001.out 3; have hfz17_4 := blk_frozen BK400001.out 4) | ((with_reducible refine gate_callee (f := 66) rfl ?_); refine goesL_ (some 8) rfl rfl Try.func66 (by kernel_rfl) rfl #[.agg #[.int .i64 a0_1, .slice A0_2 l0_2.length c0_2], .int .i64 a1] rfl (by (try simp only [List.map_toArray, List.map_cons, List.map_nil]); first | done | rfl | (simp only [List.length_drop, List.length_take]; rfl)) ?_; (with_reducible refine (laws_heldMap.calls k a0_1 _ _ l0_2 a1 t400002 _ ?side1 ?side2 A3.out).mono ?_); (case side1 => repeat (first | exact (Kd.C_below HR0_2.out HB.out) | (with_reducible refine Kd.C_alloc ?_ _) | (with_reducible refine Kd.C_drewN ?_ _) | (with_reducible refine Kd.C_drew ?_))); (case side2 => exact HC0_2.out); rintro e w18 ⟨rfl, hb⟩; refine ⟨_, rfl, ?_⟩; have n0_ := Aside0.mk (blk_below (g := gb400001) (o := .cells #[.int .i64 a0_0, .int .i64 a0_1, .slice A0_2 l0_2.length c0_2, .slice A0_3 l0_3.length c0_3, .slice A0_4 l0_4.length c0_4] 56 (0, 0)) (by (with_reducible repeat (first | refine blk_drewN ?_ _ | refine blk_drew ?_ | refine blk_alloc ?_ _)); exact BK400001.out) hb); have n1_ := Aside0.mk (below_step (by repeat (first | (with_reducible first | exact HB.out | apply below_alloc | apply pw_below_drewN | apply below_drew1 | refine below_set ?_ GE400001.out) | exact HB.out)) hb); clear BK400001; clear HB; have BK400001 := n0_; have HB := n1_; clear n0_ n1_; (try clear hb); (try clear hb2); (try clear hk); (try clear hi); have hcz19_0 : w18.cell? ⟨gb400001, 0, none⟩ = some (.int .i64 a0_0) := (blk_cell BK400001.out 0).trans rfl; have hcz19_1 : w18.cell? ⟨gb400001, 1, none⟩ = some (.int .i64 a0_1) := (blk_cell BK400001.out 1).trans rfl; have hcz19_2 : w18.cell? ⟨gb400001, 2, none⟩ = some (.slice A0_2 l0_2.length c0_2) := (blk_cell BK400001.out 2).trans rfl; have hcz19_3 : w18.cell? ⟨gb400001, 3, none⟩ = some (.slice A0_3 l0_3.length c0_3) := (blk_cell BK400001.out 3).trans rfl; have hcz19_4 : w18.cell? ⟨gb400001, 4, none⟩ = some (.slice A0_4 l0_4.length c0_4) := (blk_cell BK400001.out 4).trans rfl; have hfz19_0 := blk_frozen BK400001.out 0; have hfz19_1 := blk_frozen BK400001.out 1; have hfz19_2 := blk_frozen BK400001.out 2; have hfz19_3 := blk_frozen BK400001.out 3; have hfz19_4 := blk_frozen BK400001.out 4) | ((with_reducible refine gate_callee (f := 29) rfl ?_); refine goesL_ (some 14) rfl rfl Try.func29 (by kernel_rfl) rfl #[.slice A0_3 l0_3.length c0_3, .int .i64 t400002] rfl (by (try simp only [List.map_toArray, List.map_cons, List.map_nil]); first | done | rfl | (simp only [List.length_drop, List.length_take]; rfl)) ?_; (with_reducible refine (laws_heldPairS.calls k _ _ l0_3 t400002 t400003 _ ?side1 ?side2 A8.out).mono ?_); (case side1 => repeat (first | exact (Kd.C_below HR0_3.out HB.out) | (with_reducible refine Kd.C_alloc ?_ _) | (with_reducible refine Kd.C_drewN ?_ _) | (with_reducible refine Kd.C_drew ?_))); (case side2 => exact HC0_3.out); rintro e w' ⟨rfl, ⟨nd, rfl⟩⟩; refine ⟨_, rfl, ?_⟩) | ((with_reducible refine gate_callee (f := 67) rfl ?_); refine goesL_ (some 20) rfl rfl Try.func67 (by kernel_rfl) rfl #[.slice A0_4 l0_4.length c0_4, .int .i64 t400003] rfl (by (try simp only [List.map_toArray, List.map_cons, List.map_nil]); first | done | rfl | (simp only [List.length_drop, List.length_take]; rfl)) ?_; (with_reducible refine (laws_heldSaidS.calls k _ _ l0_4 t400003 t400004 _ ?side1 ?side2 A14.out).mono ?_); (case side1 => repeat (first | exact (Kd.C_below HR0_4.out (by repeat (first | (with_reducible first | exact HB.out | apply below_alloc | apply pw_below_drewN | apply below_drew1 | refine below_set ?_ GE400001.out) | exact HB.out))) | (with_reducible refine Kd.C_alloc ?_ _) | (with_reducible refine Kd.C_drewN ?_ _) | (with_reducible refine Kd.C_drew ?_))); (case side2 => exact HC0_4.out); rintro e w' ⟨rfl, ⟨nd, rfl⟩⟩; refine ⟨_, rfl, ?_⟩))
        go_ret
        exact ⟨by first | rfl | (simp [errW_none, errW_some] <;> rfl) | (simp [*, errW_none, errW_some] <;> rfl), by repeat (first | (with_reducible first | exact HB.out | apply below_alloc | apply pw_below_drewN | apply below_drew1 | refine below_set ?_ GE400001.out) | exact HB.out)⟩
      · rw [if_neg c15] at H
        have c15b0 : decide (t400004 < 0) = false := decide_eq_false c15
        clear c15
        obtain rfl := Option.some.inj H
        go_enter Try.func39, Try.ntmps39
        go_wp2_with (first | ((with_reducible refine gate_dst (N := 2) rfl ?_); refine box_event ?hg (N := 2) ?hd (cs := #[.int .i64 a0_0, .int .i64 a0_1, .slice A0_2 l0_2.length c0_2, .slice A0_3 l0_3.length c0_3, .slice A0_4 l0_4.length c0_4]) (t := 56) ?hr ?_; (case hd => rfl); (case hg => rfl); (case hr => first | (go_simp; done) | (go_simp; rfl)); intro gb400001 hg w20 hbox hb; have n0_ := Aside0.mk (below_step (by repeat (first | (with_reducible first | exact HB.out | apply below_alloc | apply pw_below_drewN | apply below_drew1) | exact HB.out)) hb); have n1_ := Aside0.mk (hbox); have n2_ := Aside0.mk ((by rw [hg]; exact (below_size (by repeat (first | (with_reducible first | exact HB.out | apply below_alloc | apply pw_below_drewN | apply below_drew1) | exact HB.out))) : w.heap.size ≤ gb400001)); have n3_ := Aside0.mk ((by rw [hg]; exact (below_size (by repeat (first | (with_reducible first | exact HB.out | apply below_alloc | apply pw_below_drewN | apply below_drew1) | exact HB.out))) : w.heap.size ≤ gb400001)); clear HB; have HB := n0_; have BK400001 := n1_; have GW400001 := n2_; have GE400001 := n3_; clear n0_ n1_ n2_ n3_; clear hb hbox hg; have hcz21_0 : w20.cell? ⟨gb400001, 0, none⟩ = some (.int .i64 a0_0) := (blk_cell BK400001.out 0).trans rfl; have hcz21_1 : w20.cell? ⟨gb400001, 1, none⟩ = some (.int .i64 a0_1) := (blk_cell BK400001.out 1).trans rfl; have hcz21_2 : w20.cell? ⟨gb400001, 2, none⟩ = some (.slice A0_2 l0_2.length c0_2) := (blk_cell BK400001.out 2).trans rfl; have hcz21_3 : w20.cell? ⟨gb400001, 3, none⟩ = some (.slice A0_3 l0_3.length c0_3) := (blk_cell BK400001.out 3).trans rfl; have hcz21_4 : w20.cell? ⟨gb400001, 4, none⟩ = some (.slice A0_4 l0_4.length c0_4) := (blk_cell BK400001.out 4).trans rfl; have hfz21_0 := blk_frozen BK400001.out 0; have hfz21_1 := blk_frozen BK400001.out 1; have hfz21_2 := blk_frozen BK400001.out 2; have hfz21_3 := blk_frozen BK400001.out 3; have hfz21_4 := blk_frozen BK400001.out 4) | ((with_reducible refine gate_callee (f := 66) rfl ?_); refine goesL_ (some 8) rfl rfl Try.func66 (by kernel_rfl) rfl #[.agg #[.int .i64 a0_1, .slice A0_2 l0_2.length c0_2], .int .i64 a1] rfl (by (try simp only [List.map_toArray, List.map_cons, List.map_nil]); first | done | rfl | (simp only [List.length_drop, List.length_take]; rfl)) ?_; (with_reducible refine (laws_heldMap.calls k a0_1 _ _ l0_2 a1 t400002 _ ?side1 ?side2 A3.out).mono ?_); (case side1 => repeat (first | exact (Kd.C_below HR0_2.out HB.out) | (with_reducible refine Kd.C_alloc ?_ _) | (with_reducible refine Kd.C_drewN ?_ _) | (with_reducible refine Kd.C_drew ?_))); (case side2 => exact HC0_2.out); rintro e w22 ⟨rfl, hb⟩; refine ⟨_, rfl, ?_⟩; have n0_ := Aside0.mk (blk_below (g := gb400001) (o := .cells #[.int .i64 a0_0, .int .i64 a0_1, .slice A0_2 l0_2.length c0_2, .slice A0_3 l0_3.length c0_3, .slice A0_4 l0_4.length c0_4] 56 (0, 0)) (by (with_reducible repeat (first | refine blk_drewN ?_ _ | refine blk_drew ?_ | refine blk_alloc ?_ _)); exact BK400001.out) hb); have n1_ := Aside0.mk (below_step (by repeat (first | (with_reducible first | exact HB.out | apply below_alloc | apply pw_below_drewN | apply below_drew1 | refine below_set ?_ GE400001.out) | exact HB.out)) hb); clear BK400001; clear HB; have BK400001 := n0_; have HB := n1_; clear n0_ n1_; (try clear hb); (try clear hb2); (try clear hk); (try clear hi); have hcz23_0 : w22.cell? ⟨gb400001, 0, none⟩ = some (.int .i64 a0_0) := (blk_cell BK400001.out 0).trans rfl; have hcz23_1 : w22.cell? ⟨gb400001, 1, none⟩ = some (.int .i64 a0_1) := (blk_cell BK400001.out 1).trans rfl; have hcz23_2 : w22.cell? ⟨gb400001, 2, none⟩ = some (.slice A0_2 l0_2.length c0_2) := (blk_cell BK400001.out 2).trans rfl; have hcz23_3 : w22.cell? ⟨gb400001, 3, none⟩ = some (.slice A0_3 l0_3.length c0_3) := (blk_cell BK400001.out 3).trans rfl; have hcz23_4 : w22.cell? ⟨gb400001, 4, none⟩ = some (.slice A0_4 l0_4.length c0_4) := (blk_cell BK400001.out 4).trans rfl; have hfz23_0 := blk_frozen BK400001.out 0; have hfz23_1 := blk_frozen BK400001.out 1; have hfz23_2 := blk_frozen BK400001.out 2; have hfz23_3 := blk_frozen BK400001.out 3; have hfz23_4 := blk_frozen BK400001.out 4) | ((with_reducible refine gate_callee (f := 29) rfl ?_); refine goesL_ (some 14) rfl rfl Try.func29 (by kernel_rfl) rfl #[.slice A0_3 l0_3.length c0_3, .int .i64 t400002] rfl (by (try simp only [List.map_toArray, List.map_cons, List.map_nil]); first | done | rfl | (simp only [List.length_drop, List.length_take]; rfl)) ?_; (with_reducible refine (laws_heldPairS.calls k _ _ l0_3 t400002 t400003 _ ?side1 ?side2 A8.out).mono ?_); (case side1 => repeat (first | exact (Kd.C_below HR0_3.out HB.out) | (with_reducible refine Kd.C_alloc ?_ _) | (with_reducible refine Kd.C_drewN ?_ _) | (with_reducible refine Kd.C_drew ?_))); (case side2 => exact HC0_3.out); rintro e w' ⟨rfl, ⟨nd, rfl⟩⟩; refine ⟨_, rfl, ?_⟩) | ((with_reducible refine gate_callee (f := 67) rfl ?_); refine goesL_ (some 20) rfl rfl Try.func67 (by kernel_rfl) rfl #[.slice A0_4 l0_4.length c0_4, .int .i64 t400003] rfl (by (try simp only [List.map_toArray, List.map_cons, List.map_nil]); first | done | rfl | (simp only [List.length_drop, List.length_take]; rfl)) ?_; (with_reducible refine (laws_heldSaidS.calls k _ _ l0_4 t400003 t400004 _ ?side1 ?side2 A14.out).mono ?_); (case side1 => repeat (first | exact (Kd.C_below HR0_4.out (by repeat (first | (with_reducible first | exact HB.out | apply below_alloc | apply pw_below_drewN | apply below_drew1 | refine below_set ?_ GE400001.out) | exact HB.out))) | (with_reducible refine Kd.C_alloc ?_ _) | (with_reducible refine Kd.C_drewN ?_ _) | (with_reducible refine Kd.C_drew ?_))); (case side2 => exact HC0_4.out); rintro e w' ⟨rfl, ⟨nd, rfl⟩⟩; refine ⟨_, rfl, ?_⟩))
        go_ret
        exact ⟨by first | rfl | (simp [errW_none, errW_some] <;> rfl) | (simp [*, errW_none, errW_some] <;> rfl), by repeat (first | (with_reducible first | exact HB.out | apply below_alloc | apply pw_below_drewN | apply below_drew1 | refine below_set ?_ GE400001.out) | exact HB.out)⟩

end Go.Proofs.Ytdjiclhjficgfaa.PX
