import Derived.Test.YthahadclegihaaaPXx0
import Derived.Test.YthahadclegihaaaPXx17
import Derived.Test.YthahadclegihaaaPXx18
import Derived.Test.YthahadclegihaaaPXx19
namespace Go.Proofs.Ythahadclegihaaa.PX
open Go.RowKit Go.Proofs.YthahadclegihaaaW.PrintWords Go.Proofs.YthahadclegihaaaW.PrintLast Go.Proofs.YthahadclegihaaaW.PrintMore
attribute [local go_sem] max2_int min2_int max_two min_two max_three min_three max_four min_four
set_option linter.unusedVariables false
set_option linter.unusedSimpArgs false

def laws_heldWorkS.l0 : Nat → List (S79) → Int → Int → Option (Int)
 | 0, _, _, _ => none
 | k + 1, x0, x1, x5 => if x5 < (x0.length : Int) then (if 0 ≤ x5 then (if ((rd_T79 x0 x5).f0) = x1 then (if ((rd_T79 x0 x5).f1) = (wrap64 (x1 + 1)) then (if ((rd_T79 x0 x5).f2) = (wrap64 ((wrap64 (x1 + 1)) + 1)) then ((laws_heldIntS.f k ((rd_T79 x0 x5).f3) (wrap64 ((wrap64 ((wrap64 (x1 + 1)) + 1)) + 1))).bind fun t340005 => (if t340005 < 0 then (some (-1)) else (laws_heldWorkS.l0 k x0 t340005 (wrap64 (x5 + 1))))) else (some (-1))) else (some (-1))) else (some (-1))) else (none)) else (some x1)
def laws_heldWorkS.f (k : Nat) (l0 : List (S79)) (a1 : Int) : Option (Int) := laws_heldWorkS.l0 k l0 a1 0
theorem laws_heldWorkS.mono_l : ∀ k, (∀ y0 y1 y2, LeO (laws_heldWorkS.l0 k y0 y1 y2) (laws_heldWorkS.l0 (k + 1) y0 y1 y2))
 | 0 => fun _ _ _ r h => by simp [laws_heldWorkS.l0] at h
 | k + 1 => by
  have ih0 := laws_heldWorkS.mono_l k
  ·intro y0 y1 y2
   unfold laws_heldWorkS.l0
   repeat' first
   | (with_reducible exact ih0 _ _ _)
   | (with_reducible exact laws_heldIntS.mono _ _ _)
   | (with_reducible exact LeO.refl _)
   | (with_reducible exact LeO.none _)
   | (with_reducible refine LeO.ite ?_ ?_)
   | (with_reducible refine LeO.bind ?_ (fun _ => ?_))
   | exact ih0 _ _ _
   | exact laws_heldIntS.mono _ _ _
   | exact LeO.none _
   | refine LeO.ite ?_ ?_
   | refine LeO.bind ?_ (fun _ => ?_)
theorem laws_heldWorkS.mono : ∀ a0 a1 k, LeO (laws_heldWorkS.f k a0 a1) (laws_heldWorkS.f (k + 1) a0 a1) := by
 intro a0 a1 k
 have ih0 := laws_heldWorkS.mono_l k
 unfold laws_heldWorkS.f
 repeat' first
  | (with_reducible exact ih0 _ _ _)
  | (with_reducible exact laws_heldIntS.mono _ _ _)
  | (with_reducible exact LeO.refl _)
  | (with_reducible exact LeO.none _)
  | (with_reducible refine LeO.ite ?_ ?_)
  | (with_reducible refine LeO.bind ?_ (fun _ => ?_))
  | exact ih0 _ _ _
  | exact laws_heldIntS.mono _ _ _
  | exact LeO.none _
  | refine LeO.ite ?_ ?_
  | refine LeO.bind ?_ (fun _ => ?_)
set_option maxHeartbeats 8000000 in
set_option maxRecDepth 100000 in
theorem laws_heldWorkS.calls (k : Nat) (A0 : Option Addr) (c0 : Nat) (l0 : List (S79)) (a1 : Int) (r : Int) (w : World) (hr0 : Kd.C k79 w A0 l0.length l0) (hc0 : l0.length ≤ c0) (h : laws_heldWorkS.f k l0 a1 = some r) :
 Calls Try.prog 33 #[.slice A0 l0.length c0, .int .i64 a1] w fun e w' => e = .returned (.int .i64 r) ∧ Drawn0 w w' := by
 have HR0 := Aside0.mk hr0
 have HC0 := Aside0.mk hc0
 clear hr0 hc0
 have H : (laws_heldWorkS.l0 k l0 a1 0) = some r := h
 clear h
 have H' := Aside0.mk H
 clear H
 go_enter Try.func33, Try.ntmps33
 go_wp2
 go_loopg [1, 5] k (fun kq v1 v5 w' => ∃ (x1_1 : Int) (x5_1 : Int), v1 = .int .i64 x1_1 ∧ v5 = .int .i64 x5_1 ∧ Aside0 (laws_heldWorkS.l0 kq l0 x1_1 x5_1 = some r) ∧ Aside0 (kq ≤ k) ∧ Drawn0 w w')
 case atStart => exact ⟨(a1), (0), (by first | rfl | (simp; done) | (simp [*]; done)), (by first | rfl | (simp; done) | (simp [*]; done)), H', ⟨Nat.le_refl _⟩, by repeat (first | exact Drawn0.refl _ | apply Drawn0.step)⟩
 case round =>
  clear H'
  try clear p2
  obtain ⟨x1_1, x5_1, rfl, rfl, HA, HK1, ⟨m1, rfl⟩⟩ := hrel
  cases gk with
  | zero => exact absurd HA.out (by simp [laws_heldWorkS.l0])
  | succ k1 =>
   have H := HA.out
   clear HA
   simp only [laws_heldWorkS.l0] at H
   by_cases c3 : x5_1 < (l0.length : Int)
   ·rw [if_pos c3] at H
    have c3b0 : decide (x5_1 < (l0.length : Int)) = true := decide_eq_true c3
    clear c3
    by_cases c4 : 0 ≤ x5_1
    ·rw [if_pos c4] at H
     have c4b0 : decide (0 ≤ x5_1) = true := decide_eq_true c4
     clear c4
     by_cases c5 : ((rd_T79 l0 x5_1).f0) = x1_1
     ·rw [if_pos c5] at H
      have c5b0 : (((rd_T79 l0 x5_1).f0) == x1_1) = true := beq_iff_eq.mpr c5
      have c5b1 : (((rd_T79 l0 x5_1).f0) != x1_1) = false := bne_eq_false_iff_eq.mpr c5
      clear c5
      by_cases c6 : ((rd_T79 l0 x5_1).f1) = (wrap64 (x1_1 + 1))
      ·rw [if_pos c6] at H
       have c6b0 : (((rd_T79 l0 x5_1).f1) == (wrap64 (x1_1 + 1))) = true := beq_iff_eq.mpr c6
       have c6b1 : (((rd_T79 l0 x5_1).f1) != (wrap64 (x1_1 + 1))) = false := bne_eq_false_iff_eq.mpr c6
       clear c6
       by_cases c7 : ((rd_T79 l0 x5_1).f2) = (wrap64 ((wrap64 (x1_1 + 1)) + 1))
       ·rw [if_pos c7] at H
        have c7b0 : (((rd_T79 l0 x5_1).f2) == (wrap64 ((wrap64 (x1_1 + 1)) + 1))) = true := beq_iff_eq.mpr c7
        have c7b1 : (((rd_T79 l0 x5_1).f2) != (wrap64 ((wrap64 (x1_1 + 1)) + 1))) = false := bne_eq_false_iff_eq.mpr c7
        clear c7
        replace H := Option.bind_eq_some_iff.mp H
        obtain ⟨t340005, A80, H⟩ := H
        replace H : (if t340005 < 0 then (some (-1)) else (laws_heldWorkS.l0 k1 l0 t340005 (wrap64 (x5_1 + 1)))) = some r := H
        have A8 := Aside0.mk A80
        clear A80
        by_cases c9 : t340005 < 0
        ·rw [if_pos c9] at H
         have c9b0 : decide (t340005 < 0) = true := decide_eq_true c9
         clear c9
         obtain rfl := Option.some.inj H
         have p340001 : 0 ≤ (x5_1 : Int) := of_decide_eq_true (by first | (with_reducible assumption) | assumption)
         have q340001 : x5_1 < (l0.length : Int) := of_decide_eq_true (by first | (with_reducible assumption) | assumption)
         obtain ⟨ad340001, A340001_3, c340001_3, e340001, hx340001_0, hx340001_1, hx340001_2, hx340001_3, hl340001_3, hi340001_3⟩ := at_T79 HR0.out x5_1 p340001 q340001
         cases e340001
         have HR340001_3 := Aside0.mk hi340001_3
         have HC340001_3 := Aside0.mk hl340001_3
         clear hi340001_3 hl340001_3
         replace p340001 := eq_true p340001
         replace q340001 := eq_true q340001
         have p340002 : 0 ≤ (x5_1 : Int) := of_decide_eq_true (by first | (with_reducible assumption) | assumption)
         have q340002 : x5_1 < (l0.length : Int) := of_decide_eq_true (by first | (with_reducible assumption) | assumption)
         obtain ⟨ad340002, A340002_3, c340002_3, e340002, hx340002_0, hx340002_1, hx340002_2, hx340002_3, hl340002_3, hi340002_3⟩ := at_T79 HR0.out x5_1 p340002 q340002
         obtain rfl : ad340001 = ad340002 := (by injection e340002)
         have HR340002_3 := Aside0.mk hi340002_3
         have HC340002_3 := Aside0.mk hl340002_3
         clear hi340002_3 hl340002_3
         replace p340002 := eq_true p340002
         replace q340002 := eq_true q340002
         have ea_ := Option.some.inj (hx340001_3.symm.trans hx340002_3)
         injection ea_ with ea_ en_ ec_
         subst ea_
         subst ec_
         clear en_
         have p340003 : 0 ≤ (x5_1 : Int) := of_decide_eq_true (by first | (with_reducible assumption) | assumption)
         have q340003 : x5_1 < (l0.length : Int) := of_decide_eq_true (by first | (with_reducible assumption) | assumption)
         obtain ⟨ad340003, A340003_3, c340003_3, e340003, hx340003_0, hx340003_1, hx340003_2, hx340003_3, hl340003_3, hi340003_3⟩ := at_T79 HR0.out x5_1 p340003 q340003
         obtain rfl : ad340001 = ad340003 := (by injection e340003)
         have HR340003_3 := Aside0.mk hi340003_3
         have HC340003_3 := Aside0.mk hl340003_3
         clear hi340003_3 hl340003_3
         replace p340003 := eq_true p340003
         replace q340003 := eq_true q340003
         have ea_ := Option.some.inj (hx340001_3.symm.trans hx340003_3)
         injection ea_ with ea_ en_ ec_
         subst ea_
         subst ec_
         clear en_
         have p340004 : 0 ≤ (x5_1 : Int) := of_decide_eq_true (by first | (with_reducible assumption) | assumption)
         have q340004 : x5_1 < (l0.length : Int) := of_decide_eq_true (by first | (with_reducible assumption) | assumption)
         obtain ⟨ad340004, A340004_3, c340004_3, e340004, hx340004_0, hx340004_1, hx340004_2, hx340004_3, hl340004_3, hi340004_3⟩ := at_T79 HR0.out x5_1 p340004 q340004
         obtain rfl : ad340001 = ad340004 := (by injection e340004)
         have HR340004_3 := Aside0.mk hi340004_3
         have HC340004_3 := Aside0.mk hl340004_3
         clear hi340004_3 hl340004_3
         replace p340004 := eq_true p340004
         replace q340004 := eq_true q340004
         have ea_ := Option.some.inj (hx340001_3.symm.trans hx340004_3)
         injection ea_ with ea_ en_ ec_
         subst ea_
         subst ec_
         clear en_
         go_wp2_with (first | ((with_reducible refine gate_callee (f := 60) rfl ?_); refine goesL_ (some 45) rfl rfl Try.func60 (by kernel_rfl) rfl #[.slice A340001_3 ((rd_T79 l0 x5_1).f3).length c340001_3, .int .i64 (wrap64 ((wrap64 ((wrap64 (x1_1 + 1)) + 1)) + 1))] rfl (by (try simp only [List.map_toArray, List.map_cons, List.map_nil]); first | done | rfl | (simp only [List.length_drop, List.length_take]; rfl)) ?_; (with_reducible refine (laws_heldIntS.calls k1 _ _ ((rd_T79 l0 x5_1).f3) (wrap64 ((wrap64 ((wrap64 (x1_1 + 1)) + 1)) + 1)) t340005 _ ?side1 ?side2 A8.out).mono ?_); (case side1 => repeat (first | exact HR340004_3.out | (with_reducible refine Kd.C_alloc ?_ _) | (with_reducible refine Kd.C_drewN ?_ _) | (with_reducible refine Kd.C_drew ?_))); (case side2 => exact HC340004_3.out); rintro e w' ⟨rfl, ⟨nd, rfl⟩⟩; refine ⟨_, rfl, ?_⟩))
         go_ret
         exact ⟨by first | rfl | (simp; done) | (simp [*]; done), by repeat (first | exact Drawn0.refl _ | apply Drawn0.step)⟩
        ·rw [if_neg c9] at H
         have c9b0 : decide (t340005 < 0) = false := decide_eq_false c9
         clear c9
         have H' := Aside0.mk H
         clear H
         have p340001 : 0 ≤ (x5_1 : Int) := of_decide_eq_true (by first | (with_reducible assumption) | assumption)
         have q340001 : x5_1 < (l0.length : Int) := of_decide_eq_true (by first | (with_reducible assumption) | assumption)
         obtain ⟨ad340001, A340001_3, c340001_3, e340001, hx340001_0, hx340001_1, hx340001_2, hx340001_3, hl340001_3, hi340001_3⟩ := at_T79 HR0.out x5_1 p340001 q340001
         cases e340001
         have HR340001_3 := Aside0.mk hi340001_3
         have HC340001_3 := Aside0.mk hl340001_3
         clear hi340001_3 hl340001_3
         replace p340001 := eq_true p340001
         replace q340001 := eq_true q340001
         have p340002 : 0 ≤ (x5_1 : Int) := of_decide_eq_true (by first | (with_reducible assumption) | assumption)
         have q340002 : x5_1 < (l0.length : Int) := of_decide_eq_true (by first | (with_reducible assumption) | assumption)
         obtain ⟨ad340002, A340002_3, c340002_3, e340002, hx340002_0, hx340002_1, hx340002_2, hx340002_3, hl340002_3, hi340002_3⟩ := at_T79 HR0.out x5_1 p340002 q340002
         obtain rfl : ad340001 = ad340002 := (by injection e340002)
         have HR340002_3 := Aside0.mk hi340002_3
         have HC340002_3 := Aside0.mk hl340002_3
         clear hi340002_3 hl340002_3
         replace p340002 := eq_true p340002
         replace q340002 := eq_true q340002
         have ea_ := Option.some.inj (hx340001_3.symm.trans hx340002_3)
         injection ea_ with ea_ en_ ec_
         subst ea_
         subst ec_
         clear en_
         have p340003 : 0 ≤ (x5_1 : Int) := of_decide_eq_true (by first | (with_reducible assumption) | assumption)
         have q340003 : x5_1 < (l0.length : Int) := of_decide_eq_true (by first | (with_reducible assumption) | assumption)
         obtain ⟨ad340003, A340003_3, c340003_3, e340003, hx340003_0, hx340003_1, hx340003_2, hx340003_3, hl340003_3, hi340003_3⟩ := at_T79 HR0.out x5_1 p340003 q340003
         obtain rfl : ad340001 = ad340003 := (by injection e340003)
         have HR340003_3 := Aside0.mk hi340003_3
         have HC340003_3 := Aside0.mk hl340003_3
         clear hi340003_3 hl340003_3
         replace p340003 := eq_true p340003
         replace q340003 := eq_true q340003
         have ea_ := Option.some.inj (hx340001_3.symm.trans hx340003_3)
         injection ea_ with ea_ en_ ec_
         subst ea_
         subst ec_
         clear en_
         have p340004 : 0 ≤ (x5_1 : Int) := of_decide_eq_true (by first | (with_reducible assumption) | assumption)
         have q340004 : x5_1 < (l0.length : Int) := of_decide_eq_true (by first | (with_reducible assumption) | assumption)
         obtain ⟨ad340004, A340004_3, c340004_3, e340004, hx340004_0, hx340004_1, hx340004_2, hx340004_3, hl340004_3, hi340004_3⟩ := at_T79 HR0.out x5_1 p340004 q340004
         obtain rfl : ad340001 = ad340004 := (by injection e340004)
         have HR340004_3 := Aside0.mk hi340004_3
         have HC340004_3 := Aside0.mk hl340004_3
         clear hi340004_3 hl340004_3
         replace p340004 := eq_true p340004
         replace q340004 := eq_true q340004
         have ea_ := Option.some.inj (hx340001_3.symm.trans hx340004_3)
         injection ea_ with ea_ en_ ec_
         subst ea_
         subst ec_
         clear en_
         go_wp2_with (first | ((with_reducible refine gate_callee (f := 60) rfl ?_); refine goesL_ (some 45) rfl rfl Try.func60 (by kernel_rfl) rfl #[.slice A340001_3 ((rd_T79 l0 x5_1).f3).length c340001_3, .int .i64 (wrap64 ((wrap64 ((wrap64 (x1_1 + 1)) + 1)) + 1))] rfl (by (try simp only [List.map_toArray, List.map_cons, List.map_nil]); first | done | rfl | (simp only [List.length_drop, List.length_take]; rfl)) ?_; (with_reducible refine (laws_heldIntS.calls k1 _ _ ((rd_T79 l0 x5_1).f3) (wrap64 ((wrap64 ((wrap64 (x1_1 + 1)) + 1)) + 1)) t340005 _ ?side1 ?side2 A8.out).mono ?_); (case side1 => repeat (first | exact HR340004_3.out | (with_reducible refine Kd.C_alloc ?_ _) | (with_reducible refine Kd.C_drewN ?_ _) | (with_reducible refine Kd.C_drew ?_))); (case side2 => exact HC340004_3.out); rintro e w' ⟨rfl, ⟨nd, rfl⟩⟩; refine ⟨_, rfl, ?_⟩))
         go_roundg k1
         case measure => have := HK1.out; omega
         case rel => exact ⟨(t340005), (wrap64 (x5_1 + 1)), (by first | rfl | (simp; done) | (simp [*]; done)), (by first | rfl | (simp; done) | (simp [*]; done)), H', ⟨by have := HK1.out; omega⟩, by repeat (first | exact Drawn0.refl _ | apply Drawn0.step)⟩
       ·rw [if_neg c7] at H
        have c7b0 : (((rd_T79 l0 x5_1).f2) == (wrap64 ((wrap64 (x1_1 + 1)) + 1))) = false := beq_eq_false_iff_ne.mpr c7
        have c7b1 : (((rd_T79 l0 x5_1).f2) != (wrap64 ((wrap64 (x1_1 + 1)) + 1))) = true := bne_iff_ne.mpr c7
        obtain rfl := Option.some.inj H
        have p340001 : 0 ≤ (x5_1 : Int) := of_decide_eq_true (by first | (with_reducible assumption) | assumption)
        have q340001 : x5_1 < (l0.length : Int) := of_decide_eq_true (by first | (with_reducible assumption) | assumption)
        obtain ⟨ad340001, A340001_3, c340001_3, e340001, hx340001_0, hx340001_1, hx340001_2, hx340001_3, hl340001_3, hi340001_3⟩ := at_T79 HR0.out x5_1 p340001 q340001
        cases e340001
        have HR340001_3 := Aside0.mk hi340001_3
        have HC340001_3 := Aside0.mk hl340001_3
        clear hi340001_3 hl340001_3
        replace p340001 := eq_true p340001
        replace q340001 := eq_true q340001
        have p340002 : 0 ≤ (x5_1 : Int) := of_decide_eq_true (by first | (with_reducible assumption) | assumption)
        have q340002 : x5_1 < (l0.length : Int) := of_decide_eq_true (by first | (with_reducible assumption) | assumption)
        obtain ⟨ad340002, A340002_3, c340002_3, e340002, hx340002_0, hx340002_1, hx340002_2, hx340002_3, hl340002_3, hi340002_3⟩ := at_T79 HR0.out x5_1 p340002 q340002
        obtain rfl : ad340001 = ad340002 := (by injection e340002)
        have HR340002_3 := Aside0.mk hi340002_3
        have HC340002_3 := Aside0.mk hl340002_3
        clear hi340002_3 hl340002_3
        replace p340002 := eq_true p340002
        replace q340002 := eq_true q340002
        have ea_ := Option.some.inj (hx340001_3.symm.trans hx340002_3)
        injection ea_ with ea_ en_ ec_
        subst ea_
        subst ec_
        clear en_
        have p340003 : 0 ≤ (x5_1 : Int) := of_decide_eq_true (by first | (with_reducible assumption) | assumption)
        have q340003 : x5_1 < (l0.length : Int) := of_decide_eq_true (by first | (with_reducible assumption) | assumption)
        obtain ⟨ad340003, A340003_3, c340003_3, e340003, hx340003_0, hx340003_1, hx340003_2, hx340003_3, hl340003_3, hi340003_3⟩ := at_T79 HR0.out x5_1 p340003 q340003
        obtain rfl : ad340001 = ad340003 := (by injection e340003)
        have HR340003_3 := Aside0.mk hi340003_3
        have HC340003_3 := Aside0.mk hl340003_3
        clear hi340003_3 hl340003_3
        replace p340003 := eq_true p340003
        replace q340003 := eq_true q340003
        have ea_ := Option.some.inj (hx340001_3.symm.trans hx340003_3)
        injection ea_ with ea_ en_ ec_
        subst ea_
        subst ec_
        clear en_
        go_wp2
        go_ret
        exact ⟨by first | rfl | (simp; done) | (simp [*]; done), by repeat (first | exact Drawn0.refl _ | apply Drawn0.step)⟩
      ·rw [if_neg c6] at H
       have c6b0 : (((rd_T79 l0 x5_1).f1) == (wrap64 (x1_1 + 1))) = false := beq_eq_false_iff_ne.mpr c6
       have c6b1 : (((rd_T79 l0 x5_1).f1) != (wrap64 (x1_1 + 1))) = true := bne_iff_ne.mpr c6
       obtain rfl := Option.some.inj H
       have p340001 : 0 ≤ (x5_1 : Int) := of_decide_eq_true (by first | (with_reducible assumption) | assumption)
       have q340001 : x5_1 < (l0.length : Int) := of_decide_eq_true (by first | (with_reducible assumption) | assumption)
       obtain ⟨ad340001, A340001_3, c340001_3, e340001, hx340001_0, hx340001_1, hx340001_2, hx340001_3, hl340001_3, hi340001_3⟩ := at_T79 HR0.out x5_1 p340001 q340001
       cases e340001
       have HR340001_3 := Aside0.mk hi340001_3
       have HC340001_3 := Aside0.mk hl340001_3
       clear hi340001_3 hl340001_3
       replace p340001 := eq_true p340001
       replace q340001 := eq_true q340001
       have p340002 : 0 ≤ (x5_1 : Int) := of_decide_eq_true (by first | (with_reducible assumption) | assumption)
       have q340002 : x5_1 < (l0.length : Int) := of_decide_eq_true (by first | (with_reducible assumption) | assumption)
       obtain ⟨ad340002, A340002_3, c340002_3, e340002, hx340002_0, hx340002_1, hx340002_2, hx340002_3, hl340002_3, hi340002_3⟩ := at_T79 HR0.out x5_1 p340002 q340002
       obtain rfl : ad340001 = ad340002 := (by injection e340002)
       have HR340002_3 := Aside0.mk hi340002_3
       have HC340002_3 := Aside0.mk hl340002_3
       clear hi340002_3 hl340002_3
       replace p340002 := eq_true p340002
       replace q340002 := eq_true q340002
       have ea_ := Option.some.inj (hx340001_3.symm.trans hx340002_3)
       injection ea_ with ea_ en_ ec_
       subst ea_
       subst ec_
       clear en_
       go_wp2
       go_ret
       exact ⟨by first | rfl | (simp; done) | (simp [*]; done), by repeat (first | exact Drawn0.refl _ | apply Drawn0.step)⟩
     ·rw [if_neg c5] at H
      have c5b0 : (((rd_T79 l0 x5_1).f0) == x1_1) = false := beq_eq_false_iff_ne.mpr c5
      have c5b1 : (((rd_T79 l0 x5_1).f0) != x1_1) = true := bne_iff_ne.mpr c5
      obtain rfl := Option.some.inj H
      have p340001 : 0 ≤ (x5_1 : Int) := of_decide_eq_true (by first | (with_reducible assumption) | assumption)
      have q340001 : x5_1 < (l0.length : Int) := of_decide_eq_true (by first | (with_reducible assumption) | assumption)
      obtain ⟨ad340001, A340001_3, c340001_3, e340001, hx340001_0, hx340001_1, hx340001_2, hx340001_3, hl340001_3, hi340001_3⟩ := at_T79 HR0.out x5_1 p340001 q340001
      cases e340001
      have HR340001_3 := Aside0.mk hi340001_3
      have HC340001_3 := Aside0.mk hl340001_3
      clear hi340001_3 hl340001_3
      replace p340001 := eq_true p340001
      replace q340001 := eq_true q340001
      go_wp2
      go_ret
      exact ⟨by first | rfl | (simp; done) | (simp [*]; done), by repeat (first | exact Drawn0.refl _ | apply Drawn0.step)⟩
    ·rw [if_neg c4] at H
     exact absurd H (by simp)
   ·rw [if_neg c3] at H
    have c3b0 : decide (x5_1 < (l0.length : Int)) = false := decide_eq_false c3
    clear c3
    obtain rfl := Option.some.inj H
    go_wp2
    go_ret
    exact ⟨by first | rfl | (simp; done) | (simp [*]; done), by repeat (first | exact Drawn0.refl _ | apply Drawn0.step)⟩

def laws_heldHouse.f (k : Nat) (a0_0 : Int) (a0_1 : Bool) (l0_2 : List (S75)) (a0_3 : Int) (l0_4 : List (S70)) (l0_5 : List (S79)) (a1 : Int) : Option (Int) := (laws_heldRecS.f k l0_2 a1).bind fun t110002 => (if t110002 < 0 then (some (-1)) else ((laws_heldLockS.f k l0_4 t110002).bind fun t110003 => (if t110003 < 0 then (some (-1)) else ((laws_heldWorkS.f k l0_5 t110003).bind fun t110004 => (if t110004 < 0 then (some (-1)) else (some t110004))))))
theorem laws_heldHouse.mono : ∀ a0 a1 a2 a3 a4 a5 a6 k, LeO (laws_heldHouse.f k a0 a1 a2 a3 a4 a5 a6) (laws_heldHouse.f (k + 1) a0 a1 a2 a3 a4 a5 a6) := by
 intro a0 a1 a2 a3 a4 a5 a6 k
 unfold laws_heldHouse.f
 repeat' first
  | (with_reducible exact laws_heldLockS.mono _ _ _)
  | (with_reducible exact laws_heldRecS.mono _ _ _)
  | (with_reducible exact laws_heldWorkS.mono _ _ _)
  | (with_reducible exact LeO.refl _)
  | (with_reducible exact LeO.none _)
  | (with_reducible refine LeO.ite ?_ ?_)
  | (with_reducible refine LeO.bind ?_ (fun _ => ?_))
  | exact laws_heldLockS.mono _ _ _
  | exact laws_heldRecS.mono _ _ _
  | exact laws_heldWorkS.mono _ _ _
  | exact LeO.none _
  | refine LeO.ite ?_ ?_
  | refine LeO.bind ?_ (fun _ => ?_)
set_option maxHeartbeats 8000000 in
set_option maxRecDepth 100000 in
theorem laws_heldHouse.calls (k : Nat) (a0_0 : Int) (a0_1 : Bool) (A0_2 : Option Addr) (c0_2 : Nat) (l0_2 : List (S75)) (a0_3 : Int) (A0_4 : Option Addr) (c0_4 : Nat) (l0_4 : List (S70)) (A0_5 : Option Addr) (c0_5 : Nat) (l0_5 : List (S79)) (a1 : Int) (r : Int) (w : World) (hr0_2 : Kd.C k75 w A0_2 l0_2.length l0_2) (hc0_2 : l0_2.length ≤ c0_2) (hr0_4 : Kd.C k70 w A0_4 l0_4.length l0_4) (hc0_4 : l0_4.length ≤ c0_4) (hr0_5 : Kd.C k79 w A0_5 l0_5.length l0_5) (hc0_5 : l0_5.length ≤ c0_5) (h : laws_heldHouse.f k a0_0 a0_1 l0_2 a0_3 l0_4 l0_5 a1 = some r) :
 Calls Try.prog 10 #[.agg #[.int .i64 a0_0, .bool a0_1, .slice A0_2 l0_2.length c0_2, .int .i64 a0_3, .slice A0_4 l0_4.length c0_4, .slice A0_5 l0_5.length c0_5], .int .i64 a1] w fun e w' => e = .returned (.int .i64 r) ∧ Below w.heap.size w w' := by
 have hu26 := Try.underlying26
 have HR0_2 := Aside0.mk hr0_2
 have HC0_2 := Aside0.mk hc0_2
 clear hr0_2 hc0_2
 have HR0_4 := Aside0.mk hr0_4
 have HC0_4 := Aside0.mk hc0_4
 clear hr0_4 hc0_4
 have HR0_5 := Aside0.mk hr0_5
 have HC0_5 := Aside0.mk hc0_5
 clear hr0_5 hc0_5
 have HB := Aside0.mk (Below.refl w.heap.size w)
 have H : ((laws_heldRecS.f k l0_2 a1).bind fun t110002 => (if t110002 < 0 then (some (-1)) else ((laws_heldLockS.f k l0_4 t110002).bind fun t110003 => (if t110003 < 0 then (some (-1)) else ((laws_heldWorkS.f k l0_5 t110003).bind fun t110004 => (if t110004 < 0 then (some (-1)) else (some t110004))))))) = some r := h
 clear h
 replace H := Option.bind_eq_some_iff.mp H
 obtain ⟨t110002, A30, H⟩ := H
 replace H : (if t110002 < 0 then (some (-1)) else ((laws_heldLockS.f k l0_4 t110002).bind fun t110003 => (if t110003 < 0 then (some (-1)) else ((laws_heldWorkS.f k l0_5 t110003).bind fun t110004 => (if t110004 < 0 then (some (-1)) else (some t110004)))))) = some r := H
 have A3 := Aside0.mk A30
 clear A30
 by_cases c4 : t110002 < 0
 ·rw [if_pos c4] at H
  have c4b0 : decide (t110002 < 0) = true := decide_eq_true c4
  clear c4
  obtain rfl := Option.some.inj H
  go_enter Try.func10, Try.ntmps10
  go_wp2_with (first | ((with_reducible refine gate_dst (N := 2) rfl ?_); refine box_event ?hg (N := 2) ?hd (cs := #[.int .i64 a0_0, .bool a0_1, .slice A0_2 l0_2.length c0_2, .int .i64 a0_3, .slice A0_4 l0_4.length c0_4, .slice A0_5 l0_5.length c0_5]) (t := 26) ?hr ?_; (case hd => rfl); (case hg => rfl); (case hr => first | (go_simp; done) | (go_simp; rfl)); intro gb110001 hg w5 hbox hb; have n0_ := Aside0.mk (below_step (by repeat (first | (with_reducible first | exact HB.out | apply below_alloc | apply pw_below_drewN | apply below_drew1) | exact HB.out)) hb); have n1_ := Aside0.mk (hbox); have n2_ := Aside0.mk ((by rw [hg]; exact (below_size (by repeat (first | (with_reducible first | exact HB.out | apply below_alloc | apply pw_below_drewN | apply below_drew1) | exact HB.out))) : w.heap.size ≤ gb110001)); have n3_ := Aside0.mk ((by rw [hg]; exact (below_size (by repeat (first | (with_reducible first | exact HB.out | apply below_alloc | apply pw_below_drewN | apply below_drew1) | exact HB.out))) : w.heap.size ≤ gb110001)); clear HB; have HB := n0_; have BK110001 := n1_; have GW110001 := n2_; have GE110001 := n3_; clear n0_ n1_ n2_ n3_; clear hb hbox hg; have hcz6_0 : w5.cell? ⟨gb110001, 0, none⟩ = some (.int .i64 a0_0) := (blk_cell BK110001.out 0).trans rfl; have hcz6_1 : w5.cell? ⟨gb110001, 1, none⟩ = some (.bool a0_1) := (blk_cell BK110001.out 1).trans rfl; have hcz6_2 : w5.cell? ⟨gb110001, 2, none⟩ = some (.slice A0_2 l0_2.length c0_2) := (blk_cell BK110001.out 2).trans rfl; have hcz6_3 : w5.cell? ⟨gb110001, 3, none⟩ = some (.int .i64 a0_3) := (blk_cell BK110001.out 3).trans rfl; have hcz6_4 : w5.cell? ⟨gb110001, 4, none⟩ = some (.slice A0_4 l0_4.length c0_4) := (blk_cell BK110001.out 4).trans rfl; have hcz6_5 : w5.cell? ⟨gb110001, 5, none⟩ = some (.slice A0_5 l0_5.length c0_5) := (blk_cell BK110001.out 5).trans rfl; have hfz6_0 := blk_frozen BK110001.out 0; have hfz6_1 := blk_frozen BK110001.out 1; have hfz6_2 := blk_frozen BK110001.out 2; have hfz6_3 := blk_frozen BK110001.out 3; have hfz6_4 := blk_frozen BK110001.out 4; have hfz6_5 := blk_frozen BK110001.out 5) | ((with_reducible refine gate_callee (f := 31) rfl ?_); refine goesL_ (some 8) rfl rfl Try.func31 (by kernel_rfl) rfl #[.slice A0_2 l0_2.length c0_2, .int .i64 a1] rfl (by (try simp only [List.map_toArray, List.map_cons, List.map_nil]); first | done | rfl | (simp only [List.length_drop, List.length_take]; rfl)) ?_; (with_reducible refine (laws_heldRecS.calls k _ _ l0_2 a1 t110002 _ ?side1 ?side2 A3.out).mono ?_); (case side1 => repeat (first | exact (Kd.C_below HR0_2.out HB.out) | (with_reducible refine Kd.C_alloc ?_ _) | (with_reducible refine Kd.C_drewN ?_ _) | (with_reducible refine Kd.C_drew ?_))); (case side2 => exact HC0_2.out); rintro e w' ⟨rfl, ⟨nd, rfl⟩⟩; refine ⟨_, rfl, ?_⟩))
  go_ret
  exact ⟨by first | rfl | (simp [errW_none, errW_some] <;> rfl) | (simp [*, errW_none, errW_some] <;> rfl), by repeat (first | (with_reducible first | exact HB.out | apply below_alloc | apply pw_below_drewN | apply below_drew1 | refine below_set ?_ GE110001.out) | exact HB.out)⟩
 ·rw [if_neg c4] at H
  have c4b0 : decide (t110002 < 0) = false := decide_eq_false c4
  clear c4
  replace H := Option.bind_eq_some_iff.mp H
  obtain ⟨t110003, A70, H⟩ := H
  replace H : (if t110003 < 0 then (some (-1)) else ((laws_heldWorkS.f k l0_5 t110003).bind fun t110004 => (if t110004 < 0 then (some (-1)) else (some t110004)))) = some r := H
  have A7 := Aside0.mk A70
  clear A70
  by_cases c8 : t110003 < 0
  ·rw [if_pos c8] at H
   have c8b0 : decide (t110003 < 0) = true := decide_eq_true c8
   clear c8
   obtain rfl := Option.some.inj H
   go_enter Try.func10, Try.ntmps10
   go_wp2_with (first | ((with_reducible refine gate_dst (N := 2) rfl ?_); refine box_event ?hg (N := 2) ?hd (cs := #[.int .i64 a0_0, .bool a0_1, .slice A0_2 l0_2.length c0_2, .int .i64 a0_3, .slice A0_4 l0_4.length c0_4, .slice A0_5 l0_5.length c0_5]) (t := 26) ?hr ?_; (case hd => rfl); (case hg => rfl); (case hr => first | (go_simp; done) | (go_simp; rfl)); intro gb110001 hg w9 hbox hb; have n0_ := Aside0.mk (below_step (by repeat (first | (with_reducible first | exact HB.out | apply below_alloc | apply pw_below_drewN | apply below_drew1) | exact HB.out)) hb); have n1_ := Aside0.mk (hbox); have n2_ := Aside0.mk ((by rw [hg]; exact (below_size (by repeat (first | (with_reducible first | exact HB.out | apply below_alloc | apply pw_below_drewN | apply below_drew1) | exact HB.out))) : w.heap.size ≤ gb110001)); have n3_ := Aside0.mk ((by rw [hg]; exact (below_size (by repeat (first | (with_reducible first | exact HB.out | apply below_alloc | apply pw_below_drewN | apply below_drew1) | exact HB.out))) : w.heap.size ≤ gb110001)); clear HB; have HB := n0_; have BK110001 := n1_; have GW110001 := n2_; have GE110001 := n3_; clear n0_ n1_ n2_ n3_; clear hb hbox hg; have hcz10_0 : w9.cell? ⟨gb110001, 0, none⟩ = some (.int .i64 a0_0) := (blk_cell BK110001.out 0).trans rfl; have hcz10_1 : w9.cell? ⟨gb110001, 1, none⟩ = some (.bool a0_1) := (blk_cell BK110001.out 1).trans rfl; have hcz10_2 : w9.cell? ⟨gb110001, 2, none⟩ = some (.slice A0_2 l0_2.length c0_2) := (blk_cell BK110001.out 2).trans rfl; have hcz10_3 : w9.cell? ⟨gb110001, 3, none⟩ = some (.int .i64 a0_3) := (blk_cell BK110001.out 3).trans rfl; have hcz10_4 : w9.cell? ⟨gb110001, 4, none⟩ = some (.slice A0_4 l0_4.length c0_4) := (blk_cell BK110001.out 4).trans rfl; have hcz10_5 : w9.cell? ⟨gb110001, 5, none⟩ = some (.slice A0_5 l0_5.length c0_5) := (blk_cell BK110001.out 5).trans rfl; have hfz10_0 := blk_frozen BK110001.out 0; have hfz10_1 := blk_frozen BK110001.out 1; have hfz10_2 := blk_frozen BK110001.out 2; have hfz10_3 := blk_frozen BK110001.out 3; have hfz10_4 := blk_frozen BK110001.out 4; have hfz10_5 := blk_frozen BK110001.out 5) | ((with_reducible refine gate_callee (f := 31) rfl ?_); refine goesL_ (some 8) rfl rfl Try.func31 (by kernel_rfl) rfl #[.slice A0_2 l0_2.length c0_2, .int .i64 a1] rfl (by (try simp only [List.map_toArray, List.map_cons, List.map_nil]); first | done | rfl | (simp only [List.length_drop, List.length_take]; rfl)) ?_; (with_reducible refine (laws_heldRecS.calls k _ _ l0_2 a1 t110002 _ ?side1 ?side2 A3.out).mono ?_); (case side1 => repeat (first | exact (Kd.C_below HR0_2.out HB.out) | (with_reducible refine Kd.C_alloc ?_ _) | (with_reducible refine Kd.C_drewN ?_ _) | (with_reducible refine Kd.C_drew ?_))); (case side2 => exact HC0_2.out); rintro e w' ⟨rfl, ⟨nd, rfl⟩⟩; refine ⟨_, rfl, ?_⟩) | ((with_reducible refine gate_callee (f := 32) rfl ?_); refine goesL_ (some 14) rfl rfl Try.func32 (by kernel_rfl) rfl #[.slice A0_4 l0_4.length c0_4, .int .i64 t110002] rfl (by (try simp only [List.map_toArray, List.map_cons, List.map_nil]); first | done | rfl | (simp only [List.length_drop, List.length_take]; rfl)) ?_; (with_reducible refine (laws_heldLockS.calls k _ _ l0_4 t110002 t110003 _ ?side1 ?side2 A7.out).mono ?_); (case side1 => repeat (first | exact (Kd.C_below HR0_4.out (by repeat (first | (with_reducible first | exact HB.out | apply below_alloc | apply pw_below_drewN | apply below_drew1 | refine below_set ?_ GE110001.out) | exact HB.out))) | (with_reducible refine Kd.C_alloc ?_ _) | (with_reducible refine Kd.C_drewN ?_ _) | (with_reducible refine Kd.C_drew ?_))); (case side2 => exact HC0_4.out); rintro e w' ⟨rfl, ⟨nd, rfl⟩⟩; refine ⟨_, rfl, ?_⟩))
   go_ret
   exact ⟨by first | rfl | (simp [errW_none, errW_some] <;> rfl) | (simp [*, errW_none, errW_some] <;> rfl), by repeat (first | (with_reducible first | exact HB.out | apply below_alloc | apply pw_below_drewN | apply below_drew1 | refine below_set ?_ GE110001.out) | exact HB.out)⟩
  ·rw [if_neg c8] at H
   have c8b0 : decide (t110003 < 0) = false := decide_eq_false c8
   clear c8
   replace H := Option.bind_eq_some_iff.mp H
   obtain ⟨t110004, A110, H⟩ := H
   replace H : (if t110004 < 0 then (some (-1)) else (some t110004)) = some r := H
   have A11 := Aside0.mk A110
   clear A110
   by_cases c12 : t110004 < 0
   ·rw [if_pos c12] at H
    have c12b0 : decide (t110004 < 0) = true := decide_eq_true c12
    clear c12
    obtain rfl := Option.some.inj H
    go_enter Try.func10, Try.ntmps10
    go_wp2_with (first | ((with_reducible refine gate_dst (N := 2) rfl ?_); refine box_event ?hg (N := 2) ?hd (cs := #[.int .i64 a0_0, .bool a0_1, .slice A0_2 l0_2.length c0_2, .int .i64 a0_3, .slice A0_4 l0_4.length c0_4, .slice A0_5 l0_5.length c0_5]) (t := 26) ?hr ?_; (case hd => rfl); (case hg => rfl); (case hr => first | (go_simp; done) | (go_simp; rfl)); intro gb110001 hg w13 hbox hb; have n0_ := Aside0.mk (below_step (by repeat (first | (with_reducible first | exact HB.out | apply below_alloc | apply pw_below_drewN | apply below_drew1) | exact HB.out)) hb); have n1_ := Aside0.mk (hbox); have n2_ := Aside0.mk ((by rw [hg]; exact (below_size (by repeat (first | (with_reducible first | exact HB.out | apply below_alloc | apply pw_below_drewN | apply below_drew1) | exact HB.out))) : w.heap.size ≤ gb110001)); have n3_ := Aside0.mk ((by rw [hg]; exact (below_size (by repeat (first | (with_reducible first | exact HB.out | apply below_alloc | apply pw_below_drewN | apply below_drew1) | exact HB.out))) : w.heap.size ≤ gb110001)); clear HB; have HB := n0_; have BK110001 := n1_; have GW110001 := n2_; have GE110001 := n3_; clear n0_ n1_ n2_ n3_; clear hb hbox hg; have hcz14_0 : w13.cell? ⟨gb110001, 0, none⟩ = some (.int .i64 a0_0) := (blk_cell BK110001.out 0).trans rfl; have hcz14_1 : w13.cell? ⟨gb110001, 1, none⟩ = some (.bool a0_1) := (blk_cell BK110001.out 1).trans rfl; have hcz14_2 : w13.cell? ⟨gb110001, 2, none⟩ = some (.slice A0_2 l0_2.length c0_2) := (blk_cell BK110001.out 2).trans rfl; have hcz14_3 : w13.cell? ⟨gb110001, 3, none⟩ = some (.int .i64 a0_3) := (blk_cell BK110001.out 3).trans rfl; have hcz14_4 : w13.cell? ⟨gb110001, 4, none⟩ = some (.slice A0_4 l0_4.length c0_4) := (blk_cell BK110001.out 4).trans rfl; have hcz14_5 : w13.cell? ⟨gb110001, 5, none⟩ = some (.slice A0_5 l0_5.length c0_5) := (blk_cell BK110001.out 5).trans rfl; have hfz14_0 := blk_frozen BK110001.out 0; have hfz14_1 := blk_frozen BK110001.out 1; have hfz14_2 := blk_frozen BK110001.out 2; have hfz14_3 := blk_frozen BK110001.out 3; have hfz14_4 := blk_frozen BK110001.out 4; have hfz14_5 := blk_frozen BK110001.out 5) | ((with_reducible refine gate_callee (f := 31) rfl ?_); refine goesL_ (some 8) rfl rfl Try.func31 (by kernel_rfl) rfl #[.slice A0_2 l0_2.length c0_2, .int .i64 a1] rfl (by (try simp only [List.map_toArray, List.map_cons, List.map_nil]); first | done | rfl | (simp only [List.length_drop, List.length_take]; rfl)) ?_; (with_reducible refine (laws_heldRecS.calls k _ _ l0_2 a1 t110002 _ ?side1 ?side2 A3.out).mono ?_); (case side1 => repeat (first | exact (Kd.C_below HR0_2.out HB.out) | (with_reducible refine Kd.C_alloc ?_ _) | (with_reducible refine Kd.C_drewN ?_ _) | (with_reducible refine Kd.C_drew ?_))); (case side2 => exact HC0_2.out); rintro e w' ⟨rfl, ⟨nd, rfl⟩⟩; refine ⟨_, rfl, ?_⟩) | ((with_reducible refine gate_callee (f := 32) rfl ?_); refine goesL_ (some 14) rfl rfl Try.func32 (by kernel_rfl) rfl #[.slice A0_4 l0_4.length c0_4, .int .i64 t110002] rfl (by (try simp only [List.map_toArray, List.map_cons, List.map_nil]); first | done | rfl | (simp only [List.length_drop, List.length_take]; rfl)) ?_; (with_reducible refine (laws_heldLockS.calls k _ _ l0_4 t110002 t110003 _ ?side1 ?side2 A7.out).mono ?_); (case side1 => repeat (first | exact (Kd.C_below HR0_4.out (by repeat (first | (with_reducible first | exact HB.out | apply below_alloc | apply pw_below_drewN | apply below_drew1 | refine below_set ?_ GE110001.out) | exact HB.out))) | (with_reducible refine Kd.C_alloc ?_ _) | (with_reducible refine Kd.C_drewN ?_ _) | (with_reducible refine Kd.C_drew ?_))); (case side2 => exact HC0_4.out); rintro e w' ⟨rfl, ⟨nd, rfl⟩⟩; refine ⟨_, rfl, ?_⟩) | ((with_reducible refine gate_callee (f := 33) rfl ?_); refine goesL_ (some 20) rfl rfl Try.func33 (by kernel_rfl) rfl #[.slice A0_5 l0_5.length c0_5, .int .i64 t110003] rfl (by (try simp only [List.map_toArray, List.map_cons, List.map_nil]); first | done | rfl | (simp only [List.length_drop, List.length_take]; rfl)) ?_; (with_reducible refine (laws_heldWorkS.calls k _ _ l0_5 t110003 t110004 _ ?side1 ?side2 A11.out).mono ?_); (case side1 => repeat (first | exact (Kd.C_below HR0_5.out (by repeat (first | (with_reducible first | exact HB.out | apply below_alloc | apply pw_below_drewN | apply below_drew1 | refine below_set ?_ GE110001.out) | exact HB.out))) | (with_reducible refine Kd.C_alloc ?_ _) | (with_reducible refine Kd.C_drewN ?_ _) | (with_reducible refine Kd.C_drew ?_))); (case side2 => exact HC0_5.out); rintro e w' ⟨rfl, ⟨nd, rfl⟩⟩; refine ⟨_, rfl, ?_⟩))
    go_ret
    exact ⟨by first | rfl | (simp [errW_none, errW_some] <;> rfl) | (simp [*, errW_none, errW_some] <;> rfl), by repeat (first | (with_reducible first | exact HB.out | apply below_alloc | apply pw_below_drewN | apply below_drew1 | refine below_set ?_ GE110001.out) | exact HB.out)⟩
   ·rw [if_neg c12] at H
    have c12b0 : decide (t110004 < 0) = false := decide_eq_false c12
    clear c12
    obtain rfl := Option.some.inj H
    go_enter Try.func10, Try.ntmps10
    go_wp2_with (first | ((with_reducible refine gate_dst (N := 2) rfl ?_); refine box_event ?hg (N := 2) ?hd (cs := #[.int .i64 a0_0, .bool a0_1, .slice A0_2 l0_2.length c0_2, .int .i64 a0_3, .slice A0_4 l0_4.length c0_4, .slice A0_5 l0_5.length c0_5]) (t := 26) ?hr ?_; (case hd => rfl); (case hg => rfl); (case hr => first | (go_simp; done) | (go_simp; rfl)); intro gb110001 hg w15 hbox hb; have n0_ := Aside0.mk (below_step (by repeat (first | (with_reducible first | exact HB.out | apply below_alloc | apply pw_below_drewN | apply below_drew1) | exact HB.out)) hb); have n1_ := Aside0.mk (hbox); have n2_ := Aside0.mk ((by rw [hg]; exact (below_size (by repeat (first | (with_reducible first | exact HB.out | apply below_alloc | apply pw_below_drewN | apply below_drew1) | exact HB.out))) : w.heap.size ≤ gb110001)); have n3_ := Aside0.mk ((by rw [hg]; exact (below_size (by repeat (first | (with_reducible first | exact HB.out | apply below_alloc | apply pw_below_drewN | apply below_drew1) | exact HB.out))) : w.heap.size ≤ gb110001)); clear HB; have HB := n0_; have BK110001 := n1_; have GW110001 := n2_; have GE110001 := n3_; clear n0_ n1_ n2_ n3_; clear hb hbox hg; have hcz16_0 : w15.cell? ⟨gb110001, 0, none⟩ = some (.int .i64 a0_0) := (blk_cell BK110001.out 0).trans rfl; have hcz16_1 : w15.cell? ⟨gb110001, 1, none⟩ = some (.bool a0_1) := (blk_cell BK110001.out 1).trans rfl; have hcz16_2 : w15.cell? ⟨gb110001, 2, none⟩ = some (.slice A0_2 l0_2.length c0_2) := (blk_cell BK110001.out 2).trans rfl; have hcz16_3 : w15.cell? ⟨gb110001, 3, none⟩ = some (.int .i64 a0_3) := (blk_cell BK110001.out 3).trans rfl; have hcz16_4 : w15.cell? ⟨gb110001, 4, none⟩ = some (.slice A0_4 l0_4.length c0_4) := (blk_cell BK110001.out 4).trans rfl; have hcz16_5 : w15.cell? ⟨gb110001, 5, none⟩ = some (.slice A0_5 l0_5.length c0_5) := (blk_cell BK110001.out 5).trans rfl; have hfz16_0 := blk_frozen BK110001.out 0; have hfz16_1 := blk_frozen BK110001.out 1; have hfz16_2 := blk_frozen BK110001.out 2; have hfz16_3 := blk_frozen BK110001.out 3; have hfz16_4 := blk_frozen BK110001.out 4; have hfz16_5 := blk_frozen BK110001.out 5) | ((with_reducible refine gate_callee (f := 31) rfl ?_); refine goesL_ (some 8) rfl rfl Try.func31 (by kernel_rfl) rfl #[.slice A0_2 l0_2.length c0_2, .int .i64 a1] rfl (by (try simp only [List.map_toArray, List.map_cons, List.map_nil]); first | done | rfl | (simp only [List.length_drop, List.length_take]; rfl)) ?_; (with_reducible refine (laws_heldRecS.calls k _ _ l0_2 a1 t110002 _ ?side1 ?side2 A3.out).mono ?_); (case side1 => repeat (first | exact (Kd.C_below HR0_2.out HB.out) | (with_reducible refine Kd.C_alloc ?_ _) | (with_reducible refine Kd.C_drewN ?_ _) | (with_reducible refine Kd.C_drew ?_))); (case side2 => exact HC0_2.out); rintro e w' ⟨rfl, ⟨nd, rfl⟩⟩; refine ⟨_, rfl, ?_⟩) | ((with_reducible refine gate_callee (f := 32) rfl ?_); refine goesL_ (some 14) rfl rfl Try.func32 (by kernel_rfl) rfl #[.slice A0_4 l0_4.length c0_4, .int .i64 t110002] rfl (by (try simp only [List.map_toArray, List.map_cons, List.map_nil]); first | done | rfl | (simp only [List.length_drop, List.length_take]; rfl)) ?_; (with_reducible refine (laws_heldLockS.calls k _ _ l0_4 t110002 t110003 _ ?side1 ?side2 A7.out).mono ?_); (case side1 => repeat (first | exact (Kd.C_below HR0_4.out (by repeat (first | (with_reducible first | exact HB.out | apply below_alloc | apply pw_below_drewN | apply below_drew1 | refine below_set ?_ GE110001.out) | exact HB.out))) | (with_reducible refine Kd.C_alloc ?_ _) | (with_reducible refine Kd.C_drewN ?_ _) | (with_reducible refine Kd.C_drew ?_))); (case side2 => exact HC0_4.out); rintro e w' ⟨rfl, ⟨nd, rfl⟩⟩; refine ⟨_, rfl, ?_⟩) | ((with_reducible refine gate_callee (f := 33) rfl ?_); refine goesL_ (some 20) rfl rfl Try.func33 (by kernel_rfl) rfl #[.slice A0_5 l0_5.length c0_5, .int .i64 t110003] rfl (by (try simp only [List.map_toArray, List.map_cons, List.map_nil]); first | done | rfl | (simp only [List.length_drop, List.length_take]; rfl)) ?_; (with_reducible refine (laws_heldWorkS.calls k _ _ l0_5 t110003 t110004 _ ?side1 ?side2 A11.out).mono ?_); (case side1 => repeat (first | exact (Kd.C_below HR0_5.out (by repeat (first | (with_reducible first | exact HB.out | apply below_alloc | apply pw_below_drewN | apply below_drew1 | refine below_set ?_ GE110001.out) | exact HB.out))) | (with_reducible refine Kd.C_alloc ?_ _) | (with_reducible refine Kd.C_drewN ?_ _) | (with_reducible refine Kd.C_drew ?_))); (case side2 => exact HC0_5.out); rintro e w' ⟨rfl, ⟨nd, rfl⟩⟩; refine ⟨_, rfl, ?_⟩))
    go_ret
    exact ⟨by first | rfl | (simp [errW_none, errW_some] <;> rfl) | (simp [*, errW_none, errW_some] <;> rfl), by repeat (first | (with_reducible first | exact HB.out | apply below_alloc | apply pw_below_drewN | apply below_drew1 | refine below_set ?_ GE110001.out) | exact HB.out)⟩


def spec_GateStart.f  : Option (Bool × Int × Int × (List (S94)) × (List (S98)) × (List (S101))) := some (true, 1, 1, ([] : List (S94)), ([] : List (S98)), ([] : List (S101)))
set_option maxHeartbeats 8000000 in
set_option maxRecDepth 100000 in
theorem spec_GateStart.calls  (r1 : Bool) (r2 : Int) (r3 : Int) (r4 : List (S94)) (r5 : List (S98)) (r6 : List (S101)) (w : World) (h : spec_GateStart.f  = some (r1, r2, r3, r4, r5, r6)) :
 Calls Try.prog 16 #[] w fun e w' => ∃ v3_ v4_ v5_ : Value, e = .returned (.agg #[.bool r1, .int .i64 r2, .int .i64 r3, v3_, v4_, v5_]) ∧ Kd.S k94 94 w' w.heap.size (fun _ => True) v3_ r4 ∧ Kd.R k98 98 w' w.heap.size (fun _ => True) v4_ r5 ∧ Kd.R k101 101 w' w.heap.size (fun _ => True) v5_ r6 ∧ Below w.heap.size w w' := by
 have hu35 := Try.underlying35
 have HB := Aside0.mk (Below.refl w.heap.size w)
 have H : (some (true, 1, 1, ([] : List (S94)), ([] : List (S98)), ([] : List (S101)))) = some (r1, r2, r3, r4, r5, r6) := h
 clear h
 simp only [Option.some.injEq, Prod.mk.injEq] at H
 obtain ⟨rfl, rfl, rfl, rfl, rfl, rfl⟩ := H
 go_enter Try.func16, Try.ntmps16
 go_wp2_with (first | ((with_reducible refine gate_dst (N := 0) rfl ?_); refine box_event ?hg (N := 0) ?hd (cs := #[.bool false, .int .i64 0, .int .i64 0, .slice none 0 0, .slice none 0 0, .slice none 0 0]) (t := 35) ?hr ?_; (case hd => rfl); (case hg => rfl); (case hr => first | (go_simp; done) | (go_simp; rfl)); intro gb170001 hg w1 hbox hb; have n0_ := Aside0.mk (below_step (by repeat (first | (with_reducible first | exact HB.out | apply below_alloc | apply pw_below_drewN | apply below_drew1) | exact HB.out)) hb); have n1_ := Aside0.mk (hbox); have n2_ := Aside0.mk ((by rw [hg]; exact (below_size (by repeat (first | (with_reducible first | exact HB.out | apply below_alloc | apply pw_below_drewN | apply below_drew1) | exact HB.out))) : w.heap.size ≤ gb170001)); have n3_ := Aside0.mk ((by rw [hg]; exact (below_size (by repeat (first | (with_reducible first | exact HB.out | apply below_alloc | apply pw_below_drewN | apply below_drew1) | exact HB.out))) : w.heap.size ≤ gb170001)); clear HB; have HB := n0_; have BK170001 := n1_; have GW170001 := n2_; have GE170001 := n3_; clear n0_ n1_ n2_ n3_; clear hb hbox hg; have hcz2_0 : w1.cell? ⟨gb170001, 0, none⟩ = some (.bool false) := (blk_cell BK170001.out 0).trans rfl; have hcz2_1 : w1.cell? ⟨gb170001, 1, none⟩ = some (.int .i64 0) := (blk_cell BK170001.out 1).trans rfl; have hcz2_2 : w1.cell? ⟨gb170001, 2, none⟩ = some (.int .i64 0) := (blk_cell BK170001.out 2).trans rfl; have hcz2_3 : w1.cell? ⟨gb170001, 3, none⟩ = some (.slice none 0 0) := (blk_cell BK170001.out 3).trans rfl; have hcz2_4 : w1.cell? ⟨gb170001, 4, none⟩ = some (.slice none 0 0) := (blk_cell BK170001.out 4).trans rfl; have hcz2_5 : w1.cell? ⟨gb170001, 5, none⟩ = some (.slice none 0 0) := (blk_cell BK170001.out 5).trans rfl; have hfz2_0 := blk_frozen BK170001.out 0; have hfz2_1 := blk_frozen BK170001.out 1; have hfz2_2 := blk_frozen BK170001.out 2; have hfz2_3 := blk_frozen BK170001.out 3; have hfz2_4 := blk_frozen BK170001.out 4; have hfz2_5 := blk_frozen BK170001.out 5))
 refine bodyPost_ret (results_cell_row rfl _ _ gb170001 35 #[.bool true, .int .i64 1, .int .i64 1, .slice none 0 0, .slice none 0 0, .slice none 0 0] (0, 0) _ rfl (by (with_reducible repeat (first | refine blk_drewN ?_ _ | refine blk_drew ?_ | refine blk_alloc ?_ _)); refine blk_put (cs := #[.bool true, .int .i64 1, .int .i64 1, .slice none 0 0, .slice none 0 0, .slice none 0 0]) ?_ 5 _ rfl; (with_reducible repeat (first | refine blk_drewN ?_ _ | refine blk_drew ?_ | refine blk_alloc ?_ _)); refine blk_put (cs := #[.bool true, .int .i64 1, .int .i64 1, .slice none 0 0, .slice none 0 0, .slice none 0 0]) ?_ 4 _ rfl; (with_reducible repeat (first | refine blk_drewN ?_ _ | refine blk_drew ?_ | refine blk_alloc ?_ _)); refine blk_put (cs := #[.bool true, .int .i64 1, .int .i64 1, .slice none 0 0, .slice none 0 0, .slice none 0 0]) ?_ 3 _ rfl; (with_reducible repeat (first | refine blk_drewN ?_ _ | refine blk_drew ?_ | refine blk_alloc ?_ _)); refine blk_put (cs := #[.bool true, .int .i64 1, .int .i64 0, .slice none 0 0, .slice none 0 0, .slice none 0 0]) ?_ 2 _ rfl; (with_reducible repeat (first | refine blk_drewN ?_ _ | refine blk_drew ?_ | refine blk_alloc ?_ _)); refine blk_put (cs := #[.bool true, .int .i64 0, .int .i64 0, .slice none 0 0, .slice none 0 0, .slice none 0 0]) ?_ 1 _ rfl; (with_reducible repeat (first | refine blk_drewN ?_ _ | refine blk_drew ?_ | refine blk_alloc ?_ _)); refine blk_put (cs := #[.bool false, .int .i64 0, .int .i64 0, .slice none 0 0, .slice none 0 0, .slice none 0 0]) ?_ 0 _ rfl; (with_reducible repeat (first | refine blk_drewN ?_ _ | refine blk_drew ?_ | refine blk_alloc ?_ _)); exact BK170001.out) Try.underlying35 rfl (by kernel_rfl)) rfl ?_
 exact ⟨_, _, _, by first | rfl | (simp [errW_none, errW_some] <;> rfl) | (simp [*, errW_none, errW_some] <;> rfl), by first | exact Kd.S_nil _ _ _ _ _ | exact Kd.N_nil _ _ _ _ _ | exact Kd.V_nil _ _ _ _ _ | exact Kd.Q_nil _ _ _ _ _ | exact Kd.R_nil _ _ _ _ _, by first | exact Kd.R_nil _ _ _ _ _ | exact Kd.N_nil _ _ _ _ _ | exact Kd.V_nil _ _ _ _ _ | exact Kd.Q_nil _ _ _ _ _ | exact Kd.S_nil _ _ _ _ _, by first | exact Kd.R_nil _ _ _ _ _ | exact Kd.N_nil _ _ _ _ _ | exact Kd.V_nil _ _ _ _ _ | exact Kd.Q_nil _ _ _ _ _ | exact Kd.S_nil _ _ _ _ _, by repeat (first | (with_reducible first | exact HB.out | apply below_alloc | apply pw_below_drewN | apply below_drew1 | refine below_set ?_ GE170001.out) | exact HB.out)⟩

end Go.Proofs.Ythahadclegihaaa.PX
