import Derived.Test.YthahadclegihaaaPXx0
namespace Go.Proofs.Ythahadclegihaaa.PX
open Go.RowKit Go.Proofs.YthahadclegihaaaW.PrintWords Go.Proofs.YthahadclegihaaaW.PrintLast Go.Proofs.YthahadclegihaaaW.PrintMore
attribute [local go_sem] max2_int min2_int max_two min_two max_three min_three max_four min_four
set_option linter.unusedVariables false
set_option linter.unusedSimpArgs false

def laws_heldHoldS.l0 : Nat → List (S109) → Int → Int → Option (Int)
 | 0, _, _, _ => none
 | k + 1, x0, x1, x5 => if x5 < (x0.length : Int) then (if 0 ≤ x5 then (if ((rd_T109 x0 x5).f0) = x1 then (if ((rd_T109 x0 x5).f1) = (wrap64 (x1 + 1)) then (if (((rd_T109 x0 x5).f2) != ((Int.tmod (wrap64 ((wrap64 (x1 + 1)) + 1)) 3) == 0)) = true then (some (-1)) else (if (((rd_T109 x0 x5).f3) != ((Int.tmod (wrap64 ((wrap64 ((wrap64 (x1 + 1)) + 1)) + 1)) 3) == 0)) = true then (some (-1)) else (laws_heldHoldS.l0 k x0 (wrap64 ((wrap64 ((wrap64 ((wrap64 (x1 + 1)) + 1)) + 1)) + 1)) (wrap64 (x5 + 1))))) else (some (-1))) else (some (-1))) else (none)) else (some x1)
def laws_heldHoldS.f (k : Nat) (l0 : List (S109)) (a1 : Int) : Option (Int) := laws_heldHoldS.l0 k l0 a1 0
theorem laws_heldHoldS.mono_l : ∀ k, (∀ y0 y1 y2, LeO (laws_heldHoldS.l0 k y0 y1 y2) (laws_heldHoldS.l0 (k + 1) y0 y1 y2))
 | 0 => fun _ _ _ r h => by simp [laws_heldHoldS.l0] at h
 | k + 1 => by
  have ih0 := laws_heldHoldS.mono_l k
  ·intro y0 y1 y2
   unfold laws_heldHoldS.l0
   repeat' first
   | (with_reducible exact ih0 _ _ _)
   | (with_reducible exact LeO.refl _)
   | (with_reducible exact LeO.none _)
   | (with_reducible refine LeO.ite ?_ ?_)
   | (with_reducible refine LeO.bind ?_ (fun _ => ?_))
   | exact ih0 _ _ _
   | exact LeO.none _
   | refine LeO.ite ?_ ?_
   | refine LeO.bind ?_ (fun _ => ?_)
theorem laws_heldHoldS.mono : ∀ a0 a1 k, LeO (laws_heldHoldS.f k a0 a1) (laws_heldHoldS.f (k + 1) a0 a1) := by
 intro a0 a1 k
 have ih0 := laws_heldHoldS.mono_l k
 unfold laws_heldHoldS.f
 repeat' first
  | (with_reducible exact ih0 _ _ _)
  | (with_reducible exact LeO.refl _)
  | (with_reducible exact LeO.none _)
  | (with_reducible refine LeO.ite ?_ ?_)
  | (with_reducible refine LeO.bind ?_ (fun _ => ?_))
  | exact ih0 _ _ _
  | exact LeO.none _
  | refine LeO.ite ?_ ?_
  | refine LeO.bind ?_ (fun _ => ?_)
set_option maxHeartbeats 8000000 in
set_option maxRecDepth 100000 in
theorem laws_heldHoldS.calls (k : Nat) (A0 : Option Addr) (c0 : Nat) (l0 : List (S109)) (a1 : Int) (r : Int) (w : World) (hr0 : Kd.C k109 w A0 l0.length l0) (hc0 : l0.length ≤ c0) (h : laws_heldHoldS.f k l0 a1 = some r) :
 Calls Try.prog 62 #[.slice A0 l0.length c0, .int .i64 a1] w fun e w' => e = .returned (.int .i64 r) ∧ Drawn0 w w' := by
 have HR0 := Aside0.mk hr0
 have HC0 := Aside0.mk hc0
 clear hr0 hc0
 have H : (laws_heldHoldS.l0 k l0 a1 0) = some r := h
 clear h
 have H' := Aside0.mk H
 clear H
 go_enter Try.func62, Try.ntmps62
 go_wp2
 go_loopg [1, 5] k (fun kq v1 v5 w' => ∃ (x1_1 : Int) (x5_1 : Int), v1 = .int .i64 x1_1 ∧ v5 = .int .i64 x5_1 ∧ Aside0 (laws_heldHoldS.l0 kq l0 x1_1 x5_1 = some r) ∧ Aside0 (kq ≤ k) ∧ Drawn0 w w')
 case atStart => exact ⟨(a1), (0), (by first | rfl | (simp; done) | (simp [*]; done)), (by first | rfl | (simp; done) | (simp [*]; done)), H', ⟨Nat.le_refl _⟩, by repeat (first | exact Drawn0.refl _ | apply Drawn0.step)⟩
 case round =>
  clear H'
  try clear p2
  obtain ⟨x1_1, x5_1, rfl, rfl, HA, HK1, ⟨m1, rfl⟩⟩ := hrel
  cases gk with
  | zero => exact absurd HA.out (by simp [laws_heldHoldS.l0])
  | succ k1 =>
   have H := HA.out
   clear HA
   simp only [laws_heldHoldS.l0] at H
   by_cases c3 : x5_1 < (l0.length : Int)
   ·rw [if_pos c3] at H
    have c3b0 : decide (x5_1 < (l0.length : Int)) = true := decide_eq_true c3
    clear c3
    by_cases c4 : 0 ≤ x5_1
    ·rw [if_pos c4] at H
     have c4b0 : decide (0 ≤ x5_1) = true := decide_eq_true c4
     clear c4
     by_cases c5 : ((rd_T109 l0 x5_1).f0) = x1_1
     ·rw [if_pos c5] at H
      have c5b0 : (((rd_T109 l0 x5_1).f0) == x1_1) = true := beq_iff_eq.mpr c5
      have c5b1 : (((rd_T109 l0 x5_1).f0) != x1_1) = false := bne_eq_false_iff_eq.mpr c5
      clear c5
      by_cases c6 : ((rd_T109 l0 x5_1).f1) = (wrap64 (x1_1 + 1))
      ·rw [if_pos c6] at H
       have c6b0 : (((rd_T109 l0 x5_1).f1) == (wrap64 (x1_1 + 1))) = true := beq_iff_eq.mpr c6
       have c6b1 : (((rd_T109 l0 x5_1).f1) != (wrap64 (x1_1 + 1))) = false := bne_eq_false_iff_eq.mpr c6
       clear c6
       by_cases c7 : (((rd_T109 l0 x5_1).f2) != ((Int.tmod (wrap64 ((wrap64 (x1_1 + 1)) + 1)) 3) == 0)) = true
       ·rw [if_pos c7] at H
        have c7b0 : (((rd_T109 l0 x5_1).f2) != ((Int.tmod (wrap64 ((wrap64 (x1_1 + 1)) + 1)) 3) == 0)) = true := c7
        (try (have c7b1 : decide (((rd_T109 l0 x5_1).f2) = ((Int.tmod (wrap64 ((wrap64 (x1_1 + 1)) + 1)) 3) == 0)) = false := by simpa using c7))
        (try (have c7b2 : (((rd_T109 l0 x5_1).f2) == ((Int.tmod (wrap64 ((wrap64 (x1_1 + 1)) + 1)) 3) == 0)) = false := by simpa using c7))
        (try (have c7b3 : ¬ (((rd_T109 l0 x5_1).f2) = ((Int.tmod (wrap64 ((wrap64 (x1_1 + 1)) + 1)) 3) == 0)) := by simpa using c7))
        clear c7
        obtain rfl := Option.some.inj H
        have p630001 : 0 ≤ (x5_1 : Int) := of_decide_eq_true (by first | (with_reducible assumption) | assumption)
        have q630001 : x5_1 < (l0.length : Int) := of_decide_eq_true (by first | (with_reducible assumption) | assumption)
        obtain ⟨ad630001, e630001, hx630001_0, hx630001_1, hx630001_2, hx630001_3⟩ := at_T109 HR0.out x5_1 p630001 q630001
        cases e630001
        replace p630001 := eq_true p630001
        replace q630001 := eq_true q630001
        have p630002 : 0 ≤ (x5_1 : Int) := of_decide_eq_true (by first | (with_reducible assumption) | assumption)
        have q630002 : x5_1 < (l0.length : Int) := of_decide_eq_true (by first | (with_reducible assumption) | assumption)
        obtain ⟨ad630002, e630002, hx630002_0, hx630002_1, hx630002_2, hx630002_3⟩ := at_T109 HR0.out x5_1 p630002 q630002
        obtain rfl : ad630001 = ad630002 := (by injection e630002)
        replace p630002 := eq_true p630002
        replace q630002 := eq_true q630002
        have p630003 : 0 ≤ (x5_1 : Int) := of_decide_eq_true (by first | (with_reducible assumption) | assumption)
        have q630003 : x5_1 < (l0.length : Int) := of_decide_eq_true (by first | (with_reducible assumption) | assumption)
        obtain ⟨ad630003, e630003, hx630003_0, hx630003_1, hx630003_2, hx630003_3⟩ := at_T109 HR0.out x5_1 p630003 q630003
        obtain rfl : ad630001 = ad630003 := (by injection e630003)
        replace p630003 := eq_true p630003
        replace q630003 := eq_true q630003
        go_wp2
        go_ret
        exact ⟨by first | rfl | (simp; done) | (simp [*]; done), by repeat (first | exact Drawn0.refl _ | apply Drawn0.step)⟩
       ·rw [if_neg c7] at H
        have c7b0 : (((rd_T109 l0 x5_1).f2) != ((Int.tmod (wrap64 ((wrap64 (x1_1 + 1)) + 1)) 3) == 0)) = false := by simpa using c7
        (try (have c7b1 : decide (((rd_T109 l0 x5_1).f2) = ((Int.tmod (wrap64 ((wrap64 (x1_1 + 1)) + 1)) 3) == 0)) = true := by simpa using c7))
        (try (have c7b2 : (((rd_T109 l0 x5_1).f2) == ((Int.tmod (wrap64 ((wrap64 (x1_1 + 1)) + 1)) 3) == 0)) = true := by simpa using c7))
        clear c7
        by_cases c8 : (((rd_T109 l0 x5_1).f3) != ((Int.tmod (wrap64 ((wrap64 ((wrap64 (x1_1 + 1)) + 1)) + 1)) 3) == 0)) = true
        ·rw [if_pos c8] at H
         have c8b0 : (((rd_T109 l0 x5_1).f3) != ((Int.tmod (wrap64 ((wrap64 ((wrap64 (x1_1 + 1)) + 1)) + 1)) 3) == 0)) = true := c8
         (try (have c8b1 : decide (((rd_T109 l0 x5_1).f3) = ((Int.tmod (wrap64 ((wrap64 ((wrap64 (x1_1 + 1)) + 1)) + 1)) 3) == 0)) = false := by simpa using c8))
         (try (have c8b2 : (((rd_T109 l0 x5_1).f3) == ((Int.tmod (wrap64 ((wrap64 ((wrap64 (x1_1 + 1)) + 1)) + 1)) 3) == 0)) = false := by simpa using c8))
         (try (have c8b3 : ¬ (((rd_T109 l0 x5_1).f3) = ((Int.tmod (wrap64 ((wrap64 ((wrap64 (x1_1 + 1)) + 1)) + 1)) 3) == 0)) := by simpa using c8))
         clear c8
         obtain rfl := Option.some.inj H
         have p630001 : 0 ≤ (x5_1 : Int) := of_decide_eq_true (by first | (with_reducible assumption) | assumption)
         have q630001 : x5_1 < (l0.length : Int) := of_decide_eq_true (by first | (with_reducible assumption) | assumption)
         obtain ⟨ad630001, e630001, hx630001_0, hx630001_1, hx630001_2, hx630001_3⟩ := at_T109 HR0.out x5_1 p630001 q630001
         cases e630001
         replace p630001 := eq_true p630001
         replace q630001 := eq_true q630001
         have p630002 : 0 ≤ (x5_1 : Int) := of_decide_eq_true (by first | (with_reducible assumption) | assumption)
         have q630002 : x5_1 < (l0.length : Int) := of_decide_eq_true (by first | (with_reducible assumption) | assumption)
         obtain ⟨ad630002, e630002, hx630002_0, hx630002_1, hx630002_2, hx630002_3⟩ := at_T109 HR0.out x5_1 p630002 q630002
         obtain rfl : ad630001 = ad630002 := (by injection e630002)
         replace p630002 := eq_true p630002
         replace q630002 := eq_true q630002
         have p630003 : 0 ≤ (x5_1 : Int) := of_decide_eq_true (by first | (with_reducible assumption) | assumption)
         have q630003 : x5_1 < (l0.length : Int) := of_decide_eq_true (by first | (with_reducible assumption) | assumption)
         obtain ⟨ad630003, e630003, hx630003_0, hx630003_1, hx630003_2, hx630003_3⟩ := at_T109 HR0.out x5_1 p630003 q630003
         obtain rfl : ad630001 = ad630003 := (by injection e630003)
         replace p630003 := eq_true p630003
         replace q630003 := eq_true q630003
         have p630004 : 0 ≤ (x5_1 : Int) := of_decide_eq_true (by first | (with_reducible assumption) | assumption)
         have q630004 : x5_1 < (l0.length : Int) := of_decide_eq_true (by first | (with_reducible assumption) | assumption)
         obtain ⟨ad630004, e630004, hx630004_0, hx630004_1, hx630004_2, hx630004_3⟩ := at_T109 HR0.out x5_1 p630004 q630004
         obtain rfl : ad630001 = ad630004 := (by injection e630004)
         replace p630004 := eq_true p630004
         replace q630004 := eq_true q630004
         go_wp2
         go_ret
         exact ⟨by first | rfl | (simp; done) | (simp [*]; done), by repeat (first | exact Drawn0.refl _ | apply Drawn0.step)⟩
        ·rw [if_neg c8] at H
         have c8b0 : (((rd_T109 l0 x5_1).f3) != ((Int.tmod (wrap64 ((wrap64 ((wrap64 (x1_1 + 1)) + 1)) + 1)) 3) == 0)) = false := by simpa using c8
         (try (have c8b1 : decide (((rd_T109 l0 x5_1).f3) = ((Int.tmod (wrap64 ((wrap64 ((wrap64 (x1_1 + 1)) + 1)) + 1)) 3) == 0)) = true := by simpa using c8))
         (try (have c8b2 : (((rd_T109 l0 x5_1).f3) == ((Int.tmod (wrap64 ((wrap64 ((wrap64 (x1_1 + 1)) + 1)) + 1)) 3) == 0)) = true := by simpa using c8))
         clear c8
         have H' := Aside0.mk H
         clear H
         have p630001 : 0 ≤ (x5_1 : Int) := of_decide_eq_true (by first | (with_reducible assumption) | assumption)
         have q630001 : x5_1 < (l0.length : Int) := of_decide_eq_true (by first | (with_reducible assumption) | assumption)
         obtain ⟨ad630001, e630001, hx630001_0, hx630001_1, hx630001_2, hx630001_3⟩ := at_T109 HR0.out x5_1 p630001 q630001
         cases e630001
         replace p630001 := eq_true p630001
         replace q630001 := eq_true q630001
         have p630002 : 0 ≤ (x5_1 : Int) := of_decide_eq_true (by first | (with_reducible assumption) | assumption)
         have q630002 : x5_1 < (l0.length : Int) := of_decide_eq_true (by first | (with_reducible assumption) | assumption)
         obtain ⟨ad630002, e630002, hx630002_0, hx630002_1, hx630002_2, hx630002_3⟩ := at_T109 HR0.out x5_1 p630002 q630002
         obtain rfl : ad630001 = ad630002 := (by injection e630002)
         replace p630002 := eq_true p630002
         replace q630002 := eq_true q630002
         have p630003 : 0 ≤ (x5_1 : Int) := of_decide_eq_true (by first | (with_reducible assumption) | assumption)
         have q630003 : x5_1 < (l0.length : Int) := of_decide_eq_true (by first | (with_reducible assumption) | assumption)
         obtain ⟨ad630003, e630003, hx630003_0, hx630003_1, hx630003_2, hx630003_3⟩ := at_T109 HR0.out x5_1 p630003 q630003
         obtain rfl : ad630001 = ad630003 := (by injection e630003)
         replace p630003 := eq_true p630003
         replace q630003 := eq_true q630003
         have p630004 : 0 ≤ (x5_1 : Int) := of_decide_eq_true (by first | (with_reducible assumption) | assumption)
         have q630004 : x5_1 < (l0.length : Int) := of_decide_eq_true (by first | (with_reducible assumption) | assumption)
         obtain ⟨ad630004, e630004, hx630004_0, hx630004_1, hx630004_2, hx630004_3⟩ := at_T109 HR0.out x5_1 p630004 q630004
         obtain rfl : ad630001 = ad630004 := (by injection e630004)
         replace p630004 := eq_true p630004
         replace q630004 := eq_true q630004
         go_wp2
         go_roundg k1
         case measure => have := HK1.out; omega
         case rel => exact ⟨(wrap64 ((wrap64 ((wrap64 ((wrap64 (x1_1 + 1)) + 1)) + 1)) + 1)), (wrap64 (x5_1 + 1)), (by first | rfl | (simp; done) | (simp [*]; done)), (by first | rfl | (simp; done) | (simp [*]; done)), H', ⟨by have := HK1.out; omega⟩, by repeat (first | exact Drawn0.refl _ | apply Drawn0.step)⟩
      ·rw [if_neg c6] at H
       have c6b0 : (((rd_T109 l0 x5_1).f1) == (wrap64 (x1_1 + 1))) = false := beq_eq_false_iff_ne.mpr c6
       have c6b1 : (((rd_T109 l0 x5_1).f1) != (wrap64 (x1_1 + 1))) = true := bne_iff_ne.mpr c6
       obtain rfl := Option.some.inj H
       have p630001 : 0 ≤ (x5_1 : Int) := of_decide_eq_true (by first | (with_reducible assumption) | assumption)
       have q630001 : x5_1 < (l0.length : Int) := of_decide_eq_true (by first | (with_reducible assumption) | assumption)
       obtain ⟨ad630001, e630001, hx630001_0, hx630001_1, hx630001_2, hx630001_3⟩ := at_T109 HR0.out x5_1 p630001 q630001
       cases e630001
       replace p630001 := eq_true p630001
       replace q630001 := eq_true q630001
       have p630002 : 0 ≤ (x5_1 : Int) := of_decide_eq_true (by first | (with_reducible assumption) | assumption)
       have q630002 : x5_1 < (l0.length : Int) := of_decide_eq_true (by first | (with_reducible assumption) | assumption)
       obtain ⟨ad630002, e630002, hx630002_0, hx630002_1, hx630002_2, hx630002_3⟩ := at_T109 HR0.out x5_1 p630002 q630002
       obtain rfl : ad630001 = ad630002 := (by injection e630002)
       replace p630002 := eq_true p630002
       replace q630002 := eq_true q630002
       go_wp2
       go_ret
       exact ⟨by first | rfl | (simp; done) | (simp [*]; done), by repeat (first | exact Drawn0.refl _ | apply Drawn0.step)⟩
     ·rw [if_neg c5] at H
      have c5b0 : (((rd_T109 l0 x5_1).f0) == x1_1) = false := beq_eq_false_iff_ne.mpr c5
      have c5b1 : (((rd_T109 l0 x5_1).f0) != x1_1) = true := bne_iff_ne.mpr c5
      obtain rfl := Option.some.inj H
      have p630001 : 0 ≤ (x5_1 : Int) := of_decide_eq_true (by first | (with_reducible assumption) | assumption)
      have q630001 : x5_1 < (l0.length : Int) := of_decide_eq_true (by first | (with_reducible assumption) | assumption)
      obtain ⟨ad630001, e630001, hx630001_0, hx630001_1, hx630001_2, hx630001_3⟩ := at_T109 HR0.out x5_1 p630001 q630001
      cases e630001
      replace p630001 := eq_true p630001
      replace q630001 := eq_true q630001
      go_wp2
      go_ret
      exact ⟨by first | rfl | (simp; done) | (simp [*]; done), by repeat (first | exact Drawn0.refl _ | apply Drawn0.step)⟩
    ·rw [if_neg c4] at H
     exact absurd H (by simp)
   ·rw [if_neg c3] at H
    have c3b0 : decide (x5_1 < (l0.length : Int)) = false := decide_eq_false c3
    clear c3
    obtain rfl := Option.some.inj H
    go_wp2
    go_ret
    exact ⟨by first | rfl | (simp; done) | (simp [*]; done), by repeat (first | exact Drawn0.refl _ | apply Drawn0.step)⟩

def laws_heldLockS.l0 : Nat → List (S70) → Int → Int → Option (Int)
 | 0, _, _, _ => none
 | k + 1, x0, x1, x5 => if x5 < (x0.length : Int) then (if 0 ≤ x5 then (if ((rd_T70 x0 x5).f0) = x1 then ((laws_heldHoldS.f k ((rd_T70 x0 x5).f1) (wrap64 (x1 + 1))).bind fun t330003 => (if t330003 < 0 then (some (-1)) else ((laws_heldHoldS.f k ((rd_T70 x0 x5).f2) t330003).bind fun t330005 => (if t330005 < 0 then (some (-1)) else (laws_heldLockS.l0 k x0 t330005 (wrap64 (x5 + 1))))))) else (some (-1))) else (none)) else (some x1)
def laws_heldLockS.f (k : Nat) (l0 : List (S70)) (a1 : Int) : Option (Int) := laws_heldLockS.l0 k l0 a1 0
theorem laws_heldLockS.mono_l : ∀ k, (∀ y0 y1 y2, LeO (laws_heldLockS.l0 k y0 y1 y2) (laws_heldLockS.l0 (k + 1) y0 y1 y2))
 | 0 => fun _ _ _ r h => by simp [laws_heldLockS.l0] at h
 | k + 1 => by
  have ih0 := laws_heldLockS.mono_l k
  ·intro y0 y1 y2
   unfold laws_heldLockS.l0
   repeat' first
   | (with_reducible exact ih0 _ _ _)
   | (with_reducible exact laws_heldHoldS.mono _ _ _)
   | (with_reducible exact LeO.refl _)
   | (with_reducible exact LeO.none _)
   | (with_reducible refine LeO.ite ?_ ?_)
   | (with_reducible refine LeO.bind ?_ (fun _ => ?_))
   | exact ih0 _ _ _
   | exact laws_heldHoldS.mono _ _ _
   | exact LeO.none _
   | refine LeO.ite ?_ ?_
   | refine LeO.bind ?_ (fun _ => ?_)
theorem laws_heldLockS.mono : ∀ a0 a1 k, LeO (laws_heldLockS.f k a0 a1) (laws_heldLockS.f (k + 1) a0 a1) := by
 intro a0 a1 k
 have ih0 := laws_heldLockS.mono_l k
 unfold laws_heldLockS.f
 repeat' first
  | (with_reducible exact ih0 _ _ _)
  | (with_reducible exact laws_heldHoldS.mono _ _ _)
  | (with_reducible exact LeO.refl _)
  | (with_reducible exact LeO.none _)
  | (with_reducible refine LeO.ite ?_ ?_)
  | (with_reducible refine LeO.bind ?_ (fun _ => ?_))
  | exact ih0 _ _ _
  | exact laws_heldHoldS.mono _ _ _
  | exact LeO.none _
  | refine LeO.ite ?_ ?_
  | refine LeO.bind ?_ (fun _ => ?_)
set_option maxHeartbeats 8000000 in
set_option maxRecDepth 100000 in
theorem laws_heldLockS.calls (k : Nat) (A0 : Option Addr) (c0 : Nat) (l0 : List (S70)) (a1 : Int) (r : Int) (w : World) (hr0 : Kd.C k70 w A0 l0.length l0) (hc0 : l0.length ≤ c0) (h : laws_heldLockS.f k l0 a1 = some r) :
 Calls Try.prog 32 #[.slice A0 l0.length c0, .int .i64 a1] w fun e w' => e = .returned (.int .i64 r) ∧ Drawn0 w w' := by
 have HR0 := Aside0.mk hr0
 have HC0 := Aside0.mk hc0
 clear hr0 hc0
 have H : (laws_heldLockS.l0 k l0 a1 0) = some r := h
 clear h
 have H' := Aside0.mk H
 clear H
 go_enter Try.func32, Try.ntmps32
 go_wp2
 go_loopg [1, 5] k (fun kq v1 v5 w' => ∃ (x1_1 : Int) (x5_1 : Int), v1 = .int .i64 x1_1 ∧ v5 = .int .i64 x5_1 ∧ Aside0 (laws_heldLockS.l0 kq l0 x1_1 x5_1 = some r) ∧ Aside0 (kq ≤ k) ∧ Drawn0 w w')
 case atStart => exact ⟨(a1), (0), (by first | rfl | (simp; done) | (simp [*]; done)), (by first | rfl | (simp; done) | (simp [*]; done)), H', ⟨Nat.le_refl _⟩, by repeat (first | exact Drawn0.refl _ | apply Drawn0.step)⟩
 case round =>
  clear H'
  try clear p2
  obtain ⟨x1_1, x5_1, rfl, rfl, HA, HK1, ⟨m1, rfl⟩⟩ := hrel
  cases gk with
  | zero => exact absurd HA.out (by simp [laws_heldLockS.l0])
  | succ k1 =>
   have H := HA.out
   clear HA
   simp only [laws_heldLockS.l0] at H
   by_cases c3 : x5_1 < (l0.length : Int)
   ·rw [if_pos c3] at H
    have c3b0 : decide (x5_1 < (l0.length : Int)) = true := decide_eq_true c3
    clear c3
    by_cases c4 : 0 ≤ x5_1
    ·rw [if_pos c4] at H
     have c4b0 : decide (0 ≤ x5_1) = true := decide_eq_true c4
     clear c4
     by_cases c5 : ((rd_T70 l0 x5_1).f0) = x1_1
     ·rw [if_pos c5] at H
      have c5b0 : (((rd_T70 l0 x5_1).f0) == x1_1) = true := beq_iff_eq.mpr c5
      have c5b1 : (((rd_T70 l0 x5_1).f0) != x1_1) = false := bne_eq_false_iff_eq.mpr c5
      clear c5
      replace H := Option.bind_eq_some_iff.mp H
      obtain ⟨t330003, A60, H⟩ := H
      replace H : (if t330003 < 0 then (some (-1)) else ((laws_heldHoldS.f k1 ((rd_T70 l0 x5_1).f2) t330003).bind fun t330005 => (if t330005 < 0 then (some (-1)) else (laws_heldLockS.l0 k1 l0 t330005 (wrap64 (x5_1 + 1)))))) = some r := H
      have A6 := Aside0.mk A60
      clear A60
      by_cases c7 : t330003 < 0
      ·rw [if_pos c7] at H
       have c7b0 : decide (t330003 < 0) = true := decide_eq_true c7
       clear c7
       obtain rfl := Option.some.inj H
       have p330001 : 0 ≤ (x5_1 : Int) := of_decide_eq_true (by first | (with_reducible assumption) | assumption)
       have q330001 : x5_1 < (l0.length : Int) := of_decide_eq_true (by first | (with_reducible assumption) | assumption)
       obtain ⟨ad330001, A330001_1, c330001_1, A330001_2, c330001_2, e330001, hx330001_0, hx330001_1, hx330001_2, hl330001_1, hi330001_1, hl330001_2, hi330001_2⟩ := at_T70 HR0.out x5_1 p330001 q330001
       cases e330001
       have HR330001_1 := Aside0.mk hi330001_1
       have HC330001_1 := Aside0.mk hl330001_1
       clear hi330001_1 hl330001_1
       have HR330001_2 := Aside0.mk hi330001_2
       have HC330001_2 := Aside0.mk hl330001_2
       clear hi330001_2 hl330001_2
       replace p330001 := eq_true p330001
       replace q330001 := eq_true q330001
       have p330002 : 0 ≤ (x5_1 : Int) := of_decide_eq_true (by first | (with_reducible assumption) | assumption)
       have q330002 : x5_1 < (l0.length : Int) := of_decide_eq_true (by first | (with_reducible assumption) | assumption)
       obtain ⟨ad330002, A330002_1, c330002_1, A330002_2, c330002_2, e330002, hx330002_0, hx330002_1, hx330002_2, hl330002_1, hi330002_1, hl330002_2, hi330002_2⟩ := at_T70 HR0.out x5_1 p330002 q330002
       obtain rfl : ad330001 = ad330002 := (by injection e330002)
       have HR330002_1 := Aside0.mk hi330002_1
       have HC330002_1 := Aside0.mk hl330002_1
       clear hi330002_1 hl330002_1
       have HR330002_2 := Aside0.mk hi330002_2
       have HC330002_2 := Aside0.mk hl330002_2
       clear hi330002_2 hl330002_2
       replace p330002 := eq_true p330002
       replace q330002 := eq_true q330002
       have ea_ := Option.some.inj (hx330001_1.symm.trans hx330002_1)
       injection ea_ with ea_ en_ ec_
       subst ea_
       subst ec_
       clear en_
       have ea_ := Option.some.inj (hx330001_2.symm.trans hx330002_2)
       injection ea_ with ea_ en_ ec_
       subst ea_
       subst ec_
       clear en_
       go_wp2_with (first | ((with_reducible refine gate_callee (f := 62) rfl ?_); refine goesL_ (some 27) rfl rfl Try.func62 (by kernel_rfl) rfl #[.slice A330001_1 ((rd_T70 l0 x5_1).f1).length c330001_1, .int .i64 (wrap64 (x1_1 + 1))] rfl (by (try simp only [List.map_toArray, List.map_cons, List.map_nil]); first | done | rfl | (simp only [List.length_drop, List.length_take]; rfl)) ?_; (with_reducible refine (laws_heldHoldS.calls k1 _ _ ((rd_T70 l0 x5_1).f1) (wrap64 (x1_1 + 1)) t330003 _ ?side1 ?side2 A6.out).mono ?_); (case side1 => repeat (first | exact HR330002_1.out | (with_reducible refine Kd.C_alloc ?_ _) | (with_reducible refine Kd.C_drewN ?_ _) | (with_reducible refine Kd.C_drew ?_))); (case side2 => exact HC330002_1.out); rintro e w' ⟨rfl, ⟨nd, rfl⟩⟩; refine ⟨_, rfl, ?_⟩))
       go_ret
       exact ⟨by first | rfl | (simp; done) | (simp [*]; done), by repeat (first | exact Drawn0.refl _ | apply Drawn0.step)⟩
      ·rw [if_neg c7] at H
       have c7b0 : decide (t330003 < 0) = false := decide_eq_false c7
       clear c7
       replace H := Option.bind_eq_some_iff.mp H
       obtain ⟨t330005, A80, H⟩ := H
       replace H : (if t330005 < 0 then (some (-1)) else (laws_heldLockS.l0 k1 l0 t330005 (wrap64 (x5_1 + 1)))) = some r := H
       have A8 := Aside0.mk A80
       clear A80
       by_cases c9 : t330005 < 0
       ·rw [if_pos c9] at H
        have c9b0 : decide (t330005 < 0) = true := decide_eq_true c9
        clear c9
        obtain rfl := Option.some.inj H
        have p330001 : 0 ≤ (x5_1 : Int) := of_decide_eq_true (by first | (with_reducible assumption) | assumption)
        have q330001 : x5_1 < (l0.length : Int) := of_decide_eq_true (by first | (with_reducible assumption) | assumption)
        obtain ⟨ad330001, A330001_1, c330001_1, A330001_2, c330001_2, e330001, hx330001_0, hx330001_1, hx330001_2, hl330001_1, hi330001_1, hl330001_2, hi330001_2⟩ := at_T70 HR0.out x5_1 p330001 q330001
        cases e330001
        have HR330001_1 := Aside0.mk hi330001_1
        have HC330001_1 := Aside0.mk hl330001_1
        clear hi330001_1 hl330001_1
        have HR330001_2 := Aside0.mk hi330001_2
        have HC330001_2 := Aside0.mk hl330001_2
        clear hi330001_2 hl330001_2
        replace p330001 := eq_true p330001
        replace q330001 := eq_true q330001
        have p330002 : 0 ≤ (x5_1 : Int) := of_decide_eq_true (by first | (with_reducible assumption) | assumption)
        have q330002 : x5_1 < (l0.length : Int) := of_decide_eq_true (by first | (with_reducible assumption) | assumption)
        obtain ⟨ad330002, A330002_1, c330002_1, A330002_2, c330002_2, e330002, hx330002_0, hx330002_1, hx330002_2, hl330002_1, hi330002_1, hl330002_2, hi330002_2⟩ := at_T70 HR0.out x5_1 p330002 q330002
        obtain rfl : ad330001 = ad330002 := (by injection e330002)
        have HR330002_1 := Aside0.mk hi330002_1
        have HC330002_1 := Aside0.mk hl330002_1
        clear hi330002_1 hl330002_1
        have HR330002_2 := Aside0.mk hi330002_2
        have HC330002_2 := Aside0.mk hl330002_2
        clear hi330002_2 hl330002_2
        replace p330002 := eq_true p330002
        replace q330002 := eq_true q330002
        have ea_ := Option.some.inj (hx330001_1.symm.trans hx330002_1)
        injection ea_ with ea_ en_ ec_
        subst ea_
        subst ec_
        clear en_
        have ea_ := Option.some.inj (hx330001_2.symm.trans hx330002_2)
        injection ea_ with ea_ en_ ec_
        subst ea_
        subst ec_
        clear en_
        go_wp2_with (first | ((with_reducible refine gate_callee (f := 62) rfl ?_); refine goesL_ (some 27) rfl rfl Try.func62 (by kernel_rfl) rfl #[.slice A330001_1 ((rd_T70 l0 x5_1).f1).length c330001_1, .int .i64 (wrap64 (x1_1 + 1))] rfl (by (try simp only [List.map_toArray, List.map_cons, List.map_nil]); first | done | rfl | (simp only [List.length_drop, List.length_take]; rfl)) ?_; (with_reducible refine (laws_heldHoldS.calls k1 _ _ ((rd_T70 l0 x5_1).f1) (wrap64 (x1_1 + 1)) t330003 _ ?side1 ?side2 A6.out).mono ?_); (case side1 => repeat (first | exact HR330002_1.out | (with_reducible refine Kd.C_alloc ?_ _) | (with_reducible refine Kd.C_drewN ?_ _) | (with_reducible refine Kd.C_drew ?_))); (case side2 => exact HC330002_1.out); rintro e w' ⟨rfl, ⟨nd, rfl⟩⟩; refine ⟨_, rfl, ?_⟩; have p330004 : 0 ≤ (x5_1 : Int) := of_decide_eq_true (by first | (with_reducible assumption) | assumption); have q330004 : x5_1 < (l0.length : Int) := of_decide_eq_true (by first | (with_reducible assumption) | assumption); obtain ⟨ad330004, A330004_1, c330004_1, A330004_2, c330004_2, e330004, hx330004_0, hx330004_1, hx330004_2, hl330004_1, hi330004_1, hl330004_2, hi330004_2⟩ := at_T70 HR0.out x5_1 p330004 q330004; obtain rfl : ad330001 = ad330004 := (by injection e330004); have HR330004_1 := Aside0.mk hi330004_1; have HC330004_1 := Aside0.mk hl330004_1; clear hi330004_1 hl330004_1; have HR330004_2 := Aside0.mk hi330004_2; have HC330004_2 := Aside0.mk hl330004_2; clear hi330004_2 hl330004_2; replace p330004 := eq_true p330004; replace q330004 := eq_true q330004; have ea_ := Option.some.inj (hx330001_1.symm.trans hx330004_1); injection ea_ with ea_ en_ ec_; subst ea_; subst ec_; clear en_; have ea_ := Option.some.inj (hx330001_2.symm.trans hx330004_2); injection ea_ with ea_ en_ ec_; subst ea_; subst ec_; clear en_) | ((with_reducible refine gate_callee (f := 62) rfl ?_); refine goesL_ (some 36) rfl rfl Try.func62 (by kernel_rfl) rfl #[.slice A330001_2 ((rd_T70 l0 x5_1).f2).length c330001_2, .int .i64 t330003] rfl (by (try simp only [List.map_toArray, List.map_cons, List.map_nil]); first | done | rfl | (simp only [List.length_drop, List.length_take]; rfl)) ?_; (with_reducible refine (laws_heldHoldS.calls k1 _ _ ((rd_T70 l0 x5_1).f2) t330003 t330005 _ ?side1 ?side2 A8.out).mono ?_); (case side1 => repeat (first | exact HR330004_2.out | (with_reducible refine Kd.C_alloc ?_ _) | (with_reducible refine Kd.C_drewN ?_ _) | (with_reducible refine Kd.C_drew ?_))); (case side2 => exact HC330004_2.out); rintro e w' ⟨rfl, ⟨nd, rfl⟩⟩; refine ⟨_, rfl, ?_⟩))
        go_ret
        exact ⟨by first | rfl | (simp; done) | (simp [*]; done), by repeat (first | exact Drawn0.refl _ | apply Drawn0.step)⟩
       ·rw [if_neg c9] at H
        have c9b0 : decide (t330005 < 0) = false := decide_eq_false c9
        clear c9
        have H' := Aside0.mk H
        clear H
        have p330001 : 0 ≤ (x5_1 : Int) := of_decide_eq_true (by first | (with_reducible assumption) | assumption)
        have q330001 : x5_1 < (l0.length : Int) := of_decide_eq_true (by first | (with_reducible assumption) | assumption)
        obtain ⟨ad330001, A330001_1, c330001_1, A330001_2, c330001_2, e330001, hx330001_0, hx330001_1, hx330001_2, hl330001_1, hi330001_1, hl330001_2, hi330001_2⟩ := at_T70 HR0.out x5_1 p330001 q330001
        cases e330001
        have HR330001_1 := Aside0.mk hi330001_1
        have HC330001_1 := Aside0.mk hl330001_1
        clear hi330001_1 hl330001_1
        have HR330001_2 := Aside0.mk hi330001_2
        have HC330001_2 := Aside0.mk hl330001_2
        clear hi330001_2 hl330001_2
        replace p330001 := eq_true p330001
        replace q330001 := eq_true q330001
        have p330002 : 0 ≤ (x5_1 : Int) := of_decide_eq_true (by first | (with_reducible assumption) | assumption)
        have q330002 : x5_1 < (l0.length : Int) := of_decide_eq_true (by first | (with_reducible assumption) | assumption)
        obtain ⟨ad330002, A330002_1, c330002_1, A330002_2, c330002_2, e330002, hx330002_0, hx330002_1, hx330002_2, hl330002_1, hi330002_1, hl330002_2, hi330002_2⟩ := at_T70 HR0.out x5_1 p330002 q330002
        obtain rfl : ad330001 = ad330002 := (by injection e330002)
        have HR330002_1 := Aside0.mk hi330002_1
        have HC330002_1 := Aside0.mk hl330002_1
        clear hi330002_1 hl330002_1
        have HR330002_2 := Aside0.mk hi330002_2
        have HC330002_2 := Aside0.mk hl330002_2
        clear hi330002_2 hl330002_2
        replace p330002 := eq_true p330002
        replace q330002 := eq_true q330002
        have ea_ := Option.some.inj (hx330001_1.symm.trans hx330002_1)
        injection ea_ with ea_ en_ ec_
        subst ea_
        subst ec_
        clear en_
        have ea_ := Option.some.inj (hx330001_2.symm.trans hx330002_2)
        injection ea_ with ea_ en_ ec_
        subst ea_
        subst ec_
        clear en_
        go_wp2_with (first | ((with_reducible refine gate_callee (f := 62) rfl ?_); refine goesL_ (some 27) rfl rfl Try.func62 (by kernel_rfl) rfl #[.slice A330001_1 ((rd_T70 l0 x5_1).f1).length c330001_1, .int .i64 (wrap64 (x1_1 + 1))] rfl (by (try simp only [List.map_toArray, List.map_cons, List.map_nil]); first | done | rfl | (simp only [List.length_drop, List.length_take]; rfl)) ?_; (with_reducible refine (laws_heldHoldS.calls k1 _ _ ((rd_T70 l0 x5_1).f1) (wrap64 (x1_1 + 1)) t330003 _ ?side1 ?side2 A6.out).mono ?_); (case side1 => repeat (first | exact HR330002_1.out | (with_reducible refine Kd.C_alloc ?_ _) | (with_reducible refine Kd.C_drewN ?_ _) | (with_reducible refine Kd.C_drew ?_))); (case side2 => exact HC330002_1.out); rintro e w' ⟨rfl, ⟨nd, rfl⟩⟩; refine ⟨_, rfl, ?_⟩; have p330004 : 0 ≤ (x5_1 : Int) := of_decide_eq_true (by first | (with_reducible assumption) | assumption); have q330004 : x5_1 < (l0.length : Int) := of_decide_eq_true (by first | (with_reducible assumption) | assumption); obtain ⟨ad330004, A330004_1, c330004_1, A330004_2, c330004_2, e330004, hx330004_0, hx330004_1, hx330004_2, hl330004_1, hi330004_1, hl330004_2, hi330004_2⟩ := at_T70 HR0.out x5_1 p330004 q330004; obtain rfl : ad330001 = ad330004 := (by injection e330004); have HR330004_1 := Aside0.mk hi330004_1; have HC330004_1 := Aside0.mk hl330004_1; clear hi330004_1 hl330004_1; have HR330004_2 := Aside0.mk hi330004_2; have HC330004_2 := Aside0.mk hl330004_2; clear hi330004_2 hl330004_2; replace p330004 := eq_true p330004; replace q330004 := eq_true q330004; have ea_ := Option.some.inj (hx330001_1.symm.trans hx330004_1); injection ea_ with ea_ en_ ec_; subst ea_; subst ec_; clear en_; have ea_ := Option.some.inj (hx330001_2.symm.trans hx330004_2); injection ea_ with ea_ en_ ec_; subst ea_; subst ec_; clear en_) | ((with_reducible refine gate_callee (f := 62) rfl ?_); refine goesL_ (some 36) rfl rfl Try.func62 (by kernel_rfl) rfl #[.slice A330001_2 ((rd_T70 l0 x5_1).f2).length c330001_2, .int .i64 t330003] rfl (by (try simp only [List.map_toArray, List.map_cons, List.map_nil]); first | done | rfl | (simp only [List.length_drop, List.length_take]; rfl)) ?_; (with_reducible refine (laws_heldHoldS.calls k1 _ _ ((rd_T70 l0 x5_1).f2) t330003 t330005 _ ?side1 ?side2 A8.out).mono ?_); (case side1 => repeat (first | exact HR330004_2.out | (with_reducible refine Kd.C_alloc ?_ _) | (with_reducible refine Kd.C_drewN ?_ _) | (with_reducible refine Kd.C_drew ?_))); (case side2 => exact HC330004_2.out); rintro e w' ⟨rfl, ⟨nd, rfl⟩⟩; refine ⟨_, rfl, ?_⟩))
        go_roundg k1
        case measure => have := HK1.out; omega
        case rel => exact ⟨(t330005), (wrap64 (x5_1 + 1)), (by first | rfl | (simp; done) | (simp [*]; done)), (by first | rfl | (simp; done) | (simp [*]; done)), H', ⟨by have := HK1.out; omega⟩, by repeat (first | exact Drawn0.refl _ | apply Drawn0.step)⟩
     ·rw [if_neg c5] at H
      have c5b0 : (((rd_T70 l0 x5_1).f0) == x1_1) = false := beq_eq_false_iff_ne.mpr c5
      have c5b1 : (((rd_T70 l0 x5_1).f0) != x1_1) = true := bne_iff_ne.mpr c5
      obtain rfl := Option.some.inj H
      have p330001 : 0 ≤ (x5_1 : Int) := of_decide_eq_true (by first | (with_reducible assumption) | assumption)
      have q330001 : x5_1 < (l0.length : Int) := of_decide_eq_true (by first | (with_reducible assumption) | assumption)
      obtain ⟨ad330001, A330001_1, c330001_1, A330001_2, c330001_2, e330001, hx330001_0, hx330001_1, hx330001_2, hl330001_1, hi330001_1, hl330001_2, hi330001_2⟩ := at_T70 HR0.out x5_1 p330001 q330001
      cases e330001
      have HR330001_1 := Aside0.mk hi330001_1
      have HC330001_1 := Aside0.mk hl330001_1
      clear hi330001_1 hl330001_1
      have HR330001_2 := Aside0.mk hi330001_2
      have HC330001_2 := Aside0.mk hl330001_2
      clear hi330001_2 hl330001_2
      replace p330001 := eq_true p330001
      replace q330001 := eq_true q330001
      go_wp2
      go_ret
      exact ⟨by first | rfl | (simp; done) | (simp [*]; done), by repeat (first | exact Drawn0.refl _ | apply Drawn0.step)⟩
    ·rw [if_neg c4] at H
     exact absurd H (by simp)
   ·rw [if_neg c3] at H
    have c3b0 : decide (x5_1 < (l0.length : Int)) = false := decide_eq_false c3
    clear c3
    obtain rfl := Option.some.inj H
    go_wp2
    go_ret
    exact ⟨by first | rfl | (simp; done) | (simp [*]; done), by repeat (first | exact Drawn0.refl _ | apply Drawn0.step)⟩

end Go.Proofs.Ythahadclegihaaa.PX
