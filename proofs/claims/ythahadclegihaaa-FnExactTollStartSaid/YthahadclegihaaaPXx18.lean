import Derived.Test.YthahadclegihaaaPXx0
import Derived.Test.YthahadclegihaaaPXx17
namespace Go.Proofs.Ythahadclegihaaa.PX
open Go.RowKit Go.Proofs.YthahadclegihaaaW.PrintWords Go.Proofs.YthahadclegihaaaW.PrintLast Go.Proofs.YthahadclegihaaaW.PrintMore
attribute [local go_sem] max2_int min2_int max_two min_two max_three min_three max_four min_four
set_option linter.unusedVariables false
set_option linter.unusedSimpArgs false

def laws_heldRecS.l0 : Nat → List (S75) → Int → Int → Option (Int)
 | 0, _, _, _ => none
 | k + 1, x0, x1, x5 => if x5 < (x0.length : Int) then (if 0 ≤ x5 then (if ((rd_T75 x0 x5).f0) = x1 then (if ((rd_T75 x0 x5).f1) = (wrap64 (x1 + 1)) then (if ((rd_T75 x0 x5).f2) = (wrap64 ((wrap64 (x1 + 1)) + 1)) then (if ((rd_T75 x0 x5).f3) = (wrap64 ((wrap64 ((wrap64 (x1 + 1)) + 1)) + 1)) then ((laws_heldIntS.f k ((rd_T75 x0 x5).f4) (wrap64 ((wrap64 ((wrap64 ((wrap64 (x1 + 1)) + 1)) + 1)) + 1))).bind fun t320006 => (if t320006 < 0 then (some (-1)) else ((laws_heldPairS.f k ((rd_T75 x0 x5).f5) t320006).bind fun t320008 => (if t320008 < 0 then (some (-1)) else (laws_heldRecS.l0 k x0 t320008 (wrap64 (x5 + 1))))))) else (some (-1))) else (some (-1))) else (some (-1))) else (some (-1))) else (none)) else (some x1)
def laws_heldRecS.f (k : Nat) (l0 : List (S75)) (a1 : Int) : Option (Int) := laws_heldRecS.l0 k l0 a1 0
theorem laws_heldRecS.mono_l : ∀ k, (∀ y0 y1 y2, LeO (laws_heldRecS.l0 k y0 y1 y2) (laws_heldRecS.l0 (k + 1) y0 y1 y2))
 | 0 => fun _ _ _ r h => by simp [laws_heldRecS.l0] at h
 | k + 1 => by
  have ih0 := laws_heldRecS.mono_l k
  ·intro y0 y1 y2
   unfold laws_heldRecS.l0
   repeat' first
   | (with_reducible exact ih0 _ _ _)
   | (with_reducible exact laws_heldIntS.mono _ _ _)
   | (with_reducible exact laws_heldPairS.mono _ _ _)
   | (with_reducible exact LeO.refl _)
   | (with_reducible exact LeO.none _)
   | (with_reducible refine LeO.ite ?_ ?_)
   | (with_reducible refine LeO.bind ?_ (fun _ => ?_))
   | exact ih0 _ _ _
   | exact laws_heldIntS.mono _ _ _
   | exact laws_heldPairS.mono _ _ _
   | exact LeO.none _
   | refine LeO.ite ?_ ?_
   | refine LeO.bind ?_ (fun _ => ?_)
theorem laws_heldRecS.mono : ∀ a0 a1 k, LeO (laws_heldRecS.f k a0 a1) (laws_heldRecS.f (k + 1) a0 a1) := by
 intro a0 a1 k
 have ih0 := laws_heldRecS.mono_l k
 unfold laws_heldRecS.f
 repeat' first
  | (with_reducible exact ih0 _ _ _)
  | (with_reducible exact laws_heldIntS.mono _ _ _)
  | (with_reducible exact laws_heldPairS.mono _ _ _)
  | (with_reducible exact LeO.refl _)
  | (with_reducible exact LeO.none _)
  | (with_reducible refine LeO.ite ?_ ?_)
  | (with_reducible refine LeO.bind ?_ (fun _ => ?_))
  | exact ih0 _ _ _
  | exact laws_heldIntS.mono _ _ _
  | exact laws_heldPairS.mono _ _ _
  | exact LeO.none _
  | refine LeO.ite ?_ ?_
  | refine LeO.bind ?_ (fun _ => ?_)
set_option maxHeartbeats 8000000 in
set_option maxRecDepth 100000 in
theorem laws_heldRecS.calls (k : Nat) (A0 : Option Addr) (c0 : Nat) (l0 : List (S75)) (a1 : Int) (r : Int) (w : World) (hr0 : Kd.C k75 w A0 l0.length l0) (hc0 : l0.length ≤ c0) (h : laws_heldRecS.f k l0 a1 = some r) :
 Calls Try.prog 31 #[.slice A0 l0.length c0, .int .i64 a1] w fun e w' => e = .returned (.int .i64 r) ∧ Drawn0 w w' := by
 have HR0 := Aside0.mk hr0
 have HC0 := Aside0.mk hc0
 clear hr0 hc0
 have H : (laws_heldRecS.l0 k l0 a1 0) = some r := h
 clear h
 have H' := Aside0.mk H
 clear H
 go_enter Try.func31, Try.ntmps31
 go_wp2
 go_loopg [1, 5] k (fun kq v1 v5 w' => ∃ (x1_1 : Int) (x5_1 : Int), v1 = .int .i64 x1_1 ∧ v5 = .int .i64 x5_1 ∧ Aside0 (laws_heldRecS.l0 kq l0 x1_1 x5_1 = some r) ∧ Aside0 (kq ≤ k) ∧ Drawn0 w w')
 case atStart => exact ⟨(a1), (0), (by first | rfl | (simp; done) | (simp [*]; done)), (by first | rfl | (simp; done) | (simp [*]; done)), H', ⟨Nat.le_refl _⟩, by repeat (first | exact Drawn0.refl _ | apply Drawn0.step)⟩
 case round =>
  clear H'
  try clear p2
  obtain ⟨x1_1, x5_1, rfl, rfl, HA, HK1, ⟨m1, rfl⟩⟩ := hrel
  cases gk with
  | zero => exact absurd HA.out (by simp [laws_heldRecS.l0])
  | succ k1 =>
   have H := HA.out
   clear HA
   simp only [laws_heldRecS.l0] at H
   by_cases c3 : x5_1 < (l0.length : Int)
   ·rw [if_pos c3] at H
    have c3b0 : decide (x5_1 < (l0.length : Int)) = true := decide_eq_true c3
    clear c3
    by_cases c4 : 0 ≤ x5_1
    ·rw [if_pos c4] at H
     have c4b0 : decide (0 ≤ x5_1) = true := decide_eq_true c4
     clear c4
     by_cases c5 : ((rd_T75 l0 x5_1).f0) = x1_1
     ·rw [if_pos c5] at H
      have c5b0 : (((rd_T75 l0 x5_1).f0) == x1_1) = true := beq_iff_eq.mpr c5
      have c5b1 : (((rd_T75 l0 x5_1).f0) != x1_1) = false := bne_eq_false_iff_eq.mpr c5
      clear c5
      by_cases c6 : ((rd_T75 l0 x5_1).f1) = (wrap64 (x1_1 + 1))
      ·rw [if_pos c6] at H
       have c6b0 : (((rd_T75 l0 x5_1).f1) == (wrap64 (x1_1 + 1))) = true := beq_iff_eq.mpr c6
       have c6b1 : (((rd_T75 l0 x5_1).f1) != (wrap64 (x1_1 + 1))) = false := bne_eq_false_iff_eq.mpr c6
       clear c6
       by_cases c7 : ((rd_T75 l0 x5_1).f2) = (wrap64 ((wrap64 (x1_1 + 1)) + 1))
       ·rw [if_pos c7] at H
        have c7b0 : (((rd_T75 l0 x5_1).f2) == (wrap64 ((wrap64 (x1_1 + 1)) + 1))) = true := beq_iff_eq.mpr c7
        have c7b1 : (((rd_T75 l0 x5_1).f2) != (wrap64 ((wrap64 (x1_1 + 1)) + 1))) = false := bne_eq_false_iff_eq.mpr c7
        clear c7
        by_cases c8 : ((rd_T75 l0 x5_1).f3) = (wrap64 ((wrap64 ((wrap64 (x1_1 + 1)) + 1)) + 1))
        ·rw [if_pos c8] at H
         have c8b0 : (((rd_T75 l0 x5_1).f3) == (wrap64 ((wrap64 ((wrap64 (x1_1 + 1)) + 1)) + 1))) = true := beq_iff_eq.mpr c8
         have c8b1 : (((rd_T75 l0 x5_1).f3) != (wrap64 ((wrap64 ((wrap64 (x1_1 + 1)) + 1)) + 1))) = false := bne_eq_false_iff_eq.mpr c8
         clear c8
         replace H := Option.bind_eq_some_iff.mp H
         obtain ⟨t320006, A90, H⟩ := H
         replace H : (if t320006 < 0 then (some (-1)) else ((laws_heldPairS.f k1 ((rd_T75 l0 x5_1).f5) t320006).bind fun t320008 => (if t320008 < 0 then (some (-1)) else (laws_heldRecS.l0 k1 l0 t320008 (wrap64 (x5_1 + 1)))))) = some r := H
         have A9 := Aside0.mk A90
         clear A90
         by_cases c10 : t320006 < 0
         ·rw [if_pos c10] at H
          have c10b0 : decide (t320006 < 0) = true := decide_eq_true c10
          clear c10
          obtain rfl := Option.some.inj H
          have p320001 : 0 ≤ (x5_1 : Int) := of_decide_eq_true (by first | (with_reducible assumption) | assumption)
          have q320001 : x5_1 < (l0.length : Int) := of_decide_eq_true (by first | (with_reducible assumption) | assumption)
          obtain ⟨ad320001, A320001_4, c320001_4, A320001_5, c320001_5, e320001, hx320001_0, hx320001_1, hx320001_2, hx320001_3, hx320001_4, hx320001_5, hl320001_4, hi320001_4, hl320001_5, hi320001_5⟩ := at_T75 HR0.out x5_1 p320001 q320001
          cases e320001
          have HR320001_4 := Aside0.mk hi320001_4
          have HC320001_4 := Aside0.mk hl320001_4
          clear hi320001_4 hl320001_4
          have HR320001_5 := Aside0.mk hi320001_5
          have HC320001_5 := Aside0.mk hl320001_5
          clear hi320001_5 hl320001_5
          replace p320001 := eq_true p320001
          replace q320001 := eq_true q320001
          have p320002 : 0 ≤ (x5_1 : Int) := of_decide_eq_true (by first | (with_reducible assumption) | assumption)
          have q320002 : x5_1 < (l0.length : Int) := of_decide_eq_true (by first | (with_reducible assumption) | assumption)
          obtain ⟨ad320002, A320002_4, c320002_4, A320002_5, c320002_5, e320002, hx320002_0, hx320002_1, hx320002_2, hx320002_3, hx320002_4, hx320002_5, hl320002_4, hi320002_4, hl320002_5, hi320002_5⟩ := at_T75 HR0.out x5_1 p320002 q320002
          obtain rfl : ad320001 = ad320002 := (by injection e320002)
          have HR320002_4 := Aside0.mk hi320002_4
          have HC320002_4 := Aside0.mk hl320002_4
          clear hi320002_4 hl320002_4
          have HR320002_5 := Aside0.mk hi320002_5
          have HC320002_5 := Aside0.mk hl320002_5
          clear hi320002_5 hl320002_5
          replace p320002 := eq_true p320002
          replace q320002 := eq_true q320002
          have ea_ := Option.some.inj (hx320001_4.symm.trans hx320002_4)
          injection ea_ with ea_ en_ ec_
          subst ea_
          subst ec_
          clear en_
          have ea_ := Option.some.inj (hx320001_5.symm.trans hx320002_5)
          injection ea_ with ea_ en_ ec_
          subst ea_
          subst ec_
          clear en_
          have p320003 : 0 ≤ (x5_1 : Int) := of_decide_eq_true (by first | (with_reducible assumption) | assumption)
          have q320003 : x5_1 < (l0.length : Int) := of_decide_eq_true (by first | (with_reducible assumption) | assumption)
          obtain ⟨ad320003, A320003_4, c320003_4, A320003_5, c320003_5, e320003, hx320003_0, hx320003_1, hx320003_2, hx320003_3, hx320003_4, hx320003_5, hl320003_4, hi320003_4, hl320003_5, hi320003_5⟩ := at_T75 HR0.out x5_1 p320003 q320003
          obtain rfl : ad320001 = ad320003 := (by injection e320003)
          have HR320003_4 := Aside0.mk hi320003_4
          have HC320003_4 := Aside0.mk hl320003_4
          clear hi320003_4 hl320003_4
          have HR320003_5 := Aside0.mk hi320003_5
          have HC320003_5 := Aside0.mk hl320003_5
          clear hi320003_5 hl320003_5
          replace p320003 := eq_true p320003
          replace q320003 := eq_true q320003
          have ea_ := Option.some.inj (hx320001_4.symm.trans hx320003_4)
          injection ea_ with ea_ en_ ec_
          subst ea_
          subst ec_
          clear en_
          have ea_ := Option.some.inj (hx320001_5.symm.trans hx320003_5)
          injection ea_ with ea_ en_ ec_
          subst ea_
          subst ec_
          clear en_
          have p320004 : 0 ≤ (x5_1 : Int) := of_decide_eq_true (by first | (with_reducible assumption) | assumption)
          have q320004 : x5_1 < (l0.length : Int) := of_decide_eq_true (by first | (with_reducible assumption) | assumption)
          obtain ⟨ad320004, A320004_4, c320004_4, A320004_5, c320004_5, e320004, hx320004_0, hx320004_1, hx320004_2, hx320004_3, hx320004_4, hx320004_5, hl320004_4, hi320004_4, hl320004_5, hi320004_5⟩ := at_T75 HR0.out x5_1 p320004 q320004
          obtain rfl : ad320001 = ad320004 := (by injection e320004)
          have HR320004_4 := Aside0.mk hi320004_4
          have HC320004_4 := Aside0.mk hl320004_4
          clear hi320004_4 hl320004_4
          have HR320004_5 := Aside0.mk hi320004_5
          have HC320004_5 := Aside0.mk hl320004_5
          clear hi320004_5 hl320004_5
          replace p320004 := eq_true p320004
          replace q320004 := eq_true q320004
          have ea_ := Option.some.inj (hx320001_4.symm.trans hx320004_4)
          injection ea_ with ea_ en_ ec_
          subst ea_
          subst ec_
          clear en_
          have ea_ := Option.some.inj (hx320001_5.symm.trans hx320004_5)
          injection ea_ with ea_ en_ ec_
          subst ea_
          subst ec_
          clear en_
          have p320005 : 0 ≤ (x5_1 : Int) := of_decide_eq_true (by first | (with_reducible assumption) | assumption)
          have q320005 : x5_1 < (l0.length : Int) := of_decide_eq_true (by first | (with_reducible assumption) | assumption)
          obtain ⟨ad320005, A320005_4, c320005_4, A320005_5, c320005_5, e320005, hx320005_0, hx320005_1, hx320005_2, hx320005_3, hx320005_4, hx320005_5, hl320005_4, hi320005_4, hl320005_5, hi320005_5⟩ := at_T75 HR0.out x5_1 p320005 q320005
          obtain rfl : ad320001 = ad320005 := (by injection e320005)
          have HR320005_4 := Aside0.mk hi320005_4
          have HC320005_4 := Aside0.mk hl320005_4
          clear hi320005_4 hl320005_4
          have HR320005_5 := Aside0.mk hi320005_5
          have HC320005_5 := Aside0.mk hl320005_5
          clear hi320005_5 hl320005_5
          replace p320005 := eq_true p320005
          replace q320005 := eq_true q320005
          have ea_ := Option.some.inj (hx320001_4.symm.trans hx320005_4)
          injection ea_ with ea_ en_ ec_
          subst ea_
          subst ec_
          clear en_
          have ea_ := Option.some.inj (hx320001_5.symm.trans hx320005_5)
          injection ea_ with ea_ en_ ec_
          subst ea_
          subst ec_
          clear en_
          go_wp2_with (first | ((with_reducible refine gate_callee (f := 60) rfl ?_); refine goesL_ (some 54) rfl rfl Try.func60 (by kernel_rfl) rfl #[.slice A320001_4 ((rd_T75 l0 x5_1).f4).length c320001_4, .int .i64 (wrap64 ((wrap64 ((wrap64 ((wrap64 (x1_1 + 1)) + 1)) + 1)) + 1))] rfl (by (try simp only [List.map_toArray, List.map_cons, List.map_nil]); first | done | rfl | (simp only [List.length_drop, List.length_take]; rfl)) ?_; (with_reducible refine (laws_heldIntS.calls k1 _ _ ((rd_T75 l0 x5_1).f4) (wrap64 ((wrap64 ((wrap64 ((wrap64 (x1_1 + 1)) + 1)) + 1)) + 1)) t320006 _ ?side1 ?side2 A9.out).mono ?_); (case side1 => repeat (first | exact HR320005_4.out | (with_reducible refine Kd.C_alloc ?_ _) | (with_reducible refine Kd.C_drewN ?_ _) | (with_reducible refine Kd.C_drew ?_))); (case side2 => exact HC320005_4.out); rintro e w' ⟨rfl, ⟨nd, rfl⟩⟩; refine ⟨_, rfl, ?_⟩))
          go_ret
          exact ⟨by first | rfl | (simp; done) | (simp [*]; done), by repeat (first | exact Drawn0.refl _ | apply Drawn0.step)⟩
         ·rw [if_neg c10] at H
          have c10b0 : decide (t320006 < 0) = false := decide_eq_false c10
          clear c10
          replace H := Option.bind_eq_some_iff.mp H
          obtain ⟨t320008, A110, H⟩ := H
          replace H : (if t320008 < 0 then (some (-1)) else (laws_heldRecS.l0 k1 l0 t320008 (wrap64 (x5_1 + 1)))) = some r := H
          have A11 := Aside0.mk A110
          clear A110
          by_cases c12 : t320008 < 0
          ·rw [if_pos c12] at H
           have c12b0 : decide (t320008 < 0) = true := decide_eq_true c12
           clear c12
           obtain rfl := Option.some.inj H
           have p320001 : 0 ≤ (x5_1 : Int) := of_decide_eq_true (by first | (with_reducible assumption) | assumption)
           have q320001 : x5_1 < (l0.length : Int) := of_decide_eq_true (by first | (with_reducible assumption) | assumption)
           obtain ⟨ad320001, A320001_4, c320001_4, A320001_5, c320001_5, e320001, hx320001_0, hx320001_1, hx320001_2, hx320001_3, hx320001_4, hx320001_5, hl320001_4, hi320001_4, hl320001_5, hi320001_5⟩ := at_T75 HR0.out x5_1 p320001 q320001
           cases e320001
           have HR320001_4 := Aside0.mk hi320001_4
           have HC320001_4 := Aside0.mk hl320001_4
           clear hi320001_4 hl320001_4
           have HR320001_5 := Aside0.mk hi320001_5
           have HC320001_5 := Aside0.mk hl320001_5
           clear hi320001_5 hl320001_5
           replace p320001 := eq_true p320001
           replace q320001 := eq_true q320001
           have p320002 : 0 ≤ (x5_1 : Int) := of_decide_eq_true (by first | (with_reducible assumption) | assumption)
           have q320002 : x5_1 < (l0.length : Int) := of_decide_eq_true (by first | (with_reducible assumption) | assumption)
           obtain ⟨ad320002, A320002_4, c320002_4, A320002_5, c320002_5, e320002, hx320002_0, hx320002_1, hx320002_2, hx320002_3, hx320002_4, hx320002_5, hl320002_4, hi320002_4, hl320002_5, hi320002_5⟩ := at_T75 HR0.out x5_1 p320002 q320002
           obtain rfl : ad320001 = ad320002 := (by injection e320002)
           have HR320002_4 := Aside0.mk hi320002_4
           have HC320002_4 := Aside0.mk hl320002_4
           clear hi320002_4 hl320002_4
           have HR320002_5 := Aside0.mk hi320002_5
           have HC320002_5 := Aside0.mk hl320002_5
           clear hi320002_5 hl320002_5
           replace p320002 := eq_true p320002
           replace q320002 := eq_true q320002
           have ea_ := Option.some.inj (hx320001_4.symm.trans hx320002_4)
           injection ea_ with ea_ en_ ec_
           subst ea_
           subst ec_
           clear en_
           have ea_ := Option.some.inj (hx320001_5.symm.trans hx320002_5)
           injection ea_ with ea_ en_ ec_
           subst ea_
           subst ec_
           clear en_
           have p320003 : 0 ≤ (x5_1 : Int) := of_decide_eq_true (by first | (with_reducible assumption) | assumption)
           have q320003 : x5_1 < (l0.length : Int) := of_decide_eq_true (by first | (with_reducible assumption) | assumption)
           obtain ⟨ad320003, A320003_4, c320003_4, A320003_5, c320003_5, e320003, hx320003_0, hx320003_1, hx320003_2, hx320003_3, hx320003_4, hx320003_5, hl320003_4, hi320003_4, hl320003_5, hi320003_5⟩ := at_T75 HR0.out x5_1 p320003 q320003
           obtain rfl : ad320001 = ad320003 := (by injection e320003)
           have HR320003_4 := Aside0.mk hi320003_4
           have HC320003_4 := Aside0.mk hl320003_4
           clear hi320003_4 hl320003_4
           have HR320003_5 := Aside0.mk hi320003_5
           have HC320003_5 := Aside0.mk hl320003_5
           clear hi320003_5 hl320003_5
           replace p320003 := eq_true p320003
           replace q320003 := eq_true q320003
           have ea_ := Option.some.inj (hx320001_4.symm.trans hx320003_4)
           injection ea_ with ea_ en_ ec_
           subst ea_
           subst ec_
           clear en_
           have ea_ := Option.some.inj (hx320001_5.symm.trans hx320003_5)
           injection ea_ with ea_ en_ ec_
           subst ea_
           subst ec_
           clear en_
           have p320004 : 0 ≤ (x5_1 : Int) := of_decide_eq_true (by first | (with_reducible assumption) | assumption)
           have q320004 : x5_1 < (l0.length : Int) := of_decide_eq_true (by first | (with_reducible assumption) | assumption)
           obtain ⟨ad320004, A320004_4, c320004_4, A320004_5, c320004_5, e320004, hx320004_0, hx320004_1, hx320004_2, hx320004_3, hx320004_4, hx320004_5, hl320004_4, hi320004_4, hl320004_5, hi320004_5⟩ := at_T75 HR0.out x5_1 p320004 q320004
           obtain rfl : ad320001 = ad320004 := (by injection e320004)
           have HR320004_4 := Aside0.mk hi320004_4
           have HC320004_4 := Aside0.mk hl320004_4
           clear hi320004_4 hl320004_4
           have HR320004_5 := Aside0.mk hi320004_5
           have HC320004_5 := Aside0.mk hl320004_5
           clear hi320004_5 hl320004_5
           replace p320004 := eq_true p320004
           replace q320004 := eq_true q320004
           have ea_ := Option.some.inj (hx320001_4.symm.trans hx320004_4)
           injection ea_ with ea_ en_ ec_
           subst ea_
           subst ec_
           clear en_
           have ea_ := Option.some.inj (hx320001_5.symm.trans hx320004_5)
           injection ea_ with ea_ en_ ec_
           subst ea_
           subst ec_
           clear en_
           have p320005 : 0 ≤ (x5_1 : Int) := of_decide_eq_true (by first | (with_reducible assumption) | assumption)
           have q320005 : x5_1 < (l0.length : Int) := of_decide_eq_true (by first | (with_reducible assumption) | assumption)
           obtain ⟨ad320005, A320005_4, c320005_4, A320005_5, c320005_5, e320005, hx320005_0, hx320005_1, hx320005_2, hx320005_3, hx320005_4, hx320005_5, hl320005_4, hi320005_4, hl320005_5, hi320005_5⟩ := at_T75 HR0.out x5_1 p320005 q320005
           obtain rfl : ad320001 = ad320005 := (by injection e320005)
           have HR320005_4 := Aside0.mk hi320005_4
           have HC320005_4 := Aside0.mk hl320005_4
           clear hi320005_4 hl320005_4
           have HR320005_5 := Aside0.mk hi320005_5
           have HC320005_5 := Aside0.mk hl320005_5
           clear hi320005_5 hl320005_5
           replace p320005 := eq_true p320005
           replace q320005 := eq_true q320005
           have ea_ := Option.some.inj (hx320001_4.symm.trans hx320005_4)
           injection ea_ with ea_ en_ ec_
           subst ea_
           subst ec_
           clear en_
           have ea_ := Option.some.inj (hx320001_5.symm.trans hx320005_5)
           injection ea_ with ea_ en_ ec_
           subst ea_
           subst ec_
           clear en_
           go_wp2_with (first | ((with_reducible refine gate_callee (f := 60) rfl ?_); refine goesL_ (some 54) rfl rfl Try.func60 (by kernel_rfl) rfl #[.slice A320001_4 ((rd_T75 l0 x5_1).f4).length c320001_4, .int .i64 (wrap64 ((wrap64 ((wrap64 ((wrap64 (x1_1 + 1)) + 1)) + 1)) + 1))] rfl (by (try simp only [List.map_toArray, List.map_cons, List.map_nil]); first | done | rfl | (simp only [List.length_drop, List.length_take]; rfl)) ?_; (with_reducible refine (laws_heldIntS.calls k1 _ _ ((rd_T75 l0 x5_1).f4) (wrap64 ((wrap64 ((wrap64 ((wrap64 (x1_1 + 1)) + 1)) + 1)) + 1)) t320006 _ ?side1 ?side2 A9.out).mono ?_); (case side1 => repeat (first | exact HR320005_4.out | (with_reducible refine Kd.C_alloc ?_ _) | (with_reducible refine Kd.C_drewN ?_ _) | (with_reducible refine Kd.C_drew ?_))); (case side2 => exact HC320005_4.out); rintro e w' ⟨rfl, ⟨nd, rfl⟩⟩; refine ⟨_, rfl, ?_⟩; have p320007 : 0 ≤ (x5_1 : Int) := of_decide_eq_true (by first | (with_reducible assumption) | assumption); have q320007 : x5_1 < (l0.length : Int) := of_decide_eq_true (by first | (with_reducible assumption) | assumption); obtain ⟨ad320007, A320007_4, c320007_4, A320007_5, c320007_5, e320007, hx320007_0, hx320007_1, hx320007_2, hx320007_3, hx320007_4, hx320007_5, hl320007_4, hi320007_4, hl320007_5, hi320007_5⟩ := at_T75 HR0.out x5_1 p320007 q320007; obtain rfl : ad320001 = ad320007 := (by injection e320007); have HR320007_4 := Aside0.mk hi320007_4; have HC320007_4 := Aside0.mk hl320007_4; clear hi320007_4 hl320007_4; have HR320007_5 := Aside0.mk hi320007_5; have HC320007_5 := Aside0.mk hl320007_5; clear hi320007_5 hl320007_5; replace p320007 := eq_true p320007; replace q320007 := eq_true q320007; have ea_ := Option.some.inj (hx320001_4.symm.trans hx320007_4); injection ea_ with ea_ en_ ec_; subst ea_; subst ec_; clear en_; have ea_ := Option.some.inj (hx320001_5.symm.trans hx320007_5); injection ea_ with ea_ en_ ec_; subst ea_; subst ec_; clear en_) | ((with_reducible refine gate_callee (f := 61) rfl ?_); refine goesL_ (some 63) rfl rfl Try.func61 (by kernel_rfl) rfl #[.slice A320001_5 ((rd_T75 l0 x5_1).f5).length c320001_5, .int .i64 t320006] rfl (by (try simp only [List.map_toArray, List.map_cons, List.map_nil]); first | done | rfl | (simp only [List.length_drop, List.length_take]; rfl)) ?_; (with_reducible refine (laws_heldPairS.calls k1 _ _ ((rd_T75 l0 x5_1).f5) t320006 t320008 _ ?side1 ?side2 A11.out).mono ?_); (case side1 => repeat (first | exact HR320007_5.out | (with_reducible refine Kd.C_alloc ?_ _) | (with_reducible refine Kd.C_drewN ?_ _) | (with_reducible refine Kd.C_drew ?_))); (case side2 => exact HC320007_5.out); rintro e w' ⟨rfl, ⟨nd, rfl⟩⟩; refine ⟨_, rfl, ?_⟩))
           go_ret
           exact ⟨by first | rfl | (simp; done) | (simp [*]; done), by repeat (first | exact Drawn0.refl _ | apply Drawn0.step)⟩
          ·rw [if_neg c12] at H
           have c12b0 : decide (t320008 < 0) = false := decide_eq_false c12
           clear c12
           have H' := Aside0.mk H
           clear H
           have p320001 : 0 ≤ (x5_1 : Int) := of_decide_eq_true (by first | (with_reducible assumption) | assumption)
           have q320001 : x5_1 < (l0.length : Int) := of_decide_eq_true (by first | (with_reducible assumption) | assumption)
           obtain ⟨ad320001, A320001_4, c320001_4, A320001_5, c320001_5, e320001, hx320001_0, hx320001_1, hx320001_2, hx320001_3, hx320001_4, hx320001_5, hl320001_4, hi320001_4, hl320001_5, hi320001_5⟩ := at_T75 HR0.out x5_1 p320001 q320001
           cases e320001
           have HR320001_4 := Aside0.mk hi320001_4
           have HC320001_4 := Aside0.mk hl320001_4
           clear hi320001_4 hl320001_4
           have HR320001_5 := Aside0.mk hi320001_5
           have HC320001_5 := Aside0.mk hl320001_5
           clear hi320001_5 hl320001_5
           replace p320001 := eq_true p320001
           replace q320001 := eq_true q320001
           have p320002 : 0 ≤ (x5_1 : Int) := of_decide_eq_true (by first | (with_reducible assumption) | assumption)
           have q320002 : x5_1 < (l0.length : Int) := of_decide_eq_true (by first | (with_reducible assumption) | assumption)
           obtain ⟨ad320002, A320002_4, c320002_4, A320002_5, c320002_5, e320002, hx320002_0, hx320002_1, hx320002_2, hx320002_3, hx320002_4, hx320002_5, hl320002_4, hi320002_4, hl320002_5, hi320002_5⟩ := at_T75 HR0.out x5_1 p320002 q320002
           obtain rfl : ad320001 = ad320002 := (by injection e320002)
           have HR320002_4 := Aside0.mk hi320002_4
           have HC320002_4 := Aside0.mk hl320002_4
           clear hi320002_4 hl320002_4
           have HR320002_5 := Aside0.mk hi320002_5
           have HC320002_5 := Aside0.mk hl320002_5
           clear hi320002_5 hl320002_5
           replace p320002 := eq_true p320002
           replace q320002 := eq_true q320002
           have ea_ := Option.some.inj (hx320001_4.symm.trans hx320002_4)
           injection ea_ with ea_ en_ ec_
           subst ea_
           subst ec_
           clear en_
           have ea_ := Option.some.inj (hx320001_5.symm.trans hx320002_5)
           injection ea_ with ea_ en_ ec_
           subst ea_
           subst ec_
           clear en_
           have p320003 : 0 ≤ (x5_1 : Int) := of_decide_eq_true (by first | (with_reducible assumption) | assumption)
           have q320003 : x5_1 < (l0.length : Int) := of_decide_eq_true (by first | (with_reducible assumption) | assumption)
           obtain ⟨ad320003, A320003_4, c320003_4, A320003_5, c320003_5, e320003, hx320003_0, hx320003_1, hx320003_2, hx320003_3, hx320003_4, hx320003_5, hl320003_4, hi320003_4, hl320003_5, hi320003_5⟩ := at_T75 HR0.out x5_1 p320003 q320003
           obtain rfl : ad320001 = ad320003 := (by injection e320003)
           have HR320003_4 := Aside0.mk hi320003_4
           have HC320003_4 := Aside0.mk hl320003_4
           clear hi320003_4 hl320003_4
           have HR320003_5 := Aside0.mk hi320003_5
           have HC320003_5 := Aside0.mk hl320003_5
           clear hi320003_5 hl320003_5
           replace p320003 := eq_true p320003
           replace q320003 := eq_true q320003
           have ea_ := Option.some.inj (hx320001_4.symm.trans hx320003_4)
           injection ea_ with ea_ en_ ec_
           subst ea_
           subst ec_
           clear en_
           have ea_ := Option.some.inj (hx320001_5.symm.trans hx320003_5)
           injection ea_ with ea_ en_ ec_
           subst ea_
           subst ec_
           clear en_
           have p320004 : 0 ≤ (x5_1 : Int) := of_decide_eq_true (by first | (with_reducible assumption) | assumption)
           have q320004 : x5_1 < (l0.length : Int) := of_decide_eq_true (by first | (with_reducible assumption) | assumption)
           obtain ⟨ad320004, A320004_4, c320004_4, A320004_5, c320004_5, e320004, hx320004_0, hx320004_1, hx320004_2, hx320004_3, hx320004_4, hx320004_5, hl320004_4, hi320004_4, hl320004_5, hi320004_5⟩ := at_T75 HR0.out x5_1 p320004 q320004
           obtain rfl : ad320001 = ad320004 := (by injection e320004)
           have HR320004_4 := Aside0.mk hi320004_4
           have HC320004_4 := Aside0.mk hl320004_4
           clear hi320004_4 hl320004_4
           have HR320004_5 := Aside0.mk hi320004_5
           have HC320004_5 := Aside0.mk hl320004_5
           clear hi320004_5 hl320004_5
           replace p320004 := eq_true p320004
           replace q320004 := eq_true q320004
           have ea_ := Option.some.inj (hx320001_4.symm.trans hx320004_4)
           injection ea_ with ea_ en_ ec_
           subst ea_
           subst ec_
           clear en_
           have ea_ := Option.some.inj (hx320001_5.symm.trans hx320004_5)
           injection ea_ with ea_ en_ ec_
           subst ea_
           subst ec_
           clear en_
           have p320005 : 0 ≤ (x5_1 : Int) := of_decide_eq_true (by first | (with_reducible assumption) | assumption)
           have q320005 : x5_1 < (l0.length : Int) := of_decide_eq_true (by first | (with_reducible assumption) | assumption)
           obtain ⟨ad320005, A320005_4, c320005_4, A320005_5, c320005_5, e320005, hx320005_0, hx320005_1, hx320005_2, hx320005_3, hx320005_4, hx320005_5, hl320005_4, hi320005_4, hl320005_5, hi320005_5⟩ := at_T75 HR0.out x5_1 p320005 q320005
           obtain rfl : ad320001 = ad320005 := (by injection e320005)
           have HR320005_4 := Aside0.mk hi320005_4
           have HC320005_4 := Aside0.mk hl320005_4
           clear hi320005_4 hl320005_4
           have HR320005_5 := Aside0.mk hi320005_5
           have HC320005_5 := Aside0.mk hl320005_5
           clear hi320005_5 hl320005_5
           replace p320005 := eq_true p320005
           replace q320005 := eq_true q320005
           have ea_ := Option.some.inj (hx320001_4.symm.trans hx320005_4)
           injection ea_ with ea_ en_ ec_
           subst ea_
           subst ec_
           clear en_
           have ea_ := Option.some.inj (hx320001_5.symm.trans hx320005_5)
           injection ea_ with ea_ en_ ec_
           subst ea_
           subst ec_
           clear en_
           go_wp2_with (first | ((with_reducible refine gate_callee (f := 60) rfl ?_); refine goesL_ (some 54) rfl rfl Try.func60 (by kernel_rfl) rfl #[.slice A320001_4 ((rd_T75 l0 x5_1).f4).length c320001_4, .int .i64 (wrap64 ((wrap64 ((wrap64 ((wrap64 (x1_1 + 1)) + 1)) + 1)) + 1))] rfl (by (try simp only [List.map_toArray, List.map_cons, List.map_nil]); first | done | rfl | (simp only [List.length_drop, List.length_take]; rfl)) ?_; (with_reducible refine (laws_heldIntS.calls k1 _ _ ((rd_T75 l0 x5_1).f4) (wrap64 ((wrap64 ((wrap64 ((wrap64 (x1_1 + 1)) + 1)) + 1)) + 1)) t320006 _ ?side1 ?side2 A9.out).mono ?_); (case side1 => repeat (first | exact HR320005_4.out | (with_reducible refine Kd.C_alloc ?_ _) | (with_reducible refine Kd.C_drewN ?_ _) | (with_reducible refine Kd.C_drew ?_))); (case side2 => exact HC320005_4.out); rintro e w' ⟨rfl, ⟨nd, rfl⟩⟩; refine ⟨_, rfl, ?_⟩; have p320007 : 0 ≤ (x5_1 : Int) := of_decide_eq_true (by first | (with_reducible assumption) | assumption); have q320007 : x5_1 < (l0.length : Int) := of_decide_eq_true (by first | (with_reducible assumption) | assumption); obtain ⟨ad320007, A320007_4, c320007_4, A320007_5, c320007_5, e320007, hx320007_0, hx320007_1, hx320007_2, hx320007_3, hx320007_4, hx320007_5, hl320007_4, hi320007_4, hl320007_5, hi320007_5⟩ := at_T75 HR0.out x5_1 p320007 q320007; obtain rfl : ad320001 = ad320007 := (by injection e320007); have HR320007_4 := Aside0.mk hi320007_4; have HC320007_4 := Aside0.mk hl320007_4; clear hi320007_4 hl320007_4; have HR320007_5 := Aside0.mk hi320007_5; have HC320007_5 := Aside0.mk hl320007_5; clear hi320007_5 hl320007_5; replace p320007 := eq_true p320007; replace q320007 := eq_true q320007; have ea_ := Option.some.inj (hx320001_4.symm.trans hx320007_4); injection ea_ with ea_ en_ ec_; subst ea_; subst ec_; clear en_; have ea_ := Option.some.inj (hx320001_5.symm.trans hx320007_5); injection ea_ with ea_ en_ ec_; subst ea_; subst ec_; clear en_) | ((with_reducible refine gate_callee (f := 61) rfl ?_); refine goesL_ (some 63) rfl rfl Try.func61 (by kernel_rfl) rfl #[.slice A320001_5 ((rd_T75 l0 x5_1).f5).length c320001_5, .int .i64 t320006] rfl (by (try simp only [List.map_toArray, List.map_cons, List.map_nil]); first | done | rfl | (simp only [List.length_drop, List.length_take]; rfl)) ?_; (with_reducible refine (laws_heldPairS.calls k1 _ _ ((rd_T75 l0 x5_1).f5) t320006 t320008 _ ?side1 ?side2 A11.out).mono ?_); (case side1 => repeat (first | exact HR320007_5.out | (with_reducible refine Kd.C_alloc ?_ _) | (with_reducible refine Kd.C_drewN ?_ _) | (with_reducible refine Kd.C_drew ?_))); (case side2 => exact HC320007_5.out); rintro e w' ⟨rfl, ⟨nd, rfl⟩⟩; refine ⟨_, rfl, ?_⟩))
           go_roundg k1
           case measure => have := HK1.out; omega
           case rel => exact ⟨(t320008), (wrap64 (x5_1 + 1)), (by first | rfl | (simp; done) | (simp [*]; done)), (by first | rfl | (simp; done) | (simp [*]; done)), H', ⟨by have := HK1.out; omega⟩, by repeat (first | exact Drawn0.refl _ | apply Drawn0.step)⟩
        ·rw [if_neg c8] at H
         have c8b0 : (((rd_T75 l0 x5_1).f3) == (wrap64 ((wrap64 ((wrap64 (x1_1 + 1)) + 1)) + 1))) = false := beq_eq_false_iff_ne.mpr c8
         have c8b1 : (((rd_T75 l0 x5_1).f3) != (wrap64 ((wrap64 ((wrap64 (x1_1 + 1)) + 1)) + 1))) = true := bne_iff_ne.mpr c8
         obtain rfl := Option.some.inj H
         have p320001 : 0 ≤ (x5_1 : Int) := of_decide_eq_true (by first | (with_reducible assumption) | assumption)
         have q320001 : x5_1 < (l0.length : Int) := of_decide_eq_true (by first | (with_reducible assumption) | assumption)
         obtain ⟨ad320001, A320001_4, c320001_4, A320001_5, c320001_5, e320001, hx320001_0, hx320001_1, hx320001_2, hx320001_3, hx320001_4, hx320001_5, hl320001_4, hi320001_4, hl320001_5, hi320001_5⟩ := at_T75 HR0.out x5_1 p320001 q320001
         cases e320001
         have HR320001_4 := Aside0.mk hi320001_4
         have HC320001_4 := Aside0.mk hl320001_4
         clear hi320001_4 hl320001_4
         have HR320001_5 := Aside0.mk hi320001_5
         have HC320001_5 := Aside0.mk hl320001_5
         clear hi320001_5 hl320001_5
         replace p320001 := eq_true p320001
         replace q320001 := eq_true q320001
         have p320002 : 0 ≤ (x5_1 : Int) := of_decide_eq_true (by first | (with_reducible assumption) | assumption)
         have q320002 : x5_1 < (l0.length : Int) := of_decide_eq_true (by first | (with_reducible assumption) | assumption)
         obtain ⟨ad320002, A320002_4, c320002_4, A320002_5, c320002_5, e320002, hx320002_0, hx320002_1, hx320002_2, hx320002_3, hx320002_4, hx320002_5, hl320002_4, hi320002_4, hl320002_5, hi320002_5⟩ := at_T75 HR0.out x5_1 p320002 q320002
         obtain rfl : ad320001 = ad320002 := (by injection e320002)
         have HR320002_4 := Aside0.mk hi320002_4
         have HC320002_4 := Aside0.mk hl320002_4
         clear hi320002_4 hl320002_4
         have HR320002_5 := Aside0.mk hi320002_5
         have HC320002_5 := Aside0.mk hl320002_5
         clear hi320002_5 hl320002_5
         replace p320002 := eq_true p320002
         replace q320002 := eq_true q320002
         have ea_ := Option.some.inj (hx320001_4.symm.trans hx320002_4)
         injection ea_ with ea_ en_ ec_
         subst ea_
         subst ec_
         clear en_
         have ea_ := Option.some.inj (hx320001_5.symm.trans hx320002_5)
         injection ea_ with ea_ en_ ec_
         subst ea_
         subst ec_
         clear en_
         have p320003 : 0 ≤ (x5_1 : Int) := of_decide_eq_true (by first | (with_reducible assumption) | assumption)
         have q320003 : x5_1 < (l0.length : Int) := of_decide_eq_true (by first | (with_reducible assumption) | assumption)
         obtain ⟨ad320003, A320003_4, c320003_4, A320003_5, c320003_5, e320003, hx320003_0, hx320003_1, hx320003_2, hx320003_3, hx320003_4, hx320003_5, hl320003_4, hi320003_4, hl320003_5, hi320003_5⟩ := at_T75 HR0.out x5_1 p320003 q320003
         obtain rfl : ad320001 = ad320003 := (by injection e320003)
         have HR320003_4 := Aside0.mk hi320003_4
         have HC320003_4 := Aside0.mk hl320003_4
         clear hi320003_4 hl320003_4
         have HR320003_5 := Aside0.mk hi320003_5
         have HC320003_5 := Aside0.mk hl320003_5
         clear hi320003_5 hl320003_5
         replace p320003 := eq_true p320003
         replace q320003 := eq_true q320003
         have ea_ := Option.some.inj (hx320001_4.symm.trans hx320003_4)
         injection ea_ with ea_ en_ ec_
         subst ea_
         subst ec_
         clear en_
         have ea_ := Option.some.inj (hx320001_5.symm.trans hx320003_5)
         injection ea_ with ea_ en_ ec_
         subst ea_
         subst ec_
         clear en_
         have p320004 : 0 ≤ (x5_1 : Int) := of_decide_eq_true (by first | (with_reducible assumption) | assumption)
         have q320004 : x5_1 < (l0.length : Int) := of_decide_eq_true (by first | (with_reducible assumption) | assumption)
         obtain ⟨ad320004, A320004_4, c320004_4, A320004_5, c320004_5, e320004, hx320004_0, hx320004_1, hx320004_2, hx320004_3, hx320004_4, hx320004_5, hl320004_4, hi320004_4, hl320004_5, hi320004_5⟩ := at_T75 HR0.out x5_1 p320004 q320004
         obtain rfl : ad320001 = ad320004 := (by injection e320004)
         have HR320004_4 := Aside0.mk hi320004_4
         have HC320004_4 := Aside0.mk hl320004_4
         clear hi320004_4 hl320004_4
         have HR320004_5 := Aside0.mk hi320004_5
         have HC320004_5 := Aside0.mk hl320004_5
         clear hi320004_5 hl320004_5
         replace p320004 := eq_true p320004
         replace q320004 := eq_true q320004
         have ea_ := Option.some.inj (hx320001_4.symm.trans hx320004_4)
         injection ea_ with ea_ en_ ec_
         subst ea_
         subst ec_
         clear en_
         have ea_ := Option.some.inj (hx320001_5.symm.trans hx320004_5)
         injection ea_ with ea_ en_ ec_
         subst ea_
         subst ec_
         clear en_
         go_wp2
         go_ret
         exact ⟨by first | rfl | (simp; done) | (simp [*]; done), by repeat (first | exact Drawn0.refl _ | apply Drawn0.step)⟩
       ·rw [if_neg c7] at H
        have c7b0 : (((rd_T75 l0 x5_1).f2) == (wrap64 ((wrap64 (x1_1 + 1)) + 1))) = false := beq_eq_false_iff_ne.mpr c7
        have c7b1 : (((rd_T75 l0 x5_1).f2) != (wrap64 ((wrap64 (x1_1 + 1)) + 1))) = true := bne_iff_ne.mpr c7
        obtain rfl := Option.some.inj H
        have p320001 : 0 ≤ (x5_1 : Int) := of_decide_eq_true (by first | (with_reducible assumption) | assumption)
        have q320001 : x5_1 < (l0.length : Int) := of_decide_eq_true (by first | (with_reducible assumption) | assumption)
        obtain ⟨ad320001, A320001_4, c320001_4, A320001_5, c320001_5, e320001, hx320001_0, hx320001_1, hx320001_2, hx320001_3, hx320001_4, hx320001_5, hl320001_4, hi320001_4, hl320001_5, hi320001_5⟩ := at_T75 HR0.out x5_1 p320001 q320001
        cases e320001
        have HR320001_4 := Aside0.mk hi320001_4
        have HC320001_4 := Aside0.mk hl320001_4
        clear hi320001_4 hl320001_4
        have HR320001_5 := Aside0.mk hi320001_5
        have HC320001_5 := Aside0.mk hl320001_5
        clear hi320001_5 hl320001_5
        replace p320001 := eq_true p320001
        replace q320001 := eq_true q320001
        have p320002 : 0 ≤ (x5_1 : Int) := of_decide_eq_true (by first | (with_reducible assumption) | assumption)
        have q320002 : x5_1 < (l0.length : Int) := of_decide_eq_true (by first | (with_reducible assumption) | assumption)
        obtain ⟨ad320002, A320002_4, c320002_4, A320002_5, c320002_5, e320002, hx320002_0, hx320002_1, hx320002_2, hx320002_3, hx320002_4, hx320002_5, hl320002_4, hi320002_4, hl320002_5, hi320002_5⟩ := at_T75 HR0.out x5_1 p320002 q320002
        obtain rfl : ad320001 = ad320002 := (by injection e320002)
        have HR320002_4 := Aside0.mk hi320002_4
        have HC320002_4 := Aside0.mk hl320002_4
        clear hi320002_4 hl320002_4
        have HR320002_5 := Aside0.mk hi320002_5
        have HC320002_5 := Aside0.mk hl320002_5
        clear hi320002_5 hl320002_5
        replace p320002 := eq_true p320002
        replace q320002 := eq_true q320002
        have ea_ := Option.some.inj (hx320001_4.symm.trans hx320002_4)
        injection ea_ with ea_ en_ ec_
        subst ea_
        subst ec_
        clear en_
        have ea_ := Option.some.inj (hx320001_5.symm.trans hx320002_5)
        injection ea_ with ea_ en_ ec_
        subst ea_
        subst ec_
        clear en_
        have p320003 : 0 ≤ (x5_1 : Int) := of_decide_eq_true (by first | (with_reducible assumption) | assumption)
        have q320003 : x5_1 < (l0.length : Int) := of_decide_eq_true (by first | (with_reducible assumption) | assumption)
        obtain ⟨ad320003, A320003_4, c320003_4, A320003_5, c320003_5, e320003, hx320003_0, hx320003_1, hx320003_2, hx320003_3, hx320003_4, hx320003_5, hl320003_4, hi320003_4, hl320003_5, hi320003_5⟩ := at_T75 HR0.out x5_1 p320003 q320003
        obtain rfl : ad320001 = ad320003 := (by injection e320003)
        have HR320003_4 := Aside0.mk hi320003_4
        have HC320003_4 := Aside0.mk hl320003_4
        clear hi320003_4 hl320003_4
        have HR320003_5 := Aside0.mk hi320003_5
        have HC320003_5 := Aside0.mk hl320003_5
        clear hi320003_5 hl320003_5
        replace p320003 := eq_true p320003
        replace q320003 := eq_true q320003
        have ea_ := Option.some.inj (hx320001_4.symm.trans hx320003_4)
        injection ea_ with ea_ en_ ec_
        subst ea_
        subst ec_
        clear en_
        have ea_ := Option.some.inj (hx320001_5.symm.trans hx320003_5)
        injection ea_ with ea_ en_ ec_
        subst ea_
        subst ec_
        clear en_
        go_wp2
        go_ret
        exact ⟨by first | rfl | (simp; done) | (simp [*]; done), by repeat (first | exact Drawn0.refl _ | apply Drawn0.step)⟩
      ·rw [if_neg c6] at H
       have c6b0 : (((rd_T75 l0 x5_1).f1) == (wrap64 (x1_1 + 1))) = false := beq_eq_false_iff_ne.mpr c6
       have c6b1 : (((rd_T75 l0 x5_1).f1) != (wrap64 (x1_1 + 1))) = true := bne_iff_ne.mpr c6
       obtain rfl := Option.some.inj H
       have p320001 : 0 ≤ (x5_1 : Int) := of_decide_eq_true (by first | (with_reducible assumption) | assumption)
       have q320001 : x5_1 < (l0.length : Int) := of_decide_eq_true (by first | (with_reducible assumption) | assumption)
       obtain ⟨ad320001, A320001_4, c320001_4, A320001_5, c320001_5, e320001, hx320001_0, hx320001_1, hx320001_2, hx320001_3, hx320001_4, hx320001_5, hl320001_4, hi320001_4, hl320001_5, hi320001_5⟩ := at_T75 HR0.out x5_1 p320001 q320001
       cases e320001
       have HR320001_4 := Aside0.mk hi320001_4
       have HC320001_4 := Aside0.mk hl320001_4
       clear hi320001_4 hl320001_4
       have HR320001_5 := Aside0.mk hi320001_5
       have HC320001_5 := Aside0.mk hl320001_5
       clear hi320001_5 hl320001_5
       replace p320001 := eq_true p320001
       replace q320001 := eq_true q320001
       have p320002 : 0 ≤ (x5_1 : Int) := of_decide_eq_true (by first | (with_reducible assumption) | assumption)
       have q320002 : x5_1 < (l0.length : Int) := of_decide_eq_true (by first | (with_reducible assumption) | assumption)
       obtain ⟨ad320002, A320002_4, c320002_4, A320002_5, c320002_5, e320002, hx320002_0, hx320002_1, hx320002_2, hx320002_3, hx320002_4, hx320002_5, hl320002_4, hi320002_4, hl320002_5, hi320002_5⟩ := at_T75 HR0.out x5_1 p320002 q320002
       obtain rfl : ad320001 = ad320002 := (by injection e320002)
       have HR320002_4 := Aside0.mk hi320002_4
       have HC320002_4 := Aside0.mk hl320002_4
       clear hi320002_4 hl320002_4
       have HR320002_5 := Aside0.mk hi320002_5
       have HC320002_5 := Aside0.mk hl320002_5
       clear hi320002_5 hl320002_5
       replace p320002 := eq_true p320002
       replace q320002 := eq_true q320002
       have ea_ := Option.some.inj (hx320001_4.symm.trans hx320002_4)
       injection ea_ with ea_ en_ ec_
       subst ea_
       subst ec_
       clear en_
       have ea_ := Option.some.inj (hx320001_5.symm.trans hx320002_5)
       injection ea_ with ea_ en_ ec_
       subst ea_
       subst ec_
       clear en_
       go_wp2
       go_ret
       exact ⟨by first | rfl | (simp; done) | (simp [*]; done), by repeat (first | exact Drawn0.refl _ | apply Drawn0.step)⟩
     ·rw [if_neg c5] at H
      have c5b0 : (((rd_T75 l0 x5_1).f0) == x1_1) = false := beq_eq_false_iff_ne.mpr c5
      have c5b1 : (((rd_T75 l0 x5_1).f0) != x1_1) = true := bne_iff_ne.mpr c5
      obtain rfl := Option.some.inj H
      have p320001 : 0 ≤ (x5_1 : Int) := of_decide_eq_true (by first | (with_reducible assumption) | assumption)
      have q320001 : x5_1 < (l0.length : Int) := of_decide_eq_true (by first | (with_reducible assumption) | assumption)
      obtain ⟨ad320001, A320001_4, c320001_4, A320001_5, c320001_5, e320001, hx320001_0, hx320001_1, hx320001_2, hx320001_3, hx320001_4, hx320001_5, hl320001_4, hi320001_4, hl320001_5, hi320001_5⟩ := at_T75 HR0.out x5_1 p320001 q320001
      cases e320001
      have HR320001_4 := Aside0.mk hi320001_4
      have HC320001_4 := Aside0.mk hl320001_4
      clear hi320001_4 hl320001_4
      have HR320001_5 := Aside0.mk hi320001_5
      have HC320001_5 := Aside0.mk hl320001_5
      clear hi320001_5 hl320001_5
      replace p320001 := eq_true p320001
      replace q320001 := eq_true q320001
      go_wp2
      go_ret
      exact ⟨by first | rfl | (simp; done) | (simp [*]; done), by repeat (first | exact Drawn0.refl _ | apply Drawn0.step)⟩
    ·rw [if_neg c4] at H
     exact absurd H (by simp)
   ·rw [if_neg c3] at H
    have c3b0 : decide (x5_1 < (l0.length : Int)) = false := decide_eq_false c3
    clear c3
    obtain rfl := Option.some.inj H
    go_wp2
    go_ret
    exact ⟨by first | rfl | (simp; done) | (simp [*]; done), by repeat (first | exact Drawn0.refl _ | apply Drawn0.step)⟩

end Go.Proofs.Ythahadclegihaaa.PX
