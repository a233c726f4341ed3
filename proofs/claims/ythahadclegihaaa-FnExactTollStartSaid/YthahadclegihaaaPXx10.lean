import Derived.Test.YthahadclegihaaaPXx0
import Derived.Test.YthahadclegihaaaPXx9
namespace Go.Proofs.Ythahadclegihaaa.PX
open Go.RowKit Go.Proofs.YthahadclegihaaaW.PrintWords Go.Proofs.YthahadclegihaaaW.PrintLast Go.Proofs.YthahadclegihaaaW.PrintMore
attribute [local go_sem] max2_int min2_int max_two min_two max_three min_three max_four min_four
set_option linter.unusedVariables false
set_option linter.unusedSimpArgs false

def laws_eqLockS.l0 : Nat → List (S70) → List (S70) → Int → Option (Bool)
 | 0, _, _, _ => none
 | k + 1, x0, x1, x5 => if x5 < (x0.length : Int) then (if 0 ≤ x5 then (if x5 < (x1.length : Int) then ((laws_eqLock.f k ((rd_T70 x0 x5).f0) ((rd_T70 x0 x5).f1) ((rd_T70 x0 x5).f2) ((rd_T70 x1 x5).f0) ((rd_T70 x1 x5).f1) ((rd_T70 x1 x5).f2)).bind fun t270003 => (if t270003 = true then (laws_eqLockS.l0 k x0 x1 (wrap64 (x5 + 1))) else (some false))) else (none)) else (none)) else (some true)
def laws_eqLockS.f (k : Nat) (l0 : List (S70)) (l1 : List (S70)) : Option (Bool) := if (l0.length : Int) = (l1.length : Int) then (laws_eqLockS.l0 k l0 l1 0) else (some false)
theorem laws_eqLockS.mono_l : ∀ k, (∀ y0 y1 y2, LeO (laws_eqLockS.l0 k y0 y1 y2) (laws_eqLockS.l0 (k + 1) y0 y1 y2))
 | 0 => fun _ _ _ r h => by simp [laws_eqLockS.l0] at h
 | k + 1 => by
  have ih0 := laws_eqLockS.mono_l k
  ·intro y0 y1 y2
   unfold laws_eqLockS.l0
   repeat' first
   | (with_reducible exact ih0 _ _ _)
   | (with_reducible exact laws_eqLock.mono _ _ _ _ _ _ _)
   | (with_reducible exact LeO.refl _)
   | (with_reducible exact LeO.none _)
   | (with_reducible refine LeO.ite ?_ ?_)
   | (with_reducible refine LeO.bind ?_ (fun _ => ?_))
   | exact ih0 _ _ _
   | exact laws_eqLock.mono _ _ _ _ _ _ _
   | exact LeO.none _
   | refine LeO.ite ?_ ?_
   | refine LeO.bind ?_ (fun _ => ?_)
theorem laws_eqLockS.mono : ∀ a0 a1 k, LeO (laws_eqLockS.f k a0 a1) (laws_eqLockS.f (k + 1) a0 a1) := by
 intro a0 a1 k
 have ih0 := laws_eqLockS.mono_l k
 unfold laws_eqLockS.f
 repeat' first
  | (with_reducible exact ih0 _ _ _)
  | (with_reducible exact laws_eqLock.mono _ _ _ _ _ _ _)
  | (with_reducible exact LeO.refl _)
  | (with_reducible exact LeO.none _)
  | (with_reducible refine LeO.ite ?_ ?_)
  | (with_reducible refine LeO.bind ?_ (fun _ => ?_))
  | exact ih0 _ _ _
  | exact laws_eqLock.mono _ _ _ _ _ _ _
  | exact LeO.none _
  | refine LeO.ite ?_ ?_
  | refine LeO.bind ?_ (fun _ => ?_)
def laws_eqLockS.T6 : Bool × List (List Nat × List Nat) := (true, [([], []), ([], []), ([0, 1], [0, 1]), ([2], [2]), ([], []), ([], []), ([4, 5], [4, 5]), ([6], [6]), ([3, 7], [3, 7]), ([8], [8])])
def laws_eqLockS.B6 : List Nat := [0, 0, 3, 7, 0, 0, 48, 112, 255, 511]
theorem laws_eqLockS.tab6 : rtab .any (opsOf Try.f26 6) = laws_eqLockS.T6 := by kernel_rfl
theorem laws_eqLockS.bits6 : waitsOk laws_eqLockS.T6.2 laws_eqLockS.B6 = true := by kernel_rfl
set_option maxHeartbeats 8000000 in
set_option maxRecDepth 100000 in
theorem laws_eqLockS.calls (k : Nat) (A0 : Option Addr) (c0 : Nat) (l0 : List (S70)) (A1 : Option Addr) (c1 : Nat) (l1 : List (S70)) (r : Bool) (w : World) (hr0 : Kd.C k70 w A0 l0.length l0) (hc0 : l0.length ≤ c0) (hr1 : Kd.C k70 w A1 l1.length l1) (hc1 : l1.length ≤ c1) (h : laws_eqLockS.f k l0 l1 = some r) :
 Calls Try.prog 26 #[.slice A0 l0.length c0, .slice A1 l1.length c1] w fun e w' => e = .returned (.bool r) ∧ Below w.heap.size w w' := by
 have hu70 := Try.underlying70
 have HR0 := Aside0.mk hr0
 have HC0 := Aside0.mk hc0
 clear hr0 hc0
 have HR1 := Aside0.mk hr1
 have HC1 := Aside0.mk hc1
 clear hr1 hc1
 have HB := Aside0.mk (Below.refl w.heap.size w)
 have H : (if (l0.length : Int) = (l1.length : Int) then (laws_eqLockS.l0 k l0 l1 0) else (some false)) = some r := h
 clear h
 by_cases c3 : (l0.length : Int) = (l1.length : Int)
 ·rw [if_pos c3] at H
  have c3b0 : ((l0.length : Int) == (l1.length : Int)) = true := beq_iff_eq.mpr c3
  have c3b1 : ((l0.length : Int) != (l1.length : Int)) = false := bne_eq_false_iff_eq.mpr c3
  have c3b2 : (l0.length == l1.length) = true := by first | simpa using c3 | (simp at c3 ⊢; omega)
  clear c3
  have H' := Aside0.mk H
  clear H
  go_enter Try.func26, Try.ntmps26
  go_wp2
  go_loopg [5] k (fun kq v5 w' => ∃ (x5_1 : Int), v5 = .int .i64 x5_1 ∧ Aside0 (laws_eqLockS.l0 kq l0 l1 x5_1 = some r) ∧ Aside0 (kq ≤ k) ∧ Aside0 (Below w.heap.size w w'))
  case atStart => exact ⟨(0), (by first | rfl | (simp; done) | (simp [*]; done)), H', ⟨Nat.le_refl _⟩, ⟨by repeat (first | (with_reducible first | exact HB.out | apply below_alloc | apply pw_below_drewN | apply below_drew1) | exact HB.out)⟩⟩
  case round =>
   clear H'
   try clear c1
   try clear c2
   try clear p2
   try clear c3
   try clear c3b0
   try clear c3b1
   try clear c3b2
   obtain ⟨x5_1, rfl, HA, HK1, HB⟩ := hrel
   cases gk with
   | zero => exact absurd HA.out (by simp [laws_eqLockS.l0])
   | succ k1 =>
    have H := HA.out
    clear HA
    simp only [laws_eqLockS.l0] at H
    by_cases c4 : x5_1 < (l0.length : Int)
    ·rw [if_pos c4] at H
     have c4b0 : decide (x5_1 < (l0.length : Int)) = true := decide_eq_true c4
     clear c4
     by_cases c5 : 0 ≤ x5_1
     ·rw [if_pos c5] at H
      have c5b0 : decide (0 ≤ x5_1) = true := decide_eq_true c5
      clear c5
      by_cases c6 : x5_1 < (l1.length : Int)
      ·rw [if_pos c6] at H
       have c6b0 : decide (x5_1 < (l1.length : Int)) = true := decide_eq_true c6
       clear c6
       replace H := Option.bind_eq_some_iff.mp H
       obtain ⟨t270003, A70, H⟩ := H
       replace H : (if t270003 = true then (laws_eqLockS.l0 k1 l0 l1 (wrap64 (x5_1 + 1))) else (some false)) = some r := H
       have A7 := Aside0.mk A70
       clear A70
       by_cases c8 : t270003 = true
       ·subst c8
        have H1 : (laws_eqLockS.l0 k1 l0 l1 (wrap64 (x5_1 + 1))) = some r := by rw [if_pos rfl] at H; exact H
        clear H
        have H := H1
        clear H1
        have H' := Aside0.mk H
        clear H
        try go_wp2
        have n0_ := Aside0.mk (below_drew1 HB.out)
        clear HB
        have HB := n0_
        clear n0_
        have p270001 : 0 ≤ (x5_1 : Int) := of_decide_eq_true (by first | (with_reducible assumption) | assumption)
        have q270001 : x5_1 < (l0.length : Int) := of_decide_eq_true (by first | (with_reducible assumption) | assumption)
        obtain ⟨ad270001, A270001_1, c270001_1, A270001_2, c270001_2, e270001, hx270001_0, hx270001_1, hx270001_2, hl270001_1, hi270001_1, hl270001_2, hi270001_2⟩ := at_T70 HR0.out x5_1 p270001 q270001
        have hw270001_2 := hx270001_2
        have hw270001_1 := hx270001_1
        have hw270001_0 := hx270001_0
        cases e270001
        replace hx270001_0 := (HB.out.cell (World.block_lt_of_cell? w _ hx270001_0)).trans hx270001_0
        replace hx270001_1 := (HB.out.cell (World.block_lt_of_cell? w _ hx270001_1)).trans hx270001_1
        replace hx270001_2 := (HB.out.cell (World.block_lt_of_cell? w _ hx270001_2)).trans hx270001_2
        have HR270001_1 := Aside0.mk hi270001_1
        have HC270001_1 := Aside0.mk hl270001_1
        clear hi270001_1 hl270001_1
        have HR270001_2 := Aside0.mk hi270001_2
        have HC270001_2 := Aside0.mk hl270001_2
        clear hi270001_2 hl270001_2
        replace p270001 := eq_true p270001
        replace q270001 := eq_true q270001
        have p270002 : 0 ≤ (x5_1 : Int) := of_decide_eq_true (by first | (with_reducible assumption) | assumption)
        have q270002 : x5_1 < (l1.length : Int) := of_decide_eq_true (by first | (with_reducible assumption) | assumption)
        obtain ⟨ad270002, A270002_1, c270002_1, A270002_2, c270002_2, e270002, hx270002_0, hx270002_1, hx270002_2, hl270002_1, hi270002_1, hl270002_2, hi270002_2⟩ := at_T70 HR1.out x5_1 p270002 q270002
        have hw270002_2 := hx270002_2
        have hw270002_1 := hx270002_1
        have hw270002_0 := hx270002_0
        cases e270002
        replace hx270002_0 := (HB.out.cell (World.block_lt_of_cell? w _ hx270002_0)).trans hx270002_0
        replace hx270002_1 := (HB.out.cell (World.block_lt_of_cell? w _ hx270002_1)).trans hx270002_1
        replace hx270002_2 := (HB.out.cell (World.block_lt_of_cell? w _ hx270002_2)).trans hx270002_2
        have HR270002_1 := Aside0.mk hi270002_1
        have HC270002_1 := Aside0.mk hl270002_1
        clear hi270002_1 hl270002_1
        have HR270002_2 := Aside0.mk hi270002_2
        have HC270002_2 := Aside0.mk hl270002_2
        clear hi270002_2 hl270002_2
        replace p270002 := eq_true p270002
        replace q270002 := eq_true q270002
        refine start_ (n := 10) (S := fun w' => w'.cell? (ad270001.add ((x5_1).toNat * 3)) = some (.int .i64 ((rd_T70 l0 x5_1).f0)) ∧ w'.cell? ⟨(ad270001.add ((x5_1).toNat * 3)).block, (ad270001.add ((x5_1).toNat * 3)).off + 1, none⟩ = some (.slice A270001_1 ((rd_T70 l0 x5_1).f1).length c270001_1) ∧ w'.cell? ⟨(ad270001.add ((x5_1).toNat * 3)).block, (ad270001.add ((x5_1).toNat * 3)).off + 2, none⟩ = some (.slice A270001_2 ((rd_T70 l0 x5_1).f2).length c270001_2) ∧ w'.cell? (ad270002.add ((x5_1).toNat * 3)) = some (.int .i64 ((rd_T70 l1 x5_1).f0)) ∧ w'.cell? ⟨(ad270002.add ((x5_1).toNat * 3)).block, (ad270002.add ((x5_1).toNat * 3)).off + 1, none⟩ = some (.slice A270002_1 ((rd_T70 l1 x5_1).f1).length c270002_1) ∧ w'.cell? ⟨(ad270002.add ((x5_1).toNat * 3)).block, (ad270002.add ((x5_1).toNat * 3)).off + 2, none⟩ = some (.slice A270002_2 ((rd_T70 l1 x5_1).f2).length c270002_2)) (ds := []) (bt_ 10 0) (by kernel_rfl) rfl rfl ⟨((HB.out.cell (World.block_lt_of_cell? w _ hw270001_0)).trans hw270001_0), ((HB.out.cell (World.block_lt_of_cell? w _ hw270001_1)).trans hw270001_1), ((HB.out.cell (World.block_lt_of_cell? w _ hw270001_2)).trans hw270001_2), ((HB.out.cell (World.block_lt_of_cell? w _ hw270002_0)).trans hw270002_0), ((HB.out.cell (World.block_lt_of_cell? w _ hw270002_1)).trans hw270002_1), ((HB.out.cell (World.block_lt_of_cell? w _ hw270002_2)).trans hw270002_2)⟩ (fun hHeld => ?_); refine with_tabW laws_eqLockS.tab6 laws_eqLockS.bits6 (fun HT_ HW_ => ?_)
        generalize wr.drew = w9 at HB HR270001_1 HR270001_2 HR270002_1 HR270002_2 hx270001_0 hx270001_1 hx270001_2 hx270002_0 hx270002_1 hx270002_2 hHeld ⊢
        refine pu_ 0 (some 17) (bt_ 10 1) (any_of HT_.out (by kernel_rfl)) ?_
        refine pu_ 1 (some 18) (bt_ 10 3) (any_of HT_.out (by kernel_rfl)) ?_
        refine pu_ 2 (some 19) (bt_ 10 7) (any_of HT_.out (by kernel_rfl)) ?_
        refine pu_ 4 (some 21) (bt_ 10 23) (any_of HT_.out (by kernel_rfl)) ?_
        refine pu_ 5 (some 22) (bt_ 10 55) (any_of HT_.out (by kernel_rfl)) ?_
        refine pu_ 6 (some 23) (bt_ 10 119) (any_of HT_.out (by kernel_rfl)) ?_
        refine tk_ 3 (some 20) (bt_ 10 127) (take_ofW HT_.out HW_.out (by kernel_rfl)) hHeld ?_
        refine tk_ 7 (some 24) (bt_ 10 255) (take_ofW HT_.out HW_.out (by kernel_rfl)) hHeld ?_
        refine one_ (i := 8) (N := some 25) (bt_ 10 511) rfl rfl (one_of HT_.out (by kernel_rfl)) (by decide) (fun K hK => ?_)
        refine goes_ Try.func55 (by kernel_rfl) rfl #[.agg #[.int .i64 ((rd_T70 l0 x5_1).f0), .slice A270001_1 ((rd_T70 l0 x5_1).f1).length c270001_1, .slice A270001_2 ((rd_T70 l0 x5_1).f2).length c270001_2], .agg #[.int .i64 ((rd_T70 l1 x5_1).f0), .slice A270002_1 ((rd_T70 l1 x5_1).f1).length c270002_1, .slice A270002_2 ((rd_T70 l1 x5_1).f2).length c270002_2]] (by rfl) rfl rfl (by (try simp only [List.map_toArray, List.map_cons, List.map_nil]); first | done | rfl | (simp only [List.length_drop, List.length_take]; rfl)) ?_
        with_reducible refine (laws_eqLock.calls k1 ((rd_T70 l0 x5_1).f0) _ _ ((rd_T70 l0 x5_1).f1) _ _ ((rd_T70 l0 x5_1).f2) ((rd_T70 l1 x5_1).f0) _ _ ((rd_T70 l1 x5_1).f1) _ _ ((rd_T70 l1 x5_1).f2) true _ ?side1 ?side2 ?side3 ?side4 ?side5 ?side6 ?side7 ?side8 A7.out).mono ?_
        (case side1 => repeat (first | exact (Kd.C_below HR270001_1.out HB.out) | (with_reducible refine Kd.C_alloc ?_ _) | (with_reducible refine Kd.C_drewN ?_ _) | (with_reducible refine Kd.C_drew ?_)))
        (case side2 => exact HC270001_1.out)
        (case side3 => repeat (first | exact (Kd.C_below HR270001_2.out HB.out) | (with_reducible refine Kd.C_alloc ?_ _) | (with_reducible refine Kd.C_drewN ?_ _) | (with_reducible refine Kd.C_drew ?_)))
        (case side4 => exact HC270001_2.out)
        (case side5 => repeat (first | exact (Kd.C_below HR270002_1.out HB.out) | (with_reducible refine Kd.C_alloc ?_ _) | (with_reducible refine Kd.C_drewN ?_ _) | (with_reducible refine Kd.C_drew ?_)))
        (case side6 => exact HC270002_1.out)
        (case side7 => repeat (first | exact (Kd.C_below HR270002_2.out HB.out) | (with_reducible refine Kd.C_alloc ?_ _) | (with_reducible refine Kd.C_drewN ?_ _) | (with_reducible refine Kd.C_drew ?_)))
        (case side8 => exact HC270002_2.out)
        rintro e w10 ⟨rfl, hb⟩
        refine ⟨_, rfl, ?_⟩
        have n0_ := Aside0.mk (below_step (by repeat (first | (with_reducible first | exact HB.out | apply below_alloc | apply pw_below_drewN | apply below_drew1) | exact HB.out)) hb)
        clear HB
        have HB := n0_
        clear n0_
        (try clear hb)
        (try clear hb2)
        (try clear hk)
        (try clear hi)
        refine hK.out _ _ ⟨((HB.out.cell (World.block_lt_of_cell? w _ hw270001_0)).trans hw270001_0), ((HB.out.cell (World.block_lt_of_cell? w _ hw270001_1)).trans hw270001_1), ((HB.out.cell (World.block_lt_of_cell? w _ hw270001_2)).trans hw270001_2), ((HB.out.cell (World.block_lt_of_cell? w _ hw270002_0)).trans hw270002_0), ((HB.out.cell (World.block_lt_of_cell? w _ hw270002_1)).trans hw270002_1), ((HB.out.cell (World.block_lt_of_cell? w _ hw270002_2)).trans hw270002_2)⟩ (fun hHeld => ?_)
        clear hK K
        refine norm_ (a' := ?_) ?_ ?_
        rotate_left
        ·show Act.put _ (some 25) _ = _
         simp only [Act.put, List.setIfInBounds_toArray, List.set_cons_zero, List.set_cons_succ, i64_w, i32_w]
         rfl
        refine pu_ 9 (some 26) (bt_ 10 1023) (any_of HT_.out (by kernel_rfl)) ?_
        refine done_ (done_of HT_.out (by kernel_rfl)) ?_
        try go_wp2
        go_roundg k1
        case measure => have := HK1.out; omega
        case rel => exact ⟨(wrap64 (x5_1 + 1)), (by first | rfl | (simp; done) | (simp [*]; done)), H', ⟨by have := HK1.out; omega⟩, ⟨by repeat (first | (with_reducible first | exact HB.out | apply below_alloc | apply pw_below_drewN | apply below_drew1) | exact HB.out)⟩⟩
       ·replace c8 := Bool.eq_false_iff.mpr c8
        subst c8
        have H1 : (some false) = some r := by rw [if_neg (show ¬ (false = true) by decide)] at H; exact H
        clear H
        have H := H1
        clear H1
        obtain rfl := Option.some.inj H
        try go_wp2
        have n0_ := Aside0.mk (below_drew1 HB.out)
        clear HB
        have HB := n0_
        clear n0_
        have p270001 : 0 ≤ (x5_1 : Int) := of_decide_eq_true (by first | (with_reducible assumption) | assumption)
        have q270001 : x5_1 < (l0.length : Int) := of_decide_eq_true (by first | (with_reducible assumption) | assumption)
        obtain ⟨ad270001, A270001_1, c270001_1, A270001_2, c270001_2, e270001, hx270001_0, hx270001_1, hx270001_2, hl270001_1, hi270001_1, hl270001_2, hi270001_2⟩ := at_T70 HR0.out x5_1 p270001 q270001
        have hw270001_2 := hx270001_2
        have hw270001_1 := hx270001_1
        have hw270001_0 := hx270001_0
        cases e270001
        replace hx270001_0 := (HB.out.cell (World.block_lt_of_cell? w _ hx270001_0)).trans hx270001_0
        replace hx270001_1 := (HB.out.cell (World.block_lt_of_cell? w _ hx270001_1)).trans hx270001_1
        replace hx270001_2 := (HB.out.cell (World.block_lt_of_cell? w _ hx270001_2)).trans hx270001_2
        have HR270001_1 := Aside0.mk hi270001_1
        have HC270001_1 := Aside0.mk hl270001_1
        clear hi270001_1 hl270001_1
        have HR270001_2 := Aside0.mk hi270001_2
        have HC270001_2 := Aside0.mk hl270001_2
        clear hi270001_2 hl270001_2
        replace p270001 := eq_true p270001
        replace q270001 := eq_true q270001
        have p270002 : 0 ≤ (x5_1 : Int) := of_decide_eq_true (by first | (with_reducible assumption) | assumption)
        have q270002 : x5_1 < (l1.length : Int) := of_decide_eq_true (by first | (with_reducible assumption) | assumption)
        obtain ⟨ad270002, A270002_1, c270002_1, A270002_2, c270002_2, e270002, hx270002_0, hx270002_1, hx270002_2, hl270002_1, hi270002_1, hl270002_2, hi270002_2⟩ := at_T70 HR1.out x5_1 p270002 q270002
        have hw270002_2 := hx270002_2
        have hw270002_1 := hx270002_1
        have hw270002_0 := hx270002_0
        cases e270002
        replace hx270002_0 := (HB.out.cell (World.block_lt_of_cell? w _ hx270002_0)).trans hx270002_0
        replace hx270002_1 := (HB.out.cell (World.block_lt_of_cell? w _ hx270002_1)).trans hx270002_1
        replace hx270002_2 := (HB.out.cell (World.block_lt_of_cell? w _ hx270002_2)).trans hx270002_2
        have HR270002_1 := Aside0.mk hi270002_1
        have HC270002_1 := Aside0.mk hl270002_1
        clear hi270002_1 hl270002_1
        have HR270002_2 := Aside0.mk hi270002_2
        have HC270002_2 := Aside0.mk hl270002_2
        clear hi270002_2 hl270002_2
        replace p270002 := eq_true p270002
        replace q270002 := eq_true q270002
        refine start_ (n := 10) (S := fun w' => w'.cell? (ad270001.add ((x5_1).toNat * 3)) = some (.int .i64 ((rd_T70 l0 x5_1).f0)) ∧ w'.cell? ⟨(ad270001.add ((x5_1).toNat * 3)).block, (ad270001.add ((x5_1).toNat * 3)).off + 1, none⟩ = some (.slice A270001_1 ((rd_T70 l0 x5_1).f1).length c270001_1) ∧ w'.cell? ⟨(ad270001.add ((x5_1).toNat * 3)).block, (ad270001.add ((x5_1).toNat * 3)).off + 2, none⟩ = some (.slice A270001_2 ((rd_T70 l0 x5_1).f2).length c270001_2) ∧ w'.cell? (ad270002.add ((x5_1).toNat * 3)) = some (.int .i64 ((rd_T70 l1 x5_1).f0)) ∧ w'.cell? ⟨(ad270002.add ((x5_1).toNat * 3)).block, (ad270002.add ((x5_1).toNat * 3)).off + 1, none⟩ = some (.slice A270002_1 ((rd_T70 l1 x5_1).f1).length c270002_1) ∧ w'.cell? ⟨(ad270002.add ((x5_1).toNat * 3)).block, (ad270002.add ((x5_1).toNat * 3)).off + 2, none⟩ = some (.slice A270002_2 ((rd_T70 l1 x5_1).f2).length c270002_2)) (ds := []) (bt_ 10 0) (by kernel_rfl) rfl rfl ⟨((HB.out.cell (World.block_lt_of_cell? w _ hw270001_0)).trans hw270001_0), ((HB.out.cell (World.block_lt_of_cell? w _ hw270001_1)).trans hw270001_1), ((HB.out.cell (World.block_lt_of_cell? w _ hw270001_2)).trans hw270001_2), ((HB.out.cell (World.block_lt_of_cell? w _ hw270002_0)).trans hw270002_0), ((HB.out.cell (World.block_lt_of_cell? w _ hw270002_1)).trans hw270002_1), ((HB.out.cell (World.block_lt_of_cell? w _ hw270002_2)).trans hw270002_2)⟩ (fun hHeld => ?_); refine with_tabW laws_eqLockS.tab6 laws_eqLockS.bits6 (fun HT_ HW_ => ?_)
        generalize wr.drew = w11 at HB HR270001_1 HR270001_2 HR270002_1 HR270002_2 hx270001_0 hx270001_1 hx270001_2 hx270002_0 hx270002_1 hx270002_2 hHeld ⊢
        refine pu_ 0 (some 17) (bt_ 10 1) (any_of HT_.out (by kernel_rfl)) ?_
        refine pu_ 1 (some 18) (bt_ 10 3) (any_of HT_.out (by kernel_rfl)) ?_
        refine pu_ 2 (some 19) (bt_ 10 7) (any_of HT_.out (by kernel_rfl)) ?_
        refine pu_ 4 (some 21) (bt_ 10 23) (any_of HT_.out (by kernel_rfl)) ?_
        refine pu_ 5 (some 22) (bt_ 10 55) (any_of HT_.out (by kernel_rfl)) ?_
        refine pu_ 6 (some 23) (bt_ 10 119) (any_of HT_.out (by kernel_rfl)) ?_
        refine tk_ 3 (some 20) (bt_ 10 127) (take_ofW HT_.out HW_.out (by kernel_rfl)) hHeld ?_
        refine tk_ 7 (some 24) (bt_ 10 255) (take_ofW HT_.out HW_.out (by kernel_rfl)) hHeld ?_
        refine one_ (i := 8) (N := some 25) (bt_ 10 511) rfl rfl (one_of HT_.out (by kernel_rfl)) (by decide) (fun K hK => ?_)
        refine goes_ Try.func55 (by kernel_rfl) rfl #[.agg #[.int .i64 ((rd_T70 l0 x5_1).f0), .slice A270001_1 ((rd_T70 l0 x5_1).f1).length c270001_1, .slice A270001_2 ((rd_T70 l0 x5_1).f2).length c270001_2], .agg #[.int .i64 ((rd_T70 l1 x5_1).f0), .slice A270002_1 ((rd_T70 l1 x5_1).f1).length c270002_1, .slice A270002_2 ((rd_T70 l1 x5_1).f2).length c270002_2]] (by rfl) rfl rfl (by (try simp only [List.map_toArray, List.map_cons, List.map_nil]); first | done | rfl | (simp only [List.length_drop, List.length_take]; rfl)) ?_
        with_reducible refine (laws_eqLock.calls k1 ((rd_T70 l0 x5_1).f0) _ _ ((rd_T70 l0 x5_1).f1) _ _ ((rd_T70 l0 x5_1).f2) ((rd_T70 l1 x5_1).f0) _ _ ((rd_T70 l1 x5_1).f1) _ _ ((rd_T70 l1 x5_1).f2) false _ ?side1 ?side2 ?side3 ?side4 ?side5 ?side6 ?side7 ?side8 A7.out).mono ?_
        (case side1 => repeat (first | exact (Kd.C_below HR270001_1.out HB.out) | (with_reducible refine Kd.C_alloc ?_ _) | (with_reducible refine Kd.C_drewN ?_ _) | (with_reducible refine Kd.C_drew ?_)))
        (case side2 => exact HC270001_1.out)
        (case side3 => repeat (first | exact (Kd.C_below HR270001_2.out HB.out) | (with_reducible refine Kd.C_alloc ?_ _) | (with_reducible refine Kd.C_drewN ?_ _) | (with_reducible refine Kd.C_drew ?_)))
        (case side4 => exact HC270001_2.out)
        (case side5 => repeat (first | exact (Kd.C_below HR270002_1.out HB.out) | (with_reducible refine Kd.C_alloc ?_ _) | (with_reducible refine Kd.C_drewN ?_ _) | (with_reducible refine Kd.C_drew ?_)))
        (case side6 => exact HC270002_1.out)
        (case side7 => repeat (first | exact (Kd.C_below HR270002_2.out HB.out) | (with_reducible refine Kd.C_alloc ?_ _) | (with_reducible refine Kd.C_drewN ?_ _) | (with_reducible refine Kd.C_drew ?_)))
        (case side8 => exact HC270002_2.out)
        rintro e w12 ⟨rfl, hb⟩
        refine ⟨_, rfl, ?_⟩
        have n0_ := Aside0.mk (below_step (by repeat (first | (with_reducible first | exact HB.out | apply below_alloc | apply pw_below_drewN | apply below_drew1) | exact HB.out)) hb)
        clear HB
        have HB := n0_
        clear n0_
        (try clear hb)
        (try clear hb2)
        (try clear hk)
        (try clear hi)
        refine hK.out _ _ ⟨((HB.out.cell (World.block_lt_of_cell? w _ hw270001_0)).trans hw270001_0), ((HB.out.cell (World.block_lt_of_cell? w _ hw270001_1)).trans hw270001_1), ((HB.out.cell (World.block_lt_of_cell? w _ hw270001_2)).trans hw270001_2), ((HB.out.cell (World.block_lt_of_cell? w _ hw270002_0)).trans hw270002_0), ((HB.out.cell (World.block_lt_of_cell? w _ hw270002_1)).trans hw270002_1), ((HB.out.cell (World.block_lt_of_cell? w _ hw270002_2)).trans hw270002_2)⟩ (fun hHeld => ?_)
        clear hK K
        refine norm_ (a' := ?_) ?_ ?_
        rotate_left
        ·show Act.put _ (some 25) _ = _
         simp only [Act.put, List.setIfInBounds_toArray, List.set_cons_zero, List.set_cons_succ, i64_w, i32_w]
         rfl
        refine pu_ 9 (some 26) (bt_ 10 1023) (any_of HT_.out (by kernel_rfl)) ?_
        refine done_ (done_of HT_.out (by kernel_rfl)) ?_
        try go_wp2
        go_ret
        exact ⟨by first | rfl | (simp [errW_none, errW_some] <;> rfl) | (simp [*, errW_none, errW_some] <;> rfl), by repeat (first | (with_reducible first | exact HB.out | apply below_alloc | apply pw_below_drewN | apply below_drew1) | exact HB.out)⟩
      ·rw [if_neg c6] at H
       exact absurd H (by simp)
     ·rw [if_neg c5] at H
      exact absurd H (by simp)
    ·rw [if_neg c4] at H
     have c4b0 : decide (x5_1 < (l0.length : Int)) = false := decide_eq_false c4
     clear c4
     obtain rfl := Option.some.inj H
     go_wp2
     go_ret
     exact ⟨by first | rfl | (simp [errW_none, errW_some] <;> rfl) | (simp [*, errW_none, errW_some] <;> rfl), by repeat (first | (with_reducible first | exact HB.out | apply below_alloc | apply pw_below_drewN | apply below_drew1) | exact HB.out)⟩
 ·rw [if_neg c3] at H
  have c3b0 : ((l0.length : Int) == (l1.length : Int)) = false := beq_eq_false_iff_ne.mpr c3
  have c3b1 : ((l0.length : Int) != (l1.length : Int)) = true := bne_iff_ne.mpr c3
  have c3b2 : (l0.length == l1.length) = false := by first | simpa using c3 | (simp at c3 ⊢; omega)
  obtain rfl := Option.some.inj H
  go_enter Try.func26, Try.ntmps26
  go_wp2
  go_ret
  exact ⟨by first | rfl | (simp [errW_none, errW_some] <;> rfl) | (simp [*, errW_none, errW_some] <;> rfl), by repeat (first | (with_reducible first | exact HB.out | apply below_alloc | apply pw_below_drewN | apply below_drew1) | exact HB.out)⟩

end Go.Proofs.Ythahadclegihaaa.PX
