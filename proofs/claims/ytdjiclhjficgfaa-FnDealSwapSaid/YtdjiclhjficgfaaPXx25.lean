import Derived.Test.YtdjiclhjficgfaaPXx0
import Derived.Test.YtdjiclhjficgfaaPXx11
import Derived.Test.YtdjiclhjficgfaaPXx13
import Derived.Test.YtdjiclhjficgfaaPXx19
import Derived.Test.YtdjiclhjficgfaaPXx20
namespace Go.Proofs.Ytdjiclhjficgfaa.PX
open Go.RowKit Go.Proofs.YtdjiclhjficgfaaW.PrintWords Go.Proofs.YtdjiclhjficgfaaW.PrintLast Go.Proofs.YtdjiclhjficgfaaW.PrintMore
attribute [local go_sem] max2_int min2_int max_two min_two max_three min_three max_four min_four
set_option linter.unusedVariables false
set_option linter.unusedSimpArgs false

mutual
def laws_FnDealSwap.l0 : Nat → List (S46) → List (S48) → List (S46) → Int → Option (Bool)
 | 0, _, _, _, _ => none
 | k + 1, x3, x4, x5, x6 => if x6 < (x3.length : Int) then (if 0 ≤ x6 then (if ((rd_T46 x3 x6).f0) = 2 then (if x5.length < 5864062014805 then (laws_FnDealSwap.l0 k x3 x4 (x5 ++ [(⟨(rd_T46 x3 x6).f0, (rd_T46 x3 x6).f1, (rd_T46 x3 x6).f2⟩ : S46)]) (wrap64 (x6 + 1))) else (none)) else (if ((rd_T46 x3 x6).f0) = 3 then (if x5.length < 5864062014805 then (laws_FnDealSwap.l0 k x3 x4 (x5 ++ [(⟨(rd_T46 x3 x6).f0, (rd_T46 x3 x6).f1, (rd_T46 x3 x6).f2⟩ : S46)]) (wrap64 (x6 + 1))) else (none)) else (laws_FnDealSwap.l0 k x3 x4 x5 (wrap64 (x6 + 1))))) else (none)) else ((spec_DealRun.f k x5 x4).bind fun bt70020 => ((impl_DealRun.f k x5 x4).bind fun bt70027 => (if bt70027.1 = bt70020.1 then ((laws_loInts.f k bt70027.2.1 bt70020.2.1).bind fun t70034 => (if t70034 = true then ((laws_loPairs.f k bt70027.2.2 bt70020.2.2).bind fun t70035 => (if t70035 = true then (if (x5.length : Int) < 2 then (laws_FnDealSwap.j1 k x4 x5 bt70020.1 bt70020.2.1 bt70020.2.2 bt70027.1 bt70027.2.1 bt70027.2.2 true) else (if bt70027.1 = 0 then (if 0 < (x5.length : Int) then (if 1 < (x5.length : Int) then (laws_FnDealSwap.j1 k x4 x5 bt70020.1 bt70020.2.1 bt70020.2.2 bt70027.1 bt70027.2.1 bt70027.2.2 (((rd_T46 x5 0).f1) == ((rd_T46 x5 1).f1))) else (none)) else (none)) else (laws_FnDealSwap.j1 k x4 x5 bt70020.1 bt70020.2.1 bt70020.2.2 bt70027.1 bt70027.2.1 bt70027.2.2 true))) else (laws_FnDealSwap.j1 k x4 x5 bt70020.1 bt70020.2.1 bt70020.2.2 bt70027.1 bt70027.2.1 bt70027.2.2 true))) else (laws_FnDealSwap.j1 k x4 x5 bt70020.1 bt70020.2.1 bt70020.2.2 bt70027.1 bt70027.2.1 bt70027.2.2 true))) else (laws_FnDealSwap.j1 k x4 x5 bt70020.1 bt70020.2.1 bt70020.2.2 bt70027.1 bt70027.2.1 bt70027.2.2 true))))
def laws_FnDealSwap.j1 : Nat → List (S48) → List (S46) → Int → List Int → List (S48) → Int → List Int → List (S48) → Bool → Option (Bool)
 | 0, _, _, _, _, _, _, _, _, _ => none
 | k + 1, x4, x5, x7, x8, x9, x10, x11, x12, x101 => if x101 = true then (if x10 = x7 then ((laws_loInts.f k x11 x8).bind fun t70038 => (if t70038 = true then ((laws_loPairs.f k x12 x9).bind fun t70039 => (some t70039)) else (some false))) else (some false)) else (if 1 < (x5.length : Int) then (if 0 < (x5.length : Int) then ((some (([(⟨(rd_T46 x5 1).f0, (rd_T46 x5 1).f1, (rd_T46 x5 1).f2⟩ : S46), (⟨(rd_T46 x5 0).f0, (rd_T46 x5 0).f1, (rd_T46 x5 0).f2⟩ : S46)] : List (S46)) : List (S46))).bind fun y70042 => (if 2 ≤ (x5.length : Int) then ((some (x5.drop 2 : List (S46))).bind fun y70045 => (if y70042.length + y70045.length < 5864062014805 then ((impl_DealRun.f k (y70042 ++ y70045) x4).bind fun bt70052 => (if bt70052.1 = x10 then (if (bt70052.2.1.length : Int) = 0 then ((laws_loPairs.f k bt70052.2.2 x12).bind fun t70059 => (some t70059)) else (some false)) else (some false))) else (none))) else (none))) else (none)) else (none))
end
def laws_FnDealSwap.f (k : Nat) (l0 : List Int) : Option (Bool) := if (l0.length : Int) > 1048576 then (some true) else ((spec_DrawDealRun.f k l0).bind fun bt70001 => (laws_FnDealSwap.l0 k bt70001.1 bt70001.2 (([] : List (S46))) 0))
theorem laws_FnDealSwap.mono_l : ∀ k, (∀ y0 y1 y2 y3, LeO (laws_FnDealSwap.l0 k y0 y1 y2 y3) (laws_FnDealSwap.l0 (k + 1) y0 y1 y2 y3)) ∧ (∀ y0 y1 y2 y3 y4 y5 y6 y7 y8, LeO (laws_FnDealSwap.j1 k y0 y1 y2 y3 y4 y5 y6 y7 y8) (laws_FnDealSwap.j1 (k + 1) y0 y1 y2 y3 y4 y5 y6 y7 y8))
 | 0 => ⟨fun _ _ _ _ r h => by simp [laws_FnDealSwap.l0] at h, fun _ _ _ _ _ _ _ _ _ r h => by simp [laws_FnDealSwap.j1] at h⟩
 | k + 1 => by
  obtain ⟨ih0, ih1⟩ := laws_FnDealSwap.mono_l k
  refine ⟨?_, ?_⟩
  ·intro y0 y1 y2 y3
   unfold laws_FnDealSwap.l0
   repeat' first
   | (with_reducible exact ih0 _ _ _ _)
   | (with_reducible exact ih1 _ _ _ _ _ _ _ _ _)
   | (with_reducible exact impl_DealRun.mono _ _ _)
   | (with_reducible exact laws_loInts.mono _ _ _)
   | (with_reducible exact laws_loPairs.mono _ _ _)
   | (with_reducible exact spec_DealRun.mono _ _ _)
   | (with_reducible exact spec_DrawDealRun.mono _ _)
   | (with_reducible exact LeO.refl _)
   | (with_reducible exact LeO.none _)
   | (with_reducible refine LeO.ite ?_ ?_)
   | (with_reducible refine LeO.bind ?_ (fun _ => ?_))
   | exact ih0 _ _ _ _
   | exact ih1 _ _ _ _ _ _ _ _ _
   | exact impl_DealRun.mono _ _ _
   | exact laws_loInts.mono _ _ _
   | exact laws_loPairs.mono _ _ _
   | exact spec_DealRun.mono _ _ _
   | exact spec_DrawDealRun.mono _ _
   | exact LeO.none _
   | refine LeO.ite ?_ ?_
   | refine LeO.bind ?_ (fun _ => ?_)
  ·intro y0 y1 y2 y3 y4 y5 y6 y7 y8
   unfold laws_FnDealSwap.j1
   repeat' first
   | (with_reducible exact ih0 _ _ _ _)
   | (with_reducible exact ih1 _ _ _ _ _ _ _ _ _)
   | (with_reducible exact impl_DealRun.mono _ _ _)
   | (with_reducible exact laws_loInts.mono _ _ _)
   | (with_reducible exact laws_loPairs.mono _ _ _)
   | (with_reducible exact spec_DealRun.mono _ _ _)
   | (with_reducible exact spec_DrawDealRun.mono _ _)
   | (with_reducible exact LeO.refl _)
   | (with_reducible exact LeO.none _)
   | (with_reducible refine LeO.ite ?_ ?_)
   | (with_reducible refine LeO.bind ?_ (fun _ => ?_))
   | exact ih0 _ _ _ _
   | exact ih1 _ _ _ _ _ _ _ _ _
   | exact impl_DealRun.mono _ _ _
   | exact laws_loInts.mono _ _ _
   | exact laws_loPairs.mono _ _ _
   | exact spec_DealRun.mono _ _ _
   | exact spec_DrawDealRun.mono _ _
   | exact LeO.none _
   | refine LeO.ite ?_ ?_
   | refine LeO.bind ?_ (fun _ => ?_)
theorem laws_FnDealSwap.mono : ∀ a0 k, LeO (laws_FnDealSwap.f k a0) (laws_FnDealSwap.f (k + 1) a0) := by
 intro a0 k
 obtain ⟨ih0, ih1⟩ := laws_FnDealSwap.mono_l k
 unfold laws_FnDealSwap.f
 repeat' first
  | (with_reducible exact ih0 _ _ _ _)
  | (with_reducible exact ih1 _ _ _ _ _ _ _ _ _)
  | (with_reducible exact impl_DealRun.mono _ _ _)
  | (with_reducible exact laws_loInts.mono _ _ _)
  | (with_reducible exact laws_loPairs.mono _ _ _)
  | (with_reducible exact spec_DealRun.mono _ _ _)
  | (with_reducible exact spec_DrawDealRun.mono _ _)
  | (with_reducible exact LeO.refl _)
  | (with_reducible exact LeO.none _)
  | (with_reducible refine LeO.ite ?_ ?_)
  | (with_reducible refine LeO.bind ?_ (fun _ => ?_))
  | exact ih0 _ _ _ _
  | exact ih1 _ _ _ _ _ _ _ _ _
  | exact impl_DealRun.mono _ _ _
  | exact laws_loInts.mono _ _ _
  | exact laws_loPairs.mono _ _ _
  | exact spec_DealRun.mono _ _ _
  | exact spec_DrawDealRun.mono _ _
  | exact LeO.none _
  | refine LeO.ite ?_ ?_
  | refine LeO.bind ?_ (fun _ => ?_)
def laws_FnDealSwap.T12 : Bool × List (List Nat × List Nat) := (true, [([], []), ([], []), ([0, 1], [0, 1]), ([2], [2]), ([3], [3]), ([3], [3]), ([4, 5, 3, 3], [3, 4, 5]), ([6, 3], [3, 6]), ([3, 7], [3, 7]), ([8, 6], [8]), ([9], [9]), ([9], [9]), ([10, 11, 9, 9], [9, 10, 11]), ([12, 9], [9, 12]), ([9, 13], [9, 13]), ([14, 12], [14]), ([15], [15]), ([16, 15], [15, 16]), ([17, 15], [15, 17]), ([15, 18], [15, 18]), ([19, 15], [19]), ([20], [20]), ([21, 20], [20, 21]), ([20, 22], [20, 22]), ([23, 20], [23]), ([24], [24]), ([25, 24], [24, 25]), ([26, 24], [24, 26]), ([27, 24], [24, 27]), ([24], [24]), ([29, 24], [24, 29]), ([30, 24], [24, 30]), ([31, 24], [24, 31]), ([28, 32, 24], [24, 28, 32]), ([24, 33], [24, 33])])
def laws_FnDealSwap.B12 : List Nat := [0, 0, 3, 7, 15, 15, 63, 127, 255, 511, 1023, 1023, 4095, 8191, 16383, 32767, 65535, 131071, 262143, 524287, 1048575, 2097151, 4194303, 8388607, 16777215, 33554431, 67108863, 134217727, 268435455, 33554431, 570425343, 1644167167, 3791650815, 8589934591, 17179869183]
theorem laws_FnDealSwap.tab12 : rtab .any (opsOf Try.f6 12) = laws_FnDealSwap.T12 := by kernel_rfl
theorem laws_FnDealSwap.bits12 : waitsOk laws_FnDealSwap.T12.2 laws_FnDealSwap.B12 = true := by kernel_rfl
def laws_FnDealSwap.T14 : Bool × List (List Nat × List Nat) := (true, [([], []), ([0], [0]), ([1], [1]), ([], []), ([3], [3]), ([4], [4]), ([2, 5], [2, 5]), ([], []), ([7], [7]), ([6, 8], [6, 8]), ([9, 9, 0, 1, 2, 3, 4, 5, 6, 7, 8, 9], [9])])
def laws_FnDealSwap.B14 : List Nat := [0, 1, 3, 0, 8, 24, 63, 0, 128, 511, 1023]
theorem laws_FnDealSwap.tab14 : rtab .any (opsOf Try.f6 14) = laws_FnDealSwap.T14 := by kernel_rfl
theorem laws_FnDealSwap.bits14 : waitsOk laws_FnDealSwap.T14.2 laws_FnDealSwap.B14 = true := by kernel_rfl
set_option maxHeartbeats 8000000 in
set_option maxRecDepth 100000 in
theorem laws_FnDealSwap.calls (k : Nat) (A0 : Option Addr) (c0 : Nat) (l0 : List Int) (r : Bool) (w : World) (hr0 : Kd.C (Kd.int .u8) w A0 l0.length l0) (hc0 : l0.length ≤ c0) (hr_ : r = true) (h : laws_FnDealSwap.f k l0 = some r) :
 Calls Try.prog 6 #[.slice A0 l0.length c0] w fun e w' => e = .returned (.bool r) ∧ Below w.heap.size w w' := by
 subst hr_
 have hu46 := Try.underlying46
 have HR0 := Aside0.mk hr0
 have HC0 := Aside0.mk hc0
 clear hr0 hc0
 have HB := Aside0.mk (Below.refl w.heap.size w)
 have H : (if (l0.length : Int) > 1048576 then (some true) else ((spec_DrawDealRun.f k l0).bind fun bt70001 => (laws_FnDealSwap.l0 k bt70001.1 bt70001.2 (([] : List (S46))) 0))) = some true := h
 clear h
 by_cases c2 : (l0.length : Int) > 1048576
 ·rw [if_pos c2] at H
  have c2b0 : decide (1048576 < (l0.length : Int)) = true := decide_eq_true c2
  have c2b1 : decide (1048576 < l0.length) = true := decide_eq_true (by omega)
  clear c2
  clear H
  go_enter Try.func6, Try.ntmps6
  go_wp2
  go_ret
  exact ⟨by first | rfl | (simp [errW_none, errW_some] <;> rfl) | (simp [*, errW_none, errW_some] <;> rfl), by repeat (first | (with_reducible first | exact HB.out | apply below_alloc | apply pw_below_drewN | apply below_drew1) | exact HB.out)⟩
 ·rw [if_neg c2] at H
  have c2b0 : decide (1048576 < (l0.length : Int)) = false := decide_eq_false c2
  have c2b1 : decide (1048576 < l0.length) = false := decide_eq_false (by omega)
  clear c2
  replace H := Option.bind_eq_some_iff.mp H
  obtain ⟨⟨t70001, t70002⟩, A30, H⟩ := H
  replace H : (laws_FnDealSwap.l0 k t70001 t70002 (([] : List (S46))) 0) = some true := H
  have A3 := Aside0.mk A30
  clear A30
  obtain ⟨y70007, hy70007⟩ : ∃ y_ : List (S46), y_ = (([] : List (S46))) := ⟨_, rfl⟩
  replace H : (laws_FnDealSwap.l0 k t70001 t70002 y70007 0) = some true := by first | (rw [hy70007]; with_reducible exact H) | (have H2_ := (Option.bind_some _ _).symm.trans H; rw [hy70007]; with_reducible exact H2_) | (have H2_ := (Option.bind_some _ _).symm.trans H; with_reducible exact H2_) | with_reducible exact H | (rw [hy70007]; exact H) | exact H
  have Ny70007 := Aside0.mk hy70007
  clear hy70007
  have H' := Aside0.mk H
  clear H
  go_enter Try.func6, Try.ntmps6
  go_wp2_with (first | ((with_reducible refine gate_callee (f := 30) rfl ?_); refine goesL_ (some 22) rfl rfl Try.func30 (by kernel_rfl) rfl #[.slice A0 l0.length c0] rfl (by (try simp only [List.map_toArray, List.map_cons, List.map_nil]); first | done | rfl | (simp only [List.length_drop, List.length_take]; rfl)) ?_; (with_reducible refine (spec_DrawDealRun.calls k _ _ l0 t70001 t70002 _ ?side1 ?side2 A3.out).mono ?_); (case side1 => repeat (first | exact HR0.out | (with_reducible refine Kd.C_alloc ?_ _) | (with_reducible refine Kd.C_drewN ?_ _) | (with_reducible refine Kd.C_drew ?_))); (case side2 => exact HC0.out); rintro e w4 ⟨v70003, v70005, rfl, ho0, ho1, hb⟩; refine ⟨_, rfl, ?_⟩; have n0_ := Aside0.mk (Kd.R_lower ho0 (below_size (by repeat (first | (with_reducible first | exact HB.out | apply below_alloc | apply pw_below_drewN | apply below_drew1) | exact HB.out)))); have n1_ := Aside0.mk (Kd.R_lower ho1 (below_size (by repeat (first | (with_reducible first | exact HB.out | apply below_alloc | apply pw_below_drewN | apply below_drew1) | exact HB.out)))); have n2_ := Aside0.mk (below_step (by repeat (first | (with_reducible first | exact HB.out | apply below_alloc | apply pw_below_drewN | apply below_drew1) | exact HB.out)) hb); clear HB; have HO70004 := n0_; have HO70006 := n1_; have HB := n2_; clear n0_ n1_ n2_; (try clear hb); (try clear hb2); (try clear hk); (try clear hi); (try clear ho0); (try clear ho1)) | ((with_reducible refine gate_dst (N := 25) rfl ?_); (try (refine gate_guard (by rfl) ?_; dsimp only)); refine Kd.R_lit k46 _ 46 ?hg (N := 25) ?hd (xs := ([] : List (S46))) (inner := []) (ok := fun _ => True) (okp := fun _ => True) ?hr ?hp (fun _ hk => hk) trivial (Below.refl _ _) (Nat.le_refl _) (by simp) ?_; (case hd => rfl); (case hg => rfl); (case hr => first | (go_simp; done) | (go_simp; rfl)); (case hp => exact (Reps.none _ _)); intro v70008 w5 ho6 hb hg_ hnew_; clear hg_ hnew_; (first | rw [← Ny70007.out] at ho6 | (simp only [Int.reduceToNat] at ho6; rw [← Ny70007.out] at ho6)); have n0_ := Aside0.mk (Kd.R_elder' (by (with_reducible repeat (first | apply Kd.R_alloc | apply Kd.R_drewN | apply Kd.R_drew)); exact HO70004.out) (Kd.R_base ho6) hb); have n1_ := Aside0.mk (Kd.R_below (by (with_reducible repeat (first | apply Kd.R_alloc | apply Kd.R_drewN | apply Kd.R_drew)); exact HO70006.out) hb); have n2_ := Aside0.mk (Kd.R_lower (Kd.R_new' ho6 (Kd.R_lt (by (with_reducible repeat (first | apply Kd.R_alloc | apply Kd.R_drewN | apply Kd.R_drew)); exact HO70004.out))) (below_size (by repeat (first | (with_reducible first | exact HB.out | apply below_alloc | apply pw_below_drewN | apply below_drew1) | exact HB.out)))); have n3_ := Aside0.mk (below_step (by repeat (first | (with_reducible first | exact HB.out | apply below_alloc | apply pw_below_drewN | apply below_drew1) | exact HB.out)) hb); clear HO70004; clear HO70006; clear HB; have HO70004 := n0_; have HO70006 := n1_; have HO70009 := n2_; have HB := n3_; clear n0_ n1_ n2_ n3_; clear hb ho6))
  go_loopg [5, 6] k (fun kq v5 v6 w' => ∃ (x5_1 : List (S46)) (x6_1 : Int), v6 = .int .i64 x6_1 ∧ Aside0 (laws_FnDealSwap.l0 kq t70001 t70002 x5_1 x6_1 = some true) ∧ Aside0 (kq ≤ k) ∧ Aside0 (Kd.R k46 46 w' w.heap.size (fun k_ => some k_ ≠ (v5 : Value).ownBlock) v70003 t70001) ∧ Aside0 (Kd.R k48 48 w' w.heap.size (fun _ => True) v70005 t70002) ∧ Aside0 (Kd.R k46 46 w' w.heap.size (fun k_ => some k_ ≠ (v70003 : Value).ownBlock) v5 x5_1) ∧ Aside0 (Below w.heap.size w w'))
  case atStart => exact ⟨(y70007), (0), (by first | rfl | (simp; done) | (simp [*]; done)), H', ⟨Nat.le_refl _⟩, ⟨by (with_reducible repeat (first | apply Kd.R_alloc | apply Kd.R_drewN | apply Kd.R_drew)); exact Kd.R_mono HO70004.out (fun _ hk => hk.2)⟩, ⟨by (with_reducible repeat (first | apply Kd.R_alloc | apply Kd.R_drewN | apply Kd.R_drew)); exact HO70006.out⟩, ⟨by (with_reducible repeat (first | apply Kd.R_alloc | apply Kd.R_drewN | apply Kd.R_drew)); exact Kd.R_mono HO70009.out (fun _ hk => hk.2)⟩, ⟨by repeat (first | (with_reducible first | exact HB.out | apply below_alloc | apply pw_below_drewN | apply below_drew1) | exact HB.out)⟩⟩
  case round =>
   clear H'
   try clear c2
   try clear c2b0
   try clear c2b1
   try clear p2
   try clear c3
   try clear c6
   obtain ⟨x5_1, x6_1, rfl, HA, HK1, HO_3, HO_4, HO_5, HB⟩ := hrel
   cases gk with
   | zero => exact absurd HA.out (by simp [laws_FnDealSwap.l0])
   | succ k1 =>
    have H := HA.out
    clear HA
    simp only [laws_FnDealSwap.l0] at H
    by_cases c7 : x6_1 < (t70001.length : Int)
    ·rw [if_pos c7] at H
     have c7b0 : decide (x6_1 < (t70001.length : Int)) = true := decide_eq_true c7
     clear c7
     by_cases c8 : 0 ≤ x6_1
     ·rw [if_pos c8] at H
      have c8b0 : decide (0 ≤ x6_1) = true := decide_eq_true c8
      clear c8
      by_cases c9 : ((rd_T46 t70001 x6_1).f0) = 2
      ·rw [if_pos c9] at H
       have c9b0 : (((rd_T46 t70001 x6_1).f0) == 2) = true := beq_iff_eq.mpr c9
       have c9b1 : (((rd_T46 t70001 x6_1).f0) != 2) = false := bne_eq_false_iff_eq.mpr c9
       clear c9
       by_cases c10 : x5_1.length < 5864062014805
       ·rw [if_pos c10] at H
        have LMc10 := Aside0.mk c10
        clear c10
        obtain ⟨y70012, hy70012⟩ : ∃ y_ : List (S46), y_ = (x5_1 ++ [(⟨(rd_T46 t70001 x6_1).f0, (rd_T46 t70001 x6_1).f1, (rd_T46 t70001 x6_1).f2⟩ : S46)]) := ⟨_, rfl⟩
        replace H : (laws_FnDealSwap.l0 k1 t70001 t70002 y70012 (wrap64 (x6_1 + 1))) = some true := by first | (rw [hy70012]; with_reducible exact H) | (have H2_ := (Option.bind_some _ _).symm.trans H; rw [hy70012]; with_reducible exact H2_) | (have H2_ := (Option.bind_some _ _).symm.trans H; with_reducible exact H2_) | with_reducible exact H | (rw [hy70012]; exact H) | exact H
        have Ny70012 := Aside0.mk hy70012
        clear hy70012
        have H' := Aside0.mk H
        clear H
        obtain ⟨Ao11, co11, eo11⟩ := Kd.R_slice HO_3.out
        subst eo11
        have p70010 : 0 ≤ (x6_1 : Int) := of_decide_eq_true (by first | (with_reducible assumption) | assumption)
        have q70010 : x6_1 < (t70001.length : Int) := of_decide_eq_true (by first | (with_reducible assumption) | assumption)
        obtain ⟨ad70010, e70010, hx70010_0, hx70010_1, hx70010_2⟩ := at_T46 (Kd.R_reads' HO_3.out).2.2 x6_1 p70010 q70010
        cases e70010
        replace p70010 := eq_true p70010
        replace q70010 := eq_true q70010
        have p70011 : 0 ≤ (x6_1 : Int) := of_decide_eq_true (by first | (with_reducible assumption) | assumption)
        have q70011 : x6_1 < (t70001.length : Int) := of_decide_eq_true (by first | (with_reducible assumption) | assumption)
        obtain ⟨ad70011, e70011, hx70011_0, hx70011_1, hx70011_2⟩ := at_T46 (Kd.R_reads' HO_3.out).2.2 x6_1 p70011 q70011
        obtain rfl : ad70010 = ad70011 := (by injection e70011)
        replace p70011 := eq_true p70011
        replace q70011 := eq_true q70011
        go_wp2_with (first | ((with_reducible refine gate_builtin (b := .append) (xs := #[.tmp 46, .tmp 51]) rfl ?_); (try (refine gate_guard (by rfl) ?_; dsimp only)); at_builtin; refine Kd.R_append k46 (w0 := w) w.heap.size rfl (.tmp 46) (.tmp 51) 25 46 (.agg #[(.int .i64 0), (.int .i64 0), (.int .i64 0)]) 24 rfl Try.underlying25 info46 rfl (by decide) (by omega) u5 x5_1 (⟨(rd_T46 t70001 x6_1).f0, (rd_T46 t70001 x6_1).f1, (rd_T46 t70001 x6_1).f2⟩ : S46) [.int .i64 ((rd_T46 t70001 x6_1).f0), .int .i64 ((rd_T46 t70001 x6_1).f1), .int .i64 ((rd_T46 t70001 x6_1).f2)] (fun k_ => some k_ ≠ (.slice (some ad70010) t70001.length co11 : Value).ownBlock) (fun _ => False) rfl rfl ?aP (fun _ hk => hk.elim) ?aF ?aO ?aB ?aS ?aL ?_; (case aP => exact k46_mkM _ _ _ (⟨(rd_T46 t70001 x6_1).f0, (rd_T46 t70001 x6_1).f1, (rd_T46 t70001 x6_1).f2⟩ : S46)); (case aB => exact (by repeat (first | (with_reducible first | exact HB.out | apply below_alloc | apply pw_below_drewN | apply below_drew1) | exact HB.out))); (case aF => exact (fun k_ hk => Kd.fresh' (Kd.R_lt (by (with_reducible repeat (first | apply Kd.R_alloc | apply Kd.R_drewN | apply Kd.R_drew)); exact HO_3.out)) k_ hk)); (case aO => exact (by (with_reducible repeat (first | apply Kd.R_alloc | apply Kd.R_drewN | apply Kd.R_drew)); exact HO_5.out)); (case aS => exact (below_size (by repeat (first | (with_reducible first | exact HB.out | apply below_alloc | apply pw_below_drewN | apply below_drew1) | exact HB.out)))); (case aL => have := LMc10.out; omega); intro v70013 w12 ho hb hg hat; rw [← Ny70012.out] at ho; have n0_ := Aside0.mk (Kd.R_after (ok := (fun _ => True)) (by (with_reducible repeat (first | apply Kd.R_alloc | apply Kd.R_drewN | apply Kd.R_drew)); exact Kd.R_mono HO_3.out (fun _ hk => ⟨trivial, hk⟩)) hg hat); have n1_ := Aside0.mk (Kd.R_over' (by (with_reducible repeat (first | apply Kd.R_alloc | apply Kd.R_drewN | apply Kd.R_drew)); exact HO_4.out) (Kd.R_typed (by (with_reducible repeat (first | apply Kd.R_alloc | apply Kd.R_drewN | apply Kd.R_drew)); exact HO_5.out)) (by decide) hg); have n2_ := Aside0.mk (hb); have n3_ := Aside0.mk (ho); clear HO_3; clear HO_4; clear HB; clear HO_5; have HO_3 := n0_; have HO_4 := n1_; have HB := n2_; have HO70014 := n3_; clear n0_ n1_ n2_ n3_; clear ho hb hg hat))
        go_roundg k1
        case measure => have := HK1.out; omega
        case rel => exact ⟨(y70012), (wrap64 (x6_1 + 1)), (by first | rfl | (simp; done) | (simp [*]; done)), H', ⟨by have := HK1.out; omega⟩, ⟨by (with_reducible repeat (first | apply Kd.R_alloc | apply Kd.R_drewN | apply Kd.R_drew)); exact Kd.R_mono HO_3.out (fun _ hk => hk.2)⟩, ⟨by (with_reducible repeat (first | apply Kd.R_alloc | apply Kd.R_drewN | apply Kd.R_drew)); exact HO_4.out⟩, ⟨by (with_reducible repeat (first | apply Kd.R_alloc | apply Kd.R_drewN | apply Kd.R_drew)); exact HO70014.out⟩, ⟨by repeat (first | (with_reducible first | exact HB.out | apply below_alloc | apply pw_below_drewN | apply below_drew1) | exact HB.out)⟩⟩
       ·rw [if_neg c10] at H
        exact absurd H (by simp)
      ·rw [if_neg c9] at H
       have c9b0 : (((rd_T46 t70001 x6_1).f0) == 2) = false := beq_eq_false_iff_ne.mpr c9
       have c9b1 : (((rd_T46 t70001 x6_1).f0) != 2) = true := bne_iff_ne.mpr c9
       by_cases c13 : ((rd_T46 t70001 x6_1).f0) = 3
       ·rw [if_pos c13] at H
        have c13b0 : (((rd_T46 t70001 x6_1).f0) == 3) = true := beq_iff_eq.mpr c13
        have c13b1 : (((rd_T46 t70001 x6_1).f0) != 3) = false := bne_eq_false_iff_eq.mpr c13
        clear c13
        by_cases c14 : x5_1.length < 5864062014805
        ·rw [if_pos c14] at H
         have LMc14 := Aside0.mk c14
         clear c14
         obtain ⟨y70017, hy70017⟩ : ∃ y_ : List (S46), y_ = (x5_1 ++ [(⟨(rd_T46 t70001 x6_1).f0, (rd_T46 t70001 x6_1).f1, (rd_T46 t70001 x6_1).f2⟩ : S46)]) := ⟨_, rfl⟩
         replace H : (laws_FnDealSwap.l0 k1 t70001 t70002 y70017 (wrap64 (x6_1 + 1))) = some true := by first | (rw [hy70017]; with_reducible exact H) | (have H2_ := (Option.bind_some _ _).symm.trans H; rw [hy70017]; with_reducible exact H2_) | (have H2_ := (Option.bind_some _ _).symm.trans H; with_reducible exact H2_) | with_reducible exact H | (rw [hy70017]; exact H) | exact H
         have Ny70017 := Aside0.mk hy70017
         clear hy70017
         have H' := Aside0.mk H
         clear H
         obtain ⟨Ao15, co15, eo15⟩ := Kd.R_slice HO_3.out
         subst eo15
         have p70010 : 0 ≤ (x6_1 : Int) := of_decide_eq_true (by first | (with_reducible assumption) | assumption)
         have q70010 : x6_1 < (t70001.length : Int) := of_decide_eq_true (by first | (with_reducible assumption) | assumption)
         obtain ⟨ad70010, e70010, hx70010_0, hx70010_1, hx70010_2⟩ := at_T46 (Kd.R_reads' HO_3.out).2.2 x6_1 p70010 q70010
         cases e70010
         replace p70010 := eq_true p70010
         replace q70010 := eq_true q70010
         have p70015 : 0 ≤ (x6_1 : Int) := of_decide_eq_true (by first | (with_reducible assumption) | assumption)
         have q70015 : x6_1 < (t70001.length : Int) := of_decide_eq_true (by first | (with_reducible assumption) | assumption)
         obtain ⟨ad70015, e70015, hx70015_0, hx70015_1, hx70015_2⟩ := at_T46 (Kd.R_reads' HO_3.out).2.2 x6_1 p70015 q70015
         obtain rfl : ad70010 = ad70015 := (by injection e70015)
         replace p70015 := eq_true p70015
         replace q70015 := eq_true q70015
         have p70016 : 0 ≤ (x6_1 : Int) := of_decide_eq_true (by first | (with_reducible assumption) | assumption)
         have q70016 : x6_1 < (t70001.length : Int) := of_decide_eq_true (by first | (with_reducible assumption) | assumption)
         obtain ⟨ad70016, e70016, hx70016_0, hx70016_1, hx70016_2⟩ := at_T46 (Kd.R_reads' HO_3.out).2.2 x6_1 p70016 q70016
         obtain rfl : ad70010 = ad70016 := (by injection e70016)
         replace p70016 := eq_true p70016
         replace q70016 := eq_true q70016
         go_wp2_with (first | ((with_reducible refine gate_builtin (b := .append) (xs := #[.tmp 46, .tmp 51]) rfl ?_); (try (refine gate_guard (by rfl) ?_; dsimp only)); at_builtin; refine Kd.R_append k46 (w0 := w) w.heap.size rfl (.tmp 46) (.tmp 51) 25 46 (.agg #[(.int .i64 0), (.int .i64 0), (.int .i64 0)]) 24 rfl Try.underlying25 info46 rfl (by decide) (by omega) u5 x5_1 (⟨(rd_T46 t70001 x6_1).f0, (rd_T46 t70001 x6_1).f1, (rd_T46 t70001 x6_1).f2⟩ : S46) [.int .i64 ((rd_T46 t70001 x6_1).f0), .int .i64 ((rd_T46 t70001 x6_1).f1), .int .i64 ((rd_T46 t70001 x6_1).f2)] (fun k_ => some k_ ≠ (.slice (some ad70010) t70001.length co15 : Value).ownBlock) (fun _ => False) rfl rfl ?aP (fun _ hk => hk.elim) ?aF ?aO ?aB ?aS ?aL ?_; (case aP => exact k46_mkM _ _ _ (⟨(rd_T46 t70001 x6_1).f0, (rd_T46 t70001 x6_1).f1, (rd_T46 t70001 x6_1).f2⟩ : S46)); (case aB => exact (by repeat (first | (with_reducible first | exact HB.out | apply below_alloc | apply pw_below_drewN | apply below_drew1) | exact HB.out))); (case aF => exact (fun k_ hk => Kd.fresh' (Kd.R_lt (by (with_reducible repeat (first | apply Kd.R_alloc | apply Kd.R_drewN | apply Kd.R_drew)); exact HO_3.out)) k_ hk)); (case aO => exact (by (with_reducible repeat (first | apply Kd.R_alloc | apply Kd.R_drewN | apply Kd.R_drew)); exact HO_5.out)); (case aS => exact (below_size (by repeat (first | (with_reducible first | exact HB.out | apply below_alloc | apply pw_below_drewN | apply below_drew1) | exact HB.out)))); (case aL => have := LMc14.out; omega); intro v70018 w16 ho hb hg hat; rw [← Ny70017.out] at ho; have n0_ := Aside0.mk (Kd.R_after (ok := (fun _ => True)) (by (with_reducible repeat (first | apply Kd.R_alloc | apply Kd.R_drewN | apply Kd.R_drew)); exact Kd.R_mono HO_3.out (fun _ hk => ⟨trivial, hk⟩)) hg hat); have n1_ := Aside0.mk (Kd.R_over' (by (with_reducible repeat (first | apply Kd.R_alloc | apply Kd.R_drewN | apply Kd.R_drew)); exact HO_4.out) (Kd.R_typed (by (with_reducible repeat (first | apply Kd.R_alloc | apply Kd.R_drewN | apply Kd.R_drew)); exact HO_5.out)) (by decide) hg); have n2_ := Aside0.mk (hb); have n3_ := Aside0.mk (ho); clear HO_3; clear HO_4; clear HB; clear HO_5; have HO_3 := n0_; have HO_4 := n1_; have HB := n2_; have HO70019 := n3_; clear n0_ n1_ n2_ n3_; clear ho hb hg hat))
         go_roundg k1
         case measure => have := HK1.out; omega
         case rel => exact ⟨(y70017), (wrap64 (x6_1 + 1)), (by first | rfl | (simp; done) | (simp [*]; done)), H', ⟨by have := HK1.out; omega⟩, ⟨by (with_reducible repeat (first | apply Kd.R_alloc | apply Kd.R_drewN | apply Kd.R_drew)); exact Kd.R_mono HO_3.out (fun _ hk => hk.2)⟩, ⟨by (with_reducible repeat (first | apply Kd.R_alloc | apply Kd.R_drewN | apply Kd.R_drew)); exact HO_4.out⟩, ⟨by (with_reducible repeat (first | apply Kd.R_alloc | apply Kd.R_drewN | apply Kd.R_drew)); exact HO70019.out⟩, ⟨by repeat (first | (with_reducible first | exact HB.out | apply below_alloc | apply pw_below_drewN | apply below_drew1) | exact HB.out)⟩⟩
        ·rw [if_neg c14] at H
         exact absurd H (by simp)
       ·rw [if_neg c13] at H
        have c13b0 : (((rd_T46 t70001 x6_1).f0) == 3) = false := beq_eq_false_iff_ne.mpr c13
        have c13b1 : (((rd_T46 t70001 x6_1).f0) != 3) = true := bne_iff_ne.mpr c13
        have H' := Aside0.mk H
        clear H
        obtain ⟨Ao17, co17, eo17⟩ := Kd.R_slice HO_3.out
        subst eo17
        have p70010 : 0 ≤ (x6_1 : Int) := of_decide_eq_true (by first | (with_reducible assumption) | assumption)
        have q70010 : x6_1 < (t70001.length : Int) := of_decide_eq_true (by first | (with_reducible assumption) | assumption)
        obtain ⟨ad70010, e70010, hx70010_0, hx70010_1, hx70010_2⟩ := at_T46 (Kd.R_reads' HO_3.out).2.2 x6_1 p70010 q70010
        cases e70010
        replace p70010 := eq_true p70010
        replace q70010 := eq_true q70010
        have p70015 : 0 ≤ (x6_1 : Int) := of_decide_eq_true (by first | (with_reducible assumption) | assumption)
        have q70015 : x6_1 < (t70001.length : Int) := of_decide_eq_true (by first | (with_reducible assumption) | assumption)
        obtain ⟨ad70015, e70015, hx70015_0, hx70015_1, hx70015_2⟩ := at_T46 (Kd.R_reads' HO_3.out).2.2 x6_1 p70015 q70015
        obtain rfl : ad70010 = ad70015 := (by injection e70015)
        replace p70015 := eq_true p70015
        replace q70015 := eq_true q70015
        go_wp2
        go_roundg k1
        case measure => have := HK1.out; omega
        case rel => exact ⟨(x5_1), (wrap64 (x6_1 + 1)), (by first | rfl | (simp; done) | (simp [*]; done)), H', ⟨by have := HK1.out; omega⟩, ⟨by (with_reducible repeat (first | apply Kd.R_alloc | apply Kd.R_drewN | apply Kd.R_drew)); exact HO_3.out⟩, ⟨by (with_reducible repeat (first | apply Kd.R_alloc | apply Kd.R_drewN | apply Kd.R_drew)); exact HO_4.out⟩, ⟨by (with_reducible repeat (first | apply Kd.R_alloc | apply Kd.R_drewN | apply Kd.R_drew)); exact HO_5.out⟩, ⟨by repeat (first | (with_reducible first | exact HB.out | apply below_alloc | apply pw_below_drewN | apply below_drew1) | exact HB.out)⟩⟩
     ·rw [if_neg c8] at H
      exact absurd H (by simp)
    ·rw [if_neg c7] at H
     have c7b0 : decide (x6_1 < (t70001.length : Int)) = false := decide_eq_false c7
     clear c7
     replace H := Option.bind_eq_some_iff.mp H
     obtain ⟨⟨t70020, t70021, t70024⟩, A180, H⟩ := H
     replace H : ((impl_DealRun.f k1 x5_1 t70002).bind fun bt70027 => (if bt70027.1 = t70020 then ((laws_loInts.f k1 bt70027.2.1 t70021).bind fun t70034 => (if t70034 = true then ((laws_loPairs.f k1 bt70027.2.2 t70024).bind fun t70035 => (if t70035 = true then (if (x5_1.length : Int) < 2 then (laws_FnDealSwap.j1 k1 t70002 x5_1 t70020 t70021 t70024 bt70027.1 bt70027.2.1 bt70027.2.2 true) else (if bt70027.1 = 0 then (if 0 < (x5_1.length : Int) then (if 1 < (x5_1.length : Int) then (laws_FnDealSwap.j1 k1 t70002 x5_1 t70020 t70021 t70024 bt70027.1 bt70027.2.1 bt70027.2.2 (((rd_T46 x5_1 0).f1) == ((rd_T46 x5_1 1).f1))) else (none)) else (none)) else (laws_FnDealSwap.j1 k1 t70002 x5_1 t70020 t70021 t70024 bt70027.1 bt70027.2.1 bt70027.2.2 true))) else (laws_FnDealSwap.j1 k1 t70002 x5_1 t70020 t70021 t70024 bt70027.1 bt70027.2.1 bt70027.2.2 true))) else (laws_FnDealSwap.j1 k1 t70002 x5_1 t70020 t70021 t70024 bt70027.1 bt70027.2.1 bt70027.2.2 true))) else (laws_FnDealSwap.j1 k1 t70002 x5_1 t70020 t70021 t70024 bt70027.1 bt70027.2.1 bt70027.2.2 true))) = some true := H
     have A18 := Aside0.mk A180
     clear A180
     replace H := Option.bind_eq_some_iff.mp H
     obtain ⟨⟨t70027, t70028, t70029⟩, A190, H⟩ := H
     replace H : (if t70027 = t70020 then ((laws_loInts.f k1 t70028 t70021).bind fun t70034 => (if t70034 = true then ((laws_loPairs.f k1 t70029 t70024).bind fun t70035 => (if t70035 = true then (if (x5_1.length : Int) < 2 then (laws_FnDealSwap.j1 k1 t70002 x5_1 t70020 t70021 t70024 t70027 t70028 t70029 true) else (if t70027 = 0 then (if 0 < (x5_1.length : Int) then (if 1 < (x5_1.length : Int) then (laws_FnDealSwap.j1 k1 t70002 x5_1 t70020 t70021 t70024 t70027 t70028 t70029 (((rd_T46 x5_1 0).f1) == ((rd_T46 x5_1 1).f1))) else (none)) else (none)) else (laws_FnDealSwap.j1 k1 t70002 x5_1 t70020 t70021 t70024 t70027 t70028 t70029 true))) else (laws_FnDealSwap.j1 k1 t70002 x5_1 t70020 t70021 t70024 t70027 t70028 t70029 true))) else (laws_FnDealSwap.j1 k1 t70002 x5_1 t70020 t70021 t70024 t70027 t70028 t70029 true))) else (laws_FnDealSwap.j1 k1 t70002 x5_1 t70020 t70021 t70024 t70027 t70028 t70029 true)) = some true := H
     have A19 := Aside0.mk A190
     clear A190
     have HC20 := Aside0.mk H
     clear H
     obtain ⟨Ao21, co21, eo21⟩ := Kd.R_slice HO_3.out
     subst eo21
     obtain ⟨Ao22, co22, eo22⟩ := Kd.R_slice HO_5.out
     subst eo22
     obtain ⟨Ao23, co23, eo23⟩ := Kd.R_slice HO_4.out
     subst eo23
     go_upto_region 12 with (first | ((with_reducible refine gate_callee (f := 20) rfl ?_); refine goesL_ (some 56) rfl rfl Try.func20 (by kernel_rfl) rfl #[.slice Ao22 x5_1.length co22, .slice Ao23 t70002.length co23] rfl (by (try simp only [List.map_toArray, List.map_cons, List.map_nil]); first | done | rfl | (simp only [List.length_drop, List.length_take]; rfl)) ?_; (with_reducible refine (spec_DealRun.calls k1 _ _ x5_1 (fun k_ => some k_ = (.slice Ao23 t70002.length co23 : Value).ownBlock) _ _ t70002 t70020 t70021 t70024 _ ?side1 ?side2 ?side3 A18.out).mono ?_); (case side1 => repeat (first | exact (Kd.R_reads' HO_5.out).2.2 | (with_reducible refine Kd.C_alloc ?_ _) | (with_reducible refine Kd.C_drewN ?_ _) | (with_reducible refine Kd.C_drew ?_))); (case side2 => exact (Kd.R_reads' HO_5.out).2.1); (case side3 => exact Kd.R_V (Kd.R_tight rfl (Kd.R_apart' (Kd.R_apart' (HO_4.out) (Kd.R_typed HO_3.out) (by decide)) (Kd.R_typed HO_5.out) (by decide)))); rintro e w24 ⟨v70022, v70025, rfl, ho0, ho1, hb⟩; refine ⟨_, rfl, ?_⟩; have n0_ := Aside0.mk (Kd.R_below (by (with_reducible repeat (first | apply Kd.R_alloc | apply Kd.R_drewN | apply Kd.R_drew)); exact HO_3.out) hb); have n1_ := Aside0.mk (Kd.R_elder' (by (with_reducible repeat (first | apply Kd.R_alloc | apply Kd.R_drewN | apply Kd.R_drew)); exact HO_4.out) (Kd.R_base ho1) hb); have n2_ := Aside0.mk (Kd.R_below (by (with_reducible repeat (first | apply Kd.R_alloc | apply Kd.R_drewN | apply Kd.R_drew)); exact HO_5.out) hb); have n3_ := Aside0.mk (Kd.R_lower (Kd.R_mono (ok' := fun k_ => True) ho0 (fun _ hk_ => trivial)) (below_size (by repeat (first | (with_reducible first | exact HB.out | apply below_alloc | apply pw_below_drewN | apply below_drew1) | exact HB.out)))); have n4_ := Aside0.mk (Kd.R_lower (Kd.R_new' (Kd.R_mono (ok' := fun k_ => True) ho1 (fun _ hk_ => trivial)) (Kd.R_lt (by (with_reducible repeat (first | apply Kd.R_alloc | apply Kd.R_drewN | apply Kd.R_drew)); exact HO_4.out))) (below_size (by repeat (first | (with_reducible first | exact HB.out | apply below_alloc | apply pw_below_drewN | apply below_drew1) | exact HB.out)))); have n5_ := Aside0.mk (below_step (by repeat (first | (with_reducible first | exact HB.out | apply below_alloc | apply pw_below_drewN | apply below_drew1) | exact HB.out)) hb); clear HO_3; clear HO_4; clear HO_5; clear HB; have HO_3 := n0_; have HO_4 := n1_; have HO_5 := n2_; have HO70023 := n3_; have HO70026 := n4_; have HB := n5_; clear n0_ n1_ n2_ n3_ n4_ n5_; (try clear hb); (try clear hb2); (try clear hk); (try clear hi); (try clear ho0); (try clear ho1)) | ((with_reducible refine gate_callee (f := 22) rfl ?_); refine goesL_ (some 63) rfl rfl Try.func22 (by kernel_rfl) rfl #[.slice Ao22 x5_1.length co22, .slice Ao23 t70002.length co23] rfl (by (try simp only [List.map_toArray, List.map_cons, List.map_nil]); first | done | rfl | (simp only [List.length_drop, List.length_take]; rfl)) ?_; (with_reducible refine (impl_DealRun.calls k1 _ _ x5_1 _ _ t70002 t70027 t70028 t70029 _ ?side1 ?side2 ?side3 ?side4 A19.out).mono ?_); (case side1 => repeat (first | exact (Kd.R_reads' HO_5.out).2.2 | (with_reducible refine Kd.C_alloc ?_ _) | (with_reducible refine Kd.C_drewN ?_ _) | (with_reducible refine Kd.C_drew ?_))); (case side2 => exact (Kd.R_reads' HO_5.out).2.1); (case side3 => repeat (first | exact (Kd.R_reads' HO_4.out).2.2 | (with_reducible refine Kd.C_alloc ?_ _) | (with_reducible refine Kd.C_drewN ?_ _) | (with_reducible refine Kd.C_drew ?_))); (case side4 => exact (Kd.R_reads' HO_4.out).2.1); rintro e w25 ⟨v70030, v70032, rfl, ho0, ho1, hb⟩; refine ⟨_, rfl, ?_⟩; have n0_ := Aside0.mk (Kd.R_below (by (with_reducible repeat (first | apply Kd.R_alloc | apply Kd.R_drewN | apply Kd.R_drew)); exact HO_3.out) hb); have n1_ := Aside0.mk (Kd.R_elder' (by (with_reducible repeat (first | apply Kd.R_alloc | apply Kd.R_drewN | apply Kd.R_drew)); exact HO_4.out) (Kd.R_base ho1) hb); have n2_ := Aside0.mk (Kd.R_below (by (with_reducible repeat (first | apply Kd.R_alloc | apply Kd.R_drewN | apply Kd.R_drew)); exact HO_5.out) hb); have n3_ := Aside0.mk (Kd.R_elder' (by (with_reducible repeat (first | apply Kd.R_alloc | apply Kd.R_drewN | apply Kd.R_drew)); exact HO70023.out) (Kd.R_base ho0) hb); have n4_ := Aside0.mk (Kd.R_elder' (by (with_reducible repeat (first | apply Kd.R_alloc | apply Kd.R_drewN | apply Kd.R_drew)); exact HO70026.out) (Kd.R_base ho1) hb); have n5_ := Aside0.mk (Kd.R_lower (Kd.R_new' ho0 (Kd.R_lt (by (with_reducible repeat (first | apply Kd.R_alloc | apply Kd.R_drewN | apply Kd.R_drew)); exact HO70023.out))) (below_size (by repeat (first | (with_reducible first | exact HB.out | apply below_alloc | apply pw_below_drewN | apply below_drew1) | exact HB.out)))); have n6_ := Aside0.mk (Kd.R_lower (Kd.R_new' (Kd.R_new' ho1 (Kd.R_lt (by (with_reducible repeat (first | apply Kd.R_alloc | apply Kd.R_drewN | apply Kd.R_drew)); exact HO_4.out))) (Kd.R_lt (by (with_reducible repeat (first | apply Kd.R_alloc | apply Kd.R_drewN | apply Kd.R_drew)); exact HO70026.out))) (below_size (by repeat (first | (with_reducible first | exact HB.out | apply below_alloc | apply pw_below_drewN | apply below_drew1) | exact HB.out)))); have n7_ := Aside0.mk (below_step (by repeat (first | (with_reducible first | exact HB.out | apply below_alloc | apply pw_below_drewN | apply below_drew1) | exact HB.out)) hb); clear HO_3; clear HO_4; clear HO_5; clear HO70023; clear HO70026; clear HB; have HO_3 := n0_; have HO_4 := n1_; have HO_5 := n2_; have HO70023 := n3_; have HO70026 := n4_; have HO70031 := n5_; have HO70033 := n6_; have HB := n7_; clear n0_ n1_ n2_ n3_ n4_ n5_ n6_ n7_; (try clear hb); (try clear hb2); (try clear hk); (try clear hi); (try clear ho0); (try clear ho1)))
     (try simp only [Act.put, List.setIfInBounds_toArray, List.set_cons_zero, List.set_cons_succ])
     go_cut [101] (fun v101 wc => ∃ (kq : Nat) (x101_19 : Bool), v101 = .bool x101_19 ∧ Aside0 (laws_FnDealSwap.j1 kq t70002 x5_1 t70020 t70021 t70024 t70027 t70028 t70029 x101_19 = some true) ∧ Aside0 (kq ≤ k1) ∧ Aside0 (Kd.R k48 48 wc w.heap.size (fun k_ => some k_ ≠ (v70025 : Value).ownBlock ∧ some k_ ≠ (v70032 : Value).ownBlock) (.slice Ao23 t70002.length co23) t70002) ∧ Aside0 (Kd.R k46 46 wc w.heap.size (fun _ => True) (.slice Ao22 x5_1.length co22) x5_1) ∧ Aside0 (Kd.R (Kd.int .i64) 3 wc w.heap.size (fun k_ => some k_ ≠ (v70030 : Value).ownBlock) v70022 t70021) ∧ Aside0 (Kd.R k48 48 wc w.heap.size (fun k_ => some k_ ≠ ((.slice Ao23 t70002.length co23) : Value).ownBlock ∧ some k_ ≠ (v70032 : Value).ownBlock) v70025 t70024) ∧ Aside0 (Kd.R (Kd.int .i64) 3 wc w.heap.size (fun k_ => some k_ ≠ (v70022 : Value).ownBlock) v70030 t70028) ∧ Aside0 (Kd.R k48 48 wc w.heap.size (fun k_ => some k_ ≠ ((.slice Ao23 t70002.length co23) : Value).ownBlock ∧ some k_ ≠ (v70025 : Value).ownBlock) v70032 t70029) ∧ Aside0 (Below w.heap.size w wc))
     case first =>
      have H := HC20.out
      clear HC20
      by_cases c26 : t70027 = t70020
      ·rw [if_pos c26] at H
       have c26b0 : (t70027 == t70020) = true := beq_iff_eq.mpr c26
       have c26b1 : (t70027 != t70020) = false := bne_eq_false_iff_eq.mpr c26
       clear c26
       (first | rw [c26b0] | (simp only [i64_w, i32_w]; rw [c26b0]) | skip)
       replace H := Option.bind_eq_some_iff.mp H
       obtain ⟨t70034, A270, H⟩ := H
       replace H : (if t70034 = true then ((laws_loPairs.f k1 t70029 t70024).bind fun t70035 => (if t70035 = true then (if (x5_1.length : Int) < 2 then (laws_FnDealSwap.j1 k1 t70002 x5_1 t70020 t70021 t70024 t70027 t70028 t70029 true) else (if t70027 = 0 then (if 0 < (x5_1.length : Int) then (if 1 < (x5_1.length : Int) then (laws_FnDealSwap.j1 k1 t70002 x5_1 t70020 t70021 t70024 t70027 t70028 t70029 (((rd_T46 x5_1 0).f1) == ((rd_T46 x5_1 1).f1))) else (none)) else (none)) else (laws_FnDealSwap.j1 k1 t70002 x5_1 t70020 t70021 t70024 t70027 t70028 t70029 true))) else (laws_FnDealSwap.j1 k1 t70002 x5_1 t70020 t70021 t70024 t70027 t70028 t70029 true))) else (laws_FnDealSwap.j1 k1 t70002 x5_1 t70020 t70021 t70024 t70027 t70028 t70029 true)) = some true := H
       have A27 := Aside0.mk A270
       clear A270
       by_cases c28 : t70034 = true
       ·subst c28
        have H1 : ((laws_loPairs.f k1 t70029 t70024).bind fun t70035 => (if t70035 = true then (if (x5_1.length : Int) < 2 then (laws_FnDealSwap.j1 k1 t70002 x5_1 t70020 t70021 t70024 t70027 t70028 t70029 true) else (if t70027 = 0 then (if 0 < (x5_1.length : Int) then (if 1 < (x5_1.length : Int) then (laws_FnDealSwap.j1 k1 t70002 x5_1 t70020 t70021 t70024 t70027 t70028 t70029 (((rd_T46 x5_1 0).f1) == ((rd_T46 x5_1 1).f1))) else (none)) else (none)) else (laws_FnDealSwap.j1 k1 t70002 x5_1 t70020 t70021 t70024 t70027 t70028 t70029 true))) else (laws_FnDealSwap.j1 k1 t70002 x5_1 t70020 t70021 t70024 t70027 t70028 t70029 true))) = some true := by rw [if_pos rfl] at H; exact H
        clear H
        have H := H1
        clear H1
        replace H := Option.bind_eq_some_iff.mp H
        obtain ⟨t70035, A290, H⟩ := H
        replace H : (if t70035 = true then (if (x5_1.length : Int) < 2 then (laws_FnDealSwap.j1 k1 t70002 x5_1 t70020 t70021 t70024 t70027 t70028 t70029 true) else (if t70027 = 0 then (if 0 < (x5_1.length : Int) then (if 1 < (x5_1.length : Int) then (laws_FnDealSwap.j1 k1 t70002 x5_1 t70020 t70021 t70024 t70027 t70028 t70029 (((rd_T46 x5_1 0).f1) == ((rd_T46 x5_1 1).f1))) else (none)) else (none)) else (laws_FnDealSwap.j1 k1 t70002 x5_1 t70020 t70021 t70024 t70027 t70028 t70029 true))) else (laws_FnDealSwap.j1 k1 t70002 x5_1 t70020 t70021 t70024 t70027 t70028 t70029 true)) = some true := H
        have A29 := Aside0.mk A290
        clear A290
        by_cases c30 : t70035 = true
        ·subst c30
         have H1 : (if (x5_1.length : Int) < 2 then (laws_FnDealSwap.j1 k1 t70002 x5_1 t70020 t70021 t70024 t70027 t70028 t70029 true) else (if t70027 = 0 then (if 0 < (x5_1.length : Int) then (if 1 < (x5_1.length : Int) then (laws_FnDealSwap.j1 k1 t70002 x5_1 t70020 t70021 t70024 t70027 t70028 t70029 (((rd_T46 x5_1 0).f1) == ((rd_T46 x5_1 1).f1))) else (none)) else (none)) else (laws_FnDealSwap.j1 k1 t70002 x5_1 t70020 t70021 t70024 t70027 t70028 t70029 true))) = some true := by rw [if_pos rfl] at H; exact H
         clear H
         have H := H1
         clear H1
         by_cases c31 : (x5_1.length : Int) < 2
         ·rw [if_pos c31] at H
          have c31b0 : decide ((x5_1.length : Int) < 2) = true := decide_eq_true c31
          have c31b1 : decide (x5_1.length < 2) = true := decide_eq_true (by omega)
          clear c31
          have H' := Aside0.mk H
          clear H
          try go_wp2
          have n0_ := Aside0.mk (Kd.R_drew HO_3.out)
          have n1_ := Aside0.mk (Kd.R_drew HO_4.out)
          have n2_ := Aside0.mk (Kd.R_drew HO_5.out)
          have n3_ := Aside0.mk (Kd.R_drew HO70023.out)
          have n4_ := Aside0.mk (Kd.R_drew HO70026.out)
          have n5_ := Aside0.mk (Kd.R_drew HO70031.out)
          have n6_ := Aside0.mk (Kd.R_drew HO70033.out)
          have n7_ := Aside0.mk (below_drew1 HB.out)
          clear HO_3
          clear HO_4
          clear HO_5
          clear HO70023
          clear HO70026
          clear HO70031
          clear HO70033
          clear HB
          have HO_3 := n0_
          have HO_4 := n1_
          have HO_5 := n2_
          have HO70023 := n3_
          have HO70026 := n4_
          have HO70031 := n5_
          have HO70033 := n6_
          have HB := n7_
          clear n0_ n1_ n2_ n3_ n4_ n5_ n6_ n7_
          obtain ⟨Ao33, co33, eo33⟩ := Kd.R_slice HO70031.out
          (first | subst eo33 | (injection eo33 with f1_ f2_ f3_; have f4_ := f1_.symm; have f5_ := f3_.symm; clear f1_ f2_ f3_; subst f4_; subst f5_))
          obtain ⟨Ao34, co34, eo34⟩ := Kd.R_slice HO70023.out
          (first | subst eo34 | (injection eo34 with f1_ f2_ f3_; have f4_ := f1_.symm; have f5_ := f3_.symm; clear f1_ f2_ f3_; subst f4_; subst f5_))
          refine start_ (n := 35) (S := fun w' => True) (ds := []) (bt_ 35 0) (by kernel_rfl) rfl rfl trivial (fun hHeld => ?_); refine with_tabW laws_FnDealSwap.tab12 laws_FnDealSwap.bits12 (fun HT_ HW_ => ?_)
          generalize w25.drew = w32 at HO_3 HO_4 HO_5 HO70023 HO70026 HO70031 HO70033 HB hHeld ⊢
          refine pu_ 0 (some 67) (bt_ 35 1) (any_of HT_.out (by kernel_rfl)) ?_
          refine pu_ 1 (some 68) (bt_ 35 3) (any_of HT_.out (by kernel_rfl)) ?_
          refine pu_ 2 (some 69) (bt_ 35 7) (any_of HT_.out (by kernel_rfl)) ?_
          refine pu_ 3 (some 70) (bt_ 35 15) (any_of HT_.out (by kernel_rfl)) ?_
          refine pu_ 4 (some 71) (bt_ 35 31) (any_of HT_.out (by kernel_rfl)) ?_
          refine pu_ 5 (some 72) (bt_ 35 63) (any_of HT_.out (by kernel_rfl)) ?_
          refine one_ (i := 6) (N := some 73) (bt_ 35 127) rfl rfl (one_of HT_.out (by kernel_rfl)) (by decide) (fun K hK => ?_)
          refine goes_ Try.func31 (by kernel_rfl) rfl #[.slice Ao33 t70028.length co33, .slice Ao34 t70021.length co34] (by rfl) rfl rfl (by (try simp only [List.map_toArray, List.map_cons, List.map_nil]); first | done | rfl | (simp only [List.length_drop, List.length_take]; rfl)) ?_
          with_reducible refine (laws_loInts.calls k1 _ _ t70028 _ _ t70021 true _ ?side1 ?side2 ?side3 ?side4 A27.out).mono ?_
          (case side1 => repeat (first | exact (Kd.R_reads' HO70031.out).2.2 | (with_reducible refine Kd.C_alloc ?_ _) | (with_reducible refine Kd.C_drewN ?_ _) | (with_reducible refine Kd.C_drew ?_)))
          (case side2 => exact (Kd.R_reads' HO70031.out).2.1)
          (case side3 => repeat (first | exact (Kd.R_reads' HO70023.out).2.2 | (with_reducible refine Kd.C_alloc ?_ _) | (with_reducible refine Kd.C_drewN ?_ _) | (with_reducible refine Kd.C_drew ?_)))
          (case side4 => exact (Kd.R_reads' HO70023.out).2.1)
          rintro e w' ⟨rfl, ⟨nd, rfl⟩⟩
          refine ⟨_, rfl, ?_⟩
          obtain ⟨Ao35, co35, eo35⟩ := Kd.R_slice HO70033.out
          (first | subst eo35 | (injection eo35 with f1_ f2_ f3_; have f4_ := f1_.symm; have f5_ := f3_.symm; clear f1_ f2_ f3_; subst f4_; subst f5_))
          obtain ⟨Ao36, co36, eo36⟩ := Kd.R_slice HO70026.out
          (first | subst eo36 | (injection eo36 with f1_ f2_ f3_; have f4_ := f1_.symm; have f5_ := f3_.symm; clear f1_ f2_ f3_; subst f4_; subst f5_))
          refine hK.out _ _ trivial (fun hHeld => ?_)
          clear hK K
          refine norm_ (a' := ?_) ?_ ?_
          rotate_left
          ·show Act.put _ (some 73) _ = _
           simp only [Act.put, List.setIfInBounds_toArray, List.set_cons_zero, List.set_cons_succ, i64_w, i32_w]
           rfl
          refine pu_ 7 (some 74) (bt_ 35 255) (any_of HT_.out (by kernel_rfl)) ?_
          refine pu_ 8 (some 75) (bt_ 35 511) (any_of HT_.out (by kernel_rfl)) ?_
          refine pu_ 9 (some 76) (bt_ 35 1023) (any_of HT_.out (by kernel_rfl)) ?_
          refine pu_ 10 (some 77) (bt_ 35 2047) (any_of HT_.out (by kernel_rfl)) ?_
          refine pu_ 11 (some 78) (bt_ 35 4095) (any_of HT_.out (by kernel_rfl)) ?_
          refine one_ (i := 12) (N := some 79) (bt_ 35 8191) rfl rfl (one_of HT_.out (by kernel_rfl)) (by decide) (fun K hK => ?_)
          refine goes_ Try.func32 (by kernel_rfl) rfl #[.slice Ao35 t70029.length co35, .slice Ao36 t70024.length co36] (by rfl) rfl rfl (by (try simp only [List.map_toArray, List.map_cons, List.map_nil]); first | done | rfl | (simp only [List.length_drop, List.length_take]; rfl)) ?_
          with_reducible refine (laws_loPairs.calls k1 _ _ t70029 _ _ t70024 true _ ?side1 ?side2 ?side3 ?side4 A29.out).mono ?_
          (case side1 => repeat (first | exact (Kd.R_reads' HO70033.out).2.2 | (with_reducible refine Kd.C_alloc ?_ _) | (with_reducible refine Kd.C_drewN ?_ _) | (with_reducible refine Kd.C_drew ?_)))
          (case side2 => exact (Kd.R_reads' HO70033.out).2.1)
          (case side3 => repeat (first | exact (Kd.R_reads' HO70026.out).2.2 | (with_reducible refine Kd.C_alloc ?_ _) | (with_reducible refine Kd.C_drewN ?_ _) | (with_reducible refine Kd.C_drew ?_)))
          (case side4 => exact (Kd.R_reads' HO70026.out).2.1)
          rintro e w' ⟨rfl, ⟨nd, rfl⟩⟩
          refine ⟨_, rfl, ?_⟩
          refine hK.out _ _ trivial (fun hHeld => ?_)
          clear hK K
          refine norm_ (a' := ?_) ?_ ?_
          rotate_left
          ·show Act.put _ (some 79) _ = _
           simp only [Act.put, List.setIfInBounds_toArray, List.set_cons_zero, List.set_cons_succ, i64_w, i32_w]
           rfl
          refine pu_ 13 (some 80) (bt_ 35 16383) (any_of HT_.out (by kernel_rfl)) ?_
          refine pu_ 14 (some 81) (bt_ 35 32767) (any_of HT_.out (by kernel_rfl)) ?_
          refine pu_ 15 (some 82) (bt_ 35 65535) (any_of HT_.out (by kernel_rfl)) ?_
          refine pu_ 16 (some 83) (bt_ 35 131071) (any_of HT_.out (by kernel_rfl)) ?_
          refine pu_ 17 (some 84) (bt_ 35 262143) (any_of HT_.out (by kernel_rfl)) ?_
          refine pu_ 18 (some 85) (bt_ 35 524287) (any_of HT_.out (by kernel_rfl)) ?_
          refine pu_ 19 (some 86) (bt_ 35 1048575) (any_of HT_.out (by kernel_rfl)) ?_
          refine pu_ 20 (some 87) (bt_ 35 2097151) (any_of HT_.out (by kernel_rfl)) ?_
          refine pn_ 21 (some 88) (bt_ 35 4194303) (any_of HT_.out (by kernel_rfl)) ?_
          refine pn_ 22 (some 89) (bt_ 35 8388607) (any_of HT_.out (by kernel_rfl)) ?_
          refine pu_ 23 (some 90) (bt_ 35 16777215) (any_of HT_.out (by kernel_rfl)) ?_
          refine pu_ 24 (some 91) (bt_ 35 33554431) (any_of HT_.out (by kernel_rfl)) ?_
          refine pn_ 25 (some 92) (bt_ 35 67108863) (any_of HT_.out (by kernel_rfl)) ?_
          refine pn_ 26 (some 93) (bt_ 35 134217727) (any_of HT_.out (by kernel_rfl)) ?_
          refine pn_ 27 (some 94) (bt_ 35 268435455) (any_of HT_.out (by kernel_rfl)) ?_
          refine pn_ 28 (some 95) (bt_ 35 536870911) (any_of HT_.out (by kernel_rfl)) ?_
          refine pn_ 29 (some 96) (bt_ 35 1073741823) (any_of HT_.out (by kernel_rfl)) ?_
          refine pn_ 30 (some 97) (bt_ 35 2147483647) (any_of HT_.out (by kernel_rfl)) ?_
          refine pn_ 31 (some 98) (bt_ 35 4294967295) (any_of HT_.out (by kernel_rfl)) ?_
          refine pn_ 32 (some 99) (bt_ 35 8589934591) (any_of HT_.out (by kernel_rfl)) ?_
          refine pn_ 33 (some 100) (bt_ 35 17179869183) (any_of HT_.out (by kernel_rfl)) ?_
          refine pu_ 34 (some 101) (bt_ 35 34359738367) (any_of HT_.out (by kernel_rfl)) ?_
          refine done_ (done_of HT_.out (by kernel_rfl)) ?_
          try go_wp2
          go_meet
          case rel => exact ⟨_, (true), (by first | rfl | (simp; done) | (simp [*]; done)), H', ⟨by have := HK1.out; first | omega | exact Nat.le_refl _⟩, ⟨by (with_reducible repeat (first | apply Kd.R_alloc | apply Kd.R_drewN | apply Kd.R_drew)); exact Kd.R_mono HO_4.out (fun _ hk => ⟨hk.1.2, hk.2⟩)⟩, ⟨by (with_reducible repeat (first | apply Kd.R_alloc | apply Kd.R_drewN | apply Kd.R_drew)); exact Kd.R_mono HO_5.out (fun _ hk => trivial)⟩, ⟨by (with_reducible repeat (first | apply Kd.R_alloc | apply Kd.R_drewN | apply Kd.R_drew)); exact Kd.R_mono HO70023.out (fun _ hk => hk.2)⟩, ⟨by (with_reducible repeat (first | apply Kd.R_alloc | apply Kd.R_drewN | apply Kd.R_drew)); exact Kd.R_mono HO70026.out (fun _ hk => ⟨hk.1.2, hk.2⟩)⟩, ⟨by (with_reducible repeat (first | apply Kd.R_alloc | apply Kd.R_drewN | apply Kd.R_drew)); exact Kd.R_mono HO70031.out (fun _ hk => hk.2)⟩, ⟨by (with_reducible repeat (first | apply Kd.R_alloc | apply Kd.R_drewN | apply Kd.R_drew)); exact Kd.R_mono HO70033.out (fun _ hk => ⟨hk.1.2, hk.2⟩)⟩, ⟨by repeat (first | (with_reducible first | exact HB.out | apply below_alloc | apply pw_below_drewN | apply below_drew1) | exact HB.out)⟩⟩
         ·rw [if_neg c31] at H
          have c31b0 : decide ((x5_1.length : Int) < 2) = false := decide_eq_false c31
          have c31b1 : decide (x5_1.length < 2) = false := decide_eq_false (by omega)
          clear c31
          by_cases c37 : t70027 = 0
          ·rw [if_pos c37] at H
           have c37b0 : (t70027 == 0) = true := beq_iff_eq.mpr c37
           have c37b1 : (t70027 != 0) = false := bne_eq_false_iff_eq.mpr c37
           clear c37
           by_cases c38 : 0 < (x5_1.length : Int)
           ·rw [if_pos c38] at H
            have c38b0 : decide (0 < (x5_1.length : Int)) = true := decide_eq_true c38
            have c38b1 : decide (0 < x5_1.length) = true := decide_eq_true (by omega)
            clear c38
            by_cases c39 : 1 < (x5_1.length : Int)
            ·rw [if_pos c39] at H
             have c39b0 : decide (1 < (x5_1.length : Int)) = true := decide_eq_true c39
             have c39b1 : decide (1 < x5_1.length) = true := decide_eq_true (by omega)
             clear c39
             have H' := Aside0.mk H
             clear H
             try go_wp2
             have n0_ := Aside0.mk (Kd.R_drew HO_3.out)
             have n1_ := Aside0.mk (Kd.R_drew HO_4.out)
             have n2_ := Aside0.mk (Kd.R_drew HO_5.out)
             have n3_ := Aside0.mk (Kd.R_drew HO70023.out)
             have n4_ := Aside0.mk (Kd.R_drew HO70026.out)
             have n5_ := Aside0.mk (Kd.R_drew HO70031.out)
             have n6_ := Aside0.mk (Kd.R_drew HO70033.out)
             have n7_ := Aside0.mk (below_drew1 HB.out)
             clear HO_3
             clear HO_4
             clear HO_5
             clear HO70023
             clear HO70026
             clear HO70031
             clear HO70033
             clear HB
             have HO_3 := n0_
             have HO_4 := n1_
             have HO_5 := n2_
             have HO70023 := n3_
             have HO70026 := n4_
             have HO70031 := n5_
             have HO70033 := n6_
             have HB := n7_
             clear n0_ n1_ n2_ n3_ n4_ n5_ n6_ n7_
             obtain ⟨Ao41, co41, eo41⟩ := Kd.R_slice HO70031.out
             (first | subst eo41 | (injection eo41 with f1_ f2_ f3_; have f4_ := f1_.symm; have f5_ := f3_.symm; clear f1_ f2_ f3_; subst f4_; subst f5_))
             obtain ⟨Ao42, co42, eo42⟩ := Kd.R_slice HO70023.out
             (first | subst eo42 | (injection eo42 with f1_ f2_ f3_; have f4_ := f1_.symm; have f5_ := f3_.symm; clear f1_ f2_ f3_; subst f4_; subst f5_))
             have p70036 : 0 ≤ (0 : Int) := (by omega)
             have q70036 : 0 < (x5_1.length : Int) := of_decide_eq_true (by first | (with_reducible assumption) | assumption)
             obtain ⟨ad70036, e70036, hx70036_0, hx70036_1, hx70036_2⟩ := at_T46 (Kd.R_reads' HO_5.out).2.2 0 p70036 q70036
             cases e70036
             have qi70036 : (0 < x5_1.length) = True := eq_true (by omega)
             (try rw [show ((0 : Int)).toNat = 0 from rfl] at hx70036_0)
             (try rw [show 0 * 3 = 0 from rfl] at hx70036_0)
             (try rw [Addr.add_zero'] at hx70036_0)
             (try rw [show ((0 : Int)).toNat = 0 from rfl] at hx70036_1)
             (try rw [show 0 * 3 = 0 from rfl] at hx70036_1)
             (try rw [Addr.add_zero'] at hx70036_1)
             (try rw [show ((0 : Int)).toNat = 0 from rfl] at hx70036_2)
             (try rw [show 0 * 3 = 0 from rfl] at hx70036_2)
             (try rw [Addr.add_zero'] at hx70036_2)
             replace p70036 := eq_true p70036
             replace q70036 := eq_true q70036
             have p70037 : 0 ≤ (1 : Int) := (by omega)
             have q70037 : 1 < (x5_1.length : Int) := of_decide_eq_true (by first | (with_reducible assumption) | assumption)
             obtain ⟨ad70037, e70037, hx70037_0, hx70037_1, hx70037_2⟩ := at_T46 (Kd.R_reads' HO_5.out).2.2 1 p70037 q70037
             obtain rfl : ad70036 = ad70037 := (by injection e70037)
             (try simp only [show (1 : Int).toNat = 1 from rfl, Nat.reduceMul, Nat.reduceEqDiff, Go.Addr.add, ↓reduceIte] at hx70037_0)
             (try simp only [show (1 : Int).toNat = 1 from rfl, Nat.reduceMul, Nat.reduceEqDiff, Go.Addr.add, ↓reduceIte] at hx70037_1)
             (try simp only [show (1 : Int).toNat = 1 from rfl, Nat.reduceMul, Nat.reduceEqDiff, Go.Addr.add, ↓reduceIte] at hx70037_2)
             have qi70037 : (1 < x5_1.length) = True := eq_true (by omega)
             (try rw [show ((1 : Int)).toNat = 1 from rfl] at hx70037_0)
             (try rw [show 1 * 3 = 3 from rfl] at hx70037_0)
             (try rw [show ((1 : Int)).toNat = 1 from rfl] at hx70037_1)
             (try rw [show 1 * 3 = 3 from rfl] at hx70037_1)
             (try rw [show ((1 : Int)).toNat = 1 from rfl] at hx70037_2)
             (try rw [show 1 * 3 = 3 from rfl] at hx70037_2)
             replace p70037 := eq_true p70037
             replace q70037 := eq_true q70037
             refine start_ (n := 35) (S := fun w' => w'.cell? ad70036 = some (.int .i64 ((rd_T46 x5_1 0).f0)) ∧ w'.cell? ⟨ad70036.block, ad70036.off + 1, none⟩ = some (.int .i64 ((rd_T46 x5_1 0).f1)) ∧ w'.cell? ⟨ad70036.block, ad70036.off + 2, none⟩ = some (.int .i64 ((rd_T46 x5_1 0).f2)) ∧ w'.cell? ⟨ad70036.block, ad70036.off + 3, none⟩ = some (.int .i64 ((rd_T46 x5_1 1).f0)) ∧ w'.cell? ⟨ad70036.block, ad70036.off + 3 + 1, none⟩ = some (.int .i64 ((rd_T46 x5_1 1).f1)) ∧ w'.cell? ⟨ad70036.block, ad70036.off + 3 + 2, none⟩ = some (.int .i64 ((rd_T46 x5_1 1).f2))) (ds := []) (bt_ 35 0) (by kernel_rfl) rfl rfl ⟨hx70036_0, hx70036_1, hx70036_2, hx70037_0, hx70037_1, hx70037_2⟩ (fun hHeld => ?_); refine with_tabW laws_FnDealSwap.tab12 laws_FnDealSwap.bits12 (fun HT_ HW_ => ?_)
             generalize w25.drew = w40 at HO_3 HO_4 HO_5 HO70023 HO70026 HO70031 HO70033 HB hx70036_0 hx70036_1 hx70036_2 hx70037_0 hx70037_1 hx70037_2 hHeld ⊢
             refine pu_ 0 (some 67) (bt_ 35 1) (any_of HT_.out (by kernel_rfl)) ?_
             refine pu_ 1 (some 68) (bt_ 35 3) (any_of HT_.out (by kernel_rfl)) ?_
             refine pu_ 2 (some 69) (bt_ 35 7) (any_of HT_.out (by kernel_rfl)) ?_
             refine pu_ 3 (some 70) (bt_ 35 15) (any_of HT_.out (by kernel_rfl)) ?_
             refine pu_ 4 (some 71) (bt_ 35 31) (any_of HT_.out (by kernel_rfl)) ?_
             refine pu_ 5 (some 72) (bt_ 35 63) (any_of HT_.out (by kernel_rfl)) ?_
             refine one_ (i := 6) (N := some 73) (bt_ 35 127) rfl rfl (one_of HT_.out (by kernel_rfl)) (by decide) (fun K hK => ?_)
             refine goes_ Try.func31 (by kernel_rfl) rfl #[.slice Ao41 t70028.length co41, .slice Ao42 t70021.length co42] (by rfl) rfl rfl (by (try simp only [List.map_toArray, List.map_cons, List.map_nil]); first | done | rfl | (simp only [List.length_drop, List.length_take]; rfl)) ?_
             with_reducible refine (laws_loInts.calls k1 _ _ t70028 _ _ t70021 true _ ?side1 ?side2 ?side3 ?side4 A27.out).mono ?_
             (case side1 => repeat (first | exact (Kd.R_reads' HO70031.out).2.2 | (with_reducible refine Kd.C_alloc ?_ _) | (with_reducible refine Kd.C_drewN ?_ _) | (with_reducible refine Kd.C_drew ?_)))
             (case side2 => exact (Kd.R_reads' HO70031.out).2.1)
             (case side3 => repeat (first | exact (Kd.R_reads' HO70023.out).2.2 | (with_reducible refine Kd.C_alloc ?_ _) | (with_reducible refine Kd.C_drewN ?_ _) | (with_reducible refine Kd.C_drew ?_)))
             (case side4 => exact (Kd.R_reads' HO70023.out).2.1)
             rintro e w' ⟨rfl, ⟨nd, rfl⟩⟩
             refine ⟨_, rfl, ?_⟩
             obtain ⟨Ao43, co43, eo43⟩ := Kd.R_slice HO70033.out
             (first | subst eo43 | (injection eo43 with f1_ f2_ f3_; have f4_ := f1_.symm; have f5_ := f3_.symm; clear f1_ f2_ f3_; subst f4_; subst f5_))
             obtain ⟨Ao44, co44, eo44⟩ := Kd.R_slice HO70026.out
             (first | subst eo44 | (injection eo44 with f1_ f2_ f3_; have f4_ := f1_.symm; have f5_ := f3_.symm; clear f1_ f2_ f3_; subst f4_; subst f5_))
             refine hK.out _ _ ⟨hHeld.1, hHeld.2.1, hHeld.2.2.1, hHeld.2.2.2.1, hHeld.2.2.2.2.1, hHeld.2.2.2.2.2⟩ (fun hHeld => ?_)
             clear hK K
             refine norm_ (a' := ?_) ?_ ?_
             rotate_left
             ·show Act.put _ (some 73) _ = _
              simp only [Act.put, List.setIfInBounds_toArray, List.set_cons_zero, List.set_cons_succ, i64_w, i32_w]
              rfl
             refine pu_ 7 (some 74) (bt_ 35 255) (any_of HT_.out (by kernel_rfl)) ?_
             refine pu_ 8 (some 75) (bt_ 35 511) (any_of HT_.out (by kernel_rfl)) ?_
             refine pu_ 9 (some 76) (bt_ 35 1023) (any_of HT_.out (by kernel_rfl)) ?_
             refine pu_ 10 (some 77) (bt_ 35 2047) (any_of HT_.out (by kernel_rfl)) ?_
             refine pu_ 11 (some 78) (bt_ 35 4095) (any_of HT_.out (by kernel_rfl)) ?_
             refine one_ (i := 12) (N := some 79) (bt_ 35 8191) rfl rfl (one_of HT_.out (by kernel_rfl)) (by decide) (fun K hK => ?_)
             refine goes_ Try.func32 (by kernel_rfl) rfl #[.slice Ao43 t70029.length co43, .slice Ao44 t70024.length co44] (by rfl) rfl rfl (by (try simp only [List.map_toArray, List.map_cons, List.map_nil]); first | done | rfl | (simp only [List.length_drop, List.length_take]; rfl)) ?_
             with_reducible refine (laws_loPairs.calls k1 _ _ t70029 _ _ t70024 true _ ?side1 ?side2 ?side3 ?side4 A29.out).mono ?_
             (case side1 => repeat (first | exact (Kd.R_reads' HO70033.out).2.2 | (with_reducible refine Kd.C_alloc ?_ _) | (with_reducible refine Kd.C_drewN ?_ _) | (with_reducible refine Kd.C_drew ?_)))
             (case side2 => exact (Kd.R_reads' HO70033.out).2.1)
             (case side3 => repeat (first | exact (Kd.R_reads' HO70026.out).2.2 | (with_reducible refine Kd.C_alloc ?_ _) | (with_reducible refine Kd.C_drewN ?_ _) | (with_reducible refine Kd.C_drew ?_)))
             (case side4 => exact (Kd.R_reads' HO70026.out).2.1)
             rintro e w' ⟨rfl, ⟨nd, rfl⟩⟩
             refine ⟨_, rfl, ?_⟩
             refine hK.out _ _ ⟨hHeld.1, hHeld.2.1, hHeld.2.2.1, hHeld.2.2.2.1, hHeld.2.2.2.2.1, hHeld.2.2.2.2.2⟩ (fun hHeld => ?_)
             clear hK K
             refine norm_ (a' := ?_) ?_ ?_
             rotate_left
             ·show Act.put _ (some 79) _ = _
              simp only [Act.put, List.setIfInBounds_toArray, List.set_cons_zero, List.set_cons_succ, i64_w, i32_w]
              rfl
             refine pu_ 13 (some 80) (bt_ 35 16383) (any_of HT_.out (by kernel_rfl)) ?_
             refine pu_ 14 (some 81) (bt_ 35 32767) (any_of HT_.out (by kernel_rfl)) ?_
             refine pu_ 15 (some 82) (bt_ 35 65535) (any_of HT_.out (by kernel_rfl)) ?_
             refine pu_ 16 (some 83) (bt_ 35 131071) (any_of HT_.out (by kernel_rfl)) ?_
             refine pu_ 17 (some 84) (bt_ 35 262143) (any_of HT_.out (by kernel_rfl)) ?_
             refine pu_ 18 (some 85) (bt_ 35 524287) (any_of HT_.out (by kernel_rfl)) ?_
             refine pu_ 19 (some 86) (bt_ 35 1048575) (any_of HT_.out (by kernel_rfl)) ?_
             refine pu_ 20 (some 87) (bt_ 35 2097151) (any_of HT_.out (by kernel_rfl)) ?_
             refine pu_ 21 (some 88) (bt_ 35 4194303) (any_of HT_.out (by kernel_rfl)) ?_
             refine pu_ 22 (some 89) (bt_ 35 8388607) (any_of HT_.out (by kernel_rfl)) ?_
             refine pu_ 23 (some 90) (bt_ 35 16777215) (any_of HT_.out (by kernel_rfl)) ?_
             refine pu_ 24 (some 91) (bt_ 35 33554431) (any_of HT_.out (by kernel_rfl)) ?_
             refine pu_ 25 (some 92) (bt_ 35 67108863) (any_of HT_.out (by kernel_rfl)) ?_
             refine pu_ 26 (some 93) (bt_ 35 134217727) (any_of HT_.out (by kernel_rfl)) ?_
             refine pu_ 27 (some 94) (bt_ 35 268435455) (any_of HT_.out (by kernel_rfl)) ?_
             refine pu_ 29 (some 96) (bt_ 35 805306367) (any_of HT_.out (by kernel_rfl)) ?_
             refine pu_ 30 (some 97) (bt_ 35 1879048191) (any_of HT_.out (by kernel_rfl)) ?_
             refine pu_ 31 (some 98) (bt_ 35 4026531839) (any_of HT_.out (by kernel_rfl)) ?_
             refine take_ (i := 28) (N := some 95) (v := ?_) (a' := ?_) (bt_ 35 4294967295) rfl rfl (take_ofW HT_.out HW_.out (by kernel_rfl)) (fun _ _ _ h => h) (Or.inl ⟨by rfl, ?_⟩) hHeld ?_ ?_
             rotate_left
             ·rintro w' ⟨s0, s1, s2, s3, s4, s5⟩
              go_simp
              with_reducible rfl
             rotate_left
             ·simp only [Act.put, List.setIfInBounds_toArray, List.set_cons_zero, List.set_cons_succ, i64_w, i32_w]
              rfl
             refine take_ (i := 32) (N := some 99) (v := ?_) (a' := ?_) (bt_ 35 8589934591) rfl rfl (take_ofW HT_.out HW_.out (by kernel_rfl)) (fun _ _ _ h => h) (Or.inl ⟨by rfl, ?_⟩) hHeld ?_ ?_
             rotate_left
             ·rintro w' ⟨s0, s1, s2, s3, s4, s5⟩
              go_simp
              with_reducible rfl
             rotate_left
             ·simp only [Act.put, List.setIfInBounds_toArray, List.set_cons_zero, List.set_cons_succ, i64_w, i32_w]
              rfl
             refine pu_ 33 (some 100) (bt_ 35 17179869183) (any_of HT_.out (by kernel_rfl)) ?_
             refine pu_ 34 (some 101) (bt_ 35 34359738367) (any_of HT_.out (by kernel_rfl)) ?_
             refine done_ (done_of HT_.out (by kernel_rfl)) ?_
             try go_wp2
             go_meet
             case rel => exact ⟨_, ((((rd_T46 x5_1 0).f1) == ((rd_T46 x5_1 1).f1))), (by first | rfl | (simp; done) | (simp [*]; done)), H', ⟨by have := HK1.out; first | omega | exact Nat.le_refl _⟩, ⟨by (with_reducible repeat (first | apply Kd.R_alloc | apply Kd.R_drewN | apply Kd.R_drew)); exact Kd.R_mono HO_4.out (fun _ hk => ⟨hk.1.2, hk.2⟩)⟩, ⟨by (with_reducible repeat (first | apply Kd.R_alloc | apply Kd.R_drewN | apply Kd.R_drew)); exact Kd.R_mono HO_5.out (fun _ hk => trivial)⟩, ⟨by (with_reducible repeat (first | apply Kd.R_alloc | apply Kd.R_drewN | apply Kd.R_drew)); exact Kd.R_mono HO70023.out (fun _ hk => hk.2)⟩, ⟨by (with_reducible repeat (first | apply Kd.R_alloc | apply Kd.R_drewN | apply Kd.R_drew)); exact Kd.R_mono HO70026.out (fun _ hk => ⟨hk.1.2, hk.2⟩)⟩, ⟨by (with_reducible repeat (first | apply Kd.R_alloc | apply Kd.R_drewN | apply Kd.R_drew)); exact Kd.R_mono HO70031.out (fun _ hk => hk.2)⟩, ⟨by (with_reducible repeat (first | apply Kd.R_alloc | apply Kd.R_drewN | apply Kd.R_drew)); exact Kd.R_mono HO70033.out (fun _ hk => ⟨hk.1.2, hk.2⟩)⟩, ⟨by repeat (first | (with_reducible first | exact HB.out | apply below_alloc | apply pw_below_drewN | apply below_drew1) | exact HB.out)⟩⟩
            ·rw [if_neg c39] at H
             exact absurd H (by simp)
           ·rw [if_neg c38] at H
            exact absurd H (by simp)
          ·rw [if_neg c37] at H
           have c37b0 : (t70027 == 0) = false := beq_eq_false_iff_ne.mpr c37
           have c37b1 : (t70027 != 0) = true := bne_iff_ne.mpr c37
           have H' := Aside0.mk H
           clear H
           try go_wp2
           have n0_ := Aside0.mk (Kd.R_drew HO_3.out)
           have n1_ := Aside0.mk (Kd.R_drew HO_4.out)
           have n2_ := Aside0.mk (Kd.R_drew HO_5.out)
           have n3_ := Aside0.mk (Kd.R_drew HO70023.out)
           have n4_ := Aside0.mk (Kd.R_drew HO70026.out)
           have n5_ := Aside0.mk (Kd.R_drew HO70031.out)
           have n6_ := Aside0.mk (Kd.R_drew HO70033.out)
           have n7_ := Aside0.mk (below_drew1 HB.out)
           clear HO_3
           clear HO_4
           clear HO_5
           clear HO70023
           clear HO70026
           clear HO70031
           clear HO70033
           clear HB
           have HO_3 := n0_
           have HO_4 := n1_
           have HO_5 := n2_
           have HO70023 := n3_
           have HO70026 := n4_
           have HO70031 := n5_
           have HO70033 := n6_
           have HB := n7_
           clear n0_ n1_ n2_ n3_ n4_ n5_ n6_ n7_
           obtain ⟨Ao46, co46, eo46⟩ := Kd.R_slice HO70031.out
           (first | subst eo46 | (injection eo46 with f1_ f2_ f3_; have f4_ := f1_.symm; have f5_ := f3_.symm; clear f1_ f2_ f3_; subst f4_; subst f5_))
           obtain ⟨Ao47, co47, eo47⟩ := Kd.R_slice HO70023.out
           (first | subst eo47 | (injection eo47 with f1_ f2_ f3_; have f4_ := f1_.symm; have f5_ := f3_.symm; clear f1_ f2_ f3_; subst f4_; subst f5_))
           refine start_ (n := 35) (S := fun w' => True) (ds := []) (bt_ 35 0) (by kernel_rfl) rfl rfl trivial (fun hHeld => ?_); refine with_tabW laws_FnDealSwap.tab12 laws_FnDealSwap.bits12 (fun HT_ HW_ => ?_)
           generalize w25.drew = w45 at HO_3 HO_4 HO_5 HO70023 HO70026 HO70031 HO70033 HB hHeld ⊢
           refine pu_ 0 (some 67) (bt_ 35 1) (any_of HT_.out (by kernel_rfl)) ?_
           refine pu_ 1 (some 68) (bt_ 35 3) (any_of HT_.out (by kernel_rfl)) ?_
           refine pu_ 2 (some 69) (bt_ 35 7) (any_of HT_.out (by kernel_rfl)) ?_
           refine pu_ 3 (some 70) (bt_ 35 15) (any_of HT_.out (by kernel_rfl)) ?_
           refine pu_ 4 (some 71) (bt_ 35 31) (any_of HT_.out (by kernel_rfl)) ?_
           refine pu_ 5 (some 72) (bt_ 35 63) (any_of HT_.out (by kernel_rfl)) ?_
           refine one_ (i := 6) (N := some 73) (bt_ 35 127) rfl rfl (one_of HT_.out (by kernel_rfl)) (by decide) (fun K hK => ?_)
           refine goes_ Try.func31 (by kernel_rfl) rfl #[.slice Ao46 t70028.length co46, .slice Ao47 t70021.length co47] (by rfl) rfl rfl (by (try simp only [List.map_toArray, List.map_cons, List.map_nil]); first | done | rfl | (simp only [List.length_drop, List.length_take]; rfl)) ?_
           with_reducible refine (laws_loInts.calls k1 _ _ t70028 _ _ t70021 true _ ?side1 ?side2 ?side3 ?side4 A27.out).mono ?_
           (case side1 => repeat (first | exact (Kd.R_reads' HO70031.out).2.2 | (with_reducible refine Kd.C_alloc ?_ _) | (with_reducible refine Kd.C_drewN ?_ _) | (with_reducible refine Kd.C_drew ?_)))
           (case side2 => exact (Kd.R_reads' HO70031.out).2.1)
           (case side3 => repeat (first | exact (Kd.R_reads' HO70023.out).2.2 | (with_reducible refine Kd.C_alloc ?_ _) | (with_reducible refine Kd.C_drewN ?_ _) | (with_reducible refine Kd.C_drew ?_)))
           (case side4 => exact (Kd.R_reads' HO70023.out).2.1)
           rintro e w' ⟨rfl, ⟨nd, rfl⟩⟩
           refine ⟨_, rfl, ?_⟩
           obtain ⟨Ao48, co48, eo48⟩ := Kd.R_slice HO70033.out
           (first | subst eo48 | (injection eo48 with f1_ f2_ f3_; have f4_ := f1_.symm; have f5_ := f3_.symm; clear f1_ f2_ f3_; subst f4_; subst f5_))
           obtain ⟨Ao49, co49, eo49⟩ := Kd.R_slice HO70026.out
           (first | subst eo49 | (injection eo49 with f1_ f2_ f3_; have f4_ := f1_.symm; have f5_ := f3_.symm; clear f1_ f2_ f3_; subst f4_; subst f5_))
           refine hK.out _ _ trivial (fun hHeld => ?_)
           clear hK K
           refine norm_ (a' := ?_) ?_ ?_
           rotate_left
           ·show Act.put _ (some 73) _ = _
            simp only [Act.put, List.setIfInBounds_toArray, List.set_cons_zero, List.set_cons_succ, i64_w, i32_w]
            rfl
           refine pu_ 7 (some 74) (bt_ 35 255) (any_of HT_.out (by kernel_rfl)) ?_
           refine pu_ 8 (some 75) (bt_ 35 511) (any_of HT_.out (by kernel_rfl)) ?_
           refine pu_ 9 (some 76) (bt_ 35 1023) (any_of HT_.out (by kernel_rfl)) ?_
           refine pu_ 10 (some 77) (bt_ 35 2047) (any_of HT_.out (by kernel_rfl)) ?_
           refine pu_ 11 (some 78) (bt_ 35 4095) (any_of HT_.out (by kernel_rfl)) ?_
           refine one_ (i := 12) (N := some 79) (bt_ 35 8191) rfl rfl (one_of HT_.out (by kernel_rfl)) (by decide) (fun K hK => ?_)
           refine goes_ Try.func32 (by kernel_rfl) rfl #[.slice Ao48 t70029.length co48, .slice Ao49 t70024.length co49] (by rfl) rfl rfl (by (try simp only [List.map_toArray, List.map_cons, List.map_nil]); first | done | rfl | (simp only [List.length_drop, List.length_take]; rfl)) ?_
           with_reducible refine (laws_loPairs.calls k1 _ _ t70029 _ _ t70024 true _ ?side1 ?side2 ?side3 ?side4 A29.out).mono ?_
           (case side1 => repeat (first | exact (Kd.R_reads' HO70033.out).2.2 | (with_reducible refine Kd.C_alloc ?_ _) | (with_reducible refine Kd.C_drewN ?_ _) | (with_reducible refine Kd.C_drew ?_)))
           (case side2 => exact (Kd.R_reads' HO70033.out).2.1)
           (case side3 => repeat (first | exact (Kd.R_reads' HO70026.out).2.2 | (with_reducible refine Kd.C_alloc ?_ _) | (with_reducible refine Kd.C_drewN ?_ _) | (with_reducible refine Kd.C_drew ?_)))
           (case side4 => exact (Kd.R_reads' HO70026.out).2.1)
           rintro e w' ⟨rfl, ⟨nd, rfl⟩⟩
           refine ⟨_, rfl, ?_⟩
           refine hK.out _ _ trivial (fun hHeld => ?_)
           clear hK K
           refine norm_ (a' := ?_) ?_ ?_
           rotate_left
           ·show Act.put _ (some 79) _ = _
            simp only [Act.put, List.setIfInBounds_toArray, List.set_cons_zero, List.set_cons_succ, i64_w, i32_w]
            rfl
           refine pu_ 13 (some 80) (bt_ 35 16383) (any_of HT_.out (by kernel_rfl)) ?_
           refine pu_ 14 (some 81) (bt_ 35 32767) (any_of HT_.out (by kernel_rfl)) ?_
           refine pu_ 15 (some 82) (bt_ 35 65535) (any_of HT_.out (by kernel_rfl)) ?_
           refine pu_ 16 (some 83) (bt_ 35 131071) (any_of HT_.out (by kernel_rfl)) ?_
           refine pu_ 17 (some 84) (bt_ 35 262143) (any_of HT_.out (by kernel_rfl)) ?_
           refine pu_ 18 (some 85) (bt_ 35 524287) (any_of HT_.out (by kernel_rfl)) ?_
           refine pu_ 19 (some 86) (bt_ 35 1048575) (any_of HT_.out (by kernel_rfl)) ?_
           refine pu_ 20 (some 87) (bt_ 35 2097151) (any_of HT_.out (by kernel_rfl)) ?_
           refine pu_ 21 (some 88) (bt_ 35 4194303) (any_of HT_.out (by kernel_rfl)) ?_
           refine pu_ 22 (some 89) (bt_ 35 8388607) (any_of HT_.out (by kernel_rfl)) ?_
           refine pu_ 23 (some 90) (bt_ 35 16777215) (any_of HT_.out (by kernel_rfl)) ?_
           refine pu_ 24 (some 91) (bt_ 35 33554431) (any_of HT_.out (by kernel_rfl)) ?_
           refine pn_ 25 (some 92) (bt_ 35 67108863) (any_of HT_.out (by kernel_rfl)) ?_
           refine pn_ 26 (some 93) (bt_ 35 134217727) (any_of HT_.out (by kernel_rfl)) ?_
           refine pn_ 27 (some 94) (bt_ 35 268435455) (any_of HT_.out (by kernel_rfl)) ?_
           refine pn_ 28 (some 95) (bt_ 35 536870911) (any_of HT_.out (by kernel_rfl)) ?_
           refine pn_ 29 (some 96) (bt_ 35 1073741823) (any_of HT_.out (by kernel_rfl)) ?_
           refine pn_ 30 (some 97) (bt_ 35 2147483647) (any_of HT_.out (by kernel_rfl)) ?_
           refine pn_ 31 (some 98) (bt_ 35 4294967295) (any_of HT_.out (by kernel_rfl)) ?_
           refine pn_ 32 (some 99) (bt_ 35 8589934591) (any_of HT_.out (by kernel_rfl)) ?_
           refine pn_ 33 (some 100) (bt_ 35 17179869183) (any_of HT_.out (by kernel_rfl)) ?_
           refine pu_ 34 (some 101) (bt_ 35 34359738367) (any_of HT_.out (by kernel_rfl)) ?_
           refine done_ (done_of HT_.out (by kernel_rfl)) ?_
           try go_wp2
           go_meet
           case rel => exact ⟨_, (true), (by first | rfl | (simp; done) | (simp [*]; done)), H', ⟨by have := HK1.out; first | omega | exact Nat.le_refl _⟩, ⟨by (with_reducible repeat (first | apply Kd.R_alloc | apply Kd.R_drewN | apply Kd.R_drew)); exact Kd.R_mono HO_4.out (fun _ hk => ⟨hk.1.2, hk.2⟩)⟩, ⟨by (with_reducible repeat (first | apply Kd.R_alloc | apply Kd.R_drewN | apply Kd.R_drew)); exact Kd.R_mono HO_5.out (fun _ hk => trivial)⟩, ⟨by (with_reducible repeat (first | apply Kd.R_alloc | apply Kd.R_drewN | apply Kd.R_drew)); exact Kd.R_mono HO70023.out (fun _ hk => hk.2)⟩, ⟨by (with_reducible repeat (first | apply Kd.R_alloc | apply Kd.R_drewN | apply Kd.R_drew)); exact Kd.R_mono HO70026.out (fun _ hk => ⟨hk.1.2, hk.2⟩)⟩, ⟨by (with_reducible repeat (first | apply Kd.R_alloc | apply Kd.R_drewN | apply Kd.R_drew)); exact Kd.R_mono HO70031.out (fun _ hk => hk.2)⟩, ⟨by (with_reducible repeat (first | apply Kd.R_alloc | apply Kd.R_drewN | apply Kd.R_drew)); exact Kd.R_mono HO70033.out (fun _ hk => ⟨hk.1.2, hk.2⟩)⟩, ⟨by repeat (first | (with_reducible first | exact HB.out | apply below_alloc | apply pw_below_drewN | apply below_drew1) | exact HB.out)⟩⟩
        ·replace c30 := Bool.eq_false_iff.mpr c30
         subst c30
         have H1 : (laws_FnDealSwap.j1 k1 t70002 x5_1 t70020 t70021 t70024 t70027 t70028 t70029 true) = some true := by rw [if_neg (show ¬ (false = true) by decide)] at H; exact H
         clear H
         have H := H1
         clear H1
         have H' := Aside0.mk H
         clear H
         try go_wp2
         have n0_ := Aside0.mk (Kd.R_drew HO_3.out)
         have n1_ := Aside0.mk (Kd.R_drew HO_4.out)
         have n2_ := Aside0.mk (Kd.R_drew HO_5.out)
         have n3_ := Aside0.mk (Kd.R_drew HO70023.out)
         have n4_ := Aside0.mk (Kd.R_drew HO70026.out)
         have n5_ := Aside0.mk (Kd.R_drew HO70031.out)
         have n6_ := Aside0.mk (Kd.R_drew HO70033.out)
         have n7_ := Aside0.mk (below_drew1 HB.out)
         clear HO_3
         clear HO_4
         clear HO_5
         clear HO70023
         clear HO70026
         clear HO70031
         clear HO70033
         clear HB
         have HO_3 := n0_
         have HO_4 := n1_
         have HO_5 := n2_
         have HO70023 := n3_
         have HO70026 := n4_
         have HO70031 := n5_
         have HO70033 := n6_
         have HB := n7_
         clear n0_ n1_ n2_ n3_ n4_ n5_ n6_ n7_
         obtain ⟨Ao51, co51, eo51⟩ := Kd.R_slice HO70031.out
         (first | subst eo51 | (injection eo51 with f1_ f2_ f3_; have f4_ := f1_.symm; have f5_ := f3_.symm; clear f1_ f2_ f3_; subst f4_; subst f5_))
         obtain ⟨Ao52, co52, eo52⟩ := Kd.R_slice HO70023.out
         (first | subst eo52 | (injection eo52 with f1_ f2_ f3_; have f4_ := f1_.symm; have f5_ := f3_.symm; clear f1_ f2_ f3_; subst f4_; subst f5_))
         refine start_ (n := 35) (S := fun w' => True) (ds := []) (bt_ 35 0) (by kernel_rfl) rfl rfl trivial (fun hHeld => ?_); refine with_tabW laws_FnDealSwap.tab12 laws_FnDealSwap.bits12 (fun HT_ HW_ => ?_)
         generalize w25.drew = w50 at HO_3 HO_4 HO_5 HO70023 HO70026 HO70031 HO70033 HB hHeld ⊢
         refine pu_ 0 (some 67) (bt_ 35 1) (any_of HT_.out (by kernel_rfl)) ?_
         refine pu_ 1 (some 68) (bt_ 35 3) (any_of HT_.out (by kernel_rfl)) ?_
         refine pu_ 2 (some 69) (bt_ 35 7) (any_of HT_.out (by kernel_rfl)) ?_
         refine pu_ 3 (some 70) (bt_ 35 15) (any_of HT_.out (by kernel_rfl)) ?_
         refine pu_ 4 (some 71) (bt_ 35 31) (any_of HT_.out (by kernel_rfl)) ?_
         refine pu_ 5 (some 72) (bt_ 35 63) (any_of HT_.out (by kernel_rfl)) ?_
         refine one_ (i := 6) (N := some 73) (bt_ 35 127) rfl rfl (one_of HT_.out (by kernel_rfl)) (by decide) (fun K hK => ?_)
         refine goes_ Try.func31 (by kernel_rfl) rfl #[.slice Ao51 t70028.length co51, .slice Ao52 t70021.length co52] (by rfl) rfl rfl (by (try simp only [List.map_toArray, List.map_cons, List.map_nil]); first | done | rfl | (simp only [List.length_drop, List.length_take]; rfl)) ?_
         with_reducible refine (laws_loInts.calls k1 _ _ t70028 _ _ t70021 true _ ?side1 ?side2 ?side3 ?side4 A27.out).mono ?_
         (case side1 => repeat (first | exact (Kd.R_reads' HO70031.out).2.2 | (with_reducible refine Kd.C_alloc ?_ _) | (with_reducible refine Kd.C_drewN ?_ _) | (with_reducible refine Kd.C_drew ?_)))
         (case side2 => exact (Kd.R_reads' HO70031.out).2.1)
         (case side3 => repeat (first | exact (Kd.R_reads' HO70023.out).2.2 | (with_reducible refine Kd.C_alloc ?_ _) | (with_reducible refine Kd.C_drewN ?_ _) | (with_reducible refine Kd.C_drew ?_)))
         (case side4 => exact (Kd.R_reads' HO70023.out).2.1)
         rintro e w' ⟨rfl, ⟨nd, rfl⟩⟩
         refine ⟨_, rfl, ?_⟩
         obtain ⟨Ao53, co53, eo53⟩ := Kd.R_slice HO70033.out
         (first | subst eo53 | (injection eo53 with f1_ f2_ f3_; have f4_ := f1_.symm; have f5_ := f3_.symm; clear f1_ f2_ f3_; subst f4_; subst f5_))
         obtain ⟨Ao54, co54, eo54⟩ := Kd.R_slice HO70026.out
         (first | subst eo54 | (injection eo54 with f1_ f2_ f3_; have f4_ := f1_.symm; have f5_ := f3_.symm; clear f1_ f2_ f3_; subst f4_; subst f5_))
         refine hK.out _ _ trivial (fun hHeld => ?_)
         clear hK K
         refine norm_ (a' := ?_) ?_ ?_
         rotate_left
         ·show Act.put _ (some 73) _ = _
          simp only [Act.put, List.setIfInBounds_toArray, List.set_cons_zero, List.set_cons_succ, i64_w, i32_w]
          rfl
         refine pu_ 7 (some 74) (bt_ 35 255) (any_of HT_.out (by kernel_rfl)) ?_
         refine pu_ 8 (some 75) (bt_ 35 511) (any_of HT_.out (by kernel_rfl)) ?_
         refine pu_ 9 (some 76) (bt_ 35 1023) (any_of HT_.out (by kernel_rfl)) ?_
         refine pu_ 10 (some 77) (bt_ 35 2047) (any_of HT_.out (by kernel_rfl)) ?_
         refine pu_ 11 (some 78) (bt_ 35 4095) (any_of HT_.out (by kernel_rfl)) ?_
         refine one_ (i := 12) (N := some 79) (bt_ 35 8191) rfl rfl (one_of HT_.out (by kernel_rfl)) (by decide) (fun K hK => ?_)
         refine goes_ Try.func32 (by kernel_rfl) rfl #[.slice Ao53 t70029.length co53, .slice Ao54 t70024.length co54] (by rfl) rfl rfl (by (try simp only [List.map_toArray, List.map_cons, List.map_nil]); first | done | rfl | (simp only [List.length_drop, List.length_take]; rfl)) ?_
         with_reducible refine (laws_loPairs.calls k1 _ _ t70029 _ _ t70024 false _ ?side1 ?side2 ?side3 ?side4 A29.out).mono ?_
         (case side1 => repeat (first | exact (Kd.R_reads' HO70033.out).2.2 | (with_reducible refine Kd.C_alloc ?_ _) | (with_reducible refine Kd.C_drewN ?_ _) | (with_reducible refine Kd.C_drew ?_)))
         (case side2 => exact (Kd.R_reads' HO70033.out).2.1)
         (case side3 => repeat (first | exact (Kd.R_reads' HO70026.out).2.2 | (with_reducible refine Kd.C_alloc ?_ _) | (with_reducible refine Kd.C_drewN ?_ _) | (with_reducible refine Kd.C_drew ?_)))
         (case side4 => exact (Kd.R_reads' HO70026.out).2.1)
         rintro e w' ⟨rfl, ⟨nd, rfl⟩⟩
         refine ⟨_, rfl, ?_⟩
         refine hK.out _ _ trivial (fun hHeld => ?_)
         clear hK K
         refine norm_ (a' := ?_) ?_ ?_
         rotate_left
         ·show Act.put _ (some 79) _ = _
          simp only [Act.put, List.setIfInBounds_toArray, List.set_cons_zero, List.set_cons_succ, i64_w, i32_w]
          rfl
         refine pu_ 13 (some 80) (bt_ 35 16383) (any_of HT_.out (by kernel_rfl)) ?_
         refine pu_ 14 (some 81) (bt_ 35 32767) (any_of HT_.out (by kernel_rfl)) ?_
         refine pu_ 15 (some 82) (bt_ 35 65535) (any_of HT_.out (by kernel_rfl)) ?_
         refine pn_ 16 (some 83) (bt_ 35 131071) (any_of HT_.out (by kernel_rfl)) ?_
         refine pn_ 17 (some 84) (bt_ 35 262143) (any_of HT_.out (by kernel_rfl)) ?_
         refine pn_ 18 (some 85) (bt_ 35 524287) (any_of HT_.out (by kernel_rfl)) ?_
         refine pu_ 19 (some 86) (bt_ 35 1048575) (any_of HT_.out (by kernel_rfl)) ?_
         refine pu_ 20 (some 87) (bt_ 35 2097151) (any_of HT_.out (by kernel_rfl)) ?_
         refine pn_ 21 (some 88) (bt_ 35 4194303) (any_of HT_.out (by kernel_rfl)) ?_
         refine pn_ 22 (some 89) (bt_ 35 8388607) (any_of HT_.out (by kernel_rfl)) ?_
         refine pu_ 23 (some 90) (bt_ 35 16777215) (any_of HT_.out (by kernel_rfl)) ?_
         refine pu_ 24 (some 91) (bt_ 35 33554431) (any_of HT_.out (by kernel_rfl)) ?_
         refine pn_ 25 (some 92) (bt_ 35 67108863) (any_of HT_.out (by kernel_rfl)) ?_
         refine pn_ 26 (some 93) (bt_ 35 134217727) (any_of HT_.out (by kernel_rfl)) ?_
         refine pn_ 27 (some 94) (bt_ 35 268435455) (any_of HT_.out (by kernel_rfl)) ?_
         refine pn_ 28 (some 95) (bt_ 35 536870911) (any_of HT_.out (by kernel_rfl)) ?_
         refine pn_ 29 (some 96) (bt_ 35 1073741823) (any_of HT_.out (by kernel_rfl)) ?_
         refine pn_ 30 (some 97) (bt_ 35 2147483647) (any_of HT_.out (by kernel_rfl)) ?_
         refine pn_ 31 (some 98) (bt_ 35 4294967295) (any_of HT_.out (by kernel_rfl)) ?_
         refine pn_ 32 (some 99) (bt_ 35 8589934591) (any_of HT_.out (by kernel_rfl)) ?_
         refine pn_ 33 (some 100) (bt_ 35 17179869183) (any_of HT_.out (by kernel_rfl)) ?_
         refine pu_ 34 (some 101) (bt_ 35 34359738367) (any_of HT_.out (by kernel_rfl)) ?_
         refine done_ (done_of HT_.out (by kernel_rfl)) ?_
         try go_wp2
         go_meet
         case rel => exact ⟨_, (true), (by first | rfl | (simp; done) | (simp [*]; done)), H', ⟨by have := HK1.out; first | omega | exact Nat.le_refl _⟩, ⟨by (with_reducible repeat (first | apply Kd.R_alloc | apply Kd.R_drewN | apply Kd.R_drew)); exact Kd.R_mono HO_4.out (fun _ hk => ⟨hk.1.2, hk.2⟩)⟩, ⟨by (with_reducible repeat (first | apply Kd.R_alloc | apply Kd.R_drewN | apply Kd.R_drew)); exact Kd.R_mono HO_5.out (fun _ hk => trivial)⟩, ⟨by (with_reducible repeat (first | apply Kd.R_alloc | apply Kd.R_drewN | apply Kd.R_drew)); exact Kd.R_mono HO70023.out (fun _ hk => hk.2)⟩, ⟨by (with_reducible repeat (first | apply Kd.R_alloc | apply Kd.R_drewN | apply Kd.R_drew)); exact Kd.R_mono HO70026.out (fun _ hk => ⟨hk.1.2, hk.2⟩)⟩, ⟨by (with_reducible repeat (first | apply Kd.R_alloc | apply Kd.R_drewN | apply Kd.R_drew)); exact Kd.R_mono HO70031.out (fun _ hk => hk.2)⟩, ⟨by (with_reducible repeat (first | apply Kd.R_alloc | apply Kd.R_drewN | apply Kd.R_drew)); exact Kd.R_mono HO70033.out (fun _ hk => ⟨hk.1.2, hk.2⟩)⟩, ⟨by repeat (first | (with_reducible first | exact HB.out | apply below_alloc | apply pw_below_drewN | apply below_drew1) | exact HB.out)⟩⟩
       ·replace c28 := Bool.eq_false_iff.mpr c28
        subst c28
        have H1 : (laws_FnDealSwap.j1 k1 t70002 x5_1 t70020 t70021 t70024 t70027 t70028 t70029 true) = some true := by rw [if_neg (show ¬ (false = true) by decide)] at H; exact H
        clear H
        have H := H1
        clear H1
        have H' := Aside0.mk H
        clear H
        try go_wp2
        have n0_ := Aside0.mk (Kd.R_drew HO_3.out)
        have n1_ := Aside0.mk (Kd.R_drew HO_4.out)
        have n2_ := Aside0.mk (Kd.R_drew HO_5.out)
        have n3_ := Aside0.mk (Kd.R_drew HO70023.out)
        have n4_ := Aside0.mk (Kd.R_drew HO70026.out)
        have n5_ := Aside0.mk (Kd.R_drew HO70031.out)
        have n6_ := Aside0.mk (Kd.R_drew HO70033.out)
        have n7_ := Aside0.mk (below_drew1 HB.out)
        clear HO_3
        clear HO_4
        clear HO_5
        clear HO70023
        clear HO70026
        clear HO70031
        clear HO70033
        clear HB
        have HO_3 := n0_
        have HO_4 := n1_
        have HO_5 := n2_
        have HO70023 := n3_
        have HO70026 := n4_
        have HO70031 := n5_
        have HO70033 := n6_
        have HB := n7_
        clear n0_ n1_ n2_ n3_ n4_ n5_ n6_ n7_
        obtain ⟨Ao56, co56, eo56⟩ := Kd.R_slice HO70031.out
        (first | subst eo56 | (injection eo56 with f1_ f2_ f3_; have f4_ := f1_.symm; have f5_ := f3_.symm; clear f1_ f2_ f3_; subst f4_; subst f5_))
        obtain ⟨Ao57, co57, eo57⟩ := Kd.R_slice HO70023.out
        (first | subst eo57 | (injection eo57 with f1_ f2_ f3_; have f4_ := f1_.symm; have f5_ := f3_.symm; clear f1_ f2_ f3_; subst f4_; subst f5_))
        refine start_ (n := 35) (S := fun w' => True) (ds := []) (bt_ 35 0) (by kernel_rfl) rfl rfl trivial (fun hHeld => ?_); refine with_tabW laws_FnDealSwap.tab12 laws_FnDealSwap.bits12 (fun HT_ HW_ => ?_)
        generalize w25.drew = w55 at HO_3 HO_4 HO_5 HO70023 HO70026 HO70031 HO70033 HB hHeld ⊢
        refine pu_ 0 (some 67) (bt_ 35 1) (any_of HT_.out (by kernel_rfl)) ?_
        refine pu_ 1 (some 68) (bt_ 35 3) (any_of HT_.out (by kernel_rfl)) ?_
        refine pu_ 2 (some 69) (bt_ 35 7) (any_of HT_.out (by kernel_rfl)) ?_
        refine pu_ 3 (some 70) (bt_ 35 15) (any_of HT_.out (by kernel_rfl)) ?_
        refine pu_ 4 (some 71) (bt_ 35 31) (any_of HT_.out (by kernel_rfl)) ?_
        refine pu_ 5 (some 72) (bt_ 35 63) (any_of HT_.out (by kernel_rfl)) ?_
        refine one_ (i := 6) (N := some 73) (bt_ 35 127) rfl rfl (one_of HT_.out (by kernel_rfl)) (by decide) (fun K hK => ?_)
        refine goes_ Try.func31 (by kernel_rfl) rfl #[.slice Ao56 t70028.length co56, .slice Ao57 t70021.length co57] (by rfl) rfl rfl (by (try simp only [List.map_toArray, List.map_cons, List.map_nil]); first | done | rfl | (simp only [List.length_drop, List.length_take]; rfl)) ?_
        with_reducible refine (laws_loInts.calls k1 _ _ t70028 _ _ t70021 false _ ?side1 ?side2 ?side3 ?side4 A27.out).mono ?_
        (case side1 => repeat (first | exact (Kd.R_reads' HO70031.out).2.2 | (with_reducible refine Kd.C_alloc ?_ _) | (with_reducible refine Kd.C_drewN ?_ _) | (with_reducible refine Kd.C_drew ?_)))
        (case side2 => exact (Kd.R_reads' HO70031.out).2.1)
        (case side3 => repeat (first | exact (Kd.R_reads' HO70023.out).2.2 | (with_reducible refine Kd.C_alloc ?_ _) | (with_reducible refine Kd.C_drewN ?_ _) | (with_reducible refine Kd.C_drew ?_)))
        (case side4 => exact (Kd.R_reads' HO70023.out).2.1)
        rintro e w' ⟨rfl, ⟨nd, rfl⟩⟩
        refine ⟨_, rfl, ?_⟩
        refine hK.out _ _ trivial (fun hHeld => ?_)
        clear hK K
        refine norm_ (a' := ?_) ?_ ?_
        rotate_left
        ·show Act.put _ (some 73) _ = _
         simp only [Act.put, List.setIfInBounds_toArray, List.set_cons_zero, List.set_cons_succ, i64_w, i32_w]
         rfl
        refine pu_ 7 (some 74) (bt_ 35 255) (any_of HT_.out (by kernel_rfl)) ?_
        refine pu_ 8 (some 75) (bt_ 35 511) (any_of HT_.out (by kernel_rfl)) ?_
        refine pu_ 9 (some 76) (bt_ 35 1023) (any_of HT_.out (by kernel_rfl)) ?_
        refine pn_ 10 (some 77) (bt_ 35 2047) (any_of HT_.out (by kernel_rfl)) ?_
        refine pn_ 11 (some 78) (bt_ 35 4095) (any_of HT_.out (by kernel_rfl)) ?_
        refine pn_ 12 (some 79) (bt_ 35 8191) (any_of HT_.out (by kernel_rfl)) ?_
        refine pn_ 13 (some 80) (bt_ 35 16383) (any_of HT_.out (by kernel_rfl)) ?_
        refine pu_ 14 (some 81) (bt_ 35 32767) (any_of HT_.out (by kernel_rfl)) ?_
        refine pu_ 15 (some 82) (bt_ 35 65535) (any_of HT_.out (by kernel_rfl)) ?_
        refine pn_ 16 (some 83) (bt_ 35 131071) (any_of HT_.out (by kernel_rfl)) ?_
        refine pn_ 17 (some 84) (bt_ 35 262143) (any_of HT_.out (by kernel_rfl)) ?_
        refine pn_ 18 (some 85) (bt_ 35 524287) (any_of HT_.out (by kernel_rfl)) ?_
        refine pu_ 19 (some 86) (bt_ 35 1048575) (any_of HT_.out (by kernel_rfl)) ?_
        refine pu_ 20 (some 87) (bt_ 35 2097151) (any_of HT_.out (by kernel_rfl)) ?_
        refine pn_ 21 (some 88) (bt_ 35 4194303) (any_of HT_.out (by kernel_rfl)) ?_
        refine pn_ 22 (some 89) (bt_ 35 8388607) (any_of HT_.out (by kernel_rfl)) ?_
        refine pu_ 23 (some 90) (bt_ 35 16777215) (any_of HT_.out (by kernel_rfl)) ?_
        refine pu_ 24 (some 91) (bt_ 35 33554431) (any_of HT_.out (by kernel_rfl)) ?_
        refine pn_ 25 (some 92) (bt_ 35 67108863) (any_of HT_.out (by kernel_rfl)) ?_
        refine pn_ 26 (some 93) (bt_ 35 134217727) (any_of HT_.out (by kernel_rfl)) ?_
        refine pn_ 27 (some 94) (bt_ 35 268435455) (any_of HT_.out (by kernel_rfl)) ?_
        refine pn_ 28 (some 95) (bt_ 35 536870911) (any_of HT_.out (by kernel_rfl)) ?_
        refine pn_ 29 (some 96) (bt_ 35 1073741823) (any_of HT_.out (by kernel_rfl)) ?_
        refine pn_ 30 (some 97) (bt_ 35 2147483647) (any_of HT_.out (by kernel_rfl)) ?_
        refine pn_ 31 (some 98) (bt_ 35 4294967295) (any_of HT_.out (by kernel_rfl)) ?_
        refine pn_ 32 (some 99) (bt_ 35 8589934591) (any_of HT_.out (by kernel_rfl)) ?_
        refine pn_ 33 (some 100) (bt_ 35 17179869183) (any_of HT_.out (by kernel_rfl)) ?_
        refine pu_ 34 (some 101) (bt_ 35 34359738367) (any_of HT_.out (by kernel_rfl)) ?_
        refine done_ (done_of HT_.out (by kernel_rfl)) ?_
        try go_wp2
        go_meet
        case rel => exact ⟨_, (true), (by first | rfl | (simp; done) | (simp [*]; done)), H', ⟨by have := HK1.out; first | omega | exact Nat.le_refl _⟩, ⟨by (with_reducible repeat (first | apply Kd.R_alloc | apply Kd.R_drewN | apply Kd.R_drew)); exact Kd.R_mono HO_4.out (fun _ hk => ⟨hk.1.2, hk.2⟩)⟩, ⟨by (with_reducible repeat (first | apply Kd.R_alloc | apply Kd.R_drewN | apply Kd.R_drew)); exact Kd.R_mono HO_5.out (fun _ hk => trivial)⟩, ⟨by (with_reducible repeat (first | apply Kd.R_alloc | apply Kd.R_drewN | apply Kd.R_drew)); exact Kd.R_mono HO70023.out (fun _ hk => hk.2)⟩, ⟨by (with_reducible repeat (first | apply Kd.R_alloc | apply Kd.R_drewN | apply Kd.R_drew)); exact Kd.R_mono HO70026.out (fun _ hk => ⟨hk.1.2, hk.2⟩)⟩, ⟨by (with_reducible repeat (first | apply Kd.R_alloc | apply Kd.R_drewN | apply Kd.R_drew)); exact Kd.R_mono HO70031.out (fun _ hk => hk.2)⟩, ⟨by (with_reducible repeat (first | apply Kd.R_alloc | apply Kd.R_drewN | apply Kd.R_drew)); exact Kd.R_mono HO70033.out (fun _ hk => ⟨hk.1.2, hk.2⟩)⟩, ⟨by repeat (first | (with_reducible first | exact HB.out | apply below_alloc | apply pw_below_drewN | apply below_drew1) | exact HB.out)⟩⟩
      ·rw [if_neg c26] at H
       have c26b0 : (t70027 == t70020) = false := beq_eq_false_iff_ne.mpr c26
       have c26b1 : (t70027 != t70020) = true := bne_iff_ne.mpr c26
       (first | rw [c26b0] | (simp only [i64_w, i32_w]; rw [c26b0]) | skip)
       have H' := Aside0.mk H
       clear H
       try go_wp2
       have n0_ := Aside0.mk (Kd.R_drew HO_3.out)
       have n1_ := Aside0.mk (Kd.R_drew HO_4.out)
       have n2_ := Aside0.mk (Kd.R_drew HO_5.out)
       have n3_ := Aside0.mk (Kd.R_drew HO70023.out)
       have n4_ := Aside0.mk (Kd.R_drew HO70026.out)
       have n5_ := Aside0.mk (Kd.R_drew HO70031.out)
       have n6_ := Aside0.mk (Kd.R_drew HO70033.out)
       have n7_ := Aside0.mk (below_drew1 HB.out)
       clear HO_3
       clear HO_4
       clear HO_5
       clear HO70023
       clear HO70026
       clear HO70031
       clear HO70033
       clear HB
       have HO_3 := n0_
       have HO_4 := n1_
       have HO_5 := n2_
       have HO70023 := n3_
       have HO70026 := n4_
       have HO70031 := n5_
       have HO70033 := n6_
       have HB := n7_
       clear n0_ n1_ n2_ n3_ n4_ n5_ n6_ n7_
       refine start_ (n := 35) (S := fun w' => True) (ds := []) (bt_ 35 0) (by kernel_rfl) rfl rfl trivial (fun hHeld => ?_); refine with_tabW laws_FnDealSwap.tab12 laws_FnDealSwap.bits12 (fun HT_ HW_ => ?_)
       generalize w25.drew = w58 at HO_3 HO_4 HO_5 HO70023 HO70026 HO70031 HO70033 HB hHeld ⊢
       refine pu_ 0 (some 67) (bt_ 35 1) (any_of HT_.out (by kernel_rfl)) ?_
       refine pu_ 1 (some 68) (bt_ 35 3) (any_of HT_.out (by kernel_rfl)) ?_
       refine pu_ 2 (some 69) (bt_ 35 7) (any_of HT_.out (by kernel_rfl)) ?_
       refine pu_ 3 (some 70) (bt_ 35 15) (any_of HT_.out (by kernel_rfl)) ?_
       refine pn_ 4 (some 71) (bt_ 35 31) (any_of HT_.out (by kernel_rfl)) ?_
       refine pn_ 5 (some 72) (bt_ 35 63) (any_of HT_.out (by kernel_rfl)) ?_
       refine pn_ 6 (some 73) (bt_ 35 127) (any_of HT_.out (by kernel_rfl)) ?_
       refine pn_ 7 (some 74) (bt_ 35 255) (any_of HT_.out (by kernel_rfl)) ?_
       refine pu_ 8 (some 75) (bt_ 35 511) (any_of HT_.out (by kernel_rfl)) ?_
       refine pu_ 9 (some 76) (bt_ 35 1023) (any_of HT_.out (by kernel_rfl)) ?_
       refine pn_ 10 (some 77) (bt_ 35 2047) (any_of HT_.out (by kernel_rfl)) ?_
       refine pn_ 11 (some 78) (bt_ 35 4095) (any_of HT_.out (by kernel_rfl)) ?_
       refine pn_ 12 (some 79) (bt_ 35 8191) (any_of HT_.out (by kernel_rfl)) ?_
       refine pn_ 13 (some 80) (bt_ 35 16383) (any_of HT_.out (by kernel_rfl)) ?_
       refine pu_ 14 (some 81) (bt_ 35 32767) (any_of HT_.out (by kernel_rfl)) ?_
       refine pu_ 15 (some 82) (bt_ 35 65535) (any_of HT_.out (by kernel_rfl)) ?_
       refine pn_ 16 (some 83) (bt_ 35 131071) (any_of HT_.out (by kernel_rfl)) ?_
       refine pn_ 17 (some 84) (bt_ 35 262143) (any_of HT_.out (by kernel_rfl)) ?_
       refine pn_ 18 (some 85) (bt_ 35 524287) (any_of HT_.out (by kernel_rfl)) ?_
       refine pu_ 19 (some 86) (bt_ 35 1048575) (any_of HT_.out (by kernel_rfl)) ?_
       refine pu_ 20 (some 87) (bt_ 35 2097151) (any_of HT_.out (by kernel_rfl)) ?_
       refine pn_ 21 (some 88) (bt_ 35 4194303) (any_of HT_.out (by kernel_rfl)) ?_
       refine pn_ 22 (some 89) (bt_ 35 8388607) (any_of HT_.out (by kernel_rfl)) ?_
       refine pu_ 23 (some 90) (bt_ 35 16777215) (any_of HT_.out (by kernel_rfl)) ?_
       refine pu_ 24 (some 91) (bt_ 35 33554431) (any_of HT_.out (by kernel_rfl)) ?_
       refine pn_ 25 (some 92) (bt_ 35 67108863) (any_of HT_.out (by kernel_rfl)) ?_
       refine pn_ 26 (some 93) (bt_ 35 134217727) (any_of HT_.out (by kernel_rfl)) ?_
       refine pn_ 27 (some 94) (bt_ 35 268435455) (any_of HT_.out (by kernel_rfl)) ?_
       refine pn_ 28 (some 95) (bt_ 35 536870911) (any_of HT_.out (by kernel_rfl)) ?_
       refine pn_ 29 (some 96) (bt_ 35 1073741823) (any_of HT_.out (by kernel_rfl)) ?_
       refine pn_ 30 (some 97) (bt_ 35 2147483647) (any_of HT_.out (by kernel_rfl)) ?_
       refine pn_ 31 (some 98) (bt_ 35 4294967295) (any_of HT_.out (by kernel_rfl)) ?_
       refine pn_ 32 (some 99) (bt_ 35 8589934591) (any_of HT_.out (by kernel_rfl)) ?_
       refine pn_ 33 (some 100) (bt_ 35 17179869183) (any_of HT_.out (by kernel_rfl)) ?_
       refine pu_ 34 (some 101) (bt_ 35 34359738367) (any_of HT_.out (by kernel_rfl)) ?_
       refine done_ (done_of HT_.out (by kernel_rfl)) ?_
       try go_wp2
       go_meet
       case rel => exact ⟨_, (true), (by first | rfl | (simp; done) | (simp [*]; done)), H', ⟨by have := HK1.out; first | omega | exact Nat.le_refl _⟩, ⟨by (with_reducible repeat (first | apply Kd.R_alloc | apply Kd.R_drewN | apply Kd.R_drew)); exact Kd.R_mono HO_4.out (fun _ hk => ⟨hk.1.2, hk.2⟩)⟩, ⟨by (with_reducible repeat (first | apply Kd.R_alloc | apply Kd.R_drewN | apply Kd.R_drew)); exact Kd.R_mono HO_5.out (fun _ hk => trivial)⟩, ⟨by (with_reducible repeat (first | apply Kd.R_alloc | apply Kd.R_drewN | apply Kd.R_drew)); exact Kd.R_mono HO70023.out (fun _ hk => hk.2)⟩, ⟨by (with_reducible repeat (first | apply Kd.R_alloc | apply Kd.R_drewN | apply Kd.R_drew)); exact Kd.R_mono HO70026.out (fun _ hk => ⟨hk.1.2, hk.2⟩)⟩, ⟨by (with_reducible repeat (first | apply Kd.R_alloc | apply Kd.R_drewN | apply Kd.R_drew)); exact Kd.R_mono HO70031.out (fun _ hk => hk.2)⟩, ⟨by (with_reducible repeat (first | apply Kd.R_alloc | apply Kd.R_drewN | apply Kd.R_drew)); exact Kd.R_mono HO70033.out (fun _ hk => ⟨hk.1.2, hk.2⟩)⟩, ⟨by repeat (first | (with_reducible first | exact HB.out | apply below_alloc | apply pw_below_drewN | apply below_drew1) | exact HB.out)⟩⟩
     case rest =>
      clear HC20
      try clear c2
      try clear p2
      try clear c3
      try clear c26
      try clear c26b0
      try clear c26b1
      try clear c28
      try clear c31
      obtain ⟨kq, x101_19, rfl, HA, HJ19, HO_4, HO_5, HO_8, HO_9, HO_11, HO_12, HB⟩ := hcut
      cases kq with
      | zero => exact absurd HA.out (by simp [laws_FnDealSwap.j1])
      | succ kj19 =>
       have H := HA.out
       clear HA
       simp only [laws_FnDealSwap.j1] at H
       by_cases c59 : x101_19 = true
       ·subst c59
        have H1 : (if t70027 = t70020 then ((laws_loInts.f kj19 t70028 t70021).bind fun t70038 => (if t70038 = true then ((laws_loPairs.f kj19 t70029 t70024).bind fun t70039 => (some t70039)) else (some false))) else (some false)) = some true := by rw [if_pos rfl] at H; exact H
        clear H
        have H := H1
        clear H1
        by_cases c60 : t70027 = t70020
        ·rw [if_pos c60] at H
         have c60b0 : (t70027 == t70020) = true := beq_iff_eq.mpr c60
         have c60b1 : (t70027 != t70020) = false := bne_eq_false_iff_eq.mpr c60
         clear c60
         replace H := Option.bind_eq_some_iff.mp H
         obtain ⟨t70038, A610, H⟩ := H
         replace H : (if t70038 = true then ((laws_loPairs.f kj19 t70029 t70024).bind fun t70039 => (some t70039)) else (some false)) = some true := H
         have A61 := Aside0.mk A610
         clear A610
         by_cases c62 : t70038 = true
         ·subst c62
          have H1 : ((laws_loPairs.f kj19 t70029 t70024).bind fun t70039 => (some t70039)) = some true := by rw [if_pos rfl] at H; exact H
          clear H
          have H := H1
          clear H1
          replace H := Option.bind_eq_some_iff.mp H
          obtain ⟨t70039, A630, H⟩ := H
          replace H : (some t70039) = some true := H
          have A63 := Aside0.mk A630
          clear A630
          first
          | exact absurd H (by decide)
          | have hv_ := Option.some.inj H
            clear H
            obtain ⟨Ao64, co64, eo64⟩ := Kd.R_slice HO_11.out
            subst eo64
            obtain ⟨Ao65, co65, eo65⟩ := Kd.R_slice HO_8.out
            subst eo65
            go_wp2_with (first | (go_at_call 31; (with_reducible refine (laws_loInts.calls kj19 _ _ t70028 _ _ t70021 true _ ?side1 ?side2 ?side3 ?side4 A61.out).mono ?_); (case side1 => repeat (first | exact (Kd.R_reads' HO_11.out).2.2 | (with_reducible refine Kd.C_alloc ?_ _) | (with_reducible refine Kd.C_drewN ?_ _) | (with_reducible refine Kd.C_drew ?_))); (case side2 => exact (Kd.R_reads' HO_11.out).2.1); (case side3 => repeat (first | exact (Kd.R_reads' HO_8.out).2.2 | (with_reducible refine Kd.C_alloc ?_ _) | (with_reducible refine Kd.C_drewN ?_ _) | (with_reducible refine Kd.C_drew ?_))); (case side4 => exact (Kd.R_reads' HO_8.out).2.1); rintro e w' ⟨rfl, ⟨nd, rfl⟩⟩; obtain ⟨Ao66, co66, eo66⟩ := Kd.R_slice HO_12.out; subst eo66; obtain ⟨Ao67, co67, eo67⟩ := Kd.R_slice HO_9.out; subst eo67) | (go_at_call 32; (with_reducible refine (laws_loPairs.calls kj19 _ _ t70029 _ _ t70024 t70039 _ ?side1 ?side2 ?side3 ?side4 A63.out).mono ?_); (case side1 => repeat (first | exact (Kd.R_reads' HO_12.out).2.2 | (with_reducible refine Kd.C_alloc ?_ _) | (with_reducible refine Kd.C_drewN ?_ _) | (with_reducible refine Kd.C_drew ?_))); (case side2 => exact (Kd.R_reads' HO_12.out).2.1); (case side3 => repeat (first | exact (Kd.R_reads' HO_9.out).2.2 | (with_reducible refine Kd.C_alloc ?_ _) | (with_reducible refine Kd.C_drewN ?_ _) | (with_reducible refine Kd.C_drew ?_))); (case side4 => exact (Kd.R_reads' HO_9.out).2.1); rintro e w' ⟨rfl, ⟨nd, rfl⟩⟩))
            go_ret
            exact ⟨by first | rfl | exact congrArg (fun b : Bool => Ending.returned (.bool b)) hv_ | (simp [errW_none, errW_some] <;> rfl) | (simp [*, errW_none, errW_some] <;> rfl), by repeat (first | (with_reducible first | exact HB.out | apply below_alloc | apply pw_below_drewN | apply below_drew1) | exact HB.out)⟩
         ·replace c62 := Bool.eq_false_iff.mpr c62
          subst c62
          have H1 : (some false) = some true := by rw [if_neg (show ¬ (false = true) by decide)] at H; exact H
          clear H
          have H := H1
          clear H1
          exact absurd H (by decide)
        ·rw [if_neg c60] at H
         have c60b0 : (t70027 == t70020) = false := beq_eq_false_iff_ne.mpr c60
         have c60b1 : (t70027 != t70020) = true := bne_iff_ne.mpr c60
         exact absurd H (by decide)
       ·replace c59 := Bool.eq_false_iff.mpr c59
        subst c59
        have H1 : (if 1 < (x5_1.length : Int) then (if 0 < (x5_1.length : Int) then ((some (([(⟨(rd_T46 x5_1 1).f0, (rd_T46 x5_1 1).f1, (rd_T46 x5_1 1).f2⟩ : S46), (⟨(rd_T46 x5_1 0).f0, (rd_T46 x5_1 0).f1, (rd_T46 x5_1 0).f2⟩ : S46)] : List (S46)) : List (S46))).bind fun y70042 => (if 2 ≤ (x5_1.length : Int) then ((some (x5_1.drop 2 : List (S46))).bind fun y70045 => (if y70042.length + y70045.length < 5864062014805 then ((impl_DealRun.f kj19 (y70042 ++ y70045) t70002).bind fun bt70052 => (if bt70052.1 = t70027 then (if (bt70052.2.1.length : Int) = 0 then ((laws_loPairs.f kj19 bt70052.2.2 t70029).bind fun t70059 => (some t70059)) else (some false)) else (some false))) else (none))) else (none))) else (none)) else (none)) = some true := by rw [if_neg (show ¬ (false = true) by decide)] at H; exact H
        clear H
        have H := H1
        clear H1
        by_cases c70 : 1 < (x5_1.length : Int)
        ·rw [if_pos c70] at H
         have c70b0 : decide (1 < (x5_1.length : Int)) = true := decide_eq_true c70
         have c70b1 : decide (1 < x5_1.length) = true := decide_eq_true (by omega)
         clear c70
         by_cases c71 : 0 < (x5_1.length : Int)
         ·rw [if_pos c71] at H
          have c71b0 : decide (0 < (x5_1.length : Int)) = true := decide_eq_true c71
          have c71b1 : decide (0 < x5_1.length) = true := decide_eq_true (by omega)
          clear c71
          obtain ⟨y70042, hy70042⟩ : ∃ y_ : List (S46), y_ = (([(⟨(rd_T46 x5_1 1).f0, (rd_T46 x5_1 1).f1, (rd_T46 x5_1 1).f2⟩ : S46), (⟨(rd_T46 x5_1 0).f0, (rd_T46 x5_1 0).f1, (rd_T46 x5_1 0).f2⟩ : S46)] : List (S46))) := ⟨_, rfl⟩
          replace H : (if 2 ≤ (x5_1.length : Int) then ((some (x5_1.drop 2 : List (S46))).bind fun y70045 => (if y70042.length + y70045.length < 5864062014805 then ((impl_DealRun.f kj19 (y70042 ++ y70045) t70002).bind fun bt70052 => (if bt70052.1 = t70027 then (if (bt70052.2.1.length : Int) = 0 then ((laws_loPairs.f kj19 bt70052.2.2 t70029).bind fun t70059 => (some t70059)) else (some false)) else (some false))) else (none))) else (none)) = some true := by first | (rw [hy70042]; with_reducible exact H) | (have H2_ := (Option.bind_some _ _).symm.trans H; rw [hy70042]; with_reducible exact H2_) | (have H2_ := (Option.bind_some _ _).symm.trans H; with_reducible exact H2_) | with_reducible exact H | (rw [hy70042]; exact H) | exact H
          have Ny70042 := Aside0.mk hy70042
          clear hy70042
          by_cases c72 : 2 ≤ (x5_1.length : Int)
          ·rw [if_pos c72] at H
           have c72b0 := eq_true c72
           have c72b1 : decide (2 ≤ (x5_1.length : Int)) = true := decide_eq_true c72
           clear c72
           obtain ⟨y70045, hy70045⟩ : ∃ y_ : List (S46), y_ = (x5_1.drop 2) := ⟨_, rfl⟩
           replace H : (if y70042.length + y70045.length < 5864062014805 then ((impl_DealRun.f kj19 (y70042 ++ y70045) t70002).bind fun bt70052 => (if bt70052.1 = t70027 then (if (bt70052.2.1.length : Int) = 0 then ((laws_loPairs.f kj19 bt70052.2.2 t70029).bind fun t70059 => (some t70059)) else (some false)) else (some false))) else (none)) = some true := by first | (rw [hy70045]; with_reducible exact H) | (have H2_ := (Option.bind_some _ _).symm.trans H; rw [hy70045]; with_reducible exact H2_) | (have H2_ := (Option.bind_some _ _).symm.trans H; with_reducible exact H2_) | with_reducible exact H | (rw [hy70045]; exact H) | exact H
           have Ny70045 := Aside0.mk hy70045
           clear hy70045
           by_cases c73 : y70042.length + y70045.length < 5864062014805
           ·rw [if_pos c73] at H
            have LMc73 := Aside0.mk c73
            clear c73
            obtain ⟨y70049, hy70049⟩ : ∃ y_ : List (S46), y_ = (y70042 ++ y70045) := ⟨_, rfl⟩
            replace H : ((impl_DealRun.f kj19 y70049 t70002).bind fun bt70052 => (if bt70052.1 = t70027 then (if (bt70052.2.1.length : Int) = 0 then ((laws_loPairs.f kj19 bt70052.2.2 t70029).bind fun t70059 => (some t70059)) else (some false)) else (some false))) = some true := by first | (rw [hy70049]; with_reducible exact H) | (have H2_ := (Option.bind_some _ _).symm.trans H; rw [hy70049]; with_reducible exact H2_) | (have H2_ := (Option.bind_some _ _).symm.trans H; with_reducible exact H2_) | with_reducible exact H | (rw [hy70049]; exact H) | exact H
            have Ny70049 := Aside0.mk hy70049
            clear hy70049
            replace H := Option.bind_eq_some_iff.mp H
            obtain ⟨⟨t70052, t70053, t70054⟩, A740, H⟩ := H
            replace H : (if t70052 = t70027 then (if (t70053.length : Int) = 0 then ((laws_loPairs.f kj19 t70054 t70029).bind fun t70059 => (some t70059)) else (some false)) else (some false)) = some true := H
            have A74 := Aside0.mk A740
            clear A740
            by_cases c75 : t70052 = t70027
            ·rw [if_pos c75] at H
             have c75b0 : (t70052 == t70027) = true := beq_iff_eq.mpr c75
             have c75b1 : (t70052 != t70027) = false := bne_eq_false_iff_eq.mpr c75
             clear c75
             by_cases c76 : (t70053.length : Int) = 0
             ·rw [if_pos c76] at H
              have c76b0 : ((t70053.length : Int) == 0) = true := beq_iff_eq.mpr c76
              have c76b1 : ((t70053.length : Int) != 0) = false := bne_eq_false_iff_eq.mpr c76
              clear c76
              replace H := Option.bind_eq_some_iff.mp H
              obtain ⟨t70059, A770, H⟩ := H
              replace H : (some t70059) = some true := H
              have A77 := Aside0.mk A770
              clear A770
              first
              | exact absurd H (by decide)
              | have hv_ := Option.some.inj H
                clear H
                try go_wp2
                have n0_ := Aside0.mk (Kd.R_drew HO_4.out)
                have n1_ := Aside0.mk (Kd.R_drew HO_5.out)
                have n2_ := Aside0.mk (Kd.R_drew HO_8.out)
                have n3_ := Aside0.mk (Kd.R_drew HO_9.out)
                have n4_ := Aside0.mk (Kd.R_drew HO_11.out)
                have n5_ := Aside0.mk (Kd.R_drew HO_12.out)
                have n6_ := Aside0.mk (below_drew1 HB.out)
                clear HO_4
                clear HO_5
                clear HO_8
                clear HO_9
                clear HO_11
                clear HO_12
                clear HB
                have HO_4 := n0_
                have HO_5 := n1_
                have HO_8 := n2_
                have HO_9 := n3_
                have HO_11 := n4_
                have HO_12 := n5_
                have HB := n6_
                clear n0_ n1_ n2_ n3_ n4_ n5_ n6_
                have p70040 : 0 ≤ (1 : Int) := (by omega)
                have q70040 : 1 < (x5_1.length : Int) := of_decide_eq_true (by first | (with_reducible assumption) | assumption)
                obtain ⟨ad70040, e70040, hx70040_0, hx70040_1, hx70040_2⟩ := at_T46 (Kd.R_reads' HO_5.out).2.2 1 p70040 q70040
                cases e70040
                (try simp only [show (1 : Int).toNat = 1 from rfl, Nat.reduceMul, Nat.reduceEqDiff, Go.Addr.add, ↓reduceIte] at hx70040_0)
                (try simp only [show (1 : Int).toNat = 1 from rfl, Nat.reduceMul, Nat.reduceEqDiff, Go.Addr.add, ↓reduceIte] at hx70040_1)
                (try simp only [show (1 : Int).toNat = 1 from rfl, Nat.reduceMul, Nat.reduceEqDiff, Go.Addr.add, ↓reduceIte] at hx70040_2)
                have qi70040 : (1 < x5_1.length) = True := eq_true (by omega)
                (try rw [show ((1 : Int)).toNat = 1 from rfl] at hx70040_0)
                (try rw [show 1 * 3 = 3 from rfl] at hx70040_0)
                (try rw [show ((1 : Int)).toNat = 1 from rfl] at hx70040_1)
                (try rw [show 1 * 3 = 3 from rfl] at hx70040_1)
                (try rw [show ((1 : Int)).toNat = 1 from rfl] at hx70040_2)
                (try rw [show 1 * 3 = 3 from rfl] at hx70040_2)
                replace p70040 := eq_true p70040
                replace q70040 := eq_true q70040
                have p70041 : 0 ≤ (0 : Int) := (by omega)
                have q70041 : 0 < (x5_1.length : Int) := of_decide_eq_true (by first | (with_reducible assumption) | assumption)
                obtain ⟨ad70041, e70041, hx70041_0, hx70041_1, hx70041_2⟩ := at_T46 (Kd.R_reads' HO_5.out).2.2 0 p70041 q70041
                obtain rfl : ad70040 = ad70041 := (by injection e70041)
                have qi70041 : (0 < x5_1.length) = True := eq_true (by omega)
                (try rw [show ((0 : Int)).toNat = 0 from rfl] at hx70041_0)
                (try rw [show 0 * 3 = 0 from rfl] at hx70041_0)
                (try rw [Addr.add_zero'] at hx70041_0)
                (try rw [show ((0 : Int)).toNat = 0 from rfl] at hx70041_1)
                (try rw [show 0 * 3 = 0 from rfl] at hx70041_1)
                (try rw [Addr.add_zero'] at hx70041_1)
                (try rw [show ((0 : Int)).toNat = 0 from rfl] at hx70041_2)
                (try rw [show 0 * 3 = 0 from rfl] at hx70041_2)
                (try rw [Addr.add_zero'] at hx70041_2)
                replace p70041 := eq_true p70041
                replace q70041 := eq_true q70041
                have q79 : (2 : Int) ≤ ((x5_1.length : Int) : Int) := of_decide_eq_true (by first | (with_reducible assumption) | assumption)
                obtain ⟨i079, hi079, _, hsz79, _⟩ := info_parts info46
                have hroom79 : x5_1.length ≤ co22 := (Kd.R_reads' HO_5.out).2.1
                have hC79 : Kd.C k46 _ (some ad70040) x5_1.length x5_1 := (Kd.R_reads' HO_5.out).2.2
                have hcut79 := cut_from (P := Try.prog) 25 46 .i64 Try.underlying25 hi079 3 hsz79 (some ad70040) x5_1.length co22 2 (by omega) q79
                have hr79 := Kd.C_drop (m := (2 : Int).toNat) (c := co22) hC79 (by omega) hroom79
                obtain ⟨A79, hA79⟩ : ∃ A1, A1 = (if co22 = (2 : Int).toNat then (some ad70040) else ((some ad70040) : Option Addr).map (·.add ((2 : Int).toNat * 3))) := ⟨_, rfl⟩
                obtain ⟨c79, hc79⟩ : ∃ c1, c1 = co22 - (2 : Int).toNat := ⟨_, rfl⟩
                have hy79 : y70045.length = x5_1.length - (2 : Int).toNat := (by rw [Ny70045.out, List.length_drop] <;> omega)
                rw [show (x5_1).drop (2 : Int).toNat = y70045 from Ny70045.out.symm] at hr79
                replace hr79 : Kd.C k46 _ A79 y70045.length y70045 := (by rw [hA79]; exact hr79)
                rw [← hy79, ← hA79, ← hc79] at hcut79
                have HR70048 := Aside0.mk hr79
                have HC70048 := Aside0.mk (show y70045.length ≤ c79 from by rw [hy79, hc79]; exact Nat.sub_le_sub_right hroom79 _)
                clear hr79 hC79 hroom79 hi079 hsz79 hc79
                have KY79 := Aside0.mk hy79
                have KA79 := Aside0.mk hA79
                clear hy79 hA79
                have KL79 := Aside0.mk (show 2 ≤ x5_1.length from by omega)
                replace q79 := eq_true q79
                refine start_ (n := 11) (S := fun w' => w'.cell? ⟨ad70040.block, ad70040.off + 3, none⟩ = some (.int .i64 ((rd_T46 x5_1 1).f0)) ∧ w'.cell? ⟨ad70040.block, ad70040.off + 3 + 1, none⟩ = some (.int .i64 ((rd_T46 x5_1 1).f1)) ∧ w'.cell? ⟨ad70040.block, ad70040.off + 3 + 2, none⟩ = some (.int .i64 ((rd_T46 x5_1 1).f2)) ∧ w'.cell? ad70040 = some (.int .i64 ((rd_T46 x5_1 0).f0)) ∧ w'.cell? ⟨ad70040.block, ad70040.off + 1, none⟩ = some (.int .i64 ((rd_T46 x5_1 0).f1)) ∧ w'.cell? ⟨ad70040.block, ad70040.off + 2, none⟩ = some (.int .i64 ((rd_T46 x5_1 0).f2))) (ds := [9]) (bt_ 11 0) (by kernel_rfl) rfl rfl ⟨hx70040_0, hx70040_1, hx70040_2, hx70041_0, hx70041_1, hx70041_2⟩ (fun hHeld => ?_); refine with_tabW laws_FnDealSwap.tab14 laws_FnDealSwap.bits14 (fun HT_ HW_ => ?_)
                generalize wc.drew = w78 at HO_4 HO_5 HO_8 HO_9 HO_11 HO_12 HB HR70048 hx70040_0 hx70040_1 hx70040_2 hx70041_0 hx70041_1 hx70041_2 hHeld ⊢
                refine pu_ 0 (some 115) (bt_ 11 1) (any_of HT_.out (by kernel_rfl)) ?_
                refine pu_ 1 (some 116) (bt_ 11 3) (any_of HT_.out (by kernel_rfl)) ?_
                refine pu_ 3 (some 118) (bt_ 11 11) (any_of HT_.out (by kernel_rfl)) ?_
                refine pu_ 4 (some 119) (bt_ 11 27) (any_of HT_.out (by kernel_rfl)) ?_
                refine pu_ 7 (some 122) (bt_ 11 155) (any_of HT_.out (by kernel_rfl)) ?_
                refine pu_ 8 (some 123) (bt_ 11 411) (any_of HT_.out (by kernel_rfl)) ?_
                refine take_ (i := 2) (N := some 117) (v := ?_) (a' := ?_) (bt_ 11 415) rfl rfl (take_ofW HT_.out HW_.out (by kernel_rfl)) (fun _ _ _ h => h) (Or.inl ⟨by rfl, ?_⟩) hHeld ?_ ?_
                rotate_left
                ·rintro w' ⟨s0, s1, s2, s3, s4, s5⟩
                 go_simp
                 with_reducible rfl
                rotate_left
                ·simp only [Act.put, List.setIfInBounds_toArray, List.set_cons_zero, List.set_cons_succ, i64_w, i32_w]
                 rfl
                refine take_ (i := 5) (N := some 120) (v := ?_) (a' := ?_) (bt_ 11 447) rfl rfl (take_ofW HT_.out HW_.out (by kernel_rfl)) (fun _ _ _ h => h) (Or.inl ⟨by rfl, ?_⟩) hHeld ?_ ?_
                rotate_left
                ·rintro w' ⟨s0, s1, s2, s3, s4, s5⟩
                 go_simp
                 with_reducible rfl
                rotate_left
                ·simp only [Act.put, List.setIfInBounds_toArray, List.set_cons_zero, List.set_cons_succ, i64_w, i32_w]
                 rfl
                refine one_ (i := 6) (N := some 121) (bt_ 11 511) rfl rfl (one_of HT_.out (by kernel_rfl)) (by decide) (fun K hK => ?_)
                refine Kd.R_lit_step k46 _ 46 ?hg (N := 121) ?hd (xs := ([(⟨(rd_T46 x5_1 1).f0, (rd_T46 x5_1 1).f1, (rd_T46 x5_1 1).f2⟩ : S46), (⟨(rd_T46 x5_1 0).f0, (rd_T46 x5_1 0).f1, (rd_T46 x5_1 0).f2⟩ : S46)] : List (S46))) (inner := [.int .i64 ((rd_T46 x5_1 1).f0), .int .i64 ((rd_T46 x5_1 1).f1), .int .i64 ((rd_T46 x5_1 1).f2), .int .i64 ((rd_T46 x5_1 0).f0), .int .i64 ((rd_T46 x5_1 0).f1), .int .i64 ((rd_T46 x5_1 0).f2)]) (ok := fun _ => True) (okp := fun _ => True) ?hr ?hp (fun _ hk => hk) trivial (Below.refl _ _) (Nat.le_refl _) (by simp) ?_; (case hd => rfl); (case hg => rfl); (case hr => first | (go_simp; done) | (go_simp; rfl)); (case hp => exact (Reps.c3 (show Kd.M k46 _ _ _ (⟨(rd_T46 x5_1 1).f0, (rd_T46 x5_1 1).f1, (rd_T46 x5_1 1).f2⟩ : S46) [.int .i64 ((rd_T46 x5_1 1).f0), .int .i64 ((rd_T46 x5_1 1).f1), .int .i64 ((rd_T46 x5_1 1).f2)] from (k46_mkM _ _ _ (⟨(rd_T46 x5_1 1).f0, (rd_T46 x5_1 1).f1, (rd_T46 x5_1 1).f2⟩ : S46) )) (Reps.c3 (show Kd.M k46 _ _ _ (⟨(rd_T46 x5_1 0).f0, (rd_T46 x5_1 0).f1, (rd_T46 x5_1 0).f2⟩ : S46) [.int .i64 ((rd_T46 x5_1 0).f0), .int .i64 ((rd_T46 x5_1 0).f1), .int .i64 ((rd_T46 x5_1 0).f2)] from (k46_mkM _ _ _ (⟨(rd_T46 x5_1 0).f0, (rd_T46 x5_1 0).f1, (rd_T46 x5_1 0).f2⟩ : S46) )) (Reps.none _ _))))
                intro v70043 w80 ho81 hb hg_ hnew_
                have HS0_ := (hb.cell (World.block_lt_of_cell? _ _ (hHeld.1))).trans (hHeld.1)
                have HS1_ := (hb.cell (World.block_lt_of_cell? _ _ (hHeld.2.1))).trans (hHeld.2.1)
                have HS2_ := (hb.cell (World.block_lt_of_cell? _ _ (hHeld.2.2.1))).trans (hHeld.2.2.1)
                have HS3_ := (hb.cell (World.block_lt_of_cell? _ _ (hHeld.2.2.2.1))).trans (hHeld.2.2.2.1)
                have HS4_ := (hb.cell (World.block_lt_of_cell? _ _ (hHeld.2.2.2.2.1))).trans (hHeld.2.2.2.2.1)
                have HS5_ := (hb.cell (World.block_lt_of_cell? _ _ (hHeld.2.2.2.2.2))).trans (hHeld.2.2.2.2.2)
                clear hg_ hnew_
                (first | rw [← Ny70042.out] at ho81 | (simp only [Int.reduceToNat] at ho81; rw [← Ny70042.out] at ho81))
                have n0_ := Aside0.mk (Kd.R_below (by (with_reducible repeat (first | apply Kd.R_alloc | apply Kd.R_drewN | apply Kd.R_drew)); exact HO_4.out) hb)
                have n1_ := Aside0.mk (Kd.R_elder' (by (with_reducible repeat (first | apply Kd.R_alloc | apply Kd.R_drewN | apply Kd.R_drew)); exact HO_5.out) (Kd.R_base ho81) hb)
                have n2_ := Aside0.mk (Kd.R_below (by (with_reducible repeat (first | apply Kd.R_alloc | apply Kd.R_drewN | apply Kd.R_drew)); exact HO_8.out) hb)
                have n3_ := Aside0.mk (Kd.R_below (by (with_reducible repeat (first | apply Kd.R_alloc | apply Kd.R_drewN | apply Kd.R_drew)); exact HO_9.out) hb)
                have n4_ := Aside0.mk (Kd.R_below (by (with_reducible repeat (first | apply Kd.R_alloc | apply Kd.R_drewN | apply Kd.R_drew)); exact HO_11.out) hb)
                have n5_ := Aside0.mk (Kd.R_below (by (with_reducible repeat (first | apply Kd.R_alloc | apply Kd.R_drewN | apply Kd.R_drew)); exact HO_12.out) hb)
                have n6_ := Aside0.mk (Kd.R_lower (Kd.R_new' ho81 (Kd.R_lt (by (with_reducible repeat (first | apply Kd.R_alloc | apply Kd.R_drewN | apply Kd.R_drew)); exact HO_5.out))) (below_size (by repeat (first | (with_reducible first | exact HB.out | apply below_alloc | apply pw_below_drewN | apply below_drew1) | exact HB.out))))
                have n7_ := Aside0.mk (Kd.C_below (by repeat (first | (with_reducible exact HR70048.out) | (with_reducible refine Kd.C_alloc ?_ _) | (with_reducible refine Kd.C_drewN ?_ _) | (with_reducible refine Kd.C_drew ?_) | exact HR70048.out)) hb)
                have n8_ := Aside0.mk (below_step (by repeat (first | (with_reducible first | exact HB.out | apply below_alloc | apply pw_below_drewN | apply below_drew1) | exact HB.out)) hb)
                clear HO_4
                clear HO_5
                clear HO_8
                clear HO_9
                clear HO_11
                clear HO_12
                clear HR70048
                clear HB
                have HO_4 := n0_
                have HO_5 := n1_
                have HO_8 := n2_
                have HO_9 := n3_
                have HO_11 := n4_
                have HO_12 := n5_
                have HO70044 := n6_
                have HR70048 := n7_
                have HB := n8_
                clear n0_ n1_ n2_ n3_ n4_ n5_ n6_ n7_ n8_
                clear hb ho81
                refine hK.out _ _ ⟨HS0_, HS1_, HS2_, HS3_, HS4_, HS5_⟩ (fun hHeld => ?_)
                clear hK K
                refine norm_ (a' := ?_) ?_ ?_
                rotate_left
                ·show Act.put _ (some 121) _ = _
                 simp only [Act.put, List.setIfInBounds_toArray, List.set_cons_zero, List.set_cons_succ, i64_w, i32_w]
                 rfl
                refine last_ (i := 9) (N := some 124) (bt_ 11 1023) rfl rfl (one_of HT_.out (by kernel_rfl)) (by decide) (fun K hK => ?_)
                refine Kd.R_append_rows_step k46 (w0 := w) w.heap.size (by rfl) (.tmp 121) (.tmp 123) 25 46 (.agg #[(.int .i64 0), (.int .i64 0), (.int .i64 0)]) 24 rfl Try.underlying25 info46 rfl (by decide) (by omega) v70043 y70042 y70045 _ _ _ (fun k_ => some k_ ≠ (.slice (some ad70040) x5_1.length co22 : Value).ownBlock) (fun _ => False) rfl rfl ?aO ?aR (fun _ _ h => h) (fun _ h => h.elim) ?aF ?aB ?aS ?aL ?_
                (case aR => repeat (first | exact (by repeat (first | (with_reducible exact HR70048.out) | (with_reducible refine Kd.C_alloc ?_ _) | (with_reducible refine Kd.C_drewN ?_ _) | (with_reducible refine Kd.C_drew ?_) | exact HR70048.out)) | (with_reducible refine Kd.C_alloc ?_ _) | (with_reducible refine Kd.C_drewN ?_ _) | (with_reducible refine Kd.C_drew ?_)))
                (case aB => exact (by repeat (first | (with_reducible first | exact HB.out | apply below_alloc | apply pw_below_drewN | apply below_drew1) | exact HB.out)))
                (case aF => exact (fun k_ hk => Kd.fresh' (Kd.R_lt (by (with_reducible repeat (first | apply Kd.R_alloc | apply Kd.R_drewN | apply Kd.R_drew)); exact HO_5.out)) k_ hk))
                (case aO => exact (by (with_reducible repeat (first | apply Kd.R_alloc | apply Kd.R_drewN | apply Kd.R_drew)); exact Kd.R_mono HO70044.out (fun _ hk => hk.2)))
                (case aS => exact (below_size (by repeat (first | (with_reducible first | exact HB.out | apply below_alloc | apply pw_below_drewN | apply below_drew1) | exact HB.out))))
                (case aL => have := LMc73.out; omega)
                intro v70050 w82 ho hb hg hat
                rw [← Ny70049.out] at ho
                have n0_ := Aside0.mk (Kd.R_over' (by (with_reducible repeat (first | apply Kd.R_alloc | apply Kd.R_drewN | apply Kd.R_drew)); exact HO_4.out) (Kd.R_typed (by (with_reducible repeat (first | apply Kd.R_alloc | apply Kd.R_drewN | apply Kd.R_drew)); exact HO70044.out)) (by decide) hg)
                have n1_ := Aside0.mk (Kd.R_after (ok := (fun _ => True)) (by (with_reducible repeat (first | apply Kd.R_alloc | apply Kd.R_drewN | apply Kd.R_drew)); exact HO_5.out) hg hat)
                have n2_ := Aside0.mk (Kd.R_over' (by (with_reducible repeat (first | apply Kd.R_alloc | apply Kd.R_drewN | apply Kd.R_drew)); exact HO_8.out) (Kd.R_typed (by (with_reducible repeat (first | apply Kd.R_alloc | apply Kd.R_drewN | apply Kd.R_drew)); exact HO70044.out)) (by decide) hg)
                have n3_ := Aside0.mk (Kd.R_over' (by (with_reducible repeat (first | apply Kd.R_alloc | apply Kd.R_drewN | apply Kd.R_drew)); exact HO_9.out) (Kd.R_typed (by (with_reducible repeat (first | apply Kd.R_alloc | apply Kd.R_drewN | apply Kd.R_drew)); exact HO70044.out)) (by decide) hg)
                have n4_ := Aside0.mk (Kd.R_over' (by (with_reducible repeat (first | apply Kd.R_alloc | apply Kd.R_drewN | apply Kd.R_drew)); exact HO_11.out) (Kd.R_typed (by (with_reducible repeat (first | apply Kd.R_alloc | apply Kd.R_drewN | apply Kd.R_drew)); exact HO70044.out)) (by decide) hg)
                have n5_ := Aside0.mk (Kd.R_over' (by (with_reducible repeat (first | apply Kd.R_alloc | apply Kd.R_drewN | apply Kd.R_drew)); exact HO_12.out) (Kd.R_typed (by (with_reducible repeat (first | apply Kd.R_alloc | apply Kd.R_drewN | apply Kd.R_drew)); exact HO70044.out)) (by decide) hg)
                have n6_ := Aside0.mk (hb)
                have n7_ := Aside0.mk ((show Kd.C k46 w82 A79 y70045.length y70045 from by rw [Ny70045.out, KA79.out]; exact Kd.C_drop (m := 2) (c := co22) ((Kd.R_reads' (Kd.R_after (ok := (fun _ => True)) (by (with_reducible repeat (first | apply Kd.R_alloc | apply Kd.R_drewN | apply Kd.R_drew)); exact HO_5.out) hg hat)).2.2) KL79.out ((Kd.R_reads' (Kd.R_after (ok := (fun _ => True)) (by (with_reducible repeat (first | apply Kd.R_alloc | apply Kd.R_drewN | apply Kd.R_drew)); exact HO_5.out) hg hat)).2.1)))
                have n8_ := Aside0.mk (ho)
                clear HO_4
                clear HO_5
                clear HO_8
                clear HO_9
                clear HO_11
                clear HO_12
                clear HB
                clear HR70048
                clear HO70044
                have HO_4 := n0_
                have HO_5 := n1_
                have HO_8 := n2_
                have HO_9 := n3_
                have HO_11 := n4_
                have HO_12 := n5_
                have HB := n6_
                have HR70048 := n7_
                have HO70051 := n8_
                clear n0_ n1_ n2_ n3_ n4_ n5_ n6_ n7_ n8_
                clear ho hb hg hat
                refine hK.out _ _ ?_
                clear hK K
                refine norm_ (a' := ?_) ?_ ?_
                rotate_left
                ·show Act.put _ (some 124) _ = _
                 simp only [Act.put, List.setIfInBounds_toArray, List.set_cons_zero, List.set_cons_succ, i64_w, i32_w]
                 rfl
                refine pu_ 10 (some 13) (bt_ 11 2047) (any_of HT_.out (by kernel_rfl)) ?_
                refine done_ (done_of HT_.out (by kernel_rfl)) ?_
                obtain ⟨Ao83, co83, eo83⟩ := Kd.R_slice HO70051.out
                subst eo83
                try go_wp2_with (first | ((with_reducible refine gate_callee (f := 22) rfl ?_); refine goesL_ (some 128) rfl rfl Try.func22 (by kernel_rfl) rfl #[.slice Ao83 y70049.length co83, .slice Ao23 t70002.length co23] rfl (by (try simp only [List.map_toArray, List.map_cons, List.map_nil]); first | done | rfl | (simp only [List.length_drop, List.length_take]; rfl)) ?_; (with_reducible refine (impl_DealRun.calls kj19 _ _ y70049 _ _ t70002 t70052 t70053 t70054 _ ?side1 ?side2 ?side3 ?side4 A74.out).mono ?_); (case side1 => repeat (first | exact (Kd.R_reads' HO70051.out).2.2 | (with_reducible refine Kd.C_alloc ?_ _) | (with_reducible refine Kd.C_drewN ?_ _) | (with_reducible refine Kd.C_drew ?_))); (case side2 => exact (Kd.R_reads' HO70051.out).2.1); (case side3 => repeat (first | exact (Kd.R_reads' HO_4.out).2.2 | (with_reducible refine Kd.C_alloc ?_ _) | (with_reducible refine Kd.C_drewN ?_ _) | (with_reducible refine Kd.C_drew ?_))); (case side4 => exact (Kd.R_reads' HO_4.out).2.1); rintro e w84 ⟨v70055, v70057, rfl, ho0, ho1, hb⟩; refine ⟨_, rfl, ?_⟩; have n0_ := Aside0.mk (Kd.R_elder' (by (with_reducible repeat (first | apply Kd.R_alloc | apply Kd.R_drewN | apply Kd.R_drew)); exact HO_4.out) (Kd.R_base ho1) hb); have n1_ := Aside0.mk (Kd.R_below (by (with_reducible repeat (first | apply Kd.R_alloc | apply Kd.R_drewN | apply Kd.R_drew)); exact HO_5.out) hb); have n2_ := Aside0.mk (Kd.R_elder' (by (with_reducible repeat (first | apply Kd.R_alloc | apply Kd.R_drewN | apply Kd.R_drew)); exact HO_8.out) (Kd.R_base ho0) hb); have n3_ := Aside0.mk (Kd.R_elder' (by (with_reducible repeat (first | apply Kd.R_alloc | apply Kd.R_drewN | apply Kd.R_drew)); exact HO_9.out) (Kd.R_base ho1) hb); have n4_ := Aside0.mk (Kd.R_elder' (by (with_reducible repeat (first | apply Kd.R_alloc | apply Kd.R_drewN | apply Kd.R_drew)); exact HO_11.out) (Kd.R_base ho0) hb); have n5_ := Aside0.mk (Kd.R_elder' (by (with_reducible repeat (first | apply Kd.R_alloc | apply Kd.R_drewN | apply Kd.R_drew)); exact HO_12.out) (Kd.R_base ho1) hb); have n6_ := Aside0.mk (Kd.R_below (by (with_reducible repeat (first | apply Kd.R_alloc | apply Kd.R_drewN | apply Kd.R_drew)); exact HO70051.out) hb); have n7_ := Aside0.mk (Kd.R_lower (Kd.R_new' (Kd.R_new' ho0 (Kd.R_lt (by (with_reducible repeat (first | apply Kd.R_alloc | apply Kd.R_drewN | apply Kd.R_drew)); exact HO_8.out))) (Kd.R_lt (by (with_reducible repeat (first | apply Kd.R_alloc | apply Kd.R_drewN | apply Kd.R_drew)); exact HO_11.out))) (below_size (by repeat (first | (with_reducible first | exact HB.out | apply below_alloc | apply pw_below_drewN | apply below_drew1) | exact HB.out)))); have n8_ := Aside0.mk (Kd.R_lower (Kd.R_new' (Kd.R_new' (Kd.R_new' ho1 (Kd.R_lt (by (with_reducible repeat (first | apply Kd.R_alloc | apply Kd.R_drewN | apply Kd.R_drew)); exact HO_4.out))) (Kd.R_lt (by (with_reducible repeat (first | apply Kd.R_alloc | apply Kd.R_drewN | apply Kd.R_drew)); exact HO_9.out))) (Kd.R_lt (by (with_reducible repeat (first | apply Kd.R_alloc | apply Kd.R_drewN | apply Kd.R_drew)); exact HO_12.out))) (below_size (by repeat (first | (with_reducible first | exact HB.out | apply below_alloc | apply pw_below_drewN | apply below_drew1) | exact HB.out)))); have n9_ := Aside0.mk (Kd.C_below (by repeat (first | (with_reducible exact HR70048.out) | (with_reducible refine Kd.C_alloc ?_ _) | (with_reducible refine Kd.C_drewN ?_ _) | (with_reducible refine Kd.C_drew ?_) | exact HR70048.out)) hb); have n10_ := Aside0.mk (below_step (by repeat (first | (with_reducible first | exact HB.out | apply below_alloc | apply pw_below_drewN | apply below_drew1) | exact HB.out)) hb); clear HO_4; clear HO_5; clear HO_8; clear HO_9; clear HO_11; clear HO_12; clear HO70051; clear HR70048; clear HB; have HO_4 := n0_; have HO_5 := n1_; have HO_8 := n2_; have HO_9 := n3_; have HO_11 := n4_; have HO_12 := n5_; have HO70051 := n6_; have HO70056 := n7_; have HO70058 := n8_; have HR70048 := n9_; have HB := n10_; clear n0_ n1_ n2_ n3_ n4_ n5_ n6_ n7_ n8_ n9_ n10_; (try clear hb); (try clear hb2); (try clear hk); (try clear hi); (try clear ho0); (try clear ho1); obtain ⟨Ao85, co85, eo85⟩ := Kd.R_slice HO70056.out; subst eo85; obtain ⟨Ao86, co86, eo86⟩ := Kd.R_slice HO70058.out; subst eo86; obtain ⟨Ao87, co87, eo87⟩ := Kd.R_slice HO_12.out; subst eo87) | (go_at_call 32; (with_reducible refine (laws_loPairs.calls kj19 _ _ t70054 _ _ t70029 t70059 _ ?side1 ?side2 ?side3 ?side4 A77.out).mono ?_); (case side1 => repeat (first | exact (Kd.R_reads' HO70058.out).2.2 | (with_reducible refine Kd.C_alloc ?_ _) | (with_reducible refine Kd.C_drewN ?_ _) | (with_reducible refine Kd.C_drew ?_))); (case side2 => exact (Kd.R_reads' HO70058.out).2.1); (case side3 => repeat (first | exact (Kd.R_reads' HO_12.out).2.2 | (with_reducible refine Kd.C_alloc ?_ _) | (with_reducible refine Kd.C_drewN ?_ _) | (with_reducible refine Kd.C_drew ?_))); (case side4 => exact (Kd.R_reads' HO_12.out).2.1); rintro e w' ⟨rfl, ⟨nd, rfl⟩⟩))
                go_ret
                exact ⟨by first | rfl | exact congrArg (fun b : Bool => Ending.returned (.bool b)) hv_ | (simp [errW_none, errW_some] <;> rfl) | (simp [*, errW_none, errW_some] <;> rfl), by repeat (first | (with_reducible first | exact HB.out | apply below_alloc | apply pw_below_drewN | apply below_drew1) | exact HB.out)⟩
             ·rw [if_neg c76] at H
              have c76b0 : ((t70053.length : Int) == 0) = false := beq_eq_false_iff_ne.mpr c76
              have c76b1 : ((t70053.length : Int) != 0) = true := bne_iff_ne.mpr c76
              have c76b2 : ¬ (t70053 = []) := fun h_ => c76 (by rw [h_]; rfl)
              exact absurd H (by decide)
            ·rw [if_neg c75] at H
             have c75b0 : (t70052 == t70027) = false := beq_eq_false_iff_ne.mpr c75
             have c75b1 : (t70052 != t70027) = true := bne_iff_ne.mpr c75
             exact absurd H (by decide)
           ·rw [if_neg c73] at H
            exact absurd H (by simp)
          ·rw [if_neg c72] at H
           exact absurd H (by simp)
         ·rw [if_neg c71] at H
          exact absurd H (by simp)
        ·rw [if_neg c70] at H
         exact absurd H (by simp)

/-- THE ONE PURE STATEMENT of laws_FnDealSwap: yours. -/
def laws_FnDealSwap.Pure : Prop := ∀ (l0 : List Int), l0.length ≤ maxLen → l0.length * 1 ≤ 140737488351232 → (∀ x ∈ l0, (Lit.int .u8 x).wf = true) → ∃ k, laws_FnDealSwap.f k l0 = some true
theorem laws_FnDealSwap.walk (P : laws_FnDealSwap.Pure) (a0 : Option Addr) (len0 cap0 : Nat) (z0 : List Int) (w : World) (w0 : (a0 = none ∧ len0 = 0 ∧ cap0 = 0 ∧ z0 = []) ∨ ∃ x, a0 = some x ∧ len0 ≤ cap0 ∧ cap0 ≤ maxLen ∧ z0.length = cap0 ∧ (∀ i, i < z0.length → w.cell? (x.add i) = some (.int .u8 (z0.getD i 0))) ∧ ∀ n ∈ z0, (Lit.int .u8 n).wf = true) (y0 : len0 * 1 ≤ 140737488351232) :
 Calls Try.prog 6 #[.slice a0 len0 cap0] w fun e w' => e = .returned (.bool true) ∧ Below w.heap.size w w' := by
 obtain ⟨l0, rfl, hr0, hm0, hw0, hc0⟩ := ReadsInt.ofRowC w0
 obtain ⟨k, h⟩ := P l0 hm0 y0 hw0
 refine (laws_FnDealSwap.calls k _ _ l0 true w (Kd.C_of_reads (d := (0 : Int)) (h1 := fun _ => rfl) hr0) hc0 rfl h).mono ?_
 rintro e w' ⟨rfl, hd⟩
 exact ⟨rfl, hd⟩

end Go.Proofs.Ytdjiclhjficgfaa.PX
