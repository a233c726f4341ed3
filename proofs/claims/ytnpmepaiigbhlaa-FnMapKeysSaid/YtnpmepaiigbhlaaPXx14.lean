-- Written by a program of this workplace (wip/xprint.py over the kit's print.py) out of the translation.
import Derived.Test.YtnpmepaiigbhlaaPXx0
import Derived.Test.YtnpmepaiigbhlaaPXx8
namespace Go.Proofs.Ytnpmepaiigbhlaa.PX
open Go.RowKit Go.Proofs.YtnpmepaiigbhlaaW.PrintWords Go.Proofs.YtnpmepaiigbhlaaW.PrintLast Go.Proofs.YtnpmepaiigbhlaaW.PrintMore
attribute [local go_sem] max2_int min2_int max_two min_two max_three min_three max_four min_four   -- for this text's walks alone
set_option linter.unusedVariables false
set_option linter.unusedSimpArgs false

/-! ### spec_l2Copy: function 58 -/
def spec_l2Copy.f (a0_0 : Int) (l0_1 : List Int) : Option (Int × List Int) := (some (([] : List Int) : List Int)).bind fun y590003 => (if y590003.length + l0_1.length < 17592186044416 then (some (a0_0, (y590003 ++ l0_1))) else (none))
def spec_l2Copy.T1 : Bool × List (List Nat × List Nat) := (true, [([], []), ([0], [0]), ([], []), ([], []), ([3], [3]), ([2, 4], [2, 4]), ([1, 5], [1, 5]), ([6, 5, 0, 1, 2, 3, 4, 5, 6], [6])])
def spec_l2Copy.B1 : List Nat := [0, 1, 0, 0, 8, 28, 63, 127]
theorem spec_l2Copy.tab1 : rtab .any (opsOf Try.f58 1) = spec_l2Copy.T1 := by kernel_rfl
theorem spec_l2Copy.bits1 : waitsOk spec_l2Copy.T1.2 spec_l2Copy.B1 = true := by kernel_rfl
set_option maxHeartbeats 8000000 in
set_option maxRecDepth 100000 in
theorem spec_l2Copy.calls (a0_0 : Int) (A0_1 : Option Addr) (c0_1 : Nat) (l0_1 : List Int) (r1 : Int) (r2 : List Int) (w : World) (hr0_1 : Kd.C (Kd.int .i64) w A0_1 l0_1.length l0_1) (hc0_1 : l0_1.length ≤ c0_1) (h : spec_l2Copy.f a0_0 l0_1 = some (r1, r2)) :
    Calls Try.prog 58 #[.agg #[.int .i64 a0_0, .slice A0_1 l0_1.length c0_1]] w fun e w' => ∃ v1_ : Value, e = .returned (.agg #[.int .i64 r1, v1_]) ∧ Kd.R (Kd.int .i64) 3 w' w.heap.size (fun _ => True) v1_ r2 ∧ Below w.heap.size w w' := by
  have hu27 := Try.underlying27
  have HR0_1 := Aside0.mk hr0_1
  have HC0_1 := Aside0.mk hc0_1
  clear hr0_1 hc0_1
  have HB := Aside0.mk (Below.refl w.heap.size w)
  have H : ((some (([] : List Int) : List Int)).bind fun y590003 => (if y590003.length + l0_1.length < 17592186044416 then (some (a0_0, (y590003 ++ l0_1))) else (none))) = some (r1, r2) := h
  clear h
  obtain ⟨y590003, hy590003⟩ : ∃ y_ : List Int, y_ = (([] : List Int)) := ⟨_, rfl⟩
  replace H : (if y590003.length + l0_1.length < 17592186044416 then (some (a0_0, (y590003 ++ l0_1))) else (none)) = some (r1, r2) := by first | (rw [hy590003]; with_reducible exact H) | (have H2_ := (Option.bind_some _ _).symm.trans H; rw [hy590003]; with_reducible exact H2_) | (have H2_ := (Option.bind_some _ _).symm.trans H; with_reducible exact H2_) | with_reducible exact H | (rw [hy590003]; exact H) | exact H
  have Ny590003 := Aside0.mk hy590003
  clear hy590003
  by_cases c2 : y590003.length + l0_1.length < 17592186044416
  · rw [if_pos c2] at H
    have LMc2 := Aside0.mk c2
    clear c2
    obtain ⟨y590006, hy590006⟩ : ∃ y_ : List Int, y_ = (y590003 ++ l0_1) := ⟨_, rfl⟩
    replace H : (some (a0_0, y590006)) = some (r1, r2) := by first | (rw [hy590006]; with_reducible exact H) | (have H2_ := (Option.bind_some _ _).symm.trans H; rw [hy590006]; with_reducible exact H2_) | (have H2_ := (Option.bind_some _ _).symm.trans H; with_reducible exact H2_) | with_reducible exact H | (rw [hy590006]; exact H) | exact H
    have Ny590006 := Aside0.mk hy590006
    clear hy590006
    simp only [Option.some.injEq, Prod.mk.injEq] at H
    obtain ⟨rfl, rfl⟩ := H
    go_enter Try.func58, Try.ntmps58
    try go_wp2_with (first | ((with_reducible refine gate_dst (N := 1) rfl ?_); refine box_event ?hg (N := 1) ?hd (cs := #[.int .i64 a0_0, .slice A0_1 l0_1.length c0_1]) (t := 27) ?hr ?_; (case hd => rfl); (case hg => rfl); (case hr => first | (go_simp; done) | (go_simp; rfl)); intro gb590001 hg w3 hbox hb; have n0_ := Aside0.mk (below_step (by repeat (first | (with_reducible first | exact HB.out | apply below_alloc | apply pw_below_drewN | apply below_drew1) | exact HB.out)) hb); have n1_ := Aside0.mk (hbox); have n2_ := Aside0.mk ((by rw [hg]; exact (below_size (by repeat (first | (with_reducible first | exact HB.out | apply below_alloc | apply pw_below_drewN | apply below_drew1) | exact HB.out))) : w.heap.size ≤ gb590001)); have n3_ := Aside0.mk ((by rw [hg]; exact (below_size (by repeat (first | (with_reducible first | exact HB.out | apply below_alloc | apply pw_below_drewN | apply below_drew1) | exact HB.out))) : w.heap.size ≤ gb590001)); clear HB; have HB := n0_; have BK590001 := n1_; have GW590001 := n2_; have GE590001 := n3_; clear n0_ n1_ n2_ n3_; clear hb hbox hg) | ((with_reducible refine gate_dst (N := 2) rfl ?_); refine box_event ?hg (N := 2) ?hd (cs := #[.int .i64 0, .slice none 0 0]) (t := 27) ?hr ?_; (case hd => rfl); (case hg => rfl); (case hr => first | (go_simp; done) | (go_simp; rfl)); intro gb590002 hg w4 hbox hb; have n0_ := Aside0.mk (blk_below (g := gb590001) (o := .cells #[.int .i64 a0_0, .slice A0_1 l0_1.length c0_1] 27 (0, 0)) (by (with_reducible repeat (first | refine blk_drewN ?_ _ | refine blk_drew ?_ | refine blk_alloc ?_ _)); exact BK590001.out) hb); have n1_ := Aside0.mk (below_step (by repeat (first | (with_reducible first | exact HB.out | apply below_alloc | apply pw_below_drewN | apply below_drew1 | refine below_set ?_ GE590001.out) | exact HB.out)) hb); have n2_ := Aside0.mk (hbox); have n3_ := Aside0.mk ((by rw [hg]; exact (below_size (by repeat (first | (with_reducible first | exact HB.out | apply below_alloc | apply pw_below_drewN | apply below_drew1 | refine below_set ?_ GE590001.out) | exact HB.out))) : w.heap.size ≤ gb590002)); have n4_ := Aside0.mk ((by rw [hg]; exact (below_size (by repeat (first | (with_reducible first | exact HB.out | apply below_alloc | apply pw_below_drewN | apply below_drew1 | refine below_set ?_ GE590001.out) | exact HB.out))) : w.heap.size ≤ gb590002)); have n5_ := Aside0.mk ((by rw [hg]; exact Nat.ne_of_lt (blk_lt (g := gb590001) (o := .cells #[.int .i64 a0_0, .slice A0_1 l0_1.length c0_1] 27 (0, 0)) (by (with_reducible repeat (first | refine blk_drewN ?_ _ | refine blk_drew ?_ | refine blk_alloc ?_ _)); exact BK590001.out)) : gb590001 ≠ gb590002)); have n6_ := Aside0.mk ((by rw [hg]; exact Nat.ne_of_gt (blk_lt (g := gb590001) (o := .cells #[.int .i64 a0_0, .slice A0_1 l0_1.length c0_1] 27 (0, 0)) (by (with_reducible repeat (first | refine blk_drewN ?_ _ | refine blk_drew ?_ | refine blk_alloc ?_ _)); exact BK590001.out)) : gb590002 ≠ gb590001)); clear BK590001; clear HB; have BK590001 := n0_; have HB := n1_; have BK590002 := n2_; have GW590002 := n3_; have GE590002 := n4_; have NB590001_590002 := n5_; have NB590002_590001 := n6_; clear n0_ n1_ n2_ n3_ n4_ n5_ n6_; clear hb hbox hg))
    have n0_ := Aside0.mk (blk_drew BK590001.out)
    have n1_ := Aside0.mk (blk_drew BK590002.out)
    have n2_ := Aside0.mk (below_drew1 HB.out)
    clear BK590001
    clear BK590002
    clear HB
    have BK590001 := n0_
    have BK590002 := n1_
    have HB := n2_
    clear n0_ n1_ n2_
    refine start_ (n := 8) (S := fun w' => w'.cell? ⟨gb590001, 0, none⟩ = some (.int .i64 a0_0) ∧ w'.cell? ⟨gb590001, 1, none⟩ = some (.slice A0_1 l0_1.length c0_1)) (ds := []) #[false, false, false, false, false, false, false, false] (by kernel_rfl) rfl rfl ⟨(blk_cell BK590001.out 0).trans rfl, (blk_cell BK590001.out 1).trans rfl⟩ (fun hHeld => ?_); refine with_tabW spec_l2Copy.tab1 spec_l2Copy.bits1 (fun HT_ HW_ => ?_)
    generalize w4.drew = w5 at BK590001 BK590002 HB hHeld ⊢
    refine pure_ (i := 0) (N := some 3) (v := ?_) (a' := ?_) #[true, false, false, false, false, false, false, false] rfl rfl (any_of HT_.out (by kernel_rfl)) (fun _ _ _ h => h) (Or.inl ⟨by rfl, ?_⟩) ?_ ?_
    rotate_left
    · intro w'
      go_simp
      with_reducible rfl
    rotate_left
    · simp only [Act.put, List.setIfInBounds_toArray, List.set_cons_zero, List.set_cons_succ, i64_w, i32_w]
      rfl
    refine pure_ (i := 3) (N := some 6) (v := ?_) (a' := ?_) #[true, false, false, true, false, false, false, false] rfl rfl (any_of HT_.out (by kernel_rfl)) (fun _ _ _ h => h) (Or.inl ⟨by rfl, ?_⟩) ?_ ?_
    rotate_left
    · intro w'
      go_simp
      with_reducible rfl
    rotate_left
    · simp only [Act.put, List.setIfInBounds_toArray, List.set_cons_zero, List.set_cons_succ, i64_w, i32_w]
      rfl
    refine take_ (i := 1) (N := some 4) (v := ?_) (a' := ?_) #[true, true, false, true, false, false, false, false] rfl rfl (take_ofW HT_.out HW_.out (by kernel_rfl)) (fun _ _ _ h => h) (Or.inl ⟨by rfl, ?_⟩) hHeld ?_ ?_
    rotate_left
    · rintro w' ⟨s0, s1⟩
      go_simp
      with_reducible rfl
    rotate_left
    · simp only [Act.put, List.setIfInBounds_toArray, List.set_cons_zero, List.set_cons_succ, i64_w, i32_w]
      rfl
    refine take_ (i := 4) (N := some 7) (v := ?_) (a' := ?_) #[true, true, false, true, true, false, false, false] rfl rfl (take_ofW HT_.out HW_.out (by kernel_rfl)) (fun _ _ _ h => h) (Or.inl ⟨by rfl, ?_⟩) hHeld ?_ ?_
    rotate_left
    · rintro w' ⟨s0, s1⟩
      go_simp
      with_reducible rfl
    rotate_left
    · simp only [Act.put, List.setIfInBounds_toArray, List.set_cons_zero, List.set_cons_succ, i64_w, i32_w]
      rfl
    refine one_ (i := 2) (N := some 5) #[true, true, true, true, true, false, false, false] rfl rfl (one_of HT_.out (by kernel_rfl)) (by decide) (fun K hK => ?_)
    refine Kd.R_lit_step (Kd.int .i64) _ 3 ?hg (N := 5) ?hd (xs := ([] : List Int)) (inner := []) (ok := fun _ => True) (okp := fun _ => True) ?hr ?hp (fun _ hk => hk) trivial (Below.refl _ _) (Nat.le_refl _) (by simp) ?_; (case hd => rfl); (case hg => rfl); (case hr => first | (go_simp; done) | (go_simp; rfl)); (case hp => exact (Reps.none _ _))
    intro v590004 w6 ho7 hb hg_ hnew_
    clear hg_ hnew_
    (first | rw [← Ny590003.out] at ho7 | (simp only [Int.reduceToNat] at ho7; rw [← Ny590003.out] at ho7))
    have n0_ := Aside0.mk (Kd.R_lower ho7 (below_size (by repeat (first | (with_reducible first | exact HB.out | apply below_alloc | apply pw_below_drewN | apply below_drew1 | refine below_set ?_ GE590001.out | refine below_set ?_ GE590002.out) | exact HB.out))))
    have n1_ := Aside0.mk (blk_below (g := gb590001) (o := .cells #[.int .i64 a0_0, .slice A0_1 l0_1.length c0_1] 27 (0, 0)) (by (with_reducible repeat (first | refine blk_drewN ?_ _ | refine blk_drew ?_ | refine blk_alloc ?_ _)); exact BK590001.out) hb)
    have n2_ := Aside0.mk (blk_below (g := gb590002) (o := .cells #[.int .i64 0, .slice none 0 0] 27 (0, 0)) (by (with_reducible repeat (first | refine blk_drewN ?_ _ | refine blk_drew ?_ | refine blk_alloc ?_ _)); exact BK590002.out) hb)
    have n3_ := Aside0.mk (below_step (by repeat (first | (with_reducible first | exact HB.out | apply below_alloc | apply pw_below_drewN | apply below_drew1 | refine below_set ?_ GE590001.out | refine below_set ?_ GE590002.out) | exact HB.out)) hb)
    clear BK590001
    clear BK590002
    clear HB
    have HO590005 := n0_
    have BK590001 := n1_
    have BK590002 := n2_
    have HB := n3_
    clear n0_ n1_ n2_ n3_
    clear hb ho7
    refine hK.out _ _ ⟨(blk_cell BK590001.out 0).trans rfl, (blk_cell BK590001.out 1).trans rfl⟩ (fun hHeld => ?_)
    clear hK K
    refine norm_ (a' := ?_) ?_ ?_
    rotate_left
    · show Act.put _ (some 5) _ = _
      simp only [Act.put, List.setIfInBounds_toArray, List.set_cons_zero, List.set_cons_succ, i64_w, i32_w]
      rfl
    refine one_ (i := 5) (N := some 8) #[true, true, true, true, true, true, false, false] rfl rfl (one_of HT_.out (by kernel_rfl)) (by decide) (fun K hK => ?_)
    refine Kd.R_append_rows_step (Kd.int .i64) (w0 := w) w.heap.size (by rfl) (.tmp 5) (.tmp 7) 25 3 (.int .i64 0) 8 rfl Try.underlying25 info3 rfl (by decide) (by omega) v590004 y590003 l0_1 _ _ _ (fun _ => True) (fun _ => False) rfl rfl ?aO ?aR (fun _ _ h => h) (fun _ h => h.elim) ?aF ?aB ?aS ?aL ?_
    (case aR => repeat (first | exact (Kd.C_below HR0_1.out HB.out) | (with_reducible refine Kd.C_alloc ?_ _) | (with_reducible refine Kd.C_drewN ?_ _) | (with_reducible refine Kd.C_drew ?_)))
    (case aB => exact (by repeat (first | (with_reducible first | exact HB.out | apply below_alloc | apply pw_below_drewN | apply below_drew1 | refine below_set ?_ GE590001.out | refine below_set ?_ GE590002.out) | exact HB.out)))
    (case aF => exact (fun _ _ => trivial))
    (case aO => exact (by (with_reducible repeat (first | apply Kd.R_alloc | apply Kd.R_drewN | apply Kd.R_drew)); exact HO590005.out))
    (case aS => exact (below_size (by repeat (first | (with_reducible first | exact HB.out | apply below_alloc | apply pw_below_drewN | apply below_drew1 | refine below_set ?_ GE590001.out | refine below_set ?_ GE590002.out) | exact HB.out))))
    (case aL => have := LMc2.out; omega)
    intro v590007 w8 ho hb hg hat
    rw [← Ny590006.out] at ho
    have n0_ := Aside0.mk (blk_grown (g := gb590001) (o := .cells #[.int .i64 a0_0, .slice A0_1 l0_1.length c0_1] 27 (0, 0)) (by (with_reducible repeat (first | refine blk_drewN ?_ _ | refine blk_drew ?_ | refine blk_alloc ?_ _)); exact BK590001.out) hg (Kd.R_ne HO590005.out BK590001.out (by decide)))
    have n1_ := Aside0.mk (blk_grown (g := gb590002) (o := .cells #[.int .i64 0, .slice none 0 0] 27 (0, 0)) (by (with_reducible repeat (first | refine blk_drewN ?_ _ | refine blk_drew ?_ | refine blk_alloc ?_ _)); exact BK590002.out) hg (Kd.R_ne HO590005.out BK590002.out (by decide)))
    have n2_ := Aside0.mk (hb)
    have n3_ := Aside0.mk (ho)
    clear BK590001
    clear BK590002
    clear HB
    clear HO590005
    have BK590001 := n0_
    have BK590002 := n1_
    have HB := n2_
    have HO590008 := n3_
    clear n0_ n1_ n2_ n3_
    clear ho hb hg hat
    obtain ⟨Ao9, co9, eo9⟩ := Kd.R_slice HO590008.out
    (first | subst eo9 | (injection eo9 with f1_ f2_ f3_; have f4_ := f1_.symm; have f5_ := f3_.symm; clear f1_ f2_ f3_; subst f4_; subst f5_))
    refine hK.out _ _ ⟨(blk_cell BK590001.out 0).trans rfl, (blk_cell BK590001.out 1).trans rfl⟩ (fun hHeld => ?_)
    clear hK K
    refine norm_ (a' := ?_) ?_ ?_
    rotate_left
    · show Act.put _ (some 8) _ = _
      simp only [Act.put, List.setIfInBounds_toArray, List.set_cons_zero, List.set_cons_succ, i64_w, i32_w]
      rfl
    refine pure_ (i := 6) (N := some 9) (v := ?_) (a' := ?_) #[true, true, true, true, true, true, true, false] rfl rfl (any_of HT_.out (by kernel_rfl)) (fun _ _ _ h => h) (Or.inl ⟨by rfl, ?_⟩) ?_ ?_
    rotate_left
    · intro w'
      go_simp
      with_reducible rfl
    rotate_left
    · simp only [Act.put, List.setIfInBounds_toArray, List.set_cons_zero, List.set_cons_succ, i64_w, i32_w]
      rfl
    refine one_ (i := 7) (N := none) #[true, true, true, true, true, true, true, true] rfl rfl (one_of HT_.out (by kernel_rfl)) (by decide) (fun K hK => ?_)
    have hs10 : w8.cell? ⟨gb590002, 0, none⟩ = some (.int .i64 0) := (blk_cell BK590002.out 0).trans rfl
    have hfs10 := blk_frozen BK590002.out 0
    have hns10_0 := NB590001_590002.out
    have hms10_0 := NB590002_590001.out
    have hs11 : w8.cell? ⟨gb590002, 1, none⟩ = some (.slice none 0 0) := (blk_cell BK590002.out 1).trans rfl
    have hfs11 := blk_frozen BK590002.out 1
    have hns11_0 := NB590001_590002.out
    have hms11_0 := NB590002_590001.out
    refine skip_ (w1 := ?_) (by rfl) rfl ?_ ?_
    rotate_left
    · go_simp
      rfl
    refine hK.out _ _ ⟨((cell_far (p := ⟨gb590002, _, none⟩) NB590001_590002.out _).trans (((cell_far (p := ⟨gb590002, _, none⟩) NB590001_590002.out _).trans (hHeld.1)))), ((cell_far (p := ⟨gb590002, _, none⟩) NB590001_590002.out _).trans (((cell_far (p := ⟨gb590002, _, none⟩) NB590001_590002.out _).trans (hHeld.2))))⟩ (fun hHeld => ?_)
    clear hK K
    refine done_ (done_of HT_.out (by kernel_rfl)) ?_
    try go_wp2
    refine bodyPost_ret (results_cell_row rfl _ _ gb590002 27 #[.int .i64 a0_0, .slice Ao9 y590006.length co9] (0, 0) _ rfl (by (with_reducible repeat (first | refine blk_drewN ?_ _ | refine blk_drew ?_ | refine blk_alloc ?_ _)); refine blk_put (cs := #[.int .i64 a0_0, .slice none 0 0]) ?_ 1 _ rfl; (with_reducible repeat (first | refine blk_drewN ?_ _ | refine blk_drew ?_ | refine blk_alloc ?_ _)); refine blk_put (cs := #[.int .i64 0, .slice none 0 0]) ?_ 0 _ rfl; (with_reducible repeat (first | refine blk_drewN ?_ _ | refine blk_drew ?_ | refine blk_alloc ?_ _)); exact BK590002.out) Try.underlying27 rfl (by kernel_rfl)) rfl ?_
    exact ⟨_, by first | rfl | (simp [errW_none, errW_some] <;> rfl) | (simp [*, errW_none, errW_some] <;> rfl), by (with_reducible repeat (first | apply Kd.R_alloc | apply Kd.R_drewN | apply Kd.R_drew)); exact Kd.R_mono (Kd.R_far (p := ⟨gb590002, 1, none⟩) (Kd.R_far (p := ⟨gb590002, 0, none⟩) (Kd.R_types HO590008.out BK590002.out (by decide)) (fun _ hk => hk.2) (.int .i64 a0_0)) (fun _ hk => hk.2) (.slice Ao9 y590006.length co9)) (fun _ hk => trivial), by repeat (first | (with_reducible first | exact HB.out | apply below_alloc | apply pw_below_drewN | apply below_drew1 | refine below_set ?_ GE590001.out | refine below_set ?_ GE590002.out) | exact HB.out)⟩
  · rw [if_neg c2] at H
    exact absurd H (by simp)

/-! ### spec_MapMove: function 29 -/
def spec_MapMove.j0 : Nat → Int → Int → Bool → Int → List Int → Int → List Int → Option (Int × List Int × Int)
  | 0, _, _, _, _, _, _, _ => none
  | k + 1, x1, x2, x15, x300002000, x300002001, x300009000, x300009001 => if x15 = true then (some (x300009000, x300009001, 9)) else (if x300002000 ≥ 99 then (some (x300009000, x300009001, 2)) else (if 0 ≤ x1 then (if x1 < (x300002001.length : Int) then (if (rd x300002001 x1) = x2 then (some (x300009000, x300009001, 3)) else (if x1 < (x300009001.length : Int) then (some (wrap64 (x300002000 + 1), (x300009001.set (x1 : Int).toNat x2), 0)) else (none))) else (none)) else (none)))
def spec_MapMove.f (k : Nat) (a0_0 : Int) (l0_1 : List Int) (a1 : Int) (a2 : Int) : Option (Int × List Int × Int) := (spec_MapOk.f k a0_0 l0_1).bind fun t300003 => (if t300003 = true then ((spec_l2Copy.f a0_0 l0_1).bind fun bt300004 => ((spec_l6In.f a1 0 7).bind fun t300009 => (if t300009 = true then ((spec_l6In.f a2 0 2).bind fun t300010 => (spec_MapMove.j0 k a1 a2 (!t300010) a0_0 l0_1 bt300004.1 bt300004.2)) else (spec_MapMove.j0 k a1 a2 true a0_0 l0_1 bt300004.1 bt300004.2)))) else (some (0, ([] : List Int), 9)))
theorem spec_MapMove.mono_l : ∀ k, (∀ y0 y1 y2 y3 y4 y5 y6, LeO (spec_MapMove.j0 k y0 y1 y2 y3 y4 y5 y6) (spec_MapMove.j0 (k + 1) y0 y1 y2 y3 y4 y5 y6))
  | 0 => fun _ _ _ _ _ _ _ r h => by simp [spec_MapMove.j0] at h
  | k + 1 => by
    have ih0 := spec_MapMove.mono_l k
    · intro y0 y1 y2 y3 y4 y5 y6
      unfold spec_MapMove.j0
      repeat' first
      | (with_reducible exact ih0 _ _ _ _ _ _ _)
      | (with_reducible exact spec_MapOk.mono _ _ _)
      | (with_reducible exact LeO.refl _)
      | (with_reducible exact LeO.none _)
      | (with_reducible refine LeO.ite ?_ ?_)
      | (with_reducible refine LeO.bind ?_ (fun _ => ?_))
      | exact ih0 _ _ _ _ _ _ _
      | exact spec_MapOk.mono _ _ _
      | exact LeO.none _
      | refine LeO.ite ?_ ?_
      | refine LeO.bind ?_ (fun _ => ?_)
theorem spec_MapMove.mono : ∀ a0 a1 a2 a3 k, LeO (spec_MapMove.f k a0 a1 a2 a3) (spec_MapMove.f (k + 1) a0 a1 a2 a3) := by
  intro a0 a1 a2 a3 k
  have ih0 := spec_MapMove.mono_l k
  unfold spec_MapMove.f
  repeat' first
      | (with_reducible exact ih0 _ _ _ _ _ _ _)
      | (with_reducible exact spec_MapOk.mono _ _ _)
      | (with_reducible exact LeO.refl _)
      | (with_reducible exact LeO.none _)
      | (with_reducible refine LeO.ite ?_ ?_)
      | (with_reducible refine LeO.bind ?_ (fun _ => ?_))
      | exact ih0 _ _ _ _ _ _ _
      | exact spec_MapOk.mono _ _ _
      | exact LeO.none _
      | refine LeO.ite ?_ ?_
      | refine LeO.bind ?_ (fun _ => ?_)
set_option maxHeartbeats 8000000 in
set_option maxRecDepth 100000 in
theorem spec_MapMove.calls (k : Nat) (a0_0 : Int) (A0_1 : Option Addr) (c0_1 : Nat) (l0_1 : List Int) (a1 : Int) (a2 : Int) (r1 : Int) (r2 : List Int) (r3 : Int) (w : World) (hr0_1 : Kd.C (Kd.int .i64) w A0_1 l0_1.length l0_1) (hc0_1 : l0_1.length ≤ c0_1) (h : spec_MapMove.f k a0_0 l0_1 a1 a2 = some (r1, r2, r3)) :
    Calls Try.prog 29 #[.agg #[.int .i64 a0_0, .slice A0_1 l0_1.length c0_1], .int .i64 a1, .int .i64 a2] w fun e w' => ∃ v1_ : Value, e = .returned (.tuple #[.agg #[.int .i64 r1, v1_], .int .i64 r3]) ∧ Kd.R (Kd.int .i64) 3 w' w.heap.size (fun _ => True) v1_ r2 ∧ Below w.heap.size w w' := by
  have hu27 := Try.underlying27
  have HR0_1 := Aside0.mk hr0_1
  have HC0_1 := Aside0.mk hc0_1
  clear hr0_1 hc0_1
  have HB := Aside0.mk (Below.refl w.heap.size w)
  have H : ((spec_MapOk.f k a0_0 l0_1).bind fun t300003 => (if t300003 = true then ((spec_l2Copy.f a0_0 l0_1).bind fun bt300004 => ((spec_l6In.f a1 0 7).bind fun t300009 => (if t300009 = true then ((spec_l6In.f a2 0 2).bind fun t300010 => (spec_MapMove.j0 k a1 a2 (!t300010) a0_0 l0_1 bt300004.1 bt300004.2)) else (spec_MapMove.j0 k a1 a2 true a0_0 l0_1 bt300004.1 bt300004.2)))) else (some (0, ([] : List Int), 9)))) = some (r1, r2, r3) := h
  clear h
  replace H := Option.bind_eq_some_iff.mp H
  obtain ⟨t300003, A40, H⟩ := H
  replace H : (if t300003 = true then ((spec_l2Copy.f a0_0 l0_1).bind fun bt300004 => ((spec_l6In.f a1 0 7).bind fun t300009 => (if t300009 = true then ((spec_l6In.f a2 0 2).bind fun t300010 => (spec_MapMove.j0 k a1 a2 (!t300010) a0_0 l0_1 bt300004.1 bt300004.2)) else (spec_MapMove.j0 k a1 a2 true a0_0 l0_1 bt300004.1 bt300004.2)))) else (some (0, ([] : List Int), 9))) = some (r1, r2, r3) := H
  have A4 := Aside0.mk A40
  clear A40
  by_cases c5 : t300003 = true
  · subst c5
    have H1 : ((spec_l2Copy.f a0_0 l0_1).bind fun bt300004 => ((spec_l6In.f a1 0 7).bind fun t300009 => (if t300009 = true then ((spec_l6In.f a2 0 2).bind fun t300010 => (spec_MapMove.j0 k a1 a2 (!t300010) a0_0 l0_1 bt300004.1 bt300004.2)) else (spec_MapMove.j0 k a1 a2 true a0_0 l0_1 bt300004.1 bt300004.2)))) = some (r1, r2, r3) := by rw [if_pos rfl] at H; exact H
    clear H
    have H := H1
    clear H1
    replace H := Option.bind_eq_some_iff.mp H
    obtain ⟨⟨t300004, t300005⟩, A60, H⟩ := H
    replace H : ((spec_l6In.f a1 0 7).bind fun t300009 => (if t300009 = true then ((spec_l6In.f a2 0 2).bind fun t300010 => (spec_MapMove.j0 k a1 a2 (!t300010) a0_0 l0_1 t300004 t300005)) else (spec_MapMove.j0 k a1 a2 true a0_0 l0_1 t300004 t300005))) = some (r1, r2, r3) := H
    have A6 := Aside0.mk A60
    clear A60
    have HC7 := Aside0.mk H
    clear H
    go_enter Try.func29, Try.ntmps29
    go_upto_region 4 with (first | ((with_reducible refine gate_dst (N := 3) rfl ?_); refine box_event ?hg (N := 3) ?hd (cs := #[.int .i64 a0_0, .slice A0_1 l0_1.length c0_1]) (t := 27) ?hr ?_; (case hd => rfl); (case hg => rfl); (case hr => first | (go_simp; done) | (go_simp; rfl)); intro gb300001 hg w8 hbox hb; have n0_ := Aside0.mk (below_step (by repeat (first | (with_reducible first | exact HB.out | apply below_alloc | apply pw_below_drewN | apply below_drew1) | exact HB.out)) hb); have n1_ := Aside0.mk (hbox); have n2_ := Aside0.mk ((by rw [hg]; exact (below_size (by repeat (first | (with_reducible first | exact HB.out | apply below_alloc | apply pw_below_drewN | apply below_drew1) | exact HB.out))) : w.heap.size ≤ gb300001)); have n3_ := Aside0.mk ((by rw [hg]; exact (below_size (by repeat (first | (with_reducible first | exact HB.out | apply below_alloc | apply pw_below_drewN | apply below_drew1) | exact HB.out))) : w.heap.size ≤ gb300001)); clear HB; have HB := n0_; have BK300001 := n1_; have GW300001 := n2_; have GE300001 := n3_; clear n0_ n1_ n2_ n3_; clear hb hbox hg) | ((with_reducible refine gate_dst (N := 6) rfl ?_); refine box_event ?hg (N := 6) ?hd (cs := #[.int .i64 0, .slice none 0 0]) (t := 27) ?hr ?_; (case hd => rfl); (case hg => rfl); (case hr => first | (go_simp; done) | (go_simp; rfl)); intro gb300002 hg w9 hbox hb; have n0_ := Aside0.mk (blk_below (g := gb300001) (o := .cells #[.int .i64 a0_0, .slice A0_1 l0_1.length c0_1] 27 (0, 0)) (by (with_reducible repeat (first | refine blk_drewN ?_ _ | refine blk_drew ?_ | refine blk_alloc ?_ _)); exact BK300001.out) hb); have n1_ := Aside0.mk (below_step (by repeat (first | (with_reducible first | exact HB.out | apply below_alloc | apply pw_below_drewN | apply below_drew1 | refine below_set ?_ GE300001.out) | exact HB.out)) hb); have n2_ := Aside0.mk (hbox); have n3_ := Aside0.mk ((by rw [hg]; exact (below_size (by repeat (first | (with_reducible first | exact HB.out | apply below_alloc | apply pw_below_drewN | apply below_drew1 | refine below_set ?_ GE300001.out) | exact HB.out))) : w.heap.size ≤ gb300002)); have n4_ := Aside0.mk ((by rw [hg]; exact (below_size (by repeat (first | (with_reducible first | exact HB.out | apply below_alloc | apply pw_below_drewN | apply below_drew1 | refine below_set ?_ GE300001.out) | exact HB.out))) : w.heap.size ≤ gb300002)); have n5_ := Aside0.mk ((by rw [hg]; exact Nat.ne_of_lt (blk_lt (g := gb300001) (o := .cells #[.int .i64 a0_0, .slice A0_1 l0_1.length c0_1] 27 (0, 0)) (by (with_reducible repeat (first | refine blk_drewN ?_ _ | refine blk_drew ?_ | refine blk_alloc ?_ _)); exact BK300001.out)) : gb300001 ≠ gb300002)); have n6_ := Aside0.mk ((by rw [hg]; exact Nat.ne_of_gt (blk_lt (g := gb300001) (o := .cells #[.int .i64 a0_0, .slice A0_1 l0_1.length c0_1] 27 (0, 0)) (by (with_reducible repeat (first | refine blk_drewN ?_ _ | refine blk_drew ?_ | refine blk_alloc ?_ _)); exact BK300001.out)) : gb300002 ≠ gb300001)); clear BK300001; clear HB; have BK300001 := n0_; have HB := n1_; have BK300002 := n2_; have GW300002 := n3_; have GE300002 := n4_; have NB300001_300002 := n5_; have NB300002_300001 := n6_; clear n0_ n1_ n2_ n3_ n4_ n5_ n6_; clear hb hbox hg; have hnb10 := NB300001_300002.out; have hnc10 := NB300002_300001.out; have hcz11_0 : w9.cell? ⟨gb300001, 0, none⟩ = some (.int .i64 a0_0) := (blk_cell BK300001.out 0).trans rfl; have hcz11_1 : w9.cell? ⟨gb300001, 1, none⟩ = some (.slice A0_1 l0_1.length c0_1) := (blk_cell BK300001.out 1).trans rfl; have hfz11_0 := blk_frozen BK300001.out 0; have hfz11_1 := blk_frozen BK300001.out 1) | ((with_reducible refine gate_callee (f := 23) rfl ?_); refine goesL_ (some 10) rfl rfl Try.func23 (by kernel_rfl) rfl #[.agg #[.int .i64 a0_0, .slice A0_1 l0_1.length c0_1]] rfl (by (try simp only [List.map_toArray, List.map_cons, List.map_nil]); first | done | rfl | (simp only [List.length_drop, List.length_take]; rfl)) ?_; (with_reducible refine (spec_MapOk.calls k a0_0 _ _ l0_1 true _ ?side1 ?side2 A4.out).mono ?_); (case side1 => repeat (first | exact (Kd.C_below HR0_1.out HB.out) | (with_reducible refine Kd.C_alloc ?_ _) | (with_reducible refine Kd.C_drewN ?_ _) | (with_reducible refine Kd.C_drew ?_))); (case side2 => exact HC0_1.out); rintro e w12 ⟨rfl, hb⟩; refine ⟨_, rfl, ?_⟩; have n0_ := Aside0.mk (blk_below (g := gb300001) (o := .cells #[.int .i64 a0_0, .slice A0_1 l0_1.length c0_1] 27 (0, 0)) (by (with_reducible repeat (first | refine blk_drewN ?_ _ | refine blk_drew ?_ | refine blk_alloc ?_ _)); exact BK300001.out) hb); have n1_ := Aside0.mk (blk_below (g := gb300002) (o := .cells #[.int .i64 0, .slice none 0 0] 27 (0, 0)) (by (with_reducible repeat (first | refine blk_drewN ?_ _ | refine blk_drew ?_ | refine blk_alloc ?_ _)); exact BK300002.out) hb); have n2_ := Aside0.mk (below_step (by repeat (first | (with_reducible first | exact HB.out | apply below_alloc | apply pw_below_drewN | apply below_drew1 | refine below_set ?_ GE300001.out | refine below_set ?_ GE300002.out) | exact HB.out)) hb); clear BK300001; clear BK300002; clear HB; have BK300001 := n0_; have BK300002 := n1_; have HB := n2_; clear n0_ n1_ n2_; (try clear hb); (try clear hb2); (try clear hk); (try clear hi); have hcz13_0 : w12.cell? ⟨gb300001, 0, none⟩ = some (.int .i64 a0_0) := (blk_cell BK300001.out 0).trans rfl; have hcz13_1 : w12.cell? ⟨gb300001, 1, none⟩ = some (.slice A0_1 l0_1.length c0_1) := (blk_cell BK300001.out 1).trans rfl; have hfz13_0 := blk_frozen BK300001.out 0; have hfz13_1 := blk_frozen BK300001.out 1) | ((with_reducible refine gate_callee (f := 58) rfl ?_); refine goesL_ (some 14) rfl rfl Try.func58 (by kernel_rfl) rfl #[.agg #[.int .i64 a0_0, .slice A0_1 l0_1.length c0_1]] rfl (by (try simp only [List.map_toArray, List.map_cons, List.map_nil]); first | done | rfl | (simp only [List.length_drop, List.length_take]; rfl)) ?_; (with_reducible refine (spec_l2Copy.calls a0_0 _ _ l0_1 t300004 t300005 _ ?side1 ?side2 A6.out).mono ?_); (case side1 => repeat (first | exact (Kd.C_below HR0_1.out HB.out) | (with_reducible refine Kd.C_alloc ?_ _) | (with_reducible refine Kd.C_drewN ?_ _) | (with_reducible refine Kd.C_drew ?_))); (case side2 => exact HC0_1.out); rintro e w14 ⟨v300006, rfl, ho0, hb⟩; refine ⟨_, rfl, ?_⟩; have n0_ := Aside0.mk (Kd.R_lower ho0 (below_size (by repeat (first | (with_reducible first | exact HB.out | apply below_alloc | apply pw_below_drewN | apply below_drew1 | refine below_set ?_ GE300001.out | refine below_set ?_ GE300002.out) | exact HB.out)))); have n1_ := Aside0.mk (blk_below (g := gb300001) (o := .cells #[.int .i64 a0_0, .slice A0_1 l0_1.length c0_1] 27 (0, 0)) (by (with_reducible repeat (first | refine blk_drewN ?_ _ | refine blk_drew ?_ | refine blk_alloc ?_ _)); exact BK300001.out) hb); have n2_ := Aside0.mk (blk_below (g := gb300002) (o := .cells #[.int .i64 0, .slice none 0 0] 27 (0, 0)) (by (with_reducible repeat (first | refine blk_drewN ?_ _ | refine blk_drew ?_ | refine blk_alloc ?_ _)); exact BK300002.out) hb); have n3_ := Aside0.mk (below_step (by repeat (first | (with_reducible first | exact HB.out | apply below_alloc | apply pw_below_drewN | apply below_drew1 | refine below_set ?_ GE300001.out | refine below_set ?_ GE300002.out) | exact HB.out)) hb); clear BK300001; clear BK300002; clear HB; have HO300007 := n0_; have BK300001 := n1_; have BK300002 := n2_; have HB := n3_; clear n0_ n1_ n2_ n3_; (try clear hb); (try clear hb2); (try clear hk); (try clear hi); (try clear ho0)) | ((with_reducible refine gate_dst (N := 8) rfl ?_); refine box_event ?hg (N := 8) ?hd (cs := #[.int .i64 0, .slice none 0 0]) (t := 27) ?hr ?_; (case hd => rfl); (case hg => rfl); (case hr => first | (go_simp; done) | (go_simp; rfl)); intro gb300008 hg w15 hbox hb; have n0_ := Aside0.mk (Kd.R_below (by (with_reducible repeat (first | apply Kd.R_alloc | apply Kd.R_drewN | apply Kd.R_drew)); exact HO300007.out) hb); have n1_ := Aside0.mk (blk_below (g := gb300001) (o := .cells #[.int .i64 a0_0, .slice A0_1 l0_1.length c0_1] 27 (0, 0)) (by (with_reducible repeat (first | refine blk_drewN ?_ _ | refine blk_drew ?_ | refine blk_alloc ?_ _)); exact BK300001.out) hb); have n2_ := Aside0.mk (blk_below (g := gb300002) (o := .cells #[.int .i64 0, .slice none 0 0] 27 (0, 0)) (by (with_reducible repeat (first | refine blk_drewN ?_ _ | refine blk_drew ?_ | refine blk_alloc ?_ _)); exact BK300002.out) hb); have n3_ := Aside0.mk (below_step (by repeat (first | (with_reducible first | exact HB.out | apply below_alloc | apply pw_below_drewN | apply below_drew1 | refine below_set ?_ GE300001.out | refine below_set ?_ GE300002.out) | exact HB.out)) hb); have n4_ := Aside0.mk (hbox); have n5_ := Aside0.mk ((by rw [hg]; exact (below_size (by repeat (first | (with_reducible first | exact HB.out | apply below_alloc | apply pw_below_drewN | apply below_drew1 | refine below_set ?_ GE300001.out | refine below_set ?_ GE300002.out) | exact HB.out))) : w.heap.size ≤ gb300008)); have n6_ := Aside0.mk ((by rw [hg]; exact (below_size (by repeat (first | (with_reducible first | exact HB.out | apply below_alloc | apply pw_below_drewN | apply below_drew1 | refine below_set ?_ GE300001.out | refine below_set ?_ GE300002.out) | exact HB.out))) : w.heap.size ≤ gb300008)); have n7_ := Aside0.mk ((by rw [hg]; exact Nat.ne_of_lt (blk_lt (g := gb300001) (o := .cells #[.int .i64 a0_0, .slice A0_1 l0_1.length c0_1] 27 (0, 0)) (by (with_reducible repeat (first | refine blk_drewN ?_ _ | refine blk_drew ?_ | refine blk_alloc ?_ _)); exact BK300001.out)) : gb300001 ≠ gb300008)); have n8_ := Aside0.mk ((by rw [hg]; exact Nat.ne_of_gt (blk_lt (g := gb300001) (o := .cells #[.int .i64 a0_0, .slice A0_1 l0_1.length c0_1] 27 (0, 0)) (by (with_reducible repeat (first | refine blk_drewN ?_ _ | refine blk_drew ?_ | refine blk_alloc ?_ _)); exact BK300001.out)) : gb300008 ≠ gb300001)); have n9_ := Aside0.mk ((by rw [hg]; exact Nat.ne_of_lt (blk_lt (g := gb300002) (o := .cells #[.int .i64 0, .slice none 0 0] 27 (0, 0)) (by (with_reducible repeat (first | refine blk_drewN ?_ _ | refine blk_drew ?_ | refine blk_alloc ?_ _)); exact BK300002.out)) : gb300002 ≠ gb300008)); have n10_ := Aside0.mk ((by rw [hg]; exact Nat.ne_of_gt (blk_lt (g := gb300002) (o := .cells #[.int .i64 0, .slice none 0 0] 27 (0, 0)) (by (with_reducible repeat (first | refine blk_drewN ?_ _ | refine blk_drew ?_ | refine blk_alloc ?_ _)); exact BK300002.out)) : gb300008 ≠ gb300002)); clear HO300007; clear BK300001; clear BK300002; clear HB; have HO300007 := n0_; have BK300001 := n1_; have BK300002 := n2_; have HB := n3_; have BK300008 := n4_; have GW300008 := n5_; have GE300008 := n6_; have NB300001_300008 := n7_; have NB300008_300001 := n8_; have NB300002_300008 := n9_; have NB300008_300002 := n10_; clear n0_ n1_ n2_ n3_ n4_ n5_ n6_ n7_ n8_ n9_ n10_; clear hb hbox hg; have hnb16 := NB300008_300001.out; have hnc16 := NB300001_300008.out; have hnb17 := NB300008_300002.out; have hnc17 := NB300002_300008.out; have hcz18_0 : w15.cell? ⟨gb300008, 0, none⟩ = some (.int .i64 0) := (blk_cell BK300008.out 0).trans rfl; have hcz18_1 : w15.cell? ⟨gb300008, 1, none⟩ = some (.slice none 0 0) := (blk_cell BK300008.out 1).trans rfl; have hfz18_0 := blk_frozen BK300008.out 0; have hfz18_1 := blk_frozen BK300008.out 1; obtain ⟨Ao19, co19, eo19⟩ := Kd.R_slice HO300007.out; subst eo19))
    (try simp only [Act.put, List.setIfInBounds_toArray, List.set_cons_zero, List.set_cons_succ])
    go_cut [15] (fun v15 wc => ∃ (kq : Nat) (x15_6 : Bool), v15 = .bool x15_6 ∧ Aside0 (spec_MapMove.j0 kq a1 a2 x15_6 a0_0 l0_1 t300004 t300005 = some (r1, r2, r3)) ∧ Aside0 (kq ≤ k) ∧ Aside0 (Kd.R (Kd.int .i64) 3 wc w.heap.size (fun _ => True) (.slice Ao19 t300005.length co19) t300005) ∧ Aside0 (wc.heap[gb300001]? = some (.cells #[.int .i64 a0_0, (.slice A0_1 l0_1.length c0_1)] 27 (0, 0))) ∧ Aside0 (wc.heap[gb300002]? = some (.cells #[.int .i64 0, (.slice none 0 0)] 27 (0, 0))) ∧ Aside0 (wc.heap[gb300008]? = some (.cells #[.int .i64 t300004, (.slice Ao19 t300005.length co19)] 27 (0, 0))) ∧ Aside0 (Below w.heap.size w wc))
    case first =>
      have H := HC7.out
      clear HC7
      replace H := Option.bind_eq_some_iff.mp H
      obtain ⟨t300009, A200, H⟩ := H
      replace H : (if t300009 = true then ((spec_l6In.f a2 0 2).bind fun t300010 => (spec_MapMove.j0 k a1 a2 (!t300010) a0_0 l0_1 t300004 t300005)) else (spec_MapMove.j0 k a1 a2 true a0_0 l0_1 t300004 t300005)) = some (r1, r2, r3) := H
      have A20 := Aside0.mk A200
      clear A200
      by_cases c21 : t300009 = true
      · subst c21
        have H1 : ((spec_l6In.f a2 0 2).bind fun t300010 => (spec_MapMove.j0 k a1 a2 (!t300010) a0_0 l0_1 t300004 t300005)) = some (r1, r2, r3) := by rw [if_pos rfl] at H; exact H
        clear H
        have H := H1
        clear H1
        replace H := Option.bind_eq_some_iff.mp H
        obtain ⟨t300010, A220, H⟩ := H
        replace H : (spec_MapMove.j0 k a1 a2 (!t300010) a0_0 l0_1 t300004 t300005) = some (r1, r2, r3) := H
        have A22 := Aside0.mk A220
        clear A220
        have H' := Aside0.mk H
        clear H
        go_wp2_with (first | ((with_reducible refine gate_callee (f := 44) rfl ?_); refine goesL_ (some 17) rfl rfl Try.func44 (by kernel_rfl) rfl #[.int .i64 a1, .int .i64 0, .int .i64 7] rfl (by (try simp only [List.map_toArray, List.map_cons, List.map_nil]); first | done | rfl | (simp only [List.length_drop, List.length_take]; rfl)) ?_; (with_reducible refine (spec_l6In.calls a1 0 7 true _ A20.out).mono ?_); rintro e w' ⟨rfl, ⟨nd, rfl⟩⟩; refine ⟨_, rfl, ?_⟩) | (go_at_call 44; (with_reducible refine (spec_l6In.calls a2 0 2 t300010 _ A22.out).mono ?_); rintro e w' ⟨rfl, ⟨nd, rfl⟩⟩))
        go_meet
        case rel => exact ⟨_, (!t300010), (by first | rfl | (simp; done) | (simp [*]; done)), H', ⟨by first | omega | exact Nat.le_refl _⟩, ⟨by (with_reducible repeat (first | apply Kd.R_alloc | apply Kd.R_drewN | apply Kd.R_drew)); exact Kd.R_mono (Kd.R_far (p := ⟨gb300008, 1, none⟩) (Kd.R_far (p := ⟨gb300008, 0, none⟩) (Kd.R_types HO300007.out BK300008.out (by decide)) (fun _ hk => hk.2) (.int .i64 t300004)) (fun _ hk => hk.2) (.slice Ao19 t300005.length co19)) (fun _ hk => trivial)⟩, ⟨by (with_reducible repeat (first | refine blk_drewN ?_ _ | refine blk_drew ?_ | refine blk_alloc ?_ _)); refine blk_far ?_ NB300001_300008.out _; (with_reducible repeat (first | refine blk_drewN ?_ _ | refine blk_drew ?_ | refine blk_alloc ?_ _)); refine blk_far ?_ NB300001_300008.out _; (with_reducible repeat (first | refine blk_drewN ?_ _ | refine blk_drew ?_ | refine blk_alloc ?_ _)); exact BK300001.out⟩, ⟨by (with_reducible repeat (first | refine blk_drewN ?_ _ | refine blk_drew ?_ | refine blk_alloc ?_ _)); refine blk_far ?_ NB300002_300008.out _; (with_reducible repeat (first | refine blk_drewN ?_ _ | refine blk_drew ?_ | refine blk_alloc ?_ _)); refine blk_far ?_ NB300002_300008.out _; (with_reducible repeat (first | refine blk_drewN ?_ _ | refine blk_drew ?_ | refine blk_alloc ?_ _)); exact BK300002.out⟩, ⟨by (with_reducible repeat (first | refine blk_drewN ?_ _ | refine blk_drew ?_ | refine blk_alloc ?_ _)); refine blk_put (cs := #[.int .i64 t300004, .slice none 0 0]) ?_ 1 _ rfl; (with_reducible repeat (first | refine blk_drewN ?_ _ | refine blk_drew ?_ | refine blk_alloc ?_ _)); refine blk_put (cs := #[.int .i64 0, .slice none 0 0]) ?_ 0 _ rfl; (with_reducible repeat (first | refine blk_drewN ?_ _ | refine blk_drew ?_ | refine blk_alloc ?_ _)); exact BK300008.out⟩, ⟨by repeat (first | (with_reducible first | exact HB.out | apply below_alloc | apply pw_below_drewN | apply below_drew1 | refine below_set ?_ GE300001.out | refine below_set ?_ GE300002.out | refine below_set ?_ GE300008.out) | exact HB.out)⟩⟩
      · replace c21 := Bool.eq_false_iff.mpr c21
        subst c21
        have H1 : (spec_MapMove.j0 k a1 a2 true a0_0 l0_1 t300004 t300005) = some (r1, r2, r3) := by rw [if_neg (show ¬ (false = true) by decide)] at H; exact H
        clear H
        have H := H1
        clear H1
        have H' := Aside0.mk H
        clear H
        go_wp2_with (first | ((with_reducible refine gate_callee (f := 44) rfl ?_); refine goesL_ (some 17) rfl rfl Try.func44 (by kernel_rfl) rfl #[.int .i64 a1, .int .i64 0, .int .i64 7] rfl (by (try simp only [List.map_toArray, List.map_cons, List.map_nil]); first | done | rfl | (simp only [List.length_drop, List.length_take]; rfl)) ?_; (with_reducible refine (spec_l6In.calls a1 0 7 false _ A20.out).mono ?_); rintro e w' ⟨rfl, ⟨nd, rfl⟩⟩; refine ⟨_, rfl, ?_⟩))
        go_meet
        case rel => exact ⟨_, (true), (by first | rfl | (simp; done) | (simp [*]; done)), H', ⟨by first | omega | exact Nat.le_refl _⟩, ⟨by (with_reducible repeat (first | apply Kd.R_alloc | apply Kd.R_drewN | apply Kd.R_drew)); exact Kd.R_mono (Kd.R_far (p := ⟨gb300008, 1, none⟩) (Kd.R_far (p := ⟨gb300008, 0, none⟩) (Kd.R_types HO300007.out BK300008.out (by decide)) (fun _ hk => hk.2) (.int .i64 t300004)) (fun _ hk => hk.2) (.slice Ao19 t300005.length co19)) (fun _ hk => trivial)⟩, ⟨by (with_reducible repeat (first | refine blk_drewN ?_ _ | refine blk_drew ?_ | refine blk_alloc ?_ _)); refine blk_far ?_ NB300001_300008.out _; (with_reducible repeat (first | refine blk_drewN ?_ _ | refine blk_drew ?_ | refine blk_alloc ?_ _)); refine blk_far ?_ NB300001_300008.out _; (with_reducible repeat (first | refine blk_drewN ?_ _ | refine blk_drew ?_ | refine blk_alloc ?_ _)); exact BK300001.out⟩, ⟨by (with_reducible repeat (first | refine blk_drewN ?_ _ | refine blk_drew ?_ | refine blk_alloc ?_ _)); refine blk_far ?_ NB300002_300008.out _; (with_reducible repeat (first | refine blk_drewN ?_ _ | refine blk_drew ?_ | refine blk_alloc ?_ _)); refine blk_far ?_ NB300002_300008.out _; (with_reducible repeat (first | refine blk_drewN ?_ _ | refine blk_drew ?_ | refine blk_alloc ?_ _)); exact BK300002.out⟩, ⟨by (with_reducible repeat (first | refine blk_drewN ?_ _ | refine blk_drew ?_ | refine blk_alloc ?_ _)); refine blk_put (cs := #[.int .i64 t300004, .slice none 0 0]) ?_ 1 _ rfl; (with_reducible repeat (first | refine blk_drewN ?_ _ | refine blk_drew ?_ | refine blk_alloc ?_ _)); refine blk_put (cs := #[.int .i64 0, .slice none 0 0]) ?_ 0 _ rfl; (with_reducible repeat (first | refine blk_drewN ?_ _ | refine blk_drew ?_ | refine blk_alloc ?_ _)); exact BK300008.out⟩, ⟨by repeat (first | (with_reducible first | exact HB.out | apply below_alloc | apply pw_below_drewN | apply below_drew1 | refine below_set ?_ GE300001.out | refine below_set ?_ GE300002.out | refine below_set ?_ GE300008.out) | exact HB.out)⟩⟩
    case rest =>
      clear HC7
      try clear c1
      try clear c2
      try clear p2
      try clear c4
      try clear c5
      try clear c10
      try clear c16
      try clear c17
      try clear c21
      try clear hcz11_0
      try clear hcz11_1
      try clear hcz13_0
      try clear hcz13_1
      try clear hcz18_0
      try clear hcz18_1
      try clear hfz11_0
      try clear hfz11_1
      try clear hfz13_0
      try clear hfz13_1
      try clear hfz18_0
      try clear hfz18_1
      obtain ⟨kq, x15_6, rfl, HA, HJ6, HO_300009001, BK300001, BK300002, BK300008, HB⟩ := hcut
      cases kq with
      | zero => exact absurd HA.out (by simp [spec_MapMove.j0])
      | succ kj6 =>
        have H := HA.out
        clear HA
        simp only [spec_MapMove.j0] at H
        by_cases c23 : x15_6 = true
        · subst c23
          have H1 : (some (t300004, t300005, 9)) = some (r1, r2, r3) := by rw [if_pos rfl] at H; exact H
          clear H
          have H := H1
          clear H1
          simp only [Option.some.injEq, Prod.mk.injEq] at H
          obtain ⟨rfl, rfl, rfl⟩ := H
          have hnb24 := NB300008_300001.out
          have hnc24 := NB300001_300008.out
          have hnb25 := NB300008_300002.out
          have hnc25 := NB300002_300008.out
          have hcz26_0 : wc.cell? ⟨gb300008, 0, none⟩ = some (.int .i64 t300004) := (blk_cell BK300008.out 0).trans rfl
          have hcz26_1 : wc.cell? ⟨gb300008, 1, none⟩ = some (.slice Ao19 t300005.length co19) := (blk_cell BK300008.out 1).trans rfl
          have hfz26_0 := blk_frozen BK300008.out 0
          have hfz26_1 := blk_frozen BK300008.out 1
          have hnb27 := NB300002_300001.out
          have hnc27 := NB300001_300002.out
          have hcz28_0 : wc.cell? ⟨gb300002, 0, none⟩ = some (.int .i64 0) := (blk_cell BK300002.out 0).trans rfl
          have hcz28_1 : wc.cell? ⟨gb300002, 1, none⟩ = some (.slice none 0 0) := (blk_cell BK300002.out 1).trans rfl
          have hfz28_0 := blk_frozen BK300002.out 0
          have hfz28_1 := blk_frozen BK300002.out 1
          go_wp2
          refine bodyPost_ret (results_ct rfl _ _ gb300002 27 #[.int .i64 t300004, .slice Ao19 t300005.length co19] (0, 0) _ rfl (by (with_reducible repeat (first | refine blk_drewN ?_ _ | refine blk_drew ?_ | refine blk_alloc ?_ _)); refine blk_put (cs := #[.int .i64 t300004, .slice none 0 0]) ?_ 1 _ rfl; (with_reducible repeat (first | refine blk_drewN ?_ _ | refine blk_drew ?_ | refine blk_alloc ?_ _)); refine blk_put (cs := #[.int .i64 0, .slice none 0 0]) ?_ 0 _ rfl; (with_reducible repeat (first | refine blk_drewN ?_ _ | refine blk_drew ?_ | refine blk_alloc ?_ _)); exact BK300002.out) Try.underlying27 rfl (by kernel_rfl)) rfl ?_
          exact ⟨_, by first | rfl | (simp [errW_none, errW_some] <;> rfl) | (simp [*, errW_none, errW_some] <;> rfl), by (with_reducible repeat (first | apply Kd.R_alloc | apply Kd.R_drewN | apply Kd.R_drew)); exact Kd.R_mono (Kd.R_far (p := ⟨gb300002, 1, none⟩) (Kd.R_far (p := ⟨gb300002, 0, none⟩) (Kd.R_types HO_300009001.out BK300002.out (by decide)) (fun _ hk => hk.2) (.int .i64 t300004)) (fun _ hk => hk.2) (.slice Ao19 t300005.length co19)) (fun _ hk => trivial), by repeat (first | (with_reducible first | exact HB.out | apply below_alloc | apply pw_below_drewN | apply below_drew1 | refine below_set ?_ GE300001.out | refine below_set ?_ GE300002.out | refine below_set ?_ GE300008.out) | exact HB.out)⟩
        · replace c23 := Bool.eq_false_iff.mpr c23
          subst c23
          have H1 : (if a0_0 ≥ 99 then (some (t300004, t300005, 2)) else (if 0 ≤ a1 then (if a1 < (l0_1.length : Int) then (if (rd l0_1 a1) = a2 then (some (t300004, t300005, 3)) else (if a1 < (t300005.length : Int) then (some (wrap64 (a0_0 + 1), (t300005.set (a1 : Int).toNat a2), 0)) else (none))) else (none)) else (none))) = some (r1, r2, r3) := by rw [if_neg (show ¬ (false = true) by decide)] at H; exact H
          clear H
          have H := H1
          clear H1
          by_cases c29 : a0_0 ≥ 99
          · rw [if_pos c29] at H
            have c29b0 : decide (99 ≤ a0_0) = true := decide_eq_true c29
            clear c29
            simp only [Option.some.injEq, Prod.mk.injEq] at H
            obtain ⟨rfl, rfl, rfl⟩ := H
            have hnb30 := NB300001_300002.out
            have hnc30 := NB300002_300001.out
            have hnb31 := NB300001_300008.out
            have hnc31 := NB300008_300001.out
            have hcz32_0 : wc.cell? ⟨gb300001, 0, none⟩ = some (.int .i64 a0_0) := (blk_cell BK300001.out 0).trans rfl
            have hcz32_1 : wc.cell? ⟨gb300001, 1, none⟩ = some (.slice A0_1 l0_1.length c0_1) := (blk_cell BK300001.out 1).trans rfl
            have hfz32_0 := blk_frozen BK300001.out 0
            have hfz32_1 := blk_frozen BK300001.out 1
            have hnb33 := NB300008_300002.out
            have hnc33 := NB300002_300008.out
            have hcz34_0 : wc.cell? ⟨gb300008, 0, none⟩ = some (.int .i64 t300004) := (blk_cell BK300008.out 0).trans rfl
            have hcz34_1 : wc.cell? ⟨gb300008, 1, none⟩ = some (.slice Ao19 t300005.length co19) := (blk_cell BK300008.out 1).trans rfl
            have hfz34_0 := blk_frozen BK300008.out 0
            have hfz34_1 := blk_frozen BK300008.out 1
            have hcz35_0 : wc.cell? ⟨gb300002, 0, none⟩ = some (.int .i64 0) := (blk_cell BK300002.out 0).trans rfl
            have hcz35_1 : wc.cell? ⟨gb300002, 1, none⟩ = some (.slice none 0 0) := (blk_cell BK300002.out 1).trans rfl
            have hfz35_0 := blk_frozen BK300002.out 0
            have hfz35_1 := blk_frozen BK300002.out 1
            go_wp2
            refine bodyPost_ret (results_ct rfl _ _ gb300002 27 #[.int .i64 t300004, .slice Ao19 t300005.length co19] (0, 0) _ rfl (by (with_reducible repeat (first | refine blk_drewN ?_ _ | refine blk_drew ?_ | refine blk_alloc ?_ _)); refine blk_put (cs := #[.int .i64 t300004, .slice none 0 0]) ?_ 1 _ rfl; (with_reducible repeat (first | refine blk_drewN ?_ _ | refine blk_drew ?_ | refine blk_alloc ?_ _)); refine blk_put (cs := #[.int .i64 0, .slice none 0 0]) ?_ 0 _ rfl; (with_reducible repeat (first | refine blk_drewN ?_ _ | refine blk_drew ?_ | refine blk_alloc ?_ _)); exact BK300002.out) Try.underlying27 rfl (by kernel_rfl)) rfl ?_
            exact ⟨_, by first | rfl | (simp [errW_none, errW_some] <;> rfl) | (simp [*, errW_none, errW_some] <;> rfl), by (with_reducible repeat (first | apply Kd.R_alloc | apply Kd.R_drewN | apply Kd.R_drew)); exact Kd.R_mono (Kd.R_far (p := ⟨gb300002, 1, none⟩) (Kd.R_far (p := ⟨gb300002, 0, none⟩) (Kd.R_types HO_300009001.out BK300002.out (by decide)) (fun _ hk => hk.2) (.int .i64 t300004)) (fun _ hk => hk.2) (.slice Ao19 t300005.length co19)) (fun _ hk => trivial), by repeat (first | (with_reducible first | exact HB.out | apply below_alloc | apply pw_below_drewN | apply below_drew1 | refine below_set ?_ GE300001.out | refine below_set ?_ GE300002.out | refine below_set ?_ GE300008.out) | exact HB.out)⟩
          · rw [if_neg c29] at H
            have c29b0 : decide (99 ≤ a0_0) = false := decide_eq_false c29
            clear c29
            by_cases c36 : 0 ≤ a1
            · rw [if_pos c36] at H
              have c36b0 : decide (0 ≤ a1) = true := decide_eq_true c36
              clear c36
              by_cases c37 : a1 < (l0_1.length : Int)
              · rw [if_pos c37] at H
                have c37b0 : decide (a1 < (l0_1.length : Int)) = true := decide_eq_true c37
                clear c37
                by_cases c38 : (rd l0_1 a1) = a2
                · rw [if_pos c38] at H
                  have c38b0 : ((rd l0_1 a1) == a2) = true := beq_iff_eq.mpr c38
                  have c38b1 : ((rd l0_1 a1) != a2) = false := bne_eq_false_iff_eq.mpr c38
                  clear c38
                  simp only [Option.some.injEq, Prod.mk.injEq] at H
                  obtain ⟨rfl, rfl, rfl⟩ := H
                  have hnb39 := NB300001_300002.out
                  have hnc39 := NB300002_300001.out
                  have hnb40 := NB300001_300008.out
                  have hnc40 := NB300008_300001.out
                  have hcz41_0 : wc.cell? ⟨gb300001, 0, none⟩ = some (.int .i64 a0_0) := (blk_cell BK300001.out 0).trans rfl
                  have hcz41_1 : wc.cell? ⟨gb300001, 1, none⟩ = some (.slice A0_1 l0_1.length c0_1) := (blk_cell BK300001.out 1).trans rfl
                  have hfz41_0 := blk_frozen BK300001.out 0
                  have hfz41_1 := blk_frozen BK300001.out 1
                  have p300011 : 0 ≤ (a1 : Int) := of_decide_eq_true (by first | (with_reducible assumption) | assumption)
                  have q300011 : a1 < (l0_1.length : Int) := of_decide_eq_true (by first | (with_reducible assumption) | assumption)
                  obtain ⟨ad300011, e300011, hx300011_0⟩ := Kd.at_int HR0_1.out a1 p300011 q300011
                  cases e300011
                  replace hx300011_0 := (HB.out.cell (World.block_lt_of_cell? w _ hx300011_0)).trans hx300011_0
                  replace p300011 := eq_true p300011
                  replace q300011 := eq_true q300011
                  have hnb42 := NB300008_300002.out
                  have hnc42 := NB300002_300008.out
                  have hcz43_0 : wc.cell? ⟨gb300008, 0, none⟩ = some (.int .i64 t300004) := (blk_cell BK300008.out 0).trans rfl
                  have hcz43_1 : wc.cell? ⟨gb300008, 1, none⟩ = some (.slice Ao19 t300005.length co19) := (blk_cell BK300008.out 1).trans rfl
                  have hfz43_0 := blk_frozen BK300008.out 0
                  have hfz43_1 := blk_frozen BK300008.out 1
                  have hcz44_0 : wc.cell? ⟨gb300002, 0, none⟩ = some (.int .i64 0) := (blk_cell BK300002.out 0).trans rfl
                  have hcz44_1 : wc.cell? ⟨gb300002, 1, none⟩ = some (.slice none 0 0) := (blk_cell BK300002.out 1).trans rfl
                  have hfz44_0 := blk_frozen BK300002.out 0
                  have hfz44_1 := blk_frozen BK300002.out 1
                  go_wp2
                  refine bodyPost_ret (results_ct rfl _ _ gb300002 27 #[.int .i64 t300004, .slice Ao19 t300005.length co19] (0, 0) _ rfl (by (with_reducible repeat (first | refine blk_drewN ?_ _ | refine blk_drew ?_ | refine blk_alloc ?_ _)); refine blk_put (cs := #[.int .i64 t300004, .slice none 0 0]) ?_ 1 _ rfl; (with_reducible repeat (first | refine blk_drewN ?_ _ | refine blk_drew ?_ | refine blk_alloc ?_ _)); refine blk_put (cs := #[.int .i64 0, .slice none 0 0]) ?_ 0 _ rfl; (with_reducible repeat (first | refine blk_drewN ?_ _ | refine blk_drew ?_ | refine blk_alloc ?_ _)); exact BK300002.out) Try.underlying27 rfl (by kernel_rfl)) rfl ?_
                  exact ⟨_, by first | rfl | (simp [errW_none, errW_some] <;> rfl) | (simp [*, errW_none, errW_some] <;> rfl), by (with_reducible repeat (first | apply Kd.R_alloc | apply Kd.R_drewN | apply Kd.R_drew)); exact Kd.R_mono (Kd.R_far (p := ⟨gb300002, 1, none⟩) (Kd.R_far (p := ⟨gb300002, 0, none⟩) (Kd.R_types HO_300009001.out BK300002.out (by decide)) (fun _ hk => hk.2) (.int .i64 t300004)) (fun _ hk => hk.2) (.slice Ao19 t300005.length co19)) (fun _ hk => trivial), by repeat (first | (with_reducible first | exact HB.out | apply below_alloc | apply pw_below_drewN | apply below_drew1 | refine below_set ?_ GE300001.out | refine below_set ?_ GE300002.out | refine below_set ?_ GE300008.out) | exact HB.out)⟩
                · rw [if_neg c38] at H
                  have c38b0 : ((rd l0_1 a1) == a2) = false := beq_eq_false_iff_ne.mpr c38
                  have c38b1 : ((rd l0_1 a1) != a2) = true := bne_iff_ne.mpr c38
                  by_cases c45 : a1 < (t300005.length : Int)
                  · rw [if_pos c45] at H
                    have c45b0 : decide (a1 < (t300005.length : Int)) = true := decide_eq_true c45
                    clear c45
                    obtain ⟨y300012, hy300012⟩ : ∃ y_ : List Int, y_ = (t300005.set (a1 : Int).toNat a2) := ⟨_, rfl⟩
                    replace H : (some (wrap64 (a0_0 + 1), y300012, 0)) = some (r1, r2, r3) := by first | (rw [hy300012]; with_reducible exact H) | (have H2_ := (Option.bind_some _ _).symm.trans H; rw [hy300012]; with_reducible exact H2_) | (have H2_ := (Option.bind_some _ _).symm.trans H; with_reducible exact H2_) | with_reducible exact H | (rw [hy300012]; exact H) | exact H
                    have Ny300012 := Aside0.mk hy300012
                    clear hy300012
                    simp only [Option.some.injEq, Prod.mk.injEq] at H
                    obtain ⟨rfl, rfl, rfl⟩ := H
                    have hnb47 := NB300001_300002.out
                    have hnc47 := NB300002_300001.out
                    have hnb48 := NB300001_300008.out
                    have hnc48 := NB300008_300001.out
                    have hcz49_0 : wc.cell? ⟨gb300001, 0, none⟩ = some (.int .i64 a0_0) := (blk_cell BK300001.out 0).trans rfl
                    have hcz49_1 : wc.cell? ⟨gb300001, 1, none⟩ = some (.slice A0_1 l0_1.length c0_1) := (blk_cell BK300001.out 1).trans rfl
                    have hfz49_0 := blk_frozen BK300001.out 0
                    have hfz49_1 := blk_frozen BK300001.out 1
                    have p300011 : 0 ≤ (a1 : Int) := of_decide_eq_true (by first | (with_reducible assumption) | assumption)
                    have q300011 : a1 < (l0_1.length : Int) := of_decide_eq_true (by first | (with_reducible assumption) | assumption)
                    obtain ⟨ad300011, e300011, hx300011_0⟩ := Kd.at_int HR0_1.out a1 p300011 q300011
                    cases e300011
                    replace hx300011_0 := (HB.out.cell (World.block_lt_of_cell? w _ hx300011_0)).trans hx300011_0
                    replace p300011 := eq_true p300011
                    replace q300011 := eq_true q300011
                    have hnb50 := NB300008_300002.out
                    have hnc50 := NB300002_300008.out
                    have hcz51_0 : wc.cell? ⟨gb300008, 0, none⟩ = some (.int .i64 t300004) := (blk_cell BK300008.out 0).trans rfl
                    have hcz51_1 : wc.cell? ⟨gb300008, 1, none⟩ = some (.slice Ao19 t300005.length co19) := (blk_cell BK300008.out 1).trans rfl
                    have hfz51_0 := blk_frozen BK300008.out 0
                    have hfz51_1 := blk_frozen BK300008.out 1
                    have p46 : 0 ≤ (a1 : Int) := of_decide_eq_true (by first | (with_reducible assumption) | assumption)
                    have q46 : (a1 : Int) < ((t300005.length : Int) : Int) := of_decide_eq_true (by first | (with_reducible assumption) | assumption)
                    obtain ⟨go46, co46, eo46, gb46, gl46, cl46, HG46⟩ := Kd.R_form HO_300009001.out (by omega)
                    (first | cases eo46 | (injection eo46 with ea_ en_ ec_; (first | subst ea_ | (injection ea_ with ea_; subst ea_)); subst ec_; clear en_))
                    have GB46 := Aside0.mk gb46
                    have GG46 := Aside0.mk HG46
                    clear gb46 gl46 HG46
                    obtain ⟨hx46_0, hf46_0⟩ := Kd.R_celln 0 HO_300009001.out (a1 : Int) p46 q46
                    replace p46 := eq_true p46
                    replace q46 := eq_true q46
                    have HP52 := Kd.R_putg HO_300009001.out (a1 : Int) a2
                    go_wp2_with (first | ((with_reducible refine gate_store (t := 3) (p := 43) rfl ?_); refine store_event (t := 3) (p := 43) (v := ?vo_w53) (w1 := (wc.setCell ⟨go46, (a1 : Int).toNat, none⟩ (.int .i64 a2))) ?hg ?ho ?hn ?hr ?_; (case ho => rfl); (case hg => rfl); (case hn => rfl); (case hr => first | (go_simp; done) | (go_simp; rfl)); intro w53 hw; have hg : wc.grownBy w53 (some go46) := (by rw [hw]; exact HP52.2); have hp_ : Kd.R (Kd.int .i64) 3 w53 w.heap.size (fun _ => True) (.slice (some ⟨go46, 0, none⟩) t300005.length co19) y300012 := (by rw [hw, Ny300012.out]; exact HP52.1); clear HP52; have n0_ := Aside0.mk (hp_); have n1_ := Aside0.mk (blk_grown (g := gb300001) (o := .cells #[.int .i64 a0_0, .slice (some ad300011) l0_1.length c0_1] 27 (0, 0)) (by (with_reducible repeat (first | refine blk_drewN ?_ _ | refine blk_drew ?_ | refine blk_alloc ?_ _)); exact BK300001.out) hg (Kd.R_ne HO_300009001.out BK300001.out (by decide))); have n2_ := Aside0.mk (blk_grown (g := gb300002) (o := .cells #[.int .i64 0, .slice none 0 0] 27 (0, 0)) (by (with_reducible repeat (first | refine blk_drewN ?_ _ | refine blk_drew ?_ | refine blk_alloc ?_ _)); exact BK300002.out) hg (Kd.R_ne HO_300009001.out BK300002.out (by decide))); have n3_ := Aside0.mk (blk_grown (g := gb300008) (o := .cells #[.int .i64 t300004, .slice (some ⟨go46, 0, none⟩) t300005.length co19] 27 (0, 0)) (by (with_reducible repeat (first | refine blk_drewN ?_ _ | refine blk_drew ?_ | refine blk_alloc ?_ _)); exact BK300008.out) hg (Kd.R_ne HO_300009001.out BK300008.out (by decide))); have n4_ := Aside0.mk ((by rw [hw]; exact below_set (HB.out) GB46.out : Below w.heap.size w w53)); clear HO_300009001; clear BK300001; clear BK300002; clear BK300008; clear HB; have HO_300009001 := n0_; have BK300001 := n1_; have BK300002 := n2_; have BK300008 := n3_; have HB := n4_; clear n0_ n1_ n2_ n3_ n4_; clear hg hw hp_; have hcz54_0 : w53.cell? ⟨gb300001, 0, none⟩ = some (.int .i64 a0_0) := (blk_cell BK300001.out 0).trans rfl; have hcz54_1 : w53.cell? ⟨gb300001, 1, none⟩ = some (.slice (some ad300011) l0_1.length c0_1) := (blk_cell BK300001.out 1).trans rfl; have hfz54_0 := blk_frozen BK300001.out 0; have hfz54_1 := blk_frozen BK300001.out 1; have hcz55_0 : w53.cell? ⟨gb300008, 0, none⟩ = some (.int .i64 t300004) := (blk_cell BK300008.out 0).trans rfl; have hcz55_1 : w53.cell? ⟨gb300008, 1, none⟩ = some (.slice (some ⟨go46, 0, none⟩) t300005.length co19) := (blk_cell BK300008.out 1).trans rfl; have hfz55_0 := blk_frozen BK300008.out 0; have hfz55_1 := blk_frozen BK300008.out 1; have hcz56_0 : w53.cell? ⟨gb300002, 0, none⟩ = some (.int .i64 0) := (blk_cell BK300002.out 0).trans rfl; have hcz56_1 : w53.cell? ⟨gb300002, 1, none⟩ = some (.slice none 0 0) := (blk_cell BK300002.out 1).trans rfl; have hfz56_0 := blk_frozen BK300002.out 0; have hfz56_1 := blk_frozen BK300002.out 1))
                    refine bodyPost_ret (results_ct rfl _ _ gb300002 27 #[.int .i64 (wrap64 (a0_0 + 1)), .slice (some ⟨go46, 0, none⟩) t300005.length co19] (0, 0) _ rfl (by (with_reducible repeat (first | refine blk_drewN ?_ _ | refine blk_drew ?_ | refine blk_alloc ?_ _)); refine blk_put (cs := #[.int .i64 (wrap64 (a0_0 + 1)), .slice none 0 0]) ?_ 1 _ rfl; (with_reducible repeat (first | refine blk_drewN ?_ _ | refine blk_drew ?_ | refine blk_alloc ?_ _)); refine blk_put (cs := #[.int .i64 0, .slice none 0 0]) ?_ 0 _ rfl; (with_reducible repeat (first | refine blk_drewN ?_ _ | refine blk_drew ?_ | refine blk_alloc ?_ _)); refine blk_far ?_ NB300002_300008.out _; (with_reducible repeat (first | refine blk_drewN ?_ _ | refine blk_drew ?_ | refine blk_alloc ?_ _)); exact BK300002.out) Try.underlying27 rfl (by kernel_rfl)) rfl ?_
                    exact ⟨_, by first | rfl | (simp [errW_none, errW_some] <;> rfl) | (simp [*, errW_none, errW_some] <;> rfl), by (with_reducible repeat (first | apply Kd.R_alloc | apply Kd.R_drewN | apply Kd.R_drew)); exact Kd.R_mono (Kd.R_far (p := ⟨gb300002, 1, none⟩) (Kd.R_far (p := ⟨gb300002, 0, none⟩) (Kd.R_far (p := ⟨gb300008, 0, none⟩) (Kd.R_types (Kd.R_types HO_300009001.out BK300008.out (by decide)) BK300002.out (by decide)) (fun _ hk => hk.1.2) (.int .i64 (wrap64 (a0_0 + 1)))) (fun _ hk => hk.2) (.int .i64 (wrap64 (a0_0 + 1)))) (fun _ hk => hk.2) (.slice (some ⟨go46, 0, none⟩) t300005.length co19)) (fun _ hk => trivial), by repeat (first | (with_reducible first | exact HB.out | apply below_alloc | apply pw_below_drewN | apply below_drew1 | refine below_set ?_ GE300001.out | refine below_set ?_ GE300002.out | refine below_set ?_ GE300008.out) | exact HB.out)⟩
                  · rw [if_neg c45] at H
                    exact absurd H (by simp)
              · rw [if_neg c37] at H
                exact absurd H (by simp)
            · rw [if_neg c36] at H
              exact absurd H (by simp)
  · replace c5 := Bool.eq_false_iff.mpr c5
    subst c5
    have H1 : (some (0, ([] : List Int), 9)) = some (r1, r2, r3) := by rw [if_neg (show ¬ (false = true) by decide)] at H; exact H
    clear H
    have H := H1
    clear H1
    simp only [Option.some.injEq, Prod.mk.injEq] at H
    obtain ⟨rfl, rfl, rfl⟩ := H
    go_enter Try.func29, Try.ntmps29
    go_wp2_with (first | ((with_reducible refine gate_dst (N := 3) rfl ?_); refine box_event ?hg (N := 3) ?hd (cs := #[.int .i64 a0_0, .slice A0_1 l0_1.length c0_1]) (t := 27) ?hr ?_; (case hd => rfl); (case hg => rfl); (case hr => first | (go_simp; done) | (go_simp; rfl)); intro gb300001 hg w57 hbox hb; have n0_ := Aside0.mk (below_step (by repeat (first | (with_reducible first | exact HB.out | apply below_alloc | apply pw_below_drewN | apply below_drew1) | exact HB.out)) hb); have n1_ := Aside0.mk (hbox); have n2_ := Aside0.mk ((by rw [hg]; exact (below_size (by repeat (first | (with_reducible first | exact HB.out | apply below_alloc | apply pw_below_drewN | apply below_drew1) | exact HB.out))) : w.heap.size ≤ gb300001)); have n3_ := Aside0.mk ((by rw [hg]; exact (below_size (by repeat (first | (with_reducible first | exact HB.out | apply below_alloc | apply pw_below_drewN | apply below_drew1) | exact HB.out))) : w.heap.size ≤ gb300001)); clear HB; have HB := n0_; have BK300001 := n1_; have GW300001 := n2_; have GE300001 := n3_; clear n0_ n1_ n2_ n3_; clear hb hbox hg) | ((with_reducible refine gate_dst (N := 6) rfl ?_); refine box_event ?hg (N := 6) ?hd (cs := #[.int .i64 0, .slice none 0 0]) (t := 27) ?hr ?_; (case hd => rfl); (case hg => rfl); (case hr => first | (go_simp; done) | (go_simp; rfl)); intro gb300002 hg w58 hbox hb; have n0_ := Aside0.mk (blk_below (g := gb300001) (o := .cells #[.int .i64 a0_0, .slice A0_1 l0_1.length c0_1] 27 (0, 0)) (by (with_reducible repeat (first | refine blk_drewN ?_ _ | refine blk_drew ?_ | refine blk_alloc ?_ _)); exact BK300001.out) hb); have n1_ := Aside0.mk (below_step (by repeat (first | (with_reducible first | exact HB.out | apply below_alloc | apply pw_below_drewN | apply below_drew1 | refine below_set ?_ GE300001.out) | exact HB.out)) hb); have n2_ := Aside0.mk (hbox); have n3_ := Aside0.mk ((by rw [hg]; exact (below_size (by repeat (first | (with_reducible first | exact HB.out | apply below_alloc | apply pw_below_drewN | apply below_drew1 | refine below_set ?_ GE300001.out) | exact HB.out))) : w.heap.size ≤ gb300002)); have n4_ := Aside0.mk ((by rw [hg]; exact (below_size (by repeat (first | (with_reducible first | exact HB.out | apply below_alloc | apply pw_below_drewN | apply below_drew1 | refine below_set ?_ GE300001.out) | exact HB.out))) : w.heap.size ≤ gb300002)); have n5_ := Aside0.mk ((by rw [hg]; exact Nat.ne_of_lt (blk_lt (g := gb300001) (o := .cells #[.int .i64 a0_0, .slice A0_1 l0_1.length c0_1] 27 (0, 0)) (by (with_reducible repeat (first | refine blk_drewN ?_ _ | refine blk_drew ?_ | refine blk_alloc ?_ _)); exact BK300001.out)) : gb300001 ≠ gb300002)); have n6_ := Aside0.mk ((by rw [hg]; exact Nat.ne_of_gt (blk_lt (g := gb300001) (o := .cells #[.int .i64 a0_0, .slice A0_1 l0_1.length c0_1] 27 (0, 0)) (by (with_reducible repeat (first | refine blk_drewN ?_ _ | refine blk_drew ?_ | refine blk_alloc ?_ _)); exact BK300001.out)) : gb300002 ≠ gb300001)); clear BK300001; clear HB; have BK300001 := n0_; have HB := n1_; have BK300002 := n2_; have GW300002 := n3_; have GE300002 := n4_; have NB300001_300002 := n5_; have NB300002_300001 := n6_; clear n0_ n1_ n2_ n3_ n4_ n5_ n6_; clear hb hbox hg; have hnb59 := NB300001_300002.out; have hnc59 := NB300002_300001.out; have hcz60_0 : w58.cell? ⟨gb300001, 0, none⟩ = some (.int .i64 a0_0) := (blk_cell BK300001.out 0).trans rfl; have hcz60_1 : w58.cell? ⟨gb300001, 1, none⟩ = some (.slice A0_1 l0_1.length c0_1) := (blk_cell BK300001.out 1).trans rfl; have hfz60_0 := blk_frozen BK300001.out 0; have hfz60_1 := blk_frozen BK300001.out 1) | ((with_reducible refine gate_callee (f := 23) rfl ?_); refine goesL_ (some 10) rfl rfl Try.func23 (by kernel_rfl) rfl #[.agg #[.int .i64 a0_0, .slice A0_1 l0_1.length c0_1]] rfl (by (try simp only [List.map_toArray, List.map_cons, List.map_nil]); first | done | rfl | (simp only [List.length_drop, List.length_take]; rfl)) ?_; (with_reducible refine (spec_MapOk.calls k a0_0 _ _ l0_1 false _ ?side1 ?side2 A4.out).mono ?_); (case side1 => repeat (first | exact (Kd.C_below HR0_1.out HB.out) | (with_reducible refine Kd.C_alloc ?_ _) | (with_reducible refine Kd.C_drewN ?_ _) | (with_reducible refine Kd.C_drew ?_))); (case side2 => exact HC0_1.out); rintro e w61 ⟨rfl, hb⟩; refine ⟨_, rfl, ?_⟩; have n0_ := Aside0.mk (blk_below (g := gb300001) (o := .cells #[.int .i64 a0_0, .slice A0_1 l0_1.length c0_1] 27 (0, 0)) (by (with_reducible repeat (first | refine blk_drewN ?_ _ | refine blk_drew ?_ | refine blk_alloc ?_ _)); exact BK300001.out) hb); have n1_ := Aside0.mk (blk_below (g := gb300002) (o := .cells #[.int .i64 0, .slice none 0 0] 27 (0, 0)) (by (with_reducible repeat (first | refine blk_drewN ?_ _ | refine blk_drew ?_ | refine blk_alloc ?_ _)); exact BK300002.out) hb); have n2_ := Aside0.mk (below_step (by repeat (first | (with_reducible first | exact HB.out | apply below_alloc | apply pw_below_drewN | apply below_drew1 | refine below_set ?_ GE300001.out | refine below_set ?_ GE300002.out) | exact HB.out)) hb); clear BK300001; clear BK300002; clear HB; have BK300001 := n0_; have BK300002 := n1_; have HB := n2_; clear n0_ n1_ n2_; (try clear hb); (try clear hb2); (try clear hk); (try clear hi); have hcz62_0 : w61.cell? ⟨gb300002, 0, none⟩ = some (.int .i64 0) := (blk_cell BK300002.out 0).trans rfl; have hcz62_1 : w61.cell? ⟨gb300002, 1, none⟩ = some (.slice none 0 0) := (blk_cell BK300002.out 1).trans rfl; have hfz62_0 := blk_frozen BK300002.out 0; have hfz62_1 := blk_frozen BK300002.out 1))
    refine bodyPost_ret (results_ct rfl _ _ gb300002 27 #[.int .i64 0, .slice none 0 0] (0, 0) _ rfl (by (with_reducible repeat (first | refine blk_drewN ?_ _ | refine blk_drew ?_ | refine blk_alloc ?_ _)); refine blk_put (cs := #[.int .i64 0, .slice none 0 0]) ?_ 1 _ rfl; (with_reducible repeat (first | refine blk_drewN ?_ _ | refine blk_drew ?_ | refine blk_alloc ?_ _)); refine blk_put (cs := #[.int .i64 0, .slice none 0 0]) ?_ 0 _ rfl; (with_reducible repeat (first | refine blk_drewN ?_ _ | refine blk_drew ?_ | refine blk_alloc ?_ _)); exact BK300002.out) Try.underlying27 rfl (by kernel_rfl)) rfl ?_
    exact ⟨_, by first | rfl | (simp [errW_none, errW_some] <;> rfl) | (simp [*, errW_none, errW_some] <;> rfl), by first | exact Kd.R_nil _ _ _ _ _ | exact Kd.N_nil _ _ _ _ _ | exact Kd.V_nil _ _ _ _ _ | exact Kd.Q_nil _ _ _ _ _ | exact Kd.S_nil _ _ _ _ _, by repeat (first | (with_reducible first | exact HB.out | apply below_alloc | apply pw_below_drewN | apply below_drew1 | refine below_set ?_ GE300001.out | refine below_set ?_ GE300002.out) | exact HB.out)⟩

end Go.Proofs.Ytnpmepaiigbhlaa.PX
