import Derived.Test.YtjldpnhlegbjkaaPYx0
import Derived.Test.YtjldpnhlegbjkaaPYx2
import Derived.Test.YtjldpnhlegbjkaaPYx3
import Derived.Test.YtjldpnhlegbjkaaPYx4
import Derived.Test.YtjldpnhlegbjkaaPYx5
import Derived.Test.YtjldpnhlegbjkaaPYx10
import Derived.Test.YtjldpnhlegbjkaaPYx12
namespace Go.Proofs.Ytjldpnhlegbjkaa.PY
open Go.RowKit Go.Proofs.YtjldpnhlegbjkaaW.PrintWords Go.Proofs.YtjldpnhlegbjkaaW.PrintLast Go.Proofs.YtjldpnhlegbjkaaW.PrintMore
attribute [local go_sem] max2_int min2_int max_two min_two max_three min_three max_four min_four
set_option linter.unusedVariables false
set_option linter.unusedSimpArgs false

def laws_FnExactLockOk.f (k : Nat) (a0_0 : Int) (l0_1 : List (S42)) (l0_2 : List (S42)) : Option (Bool) := (laws_szLock.f a0_0 l0_1 l0_2 1048576).bind fun t40002 => (if t40002 < 0 then (some true) else ((laws_toLock.f k a0_0 l0_1 l0_2).bind fun bt40003 => ((spec_LockOk.f k bt40003.1 bt40003.2.1 bt40003.2.2).bind fun t40010 => ((laws_toLock.f k a0_0 l0_1 l0_2).bind fun bt40011 => ((impl_LockOk.f bt40011.1 bt40011.2.1 bt40011.2.2).bind fun t40019 => (if (t40019 != t40010) = true then (some false) else ((laws_toLock.f k a0_0 l0_1 l0_2).bind fun bt40020 => ((laws_eqLock.f k bt40011.1 bt40011.2.1 bt40011.2.2 bt40020.1 bt40020.2.1 bt40020.2.2).bind fun t40027 => (if t40027 = true then (some true) else (some false))))))))))
theorem laws_FnExactLockOk.mono : ∀ a0 a1 a2 k, LeO (laws_FnExactLockOk.f k a0 a1 a2) (laws_FnExactLockOk.f (k + 1) a0 a1 a2) := by
 intro a0 a1 a2 k
 unfold laws_FnExactLockOk.f
 repeat' first
  | (with_reducible exact laws_eqLock.mono _ _ _ _ _ _ _)
  | (with_reducible exact laws_toLock.mono _ _ _ _)
  | (with_reducible exact spec_LockOk.mono _ _ _ _)
  | (with_reducible exact LeO.refl _)
  | (with_reducible exact LeO.none _)
  | (with_reducible refine LeO.ite ?_ ?_)
  | (with_reducible refine LeO.bind ?_ (fun _ => ?_))
  | exact laws_eqLock.mono _ _ _ _ _ _ _
  | exact laws_toLock.mono _ _ _ _
  | exact spec_LockOk.mono _ _ _ _
  | exact LeO.none _
  | refine LeO.ite ?_ ?_
  | refine LeO.bind ?_ (fun _ => ?_)
set_option maxHeartbeats 8000000 in
set_option maxRecDepth 100000 in
theorem laws_FnExactLockOk.calls (k : Nat) (a0_0 : Int) (A0_1 : Option Addr) (c0_1 : Nat) (l0_1 : List (S42)) (A0_2 : Option Addr) (c0_2 : Nat) (l0_2 : List (S42)) (r : Bool) (w : World) (hr0_1 : Kd.C k42 w A0_1 l0_1.length l0_1) (hc0_1 : l0_1.length ≤ c0_1) (hr0_2 : Kd.C k42 w A0_2 l0_2.length l0_2) (hc0_2 : l0_2.length ≤ c0_2) (hr_ : r = true) (h : laws_FnExactLockOk.f k a0_0 l0_1 l0_2 = some r) :
 Calls Try.prog 3 #[.agg #[.int .i64 a0_0, .slice A0_1 l0_1.length c0_1, .slice A0_2 l0_2.length c0_2]] w fun e w' => e = .returned (.bool r) ∧ Below w.heap.size w w' := by
 subst hr_
 have hu24 := Try.underlying24
 have hu29 := Try.underlying29
 have HR0_1 := Aside0.mk hr0_1
 have HC0_1 := Aside0.mk hc0_1
 clear hr0_1 hc0_1
 have HR0_2 := Aside0.mk hr0_2
 have HC0_2 := Aside0.mk hc0_2
 clear hr0_2 hc0_2
 have HB := Aside0.mk (Below.refl w.heap.size w)
 have H : ((laws_szLock.f a0_0 l0_1 l0_2 1048576).bind fun t40002 => (if t40002 < 0 then (some true) else ((laws_toLock.f k a0_0 l0_1 l0_2).bind fun bt40003 => ((spec_LockOk.f k bt40003.1 bt40003.2.1 bt40003.2.2).bind fun t40010 => ((laws_toLock.f k a0_0 l0_1 l0_2).bind fun bt40011 => ((impl_LockOk.f bt40011.1 bt40011.2.1 bt40011.2.2).bind fun t40019 => (if (t40019 != t40010) = true then (some false) else ((laws_toLock.f k a0_0 l0_1 l0_2).bind fun bt40020 => ((laws_eqLock.f k bt40011.1 bt40011.2.1 bt40011.2.2 bt40020.1 bt40020.2.1 bt40020.2.2).bind fun t40027 => (if t40027 = true then (some true) else (some false))))))))))) = some true := h
 clear h
 replace H := Option.bind_eq_some_iff.mp H
 obtain ⟨t40002, A20, H⟩ := H
 replace H : (if t40002 < 0 then (some true) else ((laws_toLock.f k a0_0 l0_1 l0_2).bind fun bt40003 => ((spec_LockOk.f k bt40003.1 bt40003.2.1 bt40003.2.2).bind fun t40010 => ((laws_toLock.f k a0_0 l0_1 l0_2).bind fun bt40011 => ((impl_LockOk.f bt40011.1 bt40011.2.1 bt40011.2.2).bind fun t40019 => (if (t40019 != t40010) = true then (some false) else ((laws_toLock.f k a0_0 l0_1 l0_2).bind fun bt40020 => ((laws_eqLock.f k bt40011.1 bt40011.2.1 bt40011.2.2 bt40020.1 bt40020.2.1 bt40020.2.2).bind fun t40027 => (if t40027 = true then (some true) else (some false)))))))))) = some true := H
 have A2 := Aside0.mk A20
 clear A20
 by_cases c3 : t40002 < 0
 ·rw [if_pos c3] at H
  have c3b0 : decide (t40002 < 0) = true := decide_eq_true c3
  clear c3
  clear H
  go_enter Try.func3, Try.ntmps3
  go_wp2_with (first | ((with_reducible refine gate_dst (N := 1) rfl ?_); refine box_event ?hg (N := 1) ?hd (cs := #[.int .i64 a0_0, .slice A0_1 l0_1.length c0_1, .slice A0_2 l0_2.length c0_2]) (t := 24) ?hr ?_; (case hd => rfl); (case hg => rfl); (case hr => first | (go_simp; done) | (go_simp; rfl)); intro gb40001 hg w4 hbox hb; have n0_ := Aside0.mk (below_step (by repeat (first | (with_reducible first | exact HB.out | apply below_alloc | apply pw_below_drewN | apply below_drew1) | exact HB.out)) hb); have n1_ := Aside0.mk (hbox); have n2_ := Aside0.mk ((by rw [hg]; exact (below_size (by repeat (first | (with_reducible first | exact HB.out | apply below_alloc | apply pw_below_drewN | apply below_drew1) | exact HB.out))) : w.heap.size ≤ gb40001)); have n3_ := Aside0.mk ((by rw [hg]; exact (below_size (by repeat (first | (with_reducible first | exact HB.out | apply below_alloc | apply pw_below_drewN | apply below_drew1) | exact HB.out))) : w.heap.size ≤ gb40001)); clear HB; have HB := n0_; have BK40001 := n1_; have GW40001 := n2_; have GE40001 := n3_; clear n0_ n1_ n2_ n3_; clear hb hbox hg; have hcz5_0 : w4.cell? ⟨gb40001, 0, none⟩ = some (.int .i64 a0_0) := (blk_cell BK40001.out 0).trans rfl; have hcz5_1 : w4.cell? ⟨gb40001, 1, none⟩ = some (.slice A0_1 l0_1.length c0_1) := (blk_cell BK40001.out 1).trans rfl; have hcz5_2 : w4.cell? ⟨gb40001, 2, none⟩ = some (.slice A0_2 l0_2.length c0_2) := (blk_cell BK40001.out 2).trans rfl; have hfz5_0 := blk_frozen BK40001.out 0; have hfz5_1 := blk_frozen BK40001.out 1; have hfz5_2 := blk_frozen BK40001.out 2) | ((with_reducible refine gate_callee (f := 15) rfl ?_); refine goesL_ (some 9) rfl rfl Try.func15 (by kernel_rfl) rfl #[.agg #[.int .i64 a0_0, .slice A0_1 l0_1.length c0_1, .slice A0_2 l0_2.length c0_2], .int .i64 1048576] rfl (by (try simp only [List.map_toArray, List.map_cons, List.map_nil]); first | done | rfl | (simp only [List.length_drop, List.length_take]; rfl)) ?_; (with_reducible refine (laws_szLock.calls a0_0 _ _ l0_1 _ _ l0_2 1048576 t40002 _ ?side1 ?side2 ?side3 ?side4 A2.out).mono ?_); (case side1 => repeat (first | exact (Kd.C_below HR0_1.out HB.out) | (with_reducible refine Kd.C_alloc ?_ _) | (with_reducible refine Kd.C_drewN ?_ _) | (with_reducible refine Kd.C_drew ?_))); (case side2 => exact HC0_1.out); (case side3 => repeat (first | exact (Kd.C_below HR0_2.out HB.out) | (with_reducible refine Kd.C_alloc ?_ _) | (with_reducible refine Kd.C_drewN ?_ _) | (with_reducible refine Kd.C_drew ?_))); (case side4 => exact HC0_2.out); rintro e w6 ⟨rfl, hb⟩; refine ⟨_, rfl, ?_⟩; have n0_ := Aside0.mk (blk_below (g := gb40001) (o := .cells #[.int .i64 a0_0, .slice A0_1 l0_1.length c0_1, .slice A0_2 l0_2.length c0_2] 24 (0, 0)) (by (with_reducible repeat (first | refine blk_drewN ?_ _ | refine blk_drew ?_ | refine blk_alloc ?_ _)); exact BK40001.out) hb); have n1_ := Aside0.mk (below_step (by repeat (first | (with_reducible first | exact HB.out | apply below_alloc | apply pw_below_drewN | apply below_drew1 | refine below_set ?_ GE40001.out) | exact HB.out)) hb); clear BK40001; clear HB; have BK40001 := n0_; have HB := n1_; clear n0_ n1_; (try clear hb); (try clear hb2); (try clear hk); (try clear hi)))
  go_ret
  exact ⟨by first | rfl | (simp [errW_none, errW_some] <;> rfl) | (simp [*, errW_none, errW_some] <;> rfl), by repeat (first | (with_reducible first | exact HB.out | apply below_alloc | apply pw_below_drewN | apply below_drew1 | refine below_set ?_ GE40001.out) | exact HB.out)⟩
 ·rw [if_neg c3] at H
  have c3b0 : decide (t40002 < 0) = false := decide_eq_false c3
  clear c3
  replace H := Option.bind_eq_some_iff.mp H
  obtain ⟨⟨t40003, t40004, t40007⟩, A70, H⟩ := H
  replace H : ((spec_LockOk.f k t40003 t40004 t40007).bind fun t40010 => ((laws_toLock.f k a0_0 l0_1 l0_2).bind fun bt40011 => ((impl_LockOk.f bt40011.1 bt40011.2.1 bt40011.2.2).bind fun t40019 => (if (t40019 != t40010) = true then (some false) else ((laws_toLock.f k a0_0 l0_1 l0_2).bind fun bt40020 => ((laws_eqLock.f k bt40011.1 bt40011.2.1 bt40011.2.2 bt40020.1 bt40020.2.1 bt40020.2.2).bind fun t40027 => (if t40027 = true then (some true) else (some false)))))))) = some true := H
  have A7 := Aside0.mk A70
  clear A70
  replace H := Option.bind_eq_some_iff.mp H
  obtain ⟨t40010, A80, H⟩ := H
  replace H : ((laws_toLock.f k a0_0 l0_1 l0_2).bind fun bt40011 => ((impl_LockOk.f bt40011.1 bt40011.2.1 bt40011.2.2).bind fun t40019 => (if (t40019 != t40010) = true then (some false) else ((laws_toLock.f k a0_0 l0_1 l0_2).bind fun bt40020 => ((laws_eqLock.f k bt40011.1 bt40011.2.1 bt40011.2.2 bt40020.1 bt40020.2.1 bt40020.2.2).bind fun t40027 => (if t40027 = true then (some true) else (some false))))))) = some true := H
  have A8 := Aside0.mk A80
  clear A80
  replace H := Option.bind_eq_some_iff.mp H
  obtain ⟨⟨t40011, t40012, t40015⟩, A90, H⟩ := H
  replace H : ((impl_LockOk.f t40011 t40012 t40015).bind fun t40019 => (if (t40019 != t40010) = true then (some false) else ((laws_toLock.f k a0_0 l0_1 l0_2).bind fun bt40020 => ((laws_eqLock.f k t40011 t40012 t40015 bt40020.1 bt40020.2.1 bt40020.2.2).bind fun t40027 => (if t40027 = true then (some true) else (some false)))))) = some true := H
  have A9 := Aside0.mk A90
  clear A90
  replace H := Option.bind_eq_some_iff.mp H
  obtain ⟨t40019, A100, H⟩ := H
  replace H : (if (t40019 != t40010) = true then (some false) else ((laws_toLock.f k a0_0 l0_1 l0_2).bind fun bt40020 => ((laws_eqLock.f k t40011 t40012 t40015 bt40020.1 bt40020.2.1 bt40020.2.2).bind fun t40027 => (if t40027 = true then (some true) else (some false))))) = some true := H
  have A10 := Aside0.mk A100
  clear A100
  by_cases c11 : (t40019 != t40010) = true
  ·rw [if_pos c11] at H
   have c11b0 : (t40019 != t40010) = true := c11
   (try (have c11b1 : decide (t40019 = t40010) = false := by simpa using c11))
   (try (have c11b2 : (t40019 == t40010) = false := by simpa using c11))
   (try (have c11b3 : ¬ (t40019 = t40010) := by simpa using c11))
   clear c11
   exact absurd H (by decide)
  ·rw [if_neg c11] at H
   have c11b0 : (t40019 != t40010) = false := by simpa using c11
   (try (have c11b1 : decide (t40019 = t40010) = true := by simpa using c11))
   (try (have c11b2 : (t40019 == t40010) = true := by simpa using c11))
   clear c11
   replace H := Option.bind_eq_some_iff.mp H
   obtain ⟨⟨t40020, t40021, t40024⟩, A280, H⟩ := H
   replace H : ((laws_eqLock.f k t40011 t40012 t40015 t40020 t40021 t40024).bind fun t40027 => (if t40027 = true then (some true) else (some false))) = some true := H
   have A28 := Aside0.mk A280
   clear A280
   replace H := Option.bind_eq_some_iff.mp H
   obtain ⟨t40027, A290, H⟩ := H
   replace H : (if t40027 = true then (some true) else (some false)) = some true := H
   have A29 := Aside0.mk A290
   clear A290
   by_cases c30 : t40027 = true
   ·subst c30
    have H1 : (some true) = some true := rfl
    clear H
    have H := H1
    clear H1
    clear H
    go_enter Try.func3, Try.ntmps3
    try go_wp2_with (first | ((with_reducible refine gate_dst (N := 1) rfl ?_); refine box_event ?hg (N := 1) ?hd (cs := #[.int .i64 a0_0, .slice A0_1 l0_1.length c0_1, .slice A0_2 l0_2.length c0_2]) (t := 24) ?hr ?_; (case hd => rfl); (case hg => rfl); (case hr => first | (go_simp; done) | (go_simp; rfl)); intro gb40001 hg w31 hbox hb; have n0_ := Aside0.mk (below_step (by repeat (first | (with_reducible first | exact HB.out | apply below_alloc | apply pw_below_drewN | apply below_drew1) | exact HB.out)) hb); have n1_ := Aside0.mk (hbox); have n2_ := Aside0.mk ((by rw [hg]; exact (below_size (by repeat (first | (with_reducible first | exact HB.out | apply below_alloc | apply pw_below_drewN | apply below_drew1) | exact HB.out))) : w.heap.size ≤ gb40001)); have n3_ := Aside0.mk ((by rw [hg]; exact (below_size (by repeat (first | (with_reducible first | exact HB.out | apply below_alloc | apply pw_below_drewN | apply below_drew1) | exact HB.out))) : w.heap.size ≤ gb40001)); clear HB; have HB := n0_; have BK40001 := n1_; have GW40001 := n2_; have GE40001 := n3_; clear n0_ n1_ n2_ n3_; clear hb hbox hg; have hcz32_0 : w31.cell? ⟨gb40001, 0, none⟩ = some (.int .i64 a0_0) := (blk_cell BK40001.out 0).trans rfl; have hcz32_1 : w31.cell? ⟨gb40001, 1, none⟩ = some (.slice A0_1 l0_1.length c0_1) := (blk_cell BK40001.out 1).trans rfl; have hcz32_2 : w31.cell? ⟨gb40001, 2, none⟩ = some (.slice A0_2 l0_2.length c0_2) := (blk_cell BK40001.out 2).trans rfl; have hfz32_0 := blk_frozen BK40001.out 0; have hfz32_1 := blk_frozen BK40001.out 1; have hfz32_2 := blk_frozen BK40001.out 2) | ((with_reducible refine gate_callee (f := 15) rfl ?_); refine goesL_ (some 9) rfl rfl Try.func15 (by kernel_rfl) rfl #[.agg #[.int .i64 a0_0, .slice A0_1 l0_1.length c0_1, .slice A0_2 l0_2.length c0_2], .int .i64 1048576] rfl (by (try simp only [List.map_toArray, List.map_cons, List.map_nil]); first | done | rfl | (simp only [List.length_drop, List.length_take]; rfl)) ?_; (with_reducible refine (laws_szLock.calls a0_0 _ _ l0_1 _ _ l0_2 1048576 t40002 _ ?side1 ?side2 ?side3 ?side4 A2.out).mono ?_); (case side1 => repeat (first | exact (Kd.C_below HR0_1.out HB.out) | (with_reducible refine Kd.C_alloc ?_ _) | (with_reducible refine Kd.C_drewN ?_ _) | (with_reducible refine Kd.C_drew ?_))); (case side2 => exact HC0_1.out); (case side3 => repeat (first | exact (Kd.C_below HR0_2.out HB.out) | (with_reducible refine Kd.C_alloc ?_ _) | (with_reducible refine Kd.C_drewN ?_ _) | (with_reducible refine Kd.C_drew ?_))); (case side4 => exact HC0_2.out); rintro e w33 ⟨rfl, hb⟩; refine ⟨_, rfl, ?_⟩; have n0_ := Aside0.mk (blk_below (g := gb40001) (o := .cells #[.int .i64 a0_0, .slice A0_1 l0_1.length c0_1, .slice A0_2 l0_2.length c0_2] 24 (0, 0)) (by (with_reducible repeat (first | refine blk_drewN ?_ _ | refine blk_drew ?_ | refine blk_alloc ?_ _)); exact BK40001.out) hb); have n1_ := Aside0.mk (below_step (by repeat (first | (with_reducible first | exact HB.out | apply below_alloc | apply pw_below_drewN | apply below_drew1 | refine below_set ?_ GE40001.out) | exact HB.out)) hb); clear BK40001; clear HB; have BK40001 := n0_; have HB := n1_; clear n0_ n1_; (try clear hb); (try clear hb2); (try clear hk); (try clear hi); have hcz34_0 : w33.cell? ⟨gb40001, 0, none⟩ = some (.int .i64 a0_0) := (blk_cell BK40001.out 0).trans rfl; have hcz34_1 : w33.cell? ⟨gb40001, 1, none⟩ = some (.slice A0_1 l0_1.length c0_1) := (blk_cell BK40001.out 1).trans rfl; have hcz34_2 : w33.cell? ⟨gb40001, 2, none⟩ = some (.slice A0_2 l0_2.length c0_2) := (blk_cell BK40001.out 2).trans rfl; have hfz34_0 := blk_frozen BK40001.out 0; have hfz34_1 := blk_frozen BK40001.out 1; have hfz34_2 := blk_frozen BK40001.out 2) | ((with_reducible refine gate_callee (f := 17) rfl ?_); refine goesL_ (some 13) rfl rfl Try.func17 (by kernel_rfl) rfl #[.agg #[.int .i64 a0_0, .slice A0_1 l0_1.length c0_1, .slice A0_2 l0_2.length c0_2]] rfl (by (try simp only [List.map_toArray, List.map_cons, List.map_nil]); first | done | rfl | (simp only [List.length_drop, List.length_take]; rfl)) ?_; (with_reducible refine (laws_toLock.calls k a0_0 _ _ l0_1 _ _ l0_2 t40003 t40004 t40007 _ ?side1 ?side2 ?side3 ?side4 A7.out).mono ?_); (case side1 => repeat (first | exact (Kd.C_below HR0_1.out HB.out) | (with_reducible refine Kd.C_alloc ?_ _) | (with_reducible refine Kd.C_drewN ?_ _) | (with_reducible refine Kd.C_drew ?_))); (case side2 => exact HC0_1.out); (case side3 => repeat (first | exact (Kd.C_below HR0_2.out HB.out) | (with_reducible refine Kd.C_alloc ?_ _) | (with_reducible refine Kd.C_drewN ?_ _) | (with_reducible refine Kd.C_drew ?_))); (case side4 => exact HC0_2.out); rintro e w35 ⟨v40005, v40008, rfl, ho0, ho1, hb⟩; refine ⟨_, rfl, ?_⟩; have n0_ := Aside0.mk (Kd.R_lower ho0 (below_size (by repeat (first | (with_reducible first | exact HB.out | apply below_alloc | apply pw_below_drewN | apply below_drew1 | refine below_set ?_ GE40001.out) | exact HB.out)))); have n1_ := Aside0.mk (Kd.R_lower ho1 (below_size (by repeat (first | (with_reducible first | exact HB.out | apply below_alloc | apply pw_below_drewN | apply below_drew1 | refine below_set ?_ GE40001.out) | exact HB.out)))); have n2_ := Aside0.mk (blk_below (g := gb40001) (o := .cells #[.int .i64 a0_0, .slice A0_1 l0_1.length c0_1, .slice A0_2 l0_2.length c0_2] 24 (0, 0)) (by (with_reducible repeat (first | refine blk_drewN ?_ _ | refine blk_drew ?_ | refine blk_alloc ?_ _)); exact BK40001.out) hb); have n3_ := Aside0.mk (below_step (by repeat (first | (with_reducible first | exact HB.out | apply below_alloc | apply pw_below_drewN | apply below_drew1 | refine below_set ?_ GE40001.out) | exact HB.out)) hb); clear BK40001; clear HB; have HO40006 := n0_; have HO40009 := n1_; have BK40001 := n2_; have HB := n3_; clear n0_ n1_ n2_ n3_; (try clear hb); (try clear hb2); (try clear hk); (try clear hi); (try clear ho0); (try clear ho1); obtain ⟨Ao36, co36, eo36⟩ := Kd.R_slice HO40006.out; subst eo36; obtain ⟨Ao37, co37, eo37⟩ := Kd.R_slice HO40009.out; subst eo37) | ((with_reducible refine gate_callee (f := 16) rfl ?_); refine goesL_ (some 14) rfl rfl Try.func16 (by kernel_rfl) rfl #[.agg #[.int .i64 t40003, .slice Ao36 t40004.length co36, .slice Ao37 t40007.length co37]] rfl (by (try simp only [List.map_toArray, List.map_cons, List.map_nil]); first | done | rfl | (simp only [List.length_drop, List.length_take]; rfl)) ?_; (with_reducible refine (spec_LockOk.calls k t40003 _ _ t40004 _ _ t40007 t40010 _ ?side1 ?side2 ?side3 ?side4 A8.out).mono ?_); (case side1 => repeat (first | exact (Kd.R_reads' HO40006.out).2.2 | (with_reducible refine Kd.C_alloc ?_ _) | (with_reducible refine Kd.C_drewN ?_ _) | (with_reducible refine Kd.C_drew ?_))); (case side2 => exact (Kd.R_reads' HO40006.out).2.1); (case side3 => repeat (first | exact (Kd.R_reads' HO40009.out).2.2 | (with_reducible refine Kd.C_alloc ?_ _) | (with_reducible refine Kd.C_drewN ?_ _) | (with_reducible refine Kd.C_drew ?_))); (case side4 => exact (Kd.R_reads' HO40009.out).2.1); rintro e w38 ⟨rfl, hb⟩; refine ⟨_, rfl, ?_⟩; have n0_ := Aside0.mk (Kd.R_below (by (with_reducible repeat (first | apply Kd.R_alloc | apply Kd.R_drewN | apply Kd.R_drew)); exact HO40006.out) hb); have n1_ := Aside0.mk (Kd.R_below (by (with_reducible repeat (first | apply Kd.R_alloc | apply Kd.R_drewN | apply Kd.R_drew)); exact HO40009.out) hb); have n2_ := Aside0.mk (blk_below (g := gb40001) (o := .cells #[.int .i64 a0_0, .slice A0_1 l0_1.length c0_1, .slice A0_2 l0_2.length c0_2] 24 (0, 0)) (by (with_reducible repeat (first | refine blk_drewN ?_ _ | refine blk_drew ?_ | refine blk_alloc ?_ _)); exact BK40001.out) hb); have n3_ := Aside0.mk (below_step (by repeat (first | (with_reducible first | exact HB.out | apply below_alloc | apply pw_below_drewN | apply below_drew1 | refine below_set ?_ GE40001.out) | exact HB.out)) hb); clear HO40006; clear HO40009; clear BK40001; clear HB; have HO40006 := n0_; have HO40009 := n1_; have BK40001 := n2_; have HB := n3_; clear n0_ n1_ n2_ n3_; (try clear hb); (try clear hb2); (try clear hk); (try clear hi); have hcz39_0 : w38.cell? ⟨gb40001, 0, none⟩ = some (.int .i64 a0_0) := (blk_cell BK40001.out 0).trans rfl; have hcz39_1 : w38.cell? ⟨gb40001, 1, none⟩ = some (.slice A0_1 l0_1.length c0_1) := (blk_cell BK40001.out 1).trans rfl; have hcz39_2 : w38.cell? ⟨gb40001, 2, none⟩ = some (.slice A0_2 l0_2.length c0_2) := (blk_cell BK40001.out 2).trans rfl; have hfz39_0 := blk_frozen BK40001.out 0; have hfz39_1 := blk_frozen BK40001.out 1; have hfz39_2 := blk_frozen BK40001.out 2) | ((with_reducible refine gate_callee (f := 17) rfl ?_); refine goesL_ (some 16) rfl rfl Try.func17 (by kernel_rfl) rfl #[.agg #[.int .i64 a0_0, .slice A0_1 l0_1.length c0_1, .slice A0_2 l0_2.length c0_2]] rfl (by (try simp only [List.map_toArray, List.map_cons, List.map_nil]); first | done | rfl | (simp only [List.length_drop, List.length_take]; rfl)) ?_; (with_reducible refine (laws_toLock.calls k a0_0 _ _ l0_1 _ _ l0_2 t40011 t40012 t40015 _ ?side1 ?side2 ?side3 ?side4 A9.out).mono ?_); (case side1 => repeat (first | exact (Kd.C_below HR0_1.out HB.out) | (with_reducible refine Kd.C_alloc ?_ _) | (with_reducible refine Kd.C_drewN ?_ _) | (with_reducible refine Kd.C_drew ?_))); (case side2 => exact HC0_1.out); (case side3 => repeat (first | exact (Kd.C_below HR0_2.out HB.out) | (with_reducible refine Kd.C_alloc ?_ _) | (with_reducible refine Kd.C_drewN ?_ _) | (with_reducible refine Kd.C_drew ?_))); (case side4 => exact HC0_2.out); rintro e w40 ⟨v40013, v40016, rfl, ho0, ho1, hb⟩; refine ⟨_, rfl, ?_⟩; have n0_ := Aside0.mk (Kd.R_mono (Kd.R_told (Kd.R_told (Kd.R_old (by (with_reducible repeat (first | apply Kd.R_alloc | apply Kd.R_drewN | apply Kd.R_drew)); exact HO40006.out) hb) (Kd.R_base ho0)) (Kd.R_base ho1)) (fun _ h_ => h_.1)); have n1_ := Aside0.mk (Kd.R_mono (Kd.R_told (Kd.R_told (Kd.R_old (by (with_reducible repeat (first | apply Kd.R_alloc | apply Kd.R_drewN | apply Kd.R_drew)); exact HO40009.out) hb) (Kd.R_base ho0)) (Kd.R_base ho1)) (fun _ h_ => h_.1)); have n2_ := Aside0.mk (Kd.R_lower (Kd.R_new' (Kd.R_new' ho0 (Kd.R_lt (by (with_reducible repeat (first | apply Kd.R_alloc | apply Kd.R_drewN | apply Kd.R_drew)); exact HO40006.out))) (Kd.R_lt (by (with_reducible repeat (first | apply Kd.R_alloc | apply Kd.R_drewN | apply Kd.R_drew)); exact HO40009.out))) (below_size (by repeat (first | (with_reducible first | exact HB.out | apply below_alloc | apply pw_below_drewN | apply below_drew1 | refine below_set ?_ GE40001.out) | exact HB.out)))); have n3_ := Aside0.mk (Kd.R_lower (Kd.R_new' (Kd.R_new' ho1 (Kd.R_lt (by (with_reducible repeat (first | apply Kd.R_alloc | apply Kd.R_drewN | apply Kd.R_drew)); exact HO40006.out))) (Kd.R_lt (by (with_reducible repeat (first | apply Kd.R_alloc | apply Kd.R_drewN | apply Kd.R_drew)); exact HO40009.out))) (below_size (by repeat (first | (with_reducible first | exact HB.out | apply below_alloc | apply pw_below_drewN | apply below_drew1 | refine below_set ?_ GE40001.out) | exact HB.out)))); have n4_ := Aside0.mk (blk_below (g := gb40001) (o := .cells #[.int .i64 a0_0, .slice A0_1 l0_1.length c0_1, .slice A0_2 l0_2.length c0_2] 24 (0, 0)) (by (with_reducible repeat (first | refine blk_drewN ?_ _ | refine blk_drew ?_ | refine blk_alloc ?_ _)); exact BK40001.out) hb); have n5_ := Aside0.mk (below_step (by repeat (first | (with_reducible first | exact HB.out | apply below_alloc | apply pw_below_drewN | apply below_drew1 | refine below_set ?_ GE40001.out) | exact HB.out)) hb); clear HO40006; clear HO40009; clear BK40001; clear HB; have HO40006 := n0_; have HO40009 := n1_; have HO40014 := n2_; have HO40017 := n3_; have BK40001 := n4_; have HB := n5_; clear n0_ n1_ n2_ n3_ n4_ n5_; (try clear hb); (try clear hb2); (try clear hk); (try clear hi); (try clear ho0); (try clear ho1)) | ((with_reducible refine gate_dst (N := 5) rfl ?_); refine box_event ?hg (N := 5) ?hd (cs := #[.int .i64 0, .slice none 0 0, .slice none 0 0]) (t := 29) ?hr ?_; (case hd => rfl); (case hg => rfl); (case hr => first | (go_simp; done) | (go_simp; rfl)); intro gb40018 hg w41 hbox hb; have n0_ := Aside0.mk (Kd.R_below (by (with_reducible repeat (first | apply Kd.R_alloc | apply Kd.R_drewN | apply Kd.R_drew)); exact HO40006.out) hb); have n1_ := Aside0.mk (Kd.R_below (by (with_reducible repeat (first | apply Kd.R_alloc | apply Kd.R_drewN | apply Kd.R_drew)); exact HO40009.out) hb); have n2_ := Aside0.mk (Kd.R_below (by (with_reducible repeat (first | apply Kd.R_alloc | apply Kd.R_drewN | apply Kd.R_drew)); exact HO40014.out) hb); have n3_ := Aside0.mk (Kd.R_below (by (with_reducible repeat (first | apply Kd.R_alloc | apply Kd.R_drewN | apply Kd.R_drew)); exact HO40017.out) hb); have n4_ := Aside0.mk (blk_below (g := gb40001) (o := .cells #[.int .i64 a0_0, .slice A0_1 l0_1.length c0_1, .slice A0_2 l0_2.length c0_2] 24 (0, 0)) (by (with_reducible repeat (first | refine blk_drewN ?_ _ | refine blk_drew ?_ | refine blk_alloc ?_ _)); exact BK40001.out) hb); have n5_ := Aside0.mk (below_step (by repeat (first | (with_reducible first | exact HB.out | apply below_alloc | apply pw_below_drewN | apply below_drew1 | refine below_set ?_ GE40001.out) | exact HB.out)) hb); have n6_ := Aside0.mk (hbox); have n7_ := Aside0.mk ((by rw [hg]; exact (below_size (by repeat (first | (with_reducible first | exact HB.out | apply below_alloc | apply pw_below_drewN | apply below_drew1 | refine below_set ?_ GE40001.out) | exact HB.out))) : w.heap.size ≤ gb40018)); have n8_ := Aside0.mk ((by rw [hg]; exact (below_size (by repeat (first | (with_reducible first | exact HB.out | apply below_alloc | apply pw_below_drewN | apply below_drew1 | refine below_set ?_ GE40001.out) | exact HB.out))) : w.heap.size ≤ gb40018)); have n9_ := Aside0.mk ((by rw [hg]; exact Nat.ne_of_lt (blk_lt (g := gb40001) (o := .cells #[.int .i64 a0_0, .slice A0_1 l0_1.length c0_1, .slice A0_2 l0_2.length c0_2] 24 (0, 0)) (by (with_reducible repeat (first | refine blk_drewN ?_ _ | refine blk_drew ?_ | refine blk_alloc ?_ _)); exact BK40001.out)) : gb40001 ≠ gb40018)); have n10_ := Aside0.mk ((by rw [hg]; exact Nat.ne_of_gt (blk_lt (g := gb40001) (o := .cells #[.int .i64 a0_0, .slice A0_1 l0_1.length c0_1, .slice A0_2 l0_2.length c0_2] 24 (0, 0)) (by (with_reducible repeat (first | refine blk_drewN ?_ _ | refine blk_drew ?_ | refine blk_alloc ?_ _)); exact BK40001.out)) : gb40018 ≠ gb40001)); clear HO40006; clear HO40009; clear HO40014; clear HO40017; clear BK40001; clear HB; have HO40006 := n0_; have HO40009 := n1_; have HO40014 := n2_; have HO40017 := n3_; have BK40001 := n4_; have HB := n5_; have BK40018 := n6_; have GW40018 := n7_; have GE40018 := n8_; have NB40001_40018 := n9_; have NB40018_40001 := n10_; clear n0_ n1_ n2_ n3_ n4_ n5_ n6_ n7_ n8_ n9_ n10_; clear hb hbox hg; have hnb42 := NB40018_40001.out; have hnc42 := NB40001_40018.out; have hcz43_0 : w41.cell? ⟨gb40018, 0, none⟩ = some (.int .i64 0) := (blk_cell BK40018.out 0).trans rfl; have hcz43_1 : w41.cell? ⟨gb40018, 1, none⟩ = some (.slice none 0 0) := (blk_cell BK40018.out 1).trans rfl; have hcz43_2 : w41.cell? ⟨gb40018, 2, none⟩ = some (.slice none 0 0) := (blk_cell BK40018.out 2).trans rfl; have hfz43_0 := blk_frozen BK40018.out 0; have hfz43_1 := blk_frozen BK40018.out 1; have hfz43_2 := blk_frozen BK40018.out 2; obtain ⟨Ao44, co44, eo44⟩ := Kd.R_slice HO40014.out; subst eo44; obtain ⟨Ao45, co45, eo45⟩ := Kd.R_slice HO40017.out; subst eo45) | ((with_reducible refine gate_callee (f := 18) rfl ?_); refine goesL_ (some 18) rfl rfl Try.func18 (by kernel_rfl) rfl #[.agg #[.int .i64 t40011, .slice Ao44 t40012.length co44, .slice Ao45 t40015.length co45]] rfl (by (try simp only [List.map_toArray, List.map_cons, List.map_nil]); first | done | rfl | (simp only [List.length_drop, List.length_take]; rfl)) ?_; (with_reducible refine (impl_LockOk.calls t40011 _ _ t40012 _ _ t40015 t40019 _ ?side1 ?side2 ?side3 ?side4 A10.out).mono ?_); (case side1 => refine (Kd.R_reads' (e := 45) (base := w.heap.size) (ok := fun k_ => ((some k_ ≠ (.slice Ao45 t40015.length co45 : Value).ownBlock ∧ some k_ ≠ (.slice Ao36 t40004.length co36 : Value).ownBlock) ∧ some k_ ≠ (.slice Ao37 t40007.length co37 : Value).ownBlock)) (n := t40012.length) (c := co44) ?_).2.2; exact (by (with_reducible repeat (first | apply Kd.R_alloc | apply Kd.R_drewN | apply Kd.R_drew)); exact (Kd.R_mono (Kd.R_far (p := ⟨gb40018, 2, none⟩) (Kd.R_far (p := ⟨gb40018, 1, none⟩) (Kd.R_far (p := ⟨gb40018, 0, none⟩) (Kd.R_types HO40014.out BK40018.out (by decide)) (fun _ hk => hk.2) (.int .i64 t40011)) (fun _ hk => hk.2) (.slice Ao44 t40012.length co44)) (fun _ hk => hk.2) (.slice Ao45 t40015.length co45)) (fun _ h_ => h_.1)))); (case side2 => exact (Kd.R_reads' HO40014.out).2.1); (case side3 => refine (Kd.R_reads' (e := 45) (base := w.heap.size) (ok := fun k_ => ((some k_ ≠ (.slice Ao44 t40012.length co44 : Value).ownBlock ∧ some k_ ≠ (.slice Ao36 t40004.length co36 : Value).ownBlock) ∧ some k_ ≠ (.slice Ao37 t40007.length co37 : Value).ownBlock)) (n := t40015.length) (c := co45) ?_).2.2; exact (by (with_reducible repeat (first | apply Kd.R_alloc | apply Kd.R_drewN | apply Kd.R_drew)); exact (Kd.R_mono (Kd.R_far (p := ⟨gb40018, 2, none⟩) (Kd.R_far (p := ⟨gb40018, 1, none⟩) (Kd.R_far (p := ⟨gb40018, 0, none⟩) (Kd.R_types HO40017.out BK40018.out (by decide)) (fun _ hk => hk.2) (.int .i64 t40011)) (fun _ hk => hk.2) (.slice Ao44 t40012.length co44)) (fun _ hk => hk.2) (.slice Ao45 t40015.length co45)) (fun _ h_ => h_.1)))); (case side4 => exact (Kd.R_reads' HO40017.out).2.1); rintro e w46 ⟨rfl, hb⟩; refine ⟨_, rfl, ?_⟩; have n0_ := Aside0.mk (Kd.R_below (by (with_reducible repeat (first | apply Kd.R_alloc | apply Kd.R_drewN | apply Kd.R_drew)); exact (Kd.R_mono (Kd.R_far (p := ⟨gb40018, 2, none⟩) (Kd.R_far (p := ⟨gb40018, 1, none⟩) (Kd.R_far (p := ⟨gb40018, 0, none⟩) (Kd.R_types HO40006.out BK40018.out (by decide)) (fun _ hk => hk.2) (.int .i64 t40011)) (fun _ hk => hk.2) (.slice Ao44 t40012.length co44)) (fun _ hk => hk.2) (.slice Ao45 t40015.length co45)) (fun _ h_ => h_.1))) hb); have n1_ := Aside0.mk (Kd.R_below (by (with_reducible repeat (first | apply Kd.R_alloc | apply Kd.R_drewN | apply Kd.R_drew)); exact (Kd.R_mono (Kd.R_far (p := ⟨gb40018, 2, none⟩) (Kd.R_far (p := ⟨gb40018, 1, none⟩) (Kd.R_far (p := ⟨gb40018, 0, none⟩) (Kd.R_types HO40009.out BK40018.out (by decide)) (fun _ hk => hk.2) (.int .i64 t40011)) (fun _ hk => hk.2) (.slice Ao44 t40012.length co44)) (fun _ hk => hk.2) (.slice Ao45 t40015.length co45)) (fun _ h_ => h_.1))) hb); have n2_ := Aside0.mk (Kd.R_below (by (with_reducible repeat (first | apply Kd.R_alloc | apply Kd.R_drewN | apply Kd.R_drew)); exact (Kd.R_mono (Kd.R_far (p := ⟨gb40018, 2, none⟩) (Kd.R_far (p := ⟨gb40018, 1, none⟩) (Kd.R_far (p := ⟨gb40018, 0, none⟩) (Kd.R_types HO40014.out BK40018.out (by decide)) (fun _ hk => hk.2) (.int .i64 t40011)) (fun _ hk => hk.2) (.slice Ao44 t40012.length co44)) (fun _ hk => hk.2) (.slice Ao45 t40015.length co45)) (fun _ h_ => h_.1))) hb); have n3_ := Aside0.mk (Kd.R_below (by (with_reducible repeat (first | apply Kd.R_alloc | apply Kd.R_drewN | apply Kd.R_drew)); exact (Kd.R_mono (Kd.R_far (p := ⟨gb40018, 2, none⟩) (Kd.R_far (p := ⟨gb40018, 1, none⟩) (Kd.R_far (p := ⟨gb40018, 0, none⟩) (Kd.R_types HO40017.out BK40018.out (by decide)) (fun _ hk => hk.2) (.int .i64 t40011)) (fun _ hk => hk.2) (.slice Ao44 t40012.length co44)) (fun _ hk => hk.2) (.slice Ao45 t40015.length co45)) (fun _ h_ => h_.1))) hb); have n4_ := Aside0.mk (blk_below (g := gb40001) (o := .cells #[.int .i64 a0_0, .slice A0_1 l0_1.length c0_1, .slice A0_2 l0_2.length c0_2] 24 (0, 0)) (by (with_reducible repeat (first | refine blk_drewN ?_ _ | refine blk_drew ?_ | refine blk_alloc ?_ _)); refine blk_far ?_ NB40001_40018.out _; (with_reducible repeat (first | refine blk_drewN ?_ _ | refine blk_drew ?_ | refine blk_alloc ?_ _)); refine blk_far ?_ NB40001_40018.out _; (with_reducible repeat (first | refine blk_drewN ?_ _ | refine blk_drew ?_ | refine blk_alloc ?_ _)); refine blk_far ?_ NB40001_40018.out _; (with_reducible repeat (first | refine blk_drewN ?_ _ | refine blk_drew ?_ | refine blk_alloc ?_ _)); exact BK40001.out) hb); have n5_ := Aside0.mk (blk_below (g := gb40018) (o := .cells #[.int .i64 t40011, .slice Ao44 t40012.length co44, .slice Ao45 t40015.length co45] 29 (0, 0)) (by (with_reducible repeat (first | refine blk_drewN ?_ _ | refine blk_drew ?_ | refine blk_alloc ?_ _)); refine blk_put (cs := #[.int .i64 t40011, .slice Ao44 t40012.length co44, .slice none 0 0]) ?_ 2 _ rfl; (with_reducible repeat (first | refine blk_drewN ?_ _ | refine blk_drew ?_ | refine blk_alloc ?_ _)); refine blk_put (cs := #[.int .i64 t40011, .slice none 0 0, .slice none 0 0]) ?_ 1 _ rfl; (with_reducible repeat (first | refine blk_drewN ?_ _ | refine blk_drew ?_ | refine blk_alloc ?_ _)); refine blk_put (cs := #[.int .i64 0, .slice none 0 0, .slice none 0 0]) ?_ 0 _ rfl; (with_reducible repeat (first | refine blk_drewN ?_ _ | refine blk_drew ?_ | refine blk_alloc ?_ _)); exact BK40018.out) hb); have n6_ := Aside0.mk (below_step (by repeat (first | (with_reducible first | exact HB.out | apply below_alloc | apply pw_below_drewN | apply below_drew1 | refine below_set ?_ GE40001.out | refine below_set ?_ GE40018.out) | exact HB.out)) hb); clear HO40006; clear HO40009; clear HO40014; clear HO40017; clear BK40001; clear BK40018; clear HB; have HO40006 := n0_; have HO40009 := n1_; have HO40014 := n2_; have HO40017 := n3_; have BK40001 := n4_; have BK40018 := n5_; have HB := n6_; clear n0_ n1_ n2_ n3_ n4_ n5_ n6_; (try clear hb); (try clear hb2); (try clear hk); (try clear hi)))
    have n0_ := Aside0.mk (Kd.R_drew HO40006.out)
    have n1_ := Aside0.mk (Kd.R_drew HO40009.out)
    have n2_ := Aside0.mk (Kd.R_drew HO40014.out)
    have n3_ := Aside0.mk (Kd.R_drew HO40017.out)
    have n4_ := Aside0.mk (blk_drew BK40001.out)
    have n5_ := Aside0.mk (blk_drew BK40018.out)
    have n6_ := Aside0.mk (below_drew1 HB.out)
    clear HO40006
    clear HO40009
    clear HO40014
    clear HO40017
    clear BK40001
    clear BK40018
    clear HB
    have HO40006 := n0_
    have HO40009 := n1_
    have HO40014 := n2_
    have HO40017 := n3_
    have BK40001 := n4_
    have BK40018 := n5_
    have HB := n6_
    clear n0_ n1_ n2_ n3_ n4_ n5_ n6_
    refine start_ (n := 5) (S := fun w' => w'.cell? ⟨gb40018, 0, none⟩ = some (.int .i64 t40011) ∧ w'.cell? ⟨gb40018, 1, none⟩ = some (.slice Ao44 t40012.length co44) ∧ w'.cell? ⟨gb40018, 2, none⟩ = some (.slice Ao45 t40015.length co45) ∧ w'.cell? ⟨gb40001, 0, none⟩ = some (.int .i64 a0_0) ∧ w'.cell? ⟨gb40001, 1, none⟩ = some (.slice A0_1 l0_1.length c0_1) ∧ w'.cell? ⟨gb40001, 2, none⟩ = some (.slice A0_2 l0_2.length c0_2)) (ds := []) (bt_ 5 0) (by kernel_rfl) rfl rfl ⟨(blk_cell BK40018.out 0).trans rfl, (blk_cell BK40018.out 1).trans rfl, (blk_cell BK40018.out 2).trans rfl, (blk_cell BK40001.out 0).trans rfl, (blk_cell BK40001.out 1).trans rfl, (blk_cell BK40001.out 2).trans rfl⟩ (fun hHeld => ?_)
    generalize w46.drew = w47 at HO40006 HO40009 HO40014 HO40017 BK40001 BK40018 HB hHeld ⊢
    refine take_ (i := 0) (N := some 22) (v := ?_) (a' := ?_) (bt_ 5 1) rfl rfl (by kernel_rfl) (fun _ _ _ h => h) (Or.inl ⟨by rfl, ?_⟩) hHeld ?_ ?_
    rotate_left
    ·rintro w' ⟨s0, s1, s2, s3, s4, s5⟩
     go_simp
     with_reducible rfl
    rotate_left
    ·simp only [Act.put, List.setIfInBounds_toArray, List.set_cons_zero, List.set_cons_succ, i64_w, i32_w]
     rfl
    refine take_ (i := 1) (N := some 23) (v := ?_) (a' := ?_) (bt_ 5 3) rfl rfl (by kernel_rfl) (fun _ _ _ h => h) (Or.inl ⟨by rfl, ?_⟩) hHeld ?_ ?_
    rotate_left
    ·rintro w' ⟨s0, s1, s2, s3, s4, s5⟩
     go_simp
     with_reducible rfl
    rotate_left
    ·simp only [Act.put, List.setIfInBounds_toArray, List.set_cons_zero, List.set_cons_succ, i64_w, i32_w]
     rfl
    refine one_ (i := 2) (N := some 24) (bt_ 5 7) rfl rfl (by kernel_rfl) (by decide) (fun K hK => ?_)
    refine goes_ Try.func17 (by kernel_rfl) rfl #[.agg #[.int .i64 a0_0, .slice A0_1 l0_1.length c0_1, .slice A0_2 l0_2.length c0_2]] (by rfl) rfl rfl (by (try simp only [List.map_toArray, List.map_cons, List.map_nil]); first | done | rfl | (simp only [List.length_drop, List.length_take]; rfl)) ?_
    with_reducible refine (laws_toLock.calls k a0_0 _ _ l0_1 _ _ l0_2 t40020 t40021 t40024 _ ?side1 ?side2 ?side3 ?side4 A28.out).mono ?_
    (case side1 => repeat (first | exact (Kd.C_below HR0_1.out HB.out) | (with_reducible refine Kd.C_alloc ?_ _) | (with_reducible refine Kd.C_drewN ?_ _) | (with_reducible refine Kd.C_drew ?_)))
    (case side2 => exact HC0_1.out)
    (case side3 => repeat (first | exact (Kd.C_below HR0_2.out HB.out) | (with_reducible refine Kd.C_alloc ?_ _) | (with_reducible refine Kd.C_drewN ?_ _) | (with_reducible refine Kd.C_drew ?_)))
    (case side4 => exact HC0_2.out)
    rintro e w48 ⟨v40022, v40025, rfl, ho0, ho1, hb⟩
    refine ⟨_, rfl, ?_⟩
    have n0_ := Aside0.mk (Kd.R_mono (Kd.R_told (Kd.R_told (Kd.R_old (by (with_reducible repeat (first | apply Kd.R_alloc | apply Kd.R_drewN | apply Kd.R_drew)); exact HO40006.out) hb) (Kd.R_base ho0)) (Kd.R_base ho1)) (fun _ h_ => h_.1))
    have n1_ := Aside0.mk (Kd.R_mono (Kd.R_told (Kd.R_told (Kd.R_old (by (with_reducible repeat (first | apply Kd.R_alloc | apply Kd.R_drewN | apply Kd.R_drew)); exact HO40009.out) hb) (Kd.R_base ho0)) (Kd.R_base ho1)) (fun _ h_ => h_.1))
    have n2_ := Aside0.mk (Kd.R_mono (Kd.R_told (Kd.R_told (Kd.R_old (by (with_reducible repeat (first | apply Kd.R_alloc | apply Kd.R_drewN | apply Kd.R_drew)); exact HO40014.out) hb) (Kd.R_base ho0)) (Kd.R_base ho1)) (fun _ h_ => h_.1))
    have n3_ := Aside0.mk (Kd.R_mono (Kd.R_told (Kd.R_told (Kd.R_old (by (with_reducible repeat (first | apply Kd.R_alloc | apply Kd.R_drewN | apply Kd.R_drew)); exact HO40017.out) hb) (Kd.R_base ho0)) (Kd.R_base ho1)) (fun _ h_ => h_.1))
    have n4_ := Aside0.mk (Kd.R_lower (Kd.R_new' (Kd.R_new' (Kd.R_new' (Kd.R_new' ho0 (Kd.R_lt (by (with_reducible repeat (first | apply Kd.R_alloc | apply Kd.R_drewN | apply Kd.R_drew)); exact HO40006.out))) (Kd.R_lt (by (with_reducible repeat (first | apply Kd.R_alloc | apply Kd.R_drewN | apply Kd.R_drew)); exact HO40009.out))) (Kd.R_lt (by (with_reducible repeat (first | apply Kd.R_alloc | apply Kd.R_drewN | apply Kd.R_drew)); exact HO40014.out))) (Kd.R_lt (by (with_reducible repeat (first | apply Kd.R_alloc | apply Kd.R_drewN | apply Kd.R_drew)); exact HO40017.out))) (below_size (by repeat (first | (with_reducible first | exact HB.out | apply below_alloc | apply pw_below_drewN | apply below_drew1 | refine below_set ?_ GE40001.out | refine below_set ?_ GE40018.out) | exact HB.out))))
    have n5_ := Aside0.mk (Kd.R_lower (Kd.R_new' (Kd.R_new' (Kd.R_new' (Kd.R_new' ho1 (Kd.R_lt (by (with_reducible repeat (first | apply Kd.R_alloc | apply Kd.R_drewN | apply Kd.R_drew)); exact HO40006.out))) (Kd.R_lt (by (with_reducible repeat (first | apply Kd.R_alloc | apply Kd.R_drewN | apply Kd.R_drew)); exact HO40009.out))) (Kd.R_lt (by (with_reducible repeat (first | apply Kd.R_alloc | apply Kd.R_drewN | apply Kd.R_drew)); exact HO40014.out))) (Kd.R_lt (by (with_reducible repeat (first | apply Kd.R_alloc | apply Kd.R_drewN | apply Kd.R_drew)); exact HO40017.out))) (below_size (by repeat (first | (with_reducible first | exact HB.out | apply below_alloc | apply pw_below_drewN | apply below_drew1 | refine below_set ?_ GE40001.out | refine below_set ?_ GE40018.out) | exact HB.out))))
    have n6_ := Aside0.mk (blk_below (g := gb40001) (o := .cells #[.int .i64 a0_0, .slice A0_1 l0_1.length c0_1, .slice A0_2 l0_2.length c0_2] 24 (0, 0)) (by (with_reducible repeat (first | refine blk_drewN ?_ _ | refine blk_drew ?_ | refine blk_alloc ?_ _)); exact BK40001.out) hb)
    have n7_ := Aside0.mk (blk_below (g := gb40018) (o := .cells #[.int .i64 t40011, .slice Ao44 t40012.length co44, .slice Ao45 t40015.length co45] 29 (0, 0)) (by (with_reducible repeat (first | refine blk_drewN ?_ _ | refine blk_drew ?_ | refine blk_alloc ?_ _)); exact BK40018.out) hb)
    have n8_ := Aside0.mk (below_step (by repeat (first | (with_reducible first | exact HB.out | apply below_alloc | apply pw_below_drewN | apply below_drew1 | refine below_set ?_ GE40001.out | refine below_set ?_ GE40018.out) | exact HB.out)) hb)
    clear HO40006
    clear HO40009
    clear HO40014
    clear HO40017
    clear BK40001
    clear BK40018
    clear HB
    have HO40006 := n0_
    have HO40009 := n1_
    have HO40014 := n2_
    have HO40017 := n3_
    have HO40023 := n4_
    have HO40026 := n5_
    have BK40001 := n6_
    have BK40018 := n7_
    have HB := n8_
    clear n0_ n1_ n2_ n3_ n4_ n5_ n6_ n7_ n8_
    (try clear hb)
    (try clear hb2)
    (try clear hk)
    (try clear hi)
    (try clear ho0)
    (try clear ho1)
    obtain ⟨Ao49, co49, eo49⟩ := Kd.R_slice HO40023.out
    (first | subst eo49 | (injection eo49 with f1_ f2_ f3_; have f4_ := f1_.symm; have f5_ := f3_.symm; clear f1_ f2_ f3_; subst f4_; subst f5_))
    obtain ⟨Ao50, co50, eo50⟩ := Kd.R_slice HO40026.out
    (first | subst eo50 | (injection eo50 with f1_ f2_ f3_; have f4_ := f1_.symm; have f5_ := f3_.symm; clear f1_ f2_ f3_; subst f4_; subst f5_))
    refine hK.out _ _ ⟨(blk_cell BK40018.out 0).trans rfl, (blk_cell BK40018.out 1).trans rfl, (blk_cell BK40018.out 2).trans rfl, (blk_cell BK40001.out 0).trans rfl, (blk_cell BK40001.out 1).trans rfl, (blk_cell BK40001.out 2).trans rfl⟩ (fun hHeld => ?_)
    clear hK K
    refine norm_ (a' := ?_) ?_ ?_
    rotate_left
    ·show Act.put _ (some 24) _ = _
     simp only [Act.put, List.setIfInBounds_toArray, List.set_cons_zero, List.set_cons_succ, i64_w, i32_w]
     rfl
    refine one_ (i := 3) (N := some 25) (bt_ 5 15) rfl rfl (by kernel_rfl) (by decide) (fun K hK => ?_)
    refine goes_ Try.func19 (by kernel_rfl) rfl #[.agg #[.int .i64 t40011, .slice Ao44 t40012.length co44, .slice Ao45 t40015.length co45], .agg #[.int .i64 t40020, .slice Ao49 t40021.length co49, .slice Ao50 t40024.length co50]] (by rfl) rfl rfl (by (try simp only [List.map_toArray, List.map_cons, List.map_nil]); first | done | rfl | (simp only [List.length_drop, List.length_take]; rfl)) ?_
    with_reducible refine (laws_eqLock.calls k t40011 _ _ t40012 _ _ t40015 t40020 _ _ t40021 _ _ t40024 true _ ?side1 ?side2 ?side3 ?side4 ?side5 ?side6 ?side7 ?side8 A29.out).mono ?_
    (case side1 => repeat (first | exact (Kd.R_reads' HO40014.out).2.2 | (with_reducible refine Kd.C_alloc ?_ _) | (with_reducible refine Kd.C_drewN ?_ _) | (with_reducible refine Kd.C_drew ?_)))
    (case side2 => exact (Kd.R_reads' HO40014.out).2.1)
    (case side3 => repeat (first | exact (Kd.R_reads' HO40017.out).2.2 | (with_reducible refine Kd.C_alloc ?_ _) | (with_reducible refine Kd.C_drewN ?_ _) | (with_reducible refine Kd.C_drew ?_)))
    (case side4 => exact (Kd.R_reads' HO40017.out).2.1)
    (case side5 => repeat (first | exact (Kd.R_reads' HO40023.out).2.2 | (with_reducible refine Kd.C_alloc ?_ _) | (with_reducible refine Kd.C_drewN ?_ _) | (with_reducible refine Kd.C_drew ?_)))
    (case side6 => exact (Kd.R_reads' HO40023.out).2.1)
    (case side7 => repeat (first | exact (Kd.R_reads' HO40026.out).2.2 | (with_reducible refine Kd.C_alloc ?_ _) | (with_reducible refine Kd.C_drewN ?_ _) | (with_reducible refine Kd.C_drew ?_)))
    (case side8 => exact (Kd.R_reads' HO40026.out).2.1)
    rintro e w51 ⟨rfl, hb⟩
    refine ⟨_, rfl, ?_⟩
    have n0_ := Aside0.mk (Kd.R_below (by (with_reducible repeat (first | apply Kd.R_alloc | apply Kd.R_drewN | apply Kd.R_drew)); exact HO40006.out) hb)
    have n1_ := Aside0.mk (Kd.R_below (by (with_reducible repeat (first | apply Kd.R_alloc | apply Kd.R_drewN | apply Kd.R_drew)); exact HO40009.out) hb)
    have n2_ := Aside0.mk (Kd.R_below (by (with_reducible repeat (first | apply Kd.R_alloc | apply Kd.R_drewN | apply Kd.R_drew)); exact HO40014.out) hb)
    have n3_ := Aside0.mk (Kd.R_below (by (with_reducible repeat (first | apply Kd.R_alloc | apply Kd.R_drewN | apply Kd.R_drew)); exact HO40017.out) hb)
    have n4_ := Aside0.mk (Kd.R_below (by (with_reducible repeat (first | apply Kd.R_alloc | apply Kd.R_drewN | apply Kd.R_drew)); exact HO40023.out) hb)
    have n5_ := Aside0.mk (Kd.R_below (by (with_reducible repeat (first | apply Kd.R_alloc | apply Kd.R_drewN | apply Kd.R_drew)); exact HO40026.out) hb)
    have n6_ := Aside0.mk (blk_below (g := gb40001) (o := .cells #[.int .i64 a0_0, .slice A0_1 l0_1.length c0_1, .slice A0_2 l0_2.length c0_2] 24 (0, 0)) (by (with_reducible repeat (first | refine blk_drewN ?_ _ | refine blk_drew ?_ | refine blk_alloc ?_ _)); exact BK40001.out) hb)
    have n7_ := Aside0.mk (blk_below (g := gb40018) (o := .cells #[.int .i64 t40011, .slice Ao44 t40012.length co44, .slice Ao45 t40015.length co45] 29 (0, 0)) (by (with_reducible repeat (first | refine blk_drewN ?_ _ | refine blk_drew ?_ | refine blk_alloc ?_ _)); exact BK40018.out) hb)
    have n8_ := Aside0.mk (below_step (by repeat (first | (with_reducible first | exact HB.out | apply below_alloc | apply pw_below_drewN | apply below_drew1 | refine below_set ?_ GE40001.out | refine below_set ?_ GE40018.out) | exact HB.out)) hb)
    clear HO40006
    clear HO40009
    clear HO40014
    clear HO40017
    clear HO40023
    clear HO40026
    clear BK40001
    clear BK40018
    clear HB
    have HO40006 := n0_
    have HO40009 := n1_
    have HO40014 := n2_
    have HO40017 := n3_
    have HO40023 := n4_
    have HO40026 := n5_
    have BK40001 := n6_
    have BK40018 := n7_
    have HB := n8_
    clear n0_ n1_ n2_ n3_ n4_ n5_ n6_ n7_ n8_
    (try clear hb)
    (try clear hb2)
    (try clear hk)
    (try clear hi)
    refine hK.out _ _ ⟨(blk_cell BK40018.out 0).trans rfl, (blk_cell BK40018.out 1).trans rfl, (blk_cell BK40018.out 2).trans rfl, (blk_cell BK40001.out 0).trans rfl, (blk_cell BK40001.out 1).trans rfl, (blk_cell BK40001.out 2).trans rfl⟩ (fun hHeld => ?_)
    clear hK K
    refine norm_ (a' := ?_) ?_ ?_
    rotate_left
    ·show Act.put _ (some 25) _ = _
     simp only [Act.put, List.setIfInBounds_toArray, List.set_cons_zero, List.set_cons_succ, i64_w, i32_w]
     rfl
    refine pu_ 4 (some 26) (bt_ 5 31) (by kernel_rfl) ?_
    refine done_ (by kernel_rfl) ?_
    try go_wp2
    go_ret
    exact ⟨by first | rfl | (simp [errW_none, errW_some] <;> rfl) | (simp [*, errW_none, errW_some] <;> rfl), by repeat (first | (with_reducible first | exact HB.out | apply below_alloc | apply pw_below_drewN | apply below_drew1 | refine below_set ?_ GE40001.out | refine below_set ?_ GE40018.out) | exact HB.out)⟩
   ·replace c30 := Bool.eq_false_iff.mpr c30
    subst c30
    have H1 : (some false) = some true := by rw [if_neg (show ¬ (false = true) by decide)] at H; exact H
    clear H
    have H := H1
    clear H1
    exact absurd H (by decide)

def B42 (x : S42) : Prop := ((Lit.int .i64 x.f0).wf = true) ∧ ((Lit.int .i64 x.f1).wf = true) ∧ (True) ∧ (True)
theorem rd42_ (W : World) : RdOf Try.prog W k42 42 B42 := by
 intro H enc fuel cs y h
 obtain ⟨xs, n, _, _, hlen, hxl, hg⟩ := DataW.trod_struct Try.underlying42 h
 have hlen : cs.length = 4 := hlen.trans (by kernel_rfl)
 have hxl : xs.length = 4 := hxl
 obtain ⟨y0, e0⟩ := nth_some (j := 0) hxl (by omega)
 have g0 : DataW.trod enc Try.prog W 0 (fun _ => true) true n 3 ((cs.drop 0).take (Try.prog.cellsOf 3)) = xs[0]? := hg 0 _ rfl
 have z0 : Try.prog.cellsOf 3 = 1 := by kernel_rfl
 rw [z0, e0] at g0
 obtain ⟨x0, k0_, b0_⟩ := (RdOf.int Try.underlying3) enc n _ _ g0
 obtain ⟨y1, e1⟩ := nth_some (j := 1) hxl (by omega)
 have g1 : DataW.trod enc Try.prog W 0 (fun _ => true) true n 3 ((cs.drop 1).take (Try.prog.cellsOf 3)) = xs[1]? := hg 1 _ rfl
 have z1 : Try.prog.cellsOf 3 = 1 := by kernel_rfl
 rw [z1, e1] at g1
 obtain ⟨x1, k1_, b1_⟩ := (RdOf.int Try.underlying3) enc n _ _ g1
 obtain ⟨y2, e2⟩ := nth_some (j := 2) hxl (by omega)
 have g2 : DataW.trod enc Try.prog W 0 (fun _ => true) true n 4 ((cs.drop 2).take (Try.prog.cellsOf 4)) = xs[2]? := hg 2 _ rfl
 have z2 : Try.prog.cellsOf 4 = 1 := by kernel_rfl
 rw [z2, e2] at g2
 obtain ⟨x2, k2_, b2_⟩ := (RdOf.bool Try.underlying4) enc n _ _ g2
 obtain ⟨y3, e3⟩ := nth_some (j := 3) hxl (by omega)
 have g3 : DataW.trod enc Try.prog W 0 (fun _ => true) true n 4 ((cs.drop 3).take (Try.prog.cellsOf 4)) = xs[3]? := hg 3 _ rfl
 have z3 : Try.prog.cellsOf 4 = 1 := by kernel_rfl
 rw [z3, e3] at g3
 obtain ⟨x3, k3_, b3_⟩ := (RdOf.bool Try.underlying4) enc n _ _ g3
 have hk := (seg_pair 0 1 3 k0_ (seg_pair 1 1 2 k1_ (seg_pair 2 1 1 k2_ k3_)))
 rw [seg_all hlen] at hk
 exact ⟨⟨x0, x1, x2, x3⟩, hk, b0_, b1_, b2_, b3_⟩
def B24 (x : S24) : Prop := ((Lit.int .i64 x.f0).wf = true) ∧ ((x.f1.length ≤ maxLen ∧ ∀ y_ ∈ x.f1, B42 y_)) ∧ ((x.f2.length ≤ maxLen ∧ ∀ y_ ∈ x.f2, B42 y_))
theorem rd24_ (W : World) : RdOf Try.prog W k24 24 B24 := by
 intro H enc fuel cs y h
 obtain ⟨xs, n, _, _, hlen, hxl, hg⟩ := DataW.trod_struct Try.underlying24 h
 have hlen : cs.length = 3 := hlen.trans (by kernel_rfl)
 have hxl : xs.length = 3 := hxl
 obtain ⟨y0, e0⟩ := nth_some (j := 0) hxl (by omega)
 have g0 : DataW.trod enc Try.prog W 0 (fun _ => true) true n 3 ((cs.drop 0).take (Try.prog.cellsOf 3)) = xs[0]? := hg 0 _ rfl
 have z0 : Try.prog.cellsOf 3 = 1 := by kernel_rfl
 rw [z0, e0] at g0
 obtain ⟨x0, k0_, b0_⟩ := (RdOf.int Try.underlying3) enc n _ _ g0
 obtain ⟨y1, e1⟩ := nth_some (j := 1) hxl (by omega)
 have g1 : DataW.trod enc Try.prog W 0 (fun _ => true) true n 22 ((cs.drop 1).take (Try.prog.cellsOf 22)) = xs[1]? := hg 1 _ rfl
 have z1 : Try.prog.cellsOf 22 = 1 := by kernel_rfl
 rw [z1, e1] at g1
 obtain ⟨x1, k1_, b1_⟩ := (RdOf.slice Try.underlying22 (by kernel_rfl) (rd42_ W)) enc n _ _ g1
 obtain ⟨y2, e2⟩ := nth_some (j := 2) hxl (by omega)
 have g2 : DataW.trod enc Try.prog W 0 (fun _ => true) true n 22 ((cs.drop 2).take (Try.prog.cellsOf 22)) = xs[2]? := hg 2 _ rfl
 have z2 : Try.prog.cellsOf 22 = 1 := by kernel_rfl
 rw [z2, e2] at g2
 obtain ⟨x2, k2_, b2_⟩ := (RdOf.slice Try.underlying22 (by kernel_rfl) (rd42_ W)) enc n _ _ g2
 have hk := (seg_pair 0 1 2 k0_ (seg_pair 1 1 1 k1_ k2_))
 rw [seg_all hlen] at hk
 exact ⟨⟨x0, x1, x2⟩, hk, b0_, b1_, b2_⟩

/-- THE ONE PURE STATEMENT of laws_FnExactLockOk: yours. -/
def laws_FnExactLockOk.Pure : Prop := ∀ (a0_0 : Int) (l0_1 : List (S42)) (l0_2 : List (S42)), (B24 (⟨a0_0, l0_1, l0_2⟩ : S24)) → ∃ k, laws_FnExactLockOk.f k a0_0 l0_1 l0_2 = some true
theorem laws_FnExactLockOk.walk (P : laws_FnExactLockOk.Pure) (a0_0 : Int) (A0_1 : Option Addr) (c0_1 : Nat) (l0_1 : List (S42)) (A0_2 : Option Addr) (c0_2 : Nat) (l0_2 : List (S42)) (w : World) (hr0_1 : Kd.C k42 w A0_1 l0_1.length l0_1) (hc0_1 : l0_1.length ≤ c0_1) (hr0_2 : Kd.C k42 w A0_2 l0_2.length l0_2) (hc0_2 : l0_2.length ≤ c0_2) (w0 : B24 (⟨a0_0, l0_1, l0_2⟩ : S24)) :
 Calls Try.prog 3 #[.agg #[.int .i64 a0_0, .slice A0_1 l0_1.length c0_1, .slice A0_2 l0_2.length c0_2]] w fun e w' => e = .returned (.bool true) ∧ Below w.heap.size w w' := by
 obtain ⟨k, h⟩ := P a0_0 l0_1 l0_2 w0
 refine (laws_FnExactLockOk.calls k a0_0 A0_1 c0_1 l0_1 A0_2 c0_2 l0_2 true w hr0_1 hc0_1 hr0_2 hc0_2 rfl h).mono ?_
 rintro e w' ⟨rfl, hd⟩
 exact ⟨rfl, hd⟩

end Go.Proofs.Ytjldpnhlegbjkaa.PY
