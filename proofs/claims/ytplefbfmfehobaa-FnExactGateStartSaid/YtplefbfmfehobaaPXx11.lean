-- Written by a program of this workplace (wip/xprint.py over the kit's print.py) out of the translation.
import Derived.Test.YtplefbfmfehobaaPXx0
import Derived.Test.YtplefbfmfehobaaPXx6
import Derived.Test.YtplefbfmfehobaaPXx9
import Derived.Test.YtplefbfmfehobaaPXx10
namespace Go.Proofs.Ytplefbfmfehobaa.PX
open Go.RowKit Go.Proofs.YtplefbfmfehobaaW.PrintWords Go.Proofs.YtplefbfmfehobaaW.PrintLast Go.Proofs.YtplefbfmfehobaaW.PrintMore
attribute [local go_sem] max2_int min2_int max_two min_two max_three min_three max_four min_four   -- for this text's walks alone
set_option linter.unusedVariables false
set_option linter.unusedSimpArgs false

set_option hygiene false in
local macro "zr" : tactic => `(tactic| ((with_reducible repeat (first | apply Kd.R_alloc | apply Kd.R_drewN | apply Kd.R_drew))))
set_option hygiene false in
local macro "zb" : tactic => `(tactic| (repeat (first | (with_reducible first | exact HB.out | apply below_alloc | apply pw_below_drewN | apply below_drew1) | exact HB.out)))
set_option hygiene false in
local macro "zl" : tactic => `(tactic| ((try simp only [List.map_toArray, List.map_cons, List.map_nil]); first | done | rfl | (simp only [List.length_drop, List.length_take]; rfl)))
set_option hygiene false in
local macro "zk" : tactic => `(tactic| ((with_reducible repeat (first | refine blk_drewN ?_ _ | refine blk_drew ?_ | refine blk_alloc ?_ _))))
set_option hygiene false in
local macro "zc0" : tactic => `(tactic| (repeat (first | (with_reducible first | exact HB.out | apply below_alloc | apply pw_below_drewN | apply below_drew1 | refine below_set ?_ GE190001.out | refine below_set ?_ GE190002.out) | exact HB.out)))
set_option hygiene false in
local macro "zc1" : tactic => `(tactic| (repeat (first | (with_reducible first | exact HB.out | apply below_alloc | apply pw_below_drewN | apply below_drew1 | refine below_set ?_ GE190001.out) | exact HB.out)))

/-! ### laws_eqGate: function 18 -/
def laws_eqGate.f (k : Nat) (a0_0 : Bool) (a0_1 : Int) (a0_2 : Int) (l0_3 : List (S94)) (l0_4 : List (S98)) (l0_5 : List (S101)) (a1_0 : Bool) (a1_1 : Int) (a1_2 : Int) (l1_3 : List (S94)) (l1_4 : List (S98)) (l1_5 : List (S101)) : Option (Bool) := if (a0_0 != a1_0) = true then (some false) else (if a0_1 = a1_1 then (if a0_2 = a1_2 then ((laws_eqRecordS.f k l0_3 l1_3).bind fun t190003 => (if t190003 = true then ((laws_eqLiveS.f k l0_4 l1_4).bind fun t190004 => (if t190004 = true then ((laws_eqWayS.f k l0_5 l1_5).bind fun t190005 => (if t190005 = true then (some true) else (some false))) else (some false))) else (some false))) else (some false)) else (some false))
theorem laws_eqGate.mono : ∀ a0 a1 a2 a3 a4 a5 a6 a7 a8 a9 a10 a11 k, LeO (laws_eqGate.f k a0 a1 a2 a3 a4 a5 a6 a7 a8 a9 a10 a11) (laws_eqGate.f (k + 1) a0 a1 a2 a3 a4 a5 a6 a7 a8 a9 a10 a11) := by
  intro a0 a1 a2 a3 a4 a5 a6 a7 a8 a9 a10 a11 k
  unfold laws_eqGate.f
  repeat' first
      | (with_reducible exact laws_eqLiveS.mono _ _ _)
      | (with_reducible exact laws_eqRecordS.mono _ _ _)
      | (with_reducible exact laws_eqWayS.mono _ _ _)
      | (with_reducible exact LeO.refl _)
      | (with_reducible exact LeO.none _)
      | (with_reducible refine LeO.ite ?_ ?_)
      | (with_reducible refine LeO.bind ?_ (fun _ => ?_))
      | exact laws_eqLiveS.mono _ _ _
      | exact laws_eqRecordS.mono _ _ _
      | exact laws_eqWayS.mono _ _ _
      | exact LeO.none _
      | refine LeO.ite ?_ ?_
      | refine LeO.bind ?_ (fun _ => ?_)
set_option maxHeartbeats 8000000 in
set_option maxRecDepth 100000 in
theorem laws_eqGate.calls (k : Nat) (a0_0 : Bool) (a0_1 : Int) (a0_2 : Int) (A0_3 : Option Addr) (c0_3 : Nat) (l0_3 : List (S94)) (A0_4 : Option Addr) (c0_4 : Nat) (l0_4 : List (S98)) (A0_5 : Option Addr) (c0_5 : Nat) (l0_5 : List (S101)) (a1_0 : Bool) (a1_1 : Int) (a1_2 : Int) (A1_3 : Option Addr) (c1_3 : Nat) (l1_3 : List (S94)) (A1_4 : Option Addr) (c1_4 : Nat) (l1_4 : List (S98)) (A1_5 : Option Addr) (c1_5 : Nat) (l1_5 : List (S101)) (r : Bool) (w : World) (hr0_3 : Kd.C k94 w A0_3 l0_3.length l0_3) (hc0_3 : l0_3.length ≤ c0_3) (hr0_4 : Kd.C k98 w A0_4 l0_4.length l0_4) (hc0_4 : l0_4.length ≤ c0_4) (hr0_5 : Kd.C k101 w A0_5 l0_5.length l0_5) (hc0_5 : l0_5.length ≤ c0_5) (hr1_3 : Kd.C k94 w A1_3 l1_3.length l1_3) (hc1_3 : l1_3.length ≤ c1_3) (hr1_4 : Kd.C k98 w A1_4 l1_4.length l1_4) (hc1_4 : l1_4.length ≤ c1_4) (hr1_5 : Kd.C k101 w A1_5 l1_5.length l1_5) (hc1_5 : l1_5.length ≤ c1_5) (h : laws_eqGate.f k a0_0 a0_1 a0_2 l0_3 l0_4 l0_5 a1_0 a1_1 a1_2 l1_3 l1_4 l1_5 = some r) :
    Calls Try.prog 18 #[.agg #[.bool a0_0, .int .i64 a0_1, .int .i64 a0_2, .slice A0_3 l0_3.length c0_3, .slice A0_4 l0_4.length c0_4, .slice A0_5 l0_5.length c0_5], .agg #[.bool a1_0, .int .i64 a1_1, .int .i64 a1_2, .slice A1_3 l1_3.length c1_3, .slice A1_4 l1_4.length c1_4, .slice A1_5 l1_5.length c1_5]] w fun e w' => e = .returned (.bool r) ∧ Below w.heap.size w w' := by
  have hu35 := Try.underlying35
  have HR0_3 := Aside0.mk hr0_3
  have HC0_3 := Aside0.mk hc0_3
  clear hr0_3 hc0_3
  have HR0_4 := Aside0.mk hr0_4
  have HC0_4 := Aside0.mk hc0_4
  clear hr0_4 hc0_4
  have HR0_5 := Aside0.mk hr0_5
  have HC0_5 := Aside0.mk hc0_5
  clear hr0_5 hc0_5
  have HR1_3 := Aside0.mk hr1_3
  have HC1_3 := Aside0.mk hc1_3
  clear hr1_3 hc1_3
  have HR1_4 := Aside0.mk hr1_4
  have HC1_4 := Aside0.mk hc1_4
  clear hr1_4 hc1_4
  have HR1_5 := Aside0.mk hr1_5
  have HC1_5 := Aside0.mk hc1_5
  clear hr1_5 hc1_5
  have HB := Aside0.mk (Below.refl w.heap.size w)
  have H : (if (a0_0 != a1_0) = true then (some false) else (if a0_1 = a1_1 then (if a0_2 = a1_2 then ((laws_eqRecordS.f k l0_3 l1_3).bind fun t190003 => (if t190003 = true then ((laws_eqLiveS.f k l0_4 l1_4).bind fun t190004 => (if t190004 = true then ((laws_eqWayS.f k l0_5 l1_5).bind fun t190005 => (if t190005 = true then (some true) else (some false))) else (some false))) else (some false))) else (some false)) else (some false))) = some r := h
  clear h
  by_cases c3 : (a0_0 != a1_0) = true
  · rw [if_pos c3] at H
    have c3b0 : (a0_0 != a1_0) = true := c3
    (try (have c3b1 : decide (a0_0 = a1_0) = false := by simpa using c3))
    (try (have c3b2 : (a0_0 == a1_0) = false := by simpa using c3))
    (try (have c3b3 : ¬ (a0_0 = a1_0) := by simpa using c3))
    clear c3
    obtain rfl := Option.some.inj H
    go_enter Try.func18, Try.ntmps18
    go_wp2_with (first | ((with_reducible refine gate_dst (N := 2) rfl ?_); refine box_event ?hg (N := 2) ?hd (cs := #[.bool a0_0, .int .i64 a0_1, .int .i64 a0_2, .slice A0_3 l0_3.length c0_3, .slice A0_4 l0_4.length c0_4, .slice A0_5 l0_5.length c0_5]) (t := 35) ?hr ?_; (case hd => rfl); (case hg => rfl); (case hr => first | (go_simp; done) | (go_simp; rfl)); intro gb190001 hg w4 hbox hb; have n0_ := Aside0.mk (below_step (by zb) hb); have n1_ := Aside0.mk (hbox); have n2_ := Aside0.mk ((by rw [hg]; exact (below_size (by zb)) : w.heap.size ≤ gb190001)); have n3_ := Aside0.mk ((by rw [hg]; exact (below_size (by zb)) : w.heap.size ≤ gb190001)); clear HB; have HB := n0_; have BK190001 := n1_; have GW190001 := n2_; have GE190001 := n3_; clear n0_ n1_ n2_ n3_; clear hb hbox hg) | ((with_reducible refine gate_dst (N := 3) rfl ?_); refine box_event ?hg (N := 3) ?hd (cs := #[.bool a1_0, .int .i64 a1_1, .int .i64 a1_2, .slice A1_3 l1_3.length c1_3, .slice A1_4 l1_4.length c1_4, .slice A1_5 l1_5.length c1_5]) (t := 35) ?hr ?_; (case hd => rfl); (case hg => rfl); (case hr => first | (go_simp; done) | (go_simp; rfl)); intro gb190002 hg w5 hbox hb; have n0_ := Aside0.mk (blk_below (g := gb190001) (o := .cells #[.bool a0_0, .int .i64 a0_1, .int .i64 a0_2, .slice A0_3 l0_3.length c0_3, .slice A0_4 l0_4.length c0_4, .slice A0_5 l0_5.length c0_5] 35 (0, 0)) (by zk; exact BK190001.out) hb); have n1_ := Aside0.mk (below_step (by zc1) hb); have n2_ := Aside0.mk (hbox); have n3_ := Aside0.mk ((by rw [hg]; exact (below_size (by zc1)) : w.heap.size ≤ gb190002)); have n4_ := Aside0.mk ((by rw [hg]; exact (below_size (by zc1)) : w.heap.size ≤ gb190002)); have n5_ := Aside0.mk ((by rw [hg]; exact Nat.ne_of_lt (blk_lt (g := gb190001) (o := .cells #[.bool a0_0, .int .i64 a0_1, .int .i64 a0_2, .slice A0_3 l0_3.length c0_3, .slice A0_4 l0_4.length c0_4, .slice A0_5 l0_5.length c0_5] 35 (0, 0)) (by zk; exact BK190001.out)) : gb190001 ≠ gb190002)); have n6_ := Aside0.mk ((by rw [hg]; exact Nat.ne_of_gt (blk_lt (g := gb190001) (o := .cells #[.bool a0_0, .int .i64 a0_1, .int .i64 a0_2, .slice A0_3 l0_3.length c0_3, .slice A0_4 l0_4.length c0_4, .slice A0_5 l0_5.length c0_5] 35 (0, 0)) (by zk; exact BK190001.out)) : gb190002 ≠ gb190001)); clear BK190001; clear HB; have BK190001 := n0_; have HB := n1_; have BK190002 := n2_; have GW190002 := n3_; have GE190002 := n4_; have NB190001_190002 := n5_; have NB190002_190001 := n6_; clear n0_ n1_ n2_ n3_ n4_ n5_ n6_; clear hb hbox hg; have hnb6 := NB190001_190002.out; have hnc6 := NB190002_190001.out; have hcz7_0 : w5.cell? ⟨gb190001, 0, none⟩ = some (.bool a0_0) := (blk_cell BK190001.out 0).trans rfl; have hcz7_1 : w5.cell? ⟨gb190001, 1, none⟩ = some (.int .i64 a0_1) := (blk_cell BK190001.out 1).trans rfl; have hcz7_2 : w5.cell? ⟨gb190001, 2, none⟩ = some (.int .i64 a0_2) := (blk_cell BK190001.out 2).trans rfl; have hcz7_3 : w5.cell? ⟨gb190001, 3, none⟩ = some (.slice A0_3 l0_3.length c0_3) := (blk_cell BK190001.out 3).trans rfl; have hcz7_4 : w5.cell? ⟨gb190001, 4, none⟩ = some (.slice A0_4 l0_4.length c0_4) := (blk_cell BK190001.out 4).trans rfl; have hcz7_5 : w5.cell? ⟨gb190001, 5, none⟩ = some (.slice A0_5 l0_5.length c0_5) := (blk_cell BK190001.out 5).trans rfl; have hfz7_0 := blk_frozen BK190001.out 0; have hfz7_1 := blk_frozen BK190001.out 1; have hfz7_2 := blk_frozen BK190001.out 2; have hfz7_3 := blk_frozen BK190001.out 3; have hfz7_4 := blk_frozen BK190001.out 4; have hfz7_5 := blk_frozen BK190001.out 5; have hcz8_0 : w5.cell? ⟨gb190002, 0, none⟩ = some (.bool a1_0) := (blk_cell BK190002.out 0).trans rfl; have hcz8_1 : w5.cell? ⟨gb190002, 1, none⟩ = some (.int .i64 a1_1) := (blk_cell BK190002.out 1).trans rfl; have hcz8_2 : w5.cell? ⟨gb190002, 2, none⟩ = some (.int .i64 a1_2) := (blk_cell BK190002.out 2).trans rfl; have hcz8_3 : w5.cell? ⟨gb190002, 3, none⟩ = some (.slice A1_3 l1_3.length c1_3) := (blk_cell BK190002.out 3).trans rfl; have hcz8_4 : w5.cell? ⟨gb190002, 4, none⟩ = some (.slice A1_4 l1_4.length c1_4) := (blk_cell BK190002.out 4).trans rfl; have hcz8_5 : w5.cell? ⟨gb190002, 5, none⟩ = some (.slice A1_5 l1_5.length c1_5) := (blk_cell BK190002.out 5).trans rfl; have hfz8_0 := blk_frozen BK190002.out 0; have hfz8_1 := blk_frozen BK190002.out 1; have hfz8_2 := blk_frozen BK190002.out 2; have hfz8_3 := blk_frozen BK190002.out 3; have hfz8_4 := blk_frozen BK190002.out 4; have hfz8_5 := blk_frozen BK190002.out 5))
    go_ret
    exact ⟨by first | rfl | (simp [errW_none, errW_some] <;> rfl) | (simp [*, errW_none, errW_some] <;> rfl), by zc0⟩
  · rw [if_neg c3] at H
    have c3b0 : (a0_0 != a1_0) = false := by simpa using c3
    (try (have c3b1 : decide (a0_0 = a1_0) = true := by simpa using c3))
    (try (have c3b2 : (a0_0 == a1_0) = true := by simpa using c3))
    clear c3
    by_cases c9 : a0_1 = a1_1
    · rw [if_pos c9] at H
      have c9b0 : (a0_1 == a1_1) = true := beq_iff_eq.mpr c9
      have c9b1 : (a0_1 != a1_1) = false := bne_eq_false_iff_eq.mpr c9
      clear c9
      by_cases c10 : a0_2 = a1_2
      · rw [if_pos c10] at H
        have c10b0 : (a0_2 == a1_2) = true := beq_iff_eq.mpr c10
        have c10b1 : (a0_2 != a1_2) = false := bne_eq_false_iff_eq.mpr c10
        clear c10
        replace H := Option.bind_eq_some_iff.mp H
        obtain ⟨t190003, A110, H⟩ := H
        replace H : (if t190003 = true then ((laws_eqLiveS.f k l0_4 l1_4).bind fun t190004 => (if t190004 = true then ((laws_eqWayS.f k l0_5 l1_5).bind fun t190005 => (if t190005 = true then (some true) else (some false))) else (some false))) else (some false)) = some r := H
        have A11 := Aside0.mk A110
        clear A110
        by_cases c12 : t190003 = true
        · subst c12
          have H1 : ((laws_eqLiveS.f k l0_4 l1_4).bind fun t190004 => (if t190004 = true then ((laws_eqWayS.f k l0_5 l1_5).bind fun t190005 => (if t190005 = true then (some true) else (some false))) else (some false))) = some r := by rw [if_pos rfl] at H; exact H
          clear H
          have H := H1
          clear H1
          replace H := Option.bind_eq_some_iff.mp H
          obtain ⟨t190004, A130, H⟩ := H
          replace H : (if t190004 = true then ((laws_eqWayS.f k l0_5 l1_5).bind fun t190005 => (if t190005 = true then (some true) else (some false))) else (some false)) = some r := H
          have A13 := Aside0.mk A130
          clear A130
          by_cases c14 : t190004 = true
          · subst c14
            have H1 : ((laws_eqWayS.f k l0_5 l1_5).bind fun t190005 => (if t190005 = true then (some true) else (some false))) = some r := by rw [if_pos rfl] at H; exact H
            clear H
            have H := H1
            clear H1
            replace H := Option.bind_eq_some_iff.mp H
            obtain ⟨t190005, A150, H⟩ := H
            replace H : (if t190005 = true then (some true) else (some false)) = some r := H
            have A15 := Aside0.mk A150
            clear A150
            by_cases c16 : t190005 = true
            · subst c16
              have H1 : (some true) = some r := by rw [if_pos rfl] at H; exact H
              clear H
              have H := H1
              clear H1
              obtain rfl := Option.some.inj H
              go_enter Try.func18, Try.ntmps18
              go_wp2_with (first | ((with_reducible refine gate_dst (N := 2) rfl ?_); refine box_event ?hg (N := 2) ?hd (cs := #[.bool a0_0, .int .i64 a0_1, .int .i64 a0_2, .slice A0_3 l0_3.length c0_3, .slice A0_4 l0_4.length c0_4, .slice A0_5 l0_5.length c0_5]) (t := 35) ?hr ?_; (case hd => rfl); (case hg => rfl); (case hr => first | (go_simp; done) | (go_simp; rfl)); intro gb190001 hg w17 hbox hb; have n0_ := Aside0.mk (below_step (by zb) hb); have n1_ := Aside0.mk (hbox); have n2_ := Aside0.mk ((by rw [hg]; exact (below_size (by zb)) : w.heap.size ≤ gb190001)); have n3_ := Aside0.mk ((by rw [hg]; exact (below_size (by zb)) : w.heap.size ≤ gb190001)); clear HB; have HB := n0_; have BK190001 := n1_; have GW190001 := n2_; have GE190001 := n3_; clear n0_ n1_ n2_ n3_; clear hb hbox hg) | ((with_reducible refine gate_dst (N := 3) rfl ?_); refine box_event ?hg (N := 3) ?hd (cs := #[.bool a1_0, .int .i64 a1_1, .int .i64 a1_2, .slice A1_3 l1_3.length c1_3, .slice A1_4 l1_4.length c1_4, .slice A1_5 l1_5.length c1_5]) (t := 35) ?hr ?_; (case hd => rfl); (case hg => rfl); (case hr => first | (go_simp; done) | (go_simp; rfl)); intro gb190002 hg w18 hbox hb; have n0_ := Aside0.mk (blk_below (g := gb190001) (o := .cells #[.bool a0_0, .int .i64 a0_1, .int .i64 a0_2, .slice A0_3 l0_3.length c0_3, .slice A0_4 l0_4.length c0_4, .slice A0_5 l0_5.length c0_5] 35 (0, 0)) (by zk; exact BK190001.out) hb); have n1_ := Aside0.mk (below_step (by zc1) hb); have n2_ := Aside0.mk (hbox); have n3_ := Aside0.mk ((by rw [hg]; exact (below_size (by zc1)) : w.heap.size ≤ gb190002)); have n4_ := Aside0.mk ((by rw [hg]; exact (below_size (by zc1)) : w.heap.size ≤ gb190002)); have n5_ := Aside0.mk ((by rw [hg]; exact Nat.ne_of_lt (blk_lt (g := gb190001) (o := .cells #[.bool a0_0, .int .i64 a0_1, .int .i64 a0_2, .slice A0_3 l0_3.length c0_3, .slice A0_4 l0_4.length c0_4, .slice A0_5 l0_5.length c0_5] 35 (0, 0)) (by zk; exact BK190001.out)) : gb190001 ≠ gb190002)); have n6_ := Aside0.mk ((by rw [hg]; exact Nat.ne_of_gt (blk_lt (g := gb190001) (o := .cells #[.bool a0_0, .int .i64 a0_1, .int .i64 a0_2, .slice A0_3 l0_3.length c0_3, .slice A0_4 l0_4.length c0_4, .slice A0_5 l0_5.length c0_5] 35 (0, 0)) (by zk; exact BK190001.out)) : gb190002 ≠ gb190001)); clear BK190001; clear HB; have BK190001 := n0_; have HB := n1_; have BK190002 := n2_; have GW190002 := n3_; have GE190002 := n4_; have NB190001_190002 := n5_; have NB190002_190001 := n6_; clear n0_ n1_ n2_ n3_ n4_ n5_ n6_; clear hb hbox hg; have hnb19 := NB190001_190002.out; have hnc19 := NB190002_190001.out; have hcz20_0 : w18.cell? ⟨gb190001, 0, none⟩ = some (.bool a0_0) := (blk_cell BK190001.out 0).trans rfl; have hcz20_1 : w18.cell? ⟨gb190001, 1, none⟩ = some (.int .i64 a0_1) := (blk_cell BK190001.out 1).trans rfl; have hcz20_2 : w18.cell? ⟨gb190001, 2, none⟩ = some (.int .i64 a0_2) := (blk_cell BK190001.out 2).trans rfl; have hcz20_3 : w18.cell? ⟨gb190001, 3, none⟩ = some (.slice A0_3 l0_3.length c0_3) := (blk_cell BK190001.out 3).trans rfl; have hcz20_4 : w18.cell? ⟨gb190001, 4, none⟩ = some (.slice A0_4 l0_4.length c0_4) := (blk_cell BK190001.out 4).trans rfl; have hcz20_5 : w18.cell? ⟨gb190001, 5, none⟩ = some (.slice A0_5 l0_5.length c0_5) := (blk_cell BK190001.out 5).trans rfl; have hfz20_0 := blk_frozen BK190001.out 0; have hfz20_1 := blk_frozen BK190001.out 1; have hfz20_2 := blk_frozen BK190001.out 2; have hfz20_3 := blk_frozen BK190001.out 3; have hfz20_4 := blk_frozen BK190001.out 4; have hfz20_5 := blk_frozen BK190001.out 5; have hcz21_0 : w18.cell? ⟨gb190002, 0, none⟩ = some (.bool a1_0) := (blk_cell BK190002.out 0).trans rfl; have hcz21_1 : w18.cell? ⟨gb190002, 1, none⟩ = some (.int .i64 a1_1) := (blk_cell BK190002.out 1).trans rfl; have hcz21_2 : w18.cell? ⟨gb190002, 2, none⟩ = some (.int .i64 a1_2) := (blk_cell BK190002.out 2).trans rfl; have hcz21_3 : w18.cell? ⟨gb190002, 3, none⟩ = some (.slice A1_3 l1_3.length c1_3) := (blk_cell BK190002.out 3).trans rfl; have hcz21_4 : w18.cell? ⟨gb190002, 4, none⟩ = some (.slice A1_4 l1_4.length c1_4) := (blk_cell BK190002.out 4).trans rfl; have hcz21_5 : w18.cell? ⟨gb190002, 5, none⟩ = some (.slice A1_5 l1_5.length c1_5) := (blk_cell BK190002.out 5).trans rfl; have hfz21_0 := blk_frozen BK190002.out 0; have hfz21_1 := blk_frozen BK190002.out 1; have hfz21_2 := blk_frozen BK190002.out 2; have hfz21_3 := blk_frozen BK190002.out 3; have hfz21_4 := blk_frozen BK190002.out 4; have hfz21_5 := blk_frozen BK190002.out 5) | ((with_reducible refine gate_callee (f := 43) rfl ?_); refine goesL_ (some 24) rfl rfl Try.func43 (by kernel_rfl) rfl #[.slice A0_3 l0_3.length c0_3, .slice A1_3 l1_3.length c1_3] rfl (by zl) ?_; (with_reducible refine (laws_eqRecordS.calls k _ _ l0_3 _ _ l1_3 true _ ?side1 ?side2 ?side3 ?side4 A11.out).mono ?_); (case side1 => repeat (first | exact (Kd.C_below HR0_3.out HB.out) | (with_reducible refine Kd.C_alloc ?_ _) | (with_reducible refine Kd.C_drewN ?_ _) | (with_reducible refine Kd.C_drew ?_))); (case side2 => exact HC0_3.out); (case side3 => repeat (first | exact (Kd.C_below HR1_3.out HB.out) | (with_reducible refine Kd.C_alloc ?_ _) | (with_reducible refine Kd.C_drewN ?_ _) | (with_reducible refine Kd.C_drew ?_))); (case side4 => exact HC1_3.out); rintro e w22 ⟨rfl, hb⟩; refine ⟨_, rfl, ?_⟩; have n0_ := Aside0.mk (blk_below (g := gb190001) (o := .cells #[.bool a0_0, .int .i64 a0_1, .int .i64 a0_2, .slice A0_3 l0_3.length c0_3, .slice A0_4 l0_4.length c0_4, .slice A0_5 l0_5.length c0_5] 35 (0, 0)) (by zk; exact BK190001.out) hb); have n1_ := Aside0.mk (blk_below (g := gb190002) (o := .cells #[.bool a1_0, .int .i64 a1_1, .int .i64 a1_2, .slice A1_3 l1_3.length c1_3, .slice A1_4 l1_4.length c1_4, .slice A1_5 l1_5.length c1_5] 35 (0, 0)) (by zk; exact BK190002.out) hb); have n2_ := Aside0.mk (below_step (by zc0) hb); clear BK190001; clear BK190002; clear HB; have BK190001 := n0_; have BK190002 := n1_; have HB := n2_; clear n0_ n1_ n2_; (try clear hb); (try clear hb2); (try clear hk); (try clear hi); have hcz23_0 : w22.cell? ⟨gb190001, 0, none⟩ = some (.bool a0_0) := (blk_cell BK190001.out 0).trans rfl; have hcz23_1 : w22.cell? ⟨gb190001, 1, none⟩ = some (.int .i64 a0_1) := (blk_cell BK190001.out 1).trans rfl; have hcz23_2 : w22.cell? ⟨gb190001, 2, none⟩ = some (.int .i64 a0_2) := (blk_cell BK190001.out 2).trans rfl; have hcz23_3 : w22.cell? ⟨gb190001, 3, none⟩ = some (.slice A0_3 l0_3.length c0_3) := (blk_cell BK190001.out 3).trans rfl; have hcz23_4 : w22.cell? ⟨gb190001, 4, none⟩ = some (.slice A0_4 l0_4.length c0_4) := (blk_cell BK190001.out 4).trans rfl; have hcz23_5 : w22.cell? ⟨gb190001, 5, none⟩ = some (.slice A0_5 l0_5.length c0_5) := (blk_cell BK190001.out 5).trans rfl; have hfz23_0 := blk_frozen BK190001.out 0; have hfz23_1 := blk_frozen BK190001.out 1; have hfz23_2 := blk_frozen BK190001.out 2; have hfz23_3 := blk_frozen BK190001.out 3; have hfz23_4 := blk_frozen BK190001.out 4; have hfz23_5 := blk_frozen BK190001.out 5; have hcz24_0 : w22.cell? ⟨gb190002, 0, none⟩ = some (.bool a1_0) := (blk_cell BK190002.out 0).trans rfl; have hcz24_1 : w22.cell? ⟨gb190002, 1, none⟩ = some (.int .i64 a1_1) := (blk_cell BK190002.out 1).trans rfl; have hcz24_2 : w22.cell? ⟨gb190002, 2, none⟩ = some (.int .i64 a1_2) := (blk_cell BK190002.out 2).trans rfl; have hcz24_3 : w22.cell? ⟨gb190002, 3, none⟩ = some (.slice A1_3 l1_3.length c1_3) := (blk_cell BK190002.out 3).trans rfl; have hcz24_4 : w22.cell? ⟨gb190002, 4, none⟩ = some (.slice A1_4 l1_4.length c1_4) := (blk_cell BK190002.out 4).trans rfl; have hcz24_5 : w22.cell? ⟨gb190002, 5, none⟩ = some (.slice A1_5 l1_5.length c1_5) := (blk_cell BK190002.out 5).trans rfl; have hfz24_0 := blk_frozen BK190002.out 0; have hfz24_1 := blk_frozen BK190002.out 1; have hfz24_2 := blk_frozen BK190002.out 2; have hfz24_3 := blk_frozen BK190002.out 3; have hfz24_4 := blk_frozen BK190002.out 4; have hfz24_5 := blk_frozen BK190002.out 5) | ((with_reducible refine gate_callee (f := 44) rfl ?_); refine goesL_ (some 30) rfl rfl Try.func44 (by kernel_rfl) rfl #[.slice A0_4 l0_4.length c0_4, .slice A1_4 l1_4.length c1_4] rfl (by zl) ?_; (with_reducible refine (laws_eqLiveS.calls k _ _ l0_4 _ _ l1_4 true _ ?side1 ?side2 ?side3 ?side4 A13.out).mono ?_); (case side1 => repeat (first | exact (Kd.C_below HR0_4.out HB.out) | (with_reducible refine Kd.C_alloc ?_ _) | (with_reducible refine Kd.C_drewN ?_ _) | (with_reducible refine Kd.C_drew ?_))); (case side2 => exact HC0_4.out); (case side3 => repeat (first | exact (Kd.C_below HR1_4.out HB.out) | (with_reducible refine Kd.C_alloc ?_ _) | (with_reducible refine Kd.C_drewN ?_ _) | (with_reducible refine Kd.C_drew ?_))); (case side4 => exact HC1_4.out); rintro e w25 ⟨rfl, hb⟩; refine ⟨_, rfl, ?_⟩; have n0_ := Aside0.mk (blk_below (g := gb190001) (o := .cells #[.bool a0_0, .int .i64 a0_1, .int .i64 a0_2, .slice A0_3 l0_3.length c0_3, .slice A0_4 l0_4.length c0_4, .slice A0_5 l0_5.length c0_5] 35 (0, 0)) (by zk; exact BK190001.out) hb); have n1_ := Aside0.mk (blk_below (g := gb190002) (o := .cells #[.bool a1_0, .int .i64 a1_1, .int .i64 a1_2, .slice A1_3 l1_3.length c1_3, .slice A1_4 l1_4.length c1_4, .slice A1_5 l1_5.length c1_5] 35 (0, 0)) (by zk; exact BK190002.out) hb); have n2_ := Aside0.mk (below_step (by zc0) hb); clear BK190001; clear BK190002; clear HB; have BK190001 := n0_; have BK190002 := n1_; have HB := n2_; clear n0_ n1_ n2_; (try clear hb); (try clear hb2); (try clear hk); (try clear hi); have hcz26_0 : w25.cell? ⟨gb190001, 0, none⟩ = some (.bool a0_0) := (blk_cell BK190001.out 0).trans rfl; have hcz26_1 : w25.cell? ⟨gb190001, 1, none⟩ = some (.int .i64 a0_1) := (blk_cell BK190001.out 1).trans rfl; have hcz26_2 : w25.cell? ⟨gb190001, 2, none⟩ = some (.int .i64 a0_2) := (blk_cell BK190001.out 2).trans rfl; have hcz26_3 : w25.cell? ⟨gb190001, 3, none⟩ = some (.slice A0_3 l0_3.length c0_3) := (blk_cell BK190001.out 3).trans rfl; have hcz26_4 : w25.cell? ⟨gb190001, 4, none⟩ = some (.slice A0_4 l0_4.length c0_4) := (blk_cell BK190001.out 4).trans rfl; have hcz26_5 : w25.cell? ⟨gb190001, 5, none⟩ = some (.slice A0_5 l0_5.length c0_5) := (blk_cell BK190001.out 5).trans rfl; have hfz26_0 := blk_frozen BK190001.out 0; have hfz26_1 := blk_frozen BK190001.out 1; have hfz26_2 := blk_frozen BK190001.out 2; have hfz26_3 := blk_frozen BK190001.out 3; have hfz26_4 := blk_frozen BK190001.out 4; have hfz26_5 := blk_frozen BK190001.out 5; have hcz27_0 : w25.cell? ⟨gb190002, 0, none⟩ = some (.bool a1_0) := (blk_cell BK190002.out 0).trans rfl; have hcz27_1 : w25.cell? ⟨gb190002, 1, none⟩ = some (.int .i64 a1_1) := (blk_cell BK190002.out 1).trans rfl; have hcz27_2 : w25.cell? ⟨gb190002, 2, none⟩ = some (.int .i64 a1_2) := (blk_cell BK190002.out 2).trans rfl; have hcz27_3 : w25.cell? ⟨gb190002, 3, none⟩ = some (.slice A1_3 l1_3.length c1_3) := (blk_cell BK190002.out 3).trans rfl; have hcz27_4 : w25.cell? ⟨gb190002, 4, none⟩ = some (.slice A1_4 l1_4.length c1_4) := (blk_cell BK190002.out 4).trans rfl; have hcz27_5 : w25.cell? ⟨gb190002, 5, none⟩ = some (.slice A1_5 l1_5.length c1_5) := (blk_cell BK190002.out 5).trans rfl; have hfz27_0 := blk_frozen BK190002.out 0; have hfz27_1 := blk_frozen BK190002.out 1; have hfz27_2 := blk_frozen BK190002.out 2; have hfz27_3 := blk_frozen BK190002.out 3; have hfz27_4 := blk_frozen BK190002.out 4; have hfz27_5 := blk_frozen BK190002.out 5) | ((with_reducible refine gate_callee (f := 45) rfl ?_); refine goesL_ (some 36) rfl rfl Try.func45 (by kernel_rfl) rfl #[.slice A0_5 l0_5.length c0_5, .slice A1_5 l1_5.length c1_5] rfl (by zl) ?_; (with_reducible refine (laws_eqWayS.calls k _ _ l0_5 _ _ l1_5 true _ ?side1 ?side2 ?side3 ?side4 A15.out).mono ?_); (case side1 => repeat (first | exact (Kd.C_below HR0_5.out HB.out) | (with_reducible refine Kd.C_alloc ?_ _) | (with_reducible refine Kd.C_drewN ?_ _) | (with_reducible refine Kd.C_drew ?_))); (case side2 => exact HC0_5.out); (case side3 => repeat (first | exact (Kd.C_below HR1_5.out HB.out) | (with_reducible refine Kd.C_alloc ?_ _) | (with_reducible refine Kd.C_drewN ?_ _) | (with_reducible refine Kd.C_drew ?_))); (case side4 => exact HC1_5.out); rintro e w28 ⟨rfl, hb⟩; refine ⟨_, rfl, ?_⟩; have n0_ := Aside0.mk (blk_below (g := gb190001) (o := .cells #[.bool a0_0, .int .i64 a0_1, .int .i64 a0_2, .slice A0_3 l0_3.length c0_3, .slice A0_4 l0_4.length c0_4, .slice A0_5 l0_5.length c0_5] 35 (0, 0)) (by zk; exact BK190001.out) hb); have n1_ := Aside0.mk (blk_below (g := gb190002) (o := .cells #[.bool a1_0, .int .i64 a1_1, .int .i64 a1_2, .slice A1_3 l1_3.length c1_3, .slice A1_4 l1_4.length c1_4, .slice A1_5 l1_5.length c1_5] 35 (0, 0)) (by zk; exact BK190002.out) hb); have n2_ := Aside0.mk (below_step (by zc0) hb); clear BK190001; clear BK190002; clear HB; have BK190001 := n0_; have BK190002 := n1_; have HB := n2_; clear n0_ n1_ n2_; (try clear hb); (try clear hb2); (try clear hk); (try clear hi)))
              go_ret
              exact ⟨by first | rfl | (simp [errW_none, errW_some] <;> rfl) | (simp [*, errW_none, errW_some] <;> rfl), by zc0⟩
            · replace c16 := Bool.eq_false_iff.mpr c16
              subst c16
              have H1 : (some false) = some r := by rw [if_neg (show ¬ (false = true) by decide)] at H; exact H
              clear H
              have H := H1
              clear H1
              obtain rfl := Option.some.inj H
              go_enter Try.func18, Try.ntmps18
              go_wp2_with (first | ((with_reducible refine gate_dst (N := 2) rfl ?_); refine box_event ?hg (N := 2) ?hd (cs := #[.bool a0_0, .int .i64 a0_1, .int .i64 a0_2, .slice A0_3 l0_3.length c0_3, .slice A0_4 l0_4.length c0_4, .slice A0_5 l0_5.length c0_5]) (t := 35) ?hr ?_; (case hd => rfl); (case hg => rfl); (case hr => first | (go_simp; done) | (go_simp; rfl)); intro gb190001 hg w29 hbox hb; have n0_ := Aside0.mk (below_step (by zb) hb); have n1_ := Aside0.mk (hbox); have n2_ := Aside0.mk ((by rw [hg]; exact (below_size (by zb)) : w.heap.size ≤ gb190001)); have n3_ := Aside0.mk ((by rw [hg]; exact (below_size (by zb)) : w.heap.size ≤ gb190001)); clear HB; have HB := n0_; have BK190001 := n1_; have GW190001 := n2_; have GE190001 := n3_; clear n0_ n1_ n2_ n3_; clear hb hbox hg) | ((with_reducible refine gate_dst (N := 3) rfl ?_); refine box_event ?hg (N := 3) ?hd (cs := #[.bool a1_0, .int .i64 a1_1, .int .i64 a1_2, .slice A1_3 l1_3.length c1_3, .slice A1_4 l1_4.length c1_4, .slice A1_5 l1_5.length c1_5]) (t := 35) ?hr ?_; (case hd => rfl); (case hg => rfl); (case hr => first | (go_simp; done) | (go_simp; rfl)); intro gb190002 hg w30 hbox hb; have n0_ := Aside0.mk (blk_below (g := gb190001) (o := .cells #[.bool a0_0, .int .i64 a0_1, .int .i64 a0_2, .slice A0_3 l0_3.length c0_3, .slice A0_4 l0_4.length c0_4, .slice A0_5 l0_5.length c0_5] 35 (0, 0)) (by zk; exact BK190001.out) hb); have n1_ := Aside0.mk (below_step (by zc1) hb); have n2_ := Aside0.mk (hbox); have n3_ := Aside0.mk ((by rw [hg]; exact (below_size (by zc1)) : w.heap.size ≤ gb190002)); have n4_ := Aside0.mk ((by rw [hg]; exact (below_size (by zc1)) : w.heap.size ≤ gb190002)); have n5_ := Aside0.mk ((by rw [hg]; exact Nat.ne_of_lt (blk_lt (g := gb190001) (o := .cells #[.bool a0_0, .int .i64 a0_1, .int .i64 a0_2, .slice A0_3 l0_3.length c0_3, .slice A0_4 l0_4.length c0_4, .slice A0_5 l0_5.length c0_5] 35 (0, 0)) (by zk; exact BK190001.out)) : gb190001 ≠ gb190002)); have n6_ := Aside0.mk ((by rw [hg]; exact Nat.ne_of_gt (blk_lt (g := gb190001) (o := .cells #[.bool a0_0, .int .i64 a0_1, .int .i64 a0_2, .slice A0_3 l0_3.length c0_3, .slice A0_4 l0_4.length c0_4, .slice A0_5 l0_5.length c0_5] 35 (0, 0)) (by zk; exact BK190001.out)) : gb190002 ≠ gb190001)); clear BK190001; clear HB; have BK190001 := n0_; have HB := n1_; have BK190002 := n2_; have GW190002 := n3_; have GE190002 := n4_; have NB190001_190002 := n5_; have NB190002_190001 := n6_; clear n0_ n1_ n2_ n3_ n4_ n5_ n6_; clear hb hbox hg; have hnb31 := NB190001_190002.out; have hnc31 := NB190002_190001.out; have hcz32_0 : w30.cell? ⟨gb190001, 0, none⟩ = some (.bool a0_0) := (blk_cell BK190001.out 0).trans rfl; have hcz32_1 : w30.cell? ⟨gb190001, 1, none⟩ = some (.int .i64 a0_1) := (blk_cell BK190001.out 1).trans rfl; have hcz32_2 : w30.cell? ⟨gb190001, 2, none⟩ = some (.int .i64 a0_2) := (blk_cell BK190001.out 2).trans rfl; have hcz32_3 : w30.cell? ⟨gb190001, 3, none⟩ = some (.slice A0_3 l0_3.length c0_3) := (blk_cell BK190001.out 3).trans rfl; have hcz32_4 : w30.cell? ⟨gb190001, 4, none⟩ = some (.slice A0_4 l0_4.length c0_4) := (blk_cell BK190001.out 4).trans rfl; have hcz32_5 : w30.cell? ⟨gb190001, 5, none⟩ = some (.slice A0_5 l0_5.length c0_5) := (blk_cell BK190001.out 5).trans rfl; have hfz32_0 := blk_frozen BK190001.out 0; have hfz32_1 := blk_frozen BK190001.out 1; have hfz32_2 := blk_frozen BK190001.out 2; have hfz32_3 := blk_frozen BK190001.out 3; have hfz32_4 := blk_frozen BK190001.out 4; have hfz32_5 := blk_frozen BK190001.out 5; have hcz33_0 : w30.cell? ⟨gb190002, 0, none⟩ = some (.bool a1_0) := (blk_cell BK190002.out 0).trans rfl; have hcz33_1 : w30.cell? ⟨gb190002, 1, none⟩ = some (.int .i64 a1_1) := (blk_cell BK190002.out 1).trans rfl; have hcz33_2 : w30.cell? ⟨gb190002, 2, none⟩ = some (.int .i64 a1_2) := (blk_cell BK190002.out 2).trans rfl; have hcz33_3 : w30.cell? ⟨gb190002, 3, none⟩ = some (.slice A1_3 l1_3.length c1_3) := (blk_cell BK190002.out 3).trans rfl; have hcz33_4 : w30.cell? ⟨gb190002, 4, none⟩ = some (.slice A1_4 l1_4.length c1_4) := (blk_cell BK190002.out 4).trans rfl; have hcz33_5 : w30.cell? ⟨gb190002, 5, none⟩ = some (.slice A1_5 l1_5.length c1_5) := (blk_cell BK190002.out 5).trans rfl; have hfz33_0 := blk_frozen BK190002.out 0; have hfz33_1 := blk_frozen BK190002.out 1; have hfz33_2 := blk_frozen BK190002.out 2; have hfz33_3 := blk_frozen BK190002.out 3; have hfz33_4 := blk_frozen BK190002.out 4; have hfz33_5 := blk_frozen BK190002.out 5) | ((with_reducible refine gate_callee (f := 43) rfl ?_); refine goesL_ (some 24) rfl rfl Try.func43 (by kernel_rfl) rfl #[.slice A0_3 l0_3.length c0_3, .slice A1_3 l1_3.length c1_3] rfl (by zl) ?_; (with_reducible refine (laws_eqRecordS.calls k _ _ l0_3 _ _ l1_3 true _ ?side1 ?side2 ?side3 ?side4 A11.out).mono ?_); (case side1 => repeat (first | exact (Kd.C_below HR0_3.out HB.out) | (with_reducible refine Kd.C_alloc ?_ _) | (with_reducible refine Kd.C_drewN ?_ _) | (with_reducible refine Kd.C_drew ?_))); (case side2 => exact HC0_3.out); (case side3 => repeat (first | exact (Kd.C_below HR1_3.out HB.out) | (with_reducible refine Kd.C_alloc ?_ _) | (with_reducible refine Kd.C_drewN ?_ _) | (with_reducible refine Kd.C_drew ?_))); (case side4 => exact HC1_3.out); rintro e w34 ⟨rfl, hb⟩; refine ⟨_, rfl, ?_⟩; have n0_ := Aside0.mk (blk_below (g := gb190001) (o := .cells #[.bool a0_0, .int .i64 a0_1, .int .i64 a0_2, .slice A0_3 l0_3.length c0_3, .slice A0_4 l0_4.length c0_4, .slice A0_5 l0_5.length c0_5] 35 (0, 0)) (by zk; exact BK190001.out) hb); have n1_ := Aside0.mk (blk_below (g := gb190002) (o := .cells #[.bool a1_0, .int .i64 a1_1, .int .i64 a1_2, .slice A1_3 l1_3.length c1_3, .slice A1_4 l1_4.length c1_4, .slice A1_5 l1_5.length c1_5] 35 (0, 0)) (by zk; exact BK190002.out) hb); have n2_ := Aside0.mk (below_step (by zc0) hb); clear BK190001; clear BK190002; clear HB; have BK190001 := n0_; have BK190002 := n1_; have HB := n2_; clear n0_ n1_ n2_; (try clear hb); (try clear hb2); (try clear hk); (try clear hi); have hcz35_0 : w34.cell? ⟨gb190001, 0, none⟩ = some (.bool a0_0) := (blk_cell BK190001.out 0).trans rfl; have hcz35_1 : w34.cell? ⟨gb190001, 1, none⟩ = some (.int .i64 a0_1) := (blk_cell BK190001.out 1).trans rfl; have hcz35_2 : w34.cell? ⟨gb190001, 2, none⟩ = some (.int .i64 a0_2) := (blk_cell BK190001.out 2).trans rfl; have hcz35_3 : w34.cell? ⟨gb190001, 3, none⟩ = some (.slice A0_3 l0_3.length c0_3) := (blk_cell BK190001.out 3).trans rfl; have hcz35_4 : w34.cell? ⟨gb190001, 4, none⟩ = some (.slice A0_4 l0_4.length c0_4) := (blk_cell BK190001.out 4).trans rfl; have hcz35_5 : w34.cell? ⟨gb190001, 5, none⟩ = some (.slice A0_5 l0_5.length c0_5) := (blk_cell BK190001.out 5).trans rfl; have hfz35_0 := blk_frozen BK190001.out 0; have hfz35_1 := blk_frozen BK190001.out 1; have hfz35_2 := blk_frozen BK190001.out 2; have hfz35_3 := blk_frozen BK190001.out 3; have hfz35_4 := blk_frozen BK190001.out 4; have hfz35_5 := blk_frozen BK190001.out 5; have hcz36_0 : w34.cell? ⟨gb190002, 0, none⟩ = some (.bool a1_0) := (blk_cell BK190002.out 0).trans rfl; have hcz36_1 : w34.cell? ⟨gb190002, 1, none⟩ = some (.int .i64 a1_1) := (blk_cell BK190002.out 1).trans rfl; have hcz36_2 : w34.cell? ⟨gb190002, 2, none⟩ = some (.int .i64 a1_2) := (blk_cell BK190002.out 2).trans rfl; have hcz36_3 : w34.cell? ⟨gb190002, 3, none⟩ = some (.slice A1_3 l1_3.length c1_3) := (blk_cell BK190002.out 3).trans rfl; have hcz36_4 : w34.cell? ⟨gb190002, 4, none⟩ = some (.slice A1_4 l1_4.length c1_4) := (blk_cell BK190002.out 4).trans rfl; have hcz36_5 : w34.cell? ⟨gb190002, 5, none⟩ = some (.slice A1_5 l1_5.length c1_5) := (blk_cell BK190002.out 5).trans rfl; have hfz36_0 := blk_frozen BK190002.out 0; have hfz36_1 := blk_frozen BK190002.out 1; have hfz36_2 := blk_frozen BK190002.out 2; have hfz36_3 := blk_frozen BK190002.out 3; have hfz36_4 := blk_frozen BK190002.out 4; have hfz36_5 := blk_frozen BK190002.out 5) | ((with_reducible refine gate_callee (f := 44) rfl ?_); refine goesL_ (some 30) rfl rfl Try.func44 (by kernel_rfl) rfl #[.slice A0_4 l0_4.length c0_4, .slice A1_4 l1_4.length c1_4] rfl (by zl) ?_; (with_reducible refine (laws_eqLiveS.calls k _ _ l0_4 _ _ l1_4 true _ ?side1 ?side2 ?side3 ?side4 A13.out).mono ?_); (case side1 => repeat (first | exact (Kd.C_below HR0_4.out HB.out) | (with_reducible refine Kd.C_alloc ?_ _) | (with_reducible refine Kd.C_drewN ?_ _) | (with_reducible refine Kd.C_drew ?_))); (case side2 => exact HC0_4.out); (case side3 => repeat (first | exact (Kd.C_below HR1_4.out HB.out) | (with_reducible refine Kd.C_alloc ?_ _) | (with_reducible refine Kd.C_drewN ?_ _) | (with_reducible refine Kd.C_drew ?_))); (case side4 => exact HC1_4.out); rintro e w37 ⟨rfl, hb⟩; refine ⟨_, rfl, ?_⟩; have n0_ := Aside0.mk (blk_below (g := gb190001) (o := .cells #[.bool a0_0, .int .i64 a0_1, .int .i64 a0_2, .slice A0_3 l0_3.length c0_3, .slice A0_4 l0_4.length c0_4, .slice A0_5 l0_5.length c0_5] 35 (0, 0)) (by zk; exact BK190001.out) hb); have n1_ := Aside0.mk (blk_below (g := gb190002) (o := .cells #[.bool a1_0, .int .i64 a1_1, .int .i64 a1_2, .slice A1_3 l1_3.length c1_3, .slice A1_4 l1_4.length c1_4, .slice A1_5 l1_5.length c1_5] 35 (0, 0)) (by zk; exact BK190002.out) hb); have n2_ := Aside0.mk (below_step (by zc0) hb); clear BK190001; clear BK190002; clear HB; have BK190001 := n0_; have BK190002 := n1_; have HB := n2_; clear n0_ n1_ n2_; (try clear hb); (try clear hb2); (try clear hk); (try clear hi); have hcz38_0 : w37.cell? ⟨gb190001, 0, none⟩ = some (.bool a0_0) := (blk_cell BK190001.out 0).trans rfl; have hcz38_1 : w37.cell? ⟨gb190001, 1, none⟩ = some (.int .i64 a0_1) := (blk_cell BK190001.out 1).trans rfl; have hcz38_2 : w37.cell? ⟨gb190001, 2, none⟩ = some (.int .i64 a0_2) := (blk_cell BK190001.out 2).trans rfl; have hcz38_3 : w37.cell? ⟨gb190001, 3, none⟩ = some (.slice A0_3 l0_3.length c0_3) := (blk_cell BK190001.out 3).trans rfl; have hcz38_4 : w37.cell? ⟨gb190001, 4, none⟩ = some (.slice A0_4 l0_4.length c0_4) := (blk_cell BK190001.out 4).trans rfl; have hcz38_5 : w37.cell? ⟨gb190001, 5, none⟩ = some (.slice A0_5 l0_5.length c0_5) := (blk_cell BK190001.out 5).trans rfl; have hfz38_0 := blk_frozen BK190001.out 0; have hfz38_1 := blk_frozen BK190001.out 1; have hfz38_2 := blk_frozen BK190001.out 2; have hfz38_3 := blk_frozen BK190001.out 3; have hfz38_4 := blk_frozen BK190001.out 4; have hfz38_5 := blk_frozen BK190001.out 5; have hcz39_0 : w37.cell? ⟨gb190002, 0, none⟩ = some (.bool a1_0) := (blk_cell BK190002.out 0).trans rfl; have hcz39_1 : w37.cell? ⟨gb190002, 1, none⟩ = some (.int .i64 a1_1) := (blk_cell BK190002.out 1).trans rfl; have hcz39_2 : w37.cell? ⟨gb190002, 2, none⟩ = some (.int .i64 a1_2) := (blk_cell BK190002.out 2).trans rfl; have hcz39_3 : w37.cell? ⟨gb190002, 3, none⟩ = some (.slice A1_3 l1_3.length c1_3) := (blk_cell BK190002.out 3).trans rfl; have hcz39_4 : w37.cell? ⟨gb190002, 4, none⟩ = some (.slice A1_4 l1_4.length c1_4) := (blk_cell BK190002.out 4).trans rfl; have hcz39_5 : w37.cell? ⟨gb190002, 5, none⟩ = some (.slice A1_5 l1_5.length c1_5) := (blk_cell BK190002.out 5).trans rfl; have hfz39_0 := blk_frozen BK190002.out 0; have hfz39_1 := blk_frozen BK190002.out 1; have hfz39_2 := blk_frozen BK190002.out 2; have hfz39_3 := blk_frozen BK190002.out 3; have hfz39_4 := blk_frozen BK190002.out 4; have hfz39_5 := blk_frozen BK190002.out 5) | ((with_reducible refine gate_callee (f := 45) rfl ?_); refine goesL_ (some 36) rfl rfl Try.func45 (by kernel_rfl) rfl #[.slice A0_5 l0_5.length c0_5, .slice A1_5 l1_5.length c1_5] rfl (by zl) ?_; (with_reducible refine (laws_eqWayS.calls k _ _ l0_5 _ _ l1_5 false _ ?side1 ?side2 ?side3 ?side4 A15.out).mono ?_); (case side1 => repeat (first | exact (Kd.C_below HR0_5.out HB.out) | (with_reducible refine Kd.C_alloc ?_ _) | (with_reducible refine Kd.C_drewN ?_ _) | (with_reducible refine Kd.C_drew ?_))); (case side2 => exact HC0_5.out); (case side3 => repeat (first | exact (Kd.C_below HR1_5.out HB.out) | (with_reducible refine Kd.C_alloc ?_ _) | (with_reducible refine Kd.C_drewN ?_ _) | (with_reducible refine Kd.C_drew ?_))); (case side4 => exact HC1_5.out); rintro e w40 ⟨rfl, hb⟩; refine ⟨_, rfl, ?_⟩; have n0_ := Aside0.mk (blk_below (g := gb190001) (o := .cells #[.bool a0_0, .int .i64 a0_1, .int .i64 a0_2, .slice A0_3 l0_3.length c0_3, .slice A0_4 l0_4.length c0_4, .slice A0_5 l0_5.length c0_5] 35 (0, 0)) (by zk; exact BK190001.out) hb); have n1_ := Aside0.mk (blk_below (g := gb190002) (o := .cells #[.bool a1_0, .int .i64 a1_1, .int .i64 a1_2, .slice A1_3 l1_3.length c1_3, .slice A1_4 l1_4.length c1_4, .slice A1_5 l1_5.length c1_5] 35 (0, 0)) (by zk; exact BK190002.out) hb); have n2_ := Aside0.mk (below_step (by zc0) hb); clear BK190001; clear BK190002; clear HB; have BK190001 := n0_; have BK190002 := n1_; have HB := n2_; clear n0_ n1_ n2_; (try clear hb); (try clear hb2); (try clear hk); (try clear hi)))
              go_ret
              exact ⟨by first | rfl | (simp [errW_none, errW_some] <;> rfl) | (simp [*, errW_none, errW_some] <;> rfl), by zc0⟩
          · replace c14 := Bool.eq_false_iff.mpr c14
            subst c14
            have H1 : (some false) = some r := by rw [if_neg (show ¬ (false = true) by decide)] at H; exact H
            clear H
            have H := H1
            clear H1
            obtain rfl := Option.some.inj H
            go_enter Try.func18, Try.ntmps18
            go_wp2_with (first | ((with_reducible refine gate_dst (N := 2) rfl ?_); refine box_event ?hg (N := 2) ?hd (cs := #[.bool a0_0, .int .i64 a0_1, .int .i64 a0_2, .slice A0_3 l0_3.length c0_3, .slice A0_4 l0_4.length c0_4, .slice A0_5 l0_5.length c0_5]) (t := 35) ?hr ?_; (case hd => rfl); (case hg => rfl); (case hr => first | (go_simp; done) | (go_simp; rfl)); intro gb190001 hg w41 hbox hb; have n0_ := Aside0.mk (below_step (by zb) hb); have n1_ := Aside0.mk (hbox); have n2_ := Aside0.mk ((by rw [hg]; exact (below_size (by zb)) : w.heap.size ≤ gb190001)); have n3_ := Aside0.mk ((by rw [hg]; exact (below_size (by zb)) : w.heap.size ≤ gb190001)); clear HB; have HB := n0_; have BK190001 := n1_; have GW190001 := n2_; have GE190001 := n3_; clear n0_ n1_ n2_ n3_; clear hb hbox hg) | ((with_reducible refine gate_dst (N := 3) rfl ?_); refine box_event ?hg (N := 3) ?hd (cs := #[.bool a1_0, .int .i64 a1_1, .int .i64 a1_2, .slice A1_3 l1_3.length c1_3, .slice A1_4 l1_4.length c1_4, .slice A1_5 l1_5.length c1_5]) (t := 35) ?hr ?_; (case hd => rfl); (case hg => rfl); (case hr => first | (go_simp; done) | (go_simp; rfl)); intro gb190002 hg w42 hbox hb; have n0_ := Aside0.mk (blk_below (g := gb190001) (o := .cells #[.bool a0_0, .int .i64 a0_1, .int .i64 a0_2, .slice A0_3 l0_3.length c0_3, .slice A0_4 l0_4.length c0_4, .slice A0_5 l0_5.length c0_5] 35 (0, 0)) (by zk; exact BK190001.out) hb); have n1_ := Aside0.mk (below_step (by zc1) hb); have n2_ := Aside0.mk (hbox); have n3_ := Aside0.mk ((by rw [hg]; exact (below_size (by zc1)) : w.heap.size ≤ gb190002)); have n4_ := Aside0.mk ((by rw [hg]; exact (below_size (by zc1)) : w.heap.size ≤ gb190002)); have n5_ := Aside0.mk ((by rw [hg]; exact Nat.ne_of_lt (blk_lt (g := gb190001) (o := .cells #[.bool a0_0, .int .i64 a0_1, .int .i64 a0_2, .slice A0_3 l0_3.length c0_3, .slice A0_4 l0_4.length c0_4, .slice A0_5 l0_5.length c0_5] 35 (0, 0)) (by zk; exact BK190001.out)) : gb190001 ≠ gb190002)); have n6_ := Aside0.mk ((by rw [hg]; exact Nat.ne_of_gt (blk_lt (g := gb190001) (o := .cells #[.bool a0_0, .int .i64 a0_1, .int .i64 a0_2, .slice A0_3 l0_3.length c0_3, .slice A0_4 l0_4.length c0_4, .slice A0_5 l0_5.length c0_5] 35 (0, 0)) (by zk; exact BK190001.out)) : gb190002 ≠ gb190001)); clear BK190001; clear HB; have BK190001 := n0_; have HB := n1_; have BK190002 := n2_; have GW190002 := n3_; have GE190002 := n4_; have NB190001_190002 := n5_; have NB190002_190001 := n6_; clear n0_ n1_ n2_ n3_ n4_ n5_ n6_; clear hb hbox hg; have hnb43 := NB190001_190002.out; have hnc43 := NB190002_190001.out; have hcz44_0 : w42.cell? ⟨gb190001, 0, none⟩ = some (.bool a0_0) := (blk_cell BK190001.out 0).trans rfl; have hcz44_1 : w42.cell? ⟨gb190001, 1, none⟩ = some (.int .i64 a0_1) := (blk_cell BK190001.out 1).trans rfl; have hcz44_2 : w42.cell? ⟨gb190001, 2, none⟩ = some (.int .i64 a0_2) := (blk_cell BK190001.out 2).trans rfl; have hcz44_3 : w42.cell? ⟨gb190001, 3, none⟩ = some (.slice A0_3 l0_3.length c0_3) := (blk_cell BK190001.out 3).trans rfl; have hcz44_4 : w42.cell? ⟨gb190001, 4, none⟩ = some (.slice A0_4 l0_4.length c0_4) := (blk_cell BK190001.out 4).trans rfl; have hcz44_5 : w42.cell? ⟨gb190001, 5, none⟩ = some (.slice A0_5 l0_5.length c0_5) := (blk_cell BK190001.out 5).trans rfl; have hfz44_0 := blk_frozen BK190001.out 0; have hfz44_1 := blk_frozen BK190001.out 1; have hfz44_2 := blk_frozen BK190001.out 2; have hfz44_3 := blk_frozen BK190001.out 3; have hfz44_4 := blk_frozen BK190001.out 4; have hfz44_5 := blk_frozen BK190001.out 5; have hcz45_0 : w42.cell? ⟨gb190002, 0, none⟩ = some (.bool a1_0) := (blk_cell BK190002.out 0).trans rfl; have hcz45_1 : w42.cell? ⟨gb190002, 1, none⟩ = some (.int .i64 a1_1) := (blk_cell BK190002.out 1).trans rfl; have hcz45_2 : w42.cell? ⟨gb190002, 2, none⟩ = some (.int .i64 a1_2) := (blk_cell BK190002.out 2).trans rfl; have hcz45_3 : w42.cell? ⟨gb190002, 3, none⟩ = some (.slice A1_3 l1_3.length c1_3) := (blk_cell BK190002.out 3).trans rfl; have hcz45_4 : w42.cell? ⟨gb190002, 4, none⟩ = some (.slice A1_4 l1_4.length c1_4) := (blk_cell BK190002.out 4).trans rfl; have hcz45_5 : w42.cell? ⟨gb190002, 5, none⟩ = some (.slice A1_5 l1_5.length c1_5) := (blk_cell BK190002.out 5).trans rfl; have hfz45_0 := blk_frozen BK190002.out 0; have hfz45_1 := blk_frozen BK190002.out 1; have hfz45_2 := blk_frozen BK190002.out 2; have hfz45_3 := blk_frozen BK190002.out 3; have hfz45_4 := blk_frozen BK190002.out 4; have hfz45_5 := blk_frozen BK190002.out 5) | ((with_reducible refine gate_callee (f := 43) rfl ?_); refine goesL_ (some 24) rfl rfl Try.func43 (by kernel_rfl) rfl #[.slice A0_3 l0_3.length c0_3, .slice A1_3 l1_3.length c1_3] rfl (by zl) ?_; (with_reducible refine (laws_eqRecordS.calls k _ _ l0_3 _ _ l1_3 true _ ?side1 ?side2 ?side3 ?side4 A11.out).mono ?_); (case side1 => repeat (first | exact (Kd.C_below HR0_3.out HB.out) | (with_reducible refine Kd.C_alloc ?_ _) | (with_reducible refine Kd.C_drewN ?_ _) | (with_reducible refine Kd.C_drew ?_))); (case side2 => exact HC0_3.out); (case side3 => repeat (first | exact (Kd.C_below HR1_3.out HB.out) | (with_reducible refine Kd.C_alloc ?_ _) | (with_reducible refine Kd.C_drewN ?_ _) | (with_reducible refine Kd.C_drew ?_))); (case side4 => exact HC1_3.out); rintro e w46 ⟨rfl, hb⟩; refine ⟨_, rfl, ?_⟩; have n0_ := Aside0.mk (blk_below (g := gb190001) (o := .cells #[.bool a0_0, .int .i64 a0_1, .int .i64 a0_2, .slice A0_3 l0_3.length c0_3, .slice A0_4 l0_4.length c0_4, .slice A0_5 l0_5.length c0_5] 35 (0, 0)) (by zk; exact BK190001.out) hb); have n1_ := Aside0.mk (blk_below (g := gb190002) (o := .cells #[.bool a1_0, .int .i64 a1_1, .int .i64 a1_2, .slice A1_3 l1_3.length c1_3, .slice A1_4 l1_4.length c1_4, .slice A1_5 l1_5.length c1_5] 35 (0, 0)) (by zk; exact BK190002.out) hb); have n2_ := Aside0.mk (below_step (by zc0) hb); clear BK190001; clear BK190002; clear HB; have BK190001 := n0_; have BK190002 := n1_; have HB := n2_; clear n0_ n1_ n2_; (try clear hb); (try clear hb2); (try clear hk); (try clear hi); have hcz47_0 : w46.cell? ⟨gb190001, 0, none⟩ = some (.bool a0_0) := (blk_cell BK190001.out 0).trans rfl; have hcz47_1 : w46.cell? ⟨gb190001, 1, none⟩ = some (.int .i64 a0_1) := (blk_cell BK190001.out 1).trans rfl; have hcz47_2 : w46.cell? ⟨gb190001, 2, none⟩ = some (.int .i64 a0_2) := (blk_cell BK190001.out 2).trans rfl; have hcz47_3 : w46.cell? ⟨gb190001, 3, none⟩ = some (.slice A0_3 l0_3.length c0_3) := (blk_cell BK190001.out 3).trans rfl; have hcz47_4 : w46.cell? ⟨gb190001, 4, none⟩ = some (.slice A0_4 l0_4.length c0_4) := (blk_cell BK190001.out 4).trans rfl; have hcz47_5 : w46.cell? ⟨gb190001, 5, none⟩ = some (.slice A0_5 l0_5.length c0_5) := (blk_cell BK190001.out 5).trans rfl; have hfz47_0 := blk_frozen BK190001.out 0; have hfz47_1 := blk_frozen BK190001.out 1; have hfz47_2 := blk_frozen BK190001.out 2; have hfz47_3 := blk_frozen BK190001.out 3; have hfz47_4 := blk_frozen BK190001.out 4; have hfz47_5 := blk_frozen BK190001.out 5; have hcz48_0 : w46.cell? ⟨gb190002, 0, none⟩ = some (.bool a1_0) := (blk_cell BK190002.out 0).trans rfl; have hcz48_1 : w46.cell? ⟨gb190002, 1, none⟩ = some (.int .i64 a1_1) := (blk_cell BK190002.out 1).trans rfl; have hcz48_2 : w46.cell? ⟨gb190002, 2, none⟩ = some (.int .i64 a1_2) := (blk_cell BK190002.out 2).trans rfl; have hcz48_3 : w46.cell? ⟨gb190002, 3, none⟩ = some (.slice A1_3 l1_3.length c1_3) := (blk_cell BK190002.out 3).trans rfl; have hcz48_4 : w46.cell? ⟨gb190002, 4, none⟩ = some (.slice A1_4 l1_4.length c1_4) := (blk_cell BK190002.out 4).trans rfl; have hcz48_5 : w46.cell? ⟨gb190002, 5, none⟩ = some (.slice A1_5 l1_5.length c1_5) := (blk_cell BK190002.out 5).trans rfl; have hfz48_0 := blk_frozen BK190002.out 0; have hfz48_1 := blk_frozen BK190002.out 1; have hfz48_2 := blk_frozen BK190002.out 2; have hfz48_3 := blk_frozen BK190002.out 3; have hfz48_4 := blk_frozen BK190002.out 4; have hfz48_5 := blk_frozen BK190002.out 5) | ((with_reducible refine gate_callee (f := 44) rfl ?_); refine goesL_ (some 30) rfl rfl Try.func44 (by kernel_rfl) rfl #[.slice A0_4 l0_4.length c0_4, .slice A1_4 l1_4.length c1_4] rfl (by zl) ?_; (with_reducible refine (laws_eqLiveS.calls k _ _ l0_4 _ _ l1_4 false _ ?side1 ?side2 ?side3 ?side4 A13.out).mono ?_); (case side1 => repeat (first | exact (Kd.C_below HR0_4.out HB.out) | (with_reducible refine Kd.C_alloc ?_ _) | (with_reducible refine Kd.C_drewN ?_ _) | (with_reducible refine Kd.C_drew ?_))); (case side2 => exact HC0_4.out); (case side3 => repeat (first | exact (Kd.C_below HR1_4.out HB.out) | (with_reducible refine Kd.C_alloc ?_ _) | (with_reducible refine Kd.C_drewN ?_ _) | (with_reducible refine Kd.C_drew ?_))); (case side4 => exact HC1_4.out); rintro e w49 ⟨rfl, hb⟩; refine ⟨_, rfl, ?_⟩; have n0_ := Aside0.mk (blk_below (g := gb190001) (o := .cells #[.bool a0_0, .int .i64 a0_1, .int .i64 a0_2, .slice A0_3 l0_3.length c0_3, .slice A0_4 l0_4.length c0_4, .slice A0_5 l0_5.length c0_5] 35 (0, 0)) (by zk; exact BK190001.out) hb); have n1_ := Aside0.mk (blk_below (g := gb190002) (o := .cells #[.bool a1_0, .int .i64 a1_1, .int .i64 a1_2, .slice A1_3 l1_3.length c1_3, .slice A1_4 l1_4.length c1_4, .slice A1_5 l1_5.length c1_5] 35 (0, 0)) (by zk; exact BK190002.out) hb); have n2_ := Aside0.mk (below_step (by zc0) hb); clear BK190001; clear BK190002; clear HB; have BK190001 := n0_; have BK190002 := n1_; have HB := n2_; clear n0_ n1_ n2_; (try clear hb); (try clear hb2); (try clear hk); (try clear hi)))
            go_ret
            exact ⟨by first | rfl | (simp [errW_none, errW_some] <;> rfl) | (simp [*, errW_none, errW_some] <;> rfl), by zc0⟩
        · replace c12 := Bool.eq_false_iff.mpr c12
          subst c12
          have H1 : (some false) = some r := by rw [if_neg (show ¬ (false = true) by decide)] at H; exact H
          clear H
          have H := H1
          clear H1
          obtain rfl := Option.some.inj H
          go_enter Try.func18, Try.ntmps18
          go_wp2_with (first | ((with_reducible refine gate_dst (N := 2) rfl ?_); refine box_event ?hg (N := 2) ?hd (cs := #[.bool a0_0, .int .i64 a0_1, .int .i64 a0_2, .slice A0_3 l0_3.length c0_3, .slice A0_4 l0_4.length c0_4, .slice A0_5 l0_5.length c0_5]) (t := 35) ?hr ?_; (case hd => rfl); (case hg => rfl); (case hr => first | (go_simp; done) | (go_simp; rfl)); intro gb190001 hg w50 hbox hb; have n0_ := Aside0.mk (below_step (by zb) hb); have n1_ := Aside0.mk (hbox); have n2_ := Aside0.mk ((by rw [hg]; exact (below_size (by zb)) : w.heap.size ≤ gb190001)); have n3_ := Aside0.mk ((by rw [hg]; exact (below_size (by zb)) : w.heap.size ≤ gb190001)); clear HB; have HB := n0_; have BK190001 := n1_; have GW190001 := n2_; have GE190001 := n3_; clear n0_ n1_ n2_ n3_; clear hb hbox hg) | ((with_reducible refine gate_dst (N := 3) rfl ?_); refine box_event ?hg (N := 3) ?hd (cs := #[.bool a1_0, .int .i64 a1_1, .int .i64 a1_2, .slice A1_3 l1_3.length c1_3, .slice A1_4 l1_4.length c1_4, .slice A1_5 l1_5.length c1_5]) (t := 35) ?hr ?_; (case hd => rfl); (case hg => rfl); (case hr => first | (go_simp; done) | (go_simp; rfl)); intro gb190002 hg w51 hbox hb; have n0_ := Aside0.mk (blk_below (g := gb190001) (o := .cells #[.bool a0_0, .int .i64 a0_1, .int .i64 a0_2, .slice A0_3 l0_3.length c0_3, .slice A0_4 l0_4.length c0_4, .slice A0_5 l0_5.length c0_5] 35 (0, 0)) (by zk; exact BK190001.out) hb); have n1_ := Aside0.mk (below_step (by zc1) hb); have n2_ := Aside0.mk (hbox); have n3_ := Aside0.mk ((by rw [hg]; exact (below_size (by zc1)) : w.heap.size ≤ gb190002)); have n4_ := Aside0.mk ((by rw [hg]; exact (below_size (by zc1)) : w.heap.size ≤ gb190002)); have n5_ := Aside0.mk ((by rw [hg]; exact Nat.ne_of_lt (blk_lt (g := gb190001) (o := .cells #[.bool a0_0, .int .i64 a0_1, .int .i64 a0_2, .slice A0_3 l0_3.length c0_3, .slice A0_4 l0_4.length c0_4, .slice A0_5 l0_5.length c0_5] 35 (0, 0)) (by zk; exact BK190001.out)) : gb190001 ≠ gb190002)); have n6_ := Aside0.mk ((by rw [hg]; exact Nat.ne_of_gt (blk_lt (g := gb190001) (o := .cells #[.bool a0_0, .int .i64 a0_1, .int .i64 a0_2, .slice A0_3 l0_3.length c0_3, .slice A0_4 l0_4.length c0_4, .slice A0_5 l0_5.length c0_5] 35 (0, 0)) (by zk; exact BK190001.out)) : gb190002 ≠ gb190001)); clear BK190001; clear HB; have BK190001 := n0_; have HB := n1_; have BK190002 := n2_; have GW190002 := n3_; have GE190002 := n4_; have NB190001_190002 := n5_; have NB190002_190001 := n6_; clear n0_ n1_ n2_ n3_ n4_ n5_ n6_; clear hb hbox hg; have hnb52 := NB190001_190002.out; have hnc52 := NB190002_190001.out; have hcz53_0 : w51.cell? ⟨gb190001, 0, none⟩ = some (.bool a0_0) := (blk_cell BK190001.out 0).trans rfl; have hcz53_1 : w51.cell? ⟨gb190001, 1, none⟩ = some (.int .i64 a0_1) := (blk_cell BK190001.out 1).trans rfl; have hcz53_2 : w51.cell? ⟨gb190001, 2, none⟩ = some (.int .i64 a0_2) := (blk_cell BK190001.out 2).trans rfl; have hcz53_3 : w51.cell? ⟨gb190001, 3, none⟩ = some (.slice A0_3 l0_3.length c0_3) := (blk_cell BK190001.out 3).trans rfl; have hcz53_4 : w51.cell? ⟨gb190001, 4, none⟩ = some (.slice A0_4 l0_4.length c0_4) := (blk_cell BK190001.out 4).trans rfl; have hcz53_5 : w51.cell? ⟨gb190001, 5, none⟩ = some (.slice A0_5 l0_5.length c0_5) := (blk_cell BK190001.out 5).trans rfl; have hfz53_0 := blk_frozen BK190001.out 0; have hfz53_1 := blk_frozen BK190001.out 1; have hfz53_2 := blk_frozen BK190001.out 2; have hfz53_3 := blk_frozen BK190001.out 3; have hfz53_4 := blk_frozen BK190001.out 4; have hfz53_5 := blk_frozen BK190001.out 5; have hcz54_0 : w51.cell? ⟨gb190002, 0, none⟩ = some (.bool a1_0) := (blk_cell BK190002.out 0).trans rfl; have hcz54_1 : w51.cell? ⟨gb190002, 1, none⟩ = some (.int .i64 a1_1) := (blk_cell BK190002.out 1).trans rfl; have hcz54_2 : w51.cell? ⟨gb190002, 2, none⟩ = some (.int .i64 a1_2) := (blk_cell BK190002.out 2).trans rfl; have hcz54_3 : w51.cell? ⟨gb190002, 3, none⟩ = some (.slice A1_3 l1_3.length c1_3) := (blk_cell BK190002.out 3).trans rfl; have hcz54_4 : w51.cell? ⟨gb190002, 4, none⟩ = some (.slice A1_4 l1_4.length c1_4) := (blk_cell BK190002.out 4).trans rfl; have hcz54_5 : w51.cell? ⟨gb190002, 5, none⟩ = some (.slice A1_5 l1_5.length c1_5) := (blk_cell BK190002.out 5).trans rfl; have hfz54_0 := blk_frozen BK190002.out 0; have hfz54_1 := blk_frozen BK190002.out 1; have hfz54_2 := blk_frozen BK190002.out 2; have hfz54_3 := blk_frozen BK190002.out 3; have hfz54_4 := blk_frozen BK190002.out 4; have hfz54_5 := blk_frozen BK190002.out 5) | ((with_reducible refine gate_callee (f := 43) rfl ?_); refine goesL_ (some 24) rfl rfl Try.func43 (by kernel_rfl) rfl #[.slice A0_3 l0_3.length c0_3, .slice A1_3 l1_3.length c1_3] rfl (by zl) ?_; (with_reducible refine (laws_eqRecordS.calls k _ _ l0_3 _ _ l1_3 false _ ?side1 ?side2 ?side3 ?side4 A11.out).mono ?_); (case side1 => repeat (first | exact (Kd.C_below HR0_3.out HB.out) | (with_reducible refine Kd.C_alloc ?_ _) | (with_reducible refine Kd.C_drewN ?_ _) | (with_reducible refine Kd.C_drew ?_))); (case side2 => exact HC0_3.out); (case side3 => repeat (first | exact (Kd.C_below HR1_3.out HB.out) | (with_reducible refine Kd.C_alloc ?_ _) | (with_reducible refine Kd.C_drewN ?_ _) | (with_reducible refine Kd.C_drew ?_))); (case side4 => exact HC1_3.out); rintro e w55 ⟨rfl, hb⟩; refine ⟨_, rfl, ?_⟩; have n0_ := Aside0.mk (blk_below (g := gb190001) (o := .cells #[.bool a0_0, .int .i64 a0_1, .int .i64 a0_2, .slice A0_3 l0_3.length c0_3, .slice A0_4 l0_4.length c0_4, .slice A0_5 l0_5.length c0_5] 35 (0, 0)) (by zk; exact BK190001.out) hb); have n1_ := Aside0.mk (blk_below (g := gb190002) (o := .cells #[.bool a1_0, .int .i64 a1_1, .int .i64 a1_2, .slice A1_3 l1_3.length c1_3, .slice A1_4 l1_4.length c1_4, .slice A1_5 l1_5.length c1_5] 35 (0, 0)) (by zk; exact BK190002.out) hb); have n2_ := Aside0.mk (below_step (by zc0) hb); clear BK190001; clear BK190002; clear HB; have BK190001 := n0_; have BK190002 := n1_; have HB := n2_; clear n0_ n1_ n2_; (try clear hb); (try clear hb2); (try clear hk); (try clear hi)))
          go_ret
          exact ⟨by first | rfl | (simp [errW_none, errW_some] <;> rfl) | (simp [*, errW_none, errW_some] <;> rfl), by zc0⟩
      · rw [if_neg c10] at H
        have c10b0 : (a0_2 == a1_2) = false := beq_eq_false_iff_ne.mpr c10
        have c10b1 : (a0_2 != a1_2) = true := bne_iff_ne.mpr c10
        obtain rfl := Option.some.inj H
        go_enter Try.func18, Try.ntmps18
        go_wp2_with (first | ((with_reducible refine gate_dst (N := 2) rfl ?_); refine box_event ?hg (N := 2) ?hd (cs := #[.bool a0_0, .int .i64 a0_1, .int .i64 a0_2, .slice A0_3 l0_3.length c0_3, .slice A0_4 l0_4.length c0_4, .slice A0_5 l0_5.length c0_5]) (t := 35) ?hr ?_; (case hd => rfl); (case hg => rfl); (case hr => first | (go_simp; done) | (go_simp; rfl)); intro gb190001 hg w56 hbox hb; have n0_ := Aside0.mk (below_step (by zb) hb); have n1_ := Aside0.mk (hbox); have n2_ := Aside0.mk ((by rw [hg]; exact (below_size (by zb)) : w.heap.size ≤ gb190001)); have n3_ := Aside0.mk ((by rw [hg]; exact (below_size (by zb)) : w.heap.size ≤ gb190001)); clear HB; have HB := n0_; have BK190001 := n1_; have GW190001 := n2_; have GE190001 := n3_; clear n0_ n1_ n2_ n3_; clear hb hbox hg) | ((with_reducible refine gate_dst (N := 3) rfl ?_); refine box_event ?hg (N := 3) ?hd (cs := #[.bool a1_0, .int .i64 a1_1, .int .i64 a1_2, .slice A1_3 l1_3.length c1_3, .slice A1_4 l1_4.length c1_4, .slice A1_5 l1_5.length c1_5]) (t := 35) ?hr ?_; (case hd => rfl); (case hg => rfl); (case hr => first | (go_simp; done) | (go_simp; rfl)); intro gb190002 hg w57 hbox hb; have n0_ := Aside0.mk (blk_below (g := gb190001) (o := .cells #[.bool a0_0, .int .i64 a0_1, .int .i64 a0_2, .slice A0_3 l0_3.length c0_3, .slice A0_4 l0_4.length c0_4, .slice A0_5 l0_5.length c0_5] 35 (0, 0)) (by zk; exact BK190001.out) hb); have n1_ := Aside0.mk (below_step (by zc1) hb); have n2_ := Aside0.mk (hbox); have n3_ := Aside0.mk ((by rw [hg]; exact (below_size (by zc1)) : w.heap.size ≤ gb190002)); have n4_ := Aside0.mk ((by rw [hg]; exact (below_size (by zc1)) : w.heap.size ≤ gb190002)); have n5_ := Aside0.mk ((by rw [hg]; exact Nat.ne_of_lt (blk_lt (g := gb190001) (o := .cells #[.bool a0_0, .int .i64 a0_1, .int .i64 a0_2, .slice A0_3 l0_3.length c0_3, .slice A0_4 l0_4.length c0_4, .slice A0_5 l0_5.length c0_5] 35 (0, 0)) (by zk; exact BK190001.out)) : gb190001 ≠ gb190002)); have n6_ := Aside0.mk ((by rw [hg]; exact Nat.ne_of_gt (blk_lt (g := gb190001) (o := .cells #[.bool a0_0, .int .i64 a0_1, .int .i64 a0_2, .slice A0_3 l0_3.length c0_3, .slice A0_4 l0_4.length c0_4, .slice A0_5 l0_5.length c0_5] 35 (0, 0)) (by zk; exact BK190001.out)) : gb190002 ≠ gb190001)); clear BK190001; clear HB; have BK190001 := n0_; have HB := n1_; have BK190002 := n2_; have GW190002 := n3_; have GE190002 := n4_; have NB190001_190002 := n5_; have NB190002_190001 := n6_; clear n0_ n1_ n2_ n3_ n4_ n5_ n6_; clear hb hbox hg; have hnb58 := NB190001_190002.out; have hnc58 := NB190002_190001.out; have hcz59_0 : w57.cell? ⟨gb190001, 0, none⟩ = some (.bool a0_0) := (blk_cell BK190001.out 0).trans rfl; have hcz59_1 : w57.cell? ⟨gb190001, 1, none⟩ = some (.int .i64 a0_1) := (blk_cell BK190001.out 1).trans rfl; have hcz59_2 : w57.cell? ⟨gb190001, 2, none⟩ = some (.int .i64 a0_2) := (blk_cell BK190001.out 2).trans rfl; have hcz59_3 : w57.cell? ⟨gb190001, 3, none⟩ = some (.slice A0_3 l0_3.length c0_3) := (blk_cell BK190001.out 3).trans rfl; have hcz59_4 : w57.cell? ⟨gb190001, 4, none⟩ = some (.slice A0_4 l0_4.length c0_4) := (blk_cell BK190001.out 4).trans rfl; have hcz59_5 : w57.cell? ⟨gb190001, 5, none⟩ = some (.slice A0_5 l0_5.length c0_5) := (blk_cell BK190001.out 5).trans rfl; have hfz59_0 := blk_frozen BK190001.out 0; have hfz59_1 := blk_frozen BK190001.out 1; have hfz59_2 := blk_frozen BK190001.out 2; have hfz59_3 := blk_frozen BK190001.out 3; have hfz59_4 := blk_frozen BK190001.out 4; have hfz59_5 := blk_frozen BK190001.out 5; have hcz60_0 : w57.cell? ⟨gb190002, 0, none⟩ = some (.bool a1_0) := (blk_cell BK190002.out 0).trans rfl; have hcz60_1 : w57.cell? ⟨gb190002, 1, none⟩ = some (.int .i64 a1_1) := (blk_cell BK190002.out 1).trans rfl; have hcz60_2 : w57.cell? ⟨gb190002, 2, none⟩ = some (.int .i64 a1_2) := (blk_cell BK190002.out 2).trans rfl; have hcz60_3 : w57.cell? ⟨gb190002, 3, none⟩ = some (.slice A1_3 l1_3.length c1_3) := (blk_cell BK190002.out 3).trans rfl; have hcz60_4 : w57.cell? ⟨gb190002, 4, none⟩ = some (.slice A1_4 l1_4.length c1_4) := (blk_cell BK190002.out 4).trans rfl; have hcz60_5 : w57.cell? ⟨gb190002, 5, none⟩ = some (.slice A1_5 l1_5.length c1_5) := (blk_cell BK190002.out 5).trans rfl; have hfz60_0 := blk_frozen BK190002.out 0; have hfz60_1 := blk_frozen BK190002.out 1; have hfz60_2 := blk_frozen BK190002.out 2; have hfz60_3 := blk_frozen BK190002.out 3; have hfz60_4 := blk_frozen BK190002.out 4; have hfz60_5 := blk_frozen BK190002.out 5))
        go_ret
        exact ⟨by first | rfl | (simp [errW_none, errW_some] <;> rfl) | (simp [*, errW_none, errW_some] <;> rfl), by zc0⟩
    · rw [if_neg c9] at H
      have c9b0 : (a0_1 == a1_1) = false := beq_eq_false_iff_ne.mpr c9
      have c9b1 : (a0_1 != a1_1) = true := bne_iff_ne.mpr c9
      obtain rfl := Option.some.inj H
      go_enter Try.func18, Try.ntmps18
      go_wp2_with (first | ((with_reducible refine gate_dst (N := 2) rfl ?_); refine box_event ?hg (N := 2) ?hd (cs := #[.bool a0_0, .int .i64 a0_1, .int .i64 a0_2, .slice A0_3 l0_3.length c0_3, .slice A0_4 l0_4.length c0_4, .slice A0_5 l0_5.length c0_5]) (t := 35) ?hr ?_; (case hd => rfl); (case hg => rfl); (case hr => first | (go_simp; done) | (go_simp; rfl)); intro gb190001 hg w61 hbox hb; have n0_ := Aside0.mk (below_step (by zb) hb); have n1_ := Aside0.mk (hbox); have n2_ := Aside0.mk ((by rw [hg]; exact (below_size (by zb)) : w.heap.size ≤ gb190001)); have n3_ := Aside0.mk ((by rw [hg]; exact (below_size (by zb)) : w.heap.size ≤ gb190001)); clear HB; have HB := n0_; have BK190001 := n1_; have GW190001 := n2_; have GE190001 := n3_; clear n0_ n1_ n2_ n3_; clear hb hbox hg) | ((with_reducible refine gate_dst (N := 3) rfl ?_); refine box_event ?hg (N := 3) ?hd (cs := #[.bool a1_0, .int .i64 a1_1, .int .i64 a1_2, .slice A1_3 l1_3.length c1_3, .slice A1_4 l1_4.length c1_4, .slice A1_5 l1_5.length c1_5]) (t := 35) ?hr ?_; (case hd => rfl); (case hg => rfl); (case hr => first | (go_simp; done) | (go_simp; rfl)); intro gb190002 hg w62 hbox hb; have n0_ := Aside0.mk (blk_below (g := gb190001) (o := .cells #[.bool a0_0, .int .i64 a0_1, .int .i64 a0_2, .slice A0_3 l0_3.length c0_3, .slice A0_4 l0_4.length c0_4, .slice A0_5 l0_5.length c0_5] 35 (0, 0)) (by zk; exact BK190001.out) hb); have n1_ := Aside0.mk (below_step (by zc1) hb); have n2_ := Aside0.mk (hbox); have n3_ := Aside0.mk ((by rw [hg]; exact (below_size (by zc1)) : w.heap.size ≤ gb190002)); have n4_ := Aside0.mk ((by rw [hg]; exact (below_size (by zc1)) : w.heap.size ≤ gb190002)); have n5_ := Aside0.mk ((by rw [hg]; exact Nat.ne_of_lt (blk_lt (g := gb190001) (o := .cells #[.bool a0_0, .int .i64 a0_1, .int .i64 a0_2, .slice A0_3 l0_3.length c0_3, .slice A0_4 l0_4.length c0_4, .slice A0_5 l0_5.length c0_5] 35 (0, 0)) (by zk; exact BK190001.out)) : gb190001 ≠ gb190002)); have n6_ := Aside0.mk ((by rw [hg]; exact Nat.ne_of_gt (blk_lt (g := gb190001) (o := .cells #[.bool a0_0, .int .i64 a0_1, .int .i64 a0_2, .slice A0_3 l0_3.length c0_3, .slice A0_4 l0_4.length c0_4, .slice A0_5 l0_5.length c0_5] 35 (0, 0)) (by zk; exact BK190001.out)) : gb190002 ≠ gb190001)); clear BK190001; clear HB; have BK190001 := n0_; have HB := n1_; have BK190002 := n2_; have GW190002 := n3_; have GE190002 := n4_; have NB190001_190002 := n5_; have NB190002_190001 := n6_; clear n0_ n1_ n2_ n3_ n4_ n5_ n6_; clear hb hbox hg; have hnb63 := NB190001_190002.out; have hnc63 := NB190002_190001.out; have hcz64_0 : w62.cell? ⟨gb190001, 0, none⟩ = some (.bool a0_0) := (blk_cell BK190001.out 0).trans rfl; have hcz64_1 : w62.cell? ⟨gb190001, 1, none⟩ = some (.int .i64 a0_1) := (blk_cell BK190001.out 1).trans rfl; have hcz64_2 : w62.cell? ⟨gb190001, 2, none⟩ = some (.int .i64 a0_2) := (blk_cell BK190001.out 2).trans rfl; have hcz64_3 : w62.cell? ⟨gb190001, 3, none⟩ = some (.slice A0_3 l0_3.length c0_3) := (blk_cell BK190001.out 3).trans rfl; have hcz64_4 : w62.cell? ⟨gb190001, 4, none⟩ = some (.slice A0_4 l0_4.length c0_4) := (blk_cell BK190001.out 4).trans rfl; have hcz64_5 : w62.cell? ⟨gb190001, 5, none⟩ = some (.slice A0_5 l0_5.length c0_5) := (blk_cell BK190001.out 5).trans rfl; have hfz64_0 := blk_frozen BK190001.out 0; have hfz64_1 := blk_frozen BK190001.out 1; have hfz64_2 := blk_frozen BK190001.out 2; have hfz64_3 := blk_frozen BK190001.out 3; have hfz64_4 := blk_frozen BK190001.out 4; have hfz64_5 := blk_frozen BK190001.out 5; have hcz65_0 : w62.cell? ⟨gb190002, 0, none⟩ = some (.bool a1_0) := (blk_cell BK190002.out 0).trans rfl; have hcz65_1 : w62.cell? ⟨gb190002, 1, none⟩ = some (.int .i64 a1_1) := (blk_cell BK190002.out 1).trans rfl; have hcz65_2 : w62.cell? ⟨gb190002, 2, none⟩ = some (.int .i64 a1_2) := (blk_cell BK190002.out 2).trans rfl; have hcz65_3 : w62.cell? ⟨gb190002, 3, none⟩ = some (.slice A1_3 l1_3.length c1_3) := (blk_cell BK190002.out 3).trans rfl; have hcz65_4 : w62.cell? ⟨gb190002, 4, none⟩ = some (.slice A1_4 l1_4.length c1_4) := (blk_cell BK190002.out 4).trans rfl; have hcz65_5 : w62.cell? ⟨gb190002, 5, none⟩ = some (.slice A1_5 l1_5.length c1_5) := (blk_cell BK190002.out 5).trans rfl; have hfz65_0 := blk_frozen BK190002.out 0; have hfz65_1 := blk_frozen BK190002.out 1; have hfz65_2 := blk_frozen BK190002.out 2; have hfz65_3 := blk_frozen BK190002.out 3; have hfz65_4 := blk_frozen BK190002.out 4; have hfz65_5 := blk_frozen BK190002.out 5))
      go_ret
      exact ⟨by first | rfl | (simp [errW_none, errW_some] <;> rfl) | (simp [*, errW_none, errW_some] <;> rfl), by zc0⟩

/-! ### laws_markIntS: function 57 -/
def laws_markIntS.l0 : Nat → List Int → Int → Int → Option (Int × List Int)
  | 0, _, _, _ => none
  | k + 1, x0, x1, x5 => if x5 < (x0.length : Int) then (if 0 ≤ x5 then (laws_markIntS.l0 k (x0.set (x5 : Int).toNat x1) (wrap64 (x1 + 1)) (wrap64 (x5 + 1))) else (none)) else (some (x1, x0))
def laws_markIntS.f (k : Nat) (l0 : List Int) (a1 : Int) : Option (Int × List Int) := laws_markIntS.l0 k l0 a1 0
theorem laws_markIntS.mono_l : ∀ k, (∀ y0 y1 y2, LeO (laws_markIntS.l0 k y0 y1 y2) (laws_markIntS.l0 (k + 1) y0 y1 y2))
  | 0 => fun _ _ _ r h => by simp [laws_markIntS.l0] at h
  | k + 1 => by
    have ih0 := laws_markIntS.mono_l k
    · intro y0 y1 y2
      unfold laws_markIntS.l0
      repeat' first
      | (with_reducible exact ih0 _ _ _)
      | (with_reducible exact LeO.refl _)
      | (with_reducible exact LeO.none _)
      | (with_reducible refine LeO.ite ?_ ?_)
      | (with_reducible refine LeO.bind ?_ (fun _ => ?_))
      | exact ih0 _ _ _
      | exact LeO.none _
      | refine LeO.ite ?_ ?_
      | refine LeO.bind ?_ (fun _ => ?_)
theorem laws_markIntS.mono : ∀ a0 a1 k, LeO (laws_markIntS.f k a0 a1) (laws_markIntS.f (k + 1) a0 a1) := by
  intro a0 a1 k
  have ih0 := laws_markIntS.mono_l k
  unfold laws_markIntS.f
  repeat' first
      | (with_reducible exact ih0 _ _ _)
      | (with_reducible exact LeO.refl _)
      | (with_reducible exact LeO.none _)
      | (with_reducible refine LeO.ite ?_ ?_)
      | (with_reducible refine LeO.bind ?_ (fun _ => ?_))
      | exact ih0 _ _ _
      | exact LeO.none _
      | refine LeO.ite ?_ ?_
      | refine LeO.bind ?_ (fun _ => ?_)
set_option maxHeartbeats 8000000 in
set_option maxRecDepth 100000 in
theorem laws_markIntS.calls (k : Nat) (P0_ : Nat → Prop) (u9000_ : Value) (l0 : List Int) (a1 : Int) (r1 : Int) (r2 : List Int) (w0 w : World) (hB : Below w0.heap.size w0 w) (ho0 : Kd.R (Kd.int .i64) 3 w w0.heap.size P0_ u9000_ l0) (h : laws_markIntS.f k l0 a1 = some (r1, r2)) :
    Calls Try.prog 57 #[u9000_, .int .i64 a1] w fun e w' => e = .returned (.int .i64 r1) ∧ Kd.R (Kd.int .i64) 3 w' w0.heap.size (fun k_ => (P0_ k_ ∨ w.heap.size ≤ k_)) u9000_ r2 ∧ Below w0.heap.size w0 w' ∧ Kept w w' (fun k_ => P0_ k_) := by
  have HO0 := Aside0.mk (show Kd.R (Kd.int .i64) 3 w w0.heap.size (fun k_ => (P0_ k_ ∨ w.heap.size ≤ k_)) u9000_ l0 from Kd.R_mono ho0 (fun k_ hk => (.inl hk)))
  have HK := Aside0.mk (Kept.refl w (fun k_ => P0_ k_))
  have HW0 := Aside0.mk hB.size
  have HB := Aside0.mk hB
  clear hB
  have H : (laws_markIntS.l0 k l0 a1 0) = some (r1, r2) := h
  clear h
  have H' := Aside0.mk H
  clear H
  go_enter Try.func57, Try.ntmps57
  go_wp2
  go_loopg [1, 5] k (fun kq v1 v5 w' => ∃ (x0_1 : List Int) (x1_1 : Int) (x5_1 : Int), v1 = .int .i64 x1_1 ∧ v5 = .int .i64 x5_1 ∧ Aside0 (laws_markIntS.l0 kq x0_1 x1_1 x5_1 = some (r1, r2)) ∧ Aside0 (kq ≤ k) ∧ Aside0 (Kd.R (Kd.int .i64) 3 w' w0.heap.size (fun k_ => (P0_ k_ ∨ w.heap.size ≤ k_)) u9000_ x0_1) ∧ Aside0 (Kept w w' (fun k_ => P0_ k_)) ∧ Aside0 (Below w0.heap.size w0 w'))
  case atStart => exact ⟨(l0), (a1), (0), (by first | rfl | (simp; done) | (simp [*]; done)), (by first | rfl | (simp; done) | (simp [*]; done)), H', ⟨Nat.le_refl _⟩, ⟨by zr; exact HO0.out⟩, ⟨by repeat (first | (with_reducible first | exact HK.out | apply Kept.alloc | apply Kept.drewN | apply Kept.drew) | exact HK.out)⟩, ⟨by zb⟩⟩
  case round =>
    clear H'
    try clear p2
    obtain ⟨x0_1, x1_1, x5_1, rfl, rfl, HA, HK1, HO_0, HK, HB⟩ := hrel
    cases gk with
    | zero => exact absurd HA.out (by simp [laws_markIntS.l0])
    | succ k1 =>
      have H := HA.out
      clear HA
      simp only [laws_markIntS.l0] at H
      by_cases c3 : x5_1 < (x0_1.length : Int)
      · rw [if_pos c3] at H
        have c3b0 : decide (x5_1 < (x0_1.length : Int)) = true := decide_eq_true c3
        clear c3
        by_cases c4 : 0 ≤ x5_1
        · rw [if_pos c4] at H
          have c4b0 : decide (0 ≤ x5_1) = true := decide_eq_true c4
          clear c4
          obtain ⟨y580001, hy580001⟩ : ∃ y_ : List Int, y_ = (x0_1.set (x5_1 : Int).toNat x1_1) := ⟨_, rfl⟩
          replace H : (laws_markIntS.l0 k1 y580001 (wrap64 (x1_1 + 1)) (wrap64 (x5_1 + 1))) = some (r1, r2) := by first | (rw [hy580001]; with_reducible exact H) | (have H2_ := (Option.bind_some _ _).symm.trans H; rw [hy580001]; with_reducible exact H2_) | (have H2_ := (Option.bind_some _ _).symm.trans H; with_reducible exact H2_) | with_reducible exact H | (rw [hy580001]; exact H) | exact H
          have Ny580001 := Aside0.mk hy580001
          clear hy580001
          have H' := Aside0.mk H
          clear H
          obtain ⟨Ao6, co6, eo6⟩ := Kd.R_slice HO_0.out
          subst eo6
          have p5 : 0 ≤ (x5_1 : Int) := of_decide_eq_true (by first | (with_reducible assumption) | assumption)
          have q5 : (x5_1 : Int) < ((x0_1.length : Int) : Int) := of_decide_eq_true (by first | (with_reducible assumption) | assumption)
          obtain ⟨go5, co5, eo5, gb5, gl5, cl5, HG5⟩ := Kd.R_form HO_0.out (by omega)
          (first | cases eo5 | (injection eo5 with ea_ en_ ec_; (first | subst ea_ | (injection ea_ with ea_; subst ea_)); subst ec_; clear en_))
          have GB5 := Aside0.mk gb5
          have GG5 := Aside0.mk HG5
          clear gb5 gl5 HG5
          have HMgo5 := Aside0.mk (show (P0_ go5 ∨ w.heap.size ≤ go5) from (HO_0.out.1 _ rfl))
          obtain ⟨hx5_0, hf5_0⟩ := Kd.R_celln 0 HO_0.out (x5_1 : Int) p5 q5
          replace p5 := eq_true p5
          replace q5 := eq_true q5
          have HP7 := Kd.R_putg HO_0.out (x5_1 : Int) x1_1
          go_wp2_with (first | ((with_reducible refine gate_store (t := 3) (p := 15) rfl ?_); refine store_event (t := 3) (p := 15) (v := ?vo_w8) (w1 := (wr.setCell ⟨go5, (x5_1 : Int).toNat, none⟩ (.int .i64 x1_1))) ?hg ?ho ?hn ?hr ?_; (case ho => rfl); (case hg => rfl); (case hn => rfl); (case hr => first | (go_simp; done) | (go_simp; rfl)); intro w8 hw; have hg : wr.grownBy w8 (some go5) := (by rw [hw]; exact HP7.2); have hp_ : Kd.R (Kd.int .i64) 3 w8 w0.heap.size (fun k_ => (P0_ k_ ∨ w.heap.size ≤ k_)) (.slice (some ⟨go5, 0, none⟩) x0_1.length co6) y580001 := (by rw [hw, Ny580001.out]; exact HP7.1); clear HP7; have n0_ := Aside0.mk (hp_); have n1_ := Aside0.mk ((by rw [hw]; exact below_set (HB.out) GB5.out : Below w0.heap.size w0 w8)); have n2_ := Aside0.mk (Kept.of_grown (S := (fun k_ => P0_ k_)) hg (by repeat (first | (with_reducible first | exact HK.out | apply Kept.alloc | apply Kept.drewN | apply Kept.drew) | exact HK.out)) (fun k_ e_ => (HO_0.out.1 k_ e_))); clear HO_0; clear HB; clear HK; have HO_0 := n0_; have HB := n1_; have HK := n2_; clear n0_ n1_ n2_; clear hg hw hp_))
          go_roundg k1
          case measure => have := HK1.out; omega
          case rel => exact ⟨(y580001), (wrap64 (x1_1 + 1)), (wrap64 (x5_1 + 1)), (by first | rfl | (simp; done) | (simp [*]; done)), (by first | rfl | (simp; done) | (simp [*]; done)), H', ⟨by have := HK1.out; omega⟩, ⟨by zr; exact HO_0.out⟩, ⟨by repeat (first | (with_reducible first | exact HK.out | apply Kept.alloc | apply Kept.drewN | apply Kept.drew) | exact HK.out)⟩, ⟨by zb⟩⟩
        · rw [if_neg c4] at H
          exact absurd H (by simp)
      · rw [if_neg c3] at H
        have c3b0 : decide (x5_1 < (x0_1.length : Int)) = false := decide_eq_false c3
        clear c3
        simp only [Option.some.injEq, Prod.mk.injEq] at H
        obtain ⟨rfl, rfl⟩ := H
        obtain ⟨Ao9, co9, eo9⟩ := Kd.R_slice HO_0.out
        subst eo9
        go_wp2
        go_ret
        exact ⟨by first | rfl | (simp [errW_none, errW_some] <;> rfl) | (simp [*, errW_none, errW_some] <;> rfl), by zr; exact HO_0.out, by zb, by repeat (first | (with_reducible first | exact HK.out | apply Kept.alloc | apply Kept.drewN | apply Kept.drew) | exact HK.out)⟩

/-! ### laws_markPairS: function 58 -/
def laws_markPairS.l0 : Nat → List (S107) → Int → Int → Option (Int × (List (S107)))
  | 0, _, _, _ => none
  | k + 1, x0, x1, x5 => if x5 < (x0.length : Int) then (if 0 ≤ x5 then ((some (x0.set (x5 : Int).toNat (⟨x1, (rd_T107 x0 x5).f1⟩ : S107) : List (S107))).bind fun y590001 => (laws_markPairS.l0 k (y590001.set (x5 : Int).toNat (⟨(rd_T107 y590001 x5).f0, wrap64 (x1 + 1)⟩ : S107)) (wrap64 ((wrap64 (x1 + 1)) + 1)) (wrap64 (x5 + 1)))) else (none)) else (some (x1, x0))
def laws_markPairS.f (k : Nat) (l0 : List (S107)) (a1 : Int) : Option (Int × (List (S107))) := laws_markPairS.l0 k l0 a1 0
theorem laws_markPairS.mono_l : ∀ k, (∀ y0 y1 y2, LeO (laws_markPairS.l0 k y0 y1 y2) (laws_markPairS.l0 (k + 1) y0 y1 y2))
  | 0 => fun _ _ _ r h => by simp [laws_markPairS.l0] at h
  | k + 1 => by
    have ih0 := laws_markPairS.mono_l k
    · intro y0 y1 y2
      unfold laws_markPairS.l0
      repeat' first
      | (with_reducible exact ih0 _ _ _)
      | (with_reducible exact LeO.refl _)
      | (with_reducible exact LeO.none _)
      | (with_reducible refine LeO.ite ?_ ?_)
      | (with_reducible refine LeO.bind ?_ (fun _ => ?_))
      | exact ih0 _ _ _
      | exact LeO.none _
      | refine LeO.ite ?_ ?_
      | refine LeO.bind ?_ (fun _ => ?_)
theorem laws_markPairS.mono : ∀ a0 a1 k, LeO (laws_markPairS.f k a0 a1) (laws_markPairS.f (k + 1) a0 a1) := by
  intro a0 a1 k
  have ih0 := laws_markPairS.mono_l k
  unfold laws_markPairS.f
  repeat' first
      | (with_reducible exact ih0 _ _ _)
      | (with_reducible exact LeO.refl _)
      | (with_reducible exact LeO.none _)
      | (with_reducible refine LeO.ite ?_ ?_)
      | (with_reducible refine LeO.bind ?_ (fun _ => ?_))
      | exact ih0 _ _ _
      | exact LeO.none _
      | refine LeO.ite ?_ ?_
      | refine LeO.bind ?_ (fun _ => ?_)
set_option maxHeartbeats 8000000 in
set_option maxRecDepth 100000 in
theorem laws_markPairS.calls (k : Nat) (P0_ : Nat → Prop) (u9000_ : Value) (l0 : List (S107)) (a1 : Int) (r1 : Int) (r2 : List (S107)) (w0 w : World) (hB : Below w0.heap.size w0 w) (ho0 : Kd.R k107 107 w w0.heap.size P0_ u9000_ l0) (h : laws_markPairS.f k l0 a1 = some (r1, r2)) :
    Calls Try.prog 58 #[u9000_, .int .i64 a1] w fun e w' => e = .returned (.int .i64 r1) ∧ Kd.R k107 107 w' w0.heap.size (fun k_ => (P0_ k_ ∨ w.heap.size ≤ k_)) u9000_ r2 ∧ Below w0.heap.size w0 w' ∧ Kept w w' (fun k_ => P0_ k_) := by
  have HO0 := Aside0.mk (show Kd.R k107 107 w w0.heap.size (fun k_ => (P0_ k_ ∨ w.heap.size ≤ k_)) u9000_ l0 from Kd.R_mono ho0 (fun k_ hk => (.inl hk)))
  have HK := Aside0.mk (Kept.refl w (fun k_ => P0_ k_))
  have HW0 := Aside0.mk hB.size
  have HB := Aside0.mk hB
  clear hB
  have H : (laws_markPairS.l0 k l0 a1 0) = some (r1, r2) := h
  clear h
  have H' := Aside0.mk H
  clear H
  go_enter Try.func58, Try.ntmps58
  go_wp2
  go_loopg [1, 5] k (fun kq v1 v5 w' => ∃ (x0_1 : List (S107)) (x1_1 : Int) (x5_1 : Int), v1 = .int .i64 x1_1 ∧ v5 = .int .i64 x5_1 ∧ Aside0 (laws_markPairS.l0 kq x0_1 x1_1 x5_1 = some (r1, r2)) ∧ Aside0 (kq ≤ k) ∧ Aside0 (Kd.R k107 107 w' w0.heap.size (fun k_ => (P0_ k_ ∨ w.heap.size ≤ k_)) u9000_ x0_1) ∧ Aside0 (Kept w w' (fun k_ => P0_ k_)) ∧ Aside0 (Below w0.heap.size w0 w'))
  case atStart => exact ⟨(l0), (a1), (0), (by first | rfl | (simp; done) | (simp [*]; done)), (by first | rfl | (simp; done) | (simp [*]; done)), H', ⟨Nat.le_refl _⟩, ⟨by zr; exact HO0.out⟩, ⟨by repeat (first | (with_reducible first | exact HK.out | apply Kept.alloc | apply Kept.drewN | apply Kept.drew) | exact HK.out)⟩, ⟨by zb⟩⟩
  case round =>
    clear H'
    try clear p2
    obtain ⟨x0_1, x1_1, x5_1, rfl, rfl, HA, HK1, HO_0, HK, HB⟩ := hrel
    cases gk with
    | zero => exact absurd HA.out (by simp [laws_markPairS.l0])
    | succ k1 =>
      have H := HA.out
      clear HA
      simp only [laws_markPairS.l0] at H
      by_cases c3 : x5_1 < (x0_1.length : Int)
      · rw [if_pos c3] at H
        have c3b0 : decide (x5_1 < (x0_1.length : Int)) = true := decide_eq_true c3
        clear c3
        by_cases c4 : 0 ≤ x5_1
        · rw [if_pos c4] at H
          have c4b0 : decide (0 ≤ x5_1) = true := decide_eq_true c4
          clear c4
          obtain ⟨y590001, hy590001⟩ : ∃ y_ : List (S107), y_ = (x0_1.set (x5_1 : Int).toNat (⟨x1_1, (rd_T107 x0_1 x5_1).f1⟩ : S107)) := ⟨_, rfl⟩
          replace H : (laws_markPairS.l0 k1 (y590001.set (x5_1 : Int).toNat (⟨(rd_T107 y590001 x5_1).f0, wrap64 (x1_1 + 1)⟩ : S107)) (wrap64 ((wrap64 (x1_1 + 1)) + 1)) (wrap64 (x5_1 + 1))) = some (r1, r2) := by first | (rw [hy590001]; with_reducible exact H) | (have H2_ := (Option.bind_some _ _).symm.trans H; rw [hy590001]; with_reducible exact H2_) | (have H2_ := (Option.bind_some _ _).symm.trans H; with_reducible exact H2_) | with_reducible exact H | (rw [hy590001]; exact H) | exact H
          have Ny590001 := Aside0.mk hy590001
          clear hy590001
          obtain ⟨y590002, hy590002⟩ : ∃ y_ : List (S107), y_ = (y590001.set (x5_1 : Int).toNat (⟨(rd_T107 y590001 x5_1).f0, wrap64 (x1_1 + 1)⟩ : S107)) := ⟨_, rfl⟩
          replace H : (laws_markPairS.l0 k1 y590002 (wrap64 ((wrap64 (x1_1 + 1)) + 1)) (wrap64 (x5_1 + 1))) = some (r1, r2) := by first | (rw [hy590002]; with_reducible exact H) | (have H2_ := (Option.bind_some _ _).symm.trans H; rw [hy590002]; with_reducible exact H2_) | (have H2_ := (Option.bind_some _ _).symm.trans H; with_reducible exact H2_) | with_reducible exact H | (rw [hy590002]; exact H) | exact H
          have Ny590002 := Aside0.mk hy590002
          clear hy590002
          have H' := Aside0.mk H
          clear H
          obtain ⟨Ao7, co7, eo7⟩ := Kd.R_slice HO_0.out
          subst eo7
          have p5 : 0 ≤ (x5_1 : Int) := of_decide_eq_true (by first | (with_reducible assumption) | assumption)
          have q5 : (x5_1 : Int) < ((x0_1.length : Int) : Int) := of_decide_eq_true (by first | (with_reducible assumption) | assumption)
          obtain ⟨go5, co5, eo5, gb5, gl5, cl5, HG5⟩ := Kd.R_form HO_0.out (by omega)
          (first | cases eo5 | (injection eo5 with ea_ en_ ec_; (first | subst ea_ | (injection ea_ with ea_; subst ea_)); subst ec_; clear en_))
          have GB5 := Aside0.mk gb5
          have GG5 := Aside0.mk HG5
          clear gb5 gl5 HG5
          have HMgo5 := Aside0.mk (show (P0_ go5 ∨ w.heap.size ≤ go5) from (HO_0.out.1 _ rfl))
          obtain ⟨ce5, hcl5, hM5, hcc5, hfr5⟩ := Kd.R_elem HO_0.out z107 (x5_1 : Int) p5 q5
          obtain rfl := k107_openM hM5
          have hx5_0 : wr.cell? ⟨go5, (x5_1 : Int).toNat * 2, none⟩ = some (.int .i64 ((rd_T107 x0_1 x5_1).f0)) := hcc5 0 _ rfl
          have hx5_1 : wr.cell? ⟨go5, (x5_1 : Int).toNat * 2 + 1, none⟩ = some (.int .i64 ((rd_T107 x0_1 x5_1).f1)) := hcc5 1 _ rfl
          have hf5_0 : wr.frozen? ⟨go5, (x5_1 : Int).toNat * 2, none⟩ = false := hfr5 0
          have hf5_1 : wr.frozen? ⟨go5, (x5_1 : Int).toNat * 2 + 1, none⟩ = false := hfr5 1
          clear hcl5 hcc5 hfr5 hM5
          replace p5 := eq_true p5
          replace q5 := eq_true q5
          have HX8 := Aside0.mk (show Kd.R k107 107 wr w0.heap.size (fun k_ => (P0_ k_ ∨ w.heap.size ≤ k_)) (.slice (some ⟨go5, 0, none⟩) x0_1.length co7) x0_1 from (by zr; exact HO_0.out))
          obtain ⟨ce8, hcl8, hM8, hcc8, hfr8⟩ := Kd.R_elem HX8.out z107 (x5_1 : Int) (of_decide_eq_true (by first | (with_reducible assumption) | assumption)) (by have h_ : (x5_1 : Int) < ((x0_1.length : Int) : Int) := of_decide_eq_true (by first | (with_reducible assumption) | assumption); first | exact h_ | (have e_ := (Kd.R_reads' HO_0.out).1; omega) | simpa using h_)
          obtain rfl := k107_openM hM8
          have HP8 := Kd.R_seg HX8.out (x5_1 : Int) (of_decide_eq_true (by first | (with_reducible assumption) | assumption)) (by have h_ : (x5_1 : Int) < ((x0_1.length : Int) : Int) := of_decide_eq_true (by first | (with_reducible assumption) | assumption); first | exact h_ | (have e_ := (Kd.R_reads' HO_0.out).1; omega) | simpa using h_) (seg := [.int .i64 x1_1]) (j := 0) hcl8 hcc8 (show 1 ≤ 2 from by decide) (x' := (⟨x1_1, (rd_T107 x0_1 x5_1).f1⟩ : S107)) (k107_mkM _ _ _ (⟨x1_1, (rd_T107 x0_1 x5_1).f1⟩ : S107) ) (fun _ hk => hk)
          have hx8_0 := hcc8 0 _ rfl
          (try simp only [show (k107).sz = 2 from rfl, Nat.mul_one, Nat.add_zero] at hx8_0)
          have hf8_0 := hfr8 0
          (try simp only [show (k107).sz = 2 from rfl, Nat.mul_one, Nat.add_zero] at hf8_0)
          clear hcl8 hcc8 hfr8 hM8
          go_wp2_with (first | ((with_reducible refine gate_store (t := 3) (p := 16) rfl ?_); refine store_event (t := 3) (p := 16) (v := ?vo_w9) (w1 := (wr.setCell ⟨go5, (x5_1 : Int).toNat * 2, none⟩ (.int .i64 x1_1))) ?hg ?ho ?hn ?hr ?_; (case ho => rfl); (case hg => rfl); (case hn => rfl); (case hr => first | (go_simp; done) | (go_simp; rfl)); intro w9 hw; have hg : wr.grownBy w9 (some go5) := (by rw [hw]; exact HP8.2); have hp_ : Kd.R k107 107 w9 w0.heap.size (fun k_ => (P0_ k_ ∨ w.heap.size ≤ k_)) (.slice (some ⟨go5, 0, none⟩) x0_1.length co7) y590001 := (by rw [hw, Ny590001.out]; exact HP8.1); clear HP8; have n0_ := Aside0.mk (hp_); have n1_ := Aside0.mk ((by rw [hw]; exact below_set (HB.out) GB5.out : Below w0.heap.size w0 w9)); have n2_ := Aside0.mk (Kept.of_grown (S := (fun k_ => P0_ k_)) hg (by repeat (first | (with_reducible first | exact HK.out | apply Kept.alloc | apply Kept.drewN | apply Kept.drew) | exact HK.out)) (fun k_ e_ => (HO_0.out.1 k_ e_))); clear HO_0; clear HB; clear HK; have HO_0 := n0_; have HB := n1_; have HK := n2_; clear n0_ n1_ n2_; clear hg hw hp_; have p6 : 0 ≤ (x5_1 : Int) := of_decide_eq_true (by first | (with_reducible assumption) | assumption); have q6 : (x5_1 : Int) < ((x0_1.length : Int) : Int) := of_decide_eq_true (by first | (with_reducible assumption) | assumption); obtain ⟨ce6, hcl6, hM6, hcc6, hfr6⟩ := Kd.R_elem HO_0.out z107 (x5_1 : Int) p6 q6; obtain rfl := k107_openM hM6; have hx6_0 : w9.cell? ⟨go5, (x5_1 : Int).toNat * 2, none⟩ = some (.int .i64 ((rd_T107 y590001 x5_1).f0)) := hcc6 0 _ rfl; have hx6_1 : w9.cell? ⟨go5, (x5_1 : Int).toNat * 2 + 1, none⟩ = some (.int .i64 ((rd_T107 y590001 x5_1).f1)) := hcc6 1 _ rfl; have hf6_0 : w9.frozen? ⟨go5, (x5_1 : Int).toNat * 2, none⟩ = false := hfr6 0; have hf6_1 : w9.frozen? ⟨go5, (x5_1 : Int).toNat * 2 + 1, none⟩ = false := hfr6 1; clear hcl6 hcc6 hfr6 hM6; replace p6 := eq_true p6; replace q6 := eq_true q6; have HX10 := Aside0.mk (show Kd.R k107 107 w9 w0.heap.size (fun k_ => (P0_ k_ ∨ w.heap.size ≤ k_)) (.slice (some ⟨go5, 0, none⟩) x0_1.length co7) y590001 from (by zr; exact HO_0.out)); obtain ⟨ce10, hcl10, hM10, hcc10, hfr10⟩ := Kd.R_elem HX10.out z107 (x5_1 : Int) (of_decide_eq_true (by first | (with_reducible assumption) | assumption)) (by have h_ : (x5_1 : Int) < ((x0_1.length : Int) : Int) := of_decide_eq_true (by first | (with_reducible assumption) | assumption); first | exact h_ | (have e_ := (Kd.R_reads' HO_0.out).1; omega) | simpa using h_); obtain rfl := k107_openM hM10; have HP10 := Kd.R_seg HX10.out (x5_1 : Int) (of_decide_eq_true (by first | (with_reducible assumption) | assumption)) (by have h_ : (x5_1 : Int) < ((x0_1.length : Int) : Int) := of_decide_eq_true (by first | (with_reducible assumption) | assumption); first | exact h_ | (have e_ := (Kd.R_reads' HO_0.out).1; omega) | simpa using h_) (seg := [.int .i64 (wrap64 (x1_1 + 1))]) (j := 1) hcl10 hcc10 (show 2 ≤ 2 from by decide) (x' := (⟨(rd_T107 y590001 x5_1).f0, wrap64 (x1_1 + 1)⟩ : S107)) (k107_mkM _ _ _ (⟨(rd_T107 y590001 x5_1).f0, wrap64 (x1_1 + 1)⟩ : S107) ) (fun _ hk => hk); have hx10_1 := hcc10 1 _ rfl; (try simp only [show (k107).sz = 2 from rfl, Nat.mul_one, Nat.add_zero] at hx10_1); have hf10_1 := hfr10 1; (try simp only [show (k107).sz = 2 from rfl, Nat.mul_one, Nat.add_zero] at hf10_1); clear hcl10 hcc10 hfr10 hM10) | ((with_reducible refine gate_store (t := 3) (p := 23) rfl ?_); refine store_event (t := 3) (p := 23) (v := ?vo_w11) (w1 := (w9.setCell ⟨go5, (x5_1 : Int).toNat * 2 + 1, none⟩ (.int .i64 (wrap64 (x1_1 + 1))))) ?hg ?ho ?hn ?hr ?_; (case ho => rfl); (case hg => rfl); (case hn => rfl); (case hr => first | (go_simp; done) | (go_simp; rfl)); intro w11 hw; have hg : w9.grownBy w11 (some go5) := (by rw [hw]; exact HP10.2); have hp_ : Kd.R k107 107 w11 w0.heap.size (fun k_ => (P0_ k_ ∨ w.heap.size ≤ k_)) (.slice (some ⟨go5, 0, none⟩) x0_1.length co7) y590002 := (by rw [hw, Ny590002.out]; exact HP10.1); clear HP10; have n0_ := Aside0.mk (hp_); have n1_ := Aside0.mk ((by rw [hw]; exact below_set (HB.out) GB5.out : Below w0.heap.size w0 w11)); have n2_ := Aside0.mk (Kept.of_grown (S := (fun k_ => P0_ k_)) hg (by repeat (first | (with_reducible first | exact HK.out | apply Kept.alloc | apply Kept.drewN | apply Kept.drew) | exact HK.out)) (fun k_ e_ => (HO_0.out.1 k_ e_))); clear HO_0; clear HB; clear HK; have HO_0 := n0_; have HB := n1_; have HK := n2_; clear n0_ n1_ n2_; clear hg hw hp_))
          go_roundg k1
          case measure => have := HK1.out; omega
          case rel => exact ⟨(y590002), (wrap64 ((wrap64 (x1_1 + 1)) + 1)), (wrap64 (x5_1 + 1)), (by first | rfl | (simp; done) | (simp [*]; done)), (by first | rfl | (simp; done) | (simp [*]; done)), H', ⟨by have := HK1.out; omega⟩, ⟨by zr; exact HO_0.out⟩, ⟨by repeat (first | (with_reducible first | exact HK.out | apply Kept.alloc | apply Kept.drewN | apply Kept.drew) | exact HK.out)⟩, ⟨by zb⟩⟩
        · rw [if_neg c4] at H
          exact absurd H (by simp)
      · rw [if_neg c3] at H
        have c3b0 : decide (x5_1 < (x0_1.length : Int)) = false := decide_eq_false c3
        clear c3
        simp only [Option.some.injEq, Prod.mk.injEq] at H
        obtain ⟨rfl, rfl⟩ := H
        obtain ⟨Ao12, co12, eo12⟩ := Kd.R_slice HO_0.out
        subst eo12
        go_wp2
        go_ret
        exact ⟨by first | rfl | (simp [errW_none, errW_some] <;> rfl) | (simp [*, errW_none, errW_some] <;> rfl), by zr; exact HO_0.out, by zb, by repeat (first | (with_reducible first | exact HK.out | apply Kept.alloc | apply Kept.drewN | apply Kept.drew) | exact HK.out)⟩

/-! ### laws_markText: function 65 -/
def laws_markText.l0 : Nat → Int → ByteArray → Option (ByteArray)
  | 0, _, _ => none
  | k + 1, x0, x3 => if x0 > 0 then ((some (([(wrap64 (48 + (Int.tmod x0 10))) % 256] : List Int) : List Int)).bind fun y660001 => (if (strOfNums y660001).size + x3.size ≤ 9223372036854775807 then (laws_markText.l0 k (wrap64 (Int.tdiv x0 10)) ((strOfNums y660001) ++ x3)) else (none))) else (if 1 + x3.size ≤ 9223372036854775807 then (some ((⟨#[109]⟩ : ByteArray) ++ x3)) else (none))
def laws_markText.f (k : Nat) (a0 : Int) : Option (ByteArray) := if a0 ≤ 0 then (some (⟨#[109, 48]⟩ : ByteArray)) else (laws_markText.l0 k a0 (⟨#[]⟩ : ByteArray))
theorem laws_markText.mono_l : ∀ k, (∀ y0 y1, LeO (laws_markText.l0 k y0 y1) (laws_markText.l0 (k + 1) y0 y1))
  | 0 => fun _ _ r h => by simp [laws_markText.l0] at h
  | k + 1 => by
    have ih0 := laws_markText.mono_l k
    · intro y0 y1
      unfold laws_markText.l0
      repeat' first
      | (with_reducible exact ih0 _ _)
      | (with_reducible exact LeO.refl _)
      | (with_reducible exact LeO.none _)
      | (with_reducible refine LeO.ite ?_ ?_)
      | (with_reducible refine LeO.bind ?_ (fun _ => ?_))
      | exact ih0 _ _
      | exact LeO.none _
      | refine LeO.ite ?_ ?_
      | refine LeO.bind ?_ (fun _ => ?_)
theorem laws_markText.mono : ∀ a0 k, LeO (laws_markText.f k a0) (laws_markText.f (k + 1) a0) := by
  intro a0 k
  have ih0 := laws_markText.mono_l k
  unfold laws_markText.f
  repeat' first
      | (with_reducible exact ih0 _ _)
      | (with_reducible exact LeO.refl _)
      | (with_reducible exact LeO.none _)
      | (with_reducible refine LeO.ite ?_ ?_)
      | (with_reducible refine LeO.bind ?_ (fun _ => ?_))
      | exact ih0 _ _
      | exact LeO.none _
      | refine LeO.ite ?_ ?_
      | refine LeO.bind ?_ (fun _ => ?_)
set_option maxHeartbeats 8000000 in
set_option maxRecDepth 100000 in
theorem laws_markText.calls (k : Nat) (a0 : Int) (r : ByteArray) (w : World) (h : laws_markText.f k a0 = some r) :
    Calls Try.prog 65 #[.int .i64 a0] w fun e w' => e = .returned (.string r) ∧ Below w.heap.size w w' := by
  have HB := Aside0.mk (Below.refl w.heap.size w)
  have H : (if a0 ≤ 0 then (some (⟨#[109, 48]⟩ : ByteArray)) else (laws_markText.l0 k a0 (⟨#[]⟩ : ByteArray))) = some r := h
  clear h
  by_cases c2 : a0 ≤ 0
  · rw [if_pos c2] at H
    have c2b0 : decide (a0 ≤ 0) = true := decide_eq_true c2
    clear c2
    obtain rfl := Option.some.inj H
    go_enter Try.func65, Try.ntmps65
    go_wp2
    go_ret
    exact ⟨by first | rfl | (simp [errW_none, errW_some] <;> rfl) | (simp [*, errW_none, errW_some] <;> rfl), by zb⟩
  · rw [if_neg c2] at H
    have c2b0 : decide (a0 ≤ 0) = false := decide_eq_false c2
    clear c2
    have H' := Aside0.mk H
    clear H
    go_enter Try.func65, Try.ntmps65
    go_wp2
    go_loopg [0, 3] k (fun kq v0 v3 w' => ∃ (x0_1 : Int) (x3_1 : ByteArray), v0 = .int .i64 x0_1 ∧ v3 = .string x3_1 ∧ Aside0 (laws_markText.l0 kq x0_1 x3_1 = some r) ∧ Aside0 (kq ≤ k) ∧ Aside0 (Below w.heap.size w w'))
    case atStart => exact ⟨(a0), ((⟨#[]⟩ : ByteArray)), (by first | rfl | (simp; done) | (simp [*]; done)), (by first | rfl | (simp; done) | (simp [*]; done)), H', ⟨Nat.le_refl _⟩, ⟨by zb⟩⟩
    case round =>
      clear H'
      try clear c2
      try clear c2b0
      try clear p2
      obtain ⟨x0_1, x3_1, rfl, rfl, HA, HK1, HB⟩ := hrel
      cases gk with
      | zero => exact absurd HA.out (by simp [laws_markText.l0])
      | succ k1 =>
        have H := HA.out
        clear HA
        simp only [laws_markText.l0] at H
        by_cases c3 : x0_1 > 0
        · rw [if_pos c3] at H
          have c3b0 : decide (0 < x0_1) = true := decide_eq_true c3
          clear c3
          obtain ⟨y660001, hy660001⟩ : ∃ y_ : List Int, y_ = (([(wrap64 (48 + (Int.tmod x0_1 10))) % 256] : List Int)) := ⟨_, rfl⟩
          replace H : (if (strOfNums y660001).size + x3_1.size ≤ 9223372036854775807 then (laws_markText.l0 k1 (wrap64 (Int.tdiv x0_1 10)) ((strOfNums y660001) ++ x3_1)) else (none)) = some r := by first | (rw [hy660001]; with_reducible exact H) | (have H2_ := (Option.bind_some _ _).symm.trans H; rw [hy660001]; with_reducible exact H2_) | (have H2_ := (Option.bind_some _ _).symm.trans H; with_reducible exact H2_) | with_reducible exact H | (rw [hy660001]; exact H) | exact H
          have Ny660001 := Aside0.mk hy660001
          clear hy660001
          by_cases c4 : (strOfNums y660001).size + x3_1.size ≤ 9223372036854775807
          · rw [if_pos c4] at H
            have c4b0 := eq_true c4
            have c4b1 : decide ((strOfNums y660001).size + x3_1.size ≤ 9223372036854775807) = true := decide_eq_true c4
            try have c4b2 : (9223372036854775807 < (strOfNums y660001).size + x3_1.size) = False := eq_false (Nat.not_lt.2 c4)
            have H' := Aside0.mk H
            clear H
            go_wp2_with (first | ((with_reducible refine gate_dst (N := 12) rfl ?_); refine Kd.R_lit (Kd.int .u8) _ 5 ?hg (N := 12) ?hd (xs := ([(wrap64 (48 + (Int.tmod x0_1 10))) % 256] : List Int)) (inner := [.int .u8 ((wrap64 (48 + (Int.tmod x0_1 10))) % 256)]) (ok := fun _ => True) (okp := fun _ => True) ?hr ?hp (fun _ hk => hk) trivial (Below.refl _ _) (Nat.le_refl _) (by simp) ?_; (case hd => rfl); (case hg => rfl); (case hr => first | (go_simp; done) | (go_simp; rfl)); (case hp => exact (Reps.one (show Kd.M (Kd.int .u8) _ _ _ ((wrap64 (48 + (Int.tmod x0_1 10))) % 256) [.int .u8 ((wrap64 (48 + (Int.tmod x0_1 10))) % 256)] from rfl) (Reps.none _ _))); intro v660002 w5 ho6 hb hg_ hnew_; clear hg_ hnew_; (first | rw [← Ny660001.out] at ho6 | (simp only [Int.reduceToNat] at ho6; rw [← Ny660001.out] at ho6)); have n0_ := Aside0.mk (Kd.R_lower ho6 (below_size (by zb))); have n1_ := Aside0.mk (below_step (by zb) hb); clear HB; have HO660003 := n0_; have HB := n1_; clear n0_ n1_; clear hb ho6; have hcv7 := own_string (P := Try.prog) Try.underlying111 Try.underlying5 Try.underlying9 (Kd.own_of_R HO660003.out)))
            go_roundg k1
            case measure => have := HK1.out; omega
            case rel => exact ⟨(wrap64 (Int.tdiv x0_1 10)), ((strOfNums y660001) ++ x3_1), (by first | rfl | (simp; done) | (simp [*]; done)), (by first | rfl | (simp; done) | (simp [*]; done)), H', ⟨by have := HK1.out; omega⟩, ⟨by zb⟩⟩
          · rw [if_neg c4] at H
            exact absurd H (by simp)
        · rw [if_neg c3] at H
          have c3b0 : decide (0 < x0_1) = false := decide_eq_false c3
          clear c3
          by_cases c8 : 1 + x3_1.size ≤ 9223372036854775807
          · rw [if_pos c8] at H
            have c8b0 := eq_true c8
            have c8b1 : decide (1 + x3_1.size ≤ 9223372036854775807) = true := decide_eq_true c8
            try have c8b2 : (9223372036854775807 < 1 + x3_1.size) = False := eq_false (Nat.not_lt.2 c8)
            obtain rfl := Option.some.inj H
            go_wp2
            go_ret
            exact ⟨by first | rfl | (simp [errW_none, errW_some] <;> rfl) | (simp [*, errW_none, errW_some] <;> rfl), by zb⟩
          · rw [if_neg c8] at H
            exact absurd H (by simp)

end Go.Proofs.Ytplefbfmfehobaa.PX
