import Derived.Test.YtjldpnhlegbjkaaPYx0
namespace Go.Proofs.Ytjldpnhlegbjkaa.PY
open Go.RowKit Go.Proofs.YtjldpnhlegbjkaaW.PrintWords Go.Proofs.YtjldpnhlegbjkaaW.PrintLast Go.Proofs.YtjldpnhlegbjkaaW.PrintMore
attribute [local go_sem] max2_int min2_int max_two min_two max_three min_three max_four min_four
set_option linter.unusedVariables false
set_option linter.unusedSimpArgs false

def laws_eqHold.f (a0_0 : Int) (a0_1 : Int) (a0_2 : Bool) (a0_3 : Bool) (a1_0 : Int) (a1_1 : Int) (a1_2 : Bool) (a1_3 : Bool) : Option (Bool) := if a0_0 = a1_0 then (if a0_1 = a1_1 then (if (a0_2 != a1_2) = true then (some false) else (if (a0_3 != a1_3) = true then (some false) else (some true))) else (some false)) else (some false)
set_option maxHeartbeats 8000000 in
set_option maxRecDepth 100000 in
theorem laws_eqHold.calls (a0_0 : Int) (a0_1 : Int) (a0_2 : Bool) (a0_3 : Bool) (a1_0 : Int) (a1_1 : Int) (a1_2 : Bool) (a1_3 : Bool) (r : Bool) (w : World) (h : laws_eqHold.f a0_0 a0_1 a0_2 a0_3 a1_0 a1_1 a1_2 a1_3 = some r) :
 Calls Try.prog 60 #[.agg #[.int .i64 a0_0, .int .i64 a0_1, .bool a0_2, .bool a0_3], .agg #[.int .i64 a1_0, .int .i64 a1_1, .bool a1_2, .bool a1_3]] w fun e w' => e = .returned (.bool r) ∧ Below w.heap.size w w' := by
 have hu45 := Try.underlying45
 have HB := Aside0.mk (Below.refl w.heap.size w)
 have H : (if a0_0 = a1_0 then (if a0_1 = a1_1 then (if (a0_2 != a1_2) = true then (some false) else (if (a0_3 != a1_3) = true then (some false) else (some true))) else (some false)) else (some false)) = some r := h
 clear h
 by_cases c3 : a0_0 = a1_0
 ·rw [if_pos c3] at H
  have c3b0 : (a0_0 == a1_0) = true := beq_iff_eq.mpr c3
  have c3b1 : (a0_0 != a1_0) = false := bne_eq_false_iff_eq.mpr c3
  clear c3
  by_cases c4 : a0_1 = a1_1
  ·rw [if_pos c4] at H
   have c4b0 : (a0_1 == a1_1) = true := beq_iff_eq.mpr c4
   have c4b1 : (a0_1 != a1_1) = false := bne_eq_false_iff_eq.mpr c4
   clear c4
   by_cases c5 : (a0_2 != a1_2) = true
   ·rw [if_pos c5] at H
    have c5b0 : (a0_2 != a1_2) = true := c5
    (try (have c5b1 : decide (a0_2 = a1_2) = false := by simpa using c5))
    (try (have c5b2 : (a0_2 == a1_2) = false := by simpa using c5))
    (try (have c5b3 : ¬ (a0_2 = a1_2) := by simpa using c5))
    clear c5
    obtain rfl := Option.some.inj H
    go_enter Try.func60, Try.ntmps60
    go_wp2_with (first | ((with_reducible refine gate_dst (N := 2) rfl ?_); refine box_event ?hg (N := 2) ?hd (cs := #[.int .i64 a0_0, .int .i64 a0_1, .bool a0_2, .bool a0_3]) (t := 45) ?hr ?_; (case hd => rfl); (case hg => rfl); (case hr => first | (go_simp; done) | (go_simp; rfl)); intro gb610001 hg w6 hbox hb; have n0_ := Aside0.mk (below_step (by repeat (first | (with_reducible first | exact HB.out | apply below_alloc | apply pw_below_drewN | apply below_drew1) | exact HB.out)) hb); have n1_ := Aside0.mk (hbox); have n2_ := Aside0.mk ((by rw [hg]; exact (below_size (by repeat (first | (with_reducible first | exact HB.out | apply below_alloc | apply pw_below_drewN | apply below_drew1) | exact HB.out))) : w.heap.size ≤ gb610001)); have n3_ := Aside0.mk ((by rw [hg]; exact (below_size (by repeat (first | (with_reducible first | exact HB.out | apply below_alloc | apply pw_below_drewN | apply below_drew1) | exact HB.out))) : w.heap.size ≤ gb610001)); clear HB; have HB := n0_; have BK610001 := n1_; have GW610001 := n2_; have GE610001 := n3_; clear n0_ n1_ n2_ n3_; clear hb hbox hg) | ((with_reducible refine gate_dst (N := 3) rfl ?_); refine box_event ?hg (N := 3) ?hd (cs := #[.int .i64 a1_0, .int .i64 a1_1, .bool a1_2, .bool a1_3]) (t := 45) ?hr ?_; (case hd => rfl); (case hg => rfl); (case hr => first | (go_simp; done) | (go_simp; rfl)); intro gb610002 hg w7 hbox hb; have n0_ := Aside0.mk (blk_below (g := gb610001) (o := .cells #[.int .i64 a0_0, .int .i64 a0_1, .bool a0_2, .bool a0_3] 45 (0, 0)) (by (with_reducible repeat (first | refine blk_drewN ?_ _ | refine blk_drew ?_ | refine blk_alloc ?_ _)); exact BK610001.out) hb); have n1_ := Aside0.mk (below_step (by repeat (first | (with_reducible first | exact HB.out | apply below_alloc | apply pw_below_drewN | apply below_drew1 | refine below_set ?_ GE610001.out) | exact HB.out)) hb); have n2_ := Aside0.mk (hbox); have n3_ := Aside0.mk ((by rw [hg]; exact (below_size (by repeat (first | (with_reducible first | exact HB.out | apply below_alloc | apply pw_below_drewN | apply below_drew1 | refine below_set ?_ GE610001.out) | exact HB.out))) : w.heap.size ≤ gb610002)); have n4_ := Aside0.mk ((by rw [hg]; exact (below_size (by repeat (first | (with_reducible first | exact HB.out | apply below_alloc | apply pw_below_drewN | apply below_drew1 | refine below_set ?_ GE610001.out) | exact HB.out))) : w.heap.size ≤ gb610002)); have n5_ := Aside0.mk ((by rw [hg]; exact Nat.ne_of_lt (blk_lt (g := gb610001) (o := .cells #[.int .i64 a0_0, .int .i64 a0_1, .bool a0_2, .bool a0_3] 45 (0, 0)) (by (with_reducible repeat (first | refine blk_drewN ?_ _ | refine blk_drew ?_ | refine blk_alloc ?_ _)); exact BK610001.out)) : gb610001 ≠ gb610002)); have n6_ := Aside0.mk ((by rw [hg]; exact Nat.ne_of_gt (blk_lt (g := gb610001) (o := .cells #[.int .i64 a0_0, .int .i64 a0_1, .bool a0_2, .bool a0_3] 45 (0, 0)) (by (with_reducible repeat (first | refine blk_drewN ?_ _ | refine blk_drew ?_ | refine blk_alloc ?_ _)); exact BK610001.out)) : gb610002 ≠ gb610001)); clear BK610001; clear HB; have BK610001 := n0_; have HB := n1_; have BK610002 := n2_; have GW610002 := n3_; have GE610002 := n4_; have NB610001_610002 := n5_; have NB610002_610001 := n6_; clear n0_ n1_ n2_ n3_ n4_ n5_ n6_; clear hb hbox hg; have hnb8 := NB610001_610002.out; have hnc8 := NB610002_610001.out; have hcz9_0 : w7.cell? ⟨gb610001, 0, none⟩ = some (.int .i64 a0_0) := (blk_cell BK610001.out 0).trans rfl; have hcz9_1 : w7.cell? ⟨gb610001, 1, none⟩ = some (.int .i64 a0_1) := (blk_cell BK610001.out 1).trans rfl; have hcz9_2 : w7.cell? ⟨gb610001, 2, none⟩ = some (.bool a0_2) := (blk_cell BK610001.out 2).trans rfl; have hcz9_3 : w7.cell? ⟨gb610001, 3, none⟩ = some (.bool a0_3) := (blk_cell BK610001.out 3).trans rfl; have hfz9_0 := blk_frozen BK610001.out 0; have hfz9_1 := blk_frozen BK610001.out 1; have hfz9_2 := blk_frozen BK610001.out 2; have hfz9_3 := blk_frozen BK610001.out 3; have hcz10_0 : w7.cell? ⟨gb610002, 0, none⟩ = some (.int .i64 a1_0) := (blk_cell BK610002.out 0).trans rfl; have hcz10_1 : w7.cell? ⟨gb610002, 1, none⟩ = some (.int .i64 a1_1) := (blk_cell BK610002.out 1).trans rfl; have hcz10_2 : w7.cell? ⟨gb610002, 2, none⟩ = some (.bool a1_2) := (blk_cell BK610002.out 2).trans rfl; have hcz10_3 : w7.cell? ⟨gb610002, 3, none⟩ = some (.bool a1_3) := (blk_cell BK610002.out 3).trans rfl; have hfz10_0 := blk_frozen BK610002.out 0; have hfz10_1 := blk_frozen BK610002.out 1; have hfz10_2 := blk_frozen BK610002.out 2; have hfz10_3 := blk_frozen BK610002.out 3))
    go_ret
    exact ⟨by first | rfl | (simp [errW_none, errW_some] <;> rfl) | (simp [*, errW_none, errW_some] <;> rfl), by repeat (first | (with_reducible first | exact HB.out | apply below_alloc | apply pw_below_drewN | apply below_drew1 | refine below_set ?_ GE610001.out | refine below_set ?_ GE610002.out) | exact HB.out)⟩
   ·rw [if_neg c5] at H
    have c5b0 : (a0_2 != a1_2) = false := by simpa using c5
    (try (have c5b1 : decide (a0_2 = a1_2) = true := by simpa using c5))
    (try (have c5b2 : (a0_2 == a1_2) = true := by simpa using c5))
    clear c5
    by_cases c11 : (a0_3 != a1_3) = true
    ·rw [if_pos c11] at H
     have c11b0 : (a0_3 != a1_3) = true := c11
     (try (have c11b1 : decide (a0_3 = a1_3) = false := by simpa using c11))
     (try (have c11b2 : (a0_3 == a1_3) = false := by simpa using c11))
     (try (have c11b3 : ¬ (a0_3 = a1_3) := by simpa using c11))
     clear c11
     obtain rfl := Option.some.inj H
     go_enter Try.func60, Try.ntmps60
     go_wp2_with (first | ((with_reducible refine gate_dst (N := 2) rfl ?_); refine box_event ?hg (N := 2) ?hd (cs := #[.int .i64 a0_0, .int .i64 a0_1, .bool a0_2, .bool a0_3]) (t := 45) ?hr ?_; (case hd => rfl); (case hg => rfl); (case hr => first | (go_simp; done) | (go_simp; rfl)); intro gb610001 hg w12 hbox hb; have n0_ := Aside0.mk (below_step (by repeat (first | (with_reducible first | exact HB.out | apply below_alloc | apply pw_below_drewN | apply below_drew1) | exact HB.out)) hb); have n1_ := Aside0.mk (hbox); have n2_ := Aside0.mk ((by rw [hg]; exact (below_size (by repeat (first | (with_reducible first | exact HB.out | apply below_alloc | apply pw_below_drewN | apply below_drew1) | exact HB.out))) : w.heap.size ≤ gb610001)); have n3_ := Aside0.mk ((by rw [hg]; exact (below_size (by repeat (first | (with_reducible first | exact HB.out | apply below_alloc | apply pw_below_drewN | apply below_drew1) | exact HB.out))) : w.heap.size ≤ gb610001)); clear HB; have HB := n0_; have BK610001 := n1_; have GW610001 := n2_; have GE610001 := n3_; clear n0_ n1_ n2_ n3_; clear hb hbox hg) | ((with_reducible refine gate_dst (N := 3) rfl ?_); refine box_event ?hg (N := 3) ?hd (cs := #[.int .i64 a1_0, .int .i64 a1_1, .bool a1_2, .bool a1_3]) (t := 45) ?hr ?_; (case hd => rfl); (case hg => rfl); (case hr => first | (go_simp; done) | (go_simp; rfl)); intro gb610002 hg w13 hbox hb; have n0_ := Aside0.mk (blk_below (g := gb610001) (o := .cells #[.int .i64 a0_0, .int .i64 a0_1, .bool a0_2, .bool a0_3] 45 (0, 0)) (by (with_reducible repeat (first | refine blk_drewN ?_ _ | refine blk_drew ?_ | refine blk_alloc ?_ _)); exact BK610001.out) hb); have n1_ := Aside0.mk (below_step (by repeat (first | (with_reducible first | exact HB.out | apply below_alloc | apply pw_below_drewN | apply below_drew1 | refine below_set ?_ GE610001.out) | exact HB.out)) hb); have n2_ := Aside0.mk (hbox); have n3_ := Aside0.mk ((by rw [hg]; exact (below_size (by repeat (first | (with_reducible first | exact HB.out | apply below_alloc | apply pw_below_drewN | apply below_drew1 | refine below_set ?_ GE610001.out) | exact HB.out))) : w.heap.size ≤ gb610002)); have n4_ := Aside0.mk ((by rw [hg]; exact (below_size (by repeat (first | (with_reducible first | exact HB.out | apply below_alloc | apply pw_below_drewN | apply below_drew1 | refine below_set ?_ GE610001.out) | exact HB.out))) : w.heap.size ≤ gb610002)); have n5_ := Aside0.mk ((by rw [hg]; exact Nat.ne_of_lt (blk_lt (g := gb610001) (o := .cells #[.int .i64 a0_0, .int .i64 a0_1, .bool a0_2, .bool a0_3] 45 (0, 0)) (by (with_reducible repeat (first | refine blk_drewN ?_ _ | refine blk_drew ?_ | refine blk_alloc ?_ _)); exact BK610001.out)) : gb610001 ≠ gb610002)); have n6_ := Aside0.mk ((by rw [hg]; exact Nat.ne_of_gt (blk_lt (g := gb610001) (o := .cells #[.int .i64 a0_0, .int .i64 a0_1, .bool a0_2, .bool a0_3] 45 (0, 0)) (by (with_reducible repeat (first | refine blk_drewN ?_ _ | refine blk_drew ?_ | refine blk_alloc ?_ _)); exact BK610001.out)) : gb610002 ≠ gb610001)); clear BK610001; clear HB; have BK610001 := n0_; have HB := n1_; have BK610002 := n2_; have GW610002 := n3_; have GE610002 := n4_; have NB610001_610002 := n5_; have NB610002_610001 := n6_; clear n0_ n1_ n2_ n3_ n4_ n5_ n6_; clear hb hbox hg; have hnb14 := NB610001_610002.out; have hnc14 := NB610002_610001.out; have hcz15_0 : w13.cell? ⟨gb610001, 0, none⟩ = some (.int .i64 a0_0) := (blk_cell BK610001.out 0).trans rfl; have hcz15_1 : w13.cell? ⟨gb610001, 1, none⟩ = some (.int .i64 a0_1) := (blk_cell BK610001.out 1).trans rfl; have hcz15_2 : w13.cell? ⟨gb610001, 2, none⟩ = some (.bool a0_2) := (blk_cell BK610001.out 2).trans rfl; have hcz15_3 : w13.cell? ⟨gb610001, 3, none⟩ = some (.bool a0_3) := (blk_cell BK610001.out 3).trans rfl; have hfz15_0 := blk_frozen BK610001.out 0; have hfz15_1 := blk_frozen BK610001.out 1; have hfz15_2 := blk_frozen BK610001.out 2; have hfz15_3 := blk_frozen BK610001.out 3; have hcz16_0 : w13.cell? ⟨gb610002, 0, none⟩ = some (.int .i64 a1_0) := (blk_cell BK610002.out 0).trans rfl; have hcz16_1 : w13.cell? ⟨gb610002, 1, none⟩ = some (.int .i64 a1_1) := (blk_cell BK610002.out 1).trans rfl; have hcz16_2 : w13.cell? ⟨gb610002, 2, none⟩ = some (.bool a1_2) := (blk_cell BK610002.out 2).trans rfl; have hcz16_3 : w13.cell? ⟨gb610002, 3, none⟩ = some (.bool a1_3) := (blk_cell BK610002.out 3).trans rfl; have hfz16_0 := blk_frozen BK610002.out 0; have hfz16_1 := blk_frozen BK610002.out 1; have hfz16_2 := blk_frozen BK610002.out 2; have hfz16_3 := blk_frozen BK610002.out 3))
     go_ret
     exact ⟨by first | rfl | (simp [errW_none, errW_some] <;> rfl) | (simp [*, errW_none, errW_some] <;> rfl), by repeat (first | (with_reducible first | exact HB.out | apply below_alloc | apply pw_below_drewN | apply below_drew1 | refine below_set ?_ GE610001.out | refine below_set ?_ GE610002.out) | exact HB.out)⟩
    ·rw [if_neg c11] at H
     have c11b0 : (a0_3 != a1_3) = false := by simpa using c11
     (try (have c11b1 : decide (a0_3 = a1_3) = true := by simpa using c11))
     (try (have c11b2 : (a0_3 == a1_3) = true := by simpa using c11))
     clear c11
     obtain rfl := Option.some.inj H
     go_enter Try.func60, Try.ntmps60
     go_wp2_with (first | ((with_reducible refine gate_dst (N := 2) rfl ?_); refine box_event ?hg (N := 2) ?hd (cs := #[.int .i64 a0_0, .int .i64 a0_1, .bool a0_2, .bool a0_3]) (t := 45) ?hr ?_; (case hd => rfl); (case hg => rfl); (case hr => first | (go_simp; done) | (go_simp; rfl)); intro gb610001 hg w17 hbox hb; have n0_ := Aside0.mk (below_step (by repeat (first | (with_reducible first | exact HB.out | apply below_alloc | apply pw_below_drewN | apply below_drew1) | exact HB.out)) hb); have n1_ := Aside0.mk (hbox); have n2_ := Aside0.mk ((by rw [hg]; exact (below_size (by repeat (first | (with_reducible first | exact HB.out | apply below_alloc | apply pw_below_drewN | apply below_drew1) | exact HB.out))) : w.heap.size ≤ gb610001)); have n3_ := Aside0.mk ((by rw [hg]; exact (below_size (by repeat (first | (with_reducible first | exact HB.out | apply below_alloc | apply pw_below_drewN | apply below_drew1) | exact HB.out))) : w.heap.size ≤ gb610001)); clear HB; have HB := n0_; have BK610001 := n1_; have GW610001 := n2_; have GE610001 := n3_; clear n0_ n1_ n2_ n3_; clear hb hbox hg) | ((with_reducible refine gate_dst (N := 3) rfl ?_); refine box_event ?hg (N := 3) ?hd (cs := #[.int .i64 a1_0, .int .i64 a1_1, .bool a1_2, .bool a1_3]) (t := 45) ?hr ?_; (case hd => rfl); (case hg => rfl); (case hr => first | (go_simp; done) | (go_simp; rfl)); intro gb610002 hg w18 hbox hb; have n0_ := Aside0.mk (blk_below (g := gb610001) (o := .cells #[.int .i64 a0_0, .int .i64 a0_1, .bool a0_2, .bool a0_3] 45 (0, 0)) (by (with_reducible repeat (first | refine blk_drewN ?_ _ | refine blk_drew ?_ | refine blk_alloc ?_ _)); exact BK610001.out) hb); have n1_ := Aside0.mk (below_step (by repeat (first | (with_reducible first | exact HB.out | apply below_alloc | apply pw_below_drewN | apply below_drew1 | refine below_set ?_ GE610001.out) | exact HB.out)) hb); have n2_ := Aside0.mk (hbox); have n3_ := Aside0.mk ((by rw [hg]; exact (below_size (by repeat (first | (with_reducible first | exact HB.out | apply below_alloc | apply pw_below_drewN | apply below_drew1 | refine below_set ?_ GE610001.out) | exact HB.out))) : w.heap.size ≤ gb610002)); have n4_ := Aside0.mk ((by rw [hg]; exact (below_size (by repeat (first | (with_reducible first | exact HB.out | apply below_alloc | apply pw_below_drewN | apply below_drew1 | refine below_set ?_ GE610001.out) | exact HB.out))) : w.heap.size ≤ gb610002)); have n5_ := Aside0.mk ((by rw [hg]; exact Nat.ne_of_lt (blk_lt (g := gb610001) (o := .cells #[.int .i64 a0_0, .int .i64 a0_1, .bool a0_2, .bool a0_3] 45 (0, 0)) (by (with_reducible repeat (first | refine blk_drewN ?_ _ | refine blk_drew ?_ | refine blk_alloc ?_ _)); exact BK610001.out)) : gb610001 ≠ gb610002)); have n6_ := Aside0.mk ((by rw [hg]; exact Nat.ne_of_gt (blk_lt (g := gb610001) (o := .cells #[.int .i64 a0_0, .int .i64 a0_1, .bool a0_2, .bool a0_3] 45 (0, 0)) (by (with_reducible repeat (first | refine blk_drewN ?_ _ | refine blk_drew ?_ | refine blk_alloc ?_ _)); exact BK610001.out)) : gb610002 ≠ gb610001)); clear BK610001; clear HB; have BK610001 := n0_; have HB := n1_; have BK610002 := n2_; have GW610002 := n3_; have GE610002 := n4_; have NB610001_610002 := n5_; have NB610002_610001 := n6_; clear n0_ n1_ n2_ n3_ n4_ n5_ n6_; clear hb hbox hg; have hnb19 := NB610001_610002.out; have hnc19 := NB610002_610001.out; have hcz20_0 : w18.cell? ⟨gb610001, 0, none⟩ = some (.int .i64 a0_0) := (blk_cell BK610001.out 0).trans rfl; have hcz20_1 : w18.cell? ⟨gb610001, 1, none⟩ = some (.int .i64 a0_1) := (blk_cell BK610001.out 1).trans rfl; have hcz20_2 : w18.cell? ⟨gb610001, 2, none⟩ = some (.bool a0_2) := (blk_cell BK610001.out 2).trans rfl; have hcz20_3 : w18.cell? ⟨gb610001, 3, none⟩ = some (.bool a0_3) := (blk_cell BK610001.out 3).trans rfl; have hfz20_0 := blk_frozen BK610001.out 0; have hfz20_1 := blk_frozen BK610001.out 1; have hfz20_2 := blk_frozen BK610001.out 2; have hfz20_3 := blk_frozen BK610001.out 3; have hcz21_0 : w18.cell? ⟨gb610002, 0, none⟩ = some (.int .i64 a1_0) := (blk_cell BK610002.out 0).trans rfl; have hcz21_1 : w18.cell? ⟨gb610002, 1, none⟩ = some (.int .i64 a1_1) := (blk_cell BK610002.out 1).trans rfl; have hcz21_2 : w18.cell? ⟨gb610002, 2, none⟩ = some (.bool a1_2) := (blk_cell BK610002.out 2).trans rfl; have hcz21_3 : w18.cell? ⟨gb610002, 3, none⟩ = some (.bool a1_3) := (blk_cell BK610002.out 3).trans rfl; have hfz21_0 := blk_frozen BK610002.out 0; have hfz21_1 := blk_frozen BK610002.out 1; have hfz21_2 := blk_frozen BK610002.out 2; have hfz21_3 := blk_frozen BK610002.out 3))
     go_ret
     exact ⟨by first | rfl | (simp [errW_none, errW_some] <;> rfl) | (simp [*, errW_none, errW_some] <;> rfl), by repeat (first | (with_reducible first | exact HB.out | apply below_alloc | apply pw_below_drewN | apply below_drew1 | refine below_set ?_ GE610001.out | refine below_set ?_ GE610002.out) | exact HB.out)⟩
  ·rw [if_neg c4] at H
   have c4b0 : (a0_1 == a1_1) = false := beq_eq_false_iff_ne.mpr c4
   have c4b1 : (a0_1 != a1_1) = true := bne_iff_ne.mpr c4
   obtain rfl := Option.some.inj H
   go_enter Try.func60, Try.ntmps60
   go_wp2_with (first | ((with_reducible refine gate_dst (N := 2) rfl ?_); refine box_event ?hg (N := 2) ?hd (cs := #[.int .i64 a0_0, .int .i64 a0_1, .bool a0_2, .bool a0_3]) (t := 45) ?hr ?_; (case hd => rfl); (case hg => rfl); (case hr => first | (go_simp; done) | (go_simp; rfl)); intro gb610001 hg w22 hbox hb; have n0_ := Aside0.mk (below_step (by repeat (first | (with_reducible first | exact HB.out | apply below_alloc | apply pw_below_drewN | apply below_drew1) | exact HB.out)) hb); have n1_ := Aside0.mk (hbox); have n2_ := Aside0.mk ((by rw [hg]; exact (below_size (by repeat (first | (with_reducible first | exact HB.out | apply below_alloc | apply pw_below_drewN | apply below_drew1) | exact HB.out))) : w.heap.size ≤ gb610001)); have n3_ := Aside0.mk ((by rw [hg]; exact (below_size (by repeat (first | (with_reducible first | exact HB.out | apply below_alloc | apply pw_below_drewN | apply below_drew1) | exact HB.out))) : w.heap.size ≤ gb610001)); clear HB; have HB := n0_; have BK610001 := n1_; have GW610001 := n2_; have GE610001 := n3_; clear n0_ n1_ n2_ n3_; clear hb hbox hg) | ((with_reducible refine gate_dst (N := 3) rfl ?_); refine box_event ?hg (N := 3) ?hd (cs := #[.int .i64 a1_0, .int .i64 a1_1, .bool a1_2, .bool a1_3]) (t := 45) ?hr ?_; (case hd => rfl); (case hg => rfl); (case hr => first | (go_simp; done) | (go_simp; rfl)); intro gb610002 hg w23 hbox hb; have n0_ := Aside0.mk (blk_below (g := gb610001) (o := .cells #[.int .i64 a0_0, .int .i64 a0_1, .bool a0_2, .bool a0_3] 45 (0, 0)) (by (with_reducible repeat (first | refine blk_drewN ?_ _ | refine blk_drew ?_ | refine blk_alloc ?_ _)); exact BK610001.out) hb); have n1_ := Aside0.mk (below_step (by repeat (first | (with_reducible first | exact HB.out | apply below_alloc | apply pw_below_drewN | apply below_drew1 | refine below_set ?_ GE610001.out) | exact HB.out)) hb); have n2_ := Aside0.mk (hbox); have n3_ := Aside0.mk ((by rw [hg]; exact (below_size (by repeat (first | (with_reducible first | exact HB.out | apply below_alloc | apply pw_below_drewN | apply below_drew1 | refine below_set ?_ GE610001.out) | exact HB.out))) : w.heap.size ≤ gb610002)); have n4_ := Aside0.mk ((by rw [hg]; exact (below_size (by repeat (first | (with_reducible first | exact HB.out | apply below_alloc | apply pw_below_drewN | apply below_drew1 | refine below_set ?_ GE610001.out) | exact HB.out))) : w.heap.size ≤ gb610002)); have n5_ := Aside0.mk ((by rw [hg]; exact Nat.ne_of_lt (blk_lt (g := gb610001) (o := .cells #[.int .i64 a0_0, .int .i64 a0_1, .bool a0_2, .bool a0_3] 45 (0, 0)) (by (with_reducible repeat (first | refine blk_drewN ?_ _ | refine blk_drew ?_ | refine blk_alloc ?_ _)); exact BK610001.out)) : gb610001 ≠ gb610002)); have n6_ := Aside0.mk ((by rw [hg]; exact Nat.ne_of_gt (blk_lt (g := gb610001) (o := .cells #[.int .i64 a0_0, .int .i64 a0_1, .bool a0_2, .bool a0_3] 45 (0, 0)) (by (with_reducible repeat (first | refine blk_drewN ?_ _ | refine blk_drew ?_ | refine blk_alloc ?_ _)); exact BK610001.out)) : gb610002 ≠ gb610001)); clear BK610001; clear HB; have BK610001 := n0_; have HB := n1_; have BK610002 := n2_; have GW610002 := n3_; have GE610002 := n4_; have NB610001_610002 := n5_; have NB610002_610001 := n6_; clear n0_ n1_ n2_ n3_ n4_ n5_ n6_; clear hb hbox hg; have hnb24 := NB610001_610002.out; have hnc24 := NB610002_610001.out; have hcz25_0 : w23.cell? ⟨gb610001, 0, none⟩ = some (.int .i64 a0_0) := (blk_cell BK610001.out 0).trans rfl; have hcz25_1 : w23.cell? ⟨gb610001, 1, none⟩ = some (.int .i64 a0_1) := (blk_cell BK610001.out 1).trans rfl; have hcz25_2 : w23.cell? ⟨gb610001, 2, none⟩ = some (.bool a0_2) := (blk_cell BK610001.out 2).trans rfl; have hcz25_3 : w23.cell? ⟨gb610001, 3, none⟩ = some (.bool a0_3) := (blk_cell BK610001.out 3).trans rfl; have hfz25_0 := blk_frozen BK610001.out 0; have hfz25_1 := blk_frozen BK610001.out 1; have hfz25_2 := blk_frozen BK610001.out 2; have hfz25_3 := blk_frozen BK610001.out 3; have hcz26_0 : w23.cell? ⟨gb610002, 0, none⟩ = some (.int .i64 a1_0) := (blk_cell BK610002.out 0).trans rfl; have hcz26_1 : w23.cell? ⟨gb610002, 1, none⟩ = some (.int .i64 a1_1) := (blk_cell BK610002.out 1).trans rfl; have hcz26_2 : w23.cell? ⟨gb610002, 2, none⟩ = some (.bool a1_2) := (blk_cell BK610002.out 2).trans rfl; have hcz26_3 : w23.cell? ⟨gb610002, 3, none⟩ = some (.bool a1_3) := (blk_cell BK610002.out 3).trans rfl; have hfz26_0 := blk_frozen BK610002.out 0; have hfz26_1 := blk_frozen BK610002.out 1; have hfz26_2 := blk_frozen BK610002.out 2; have hfz26_3 := blk_frozen BK610002.out 3))
   go_ret
   exact ⟨by first | rfl | (simp [errW_none, errW_some] <;> rfl) | (simp [*, errW_none, errW_some] <;> rfl), by repeat (first | (with_reducible first | exact HB.out | apply below_alloc | apply pw_below_drewN | apply below_drew1 | refine below_set ?_ GE610001.out | refine below_set ?_ GE610002.out) | exact HB.out)⟩
 ·rw [if_neg c3] at H
  have c3b0 : (a0_0 == a1_0) = false := beq_eq_false_iff_ne.mpr c3
  have c3b1 : (a0_0 != a1_0) = true := bne_iff_ne.mpr c3
  obtain rfl := Option.some.inj H
  go_enter Try.func60, Try.ntmps60
  go_wp2_with (first | ((with_reducible refine gate_dst (N := 2) rfl ?_); refine box_event ?hg (N := 2) ?hd (cs := #[.int .i64 a0_0, .int .i64 a0_1, .bool a0_2, .bool a0_3]) (t := 45) ?hr ?_; (case hd => rfl); (case hg => rfl); (case hr => first | (go_simp; done) | (go_simp; rfl)); intro gb610001 hg w27 hbox hb; have n0_ := Aside0.mk (below_step (by repeat (first | (with_reducible first | exact HB.out | apply below_alloc | apply pw_below_drewN | apply below_drew1) | exact HB.out)) hb); have n1_ := Aside0.mk (hbox); have n2_ := Aside0.mk ((by rw [hg]; exact (below_size (by repeat (first | (with_reducible first | exact HB.out | apply below_alloc | apply pw_below_drewN | apply below_drew1) | exact HB.out))) : w.heap.size ≤ gb610001)); have n3_ := Aside0.mk ((by rw [hg]; exact (below_size (by repeat (first | (with_reducible first | exact HB.out | apply below_alloc | apply pw_below_drewN | apply below_drew1) | exact HB.out))) : w.heap.size ≤ gb610001)); clear HB; have HB := n0_; have BK610001 := n1_; have GW610001 := n2_; have GE610001 := n3_; clear n0_ n1_ n2_ n3_; clear hb hbox hg) | ((with_reducible refine gate_dst (N := 3) rfl ?_); refine box_event ?hg (N := 3) ?hd (cs := #[.int .i64 a1_0, .int .i64 a1_1, .bool a1_2, .bool a1_3]) (t := 45) ?hr ?_; (case hd => rfl); (case hg => rfl); (case hr => first | (go_simp; done) | (go_simp; rfl)); intro gb610002 hg w28 hbox hb; have n0_ := Aside0.mk (blk_below (g := gb610001) (o := .cells #[.int .i64 a0_0, .int .i64 a0_1, .bool a0_2, .bool a0_3] 45 (0, 0)) (by (with_reducible repeat (first | refine blk_drewN ?_ _ | refine blk_drew ?_ | refine blk_alloc ?_ _)); exact BK610001.out) hb); have n1_ := Aside0.mk (below_step (by repeat (first | (with_reducible first | exact HB.out | apply below_alloc | apply pw_below_drewN | apply below_drew1 | refine below_set ?_ GE610001.out) | exact HB.out)) hb); have n2_ := Aside0.mk (hbox); have n3_ := Aside0.mk ((by rw [hg]; exact (below_size (by repeat (first | (with_reducible first | exact HB.out | apply below_alloc | apply pw_below_drewN | apply below_drew1 | refine below_set ?_ GE610001.out) | exact HB.out))) : w.heap.size ≤ gb610002)); have n4_ := Aside0.mk ((by rw [hg]; exact (below_size (by repeat (first | (with_reducible first | exact HB.out | apply below_alloc | apply pw_below_drewN | apply below_drew1 | refine below_set ?_ GE610001.out) | exact HB.out))) : w.heap.size ≤ gb610002)); have n5_ := Aside0.mk ((by rw [hg]; exact Nat.ne_of_lt (blk_lt (g := gb610001) (o := .cells #[.int .i64 a0_0, .int .i64 a0_1, .bool a0_2, .bool a0_3] 45 (0, 0)) (by (with_reducible repeat (first | refine blk_drewN ?_ _ | refine blk_drew ?_ | refine blk_alloc ?_ _)); exact BK610001.out)) : gb610001 ≠ gb610002)); have n6_ := Aside0.mk ((by rw [hg]; exact Nat.ne_of_gt (blk_lt (g := gb610001) (o := .cells #[.int .i64 a0_0, .int .i64 a0_1, .bool a0_2, .bool a0_3] 45 (0, 0)) (by (with_reducible repeat (first | refine blk_drewN ?_ _ | refine blk_drew ?_ | refine blk_alloc ?_ _)); exact BK610001.out)) : gb610002 ≠ gb610001)); clear BK610001; clear HB; have BK610001 := n0_; have HB := n1_; have BK610002 := n2_; have GW610002 := n3_; have GE610002 := n4_; have NB610001_610002 := n5_; have NB610002_610001 := n6_; clear n0_ n1_ n2_ n3_ n4_ n5_ n6_; clear hb hbox hg; have hnb29 := NB610001_610002.out; have hnc29 := NB610002_610001.out; have hcz30_0 : w28.cell? ⟨gb610001, 0, none⟩ = some (.int .i64 a0_0) := (blk_cell BK610001.out 0).trans rfl; have hcz30_1 : w28.cell? ⟨gb610001, 1, none⟩ = some (.int .i64 a0_1) := (blk_cell BK610001.out 1).trans rfl; have hcz30_2 : w28.cell? ⟨gb610001, 2, none⟩ = some (.bool a0_2) := (blk_cell BK610001.out 2).trans rfl; have hcz30_3 : w28.cell? ⟨gb610001, 3, none⟩ = some (.bool a0_3) := (blk_cell BK610001.out 3).trans rfl; have hfz30_0 := blk_frozen BK610001.out 0; have hfz30_1 := blk_frozen BK610001.out 1; have hfz30_2 := blk_frozen BK610001.out 2; have hfz30_3 := blk_frozen BK610001.out 3; have hcz31_0 : w28.cell? ⟨gb610002, 0, none⟩ = some (.int .i64 a1_0) := (blk_cell BK610002.out 0).trans rfl; have hcz31_1 : w28.cell? ⟨gb610002, 1, none⟩ = some (.int .i64 a1_1) := (blk_cell BK610002.out 1).trans rfl; have hcz31_2 : w28.cell? ⟨gb610002, 2, none⟩ = some (.bool a1_2) := (blk_cell BK610002.out 2).trans rfl; have hcz31_3 : w28.cell? ⟨gb610002, 3, none⟩ = some (.bool a1_3) := (blk_cell BK610002.out 3).trans rfl; have hfz31_0 := blk_frozen BK610002.out 0; have hfz31_1 := blk_frozen BK610002.out 1; have hfz31_2 := blk_frozen BK610002.out 2; have hfz31_3 := blk_frozen BK610002.out 3))
  go_ret
  exact ⟨by first | rfl | (simp [errW_none, errW_some] <;> rfl) | (simp [*, errW_none, errW_some] <;> rfl), by repeat (first | (with_reducible first | exact HB.out | apply below_alloc | apply pw_below_drewN | apply below_drew1 | refine below_set ?_ GE610001.out | refine below_set ?_ GE610002.out) | exact HB.out)⟩

def laws_eqHoldS.l0 : Nat → List (S45) → List (S45) → Int → Option (Bool)
 | 0, _, _, _ => none
 | k + 1, x0, x1, x5 => if x5 < (x0.length : Int) then (if 0 ≤ x5 then (if x5 < (x1.length : Int) then ((laws_eqHold.f ((rd_T45 x0 x5).f0) ((rd_T45 x0 x5).f1) ((rd_T45 x0 x5).f2) ((rd_T45 x0 x5).f3) ((rd_T45 x1 x5).f0) ((rd_T45 x1 x5).f1) ((rd_T45 x1 x5).f2) ((rd_T45 x1 x5).f3)).bind fun t270003 => (if t270003 = true then (laws_eqHoldS.l0 k x0 x1 (wrap64 (x5 + 1))) else (some false))) else (none)) else (none)) else (some true)
def laws_eqHoldS.f (k : Nat) (l0 : List (S45)) (l1 : List (S45)) : Option (Bool) := if (l0.length : Int) = (l1.length : Int) then (laws_eqHoldS.l0 k l0 l1 0) else (some false)
theorem laws_eqHoldS.mono_l : ∀ k, (∀ y0 y1 y2, LeO (laws_eqHoldS.l0 k y0 y1 y2) (laws_eqHoldS.l0 (k + 1) y0 y1 y2))
 | 0 => fun _ _ _ r h => by simp [laws_eqHoldS.l0] at h
 | k + 1 => by
  have ih0 := laws_eqHoldS.mono_l k
  ·intro y0 y1 y2
   unfold laws_eqHoldS.l0
   repeat' first
   | (with_reducible exact ih0 _ _ _)
   | (with_reducible exact LeO.refl _)
   | (with_reducible exact LeO.none _)
   | (with_reducible refine LeO.ite ?_ ?_)
   | (with_reducible refine LeO.bind ?_ (fun _ => ?_))
   | exact ih0 _ _ _
   | exact LeO.none _
   | refine LeO.ite ?_ ?_
   | refine LeO.bind ?_ (fun _ => ?_)
theorem laws_eqHoldS.mono : ∀ a0 a1 k, LeO (laws_eqHoldS.f k a0 a1) (laws_eqHoldS.f (k + 1) a0 a1) := by
 intro a0 a1 k
 have ih0 := laws_eqHoldS.mono_l k
 unfold laws_eqHoldS.f
 repeat' first
  | (with_reducible exact ih0 _ _ _)
  | (with_reducible exact LeO.refl _)
  | (with_reducible exact LeO.none _)
  | (with_reducible refine LeO.ite ?_ ?_)
  | (with_reducible refine LeO.bind ?_ (fun _ => ?_))
  | exact ih0 _ _ _
  | exact LeO.none _
  | refine LeO.ite ?_ ?_
  | refine LeO.bind ?_ (fun _ => ?_)
def laws_eqHoldS.T6 : Bool × List (List Nat × List Nat) := (true, [([], []), ([], []), ([0, 1], [0, 1]), ([2], [2]), ([], []), ([], []), ([4, 5], [4, 5]), ([6], [6]), ([3, 7], [3, 7]), ([8], [8])])
def laws_eqHoldS.B6 : List Nat := [0, 0, 3, 7, 0, 0, 48, 112, 255, 511]
theorem laws_eqHoldS.tab6 : rtab .any (opsOf Try.f26 6) = laws_eqHoldS.T6 := by kernel_rfl
theorem laws_eqHoldS.bits6 : waitsOk laws_eqHoldS.T6.2 laws_eqHoldS.B6 = true := by kernel_rfl
set_option maxHeartbeats 8000000 in
set_option maxRecDepth 100000 in
theorem laws_eqHoldS.calls (k : Nat) (A0 : Option Addr) (c0 : Nat) (l0 : List (S45)) (A1 : Option Addr) (c1 : Nat) (l1 : List (S45)) (r : Bool) (w : World) (hr0 : Kd.C k45 w A0 l0.length l0) (hc0 : l0.length ≤ c0) (hr1 : Kd.C k45 w A1 l1.length l1) (hc1 : l1.length ≤ c1) (h : laws_eqHoldS.f k l0 l1 = some r) :
 Calls Try.prog 26 #[.slice A0 l0.length c0, .slice A1 l1.length c1] w fun e w' => e = .returned (.bool r) ∧ Below w.heap.size w w' := by
 have hu45 := Try.underlying45
 have HR0 := Aside0.mk hr0
 have HC0 := Aside0.mk hc0
 clear hr0 hc0
 have HR1 := Aside0.mk hr1
 have HC1 := Aside0.mk hc1
 clear hr1 hc1
 have HB := Aside0.mk (Below.refl w.heap.size w)
 have H : (if (l0.length : Int) = (l1.length : Int) then (laws_eqHoldS.l0 k l0 l1 0) else (some false)) = some r := h
 clear h
 by_cases c3 : (l0.length : Int) = (l1.length : Int)
 ·rw [if_pos c3] at H
  have c3b0 : ((l0.length : Int) == (l1.length : Int)) = true := beq_iff_eq.mpr c3
  have c3b1 : ((l0.length : Int) != (l1.length : Int)) = false := bne_eq_false_iff_eq.mpr c3
  have c3b2 : (l0.length == l1.length) = true := by first | simpa using c3 | (simp at c3 ⊢; omega)
  clear c3
  have H' := Aside0.mk H
  clear H
  go_enter Try.func26, Try.ntmps26
  go_wp2
  go_loopg [5] k (fun kq v5 w' => ∃ (x5_1 : Int), v5 = .int .i64 x5_1 ∧ Aside0 (laws_eqHoldS.l0 kq l0 l1 x5_1 = some r) ∧ Aside0 (kq ≤ k) ∧ Aside0 (Below w.heap.size w w'))
  case atStart => exact ⟨(0), (by first | rfl | (simp; done) | (simp [*]; done)), H', ⟨Nat.le_refl _⟩, ⟨by repeat (first | (with_reducible first | exact HB.out | apply below_alloc | apply pw_below_drewN | apply below_drew1) | exact HB.out)⟩⟩
  case round =>
   clear H'
   try clear c1
   try clear c2
   try clear p2
   try clear c3
   try clear c3b0
   try clear c3b1
   try clear c3b2
   obtain ⟨x5_1, rfl, HA, HK1, HB⟩ := hrel
   cases gk with
   | zero => exact absurd HA.out (by simp [laws_eqHoldS.l0])
   | succ k1 =>
    have H := HA.out
    clear HA
    simp only [laws_eqHoldS.l0] at H
    by_cases c4 : x5_1 < (l0.length : Int)
    ·rw [if_pos c4] at H
     have c4b0 : decide (x5_1 < (l0.length : Int)) = true := decide_eq_true c4
     clear c4
     by_cases c5 : 0 ≤ x5_1
     ·rw [if_pos c5] at H
      have c5b0 : decide (0 ≤ x5_1) = true := decide_eq_true c5
      clear c5
      by_cases c6 : x5_1 < (l1.length : Int)
      ·rw [if_pos c6] at H
       have c6b0 : decide (x5_1 < (l1.length : Int)) = true := decide_eq_true c6
       clear c6
       replace H := Option.bind_eq_some_iff.mp H
       obtain ⟨t270003, A70, H⟩ := H
       replace H : (if t270003 = true then (laws_eqHoldS.l0 k1 l0 l1 (wrap64 (x5_1 + 1))) else (some false)) = some r := H
       have A7 := Aside0.mk A70
       clear A70
       by_cases c8 : t270003 = true
       ·subst c8
        have H1 : (laws_eqHoldS.l0 k1 l0 l1 (wrap64 (x5_1 + 1))) = some r := by rw [if_pos rfl] at H; exact H
        clear H
        have H := H1
        clear H1
        have H' := Aside0.mk H
        clear H
        try go_wp2
        have n0_ := Aside0.mk (below_drew1 HB.out)
        clear HB
        have HB := n0_
        clear n0_
        have p270001 : 0 ≤ (x5_1 : Int) := of_decide_eq_true (by first | (with_reducible assumption) | assumption)
        have q270001 : x5_1 < (l0.length : Int) := of_decide_eq_true (by first | (with_reducible assumption) | assumption)
        obtain ⟨ad270001, e270001, hx270001_0, hx270001_1, hx270001_2, hx270001_3⟩ := at_T45 HR0.out x5_1 p270001 q270001
        have hw270001_3 := hx270001_3
        have hw270001_2 := hx270001_2
        have hw270001_1 := hx270001_1
        have hw270001_0 := hx270001_0
        cases e270001
        replace hx270001_0 := (HB.out.cell (World.block_lt_of_cell? w _ hx270001_0)).trans hx270001_0
        replace hx270001_1 := (HB.out.cell (World.block_lt_of_cell? w _ hx270001_1)).trans hx270001_1
        replace hx270001_2 := (HB.out.cell (World.block_lt_of_cell? w _ hx270001_2)).trans hx270001_2
        replace hx270001_3 := (HB.out.cell (World.block_lt_of_cell? w _ hx270001_3)).trans hx270001_3
        replace p270001 := eq_true p270001
        replace q270001 := eq_true q270001
        have p270002 : 0 ≤ (x5_1 : Int) := of_decide_eq_true (by first | (with_reducible assumption) | assumption)
        have q270002 : x5_1 < (l1.length : Int) := of_decide_eq_true (by first | (with_reducible assumption) | assumption)
        obtain ⟨ad270002, e270002, hx270002_0, hx270002_1, hx270002_2, hx270002_3⟩ := at_T45 HR1.out x5_1 p270002 q270002
        have hw270002_3 := hx270002_3
        have hw270002_2 := hx270002_2
        have hw270002_1 := hx270002_1
        have hw270002_0 := hx270002_0
        cases e270002
        replace hx270002_0 := (HB.out.cell (World.block_lt_of_cell? w _ hx270002_0)).trans hx270002_0
        replace hx270002_1 := (HB.out.cell (World.block_lt_of_cell? w _ hx270002_1)).trans hx270002_1
        replace hx270002_2 := (HB.out.cell (World.block_lt_of_cell? w _ hx270002_2)).trans hx270002_2
        replace hx270002_3 := (HB.out.cell (World.block_lt_of_cell? w _ hx270002_3)).trans hx270002_3
        replace p270002 := eq_true p270002
        replace q270002 := eq_true q270002
        refine start_ (n := 10) (S := fun w' => w'.cell? (ad270001.add ((x5_1).toNat * 4)) = some (.int .i64 ((rd_T45 l0 x5_1).f0)) ∧ w'.cell? ⟨(ad270001.add ((x5_1).toNat * 4)).block, (ad270001.add ((x5_1).toNat * 4)).off + 1, none⟩ = some (.int .i64 ((rd_T45 l0 x5_1).f1)) ∧ w'.cell? ⟨(ad270001.add ((x5_1).toNat * 4)).block, (ad270001.add ((x5_1).toNat * 4)).off + 2, none⟩ = some (.bool ((rd_T45 l0 x5_1).f2)) ∧ w'.cell? ⟨(ad270001.add ((x5_1).toNat * 4)).block, (ad270001.add ((x5_1).toNat * 4)).off + 3, none⟩ = some (.bool ((rd_T45 l0 x5_1).f3)) ∧ w'.cell? (ad270002.add ((x5_1).toNat * 4)) = some (.int .i64 ((rd_T45 l1 x5_1).f0)) ∧ w'.cell? ⟨(ad270002.add ((x5_1).toNat * 4)).block, (ad270002.add ((x5_1).toNat * 4)).off + 1, none⟩ = some (.int .i64 ((rd_T45 l1 x5_1).f1)) ∧ w'.cell? ⟨(ad270002.add ((x5_1).toNat * 4)).block, (ad270002.add ((x5_1).toNat * 4)).off + 2, none⟩ = some (.bool ((rd_T45 l1 x5_1).f2)) ∧ w'.cell? ⟨(ad270002.add ((x5_1).toNat * 4)).block, (ad270002.add ((x5_1).toNat * 4)).off + 3, none⟩ = some (.bool ((rd_T45 l1 x5_1).f3))) (ds := []) (bt_ 10 0) (by kernel_rfl) rfl rfl ⟨((HB.out.cell (World.block_lt_of_cell? w _ hw270001_0)).trans hw270001_0), ((HB.out.cell (World.block_lt_of_cell? w _ hw270001_1)).trans hw270001_1), ((HB.out.cell (World.block_lt_of_cell? w _ hw270001_2)).trans hw270001_2), ((HB.out.cell (World.block_lt_of_cell? w _ hw270001_3)).trans hw270001_3), ((HB.out.cell (World.block_lt_of_cell? w _ hw270002_0)).trans hw270002_0), ((HB.out.cell (World.block_lt_of_cell? w _ hw270002_1)).trans hw270002_1), ((HB.out.cell (World.block_lt_of_cell? w _ hw270002_2)).trans hw270002_2), ((HB.out.cell (World.block_lt_of_cell? w _ hw270002_3)).trans hw270002_3)⟩ (fun hHeld => ?_); refine with_tabW laws_eqHoldS.tab6 laws_eqHoldS.bits6 (fun HT_ HW_ => ?_)
        generalize wr.drew = w9 at HB hx270001_0 hx270001_1 hx270001_2 hx270001_3 hx270002_0 hx270002_1 hx270002_2 hx270002_3 hHeld ⊢
        refine pu_ 0 (some 17) (bt_ 10 1) (any_of HT_.out (by kernel_rfl)) ?_
        refine pu_ 1 (some 18) (bt_ 10 3) (any_of HT_.out (by kernel_rfl)) ?_
        refine pu_ 2 (some 19) (bt_ 10 7) (any_of HT_.out (by kernel_rfl)) ?_
        refine pu_ 4 (some 21) (bt_ 10 23) (any_of HT_.out (by kernel_rfl)) ?_
        refine pu_ 5 (some 22) (bt_ 10 55) (any_of HT_.out (by kernel_rfl)) ?_
        refine pu_ 6 (some 23) (bt_ 10 119) (any_of HT_.out (by kernel_rfl)) ?_
        refine take_ (i := 3) (N := some 20) (v := ?_) (a' := ?_) (bt_ 10 127) rfl rfl (take_ofW HT_.out HW_.out (by kernel_rfl)) (fun _ _ _ h => h) (Or.inl ⟨by rfl, ?_⟩) hHeld ?_ ?_
        rotate_left
        ·rintro w' ⟨s0, s1, s2, s3, s4, s5, s6, s7⟩
         go_simp
         with_reducible rfl
        rotate_left
        ·simp only [Act.put, List.setIfInBounds_toArray, List.set_cons_zero, List.set_cons_succ, i64_w, i32_w]
         rfl
        refine take_ (i := 7) (N := some 24) (v := ?_) (a' := ?_) (bt_ 10 255) rfl rfl (take_ofW HT_.out HW_.out (by kernel_rfl)) (fun _ _ _ h => h) (Or.inl ⟨by rfl, ?_⟩) hHeld ?_ ?_
        rotate_left
        ·rintro w' ⟨s0, s1, s2, s3, s4, s5, s6, s7⟩
         go_simp
         with_reducible rfl
        rotate_left
        ·simp only [Act.put, List.setIfInBounds_toArray, List.set_cons_zero, List.set_cons_succ, i64_w, i32_w]
         rfl
        refine one_ (i := 8) (N := some 25) (bt_ 10 511) rfl rfl (one_of HT_.out (by kernel_rfl)) (by decide) (fun K hK => ?_)
        refine goes_ Try.func60 (by kernel_rfl) rfl #[.agg #[.int .i64 ((rd_T45 l0 x5_1).f0), .int .i64 ((rd_T45 l0 x5_1).f1), .bool ((rd_T45 l0 x5_1).f2), .bool ((rd_T45 l0 x5_1).f3)], .agg #[.int .i64 ((rd_T45 l1 x5_1).f0), .int .i64 ((rd_T45 l1 x5_1).f1), .bool ((rd_T45 l1 x5_1).f2), .bool ((rd_T45 l1 x5_1).f3)]] (by rfl) rfl rfl (by (try simp only [List.map_toArray, List.map_cons, List.map_nil]); first | done | rfl | (simp only [List.length_drop, List.length_take]; rfl)) ?_
        with_reducible refine (laws_eqHold.calls ((rd_T45 l0 x5_1).f0) ((rd_T45 l0 x5_1).f1) ((rd_T45 l0 x5_1).f2) ((rd_T45 l0 x5_1).f3) ((rd_T45 l1 x5_1).f0) ((rd_T45 l1 x5_1).f1) ((rd_T45 l1 x5_1).f2) ((rd_T45 l1 x5_1).f3) true _ A7.out).mono ?_
        rintro e w10 ⟨rfl, hb⟩
        refine ⟨_, rfl, ?_⟩
        have n0_ := Aside0.mk (below_step (by repeat (first | (with_reducible first | exact HB.out | apply below_alloc | apply pw_below_drewN | apply below_drew1) | exact HB.out)) hb)
        clear HB
        have HB := n0_
        clear n0_
        (try clear hb)
        (try clear hb2)
        (try clear hk)
        (try clear hi)
        refine hK.out _ _ ⟨((HB.out.cell (World.block_lt_of_cell? w _ hw270001_0)).trans hw270001_0), ((HB.out.cell (World.block_lt_of_cell? w _ hw270001_1)).trans hw270001_1), ((HB.out.cell (World.block_lt_of_cell? w _ hw270001_2)).trans hw270001_2), ((HB.out.cell (World.block_lt_of_cell? w _ hw270001_3)).trans hw270001_3), ((HB.out.cell (World.block_lt_of_cell? w _ hw270002_0)).trans hw270002_0), ((HB.out.cell (World.block_lt_of_cell? w _ hw270002_1)).trans hw270002_1), ((HB.out.cell (World.block_lt_of_cell? w _ hw270002_2)).trans hw270002_2), ((HB.out.cell (World.block_lt_of_cell? w _ hw270002_3)).trans hw270002_3)⟩ (fun hHeld => ?_)
        clear hK K
        refine norm_ (a' := ?_) ?_ ?_
        rotate_left
        ·show Act.put _ (some 25) _ = _
         simp only [Act.put, List.setIfInBounds_toArray, List.set_cons_zero, List.set_cons_succ, i64_w, i32_w]
         rfl
        refine pu_ 9 (some 26) (bt_ 10 1023) (any_of HT_.out (by kernel_rfl)) ?_
        refine done_ (done_of HT_.out (by kernel_rfl)) ?_
        try go_wp2
        go_roundg k1
        case measure => have := HK1.out; omega
        case rel => exact ⟨(wrap64 (x5_1 + 1)), (by first | rfl | (simp; done) | (simp [*]; done)), H', ⟨by have := HK1.out; omega⟩, ⟨by repeat (first | (with_reducible first | exact HB.out | apply below_alloc | apply pw_below_drewN | apply below_drew1) | exact HB.out)⟩⟩
       ·replace c8 := Bool.eq_false_iff.mpr c8
        subst c8
        have H1 : (some false) = some r := by rw [if_neg (show ¬ (false = true) by decide)] at H; exact H
        clear H
        have H := H1
        clear H1
        obtain rfl := Option.some.inj H
        try go_wp2
        have n0_ := Aside0.mk (below_drew1 HB.out)
        clear HB
        have HB := n0_
        clear n0_
        have p270001 : 0 ≤ (x5_1 : Int) := of_decide_eq_true (by first | (with_reducible assumption) | assumption)
        have q270001 : x5_1 < (l0.length : Int) := of_decide_eq_true (by first | (with_reducible assumption) | assumption)
        obtain ⟨ad270001, e270001, hx270001_0, hx270001_1, hx270001_2, hx270001_3⟩ := at_T45 HR0.out x5_1 p270001 q270001
        have hw270001_3 := hx270001_3
        have hw270001_2 := hx270001_2
        have hw270001_1 := hx270001_1
        have hw270001_0 := hx270001_0
        cases e270001
        replace hx270001_0 := (HB.out.cell (World.block_lt_of_cell? w _ hx270001_0)).trans hx270001_0
        replace hx270001_1 := (HB.out.cell (World.block_lt_of_cell? w _ hx270001_1)).trans hx270001_1
        replace hx270001_2 := (HB.out.cell (World.block_lt_of_cell? w _ hx270001_2)).trans hx270001_2
        replace hx270001_3 := (HB.out.cell (World.block_lt_of_cell? w _ hx270001_3)).trans hx270001_3
        replace p270001 := eq_true p270001
        replace q270001 := eq_true q270001
        have p270002 : 0 ≤ (x5_1 : Int) := of_decide_eq_true (by first | (with_reducible assumption) | assumption)
        have q270002 : x5_1 < (l1.length : Int) := of_decide_eq_true (by first | (with_reducible assumption) | assumption)
        obtain ⟨ad270002, e270002, hx270002_0, hx270002_1, hx270002_2, hx270002_3⟩ := at_T45 HR1.out x5_1 p270002 q270002
        have hw270002_3 := hx270002_3
        have hw270002_2 := hx270002_2
        have hw270002_1 := hx270002_1
        have hw270002_0 := hx270002_0
        cases e270002
        replace hx270002_0 := (HB.out.cell (World.block_lt_of_cell? w _ hx270002_0)).trans hx270002_0
        replace hx270002_1 := (HB.out.cell (World.block_lt_of_cell? w _ hx270002_1)).trans hx270002_1
        replace hx270002_2 := (HB.out.cell (World.block_lt_of_cell? w _ hx270002_2)).trans hx270002_2
        replace hx270002_3 := (HB.out.cell (World.block_lt_of_cell? w _ hx270002_3)).trans hx270002_3
        replace p270002 := eq_true p270002
        replace q270002 := eq_true q270002
        refine start_ (n := 10) (S := fun w' => w'.cell? (ad270001.add ((x5_1).toNat * 4)) = some (.int .i64 ((rd_T45 l0 x5_1).f0)) ∧ w'.cell? ⟨(ad270001.add ((x5_1).toNat * 4)).block, (ad270001.add ((x5_1).toNat * 4)).off + 1, none⟩ = some (.int .i64 ((rd_T45 l0 x5_1).f1)) ∧ w'.cell? ⟨(ad270001.add ((x5_1).toNat * 4)).block, (ad270001.add ((x5_1).toNat * 4)).off + 2, none⟩ = some (.bool ((rd_T45 l0 x5_1).f2)) ∧ w'.cell? ⟨(ad270001.add ((x5_1).toNat * 4)).block, (ad270001.add ((x5_1).toNat * 4)).off + 3, none⟩ = some (.bool ((rd_T45 l0 x5_1).f3)) ∧ w'.cell? (ad270002.add ((x5_1).toNat * 4)) = some (.int .i64 ((rd_T45 l1 x5_1).f0)) ∧ w'.cell? ⟨(ad270002.add ((x5_1).toNat * 4)).block, (ad270002.add ((x5_1).toNat * 4)).off + 1, none⟩ = some (.int .i64 ((rd_T45 l1 x5_1).f1)) ∧ w'.cell? ⟨(ad270002.add ((x5_1).toNat * 4)).block, (ad270002.add ((x5_1).toNat * 4)).off + 2, none⟩ = some (.bool ((rd_T45 l1 x5_1).f2)) ∧ w'.cell? ⟨(ad270002.add ((x5_1).toNat * 4)).block, (ad270002.add ((x5_1).toNat * 4)).off + 3, none⟩ = some (.bool ((rd_T45 l1 x5_1).f3))) (ds := []) (bt_ 10 0) (by kernel_rfl) rfl rfl ⟨((HB.out.cell (World.block_lt_of_cell? w _ hw270001_0)).trans hw270001_0), ((HB.out.cell (World.block_lt_of_cell? w _ hw270001_1)).trans hw270001_1), ((HB.out.cell (World.block_lt_of_cell? w _ hw270001_2)).trans hw270001_2), ((HB.out.cell (World.block_lt_of_cell? w _ hw270001_3)).trans hw270001_3), ((HB.out.cell (World.block_lt_of_cell? w _ hw270002_0)).trans hw270002_0), ((HB.out.cell (World.block_lt_of_cell? w _ hw270002_1)).trans hw270002_1), ((HB.out.cell (World.block_lt_of_cell? w _ hw270002_2)).trans hw270002_2), ((HB.out.cell (World.block_lt_of_cell? w _ hw270002_3)).trans hw270002_3)⟩ (fun hHeld => ?_); refine with_tabW laws_eqHoldS.tab6 laws_eqHoldS.bits6 (fun HT_ HW_ => ?_)
        generalize wr.drew = w11 at HB hx270001_0 hx270001_1 hx270001_2 hx270001_3 hx270002_0 hx270002_1 hx270002_2 hx270002_3 hHeld ⊢
        refine pu_ 0 (some 17) (bt_ 10 1) (any_of HT_.out (by kernel_rfl)) ?_
        refine pu_ 1 (some 18) (bt_ 10 3) (any_of HT_.out (by kernel_rfl)) ?_
        refine pu_ 2 (some 19) (bt_ 10 7) (any_of HT_.out (by kernel_rfl)) ?_
        refine pu_ 4 (some 21) (bt_ 10 23) (any_of HT_.out (by kernel_rfl)) ?_
        refine pu_ 5 (some 22) (bt_ 10 55) (any_of HT_.out (by kernel_rfl)) ?_
        refine pu_ 6 (some 23) (bt_ 10 119) (any_of HT_.out (by kernel_rfl)) ?_
        refine take_ (i := 3) (N := some 20) (v := ?_) (a' := ?_) (bt_ 10 127) rfl rfl (take_ofW HT_.out HW_.out (by kernel_rfl)) (fun _ _ _ h => h) (Or.inl ⟨by rfl, ?_⟩) hHeld ?_ ?_
        rotate_left
        ·rintro w' ⟨s0, s1, s2, s3, s4, s5, s6, s7⟩
         go_simp
         with_reducible rfl
        rotate_left
        ·simp only [Act.put, List.setIfInBounds_toArray, List.set_cons_zero, List.set_cons_succ, i64_w, i32_w]
         rfl
        refine take_ (i := 7) (N := some 24) (v := ?_) (a' := ?_) (bt_ 10 255) rfl rfl (take_ofW HT_.out HW_.out (by kernel_rfl)) (fun _ _ _ h => h) (Or.inl ⟨by rfl, ?_⟩) hHeld ?_ ?_
        rotate_left
        ·rintro w' ⟨s0, s1, s2, s3, s4, s5, s6, s7⟩
         go_simp
         with_reducible rfl
        rotate_left
        ·simp only [Act.put, List.setIfInBounds_toArray, List.set_cons_zero, List.set_cons_succ, i64_w, i32_w]
         rfl
        refine one_ (i := 8) (N := some 25) (bt_ 10 511) rfl rfl (one_of HT_.out (by kernel_rfl)) (by decide) (fun K hK => ?_)
        refine goes_ Try.func60 (by kernel_rfl) rfl #[.agg #[.int .i64 ((rd_T45 l0 x5_1).f0), .int .i64 ((rd_T45 l0 x5_1).f1), .bool ((rd_T45 l0 x5_1).f2), .bool ((rd_T45 l0 x5_1).f3)], .agg #[.int .i64 ((rd_T45 l1 x5_1).f0), .int .i64 ((rd_T45 l1 x5_1).f1), .bool ((rd_T45 l1 x5_1).f2), .bool ((rd_T45 l1 x5_1).f3)]] (by rfl) rfl rfl (by (try simp only [List.map_toArray, List.map_cons, List.map_nil]); first | done | rfl | (simp only [List.length_drop, List.length_take]; rfl)) ?_
        with_reducible refine (laws_eqHold.calls ((rd_T45 l0 x5_1).f0) ((rd_T45 l0 x5_1).f1) ((rd_T45 l0 x5_1).f2) ((rd_T45 l0 x5_1).f3) ((rd_T45 l1 x5_1).f0) ((rd_T45 l1 x5_1).f1) ((rd_T45 l1 x5_1).f2) ((rd_T45 l1 x5_1).f3) false _ A7.out).mono ?_
        rintro e w12 ⟨rfl, hb⟩
        refine ⟨_, rfl, ?_⟩
        have n0_ := Aside0.mk (below_step (by repeat (first | (with_reducible first | exact HB.out | apply below_alloc | apply pw_below_drewN | apply below_drew1) | exact HB.out)) hb)
        clear HB
        have HB := n0_
        clear n0_
        (try clear hb)
        (try clear hb2)
        (try clear hk)
        (try clear hi)
        refine hK.out _ _ ⟨((HB.out.cell (World.block_lt_of_cell? w _ hw270001_0)).trans hw270001_0), ((HB.out.cell (World.block_lt_of_cell? w _ hw270001_1)).trans hw270001_1), ((HB.out.cell (World.block_lt_of_cell? w _ hw270001_2)).trans hw270001_2), ((HB.out.cell (World.block_lt_of_cell? w _ hw270001_3)).trans hw270001_3), ((HB.out.cell (World.block_lt_of_cell? w _ hw270002_0)).trans hw270002_0), ((HB.out.cell (World.block_lt_of_cell? w _ hw270002_1)).trans hw270002_1), ((HB.out.cell (World.block_lt_of_cell? w _ hw270002_2)).trans hw270002_2), ((HB.out.cell (World.block_lt_of_cell? w _ hw270002_3)).trans hw270002_3)⟩ (fun hHeld => ?_)
        clear hK K
        refine norm_ (a' := ?_) ?_ ?_
        rotate_left
        ·show Act.put _ (some 25) _ = _
         simp only [Act.put, List.setIfInBounds_toArray, List.set_cons_zero, List.set_cons_succ, i64_w, i32_w]
         rfl
        refine pu_ 9 (some 26) (bt_ 10 1023) (any_of HT_.out (by kernel_rfl)) ?_
        refine done_ (done_of HT_.out (by kernel_rfl)) ?_
        try go_wp2
        go_ret
        exact ⟨by first | rfl | (simp [errW_none, errW_some] <;> rfl) | (simp [*, errW_none, errW_some] <;> rfl), by repeat (first | (with_reducible first | exact HB.out | apply below_alloc | apply pw_below_drewN | apply below_drew1) | exact HB.out)⟩
      ·rw [if_neg c6] at H
       exact absurd H (by simp)
     ·rw [if_neg c5] at H
      exact absurd H (by simp)
    ·rw [if_neg c4] at H
     have c4b0 : decide (x5_1 < (l0.length : Int)) = false := decide_eq_false c4
     clear c4
     obtain rfl := Option.some.inj H
     go_wp2
     go_ret
     exact ⟨by first | rfl | (simp [errW_none, errW_some] <;> rfl) | (simp [*, errW_none, errW_some] <;> rfl), by repeat (first | (with_reducible first | exact HB.out | apply below_alloc | apply pw_below_drewN | apply below_drew1) | exact HB.out)⟩
 ·rw [if_neg c3] at H
  have c3b0 : ((l0.length : Int) == (l1.length : Int)) = false := beq_eq_false_iff_ne.mpr c3
  have c3b1 : ((l0.length : Int) != (l1.length : Int)) = true := bne_iff_ne.mpr c3
  have c3b2 : (l0.length == l1.length) = false := by first | simpa using c3 | (simp at c3 ⊢; omega)
  obtain rfl := Option.some.inj H
  go_enter Try.func26, Try.ntmps26
  go_wp2
  go_ret
  exact ⟨by first | rfl | (simp [errW_none, errW_some] <;> rfl) | (simp [*, errW_none, errW_some] <;> rfl), by repeat (first | (with_reducible first | exact HB.out | apply below_alloc | apply pw_below_drewN | apply below_drew1) | exact HB.out)⟩

end Go.Proofs.Ytjldpnhlegbjkaa.PY
