import Derived.Test.YtjldpnhlegbjkaaPAx0
import Derived.Test.YtjldpnhlegbjkaaPAx33
namespace Go.Proofs.Ytjldpnhlegbjkaa.PA
open Go.RowKit Go.Proofs.YtjldpnhlegbjkaaW.PrintWords Go.Proofs.YtjldpnhlegbjkaaW.PrintLast Go.Proofs.YtjldpnhlegbjkaaW.PrintMore
attribute [local go_sem] max2_int min2_int max_two min_two max_three min_three max_four min_four
set_option linter.unusedVariables false
set_option linter.unusedSimpArgs false

def laws_loLock.f (k : Nat) (a0_0 : Int) (l0_1 : List (S45)) (l0_2 : List (S45)) (a1_0 : Int) (l1_1 : List (S45)) (l1_2 : List (S45)) : Option (Bool) := if a0_0 = a1_0 then ((laws_loHolds.f k l0_1 l1_1).bind fun t340003 => (if t340003 = true then ((laws_loHolds.f k l0_2 l1_2).bind fun t340004 => (some t340004)) else (some false))) else (some false)
theorem laws_loLock.mono : ∀ a0 a1 a2 a3 a4 a5 k, LeO (laws_loLock.f k a0 a1 a2 a3 a4 a5) (laws_loLock.f (k + 1) a0 a1 a2 a3 a4 a5) := by
 intro a0 a1 a2 a3 a4 a5 k
 unfold laws_loLock.f
 repeat' first
  | (with_reducible exact laws_loHolds.mono _ _ _)
  | (with_reducible exact LeO.refl _)
  | (with_reducible exact LeO.none _)
  | (with_reducible refine LeO.ite ?_ ?_)
  | (with_reducible refine LeO.bind ?_ (fun _ => ?_))
  | exact laws_loHolds.mono _ _ _
  | exact LeO.none _
  | refine LeO.ite ?_ ?_
  | refine LeO.bind ?_ (fun _ => ?_)
set_option maxHeartbeats 8000000 in
set_option maxRecDepth 100000 in
theorem laws_loLock.calls (k : Nat) (a0_0 : Int) (A0_1 : Option Addr) (c0_1 : Nat) (l0_1 : List (S45)) (A0_2 : Option Addr) (c0_2 : Nat) (l0_2 : List (S45)) (a1_0 : Int) (A1_1 : Option Addr) (c1_1 : Nat) (l1_1 : List (S45)) (A1_2 : Option Addr) (c1_2 : Nat) (l1_2 : List (S45)) (r : Bool) (w : World) (hr0_1 : Kd.C k45 w A0_1 l0_1.length l0_1) (hc0_1 : l0_1.length ≤ c0_1) (hr0_2 : Kd.C k45 w A0_2 l0_2.length l0_2) (hc0_2 : l0_2.length ≤ c0_2) (hr1_1 : Kd.C k45 w A1_1 l1_1.length l1_1) (hc1_1 : l1_1.length ≤ c1_1) (hr1_2 : Kd.C k45 w A1_2 l1_2.length l1_2) (hc1_2 : l1_2.length ≤ c1_2) (h : laws_loLock.f k a0_0 l0_1 l0_2 a1_0 l1_1 l1_2 = some r) :
 Calls Try.prog 33 #[.agg #[.int .i64 a0_0, .slice A0_1 l0_1.length c0_1, .slice A0_2 l0_2.length c0_2], .agg #[.int .i64 a1_0, .slice A1_1 l1_1.length c1_1, .slice A1_2 l1_2.length c1_2]] w fun e w' => e = .returned (.bool r) ∧ Below w.heap.size w w' := by
 have hu29 := Try.underlying29
 have HR0_1 := Aside0.mk hr0_1
 have HC0_1 := Aside0.mk hc0_1
 clear hr0_1 hc0_1
 have HR0_2 := Aside0.mk hr0_2
 have HC0_2 := Aside0.mk hc0_2
 clear hr0_2 hc0_2
 have HR1_1 := Aside0.mk hr1_1
 have HC1_1 := Aside0.mk hc1_1
 clear hr1_1 hc1_1
 have HR1_2 := Aside0.mk hr1_2
 have HC1_2 := Aside0.mk hc1_2
 clear hr1_2 hc1_2
 have HB := Aside0.mk (Below.refl w.heap.size w)
 have H : (if a0_0 = a1_0 then ((laws_loHolds.f k l0_1 l1_1).bind fun jj => (if jj = true then ((laws_loHolds.f k l0_2 l1_2).bind fun je => (some je)) else (some false))) else (some false)) = some r := h
 clear h
 by_cases c3 : a0_0 = a1_0
 ·rw [if_pos c3] at H
  have c3b0 : (a0_0 == a1_0) = true := beq_iff_eq.mpr c3
  have c3b1 : (a0_0 != a1_0) = false := bne_eq_false_iff_eq.mpr c3
  clear c3
  replace H := Option.bind_eq_some_iff.mp H
  obtain ⟨jj, A40, H⟩ := H
  replace H : (if jj = true then ((laws_loHolds.f k l0_2 l1_2).bind fun je => (some je)) else (some false)) = some r := H
  have A4 := Aside0.mk A40
  clear A40
  by_cases c5 : jj = true
  ·subst c5
   have H1 : ((laws_loHolds.f k l0_2 l1_2).bind fun je => (some je)) = some r := by rw [if_pos rfl] at H; exact H
   clear H
   have H := H1
   clear H1
   replace H := Option.bind_eq_some_iff.mp H
   obtain ⟨je, A60, H⟩ := H
   replace H : (some je) = some r := H
   have A6 := Aside0.mk A60
   clear A60
   obtain rfl := Option.some.inj H
   go_enter Try.func33, Try.ntmps33
   go_wp2_with (first | ((with_reducible refine gate_dst (N := 2) rfl ?_); refine box_event ?hg (N := 2) ?hd (cs := #[.int .i64 a0_0, .slice A0_1 l0_1.length c0_1, .slice A0_2 l0_2.length c0_2]) (t := 29) ?hr ?_; (case hd => rfl); (case hg => rfl); (case hr => first | (go_simp; done) | (go_simp; rfl)); intro jb hg w7 hbox hb; have n0_ := Aside0.mk (below_step (hb_ HB.out) hb); have n1_ := Aside0.mk (hbox); have n2_ := Aside0.mk ((by rw [hg]; exact (below_size (hb_ HB.out)) : w.heap.size ≤ jb)); have n3_ := Aside0.mk ((by rw [hg]; exact (below_size (hb_ HB.out)) : w.heap.size ≤ jb)); clear HB; have HB := n0_; have ja := n1_; have jk := n2_; have ji := n3_; clear n0_ n1_ n2_ n3_; clear hb hbox hg) | ((with_reducible refine gate_dst (N := 3) rfl ?_); refine box_event ?hg (N := 3) ?hd (cs := #[.int .i64 a1_0, .slice A1_1 l1_1.length c1_1, .slice A1_2 l1_2.length c1_2]) (t := 29) ?hr ?_; (case hd => rfl); (case hg => rfl); (case hr => first | (go_simp; done) | (go_simp; rfl)); intro jc hg w8 hbox hb; have n0_ := Aside0.mk (blk_below (bk_ ja.out) hb); have n1_ := Aside0.mk (below_step (hb_ HB.out) hb); have n2_ := Aside0.mk (hbox); have n3_ := Aside0.mk ((by rw [hg]; exact (below_size (hb_ HB.out)) : w.heap.size ≤ jc)); have n4_ := Aside0.mk ((by rw [hg]; exact (below_size (hb_ HB.out)) : w.heap.size ≤ jc)); have n5_ := Aside0.mk ((by rw [hg]; exact Nat.ne_of_lt (blk_lt (g := jb) (o := .cells #[.int .i64 a0_0, .slice A0_1 l0_1.length c0_1, .slice A0_2 l0_2.length c0_2] 29 (0, 0)) (bk_ ja.out)) : jb ≠ jc)); have n6_ := Aside0.mk ((by rw [hg]; exact Nat.ne_of_gt (blk_lt (g := jb) (o := .cells #[.int .i64 a0_0, .slice A0_1 l0_1.length c0_1, .slice A0_2 l0_2.length c0_2] 29 (0, 0)) (bk_ ja.out)) : jc ≠ jb)); clear ja; clear HB; have ja := n0_; have HB := n1_; have jd := n2_; have jl := n3_; have jg := n4_; have jf := n5_; have jh := n6_; clear n0_ n1_ n2_ n3_ n4_ n5_ n6_; clear hb hbox hg; have hnb9 := jf.out; have hnc9 := jh.out; have hcz10_0 : w8.cell? ⟨jb, 0, none⟩ = some (.int .i64 a0_0) := (blk_cell ja.out 0).trans rfl; have hcz10_1 : w8.cell? ⟨jb, 1, none⟩ = some (.slice A0_1 l0_1.length c0_1) := (blk_cell ja.out 1).trans rfl; have hcz10_2 : w8.cell? ⟨jb, 2, none⟩ = some (.slice A0_2 l0_2.length c0_2) := (blk_cell ja.out 2).trans rfl; have hfz10_0 := blk_frozen ja.out 0; have hfz10_1 := blk_frozen ja.out 1; have hfz10_2 := blk_frozen ja.out 2; have hcz11_0 : w8.cell? ⟨jc, 0, none⟩ = some (.int .i64 a1_0) := (blk_cell jd.out 0).trans rfl; have hcz11_1 : w8.cell? ⟨jc, 1, none⟩ = some (.slice A1_1 l1_1.length c1_1) := (blk_cell jd.out 1).trans rfl; have hcz11_2 : w8.cell? ⟨jc, 2, none⟩ = some (.slice A1_2 l1_2.length c1_2) := (blk_cell jd.out 2).trans rfl; have hfz11_0 := blk_frozen jd.out 0; have hfz11_1 := blk_frozen jd.out 1; have hfz11_2 := blk_frozen jd.out 2) | (go_at_call 34; (with_reducible refine (laws_loHolds.calls k _ _ l0_1 _ _ l1_1 true _ ?side1 ?side2 ?side3 ?side4 A4.out).mono ?_); (case side1 => repeat (first | exact (Kd.C_below HR0_1.out HB.out) | (with_reducible refine Kd.C_alloc ?_ _) | (with_reducible refine Kd.C_drewN ?_ _) | (with_reducible refine Kd.C_drew ?_))); (case side2 => exact HC0_1.out); (case side3 => repeat (first | exact (Kd.C_below HR1_1.out HB.out) | (with_reducible refine Kd.C_alloc ?_ _) | (with_reducible refine Kd.C_drewN ?_ _) | (with_reducible refine Kd.C_drew ?_))); (case side4 => exact HC1_1.out); rintro e w' ⟨rfl, ⟨nd, rfl⟩⟩) | (go_at_call 34; (with_reducible refine (laws_loHolds.calls k _ _ l0_2 _ _ l1_2 je _ ?side1 ?side2 ?side3 ?side4 A6.out).mono ?_); (case side1 => repeat (first | exact (Kd.C_below HR0_2.out (hb_ HB.out)) | (with_reducible refine Kd.C_alloc ?_ _) | (with_reducible refine Kd.C_drewN ?_ _) | (with_reducible refine Kd.C_drew ?_))); (case side2 => exact HC0_2.out); (case side3 => repeat (first | exact (Kd.C_below HR1_2.out (hb_ HB.out)) | (with_reducible refine Kd.C_alloc ?_ _) | (with_reducible refine Kd.C_drewN ?_ _) | (with_reducible refine Kd.C_drew ?_))); (case side4 => exact HC1_2.out); rintro e w' ⟨rfl, ⟨nd, rfl⟩⟩))
   go_ret
   exact ⟨by first | rfl | (simp [errW_none, errW_some] <;> rfl) | (simp [*, errW_none, errW_some] <;> rfl), by repeat (first | (with_reducible first | exact HB.out | apply below_alloc | apply pw_below_drewN | apply below_drew1 | refine below_set ?_ ji.out | refine below_set ?_ jg.out) | exact HB.out)⟩
  ·replace c5 := Bool.eq_false_iff.mpr c5
   subst c5
   have H1 : (some false) = some r := by rw [if_neg (show ¬ (false = true) by decide)] at H; exact H
   clear H
   have H := H1
   clear H1
   obtain rfl := Option.some.inj H
   go_enter Try.func33, Try.ntmps33
   go_wp2_with (first | ((with_reducible refine gate_dst (N := 2) rfl ?_); refine box_event ?hg (N := 2) ?hd (cs := #[.int .i64 a0_0, .slice A0_1 l0_1.length c0_1, .slice A0_2 l0_2.length c0_2]) (t := 29) ?hr ?_; (case hd => rfl); (case hg => rfl); (case hr => first | (go_simp; done) | (go_simp; rfl)); intro jb hg w12 hbox hb; have n0_ := Aside0.mk (below_step (hb_ HB.out) hb); have n1_ := Aside0.mk (hbox); have n2_ := Aside0.mk ((by rw [hg]; exact (below_size (hb_ HB.out)) : w.heap.size ≤ jb)); have n3_ := Aside0.mk ((by rw [hg]; exact (below_size (hb_ HB.out)) : w.heap.size ≤ jb)); clear HB; have HB := n0_; have ja := n1_; have jk := n2_; have ji := n3_; clear n0_ n1_ n2_ n3_; clear hb hbox hg) | ((with_reducible refine gate_dst (N := 3) rfl ?_); refine box_event ?hg (N := 3) ?hd (cs := #[.int .i64 a1_0, .slice A1_1 l1_1.length c1_1, .slice A1_2 l1_2.length c1_2]) (t := 29) ?hr ?_; (case hd => rfl); (case hg => rfl); (case hr => first | (go_simp; done) | (go_simp; rfl)); intro jc hg w13 hbox hb; have n0_ := Aside0.mk (blk_below (bk_ ja.out) hb); have n1_ := Aside0.mk (below_step (hb_ HB.out) hb); have n2_ := Aside0.mk (hbox); have n3_ := Aside0.mk ((by rw [hg]; exact (below_size (hb_ HB.out)) : w.heap.size ≤ jc)); have n4_ := Aside0.mk ((by rw [hg]; exact (below_size (hb_ HB.out)) : w.heap.size ≤ jc)); have n5_ := Aside0.mk ((by rw [hg]; exact Nat.ne_of_lt (blk_lt (g := jb) (o := .cells #[.int .i64 a0_0, .slice A0_1 l0_1.length c0_1, .slice A0_2 l0_2.length c0_2] 29 (0, 0)) (bk_ ja.out)) : jb ≠ jc)); have n6_ := Aside0.mk ((by rw [hg]; exact Nat.ne_of_gt (blk_lt (g := jb) (o := .cells #[.int .i64 a0_0, .slice A0_1 l0_1.length c0_1, .slice A0_2 l0_2.length c0_2] 29 (0, 0)) (bk_ ja.out)) : jc ≠ jb)); clear ja; clear HB; have ja := n0_; have HB := n1_; have jd := n2_; have jl := n3_; have jg := n4_; have jf := n5_; have jh := n6_; clear n0_ n1_ n2_ n3_ n4_ n5_ n6_; clear hb hbox hg; have hnb14 := jf.out; have hnc14 := jh.out; have hcz15_0 : w13.cell? ⟨jb, 0, none⟩ = some (.int .i64 a0_0) := (blk_cell ja.out 0).trans rfl; have hcz15_1 : w13.cell? ⟨jb, 1, none⟩ = some (.slice A0_1 l0_1.length c0_1) := (blk_cell ja.out 1).trans rfl; have hcz15_2 : w13.cell? ⟨jb, 2, none⟩ = some (.slice A0_2 l0_2.length c0_2) := (blk_cell ja.out 2).trans rfl; have hfz15_0 := blk_frozen ja.out 0; have hfz15_1 := blk_frozen ja.out 1; have hfz15_2 := blk_frozen ja.out 2; have hcz16_0 : w13.cell? ⟨jc, 0, none⟩ = some (.int .i64 a1_0) := (blk_cell jd.out 0).trans rfl; have hcz16_1 : w13.cell? ⟨jc, 1, none⟩ = some (.slice A1_1 l1_1.length c1_1) := (blk_cell jd.out 1).trans rfl; have hcz16_2 : w13.cell? ⟨jc, 2, none⟩ = some (.slice A1_2 l1_2.length c1_2) := (blk_cell jd.out 2).trans rfl; have hfz16_0 := blk_frozen jd.out 0; have hfz16_1 := blk_frozen jd.out 1; have hfz16_2 := blk_frozen jd.out 2) | (go_at_call 34; (with_reducible refine (laws_loHolds.calls k _ _ l0_1 _ _ l1_1 false _ ?side1 ?side2 ?side3 ?side4 A4.out).mono ?_); (case side1 => repeat (first | exact (Kd.C_below HR0_1.out HB.out) | (with_reducible refine Kd.C_alloc ?_ _) | (with_reducible refine Kd.C_drewN ?_ _) | (with_reducible refine Kd.C_drew ?_))); (case side2 => exact HC0_1.out); (case side3 => repeat (first | exact (Kd.C_below HR1_1.out HB.out) | (with_reducible refine Kd.C_alloc ?_ _) | (with_reducible refine Kd.C_drewN ?_ _) | (with_reducible refine Kd.C_drew ?_))); (case side4 => exact HC1_1.out); rintro e w' ⟨rfl, ⟨nd, rfl⟩⟩))
   go_ret
   exact ⟨by first | rfl | (simp [errW_none, errW_some] <;> rfl) | (simp [*, errW_none, errW_some] <;> rfl), by repeat (first | (with_reducible first | exact HB.out | apply below_alloc | apply pw_below_drewN | apply below_drew1 | refine below_set ?_ ji.out | refine below_set ?_ jg.out) | exact HB.out)⟩
 ·rw [if_neg c3] at H
  have c3b0 : (a0_0 == a1_0) = false := beq_eq_false_iff_ne.mpr c3
  have c3b1 : (a0_0 != a1_0) = true := bne_iff_ne.mpr c3
  obtain rfl := Option.some.inj H
  go_enter Try.func33, Try.ntmps33
  go_wp2_with (first | ((with_reducible refine gate_dst (N := 2) rfl ?_); refine box_event ?hg (N := 2) ?hd (cs := #[.int .i64 a0_0, .slice A0_1 l0_1.length c0_1, .slice A0_2 l0_2.length c0_2]) (t := 29) ?hr ?_; (case hd => rfl); (case hg => rfl); (case hr => first | (go_simp; done) | (go_simp; rfl)); intro jb hg w17 hbox hb; have n0_ := Aside0.mk (below_step (hb_ HB.out) hb); have n1_ := Aside0.mk (hbox); have n2_ := Aside0.mk ((by rw [hg]; exact (below_size (hb_ HB.out)) : w.heap.size ≤ jb)); have n3_ := Aside0.mk ((by rw [hg]; exact (below_size (hb_ HB.out)) : w.heap.size ≤ jb)); clear HB; have HB := n0_; have ja := n1_; have jk := n2_; have ji := n3_; clear n0_ n1_ n2_ n3_; clear hb hbox hg) | ((with_reducible refine gate_dst (N := 3) rfl ?_); refine box_event ?hg (N := 3) ?hd (cs := #[.int .i64 a1_0, .slice A1_1 l1_1.length c1_1, .slice A1_2 l1_2.length c1_2]) (t := 29) ?hr ?_; (case hd => rfl); (case hg => rfl); (case hr => first | (go_simp; done) | (go_simp; rfl)); intro jc hg w18 hbox hb; have n0_ := Aside0.mk (blk_below (bk_ ja.out) hb); have n1_ := Aside0.mk (below_step (hb_ HB.out) hb); have n2_ := Aside0.mk (hbox); have n3_ := Aside0.mk ((by rw [hg]; exact (below_size (hb_ HB.out)) : w.heap.size ≤ jc)); have n4_ := Aside0.mk ((by rw [hg]; exact (below_size (hb_ HB.out)) : w.heap.size ≤ jc)); have n5_ := Aside0.mk ((by rw [hg]; exact Nat.ne_of_lt (blk_lt (g := jb) (o := .cells #[.int .i64 a0_0, .slice A0_1 l0_1.length c0_1, .slice A0_2 l0_2.length c0_2] 29 (0, 0)) (bk_ ja.out)) : jb ≠ jc)); have n6_ := Aside0.mk ((by rw [hg]; exact Nat.ne_of_gt (blk_lt (g := jb) (o := .cells #[.int .i64 a0_0, .slice A0_1 l0_1.length c0_1, .slice A0_2 l0_2.length c0_2] 29 (0, 0)) (bk_ ja.out)) : jc ≠ jb)); clear ja; clear HB; have ja := n0_; have HB := n1_; have jd := n2_; have jl := n3_; have jg := n4_; have jf := n5_; have jh := n6_; clear n0_ n1_ n2_ n3_ n4_ n5_ n6_; clear hb hbox hg; have hnb19 := jf.out; have hnc19 := jh.out; have hcz20_0 : w18.cell? ⟨jb, 0, none⟩ = some (.int .i64 a0_0) := (blk_cell ja.out 0).trans rfl; have hcz20_1 : w18.cell? ⟨jb, 1, none⟩ = some (.slice A0_1 l0_1.length c0_1) := (blk_cell ja.out 1).trans rfl; have hcz20_2 : w18.cell? ⟨jb, 2, none⟩ = some (.slice A0_2 l0_2.length c0_2) := (blk_cell ja.out 2).trans rfl; have hfz20_0 := blk_frozen ja.out 0; have hfz20_1 := blk_frozen ja.out 1; have hfz20_2 := blk_frozen ja.out 2; have hcz21_0 : w18.cell? ⟨jc, 0, none⟩ = some (.int .i64 a1_0) := (blk_cell jd.out 0).trans rfl; have hcz21_1 : w18.cell? ⟨jc, 1, none⟩ = some (.slice A1_1 l1_1.length c1_1) := (blk_cell jd.out 1).trans rfl; have hcz21_2 : w18.cell? ⟨jc, 2, none⟩ = some (.slice A1_2 l1_2.length c1_2) := (blk_cell jd.out 2).trans rfl; have hfz21_0 := blk_frozen jd.out 0; have hfz21_1 := blk_frozen jd.out 1; have hfz21_2 := blk_frozen jd.out 2))
  go_ret
  exact ⟨by first | rfl | (simp [errW_none, errW_some] <;> rfl) | (simp [*, errW_none, errW_some] <;> rfl), by repeat (first | (with_reducible first | exact HB.out | apply below_alloc | apply pw_below_drewN | apply below_drew1 | refine below_set ?_ ji.out | refine below_set ?_ jg.out) | exact HB.out)⟩

end Go.Proofs.Ytjldpnhlegbjkaa.PA
