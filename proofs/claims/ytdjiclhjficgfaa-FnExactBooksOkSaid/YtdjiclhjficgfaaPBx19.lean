import Derived.Test.YtdjiclhjficgfaaPBx0
import Derived.Test.YtdjiclhjficgfaaPBx3
import Derived.Test.YtdjiclhjficgfaaPBx7
import Derived.Test.YtdjiclhjficgfaaPBx8
import Derived.Test.YtdjiclhjficgfaaPBx12
import Derived.Test.YtdjiclhjficgfaaPBx13
import Derived.Test.YtdjiclhjficgfaaPBx18
namespace Go.Proofs.Ytdjiclhjficgfaa.PB
open Go.RowKit Go.Proofs.YtdjiclhjficgfaaW.PrintWords Go.Proofs.YtdjiclhjficgfaaW.PrintLast Go.Proofs.YtdjiclhjficgfaaW.PrintMore
attribute [local go_sem] max2_int min2_int max_two min_two max_three min_three max_four min_four
set_option linter.unusedVariables false
set_option linter.unusedSimpArgs false

def laws_FnExactBooksOk.f (k : Nat) (a0_0 : Int) (a0_1 : Int) (l0_2 : List Int) (l0_3 : List (S80)) (l0_4 : List (S131)) : Option (Bool) := (laws_szBooks.f k a0_0 a0_1 l0_2 l0_3 l0_4 1048576).bind fun t140002 => (if t140002 < 0 then (some true) else ((laws_toBooks.f k a0_0 a0_1 l0_2 l0_3 l0_4).bind fun bt140003 => ((spec_BooksOk.f k bt140003.1 bt140003.2.1 bt140003.2.2.1 bt140003.2.2.2.1 bt140003.2.2.2.2).bind fun t140014 => ((laws_toBooks.f k a0_0 a0_1 l0_2 l0_3 l0_4).bind fun bt140015 => ((impl_BooksOk.f k bt140015.1 bt140015.2.1 bt140015.2.2.1 bt140015.2.2.2.1 bt140015.2.2.2.2).bind fun t140027 => (if (t140027 != t140014) = true then (some false) else ((laws_toBooks.f k a0_0 a0_1 l0_2 l0_3 l0_4).bind fun bt140028 => ((laws_eqBooks.f k bt140015.1 bt140015.2.1 bt140015.2.2.1 bt140015.2.2.2.1 bt140015.2.2.2.2 bt140028.1 bt140028.2.1 bt140028.2.2.1 bt140028.2.2.2.1 bt140028.2.2.2.2).bind fun t140039 => (if t140039 = true then (some true) else (some false))))))))))
theorem laws_FnExactBooksOk.mono : ∀ a0 a1 a2 a3 a4 k, LeO (laws_FnExactBooksOk.f k a0 a1 a2 a3 a4) (laws_FnExactBooksOk.f (k + 1) a0 a1 a2 a3 a4) := by
 intro a0 a1 a2 a3 a4 k
 unfold laws_FnExactBooksOk.f
 repeat' first
  | (with_reducible exact impl_BooksOk.mono _ _ _ _ _ _)
  | (with_reducible exact laws_eqBooks.mono _ _ _ _ _ _ _ _ _ _ _)
  | (with_reducible exact laws_szBooks.mono _ _ _ _ _ _ _)
  | (with_reducible exact laws_toBooks.mono _ _ _ _ _ _)
  | (with_reducible exact spec_BooksOk.mono _ _ _ _ _ _)
  | (with_reducible exact LeO.refl _)
  | (with_reducible exact LeO.none _)
  | (with_reducible refine LeO.ite ?_ ?_)
  | (with_reducible refine LeO.bind ?_ (fun _ => ?_))
  | exact impl_BooksOk.mono _ _ _ _ _ _
  | exact laws_eqBooks.mono _ _ _ _ _ _ _ _ _ _ _
  | exact laws_szBooks.mono _ _ _ _ _ _ _
  | exact laws_toBooks.mono _ _ _ _ _ _
  | exact spec_BooksOk.mono _ _ _ _ _ _
  | exact LeO.none _
  | refine LeO.ite ?_ ?_
  | refine LeO.bind ?_ (fun _ => ?_)
set_option maxHeartbeats 8000000 in
set_option maxRecDepth 100000 in
theorem laws_FnExactBooksOk.calls (k : Nat) (a0_0 : Int) (a0_1 : Int) (A0_2 : Option Addr) (c0_2 : Nat) (l0_2 : List Int) (A0_3 : Option Addr) (c0_3 : Nat) (l0_3 : List (S80)) (A0_4 : Option Addr) (c0_4 : Nat) (l0_4 : List (S131)) (r : Bool) (w : World) (hr0_2 : Kd.C (Kd.int .i64) w A0_2 l0_2.length l0_2) (hc0_2 : l0_2.length ≤ c0_2) (hr0_3 : Kd.C k80 w A0_3 l0_3.length l0_3) (hc0_3 : l0_3.length ≤ c0_3) (hr0_4 : Kd.C k131 w A0_4 l0_4.length l0_4) (hc0_4 : l0_4.length ≤ c0_4) (hr_ : r = true) (h : laws_FnExactBooksOk.f k a0_0 a0_1 l0_2 l0_3 l0_4 = some r) :
 Calls Try.prog 13 #[.agg #[.int .i64 a0_0, .int .i64 a0_1, .slice A0_2 l0_2.length c0_2, .slice A0_3 l0_3.length c0_3, .slice A0_4 l0_4.length c0_4]] w fun e w' => e = .returned (.bool r) ∧ Below w.heap.size w w' := by
 subst hr_
 have hu64 := Try.underlying64
 have hu56 := Try.underlying56
 have HR0_2 := Aside0.mk hr0_2
 have HC0_2 := Aside0.mk hc0_2
 clear hr0_2 hc0_2
 have HR0_3 := Aside0.mk hr0_3
 have HC0_3 := Aside0.mk hc0_3
 clear hr0_3 hc0_3
 have HR0_4 := Aside0.mk hr0_4
 have HC0_4 := Aside0.mk hc0_4
 clear hr0_4 hc0_4
 have HB := Aside0.mk (Below.refl w.heap.size w)
 have H : ((laws_szBooks.f k a0_0 a0_1 l0_2 l0_3 l0_4 1048576).bind fun t140002 => (if t140002 < 0 then (some true) else ((laws_toBooks.f k a0_0 a0_1 l0_2 l0_3 l0_4).bind fun bt140003 => ((spec_BooksOk.f k bt140003.1 bt140003.2.1 bt140003.2.2.1 bt140003.2.2.2.1 bt140003.2.2.2.2).bind fun t140014 => ((laws_toBooks.f k a0_0 a0_1 l0_2 l0_3 l0_4).bind fun bt140015 => ((impl_BooksOk.f k bt140015.1 bt140015.2.1 bt140015.2.2.1 bt140015.2.2.2.1 bt140015.2.2.2.2).bind fun t140027 => (if (t140027 != t140014) = true then (some false) else ((laws_toBooks.f k a0_0 a0_1 l0_2 l0_3 l0_4).bind fun bt140028 => ((laws_eqBooks.f k bt140015.1 bt140015.2.1 bt140015.2.2.1 bt140015.2.2.2.1 bt140015.2.2.2.2 bt140028.1 bt140028.2.1 bt140028.2.2.1 bt140028.2.2.2.1 bt140028.2.2.2.2).bind fun t140039 => (if t140039 = true then (some true) else (some false))))))))))) = some true := h
 clear h
 replace H := Option.bind_eq_some_iff.mp H
 obtain ⟨t140002, A20, H⟩ := H
 replace H : (if t140002 < 0 then (some true) else ((laws_toBooks.f k a0_0 a0_1 l0_2 l0_3 l0_4).bind fun bt140003 => ((spec_BooksOk.f k bt140003.1 bt140003.2.1 bt140003.2.2.1 bt140003.2.2.2.1 bt140003.2.2.2.2).bind fun t140014 => ((laws_toBooks.f k a0_0 a0_1 l0_2 l0_3 l0_4).bind fun bt140015 => ((impl_BooksOk.f k bt140015.1 bt140015.2.1 bt140015.2.2.1 bt140015.2.2.2.1 bt140015.2.2.2.2).bind fun t140027 => (if (t140027 != t140014) = true then (some false) else ((laws_toBooks.f k a0_0 a0_1 l0_2 l0_3 l0_4).bind fun bt140028 => ((laws_eqBooks.f k bt140015.1 bt140015.2.1 bt140015.2.2.1 bt140015.2.2.2.1 bt140015.2.2.2.2 bt140028.1 bt140028.2.1 bt140028.2.2.1 bt140028.2.2.2.1 bt140028.2.2.2.2).bind fun t140039 => (if t140039 = true then (some true) else (some false)))))))))) = some true := H
 have A2 := Aside0.mk A20
 clear A20
 by_cases c3 : t140002 < 0
 ·rw [if_pos c3] at H
  have c3b0 : decide (t140002 < 0) = true := decide_eq_true c3
  clear c3
  clear H
  go_enter Try.func13, Try.ntmps13
  go_wp2_with (first | ((with_reducible refine gate_dst (N := 1) rfl ?_); refine box_event ?hg (N := 1) ?hd (cs := #[.int .i64 a0_0, .int .i64 a0_1, .slice A0_2 l0_2.length c0_2, .slice A0_3 l0_3.length c0_3, .slice A0_4 l0_4.length c0_4]) (t := 64) ?hr ?_; (case hd => rfl); (case hg => rfl); (case hr => first | (go_simp; done) | (go_simp; rfl)); intro gb140001 hg w4 hbox hb; have n0_ := Aside0.mk (below_step (by repeat (first | (with_reducible first | exact HB.out | apply below_alloc | apply pw_below_drewN | apply below_drew1) | exact HB.out)) hb); have n1_ := Aside0.mk (hbox); have n2_ := Aside0.mk ((by rw [hg]; exact (below_size (by repeat (first | (with_reducible first | exact HB.out | apply below_alloc | apply pw_below_drewN | apply below_drew1) | exact HB.out))) : w.heap.size ≤ gb140001)); have n3_ := Aside0.mk ((by rw [hg]; exact (below_size (by repeat (first | (with_reducible first | exact HB.out | apply below_alloc | apply pw_below_drewN | apply below_drew1) | exact HB.out))) : w.heap.size ≤ gb140001)); clear HB; have HB := n0_; have BK140001 := n1_; have GW140001 := n2_; have GE140001 := n3_; clear n0_ n1_ n2_ n3_; clear hb hbox hg; have hcz5_0 : w4.cell? ⟨gb140001, 0, none⟩ = some (.int .i64 a0_0) := (blk_cell BK140001.out 0).trans rfl; have hcz5_1 : w4.cell? ⟨gb140001, 1, none⟩ = some (.int .i64 a0_1) := (blk_cell BK140001.out 1).trans rfl; have hcz5_2 : w4.cell? ⟨gb140001, 2, none⟩ = some (.slice A0_2 l0_2.length c0_2) := (blk_cell BK140001.out 2).trans rfl; have hcz5_3 : w4.cell? ⟨gb140001, 3, none⟩ = some (.slice A0_3 l0_3.length c0_3) := (blk_cell BK140001.out 3).trans rfl; have hcz5_4 : w4.cell? ⟨gb140001, 4, none⟩ = some (.slice A0_4 l0_4.length c0_4) := (blk_cell BK140001.out 4).trans rfl; have hfz5_0 := blk_frozen BK140001.out 0; have hfz5_1 := blk_frozen BK140001.out 1; have hfz5_2 := blk_frozen BK140001.out 2; have hfz5_3 := blk_frozen BK140001.out 3; have hfz5_4 := blk_frozen BK140001.out 4) | ((with_reducible refine gate_callee (f := 40) rfl ?_); refine goesL_ (some 9) rfl rfl Try.func40 (by kernel_rfl) rfl #[.agg #[.int .i64 a0_0, .int .i64 a0_1, .slice A0_2 l0_2.length c0_2, .slice A0_3 l0_3.length c0_3, .slice A0_4 l0_4.length c0_4], .int .i64 1048576] rfl (by (try simp only [List.map_toArray, List.map_cons, List.map_nil]); first | done | rfl | (simp only [List.length_drop, List.length_take]; rfl)) ?_; (with_reducible refine (laws_szBooks.calls k a0_0 a0_1 _ _ l0_2 _ _ l0_3 _ _ l0_4 1048576 t140002 _ ?side1 ?side2 ?side3 ?side4 ?side5 ?side6 A2.out).mono ?_); (case side1 => repeat (first | exact (Kd.C_below HR0_2.out HB.out) | (with_reducible refine Kd.C_alloc ?_ _) | (with_reducible refine Kd.C_drewN ?_ _) | (with_reducible refine Kd.C_drew ?_))); (case side2 => exact HC0_2.out); (case side3 => repeat (first | exact (Kd.C_below HR0_3.out HB.out) | (with_reducible refine Kd.C_alloc ?_ _) | (with_reducible refine Kd.C_drewN ?_ _) | (with_reducible refine Kd.C_drew ?_))); (case side4 => exact HC0_3.out); (case side5 => repeat (first | exact (Kd.C_below HR0_4.out HB.out) | (with_reducible refine Kd.C_alloc ?_ _) | (with_reducible refine Kd.C_drewN ?_ _) | (with_reducible refine Kd.C_drew ?_))); (case side6 => exact HC0_4.out); rintro e w6 ⟨rfl, hb⟩; refine ⟨_, rfl, ?_⟩; have n0_ := Aside0.mk (blk_below (g := gb140001) (o := .cells #[.int .i64 a0_0, .int .i64 a0_1, .slice A0_2 l0_2.length c0_2, .slice A0_3 l0_3.length c0_3, .slice A0_4 l0_4.length c0_4] 64 (0, 0)) (by (with_reducible repeat (first | refine blk_drewN ?_ _ | refine blk_drew ?_ | refine blk_alloc ?_ _)); exact BK140001.out) hb); have n1_ := Aside0.mk (below_step (by repeat (first | (with_reducible first | exact HB.out | apply below_alloc | apply pw_below_drewN | apply below_drew1 | refine below_set ?_ GE140001.out) | exact HB.out)) hb); clear BK140001; clear HB; have BK140001 := n0_; have HB := n1_; clear n0_ n1_; (try clear hb); (try clear hb2); (try clear hk); (try clear hi)))
  go_ret
  exact ⟨by first | rfl | (simp [errW_none, errW_some] <;> rfl) | (simp [*, errW_none, errW_some] <;> rfl), by repeat (first | (with_reducible first | exact HB.out | apply below_alloc | apply pw_below_drewN | apply below_drew1 | refine below_set ?_ GE140001.out) | exact HB.out)⟩
 ·rw [if_neg c3] at H
  have c3b0 : decide (t140002 < 0) = false := decide_eq_false c3
  clear c3
  replace H := Option.bind_eq_some_iff.mp H
  obtain ⟨⟨t140003, t140004, t140005, t140008, t140011⟩, A70, H⟩ := H
  replace H : ((spec_BooksOk.f k t140003 t140004 t140005 t140008 t140011).bind fun t140014 => ((laws_toBooks.f k a0_0 a0_1 l0_2 l0_3 l0_4).bind fun bt140015 => ((impl_BooksOk.f k bt140015.1 bt140015.2.1 bt140015.2.2.1 bt140015.2.2.2.1 bt140015.2.2.2.2).bind fun t140027 => (if (t140027 != t140014) = true then (some false) else ((laws_toBooks.f k a0_0 a0_1 l0_2 l0_3 l0_4).bind fun bt140028 => ((laws_eqBooks.f k bt140015.1 bt140015.2.1 bt140015.2.2.1 bt140015.2.2.2.1 bt140015.2.2.2.2 bt140028.1 bt140028.2.1 bt140028.2.2.1 bt140028.2.2.2.1 bt140028.2.2.2.2).bind fun t140039 => (if t140039 = true then (some true) else (some false)))))))) = some true := H
  have A7 := Aside0.mk A70
  clear A70
  replace H := Option.bind_eq_some_iff.mp H
  obtain ⟨t140014, A80, H⟩ := H
  replace H : ((laws_toBooks.f k a0_0 a0_1 l0_2 l0_3 l0_4).bind fun bt140015 => ((impl_BooksOk.f k bt140015.1 bt140015.2.1 bt140015.2.2.1 bt140015.2.2.2.1 bt140015.2.2.2.2).bind fun t140027 => (if (t140027 != t140014) = true then (some false) else ((laws_toBooks.f k a0_0 a0_1 l0_2 l0_3 l0_4).bind fun bt140028 => ((laws_eqBooks.f k bt140015.1 bt140015.2.1 bt140015.2.2.1 bt140015.2.2.2.1 bt140015.2.2.2.2 bt140028.1 bt140028.2.1 bt140028.2.2.1 bt140028.2.2.2.1 bt140028.2.2.2.2).bind fun t140039 => (if t140039 = true then (some true) else (some false))))))) = some true := H
  have A8 := Aside0.mk A80
  clear A80
  replace H := Option.bind_eq_some_iff.mp H
  obtain ⟨⟨t140015, t140016, t140017, t140020, t140023⟩, A90, H⟩ := H
  replace H : ((impl_BooksOk.f k t140015 t140016 t140017 t140020 t140023).bind fun t140027 => (if (t140027 != t140014) = true then (some false) else ((laws_toBooks.f k a0_0 a0_1 l0_2 l0_3 l0_4).bind fun bt140028 => ((laws_eqBooks.f k t140015 t140016 t140017 t140020 t140023 bt140028.1 bt140028.2.1 bt140028.2.2.1 bt140028.2.2.2.1 bt140028.2.2.2.2).bind fun t140039 => (if t140039 = true then (some true) else (some false)))))) = some true := H
  have A9 := Aside0.mk A90
  clear A90
  replace H := Option.bind_eq_some_iff.mp H
  obtain ⟨t140027, A100, H⟩ := H
  replace H : (if (t140027 != t140014) = true then (some false) else ((laws_toBooks.f k a0_0 a0_1 l0_2 l0_3 l0_4).bind fun bt140028 => ((laws_eqBooks.f k t140015 t140016 t140017 t140020 t140023 bt140028.1 bt140028.2.1 bt140028.2.2.1 bt140028.2.2.2.1 bt140028.2.2.2.2).bind fun t140039 => (if t140039 = true then (some true) else (some false))))) = some true := H
  have A10 := Aside0.mk A100
  clear A100
  by_cases c11 : (t140027 != t140014) = true
  ·rw [if_pos c11] at H
   have c11b0 : (t140027 != t140014) = true := c11
   (try (have c11b1 : decide (t140027 = t140014) = false := by simpa using c11))
   (try (have c11b2 : (t140027 == t140014) = false := by simpa using c11))
   (try (have c11b3 : ¬ (t140027 = t140014) := by simpa using c11))
   clear c11
   exact absurd H (by decide)
  ·rw [if_neg c11] at H
   have c11b0 : (t140027 != t140014) = false := by simpa using c11
   (try (have c11b1 : decide (t140027 = t140014) = true := by simpa using c11))
   (try (have c11b2 : (t140027 == t140014) = true := by simpa using c11))
   clear c11
   replace H := Option.bind_eq_some_iff.mp H
   obtain ⟨⟨t140028, t140029, t140030, t140033, t140036⟩, A300, H⟩ := H
   replace H : ((laws_eqBooks.f k t140015 t140016 t140017 t140020 t140023 t140028 t140029 t140030 t140033 t140036).bind fun t140039 => (if t140039 = true then (some true) else (some false))) = some true := H
   have A30 := Aside0.mk A300
   clear A300
   replace H := Option.bind_eq_some_iff.mp H
   obtain ⟨t140039, A310, H⟩ := H
   replace H : (if t140039 = true then (some true) else (some false)) = some true := H
   have A31 := Aside0.mk A310
   clear A310
   by_cases c32 : t140039 = true
   ·subst c32
    have H1 : (some true) = some true := rfl
    clear H
    have H := H1
    clear H1
    clear H
    go_enter Try.func13, Try.ntmps13
    try go_wp2_with (first | ((with_reducible refine gate_dst (N := 1) rfl ?_); refine box_event ?hg (N := 1) ?hd (cs := #[.int .i64 a0_0, .int .i64 a0_1, .slice A0_2 l0_2.length c0_2, .slice A0_3 l0_3.length c0_3, .slice A0_4 l0_4.length c0_4]) (t := 64) ?hr ?_; (case hd => rfl); (case hg => rfl); (case hr => first | (go_simp; done) | (go_simp; rfl)); intro gb140001 hg w33 hbox hb; have n0_ := Aside0.mk (below_step (by repeat (first | (with_reducible first | exact HB.out | apply below_alloc | apply pw_below_drewN | apply below_drew1) | exact HB.out)) hb); have n1_ := Aside0.mk (hbox); have n2_ := Aside0.mk ((by rw [hg]; exact (below_size (by repeat (first | (with_reducible first | exact HB.out | apply below_alloc | apply pw_below_drewN | apply below_drew1) | exact HB.out))) : w.heap.size ≤ gb140001)); have n3_ := Aside0.mk ((by rw [hg]; exact (below_size (by repeat (first | (with_reducible first | exact HB.out | apply below_alloc | apply pw_below_drewN | apply below_drew1) | exact HB.out))) : w.heap.size ≤ gb140001)); clear HB; have HB := n0_; have BK140001 := n1_; have GW140001 := n2_; have GE140001 := n3_; clear n0_ n1_ n2_ n3_; clear hb hbox hg; have hcz34_0 : w33.cell? ⟨gb140001, 0, none⟩ = some (.int .i64 a0_0) := (blk_cell BK140001.out 0).trans rfl; have hcz34_1 : w33.cell? ⟨gb140001, 1, none⟩ = some (.int .i64 a0_1) := (blk_cell BK140001.out 1).trans rfl; have hcz34_2 : w33.cell? ⟨gb140001, 2, none⟩ = some (.slice A0_2 l0_2.length c0_2) := (blk_cell BK140001.out 2).trans rfl; have hcz34_3 : w33.cell? ⟨gb140001, 3, none⟩ = some (.slice A0_3 l0_3.length c0_3) := (blk_cell BK140001.out 3).trans rfl; have hcz34_4 : w33.cell? ⟨gb140001, 4, none⟩ = some (.slice A0_4 l0_4.length c0_4) := (blk_cell BK140001.out 4).trans rfl; have hfz34_0 := blk_frozen BK140001.out 0; have hfz34_1 := blk_frozen BK140001.out 1; have hfz34_2 := blk_frozen BK140001.out 2; have hfz34_3 := blk_frozen BK140001.out 3; have hfz34_4 := blk_frozen BK140001.out 4) | ((with_reducible refine gate_callee (f := 40) rfl ?_); refine goesL_ (some 9) rfl rfl Try.func40 (by kernel_rfl) rfl #[.agg #[.int .i64 a0_0, .int .i64 a0_1, .slice A0_2 l0_2.length c0_2, .slice A0_3 l0_3.length c0_3, .slice A0_4 l0_4.length c0_4], .int .i64 1048576] rfl (by (try simp only [List.map_toArray, List.map_cons, List.map_nil]); first | done | rfl | (simp only [List.length_drop, List.length_take]; rfl)) ?_; (with_reducible refine (laws_szBooks.calls k a0_0 a0_1 _ _ l0_2 _ _ l0_3 _ _ l0_4 1048576 t140002 _ ?side1 ?side2 ?side3 ?side4 ?side5 ?side6 A2.out).mono ?_); (case side1 => repeat (first | exact (Kd.C_below HR0_2.out HB.out) | (with_reducible refine Kd.C_alloc ?_ _) | (with_reducible refine Kd.C_drewN ?_ _) | (with_reducible refine Kd.C_drew ?_))); (case side2 => exact HC0_2.out); (case side3 => repeat (first | exact (Kd.C_below HR0_3.out HB.out) | (with_reducible refine Kd.C_alloc ?_ _) | (with_reducible refine Kd.C_drewN ?_ _) | (with_reducible refine Kd.C_drew ?_))); (case side4 => exact HC0_3.out); (case side5 => repeat (first | exact (Kd.C_below HR0_4.out HB.out) | (with_reducible refine Kd.C_alloc ?_ _) | (with_reducible refine Kd.C_drewN ?_ _) | (with_reducible refine Kd.C_drew ?_))); (case side6 => exact HC0_4.out); rintro e w35 ⟨rfl, hb⟩; refine ⟨_, rfl, ?_⟩; have n0_ := Aside0.mk (blk_below (g := gb140001) (o := .cells #[.int .i64 a0_0, .int .i64 a0_1, .slice A0_2 l0_2.length c0_2, .slice A0_3 l0_3.length c0_3, .slice A0_4 l0_4.length c0_4] 64 (0, 0)) (by (with_reducible repeat (first | refine blk_drewN ?_ _ | refine blk_drew ?_ | refine blk_alloc ?_ _)); exact BK140001.out) hb); have n1_ := Aside0.mk (below_step (by repeat (first | (with_reducible first | exact HB.out | apply below_alloc | apply pw_below_drewN | apply below_drew1 | refine below_set ?_ GE140001.out) | exact HB.out)) hb); clear BK140001; clear HB; have BK140001 := n0_; have HB := n1_; clear n0_ n1_; (try clear hb); (try clear hb2); (try clear hk); (try clear hi); have hcz36_0 : w35.cell? ⟨gb140001, 0, none⟩ = some (.int .i64 a0_0) := (blk_cell BK140001.out 0).trans rfl; have hcz36_1 : w35.cell? ⟨gb140001, 1, none⟩ = some (.int .i64 a0_1) := (blk_cell BK140001.out 1).trans rfl; have hcz36_2 : w35.cell? ⟨gb140001, 2, none⟩ = some (.slice A0_2 l0_2.length c0_2) := (blk_cell BK140001.out 2).trans rfl; have hcz36_3 : w35.cell? ⟨gb140001, 3, none⟩ = some (.slice A0_3 l0_3.length c0_3) := (blk_cell BK140001.out 3).trans rfl; have hcz36_4 : w35.cell? ⟨gb140001, 4, none⟩ = some (.slice A0_4 l0_4.length c0_4) := (blk_cell BK140001.out 4).trans rfl; have hfz36_0 := blk_frozen BK140001.out 0; have hfz36_1 := blk_frozen BK140001.out 1; have hfz36_2 := blk_frozen BK140001.out 2; have hfz36_3 := blk_frozen BK140001.out 3; have hfz36_4 := blk_frozen BK140001.out 4) | ((with_reducible refine gate_callee (f := 42) rfl ?_); refine goesL_ (some 13) rfl rfl Try.func42 (by kernel_rfl) rfl #[.agg #[.int .i64 a0_0, .int .i64 a0_1, .slice A0_2 l0_2.length c0_2, .slice A0_3 l0_3.length c0_3, .slice A0_4 l0_4.length c0_4]] rfl (by (try simp only [List.map_toArray, List.map_cons, List.map_nil]); first | done | rfl | (simp only [List.length_drop, List.length_take]; rfl)) ?_; (with_reducible refine (laws_toBooks.calls k a0_0 a0_1 _ _ l0_2 _ _ l0_3 _ _ l0_4 t140003 t140004 t140005 t140008 t140011 _ ?side1 ?side2 ?side3 ?side4 ?side5 ?side6 A7.out).mono ?_); (case side1 => repeat (first | exact (Kd.C_below HR0_2.out HB.out) | (with_reducible refine Kd.C_alloc ?_ _) | (with_reducible refine Kd.C_drewN ?_ _) | (with_reducible refine Kd.C_drew ?_))); (case side2 => exact HC0_2.out); (case side3 => repeat (first | exact (Kd.C_below HR0_3.out HB.out) | (with_reducible refine Kd.C_alloc ?_ _) | (with_reducible refine Kd.C_drewN ?_ _) | (with_reducible refine Kd.C_drew ?_))); (case side4 => exact HC0_3.out); (case side5 => repeat (first | exact (Kd.C_below HR0_4.out HB.out) | (with_reducible refine Kd.C_alloc ?_ _) | (with_reducible refine Kd.C_drewN ?_ _) | (with_reducible refine Kd.C_drew ?_))); (case side6 => exact HC0_4.out); rintro e w37 ⟨v140006, v140009, v140012, rfl, ho0, ho1, ho2, hb⟩; refine ⟨_, rfl, ?_⟩; have n0_ := Aside0.mk (Kd.R_lower ho0 (below_size (by repeat (first | (with_reducible first | exact HB.out | apply below_alloc | apply pw_below_drewN | apply below_drew1 | refine below_set ?_ GE140001.out) | exact HB.out)))); have n1_ := Aside0.mk (Kd.R_lower ho1 (below_size (by repeat (first | (with_reducible first | exact HB.out | apply below_alloc | apply pw_below_drewN | apply below_drew1 | refine below_set ?_ GE140001.out) | exact HB.out)))); have n2_ := Aside0.mk (Kd.S_lower ho2 (below_size (by repeat (first | (with_reducible first | exact HB.out | apply below_alloc | apply pw_below_drewN | apply below_drew1 | refine below_set ?_ GE140001.out) | exact HB.out)))); have n3_ := Aside0.mk (blk_below (g := gb140001) (o := .cells #[.int .i64 a0_0, .int .i64 a0_1, .slice A0_2 l0_2.length c0_2, .slice A0_3 l0_3.length c0_3, .slice A0_4 l0_4.length c0_4] 64 (0, 0)) (by (with_reducible repeat (first | refine blk_drewN ?_ _ | refine blk_drew ?_ | refine blk_alloc ?_ _)); exact BK140001.out) hb); have n4_ := Aside0.mk (below_step (by repeat (first | (with_reducible first | exact HB.out | apply below_alloc | apply pw_below_drewN | apply below_drew1 | refine below_set ?_ GE140001.out) | exact HB.out)) hb); clear BK140001; clear HB; have HO140007 := n0_; have HO140010 := n1_; have HO140013 := n2_; have BK140001 := n3_; have HB := n4_; clear n0_ n1_ n2_ n3_ n4_; (try clear hb); (try clear hb2); (try clear hk); (try clear hi); (try clear ho0); (try clear ho1); (try clear ho2); obtain ⟨Ao38, co38, eo38⟩ := Kd.R_slice HO140007.out; subst eo38; obtain ⟨Ao39, co39, eo39⟩ := Kd.R_slice HO140010.out; subst eo39; obtain ⟨Ao40, co40, eo40⟩ := Kd.S_slice HO140013.out; subst eo40) | ((with_reducible refine gate_callee (f := 41) rfl ?_); refine goesL_ (some 14) rfl rfl Try.func41 (by kernel_rfl) rfl #[.agg #[.int .i64 t140003, .int .i64 t140004, .slice Ao38 t140005.length co38, .slice Ao39 t140008.length co39, .slice Ao40 t140011.length co40]] rfl (by (try simp only [List.map_toArray, List.map_cons, List.map_nil]); first | done | rfl | (simp only [List.length_drop, List.length_take]; rfl)) ?_; (with_reducible refine (spec_BooksOk.calls k t140003 t140004 _ _ t140005 _ _ t140008 _ _ t140011 t140014 _ ?side1 ?side2 ?side3 ?side4 ?side5 ?side6 A8.out).mono ?_); (case side1 => repeat (first | exact (Kd.R_reads' HO140007.out).2.2 | (with_reducible refine Kd.C_alloc ?_ _) | (with_reducible refine Kd.C_drewN ?_ _) | (with_reducible refine Kd.C_drew ?_))); (case side2 => exact (Kd.R_reads' HO140007.out).2.1); (case side3 => repeat (first | exact (Kd.R_reads' HO140010.out).2.2 | (with_reducible refine Kd.C_alloc ?_ _) | (with_reducible refine Kd.C_drewN ?_ _) | (with_reducible refine Kd.C_drew ?_))); (case side4 => exact (Kd.R_reads' HO140010.out).2.1); (case side5 => repeat (first | exact (Kd.S_reads' HO140013.out).2.2 | (with_reducible refine Kd.C_alloc ?_ _) | (with_reducible refine Kd.C_drewN ?_ _) | (with_reducible refine Kd.C_drew ?_))); (case side6 => exact (Kd.S_reads' HO140013.out).2.1); rintro e w41 ⟨rfl, hb⟩; refine ⟨_, rfl, ?_⟩; have n0_ := Aside0.mk (Kd.R_below (by (with_reducible repeat (first | apply Kd.R_alloc | apply Kd.R_drewN | apply Kd.R_drew)); exact HO140007.out) hb); have n1_ := Aside0.mk (Kd.R_below (by (with_reducible repeat (first | apply Kd.R_alloc | apply Kd.R_drewN | apply Kd.R_drew)); exact HO140010.out) hb); have n2_ := Aside0.mk (Kd.S_below (by (with_reducible repeat (first | apply Kd.S_alloc | apply Kd.S_drewN | apply Kd.S_drew)); exact HO140013.out) hb); have n3_ := Aside0.mk (blk_below (g := gb140001) (o := .cells #[.int .i64 a0_0, .int .i64 a0_1, .slice A0_2 l0_2.length c0_2, .slice A0_3 l0_3.length c0_3, .slice A0_4 l0_4.length c0_4] 64 (0, 0)) (by (with_reducible repeat (first | refine blk_drewN ?_ _ | refine blk_drew ?_ | refine blk_alloc ?_ _)); exact BK140001.out) hb); have n4_ := Aside0.mk (below_step (by repeat (first | (with_reducible first | exact HB.out | apply below_alloc | apply pw_below_drewN | apply below_drew1 | refine below_set ?_ GE140001.out) | exact HB.out)) hb); clear HO140007; clear HO140010; clear HO140013; clear BK140001; clear HB; have HO140007 := n0_; have HO140010 := n1_; have HO140013 := n2_; have BK140001 := n3_; have HB := n4_; clear n0_ n1_ n2_ n3_ n4_; (try clear hb); (try clear hb2); (try clear hk); (try clear hi); have hcz42_0 : w41.cell? ⟨gb140001, 0, none⟩ = some (.int .i64 a0_0) := (blk_cell BK140001.out 0).trans rfl; have hcz42_1 : w41.cell? ⟨gb140001, 1, none⟩ = some (.int .i64 a0_1) := (blk_cell BK140001.out 1).trans rfl; have hcz42_2 : w41.cell? ⟨gb140001, 2, none⟩ = some (.slice A0_2 l0_2.length c0_2) := (blk_cell BK140001.out 2).trans rfl; have hcz42_3 : w41.cell? ⟨gb140001, 3, none⟩ = some (.slice A0_3 l0_3.length c0_3) := (blk_cell BK140001.out 3).trans rfl; have hcz42_4 : w41.cell? ⟨gb140001, 4, none⟩ = some (.slice A0_4 l0_4.length c0_4) := (blk_cell BK140001.out 4).trans rfl; have hfz42_0 := blk_frozen BK140001.out 0; have hfz42_1 := blk_frozen BK140001.out 1; have hfz42_2 := blk_frozen BK140001.out 2; have hfz42_3 := blk_frozen BK140001.out 3; have hfz42_4 := blk_frozen BK140001.out 4) | ((with_reducible refine gate_callee (f := 42) rfl ?_); refine goesL_ (some 16) rfl rfl Try.func42 (by kernel_rfl) rfl #[.agg #[.int .i64 a0_0, .int .i64 a0_1, .slice A0_2 l0_2.length c0_2, .slice A0_3 l0_3.length c0_3, .slice A0_4 l0_4.length c0_4]] rfl (by (try simp only [List.map_toArray, List.map_cons, List.map_nil]); first | done | rfl | (simp only [List.length_drop, List.length_take]; rfl)) ?_; (with_reducible refine (laws_toBooks.calls k a0_0 a0_1 _ _ l0_2 _ _ l0_3 _ _ l0_4 t140015 t140016 t140017 t140020 t140023 _ ?side1 ?side2 ?side3 ?side4 ?side5 ?side6 A9.out).mono ?_); (case side1 => repeat (first | exact (Kd.C_below HR0_2.out HB.out) | (with_reducible refine Kd.C_alloc ?_ _) | (with_reducible refine Kd.C_drewN ?_ _) | (with_reducible refine Kd.C_drew ?_))); (case side2 => exact HC0_2.out); (case side3 => repeat (first | exact (Kd.C_below HR0_3.out HB.out) | (with_reducible refine Kd.C_alloc ?_ _) | (with_reducible refine Kd.C_drewN ?_ _) | (with_reducible refine Kd.C_drew ?_))); (case side4 => exact HC0_3.out); (case side5 => repeat (first | exact (Kd.C_below HR0_4.out HB.out) | (with_reducible refine Kd.C_alloc ?_ _) | (with_reducible refine Kd.C_drewN ?_ _) | (with_reducible refine Kd.C_drew ?_))); (case side6 => exact HC0_4.out); rintro e w43 ⟨v140018, v140021, v140024, rfl, ho0, ho1, ho2, hb⟩; refine ⟨_, rfl, ?_⟩; have n0_ := Aside0.mk (Kd.R_elder' (by (with_reducible repeat (first | apply Kd.R_alloc | apply Kd.R_drewN | apply Kd.R_drew)); exact HO140007.out) (Kd.R_base ho0) hb); have n1_ := Aside0.mk (Kd.R_elder' (by (with_reducible repeat (first | apply Kd.R_alloc | apply Kd.R_drewN | apply Kd.R_drew)); exact HO140010.out) (Kd.R_base ho1) hb); have n2_ := Aside0.mk (Kd.S_mono (Kd.S_told (Kd.S_told (Kd.S_old (by (with_reducible repeat (first | apply Kd.S_alloc | apply Kd.S_drewN | apply Kd.S_drew)); exact HO140013.out) hb) (Kd.R_base ho0)) (Kd.S_base ho2)) (fun _ h_ => h_.1)); have n3_ := Aside0.mk (Kd.R_lower (Kd.R_new' ho0 (Kd.R_lt (by (with_reducible repeat (first | apply Kd.R_alloc | apply Kd.R_drewN | apply Kd.R_drew)); exact HO140007.out))) (below_size (by repeat (first | (with_reducible first | exact HB.out | apply below_alloc | apply pw_below_drewN | apply below_drew1 | refine below_set ?_ GE140001.out) | exact HB.out)))); have n4_ := Aside0.mk (Kd.R_lower (Kd.R_new' ho1 (Kd.R_lt (by (with_reducible repeat (first | apply Kd.R_alloc | apply Kd.R_drewN | apply Kd.R_drew)); exact HO140010.out))) (below_size (by repeat (first | (with_reducible first | exact HB.out | apply below_alloc | apply pw_below_drewN | apply below_drew1 | refine below_set ?_ GE140001.out) | exact HB.out)))); have n5_ := Aside0.mk (Kd.S_lower (Kd.S_new' (Kd.S_new' ho2 (Kd.R_lt (by (with_reducible repeat (first | apply Kd.R_alloc | apply Kd.R_drewN | apply Kd.R_drew)); exact HO140007.out))) (Kd.S_lt (by (with_reducible repeat (first | apply Kd.S_alloc | apply Kd.S_drewN | apply Kd.S_drew)); exact HO140013.out))) (below_size (by repeat (first | (with_reducible first | exact HB.out | apply below_alloc | apply pw_below_drewN | apply below_drew1 | refine below_set ?_ GE140001.out) | exact HB.out)))); have n6_ := Aside0.mk (blk_below (g := gb140001) (o := .cells #[.int .i64 a0_0, .int .i64 a0_1, .slice A0_2 l0_2.length c0_2, .slice A0_3 l0_3.length c0_3, .slice A0_4 l0_4.length c0_4] 64 (0, 0)) (by (with_reducible repeat (first | refine blk_drewN ?_ _ | refine blk_drew ?_ | refine blk_alloc ?_ _)); exact BK140001.out) hb); have n7_ := Aside0.mk (below_step (by repeat (first | (with_reducible first | exact HB.out | apply below_alloc | apply pw_below_drewN | apply below_drew1 | refine below_set ?_ GE140001.out) | exact HB.out)) hb); clear HO140007; clear HO140010; clear HO140013; clear BK140001; clear HB; have HO140007 := n0_; have HO140010 := n1_; have HO140013 := n2_; have HO140019 := n3_; have HO140022 := n4_; have HO140025 := n5_; have BK140001 := n6_; have HB := n7_; clear n0_ n1_ n2_ n3_ n4_ n5_ n6_ n7_; (try clear hb); (try clear hb2); (try clear hk); (try clear hi); (try clear ho0); (try clear ho1); (try clear ho2)) | ((with_reducible refine gate_dst (N := 5) rfl ?_); refine box_event ?hg (N := 5) ?hd (cs := #[.int .i64 0, .int .i64 0, .slice none 0 0, .slice none 0 0, .slice none 0 0]) (t := 56) ?hr ?_; (case hd => rfl); (case hg => rfl); (case hr => first | (go_simp; done) | (go_simp; rfl)); intro gb140026 hg w44 hbox hb; have n0_ := Aside0.mk (Kd.R_below (by (with_reducible repeat (first | apply Kd.R_alloc | apply Kd.R_drewN | apply Kd.R_drew)); exact HO140007.out) hb); have n1_ := Aside0.mk (Kd.R_below (by (with_reducible repeat (first | apply Kd.R_alloc | apply Kd.R_drewN | apply Kd.R_drew)); exact HO140010.out) hb); have n2_ := Aside0.mk (Kd.S_below (by (with_reducible repeat (first | apply Kd.S_alloc | apply Kd.S_drewN | apply Kd.S_drew)); exact HO140013.out) hb); have n3_ := Aside0.mk (Kd.R_below (by (with_reducible repeat (first | apply Kd.R_alloc | apply Kd.R_drewN | apply Kd.R_drew)); exact HO140019.out) hb); have n4_ := Aside0.mk (Kd.R_below (by (with_reducible repeat (first | apply Kd.R_alloc | apply Kd.R_drewN | apply Kd.R_drew)); exact HO140022.out) hb); have n5_ := Aside0.mk (Kd.S_below (by (with_reducible repeat (first | apply Kd.S_alloc | apply Kd.S_drewN | apply Kd.S_drew)); exact HO140025.out) hb); have n6_ := Aside0.mk (blk_below (g := gb140001) (o := .cells #[.int .i64 a0_0, .int .i64 a0_1, .slice A0_2 l0_2.length c0_2, .slice A0_3 l0_3.length c0_3, .slice A0_4 l0_4.length c0_4] 64 (0, 0)) (by (with_reducible repeat (first | refine blk_drewN ?_ _ | refine blk_drew ?_ | refine blk_alloc ?_ _)); exact BK140001.out) hb); have n7_ := Aside0.mk (below_step (by repeat (first | (with_reducible first | exact HB.out | apply below_alloc | apply pw_below_drewN | apply below_drew1 | refine below_set ?_ GE140001.out) | exact HB.out)) hb); have n8_ := Aside0.mk (hbox); have n9_ := Aside0.mk ((by rw [hg]; exact (below_size (by repeat (first | (with_reducible first | exact HB.out | apply below_alloc | apply pw_below_drewN | apply below_drew1 | refine below_set ?_ GE140001.out) | exact HB.out))) : w.heap.size ≤ gb140026)); have n10_ := Aside0.mk ((by rw [hg]; exact (below_size (by repeat (first | (with_reducible first | exact HB.out | apply below_alloc | apply pw_below_drewN | apply below_drew1 | refine below_set ?_ GE140001.out) | exact HB.out))) : w.heap.size ≤ gb140026)); have n11_ := Aside0.mk ((by rw [hg]; exact Nat.ne_of_lt (blk_lt (g := gb140001) (o := .cells #[.int .i64 a0_0, .int .i64 a0_1, .slice A0_2 l0_2.length c0_2, .slice A0_3 l0_3.length c0_3, .slice A0_4 l0_4.length c0_4] 64 (0, 0)) (by (with_reducible repeat (first | refine blk_drewN ?_ _ | refine blk_drew ?_ | refine blk_alloc ?_ _)); exact BK140001.out)) : gb140001 ≠ gb140026)); have n12_ := Aside0.mk ((by rw [hg]; exact Nat.ne_of_gt (blk_lt (g := gb140001) (o := .cells #[.int .i64 a0_0, .int .i64 a0_1, .slice A0_2 l0_2.length c0_2, .slice A0_3 l0_3.length c0_3, .slice A0_4 l0_4.length c0_4] 64 (0, 0)) (by (with_reducible repeat (first | refine blk_drewN ?_ _ | refine blk_drew ?_ | refine blk_alloc ?_ _)); exact BK140001.out)) : gb140026 ≠ gb140001)); clear HO140007; clear HO140010; clear HO140013; clear HO140019; clear HO140022; clear HO140025; clear BK140001; clear HB; have HO140007 := n0_; have HO140010 := n1_; have HO140013 := n2_; have HO140019 := n3_; have HO140022 := n4_; have HO140025 := n5_; have BK140001 := n6_; have HB := n7_; have BK140026 := n8_; have GW140026 := n9_; have GE140026 := n10_; have NB140001_140026 := n11_; have NB140026_140001 := n12_; clear n0_ n1_ n2_ n3_ n4_ n5_ n6_ n7_ n8_ n9_ n10_ n11_ n12_; clear hb hbox hg; have hnb45 := NB140026_140001.out; have hnc45 := NB140001_140026.out; have hcz46_0 : w44.cell? ⟨gb140026, 0, none⟩ = some (.int .i64 0) := (blk_cell BK140026.out 0).trans rfl; have hcz46_1 : w44.cell? ⟨gb140026, 1, none⟩ = some (.int .i64 0) := (blk_cell BK140026.out 1).trans rfl; have hcz46_2 : w44.cell? ⟨gb140026, 2, none⟩ = some (.slice none 0 0) := (blk_cell BK140026.out 2).trans rfl; have hcz46_3 : w44.cell? ⟨gb140026, 3, none⟩ = some (.slice none 0 0) := (blk_cell BK140026.out 3).trans rfl; have hcz46_4 : w44.cell? ⟨gb140026, 4, none⟩ = some (.slice none 0 0) := (blk_cell BK140026.out 4).trans rfl; have hfz46_0 := blk_frozen BK140026.out 0; have hfz46_1 := blk_frozen BK140026.out 1; have hfz46_2 := blk_frozen BK140026.out 2; have hfz46_3 := blk_frozen BK140026.out 3; have hfz46_4 := blk_frozen BK140026.out 4; obtain ⟨Ao47, co47, eo47⟩ := Kd.R_slice HO140019.out; subst eo47; obtain ⟨Ao48, co48, eo48⟩ := Kd.R_slice HO140022.out; subst eo48; obtain ⟨Ao49, co49, eo49⟩ := Kd.S_slice HO140025.out; subst eo49) | ((with_reducible refine gate_callee (f := 43) rfl ?_); refine goesL_ (some 18) rfl rfl Try.func43 (by kernel_rfl) rfl #[.agg #[.int .i64 t140015, .int .i64 t140016, .slice Ao47 t140017.length co47, .slice Ao48 t140020.length co48, .slice Ao49 t140023.length co49]] rfl (by (try simp only [List.map_toArray, List.map_cons, List.map_nil]); first | done | rfl | (simp only [List.length_drop, List.length_take]; rfl)) ?_; (with_reducible refine (impl_BooksOk.calls k t140015 t140016 _ _ t140017 _ _ t140020 _ _ t140023 t140027 _ ?side1 ?side2 ?side3 ?side4 ?side5 ?side6 A10.out).mono ?_); (case side1 => refine (Kd.R_reads' (e := 3) (base := w.heap.size) (ok := fun k_ => (True ∧ some k_ ≠ (.slice Ao38 t140005.length co38 : Value).ownBlock)) (n := t140017.length) (c := co47) ?_).2.2; exact (by (with_reducible repeat (first | apply Kd.R_alloc | apply Kd.R_drewN | apply Kd.R_drew)); exact (Kd.R_mono (Kd.R_far (p := ⟨gb140026, 4, none⟩) (Kd.R_far (p := ⟨gb140026, 3, none⟩) (Kd.R_far (p := ⟨gb140026, 2, none⟩) (Kd.R_far (p := ⟨gb140026, 1, none⟩) (Kd.R_far (p := ⟨gb140026, 0, none⟩) (Kd.R_types HO140019.out BK140026.out (by decide)) (fun _ hk => hk.2) (.int .i64 t140015)) (fun _ hk => hk.2) (.int .i64 t140016)) (fun _ hk => hk.2) (.slice Ao47 t140017.length co47)) (fun _ hk => hk.2) (.slice Ao48 t140020.length co48)) (fun _ hk => hk.2) (.slice Ao49 t140023.length co49)) (fun _ h_ => h_.1)))); (case side2 => exact (Kd.R_reads' HO140019.out).2.1); (case side3 => refine (Kd.R_reads' (e := 48) (base := w.heap.size) (ok := fun k_ => (True ∧ some k_ ≠ (.slice Ao39 t140008.length co39 : Value).ownBlock)) (n := t140020.length) (c := co48) ?_).2.2; exact (by (with_reducible repeat (first | apply Kd.R_alloc | apply Kd.R_drewN | apply Kd.R_drew)); exact (Kd.R_mono (Kd.R_far (p := ⟨gb140026, 4, none⟩) (Kd.R_far (p := ⟨gb140026, 3, none⟩) (Kd.R_far (p := ⟨gb140026, 2, none⟩) (Kd.R_far (p := ⟨gb140026, 1, none⟩) (Kd.R_far (p := ⟨gb140026, 0, none⟩) (Kd.R_types HO140022.out BK140026.out (by decide)) (fun _ hk => hk.2) (.int .i64 t140015)) (fun _ hk => hk.2) (.int .i64 t140016)) (fun _ hk => hk.2) (.slice Ao47 t140017.length co47)) (fun _ hk => hk.2) (.slice Ao48 t140020.length co48)) (fun _ hk => hk.2) (.slice Ao49 t140023.length co49)) (fun _ h_ => h_.1)))); (case side4 => exact (Kd.R_reads' HO140022.out).2.1); (case side5 => refine (Kd.S_reads' (e := 108) (base := w.heap.size) (ok := fun k_ => ((some k_ ≠ (.slice Ao47 t140017.length co47 : Value).ownBlock ∧ some k_ ≠ (.slice Ao38 t140005.length co38 : Value).ownBlock) ∧ some k_ ≠ (.slice Ao40 t140011.length co40 : Value).ownBlock)) (n := t140023.length) (c := co49) ?_).2.2; exact (by (with_reducible repeat (first | apply Kd.S_alloc | apply Kd.S_drewN | apply Kd.S_drew)); exact (Kd.S_mono (Kd.S_far (p := ⟨gb140026, 4, none⟩) (Kd.S_far (p := ⟨gb140026, 3, none⟩) (Kd.S_far (p := ⟨gb140026, 2, none⟩) (Kd.S_far (p := ⟨gb140026, 1, none⟩) (Kd.S_far (p := ⟨gb140026, 0, none⟩) (Kd.S_types HO140025.out BK140026.out (by decide)) (fun _ hk => hk.2) (.int .i64 t140015)) (fun _ hk => hk.2) (.int .i64 t140016)) (fun _ hk => hk.2) (.slice Ao47 t140017.length co47)) (fun _ hk => hk.2) (.slice Ao48 t140020.length co48)) (fun _ hk => hk.2) (.slice Ao49 t140023.length co49)) (fun _ h_ => h_.1)))); (case side6 => exact (Kd.S_reads' HO140025.out).2.1); rintro e w50 ⟨rfl, hb⟩; refine ⟨_, rfl, ?_⟩; have n0_ := Aside0.mk (Kd.R_below (by (with_reducible repeat (first | apply Kd.R_alloc | apply Kd.R_drewN | apply Kd.R_drew)); exact (Kd.R_mono (Kd.R_far (p := ⟨gb140026, 4, none⟩) (Kd.R_far (p := ⟨gb140026, 3, none⟩) (Kd.R_far (p := ⟨gb140026, 2, none⟩) (Kd.R_far (p := ⟨gb140026, 1, none⟩) (Kd.R_far (p := ⟨gb140026, 0, none⟩) (Kd.R_types HO140007.out BK140026.out (by decide)) (fun _ hk => hk.2) (.int .i64 t140015)) (fun _ hk => hk.2) (.int .i64 t140016)) (fun _ hk => hk.2) (.slice Ao47 t140017.length co47)) (fun _ hk => hk.2) (.slice Ao48 t140020.length co48)) (fun _ hk => hk.2) (.slice Ao49 t140023.length co49)) (fun _ h_ => h_.1))) hb); have n1_ := Aside0.mk (Kd.R_below (by (with_reducible repeat (first | apply Kd.R_alloc | apply Kd.R_drewN | apply Kd.R_drew)); exact (Kd.R_mono (Kd.R_far (p := ⟨gb140026, 4, none⟩) (Kd.R_far (p := ⟨gb140026, 3, none⟩) (Kd.R_far (p := ⟨gb140026, 2, none⟩) (Kd.R_far (p := ⟨gb140026, 1, none⟩) (Kd.R_far (p := ⟨gb140026, 0, none⟩) (Kd.R_types HO140010.out BK140026.out (by decide)) (fun _ hk => hk.2) (.int .i64 t140015)) (fun _ hk => hk.2) (.int .i64 t140016)) (fun _ hk => hk.2) (.slice Ao47 t140017.length co47)) (fun _ hk => hk.2) (.slice Ao48 t140020.length co48)) (fun _ hk => hk.2) (.slice Ao49 t140023.length co49)) (fun _ h_ => h_.1))) hb); have n2_ := Aside0.mk (Kd.S_below (by (with_reducible repeat (first | apply Kd.S_alloc | apply Kd.S_drewN | apply Kd.S_drew)); exact (Kd.S_mono (Kd.S_far (p := ⟨gb140026, 4, none⟩) (Kd.S_far (p := ⟨gb140026, 3, none⟩) (Kd.S_far (p := ⟨gb140026, 2, none⟩) (Kd.S_far (p := ⟨gb140026, 1, none⟩) (Kd.S_far (p := ⟨gb140026, 0, none⟩) (Kd.S_types HO140013.out BK140026.out (by decide)) (fun _ hk => hk.2) (.int .i64 t140015)) (fun _ hk => hk.2) (.int .i64 t140016)) (fun _ hk => hk.2) (.slice Ao47 t140017.length co47)) (fun _ hk => hk.2) (.slice Ao48 t140020.length co48)) (fun _ hk => hk.2) (.slice Ao49 t140023.length co49)) (fun _ h_ => h_.1))) hb); have n3_ := Aside0.mk (Kd.R_below (by (with_reducible repeat (first | apply Kd.R_alloc | apply Kd.R_drewN | apply Kd.R_drew)); exact (Kd.R_mono (Kd.R_far (p := ⟨gb140026, 4, none⟩) (Kd.R_far (p := ⟨gb140026, 3, none⟩) (Kd.R_far (p := ⟨gb140026, 2, none⟩) (Kd.R_far (p := ⟨gb140026, 1, none⟩) (Kd.R_far (p := ⟨gb140026, 0, none⟩) (Kd.R_types HO140019.out BK140026.out (by decide)) (fun _ hk => hk.2) (.int .i64 t140015)) (fun _ hk => hk.2) (.int .i64 t140016)) (fun _ hk => hk.2) (.slice Ao47 t140017.length co47)) (fun _ hk => hk.2) (.slice Ao48 t140020.length co48)) (fun _ hk => hk.2) (.slice Ao49 t140023.length co49)) (fun _ h_ => h_.1))) hb); have n4_ := Aside0.mk (Kd.R_below (by (with_reducible repeat (first | apply Kd.R_alloc | apply Kd.R_drewN | apply Kd.R_drew)); exact (Kd.R_mono (Kd.R_far (p := ⟨gb140026, 4, none⟩) (Kd.R_far (p := ⟨gb140026, 3, none⟩) (Kd.R_far (p := ⟨gb140026, 2, none⟩) (Kd.R_far (p := ⟨gb140026, 1, none⟩) (Kd.R_far (p := ⟨gb140026, 0, none⟩) (Kd.R_types HO140022.out BK140026.out (by decide)) (fun _ hk => hk.2) (.int .i64 t140015)) (fun _ hk => hk.2) (.int .i64 t140016)) (fun _ hk => hk.2) (.slice Ao47 t140017.length co47)) (fun _ hk => hk.2) (.slice Ao48 t140020.length co48)) (fun _ hk => hk.2) (.slice Ao49 t140023.length co49)) (fun _ h_ => h_.1))) hb); have n5_ := Aside0.mk (Kd.S_below (by (with_reducible repeat (first | apply Kd.S_alloc | apply Kd.S_drewN | apply Kd.S_drew)); exact (Kd.S_mono (Kd.S_far (p := ⟨gb140026, 4, none⟩) (Kd.S_far (p := ⟨gb140026, 3, none⟩) (Kd.S_far (p := ⟨gb140026, 2, none⟩) (Kd.S_far (p := ⟨gb140026, 1, none⟩) (Kd.S_far (p := ⟨gb140026, 0, none⟩) (Kd.S_types HO140025.out BK140026.out (by decide)) (fun _ hk => hk.2) (.int .i64 t140015)) (fun _ hk => hk.2) (.int .i64 t140016)) (fun _ hk => hk.2) (.slice Ao47 t140017.length co47)) (fun _ hk => hk.2) (.slice Ao48 t140020.length co48)) (fun _ hk => hk.2) (.slice Ao49 t140023.length co49)) (fun _ h_ => h_.1))) hb); have n6_ := Aside0.mk (blk_below (g := gb140001) (o := .cells #[.int .i64 a0_0, .int .i64 a0_1, .slice A0_2 l0_2.length c0_2, .slice A0_3 l0_3.length c0_3, .slice A0_4 l0_4.length c0_4] 64 (0, 0)) (by (with_reducible repeat (first | refine blk_drewN ?_ _ | refine blk_drew ?_ | refine blk_alloc ?_ _)); refine blk_far ?_ NB140001_140026.out _; (with_reducible repeat (first | refine blk_drewN ?_ _ | refine blk_drew ?_ | refine blk_alloc ?_ _)); refine blk_far ?_ NB140001_140026.out _; (with_reducible repeat (first | refine blk_drewN ?_ _ | refine blk_drew ?_ | refine blk_alloc ?_ _)); refine blk_far ?_ NB140001_140026.out _; (with_reducible repeat (first | refine blk_drewN ?_ _ | refine blk_drew ?_ | refine blk_alloc ?_ _)); refine blk_far ?_ NB140001_140026.out _; (with_reducible repeat (first | refine blk_drewN ?_ _ | refine blk_drew ?_ | refine blk_alloc ?_ _)); refine blk_far ?_ NB140001_140026.out _; (with_reducible repeat (first | refine blk_drewN ?_ _ | refine blk_drew ?_ | refine blk_alloc ?_ _)); exact BK140001.out) hb); have n7_ := Aside0.mk (blk_below (g := gb140026) (o := .cells #[.int .i64 t140015, .int .i64 t140016, .slice Ao47 t140017.length co47, .slice Ao48 t140020.length co48, .slice Ao49 t140023.length co49] 56 (0, 0)) (by (with_reducible repeat (first | refine blk_drewN ?_ _ | refine blk_drew ?_ | refine blk_alloc ?_ _)); refine blk_put (cs := #[.int .i64 t140015, .int .i64 t140016, .slice Ao47 t140017.length co47, .slice Ao48 t140020.length co48, .slice none 0 0]) ?_ 4 _ rfl; (with_reducible repeat (first | refine blk_drewN ?_ _ | refine blk_drew ?_ | refine blk_alloc ?_ _)); refine blk_put (cs := #[.int .i64 t140015, .int .i64 t140016, .slice Ao47 t140017.length co47, .slice none 0 0, .slice none 0 0]) ?_ 3 _ rfl; (with_reducible repeat (first | refine blk_drewN ?_ _ | refine blk_drew ?_ | refine blk_alloc ?_ _)); refine blk_put (cs := #[.int .i64 t140015, .int .i64 t140016, .slice none 0 0, .slice none 0 0, .slice none 0 0]) ?_ 2 _ rfl; (with_reducible repeat (first | refine blk_drewN ?_ _ | refine blk_drew ?_ | refine blk_alloc ?_ _)); refine blk_put (cs := #[.int .i64 t140015, .int .i64 0, .slice none 0 0, .slice none 0 0, .slice none 0 0]) ?_ 1 _ rfl; (with_reducible repeat (first | refine blk_drewN ?_ _ | refine blk_drew ?_ | refine blk_alloc ?_ _)); refine blk_put (cs := #[.int .i64 0, .int .i64 0, .slice none 0 0, .slice none 0 0, .slice none 0 0]) ?_ 0 _ rfl; (with_reducible repeat (first | refine blk_drewN ?_ _ | refine blk_drew ?_ | refine blk_alloc ?_ _)); exact BK140026.out) hb); have n8_ := Aside0.mk (below_step (by repeat (first | (with_reducible first | exact HB.out | apply below_alloc | apply pw_below_drewN | apply below_drew1 | refine below_set ?_ GE140001.out | refine below_set ?_ GE140026.out) | exact HB.out)) hb); clear HO140007; clear HO140010; clear HO140013; clear HO140019; clear HO140022; clear HO140025; clear BK140001; clear BK140026; clear HB; have HO140007 := n0_; have HO140010 := n1_; have HO140013 := n2_; have HO140019 := n3_; have HO140022 := n4_; have HO140025 := n5_; have BK140001 := n6_; have BK140026 := n7_; have HB := n8_; clear n0_ n1_ n2_ n3_ n4_ n5_ n6_ n7_ n8_; (try clear hb); (try clear hb2); (try clear hk); (try clear hi)))
    have n0_ := Aside0.mk (Kd.R_drew HO140007.out)
    have n1_ := Aside0.mk (Kd.R_drew HO140010.out)
    have n2_ := Aside0.mk (Kd.S_drew HO140013.out)
    have n3_ := Aside0.mk (Kd.R_drew HO140019.out)
    have n4_ := Aside0.mk (Kd.R_drew HO140022.out)
    have n5_ := Aside0.mk (Kd.S_drew HO140025.out)
    have n6_ := Aside0.mk (blk_drew BK140001.out)
    have n7_ := Aside0.mk (blk_drew BK140026.out)
    have n8_ := Aside0.mk (below_drew1 HB.out)
    clear HO140007
    clear HO140010
    clear HO140013
    clear HO140019
    clear HO140022
    clear HO140025
    clear BK140001
    clear BK140026
    clear HB
    have HO140007 := n0_
    have HO140010 := n1_
    have HO140013 := n2_
    have HO140019 := n3_
    have HO140022 := n4_
    have HO140025 := n5_
    have BK140001 := n6_
    have BK140026 := n7_
    have HB := n8_
    clear n0_ n1_ n2_ n3_ n4_ n5_ n6_ n7_ n8_
    refine start_ (n := 5) (S := fun w' => w'.cell? ⟨gb140026, 0, none⟩ = some (.int .i64 t140015) ∧ w'.cell? ⟨gb140026, 1, none⟩ = some (.int .i64 t140016) ∧ w'.cell? ⟨gb140026, 2, none⟩ = some (.slice Ao47 t140017.length co47) ∧ w'.cell? ⟨gb140026, 3, none⟩ = some (.slice Ao48 t140020.length co48) ∧ w'.cell? ⟨gb140026, 4, none⟩ = some (.slice Ao49 t140023.length co49) ∧ w'.cell? ⟨gb140001, 0, none⟩ = some (.int .i64 a0_0) ∧ w'.cell? ⟨gb140001, 1, none⟩ = some (.int .i64 a0_1) ∧ w'.cell? ⟨gb140001, 2, none⟩ = some (.slice A0_2 l0_2.length c0_2) ∧ w'.cell? ⟨gb140001, 3, none⟩ = some (.slice A0_3 l0_3.length c0_3) ∧ w'.cell? ⟨gb140001, 4, none⟩ = some (.slice A0_4 l0_4.length c0_4)) (ds := []) (bt_ 5 0) (by kernel_rfl) rfl rfl ⟨(blk_cell BK140026.out 0).trans rfl, (blk_cell BK140026.out 1).trans rfl, (blk_cell BK140026.out 2).trans rfl, (blk_cell BK140026.out 3).trans rfl, (blk_cell BK140026.out 4).trans rfl, (blk_cell BK140001.out 0).trans rfl, (blk_cell BK140001.out 1).trans rfl, (blk_cell BK140001.out 2).trans rfl, (blk_cell BK140001.out 3).trans rfl, (blk_cell BK140001.out 4).trans rfl⟩ (fun hHeld => ?_)
    generalize w50.drew = w51 at HO140007 HO140010 HO140013 HO140019 HO140022 HO140025 BK140001 BK140026 HB hHeld ⊢
    refine take_ (i := 0) (N := some 22) (v := ?_) (a' := ?_) (bt_ 5 1) rfl rfl (by kernel_rfl) (fun _ _ _ h => h) (Or.inl ⟨by rfl, ?_⟩) hHeld ?_ ?_
    rotate_left
    ·rintro w' ⟨s0, s1, s2, s3, s4, s5, s6, s7, s8, s9⟩
     go_simp
     with_reducible rfl
    rotate_left
    ·simp only [Act.put, List.setIfInBounds_toArray, List.set_cons_zero, List.set_cons_succ, i64_w, i32_w]
     rfl
    refine take_ (i := 1) (N := some 23) (v := ?_) (a' := ?_) (bt_ 5 3) rfl rfl (by kernel_rfl) (fun _ _ _ h => h) (Or.inl ⟨by rfl, ?_⟩) hHeld ?_ ?_
    rotate_left
    ·rintro w' ⟨s0, s1, s2, s3, s4, s5, s6, s7, s8, s9⟩
     go_simp
     with_reducible rfl
    rotate_left
    ·simp only [Act.put, List.setIfInBounds_toArray, List.set_cons_zero, List.set_cons_succ, i64_w, i32_w]
     rfl
    refine one_ (i := 2) (N := some 24) (bt_ 5 7) rfl rfl (by kernel_rfl) (by decide) (fun K hK => ?_)
    refine goes_ Try.func42 (by kernel_rfl) rfl #[.agg #[.int .i64 a0_0, .int .i64 a0_1, .slice A0_2 l0_2.length c0_2, .slice A0_3 l0_3.length c0_3, .slice A0_4 l0_4.length c0_4]] (by rfl) rfl rfl (by (try simp only [List.map_toArray, List.map_cons, List.map_nil]); first | done | rfl | (simp only [List.length_drop, List.length_take]; rfl)) ?_
    with_reducible refine (laws_toBooks.calls k a0_0 a0_1 _ _ l0_2 _ _ l0_3 _ _ l0_4 t140028 t140029 t140030 t140033 t140036 _ ?side1 ?side2 ?side3 ?side4 ?side5 ?side6 A30.out).mono ?_
    (case side1 => repeat (first | exact (Kd.C_below HR0_2.out HB.out) | (with_reducible refine Kd.C_alloc ?_ _) | (with_reducible refine Kd.C_drewN ?_ _) | (with_reducible refine Kd.C_drew ?_)))
    (case side2 => exact HC0_2.out)
    (case side3 => repeat (first | exact (Kd.C_below HR0_3.out HB.out) | (with_reducible refine Kd.C_alloc ?_ _) | (with_reducible refine Kd.C_drewN ?_ _) | (with_reducible refine Kd.C_drew ?_)))
    (case side4 => exact HC0_3.out)
    (case side5 => repeat (first | exact (Kd.C_below HR0_4.out HB.out) | (with_reducible refine Kd.C_alloc ?_ _) | (with_reducible refine Kd.C_drewN ?_ _) | (with_reducible refine Kd.C_drew ?_)))
    (case side6 => exact HC0_4.out)
    rintro e w52 ⟨v140031, v140034, v140037, rfl, ho0, ho1, ho2, hb⟩
    refine ⟨_, rfl, ?_⟩
    have n0_ := Aside0.mk (Kd.R_elder' (by (with_reducible repeat (first | apply Kd.R_alloc | apply Kd.R_drewN | apply Kd.R_drew)); exact HO140007.out) (Kd.R_base ho0) hb)
    have n1_ := Aside0.mk (Kd.R_elder' (by (with_reducible repeat (first | apply Kd.R_alloc | apply Kd.R_drewN | apply Kd.R_drew)); exact HO140010.out) (Kd.R_base ho1) hb)
    have n2_ := Aside0.mk (Kd.S_mono (Kd.S_told (Kd.S_told (Kd.S_old (by (with_reducible repeat (first | apply Kd.S_alloc | apply Kd.S_drewN | apply Kd.S_drew)); exact HO140013.out) hb) (Kd.R_base ho0)) (Kd.S_base ho2)) (fun _ h_ => h_.1))
    have n3_ := Aside0.mk (Kd.R_elder' (by (with_reducible repeat (first | apply Kd.R_alloc | apply Kd.R_drewN | apply Kd.R_drew)); exact HO140019.out) (Kd.R_base ho0) hb)
    have n4_ := Aside0.mk (Kd.R_elder' (by (with_reducible repeat (first | apply Kd.R_alloc | apply Kd.R_drewN | apply Kd.R_drew)); exact HO140022.out) (Kd.R_base ho1) hb)
    have n5_ := Aside0.mk (Kd.S_mono (Kd.S_told (Kd.S_told (Kd.S_old (by (with_reducible repeat (first | apply Kd.S_alloc | apply Kd.S_drewN | apply Kd.S_drew)); exact HO140025.out) hb) (Kd.R_base ho0)) (Kd.S_base ho2)) (fun _ h_ => h_.1))
    have n6_ := Aside0.mk (Kd.R_lower (Kd.R_new' (Kd.R_new' ho0 (Kd.R_lt (by (with_reducible repeat (first | apply Kd.R_alloc | apply Kd.R_drewN | apply Kd.R_drew)); exact HO140007.out))) (Kd.R_lt (by (with_reducible repeat (first | apply Kd.R_alloc | apply Kd.R_drewN | apply Kd.R_drew)); exact HO140019.out))) (below_size (by repeat (first | (with_reducible first | exact HB.out | apply below_alloc | apply pw_below_drewN | apply below_drew1 | refine below_set ?_ GE140001.out | refine below_set ?_ GE140026.out) | exact HB.out))))
    have n7_ := Aside0.mk (Kd.R_lower (Kd.R_new' (Kd.R_new' ho1 (Kd.R_lt (by (with_reducible repeat (first | apply Kd.R_alloc | apply Kd.R_drewN | apply Kd.R_drew)); exact HO140010.out))) (Kd.R_lt (by (with_reducible repeat (first | apply Kd.R_alloc | apply Kd.R_drewN | apply Kd.R_drew)); exact HO140022.out))) (below_size (by repeat (first | (with_reducible first | exact HB.out | apply below_alloc | apply pw_below_drewN | apply below_drew1 | refine below_set ?_ GE140001.out | refine below_set ?_ GE140026.out) | exact HB.out))))
    have n8_ := Aside0.mk (Kd.S_lower (Kd.S_new' (Kd.S_new' (Kd.S_new' (Kd.S_new' ho2 (Kd.R_lt (by (with_reducible repeat (first | apply Kd.R_alloc | apply Kd.R_drewN | apply Kd.R_drew)); exact HO140007.out))) (Kd.S_lt (by (with_reducible repeat (first | apply Kd.S_alloc | apply Kd.S_drewN | apply Kd.S_drew)); exact HO140013.out))) (Kd.R_lt (by (with_reducible repeat (first | apply Kd.R_alloc | apply Kd.R_drewN | apply Kd.R_drew)); exact HO140019.out))) (Kd.S_lt (by (with_reducible repeat (first | apply Kd.S_alloc | apply Kd.S_drewN | apply Kd.S_drew)); exact HO140025.out))) (below_size (by repeat (first | (with_reducible first | exact HB.out | apply below_alloc | apply pw_below_drewN | apply below_drew1 | refine below_set ?_ GE140001.out | refine below_set ?_ GE140026.out) | exact HB.out))))
    have n9_ := Aside0.mk (blk_below (g := gb140001) (o := .cells #[.int .i64 a0_0, .int .i64 a0_1, .slice A0_2 l0_2.length c0_2, .slice A0_3 l0_3.length c0_3, .slice A0_4 l0_4.length c0_4] 64 (0, 0)) (by (with_reducible repeat (first | refine blk_drewN ?_ _ | refine blk_drew ?_ | refine blk_alloc ?_ _)); exact BK140001.out) hb)
    have n10_ := Aside0.mk (blk_below (g := gb140026) (o := .cells #[.int .i64 t140015, .int .i64 t140016, .slice Ao47 t140017.length co47, .slice Ao48 t140020.length co48, .slice Ao49 t140023.length co49] 56 (0, 0)) (by (with_reducible repeat (first | refine blk_drewN ?_ _ | refine blk_drew ?_ | refine blk_alloc ?_ _)); exact BK140026.out) hb)
    have n11_ := Aside0.mk (below_step (by repeat (first | (with_reducible first | exact HB.out | apply below_alloc | apply pw_below_drewN | apply below_drew1 | refine below_set ?_ GE140001.out | refine below_set ?_ GE140026.out) | exact HB.out)) hb)
    clear HO140007
    clear HO140010
    clear HO140013
    clear HO140019
    clear HO140022
    clear HO140025
    clear BK140001
    clear BK140026
    clear HB
    have HO140007 := n0_
    have HO140010 := n1_
    have HO140013 := n2_
    have HO140019 := n3_
    have HO140022 := n4_
    have HO140025 := n5_
    have HO140032 := n6_
    have HO140035 := n7_
    have HO140038 := n8_
    have BK140001 := n9_
    have BK140026 := n10_
    have HB := n11_
    clear n0_ n1_ n2_ n3_ n4_ n5_ n6_ n7_ n8_ n9_ n10_ n11_
    (try clear hb)
    (try clear hb2)
    (try clear hk)
    (try clear hi)
    (try clear ho0)
    (try clear ho1)
    (try clear ho2)
    obtain ⟨Ao53, co53, eo53⟩ := Kd.R_slice HO140032.out
    (first | subst eo53 | (injection eo53 with f1_ f2_ f3_; have f4_ := f1_.symm; have f5_ := f3_.symm; clear f1_ f2_ f3_; subst f4_; subst f5_))
    obtain ⟨Ao54, co54, eo54⟩ := Kd.R_slice HO140035.out
    (first | subst eo54 | (injection eo54 with f1_ f2_ f3_; have f4_ := f1_.symm; have f5_ := f3_.symm; clear f1_ f2_ f3_; subst f4_; subst f5_))
    obtain ⟨Ao55, co55, eo55⟩ := Kd.S_slice HO140038.out
    (first | subst eo55 | (injection eo55 with f1_ f2_ f3_; have f4_ := f1_.symm; have f5_ := f3_.symm; clear f1_ f2_ f3_; subst f4_; subst f5_))
    refine hK.out _ _ ⟨(blk_cell BK140026.out 0).trans rfl, (blk_cell BK140026.out 1).trans rfl, (blk_cell BK140026.out 2).trans rfl, (blk_cell BK140026.out 3).trans rfl, (blk_cell BK140026.out 4).trans rfl, (blk_cell BK140001.out 0).trans rfl, (blk_cell BK140001.out 1).trans rfl, (blk_cell BK140001.out 2).trans rfl, (blk_cell BK140001.out 3).trans rfl, (blk_cell BK140001.out 4).trans rfl⟩ (fun hHeld => ?_)
    clear hK K
    refine norm_ (a' := ?_) ?_ ?_
    rotate_left
    ·show Act.put _ (some 24) _ = _
     simp only [Act.put, List.setIfInBounds_toArray, List.set_cons_zero, List.set_cons_succ, i64_w, i32_w]
     rfl
    refine one_ (i := 3) (N := some 25) (bt_ 5 15) rfl rfl (by kernel_rfl) (by decide) (fun K hK => ?_)
    refine goes_ Try.func37 (by kernel_rfl) rfl #[.agg #[.int .i64 t140015, .int .i64 t140016, .slice Ao47 t140017.length co47, .slice Ao48 t140020.length co48, .slice Ao49 t140023.length co49], .agg #[.int .i64 t140028, .int .i64 t140029, .slice Ao53 t140030.length co53, .slice Ao54 t140033.length co54, .slice Ao55 t140036.length co55]] (by rfl) rfl rfl (by (try simp only [List.map_toArray, List.map_cons, List.map_nil]); first | done | rfl | (simp only [List.length_drop, List.length_take]; rfl)) ?_
    with_reducible refine (laws_eqBooks.calls k t140015 t140016 _ _ t140017 _ _ t140020 _ _ t140023 t140028 t140029 _ _ t140030 _ _ t140033 _ _ t140036 true _ ?side1 ?side2 ?side3 ?side4 ?side5 ?side6 ?side7 ?side8 ?side9 ?side10 ?side11 ?side12 A31.out).mono ?_
    (case side1 => repeat (first | exact (Kd.R_reads' HO140019.out).2.2 | (with_reducible refine Kd.C_alloc ?_ _) | (with_reducible refine Kd.C_drewN ?_ _) | (with_reducible refine Kd.C_drew ?_)))
    (case side2 => exact (Kd.R_reads' HO140019.out).2.1)
    (case side3 => repeat (first | exact (Kd.R_reads' HO140022.out).2.2 | (with_reducible refine Kd.C_alloc ?_ _) | (with_reducible refine Kd.C_drewN ?_ _) | (with_reducible refine Kd.C_drew ?_)))
    (case side4 => exact (Kd.R_reads' HO140022.out).2.1)
    (case side5 => repeat (first | exact (Kd.S_reads' HO140025.out).2.2 | (with_reducible refine Kd.C_alloc ?_ _) | (with_reducible refine Kd.C_drewN ?_ _) | (with_reducible refine Kd.C_drew ?_)))
    (case side6 => exact (Kd.S_reads' HO140025.out).2.1)
    (case side7 => repeat (first | exact (Kd.R_reads' HO140032.out).2.2 | (with_reducible refine Kd.C_alloc ?_ _) | (with_reducible refine Kd.C_drewN ?_ _) | (with_reducible refine Kd.C_drew ?_)))
    (case side8 => exact (Kd.R_reads' HO140032.out).2.1)
    (case side9 => repeat (first | exact (Kd.R_reads' HO140035.out).2.2 | (with_reducible refine Kd.C_alloc ?_ _) | (with_reducible refine Kd.C_drewN ?_ _) | (with_reducible refine Kd.C_drew ?_)))
    (case side10 => exact (Kd.R_reads' HO140035.out).2.1)
    (case side11 => repeat (first | exact (Kd.S_reads' HO140038.out).2.2 | (with_reducible refine Kd.C_alloc ?_ _) | (with_reducible refine Kd.C_drewN ?_ _) | (with_reducible refine Kd.C_drew ?_)))
    (case side12 => exact (Kd.S_reads' HO140038.out).2.1)
    rintro e w56 ⟨rfl, hb⟩
    refine ⟨_, rfl, ?_⟩
    have n0_ := Aside0.mk (Kd.R_below (by (with_reducible repeat (first | apply Kd.R_alloc | apply Kd.R_drewN | apply Kd.R_drew)); exact HO140007.out) hb)
    have n1_ := Aside0.mk (Kd.R_below (by (with_reducible repeat (first | apply Kd.R_alloc | apply Kd.R_drewN | apply Kd.R_drew)); exact HO140010.out) hb)
    have n2_ := Aside0.mk (Kd.S_below (by (with_reducible repeat (first | apply Kd.S_alloc | apply Kd.S_drewN | apply Kd.S_drew)); exact HO140013.out) hb)
    have n3_ := Aside0.mk (Kd.R_below (by (with_reducible repeat (first | apply Kd.R_alloc | apply Kd.R_drewN | apply Kd.R_drew)); exact HO140019.out) hb)
    have n4_ := Aside0.mk (Kd.R_below (by (with_reducible repeat (first | apply Kd.R_alloc | apply Kd.R_drewN | apply Kd.R_drew)); exact HO140022.out) hb)
    have n5_ := Aside0.mk (Kd.S_below (by (with_reducible repeat (first | apply Kd.S_alloc | apply Kd.S_drewN | apply Kd.S_drew)); exact HO140025.out) hb)
    have n6_ := Aside0.mk (Kd.R_below (by (with_reducible repeat (first | apply Kd.R_alloc | apply Kd.R_drewN | apply Kd.R_drew)); exact HO140032.out) hb)
    have n7_ := Aside0.mk (Kd.R_below (by (with_reducible repeat (first | apply Kd.R_alloc | apply Kd.R_drewN | apply Kd.R_drew)); exact HO140035.out) hb)
    have n8_ := Aside0.mk (Kd.S_below (by (with_reducible repeat (first | apply Kd.S_alloc | apply Kd.S_drewN | apply Kd.S_drew)); exact HO140038.out) hb)
    have n9_ := Aside0.mk (blk_below (g := gb140001) (o := .cells #[.int .i64 a0_0, .int .i64 a0_1, .slice A0_2 l0_2.length c0_2, .slice A0_3 l0_3.length c0_3, .slice A0_4 l0_4.length c0_4] 64 (0, 0)) (by (with_reducible repeat (first | refine blk_drewN ?_ _ | refine blk_drew ?_ | refine blk_alloc ?_ _)); exact BK140001.out) hb)
    have n10_ := Aside0.mk (blk_below (g := gb140026) (o := .cells #[.int .i64 t140015, .int .i64 t140016, .slice Ao47 t140017.length co47, .slice Ao48 t140020.length co48, .slice Ao49 t140023.length co49] 56 (0, 0)) (by (with_reducible repeat (first | refine blk_drewN ?_ _ | refine blk_drew ?_ | refine blk_alloc ?_ _)); exact BK140026.out) hb)
    have n11_ := Aside0.mk (below_step (by repeat (first | (with_reducible first | exact HB.out | apply below_alloc | apply pw_below_drewN | apply below_drew1 | refine below_set ?_ GE140001.out | refine below_set ?_ GE140026.out) | exact HB.out)) hb)
    clear HO140007
    clear HO140010
    clear HO140013
    clear HO140019
    clear HO140022
    clear HO140025
    clear HO140032
    clear HO140035
    clear HO140038
    clear BK140001
    clear BK140026
    clear HB
    have HO140007 := n0_
    have HO140010 := n1_
    have HO140013 := n2_
    have HO140019 := n3_
    have HO140022 := n4_
    have HO140025 := n5_
    have HO140032 := n6_
    have HO140035 := n7_
    have HO140038 := n8_
    have BK140001 := n9_
    have BK140026 := n10_
    have HB := n11_
    clear n0_ n1_ n2_ n3_ n4_ n5_ n6_ n7_ n8_ n9_ n10_ n11_
    (try clear hb)
    (try clear hb2)
    (try clear hk)
    (try clear hi)
    refine hK.out _ _ ⟨(blk_cell BK140026.out 0).trans rfl, (blk_cell BK140026.out 1).trans rfl, (blk_cell BK140026.out 2).trans rfl, (blk_cell BK140026.out 3).trans rfl, (blk_cell BK140026.out 4).trans rfl, (blk_cell BK140001.out 0).trans rfl, (blk_cell BK140001.out 1).trans rfl, (blk_cell BK140001.out 2).trans rfl, (blk_cell BK140001.out 3).trans rfl, (blk_cell BK140001.out 4).trans rfl⟩ (fun hHeld => ?_)
    clear hK K
    refine norm_ (a' := ?_) ?_ ?_
    rotate_left
    ·show Act.put _ (some 25) _ = _
     simp only [Act.put, List.setIfInBounds_toArray, List.set_cons_zero, List.set_cons_succ, i64_w, i32_w]
     rfl
    refine pu_ 4 (some 26) (bt_ 5 31) (by kernel_rfl) ?_
    refine done_ (by kernel_rfl) ?_
    try go_wp2
    go_ret
    exact ⟨by first | rfl | (simp [errW_none, errW_some] <;> rfl) | (simp [*, errW_none, errW_some] <;> rfl), by repeat (first | (with_reducible first | exact HB.out | apply below_alloc | apply pw_below_drewN | apply below_drew1 | refine below_set ?_ GE140001.out | refine below_set ?_ GE140026.out) | exact HB.out)⟩
   ·replace c32 := Bool.eq_false_iff.mpr c32
    subst c32
    have H1 : (some false) = some true := by rw [if_neg (show ¬ (false = true) by decide)] at H; exact H
    clear H
    have H := H1
    clear H1
    exact absurd H (by decide)

def B61 (x : S61) : Prop := ((Lit.int .i64 x.f0).wf = true) ∧ ((x.f1.length ≤ maxLen ∧ ∀ y_ ∈ x.f1, (Lit.int .i64 y_).wf = true))
theorem rd61_ (W : World) : RdOf Try.prog W k61 61 B61 := by
 intro H enc fuel cs y h
 obtain ⟨xs, n, _, _, hlen, hxl, hg⟩ := DataW.trod_struct Try.underlying61 h
 have hlen : cs.length = 2 := hlen.trans (by kernel_rfl)
 have hxl : xs.length = 2 := hxl
 obtain ⟨y0, e0⟩ := nth_some (j := 0) hxl (by omega)
 have g0 : DataW.trod enc Try.prog W 0 (fun _ => true) true n 3 ((cs.drop 0).take (Try.prog.cellsOf 3)) = xs[0]? := hg 0 _ rfl
 have z0 : Try.prog.cellsOf 3 = 1 := by kernel_rfl
 rw [z0, e0] at g0
 obtain ⟨x0, k0_, b0_⟩ := (RdOf.int Try.underlying3) enc n _ _ g0
 obtain ⟨y1, e1⟩ := nth_some (j := 1) hxl (by omega)
 have g1 : DataW.trod enc Try.prog W 0 (fun _ => true) true n 31 ((cs.drop 1).take (Try.prog.cellsOf 31)) = xs[1]? := hg 1 _ rfl
 have z1 : Try.prog.cellsOf 31 = 1 := by kernel_rfl
 rw [z1, e1] at g1
 obtain ⟨x1, k1_, b1_⟩ := (RdOf.slice Try.underlying31 (by kernel_rfl) (RdOf.int Try.underlying3)) enc n _ _ g1
 have hk := (seg_pair 0 1 1 k0_ k1_)
 rw [seg_all hlen] at hk
 exact ⟨⟨x0, x1⟩, hk, b0_, b1_⟩
def B80 (x : S80) : Prop := ((Lit.int .i64 x.f0).wf = true) ∧ ((Lit.int .i64 x.f1).wf = true)
theorem rd80_ (W : World) : RdOf Try.prog W k80 80 B80 := by
 intro H enc fuel cs y h
 obtain ⟨xs, n, _, _, hlen, hxl, hg⟩ := DataW.trod_struct Try.underlying80 h
 have hlen : cs.length = 2 := hlen.trans (by kernel_rfl)
 have hxl : xs.length = 2 := hxl
 obtain ⟨y0, e0⟩ := nth_some (j := 0) hxl (by omega)
 have g0 : DataW.trod enc Try.prog W 0 (fun _ => true) true n 3 ((cs.drop 0).take (Try.prog.cellsOf 3)) = xs[0]? := hg 0 _ rfl
 have z0 : Try.prog.cellsOf 3 = 1 := by kernel_rfl
 rw [z0, e0] at g0
 obtain ⟨x0, k0_, b0_⟩ := (RdOf.int Try.underlying3) enc n _ _ g0
 obtain ⟨y1, e1⟩ := nth_some (j := 1) hxl (by omega)
 have g1 : DataW.trod enc Try.prog W 0 (fun _ => true) true n 3 ((cs.drop 1).take (Try.prog.cellsOf 3)) = xs[1]? := hg 1 _ rfl
 have z1 : Try.prog.cellsOf 3 = 1 := by kernel_rfl
 rw [z1, e1] at g1
 obtain ⟨x1, k1_, b1_⟩ := (RdOf.int Try.underlying3) enc n _ _ g1
 have hk := (seg_pair 0 1 1 k0_ k1_)
 rw [seg_all hlen] at hk
 exact ⟨⟨x0, x1⟩, hk, b0_, b1_⟩
def B131 (x : S131) : Prop := ((Lit.int .i64 x.f0).wf = true) ∧ ((Lit.int .i64 x.f1).wf = true) ∧ ((Lit.int .i64 x.f2).wf = true) ∧ ((x.f3.length ≤ maxLen ∧ ∀ y_ ∈ x.f3, (Lit.int .i64 y_).wf = true))
theorem rd131_ (W : World) : RdOf Try.prog W k131 131 B131 := by
 intro H enc fuel cs y h
 obtain ⟨xs, n, _, _, hlen, hxl, hg⟩ := DataW.trod_struct Try.underlying131 h
 have hlen : cs.length = 4 := hlen.trans (by kernel_rfl)
 have hxl : xs.length = 4 := hxl
 obtain ⟨y0, e0⟩ := nth_some (j := 0) hxl (by omega)
 have g0 : DataW.trod enc Try.prog W 0 (fun _ => true) true n 3 ((cs.drop 0).take (Try.prog.cellsOf 3)) = xs[0]? := hg 0 _ rfl
 have z0 : Try.prog.cellsOf 3 = 1 := by kernel_rfl
 rw [z0, e0] at g0
 obtain ⟨x0, k0_, b0_⟩ := (RdOf.int Try.underlying3) enc n _ _ g0
 obtain ⟨y1, e1⟩ := nth_some (j := 1) hxl (by omega)
 have g1 : DataW.trod enc Try.prog W 0 (fun _ => true) true n 3 ((cs.drop 1).take (Try.prog.cellsOf 3)) = xs[1]? := hg 1 _ rfl
 have z1 : Try.prog.cellsOf 3 = 1 := by kernel_rfl
 rw [z1, e1] at g1
 obtain ⟨x1, k1_, b1_⟩ := (RdOf.int Try.underlying3) enc n _ _ g1
 obtain ⟨y2, e2⟩ := nth_some (j := 2) hxl (by omega)
 have g2 : DataW.trod enc Try.prog W 0 (fun _ => true) true n 3 ((cs.drop 2).take (Try.prog.cellsOf 3)) = xs[2]? := hg 2 _ rfl
 have z2 : Try.prog.cellsOf 3 = 1 := by kernel_rfl
 rw [z2, e2] at g2
 obtain ⟨x2, k2_, b2_⟩ := (RdOf.int Try.underlying3) enc n _ _ g2
 obtain ⟨y3, e3⟩ := nth_some (j := 3) hxl (by omega)
 have g3 : DataW.trod enc Try.prog W 0 (fun _ => true) true n 31 ((cs.drop 3).take (Try.prog.cellsOf 31)) = xs[3]? := hg 3 _ rfl
 have z3 : Try.prog.cellsOf 31 = 1 := by kernel_rfl
 rw [z3, e3] at g3
 obtain ⟨x3, k3_, b3_⟩ := (RdOf.slice Try.underlying31 (by kernel_rfl) (RdOf.int Try.underlying3)) enc n _ _ g3
 have hk := (seg_pair 0 1 3 k0_ (seg_pair 1 1 2 k1_ (seg_pair 2 1 1 k2_ k3_)))
 rw [seg_all hlen] at hk
 exact ⟨⟨x0, x1, x2, x3⟩, hk, b0_, b1_, b2_, b3_⟩
def B64 (x : S64) : Prop := ((Lit.int .i64 x.f0).wf = true) ∧ (B61 x.f1) ∧ ((x.f2.length ≤ maxLen ∧ ∀ y_ ∈ x.f2, B80 y_)) ∧ ((x.f3.length ≤ maxLen ∧ ∀ y_ ∈ x.f3, B131 y_))
theorem rd64_ (W : World) : RdOf Try.prog W k64 64 B64 := by
 intro H enc fuel cs y h
 obtain ⟨xs, n, _, _, hlen, hxl, hg⟩ := DataW.trod_struct Try.underlying64 h
 have hlen : cs.length = 5 := hlen.trans (by kernel_rfl)
 have hxl : xs.length = 4 := hxl
 obtain ⟨y0, e0⟩ := nth_some (j := 0) hxl (by omega)
 have g0 : DataW.trod enc Try.prog W 0 (fun _ => true) true n 3 ((cs.drop 0).take (Try.prog.cellsOf 3)) = xs[0]? := hg 0 _ rfl
 have z0 : Try.prog.cellsOf 3 = 1 := by kernel_rfl
 rw [z0, e0] at g0
 obtain ⟨x0, k0_, b0_⟩ := (RdOf.int Try.underlying3) enc n _ _ g0
 obtain ⟨y1, e1⟩ := nth_some (j := 1) hxl (by omega)
 have g1 : DataW.trod enc Try.prog W 0 (fun _ => true) true n 61 ((cs.drop 1).take (Try.prog.cellsOf 61)) = xs[1]? := hg 1 _ rfl
 have z1 : Try.prog.cellsOf 61 = 2 := by kernel_rfl
 rw [z1, e1] at g1
 obtain ⟨x1, k1_, b1_⟩ := (rd61_ W) enc n _ _ g1
 obtain ⟨y2, e2⟩ := nth_some (j := 2) hxl (by omega)
 have g2 : DataW.trod enc Try.prog W 0 (fun _ => true) true n 29 ((cs.drop 3).take (Try.prog.cellsOf 29)) = xs[2]? := hg 2 _ rfl
 have z2 : Try.prog.cellsOf 29 = 1 := by kernel_rfl
 rw [z2, e2] at g2
 obtain ⟨x2, k2_, b2_⟩ := (RdOf.slice Try.underlying29 (by kernel_rfl) (rd80_ W)) enc n _ _ g2
 obtain ⟨y3, e3⟩ := nth_some (j := 3) hxl (by omega)
 have g3 : DataW.trod enc Try.prog W 0 (fun _ => true) true n 62 ((cs.drop 4).take (Try.prog.cellsOf 62)) = xs[3]? := hg 3 _ rfl
 have z3 : Try.prog.cellsOf 62 = 1 := by kernel_rfl
 rw [z3, e3] at g3
 obtain ⟨x3, k3_, b3_⟩ := (RdOf.slice Try.underlying62 (by kernel_rfl) (rd131_ W)) enc n _ _ g3
 have hk := (seg_pair 0 1 4 k0_ (seg_pair 1 2 2 k1_ (seg_pair 3 1 1 k2_ k3_)))
 rw [seg_all hlen] at hk
 exact ⟨⟨x0, x1, x2, x3⟩, hk, b0_, b1_, b2_, b3_⟩

/-- THE ONE PURE STATEMENT of laws_FnExactBooksOk: yours. -/
def laws_FnExactBooksOk.Pure : Prop := ∀ (a0_0 : Int) (a0_1 : Int) (l0_2 : List Int) (l0_3 : List (S80)) (l0_4 : List (S131)), (B64 (⟨a0_0, (⟨a0_1, l0_2⟩ : S61), l0_3, l0_4⟩ : S64)) → ∃ k, laws_FnExactBooksOk.f k a0_0 a0_1 l0_2 l0_3 l0_4 = some true
theorem laws_FnExactBooksOk.walk (P : laws_FnExactBooksOk.Pure) (a0_0 : Int) (a0_1 : Int) (A0_2 : Option Addr) (c0_2 : Nat) (l0_2 : List Int) (A0_3 : Option Addr) (c0_3 : Nat) (l0_3 : List (S80)) (A0_4 : Option Addr) (c0_4 : Nat) (l0_4 : List (S131)) (w : World) (hr0_2 : Kd.C (Kd.int .i64) w A0_2 l0_2.length l0_2) (hc0_2 : l0_2.length ≤ c0_2) (hr0_3 : Kd.C k80 w A0_3 l0_3.length l0_3) (hc0_3 : l0_3.length ≤ c0_3) (hr0_4 : Kd.C k131 w A0_4 l0_4.length l0_4) (hc0_4 : l0_4.length ≤ c0_4) (w0 : B64 (⟨a0_0, (⟨a0_1, l0_2⟩ : S61), l0_3, l0_4⟩ : S64)) :
 Calls Try.prog 13 #[.agg #[.int .i64 a0_0, .int .i64 a0_1, .slice A0_2 l0_2.length c0_2, .slice A0_3 l0_3.length c0_3, .slice A0_4 l0_4.length c0_4]] w fun e w' => e = .returned (.bool true) ∧ Below w.heap.size w w' := by
 obtain ⟨k, h⟩ := P a0_0 a0_1 l0_2 l0_3 l0_4 w0
 refine (laws_FnExactBooksOk.calls k a0_0 a0_1 A0_2 c0_2 l0_2 A0_3 c0_3 l0_3 A0_4 c0_4 l0_4 true w hr0_2 hc0_2 hr0_3 hc0_3 hr0_4 hc0_4 rfl h).mono ?_
 rintro e w' ⟨rfl, hd⟩
 exact ⟨rfl, hd⟩

end Go.Proofs.Ytdjiclhjficgfaa.PB
