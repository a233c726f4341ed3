import Derived.Test.YtbjdnfgalopfiaaPXx0
namespace Go.Proofs.Ytbjdnfgalopfiaa.PX
open Go.RowKit Go.Proofs.YtbjdnfgalopfiaaW.PrintWords Go.Proofs.YtbjdnfgalopfiaaW.PrintLast Go.Proofs.YtbjdnfgalopfiaaW.PrintMore
attribute [local go_sem] max2_int min2_int max_two min_two max_three min_three max_four min_four
set_option linter.unusedVariables false
set_option linter.unusedSimpArgs false

def laws_szIntS.f (l0 : List Int) (a1 : Int) : Option (Int) := if (wrap64 (a1 - (l0.length : Int))) < 0 then (some (-1)) else (some (wrap64 (a1 - (l0.length : Int))))
set_option maxHeartbeats 8000000 in
set_option maxRecDepth 100000 in
theorem laws_szIntS.calls (A0 : Option Addr) (c0 : Nat) (l0 : List Int) (a1 : Int) (r : Int) (w : World) (hr0 : Kd.C (Kd.int .i64) w A0 l0.length l0) (hc0 : l0.length ≤ c0) (h : laws_szIntS.f l0 a1 = some r) :
 Calls Try.prog 18 #[.slice A0 l0.length c0, .int .i64 a1] w fun e w' => e = .returned (.int .i64 r) ∧ Drawn0 w w' := by
 have HR0 := Aside0.mk hr0
 have HC0 := Aside0.mk hc0
 clear hr0 hc0
 have H : (if (wrap64 (a1 - (l0.length : Int))) < 0 then (some (-1)) else (some (wrap64 (a1 - (l0.length : Int))))) = some r := h
 clear h
 by_cases c3 : (wrap64 (a1 - (l0.length : Int))) < 0
 ·rw [if_pos c3] at H
  have c3b0 : decide ((wrap64 (a1 - (l0.length : Int))) < 0) = true := decide_eq_true c3
  clear c3
  obtain rfl := Option.some.inj H
  go_enter Try.func18, Try.ntmps18
  go_wp2
  go_ret
  exact ⟨by first | rfl | (simp; done) | (simp [*]; done), by repeat (first | exact Drawn0.refl _ | apply Drawn0.step)⟩
 ·rw [if_neg c3] at H
  have c3b0 : decide ((wrap64 (a1 - (l0.length : Int))) < 0) = false := decide_eq_false c3
  clear c3
  obtain rfl := Option.some.inj H
  go_enter Try.func18, Try.ntmps18
  go_wp2
  go_ret
  exact ⟨by first | rfl | (simp; done) | (simp [*]; done), by repeat (first | exact Drawn0.refl _ | apply Drawn0.step)⟩

def laws_szPairS.f (l0 : List (S75)) (a1 : Int) : Option (Int) := if (wrap64 (a1 - (l0.length : Int))) < 0 then (some (-1)) else (some (wrap64 (a1 - (l0.length : Int))))
set_option maxHeartbeats 8000000 in
set_option maxRecDepth 100000 in
theorem laws_szPairS.calls (A0 : Option Addr) (c0 : Nat) (l0 : List (S75)) (a1 : Int) (r : Int) (w : World) (hr0 : Kd.C k75 w A0 l0.length l0) (hc0 : l0.length ≤ c0) (h : laws_szPairS.f l0 a1 = some r) :
 Calls Try.prog 19 #[.slice A0 l0.length c0, .int .i64 a1] w fun e w' => e = .returned (.int .i64 r) ∧ Drawn0 w w' := by
 have HR0 := Aside0.mk hr0
 have HC0 := Aside0.mk hc0
 clear hr0 hc0
 have H : (if (wrap64 (a1 - (l0.length : Int))) < 0 then (some (-1)) else (some (wrap64 (a1 - (l0.length : Int))))) = some r := h
 clear h
 by_cases c3 : (wrap64 (a1 - (l0.length : Int))) < 0
 ·rw [if_pos c3] at H
  have c3b0 : decide ((wrap64 (a1 - (l0.length : Int))) < 0) = true := decide_eq_true c3
  clear c3
  obtain rfl := Option.some.inj H
  go_enter Try.func19, Try.ntmps19
  go_wp2
  go_ret
  exact ⟨by first | rfl | (simp; done) | (simp [*]; done), by repeat (first | exact Drawn0.refl _ | apply Drawn0.step)⟩
 ·rw [if_neg c3] at H
  have c3b0 : decide ((wrap64 (a1 - (l0.length : Int))) < 0) = false := decide_eq_false c3
  clear c3
  obtain rfl := Option.some.inj H
  go_enter Try.func19, Try.ntmps19
  go_wp2
  go_ret
  exact ⟨by first | rfl | (simp; done) | (simp [*]; done), by repeat (first | exact Drawn0.refl _ | apply Drawn0.step)⟩

def laws_szCall.f (a0_0 : Int) (a0_1 : Int) (a0_2 : Int) (a0_3 : ByteArray) (a0_4 : Int) (a0_5 : Int) (a1 : Int) : Option (Int) := if (wrap64 (a1 - (a0_3.size : Int))) < 0 then (some (-1)) else (some (wrap64 (a1 - (a0_3.size : Int))))
set_option maxHeartbeats 8000000 in
set_option maxRecDepth 100000 in
theorem laws_szCall.calls (a0_0 : Int) (a0_1 : Int) (a0_2 : Int) (a0_3 : ByteArray) (a0_4 : Int) (a0_5 : Int) (a1 : Int) (r : Int) (w : World) (h : laws_szCall.f a0_0 a0_1 a0_2 a0_3 a0_4 a0_5 a1 = some r) :
 Calls Try.prog 20 #[.agg #[.int .i64 a0_0, .int .i64 a0_1, .int .i64 a0_2, .string a0_3, .int .i64 a0_4, .int .i64 a0_5], .int .i64 a1] w fun e w' => e = .returned (.int .i64 r) ∧ Below w.heap.size w w' := by
 have hu25 := Try.underlying25
 have HB := Aside0.mk (Below.refl w.heap.size w)
 have H : (if (wrap64 (a1 - (a0_3.size : Int))) < 0 then (some (-1)) else (some (wrap64 (a1 - (a0_3.size : Int))))) = some r := h
 clear h
 by_cases c3 : (wrap64 (a1 - (a0_3.size : Int))) < 0
 ·rw [if_pos c3] at H
  have c3b0 : decide ((wrap64 (a1 - (a0_3.size : Int))) < 0) = true := decide_eq_true c3
  clear c3
  obtain rfl := Option.some.inj H
  go_enter Try.func20, Try.ntmps20
  go_wp2_with (first | ((with_reducible refine gate_dst (N := 2) rfl ?_); refine box_event ?hg (N := 2) ?hd (cs := #[.int .i64 a0_0, .int .i64 a0_1, .int .i64 a0_2, .string a0_3, .int .i64 a0_4, .int .i64 a0_5]) (t := 25) ?hr ?_; (case hd => rfl); (case hg => rfl); (case hr => first | (go_simp; done) | (go_simp; rfl)); intro gb210001 hg w4 hbox hb; have n0_ := Aside0.mk (below_step (by repeat (first | (with_reducible first | exact HB.out | apply below_alloc | apply pw_below_drewN | apply below_drew1) | exact HB.out)) hb); have n1_ := Aside0.mk (hbox); have n2_ := Aside0.mk ((by rw [hg]; exact (below_size (by repeat (first | (with_reducible first | exact HB.out | apply below_alloc | apply pw_below_drewN | apply below_drew1) | exact HB.out))) : w.heap.size ≤ gb210001)); have n3_ := Aside0.mk ((by rw [hg]; exact (below_size (by repeat (first | (with_reducible first | exact HB.out | apply below_alloc | apply pw_below_drewN | apply below_drew1) | exact HB.out))) : w.heap.size ≤ gb210001)); clear HB; have HB := n0_; have BK210001 := n1_; have GW210001 := n2_; have GE210001 := n3_; clear n0_ n1_ n2_ n3_; clear hb hbox hg; have hcz5_0 : w4.cell? ⟨gb210001, 0, none⟩ = some (.int .i64 a0_0) := (blk_cell BK210001.out 0).trans rfl; have hcz5_1 : w4.cell? ⟨gb210001, 1, none⟩ = some (.int .i64 a0_1) := (blk_cell BK210001.out 1).trans rfl; have hcz5_2 : w4.cell? ⟨gb210001, 2, none⟩ = some (.int .i64 a0_2) := (blk_cell BK210001.out 2).trans rfl; have hcz5_3 : w4.cell? ⟨gb210001, 3, none⟩ = some (.string a0_3) := (blk_cell BK210001.out 3).trans rfl; have hcz5_4 : w4.cell? ⟨gb210001, 4, none⟩ = some (.int .i64 a0_4) := (blk_cell BK210001.out 4).trans rfl; have hcz5_5 : w4.cell? ⟨gb210001, 5, none⟩ = some (.int .i64 a0_5) := (blk_cell BK210001.out 5).trans rfl; have hfz5_0 := blk_frozen BK210001.out 0; have hfz5_1 := blk_frozen BK210001.out 1; have hfz5_2 := blk_frozen BK210001.out 2; have hfz5_3 := blk_frozen BK210001.out 3; have hfz5_4 := blk_frozen BK210001.out 4; have hfz5_5 := blk_frozen BK210001.out 5))
  go_ret
  exact ⟨by first | rfl | (simp [errW_none, errW_some] <;> rfl) | (simp [*, errW_none, errW_some] <;> rfl), by repeat (first | (with_reducible first | exact HB.out | apply below_alloc | apply pw_below_drewN | apply below_drew1 | refine below_set ?_ GE210001.out) | exact HB.out)⟩
 ·rw [if_neg c3] at H
  have c3b0 : decide ((wrap64 (a1 - (a0_3.size : Int))) < 0) = false := decide_eq_false c3
  clear c3
  obtain rfl := Option.some.inj H
  go_enter Try.func20, Try.ntmps20
  go_wp2_with (first | ((with_reducible refine gate_dst (N := 2) rfl ?_); refine box_event ?hg (N := 2) ?hd (cs := #[.int .i64 a0_0, .int .i64 a0_1, .int .i64 a0_2, .string a0_3, .int .i64 a0_4, .int .i64 a0_5]) (t := 25) ?hr ?_; (case hd => rfl); (case hg => rfl); (case hr => first | (go_simp; done) | (go_simp; rfl)); intro gb210001 hg w6 hbox hb; have n0_ := Aside0.mk (below_step (by repeat (first | (with_reducible first | exact HB.out | apply below_alloc | apply pw_below_drewN | apply below_drew1) | exact HB.out)) hb); have n1_ := Aside0.mk (hbox); have n2_ := Aside0.mk ((by rw [hg]; exact (below_size (by repeat (first | (with_reducible first | exact HB.out | apply below_alloc | apply pw_below_drewN | apply below_drew1) | exact HB.out))) : w.heap.size ≤ gb210001)); have n3_ := Aside0.mk ((by rw [hg]; exact (below_size (by repeat (first | (with_reducible first | exact HB.out | apply below_alloc | apply pw_below_drewN | apply below_drew1) | exact HB.out))) : w.heap.size ≤ gb210001)); clear HB; have HB := n0_; have BK210001 := n1_; have GW210001 := n2_; have GE210001 := n3_; clear n0_ n1_ n2_ n3_; clear hb hbox hg; have hcz7_0 : w6.cell? ⟨gb210001, 0, none⟩ = some (.int .i64 a0_0) := (blk_cell BK210001.out 0).trans rfl; have hcz7_1 : w6.cell? ⟨gb210001, 1, none⟩ = some (.int .i64 a0_1) := (blk_cell BK210001.out 1).trans rfl; have hcz7_2 : w6.cell? ⟨gb210001, 2, none⟩ = some (.int .i64 a0_2) := (blk_cell BK210001.out 2).trans rfl; have hcz7_3 : w6.cell? ⟨gb210001, 3, none⟩ = some (.string a0_3) := (blk_cell BK210001.out 3).trans rfl; have hcz7_4 : w6.cell? ⟨gb210001, 4, none⟩ = some (.int .i64 a0_4) := (blk_cell BK210001.out 4).trans rfl; have hcz7_5 : w6.cell? ⟨gb210001, 5, none⟩ = some (.int .i64 a0_5) := (blk_cell BK210001.out 5).trans rfl; have hfz7_0 := blk_frozen BK210001.out 0; have hfz7_1 := blk_frozen BK210001.out 1; have hfz7_2 := blk_frozen BK210001.out 2; have hfz7_3 := blk_frozen BK210001.out 3; have hfz7_4 := blk_frozen BK210001.out 4; have hfz7_5 := blk_frozen BK210001.out 5))
  go_ret
  exact ⟨by first | rfl | (simp [errW_none, errW_some] <;> rfl) | (simp [*, errW_none, errW_some] <;> rfl), by repeat (first | (with_reducible first | exact HB.out | apply below_alloc | apply pw_below_drewN | apply below_drew1 | refine below_set ?_ GE210001.out) | exact HB.out)⟩

def laws_szWord.f (a0_0 : Int) (a0_1 : Int) (a0_2 : Int) (a0_3 : Int) (a0_4 : Int) (a0_5 : Int) (a0_6 : Bool) (l0_7 : List Int) (l0_8 : List (S75)) (a0_9 : Int) (l0_10 : List Int) (a0_11 : Int) (a0_12 : Int) (a0_13 : Int) (a0_14 : ByteArray) (a0_15 : Int) (a0_16 : Int) (a1 : Int) : Option (Int) := (laws_szIntS.f l0_7 a1).bind fun t70002 => (if t70002 < 0 then (some (-1)) else ((laws_szPairS.f l0_8 t70002).bind fun t70003 => (if t70003 < 0 then (some (-1)) else ((laws_szIntS.f l0_10 t70003).bind fun t70004 => (if t70004 < 0 then (some (-1)) else ((laws_szCall.f a0_11 a0_12 a0_13 a0_14 a0_15 a0_16 t70004).bind fun t70005 => (if t70005 < 0 then (some (-1)) else (some t70005))))))))
set_option maxHeartbeats 8000000 in
set_option maxRecDepth 100000 in
theorem laws_szWord.calls (a0_0 : Int) (a0_1 : Int) (a0_2 : Int) (a0_3 : Int) (a0_4 : Int) (a0_5 : Int) (a0_6 : Bool) (A0_7 : Option Addr) (c0_7 : Nat) (l0_7 : List Int) (A0_8 : Option Addr) (c0_8 : Nat) (l0_8 : List (S75)) (a0_9 : Int) (A0_10 : Option Addr) (c0_10 : Nat) (l0_10 : List Int) (a0_11 : Int) (a0_12 : Int) (a0_13 : Int) (a0_14 : ByteArray) (a0_15 : Int) (a0_16 : Int) (a1 : Int) (r : Int) (w : World) (hr0_7 : Kd.C (Kd.int .i64) w A0_7 l0_7.length l0_7) (hc0_7 : l0_7.length ≤ c0_7) (hr0_8 : Kd.C k75 w A0_8 l0_8.length l0_8) (hc0_8 : l0_8.length ≤ c0_8) (hr0_10 : Kd.C (Kd.int .i64) w A0_10 l0_10.length l0_10) (hc0_10 : l0_10.length ≤ c0_10) (h : laws_szWord.f a0_0 a0_1 a0_2 a0_3 a0_4 a0_5 a0_6 l0_7 l0_8 a0_9 l0_10 a0_11 a0_12 a0_13 a0_14 a0_15 a0_16 a1 = some r) :
 Calls Try.prog 6 #[.agg #[.int .i64 a0_0, .int .i64 a0_1, .int .i64 a0_2, .int .i64 a0_3, .int .i64 a0_4, .int .i64 a0_5, .bool a0_6, .slice A0_7 l0_7.length c0_7, .slice A0_8 l0_8.length c0_8, .int .i64 a0_9, .slice A0_10 l0_10.length c0_10, .int .i64 a0_11, .int .i64 a0_12, .int .i64 a0_13, .string a0_14, .int .i64 a0_15, .int .i64 a0_16], .int .i64 a1] w fun e w' => e = .returned (.int .i64 r) ∧ Below w.heap.size w w' := by
 have hu27 := Try.underlying27
 have hu25 := Try.underlying25
 have HR0_7 := Aside0.mk hr0_7
 have HC0_7 := Aside0.mk hc0_7
 clear hr0_7 hc0_7
 have HR0_8 := Aside0.mk hr0_8
 have HC0_8 := Aside0.mk hc0_8
 clear hr0_8 hc0_8
 have HR0_10 := Aside0.mk hr0_10
 have HC0_10 := Aside0.mk hc0_10
 clear hr0_10 hc0_10
 have HB := Aside0.mk (Below.refl w.heap.size w)
 have H : ((laws_szIntS.f l0_7 a1).bind fun t70002 => (if t70002 < 0 then (some (-1)) else ((laws_szPairS.f l0_8 t70002).bind fun t70003 => (if t70003 < 0 then (some (-1)) else ((laws_szIntS.f l0_10 t70003).bind fun t70004 => (if t70004 < 0 then (some (-1)) else ((laws_szCall.f a0_11 a0_12 a0_13 a0_14 a0_15 a0_16 t70004).bind fun t70005 => (if t70005 < 0 then (some (-1)) else (some t70005))))))))) = some r := h
 clear h
 replace H := Option.bind_eq_some_iff.mp H
 obtain ⟨t70002, A30, H⟩ := H
 replace H : (if t70002 < 0 then (some (-1)) else ((laws_szPairS.f l0_8 t70002).bind fun t70003 => (if t70003 < 0 then (some (-1)) else ((laws_szIntS.f l0_10 t70003).bind fun t70004 => (if t70004 < 0 then (some (-1)) else ((laws_szCall.f a0_11 a0_12 a0_13 a0_14 a0_15 a0_16 t70004).bind fun t70005 => (if t70005 < 0 then (some (-1)) else (some t70005)))))))) = some r := H
 have A3 := Aside0.mk A30
 clear A30
 go_enter Try.func6, Try.ntmps6
 go_wp2_with (first | ((with_reducible refine gate_dst (N := 2) rfl ?_); refine box_event ?hg (N := 2) ?hd (cs := #[.int .i64 a0_0, .int .i64 a0_1, .int .i64 a0_2, .int .i64 a0_3, .int .i64 a0_4, .int .i64 a0_5, .bool a0_6, .slice A0_7 l0_7.length c0_7, .slice A0_8 l0_8.length c0_8, .int .i64 a0_9, .slice A0_10 l0_10.length c0_10, .int .i64 a0_11, .int .i64 a0_12, .int .i64 a0_13, .string a0_14, .int .i64 a0_15, .int .i64 a0_16]) (t := 27) ?hr ?_; (case hd => rfl); (case hg => rfl); (case hr => first | (go_simp; done) | (go_simp; rfl)); intro gb70001 hg w17 hbox hb; have n0_ := Aside0.mk (below_step (by repeat (first | (with_reducible first | exact HB.out | apply below_alloc | apply pw_below_drewN | apply below_drew1) | exact HB.out)) hb); have n1_ := Aside0.mk (hbox); have n2_ := Aside0.mk ((by rw [hg]; exact (below_size (by repeat (first | (with_reducible first | exact HB.out | apply below_alloc | apply pw_below_drewN | apply below_drew1) | exact HB.out))) : w.heap.size ≤ gb70001)); have n3_ := Aside0.mk ((by rw [hg]; exact (below_size (by repeat (first | (with_reducible first | exact HB.out | apply below_alloc | apply pw_below_drewN | apply below_drew1) | exact HB.out))) : w.heap.size ≤ gb70001)); clear HB; have HB := n0_; have BK70001 := n1_; have GW70001 := n2_; have GE70001 := n3_; clear n0_ n1_ n2_ n3_; clear hb hbox hg; have hcz18_0 : w17.cell? ⟨gb70001, 0, none⟩ = some (.int .i64 a0_0) := (blk_cell BK70001.out 0).trans rfl; have hcz18_1 : w17.cell? ⟨gb70001, 1, none⟩ = some (.int .i64 a0_1) := (blk_cell BK70001.out 1).trans rfl; have hcz18_2 : w17.cell? ⟨gb70001, 2, none⟩ = some (.int .i64 a0_2) := (blk_cell BK70001.out 2).trans rfl; have hcz18_3 : w17.cell? ⟨gb70001, 3, none⟩ = some (.int .i64 a0_3) := (blk_cell BK70001.out 3).trans rfl; have hcz18_4 : w17.cell? ⟨gb70001, 4, none⟩ = some (.int .i64 a0_4) := (blk_cell BK70001.out 4).trans rfl; have hcz18_5 : w17.cell? ⟨gb70001, 5, none⟩ = some (.int .i64 a0_5) := (blk_cell BK70001.out 5).trans rfl; have hcz18_6 : w17.cell? ⟨gb70001, 6, none⟩ = some (.bool a0_6) := (blk_cell BK70001.out 6).trans rfl; have hcz18_7 : w17.cell? ⟨gb70001, 7, none⟩ = some (.slice A0_7 l0_7.length c0_7) := (blk_cell BK70001.out 7).trans rfl; have hcz18_8 : w17.cell? ⟨gb70001, 8, none⟩ = some (.slice A0_8 l0_8.length c0_8) := (blk_cell BK70001.out 8).trans rfl; have hcz18_9 : w17.cell? ⟨gb70001, 9, none⟩ = some (.int .i64 a0_9) := (blk_cell BK70001.out 9).trans rfl; have hcz18_10 : w17.cell? ⟨gb70001, 10, none⟩ = some (.slice A0_10 l0_10.length c0_10) := (blk_cell BK70001.out 10).trans rfl; have hcz18_11 : w17.cell? ⟨gb70001, 11, none⟩ = some (.int .i64 a0_11) := (blk_cell BK70001.out 11).trans rfl; have hcz18_12 : w17.cell? ⟨gb70001, 12, none⟩ = some (.int .i64 a0_12) := (blk_cell BK70001.out 12).trans rfl; have hcz18_13 : w17.cell? ⟨gb70001, 13, none⟩ = some (.int .i64 a0_13) := (blk_cell BK70001.out 13).trans rfl; have hcz18_14 : w17.cell? ⟨gb70001, 14, none⟩ = some (.string a0_14) := (blk_cell BK70001.out 14).trans rfl; have hcz18_15 : w17.cell? ⟨gb70001, 15, none⟩ = some (.int .i64 a0_15) := (blk_cell BK70001.out 15).trans rfl; have hcz18_16 : w17.cell? ⟨gb70001, 16, none⟩ = some (.int .i64 a0_16) := (blk_cell BK70001.out 16).trans rfl; have hfz18_0 := blk_frozen BK70001.out 0; have hfz18_1 := blk_frozen BK70001.out 1; have hfz18_2 := blk_frozen BK70001.out 2; have hfz18_3 := blk_frozen BK70001.out 3; have hfz18_4 := blk_frozen BK70001.out 4; have hfz18_5 := blk_frozen BK70001.out 5; have hfz18_6 := blk_frozen BK70001.out 6; have hfz18_7 := blk_frozen BK70001.out 7; have hfz18_8 := blk_frozen BK70001.out 8; have hfz18_9 := blk_frozen BK70001.out 9; have hfz18_10 := blk_frozen BK70001.out 10; have hfz18_11 := blk_frozen BK70001.out 11; have hfz18_12 := blk_frozen BK70001.out 12; have hfz18_13 := blk_frozen BK70001.out 13; have hfz18_14 := blk_frozen BK70001.out 14; have hfz18_15 := blk_frozen BK70001.out 15; have hfz18_16 := blk_frozen BK70001.out 16))
 (with_reducible refine (laws_szIntS.calls _ _ l0_7 a1 t70002 _ ?side1 ?side2 A3.out).mono ?_)
 (case side1 => repeat (first | exact (Kd.C_below HR0_7.out HB.out) | (with_reducible refine Kd.C_alloc ?_ _) | (with_reducible refine Kd.C_drewN ?_ _) | (with_reducible refine Kd.C_drew ?_)))
 (case side2 => exact HC0_7.out)
 rintro e w' ⟨rfl, ⟨nd, rfl⟩⟩
 by_cases c4 : t70002 < 0
 ·rw [if_pos c4] at H
  have c4b0 : decide (t70002 < 0) = true := decide_eq_true c4
  clear c4
  obtain rfl := Option.some.inj H
  go_wp2_with (fail)
  go_ret
  exact ⟨by first | rfl | (simp [errW_none, errW_some] <;> rfl) | (simp [*, errW_none, errW_some] <;> rfl), by repeat (first | (with_reducible first | exact HB.out | apply below_alloc | apply pw_below_drewN | apply below_drew1 | refine below_set ?_ GE70001.out) | exact HB.out)⟩
 ·rw [if_neg c4] at H
  have c4b0 : decide (t70002 < 0) = false := decide_eq_false c4
  clear c4
  replace H := Option.bind_eq_some_iff.mp H
  obtain ⟨t70003, A70, H⟩ := H
  replace H : (if t70003 < 0 then (some (-1)) else ((laws_szIntS.f l0_10 t70003).bind fun t70004 => (if t70004 < 0 then (some (-1)) else ((laws_szCall.f a0_11 a0_12 a0_13 a0_14 a0_15 a0_16 t70004).bind fun t70005 => (if t70005 < 0 then (some (-1)) else (some t70005)))))) = some r := H
  have A7 := Aside0.mk A70
  clear A70
  go_wp2_with (fail)
  (with_reducible refine (laws_szPairS.calls _ _ l0_8 t70002 t70003 _ ?side1 ?side2 A7.out).mono ?_)
  (case side1 => repeat (first | exact (Kd.C_below HR0_8.out (by repeat (first | (with_reducible first | exact HB.out | apply below_alloc | apply pw_below_drewN | apply below_drew1 | refine below_set ?_ GE70001.out) | exact HB.out))) | (with_reducible refine Kd.C_alloc ?_ _) | (with_reducible refine Kd.C_drewN ?_ _) | (with_reducible refine Kd.C_drew ?_)))
  (case side2 => exact HC0_8.out)
  rintro e w' ⟨rfl, ⟨nd, rfl⟩⟩
  by_cases c8 : t70003 < 0
  ·rw [if_pos c8] at H
   have c8b0 : decide (t70003 < 0) = true := decide_eq_true c8
   clear c8
   obtain rfl := Option.some.inj H
   go_wp2_with (fail)
   go_ret
   exact ⟨by first | rfl | (simp [errW_none, errW_some] <;> rfl) | (simp [*, errW_none, errW_some] <;> rfl), by repeat (first | (with_reducible first | exact HB.out | apply below_alloc | apply pw_below_drewN | apply below_drew1 | refine below_set ?_ GE70001.out) | exact HB.out)⟩
  ·rw [if_neg c8] at H
   have c8b0 : decide (t70003 < 0) = false := decide_eq_false c8
   clear c8
   replace H := Option.bind_eq_some_iff.mp H
   obtain ⟨t70004, A110, H⟩ := H
   replace H : (if t70004 < 0 then (some (-1)) else ((laws_szCall.f a0_11 a0_12 a0_13 a0_14 a0_15 a0_16 t70004).bind fun t70005 => (if t70005 < 0 then (some (-1)) else (some t70005)))) = some r := H
   have A11 := Aside0.mk A110
   clear A110
   go_wp2_with (fail)
   (with_reducible refine (laws_szIntS.calls _ _ l0_10 t70003 t70004 _ ?side1 ?side2 A11.out).mono ?_)
   (case side1 => repeat (first | exact (Kd.C_below HR0_10.out (by repeat (first | (with_reducible first | exact HB.out | apply below_alloc | apply pw_below_drewN | apply below_drew1 | refine below_set ?_ GE70001.out) | exact HB.out))) | (with_reducible refine Kd.C_alloc ?_ _) | (with_reducible refine Kd.C_drewN ?_ _) | (with_reducible refine Kd.C_drew ?_)))
   (case side2 => exact HC0_10.out)
   rintro e w' ⟨rfl, ⟨nd, rfl⟩⟩
   by_cases c12 : t70004 < 0
   ·rw [if_pos c12] at H
    have c12b0 : decide (t70004 < 0) = true := decide_eq_true c12
    clear c12
    obtain rfl := Option.some.inj H
    go_wp2_with (fail)
    go_ret
    exact ⟨by first | rfl | (simp [errW_none, errW_some] <;> rfl) | (simp [*, errW_none, errW_some] <;> rfl), by repeat (first | (with_reducible first | exact HB.out | apply below_alloc | apply pw_below_drewN | apply below_drew1 | refine below_set ?_ GE70001.out) | exact HB.out)⟩
   ·rw [if_neg c12] at H
    have c12b0 : decide (t70004 < 0) = false := decide_eq_false c12
    clear c12
    replace H := Option.bind_eq_some_iff.mp H
    obtain ⟨t70005, A150, H⟩ := H
    replace H : (if t70005 < 0 then (some (-1)) else (some t70005)) = some r := H
    have A15 := Aside0.mk A150
    clear A150
    go_wp2_with (fail)
    (with_reducible refine (laws_szCall.calls a0_11 a0_12 a0_13 a0_14 a0_15 a0_16 t70004 t70005 _ A15.out).mono ?_)
    rintro e w19 ⟨rfl, hb⟩
    have n0_ := Aside0.mk (blk_below (g := gb70001) (o := .cells #[.int .i64 a0_0, .int .i64 a0_1, .int .i64 a0_2, .int .i64 a0_3, .int .i64 a0_4, .int .i64 a0_5, .bool a0_6, .slice A0_7 l0_7.length c0_7, .slice A0_8 l0_8.length c0_8, .int .i64 a0_9, .slice A0_10 l0_10.length c0_10, .int .i64 a0_11, .int .i64 a0_12, .int .i64 a0_13, .string a0_14, .int .i64 a0_15, .int .i64 a0_16] 27 (0, 0)) (by (with_reducible repeat (first | refine blk_drewN ?_ _ | refine blk_drew ?_ | refine blk_alloc ?_ _)); exact BK70001.out) hb)
    have n1_ := Aside0.mk (below_step (by repeat (first | (with_reducible first | exact HB.out | apply below_alloc | apply pw_below_drewN | apply below_drew1 | refine below_set ?_ GE70001.out) | exact HB.out)) hb)
    clear BK70001
    clear HB
    have BK70001 := n0_
    have HB := n1_
    clear n0_ n1_
    (try clear hb)
    (try clear hb2)
    (try clear hk)
    (try clear hi)
    by_cases c16 : t70005 < 0
    ·rw [if_pos c16] at H
     have c16b0 : decide (t70005 < 0) = true := decide_eq_true c16
     clear c16
     obtain rfl := Option.some.inj H
     go_wp2_with (fail)
     go_ret
     exact ⟨by first | rfl | (simp [errW_none, errW_some] <;> rfl) | (simp [*, errW_none, errW_some] <;> rfl), by repeat (first | (with_reducible first | exact HB.out | apply below_alloc | apply pw_below_drewN | apply below_drew1 | refine below_set ?_ GE70001.out) | exact HB.out)⟩
    ·rw [if_neg c16] at H
     have c16b0 : decide (t70005 < 0) = false := decide_eq_false c16
     clear c16
     obtain rfl := Option.some.inj H
     go_wp2_with (fail)
     go_ret
     exact ⟨by first | rfl | (simp [errW_none, errW_some] <;> rfl) | (simp [*, errW_none, errW_some] <;> rfl), by repeat (first | (with_reducible first | exact HB.out | apply below_alloc | apply pw_below_drewN | apply below_drew1 | refine below_set ?_ GE70001.out) | exact HB.out)⟩
def spec_l6In.f (a0 : Int) (a1 : Int) (a2 : Int) : Option (Bool) := if a0 ≥ a1 then (some (decide (a0 ≤ a2))) else (some false)
set_option maxHeartbeats 8000000 in
set_option maxRecDepth 100000 in
theorem spec_l6In.calls (a0 : Int) (a1 : Int) (a2 : Int) (r : Bool) (w : World) (h : spec_l6In.f a0 a1 a2 = some r) :
 Calls Try.prog 21 #[.int .i64 a0, .int .i64 a1, .int .i64 a2] w fun e w' => e = .returned (.bool r) ∧ Drawn0 w w' := by
 have H : (if a0 ≥ a1 then (some (decide (a0 ≤ a2))) else (some false)) = some r := h
 clear h
 by_cases c4 : a0 ≥ a1
 ·rw [if_pos c4] at H
  have c4b0 : decide (a1 ≤ a0) = true := decide_eq_true c4
  clear c4
  obtain rfl := Option.some.inj H
  go_enter Try.func21, Try.ntmps21
  go_wp2
  go_ret
  exact ⟨by first | rfl | (simp; done) | (simp [*]; done), by repeat (first | exact Drawn0.refl _ | apply Drawn0.step)⟩
 ·rw [if_neg c4] at H
  have c4b0 : decide (a1 ≤ a0) = false := decide_eq_false c4
  clear c4
  obtain rfl := Option.some.inj H
  go_enter Try.func21, Try.ntmps21
  go_wp2
  go_ret
  exact ⟨by first | rfl | (simp; done) | (simp [*]; done), by repeat (first | exact Drawn0.refl _ | apply Drawn0.step)⟩

def spec_l12House.f (a0 : Int) : Option (Bool) := (spec_l6In.f a0 0 2).bind fun t510001 => (some t510001)
set_option maxHeartbeats 8000000 in
set_option maxRecDepth 100000 in
theorem spec_l12House.calls (a0 : Int) (r : Bool) (w : World) (h : spec_l12House.f a0 = some r) :
 Calls Try.prog 50 #[.int .i64 a0] w fun e w' => e = .returned (.bool r) ∧ Drawn0 w w' := by
 have H : ((spec_l6In.f a0 0 2).bind fun t510001 => (some t510001)) = some r := h
 clear h
 replace H := Option.bind_eq_some_iff.mp H
 obtain ⟨t510001, A20, H⟩ := H
 replace H : (some t510001) = some r := H
 have A2 := Aside0.mk A20
 clear A20
 obtain rfl := Option.some.inj H
 go_enter Try.func50, Try.ntmps50
 go_wp2_with (first | ((with_reducible refine gate_callee (f := 21) rfl ?_); refine goesL_ (some 4) rfl rfl Try.func21 (by kernel_rfl) rfl #[.int .i64 a0, .int .i64 0, .int .i64 2] rfl (by (try simp only [List.map_toArray, List.map_cons, List.map_nil]); first | done | rfl | (simp only [List.length_drop, List.length_take]; rfl)) ?_; (with_reducible refine (spec_l6In.calls a0 0 2 t510001 _ A2.out).mono ?_); rintro e w' ⟨rfl, ⟨nd, rfl⟩⟩; refine ⟨_, rfl, ?_⟩))
 go_ret
 exact ⟨by first | rfl | (simp; done) | (simp [*]; done), by repeat (first | exact Drawn0.refl _ | apply Drawn0.step)⟩

def spec_l12Place.f (a0 : Int) : Option (Bool) := (spec_l12House.f a0).bind fun t230001 => (if t230001 = true then (some true) else (if a0 = 9 then (some true) else ((spec_l6In.f a0 100 102).bind fun t230002 => (some t230002))))
set_option maxHeartbeats 8000000 in
set_option maxRecDepth 100000 in
theorem spec_l12Place.calls (a0 : Int) (r : Bool) (w : World) (h : spec_l12Place.f a0 = some r) :
 Calls Try.prog 22 #[.int .i64 a0] w fun e w' => e = .returned (.bool r) ∧ Drawn0 w w' := by
 have H : ((spec_l12House.f a0).bind fun t230001 => (if t230001 = true then (some true) else (if a0 = 9 then (some true) else ((spec_l6In.f a0 100 102).bind fun t230002 => (some t230002))))) = some r := h
 clear h
 replace H := Option.bind_eq_some_iff.mp H
 obtain ⟨t230001, A20, H⟩ := H
 replace H : (if t230001 = true then (some true) else (if a0 = 9 then (some true) else ((spec_l6In.f a0 100 102).bind fun t230002 => (some t230002)))) = some r := H
 have A2 := Aside0.mk A20
 clear A20
 by_cases c3 : t230001 = true
 ·subst c3
  have H1 : (some true) = some r := by rw [if_pos rfl] at H; exact H
  clear H
  have H := H1
  clear H1
  obtain rfl := Option.some.inj H
  go_enter Try.func22, Try.ntmps22
  go_wp2_with (first | ((with_reducible refine gate_callee (f := 50) rfl ?_); refine goesL_ (some 4) rfl rfl Try.func50 (by kernel_rfl) rfl #[.int .i64 a0] rfl (by (try simp only [List.map_toArray, List.map_cons, List.map_nil]); first | done | rfl | (simp only [List.length_drop, List.length_take]; rfl)) ?_; (with_reducible refine (spec_l12House.calls a0 true _ A2.out).mono ?_); rintro e w' ⟨rfl, ⟨nd, rfl⟩⟩; refine ⟨_, rfl, ?_⟩))
  go_ret
  exact ⟨by first | rfl | (simp; done) | (simp [*]; done), by repeat (first | exact Drawn0.refl _ | apply Drawn0.step)⟩
 ·replace c3 := Bool.eq_false_iff.mpr c3
  subst c3
  have H1 : (if a0 = 9 then (some true) else ((spec_l6In.f a0 100 102).bind fun t230002 => (some t230002))) = some r := by rw [if_neg (show ¬ (false = true) by decide)] at H; exact H
  clear H
  have H := H1
  clear H1
  by_cases c4 : a0 = 9
  ·rw [if_pos c4] at H
   have c4b0 : (a0 == 9) = true := beq_iff_eq.mpr c4
   have c4b1 : (a0 != 9) = false := bne_eq_false_iff_eq.mpr c4
   clear c4
   obtain rfl := Option.some.inj H
   go_enter Try.func22, Try.ntmps22
   go_wp2_with (first | ((with_reducible refine gate_callee (f := 50) rfl ?_); refine goesL_ (some 4) rfl rfl Try.func50 (by kernel_rfl) rfl #[.int .i64 a0] rfl (by (try simp only [List.map_toArray, List.map_cons, List.map_nil]); first | done | rfl | (simp only [List.length_drop, List.length_take]; rfl)) ?_; (with_reducible refine (spec_l12House.calls a0 false _ A2.out).mono ?_); rintro e w' ⟨rfl, ⟨nd, rfl⟩⟩; refine ⟨_, rfl, ?_⟩))
   go_ret
   exact ⟨by first | rfl | (simp; done) | (simp [*]; done), by repeat (first | exact Drawn0.refl _ | apply Drawn0.step)⟩
  ·rw [if_neg c4] at H
   have c4b0 : (a0 == 9) = false := beq_eq_false_iff_ne.mpr c4
   have c4b1 : (a0 != 9) = true := bne_iff_ne.mpr c4
   replace H := Option.bind_eq_some_iff.mp H
   obtain ⟨t230002, A50, H⟩ := H
   replace H : (some t230002) = some r := H
   have A5 := Aside0.mk A50
   clear A50
   obtain rfl := Option.some.inj H
   go_enter Try.func22, Try.ntmps22
   go_wp2_with (first | ((with_reducible refine gate_callee (f := 50) rfl ?_); refine goesL_ (some 4) rfl rfl Try.func50 (by kernel_rfl) rfl #[.int .i64 a0] rfl (by (try simp only [List.map_toArray, List.map_cons, List.map_nil]); first | done | rfl | (simp only [List.length_drop, List.length_take]; rfl)) ?_; (with_reducible refine (spec_l12House.calls a0 false _ A2.out).mono ?_); rintro e w' ⟨rfl, ⟨nd, rfl⟩⟩; refine ⟨_, rfl, ?_⟩) | (go_at_call 21; (with_reducible refine (spec_l6In.calls a0 100 102 t230002 _ A5.out).mono ?_); rintro e w' ⟨rfl, ⟨nd, rfl⟩⟩))
   go_ret
   exact ⟨by first | rfl | (simp; done) | (simp [*]; done), by repeat (first | exact Drawn0.refl _ | apply Drawn0.step)⟩

def spec_l12Slots.l0 : Nat → List Int → Int → Option (Bool)
 | 0, _, _ => none
 | k + 1, x0, x3 => if x3 < (x0.length : Int) then (if 0 ≤ x3 then ((spec_l6In.f (rd x0 x3) 0 7).bind fun t240002 => (if t240002 = true then (if x3 > 0 then (if 0 ≤ (wrap64 (x3 - 1)) then (if (wrap64 (x3 - 1)) < (x0.length : Int) then (if (rd x0 (wrap64 (x3 - 1))) ≥ (rd x0 x3) then (some false) else (spec_l12Slots.l0 k x0 (wrap64 (x3 + 1)))) else (none)) else (none)) else (spec_l12Slots.l0 k x0 (wrap64 (x3 + 1)))) else (some false))) else (none)) else (some true)
def spec_l12Slots.f (k : Nat) (l0 : List Int) : Option (Bool) := spec_l12Slots.l0 k l0 0
theorem spec_l12Slots.mono_l : ∀ k, (∀ y0 y1, LeO (spec_l12Slots.l0 k y0 y1) (spec_l12Slots.l0 (k + 1) y0 y1))
 | 0 => fun _ _ r h => by simp [spec_l12Slots.l0] at h
 | k + 1 => by
  have ih0 := spec_l12Slots.mono_l k
  ·intro y0 y1
   unfold spec_l12Slots.l0
   repeat' first
   | (with_reducible exact ih0 _ _)
   | (with_reducible exact LeO.refl _)
   | (with_reducible exact LeO.none _)
   | (with_reducible refine LeO.ite ?_ ?_)
   | (with_reducible refine LeO.bind ?_ (fun _ => ?_))
   | exact ih0 _ _
   | exact LeO.none _
   | refine LeO.ite ?_ ?_
   | refine LeO.bind ?_ (fun _ => ?_)
theorem spec_l12Slots.mono : ∀ a0 k, LeO (spec_l12Slots.f k a0) (spec_l12Slots.f (k + 1) a0) := by
 intro a0 k
 have ih0 := spec_l12Slots.mono_l k
 unfold spec_l12Slots.f
 repeat' first
  | (with_reducible exact ih0 _ _)
  | (with_reducible exact LeO.refl _)
  | (with_reducible exact LeO.none _)
  | (with_reducible refine LeO.ite ?_ ?_)
  | (with_reducible refine LeO.bind ?_ (fun _ => ?_))
  | exact ih0 _ _
  | exact LeO.none _
  | refine LeO.ite ?_ ?_
  | refine LeO.bind ?_ (fun _ => ?_)
set_option maxHeartbeats 8000000 in
set_option maxRecDepth 100000 in
theorem spec_l12Slots.calls (k : Nat) (A0 : Option Addr) (c0 : Nat) (l0 : List Int) (r : Bool) (w : World) (hr0 : Kd.C (Kd.int .i64) w A0 l0.length l0) (hc0 : l0.length ≤ c0) (h : spec_l12Slots.f k l0 = some r) :
 Calls Try.prog 23 #[.slice A0 l0.length c0] w fun e w' => e = .returned (.bool r) ∧ Drawn0 w w' := by
 have HR0 := Aside0.mk hr0
 have HC0 := Aside0.mk hc0
 clear hr0 hc0
 have H : (spec_l12Slots.l0 k l0 0) = some r := h
 clear h
 have H' := Aside0.mk H
 clear H
 go_enter Try.func23, Try.ntmps23
 go_wp2
 repeat (go_quiet (fail); try go_wp2)
 go_loopg [3] k (fun kq v3 w' => ∃ (x3_1 : Int), v3 = .int .i64 x3_1 ∧ Aside0 (spec_l12Slots.l0 kq l0 x3_1 = some r) ∧ Aside0 (kq ≤ k) ∧ Drawn0 w w')
 case atStart => exact ⟨(0), (by first | rfl | (simp; done) | (simp [*]; done)), H', ⟨Nat.le_refl _⟩, by repeat (first | exact Drawn0.refl _ | apply Drawn0.step)⟩
 case round =>
  clear H'
  obtain ⟨x3_1, rfl, HA, HK1, ⟨m1, rfl⟩⟩ := hrel
  cases gk with
  | zero => exact absurd HA.out (by simp [spec_l12Slots.l0])
  | succ k1 =>
   have H := HA.out
   clear HA
   simp only [spec_l12Slots.l0] at H
   by_cases c2 : x3_1 < (l0.length : Int)
   ·rw [if_pos c2] at H
    have c2b0 : decide (x3_1 < (l0.length : Int)) = true := decide_eq_true c2
    clear c2
    by_cases c3 : 0 ≤ x3_1
    ·rw [if_pos c3] at H
     have c3b0 : decide (0 ≤ x3_1) = true := decide_eq_true c3
     clear c3
     replace H := Option.bind_eq_some_iff.mp H
     obtain ⟨t240002, A40, H⟩ := H
     replace H : (if t240002 = true then (if x3_1 > 0 then (if 0 ≤ (wrap64 (x3_1 - 1)) then (if (wrap64 (x3_1 - 1)) < (l0.length : Int) then (if (rd l0 (wrap64 (x3_1 - 1))) ≥ (rd l0 x3_1) then (some false) else (spec_l12Slots.l0 k1 l0 (wrap64 (x3_1 + 1)))) else (none)) else (none)) else (spec_l12Slots.l0 k1 l0 (wrap64 (x3_1 + 1)))) else (some false)) = some r := H
     have A4 := Aside0.mk A40
     clear A40
     by_cases c5 : t240002 = true
     ·subst c5
      have H1 : (if x3_1 > 0 then (if 0 ≤ (wrap64 (x3_1 - 1)) then (if (wrap64 (x3_1 - 1)) < (l0.length : Int) then (if (rd l0 (wrap64 (x3_1 - 1))) ≥ (rd l0 x3_1) then (some false) else (spec_l12Slots.l0 k1 l0 (wrap64 (x3_1 + 1)))) else (none)) else (none)) else (spec_l12Slots.l0 k1 l0 (wrap64 (x3_1 + 1)))) = some r := by rw [if_pos rfl] at H; exact H
      clear H
      have H := H1
      clear H1
      by_cases c6 : x3_1 > 0
      ·rw [if_pos c6] at H
       have c6b0 : decide (0 < x3_1) = true := decide_eq_true c6
       clear c6
       obtain ⟨ji7, hji7⟩ : ∃ j_ : Int, (wrap64 (x3_1 - 1)) = j_ := ⟨_, rfl⟩
       replace H : (if 0 ≤ (ji7) then (if (ji7) < (l0.length : Int) then (if (rd l0 (ji7)) ≥ (rd l0 x3_1) then (some false) else (spec_l12Slots.l0 k1 l0 (wrap64 (x3_1 + 1)))) else (none)) else (none)) = some r := by first | (rw [hji7] at H; exact H) | (simp only [hji7] at H ⊢; exact H)
       (try rw [hji7] at A4)
       have hji7w : (IntKind.i64.wrap (x3_1 - 1)) = ji7 := (i64_w _).trans hji7
       by_cases c8 : 0 ≤ (ji7)
       ·rw [if_pos c8] at H
        have c8b0 : decide (0 ≤ (ji7)) = true := decide_eq_true c8
        clear c8
        by_cases c9 : (ji7) < (l0.length : Int)
        ·rw [if_pos c9] at H
         have c9b0 : decide ((ji7) < (l0.length : Int)) = true := decide_eq_true c9
         clear c9
         by_cases c10 : (rd l0 (ji7)) ≥ (rd l0 x3_1)
         ·rw [if_pos c10] at H
          have c10b0 : decide ((rd l0 x3_1) ≤ (rd l0 (ji7))) = true := decide_eq_true c10
          clear c10
          obtain rfl := Option.some.inj H
          have p240001 : 0 ≤ (x3_1 : Int) := of_decide_eq_true (by first | (with_reducible assumption) | assumption)
          have q240001 : x3_1 < (l0.length : Int) := of_decide_eq_true (by first | (with_reducible assumption) | assumption)
          obtain ⟨ad240001, e240001, hx240001_0⟩ := Kd.at_int HR0.out x3_1 p240001 q240001
          cases e240001
          replace p240001 := eq_true p240001
          replace q240001 := eq_true q240001
          go_wp2_with (first | (go_at_call 21; (with_reducible refine (spec_l6In.calls (rd l0 x3_1) 0 7 true _ A4.out).mono ?_); rintro e w' ⟨rfl, ⟨nd, rfl⟩⟩; (try first | exact ⟨rfl, _, World.drewN_drewN _ _ _⟩ | exact ⟨rfl, _, Eq.trans (World.drewN_drewN _ _ _) (congrArg (World.drewN _) (Nat.add_assoc _ _ _))⟩); have p240003 : 0 ≤ ((ji7) : Int) := of_decide_eq_true (by first | (with_reducible assumption) | assumption); have q240003 : (ji7) < (l0.length : Int) := of_decide_eq_true (by first | (with_reducible assumption) | assumption); obtain ⟨ad240003, e240003, hx240003_0⟩ := Kd.at_int HR0.out (ji7) p240003 q240003; obtain rfl : ad240001 = ad240003 := (by injection e240003); replace p240003 := eq_true p240003; replace q240003 := eq_true q240003; have p240004 : 0 ≤ (x3_1 : Int) := of_decide_eq_true (by first | (with_reducible assumption) | assumption); have q240004 : x3_1 < (l0.length : Int) := of_decide_eq_true (by first | (with_reducible assumption) | assumption); obtain ⟨ad240004, e240004, hx240004_0⟩ := Kd.at_int HR0.out x3_1 p240004 q240004; obtain rfl : ad240001 = ad240004 := (by injection e240004); replace p240004 := eq_true p240004; replace q240004 := eq_true q240004))
          repeat (go_quiet (first | (go_at_call 21; (with_reducible refine (spec_l6In.calls (rd l0 x3_1) 0 7 true _ A4.out).mono ?_); rintro e w' ⟨rfl, ⟨nd, rfl⟩⟩; (try first | exact ⟨rfl, _, World.drewN_drewN _ _ _⟩ | exact ⟨rfl, _, Eq.trans (World.drewN_drewN _ _ _) (congrArg (World.drewN _) (Nat.add_assoc _ _ _))⟩); have p240003 : 0 ≤ ((ji7) : Int) := of_decide_eq_true (by first | (with_reducible assumption) | assumption); have q240003 : (ji7) < (l0.length : Int) := of_decide_eq_true (by first | (with_reducible assumption) | assumption); obtain ⟨ad240003, e240003, hx240003_0⟩ := Kd.at_int HR0.out (ji7) p240003 q240003; obtain rfl : ad240001 = ad240003 := (by injection e240003); replace p240003 := eq_true p240003; replace q240003 := eq_true q240003; have p240004 : 0 ≤ (x3_1 : Int) := of_decide_eq_true (by first | (with_reducible assumption) | assumption); have q240004 : x3_1 < (l0.length : Int) := of_decide_eq_true (by first | (with_reducible assumption) | assumption); obtain ⟨ad240004, e240004, hx240004_0⟩ := Kd.at_int HR0.out x3_1 p240004 q240004; obtain rfl : ad240001 = ad240004 := (by injection e240004); replace p240004 := eq_true p240004; replace q240004 := eq_true q240004)); try go_wp2_with (first | (go_at_call 21; (with_reducible refine (spec_l6In.calls (rd l0 x3_1) 0 7 true _ A4.out).mono ?_); rintro e w' ⟨rfl, ⟨nd, rfl⟩⟩; (try first | exact ⟨rfl, _, World.drewN_drewN _ _ _⟩ | exact ⟨rfl, _, Eq.trans (World.drewN_drewN _ _ _) (congrArg (World.drewN _) (Nat.add_assoc _ _ _))⟩); have p240003 : 0 ≤ ((ji7) : Int) := of_decide_eq_true (by first | (with_reducible assumption) | assumption); have q240003 : (ji7) < (l0.length : Int) := of_decide_eq_true (by first | (with_reducible assumption) | assumption); obtain ⟨ad240003, e240003, hx240003_0⟩ := Kd.at_int HR0.out (ji7) p240003 q240003; obtain rfl : ad240001 = ad240003 := (by injection e240003); replace p240003 := eq_true p240003; replace q240003 := eq_true q240003; have p240004 : 0 ≤ (x3_1 : Int) := of_decide_eq_true (by first | (with_reducible assumption) | assumption); have q240004 : x3_1 < (l0.length : Int) := of_decide_eq_true (by first | (with_reducible assumption) | assumption); obtain ⟨ad240004, e240004, hx240004_0⟩ := Kd.at_int HR0.out x3_1 p240004 q240004; obtain rfl : ad240001 = ad240004 := (by injection e240004); replace p240004 := eq_true p240004; replace q240004 := eq_true q240004)))
          go_ret
          exact ⟨by first | rfl | (simp; done) | (simp only [← hji7] <;> (first | rfl | simp)) | (simp [*]; done), by repeat (first | exact Drawn0.refl _ | apply Drawn0.step)⟩
         ·rw [if_neg c10] at H
          have c10b0 : decide ((rd l0 x3_1) ≤ (rd l0 (ji7))) = false := decide_eq_false c10
          clear c10
          have H' := Aside0.mk H
          clear H
          have p240001 : 0 ≤ (x3_1 : Int) := of_decide_eq_true (by first | (with_reducible assumption) | assumption)
          have q240001 : x3_1 < (l0.length : Int) := of_decide_eq_true (by first | (with_reducible assumption) | assumption)
          obtain ⟨ad240001, e240001, hx240001_0⟩ := Kd.at_int HR0.out x3_1 p240001 q240001
          cases e240001
          replace p240001 := eq_true p240001
          replace q240001 := eq_true q240001
          go_wp2_with (first | (go_at_call 21; (with_reducible refine (spec_l6In.calls (rd l0 x3_1) 0 7 true _ A4.out).mono ?_); rintro e w' ⟨rfl, ⟨nd, rfl⟩⟩; (try first | exact ⟨rfl, _, World.drewN_drewN _ _ _⟩ | exact ⟨rfl, _, Eq.trans (World.drewN_drewN _ _ _) (congrArg (World.drewN _) (Nat.add_assoc _ _ _))⟩); have p240003 : 0 ≤ ((ji7) : Int) := of_decide_eq_true (by first | (with_reducible assumption) | assumption); have q240003 : (ji7) < (l0.length : Int) := of_decide_eq_true (by first | (with_reducible assumption) | assumption); obtain ⟨ad240003, e240003, hx240003_0⟩ := Kd.at_int HR0.out (ji7) p240003 q240003; obtain rfl : ad240001 = ad240003 := (by injection e240003); replace p240003 := eq_true p240003; replace q240003 := eq_true q240003; have p240004 : 0 ≤ (x3_1 : Int) := of_decide_eq_true (by first | (with_reducible assumption) | assumption); have q240004 : x3_1 < (l0.length : Int) := of_decide_eq_true (by first | (with_reducible assumption) | assumption); obtain ⟨ad240004, e240004, hx240004_0⟩ := Kd.at_int HR0.out x3_1 p240004 q240004; obtain rfl : ad240001 = ad240004 := (by injection e240004); replace p240004 := eq_true p240004; replace q240004 := eq_true q240004))
          repeat (go_quiet (first | (go_at_call 21; (with_reducible refine (spec_l6In.calls (rd l0 x3_1) 0 7 true _ A4.out).mono ?_); rintro e w' ⟨rfl, ⟨nd, rfl⟩⟩; (try first | exact ⟨rfl, _, World.drewN_drewN _ _ _⟩ | exact ⟨rfl, _, Eq.trans (World.drewN_drewN _ _ _) (congrArg (World.drewN _) (Nat.add_assoc _ _ _))⟩); have p240003 : 0 ≤ ((ji7) : Int) := of_decide_eq_true (by first | (with_reducible assumption) | assumption); have q240003 : (ji7) < (l0.length : Int) := of_decide_eq_true (by first | (with_reducible assumption) | assumption); obtain ⟨ad240003, e240003, hx240003_0⟩ := Kd.at_int HR0.out (ji7) p240003 q240003; obtain rfl : ad240001 = ad240003 := (by injection e240003); replace p240003 := eq_true p240003; replace q240003 := eq_true q240003; have p240004 : 0 ≤ (x3_1 : Int) := of_decide_eq_true (by first | (with_reducible assumption) | assumption); have q240004 : x3_1 < (l0.length : Int) := of_decide_eq_true (by first | (with_reducible assumption) | assumption); obtain ⟨ad240004, e240004, hx240004_0⟩ := Kd.at_int HR0.out x3_1 p240004 q240004; obtain rfl : ad240001 = ad240004 := (by injection e240004); replace p240004 := eq_true p240004; replace q240004 := eq_true q240004)); try go_wp2_with (first | (go_at_call 21; (with_reducible refine (spec_l6In.calls (rd l0 x3_1) 0 7 true _ A4.out).mono ?_); rintro e w' ⟨rfl, ⟨nd, rfl⟩⟩; (try first | exact ⟨rfl, _, World.drewN_drewN _ _ _⟩ | exact ⟨rfl, _, Eq.trans (World.drewN_drewN _ _ _) (congrArg (World.drewN _) (Nat.add_assoc _ _ _))⟩); have p240003 : 0 ≤ ((ji7) : Int) := of_decide_eq_true (by first | (with_reducible assumption) | assumption); have q240003 : (ji7) < (l0.length : Int) := of_decide_eq_true (by first | (with_reducible assumption) | assumption); obtain ⟨ad240003, e240003, hx240003_0⟩ := Kd.at_int HR0.out (ji7) p240003 q240003; obtain rfl : ad240001 = ad240003 := (by injection e240003); replace p240003 := eq_true p240003; replace q240003 := eq_true q240003; have p240004 : 0 ≤ (x3_1 : Int) := of_decide_eq_true (by first | (with_reducible assumption) | assumption); have q240004 : x3_1 < (l0.length : Int) := of_decide_eq_true (by first | (with_reducible assumption) | assumption); obtain ⟨ad240004, e240004, hx240004_0⟩ := Kd.at_int HR0.out x3_1 p240004 q240004; obtain rfl : ad240001 = ad240004 := (by injection e240004); replace p240004 := eq_true p240004; replace q240004 := eq_true q240004)))
          go_roundg k1
          case measure => have := HK1.out; omega
          case rel => exact ⟨(wrap64 (x3_1 + 1)), (by first | rfl | (simp; done) | (simp [*]; done)), H', ⟨by have := HK1.out; omega⟩, by repeat (first | exact Drawn0.refl _ | apply Drawn0.step)⟩
        ·rw [if_neg c9] at H
         exact absurd H (by simp)
       ·rw [if_neg c8] at H
        exact absurd H (by simp)
      ·rw [if_neg c6] at H
       have c6b0 : decide (0 < x3_1) = false := decide_eq_false c6
       clear c6
       have H' := Aside0.mk H
       clear H
       have p240001 : 0 ≤ (x3_1 : Int) := of_decide_eq_true (by first | (with_reducible assumption) | assumption)
       have q240001 : x3_1 < (l0.length : Int) := of_decide_eq_true (by first | (with_reducible assumption) | assumption)
       obtain ⟨ad240001, e240001, hx240001_0⟩ := Kd.at_int HR0.out x3_1 p240001 q240001
       cases e240001
       replace p240001 := eq_true p240001
       replace q240001 := eq_true q240001
       go_wp2_with (first | (go_at_call 21; (with_reducible refine (spec_l6In.calls (rd l0 x3_1) 0 7 true _ A4.out).mono ?_); rintro e w' ⟨rfl, ⟨nd, rfl⟩⟩; (try first | exact ⟨rfl, _, World.drewN_drewN _ _ _⟩ | exact ⟨rfl, _, Eq.trans (World.drewN_drewN _ _ _) (congrArg (World.drewN _) (Nat.add_assoc _ _ _))⟩)))
       repeat (go_quiet (first | (go_at_call 21; (with_reducible refine (spec_l6In.calls (rd l0 x3_1) 0 7 true _ A4.out).mono ?_); rintro e w' ⟨rfl, ⟨nd, rfl⟩⟩; (try first | exact ⟨rfl, _, World.drewN_drewN _ _ _⟩ | exact ⟨rfl, _, Eq.trans (World.drewN_drewN _ _ _) (congrArg (World.drewN _) (Nat.add_assoc _ _ _))⟩))); try go_wp2_with (first | (go_at_call 21; (with_reducible refine (spec_l6In.calls (rd l0 x3_1) 0 7 true _ A4.out).mono ?_); rintro e w' ⟨rfl, ⟨nd, rfl⟩⟩; (try first | exact ⟨rfl, _, World.drewN_drewN _ _ _⟩ | exact ⟨rfl, _, Eq.trans (World.drewN_drewN _ _ _) (congrArg (World.drewN _) (Nat.add_assoc _ _ _))⟩))))
       go_roundg k1
       case measure => have := HK1.out; omega
       case rel => exact ⟨(wrap64 (x3_1 + 1)), (by first | rfl | (simp; done) | (simp [*]; done)), H', ⟨by have := HK1.out; omega⟩, by repeat (first | exact Drawn0.refl _ | apply Drawn0.step)⟩
     ·replace c5 := Bool.eq_false_iff.mpr c5
      subst c5
      have H1 : (some false) = some r := by rw [if_neg (show ¬ (false = true) by decide)] at H; exact H
      clear H
      have H := H1
      clear H1
      obtain rfl := Option.some.inj H
      have p240001 : 0 ≤ (x3_1 : Int) := of_decide_eq_true (by first | (with_reducible assumption) | assumption)
      have q240001 : x3_1 < (l0.length : Int) := of_decide_eq_true (by first | (with_reducible assumption) | assumption)
      obtain ⟨ad240001, e240001, hx240001_0⟩ := Kd.at_int HR0.out x3_1 p240001 q240001
      cases e240001
      replace p240001 := eq_true p240001
      replace q240001 := eq_true q240001
      go_wp2_with (first | (go_at_call 21; (with_reducible refine (spec_l6In.calls (rd l0 x3_1) 0 7 false _ A4.out).mono ?_); rintro e w' ⟨rfl, ⟨nd, rfl⟩⟩; (try first | exact ⟨rfl, _, World.drewN_drewN _ _ _⟩ | exact ⟨rfl, _, Eq.trans (World.drewN_drewN _ _ _) (congrArg (World.drewN _) (Nat.add_assoc _ _ _))⟩)))
      repeat (go_quiet (first | (go_at_call 21; (with_reducible refine (spec_l6In.calls (rd l0 x3_1) 0 7 false _ A4.out).mono ?_); rintro e w' ⟨rfl, ⟨nd, rfl⟩⟩; (try first | exact ⟨rfl, _, World.drewN_drewN _ _ _⟩ | exact ⟨rfl, _, Eq.trans (World.drewN_drewN _ _ _) (congrArg (World.drewN _) (Nat.add_assoc _ _ _))⟩))); try go_wp2_with (first | (go_at_call 21; (with_reducible refine (spec_l6In.calls (rd l0 x3_1) 0 7 false _ A4.out).mono ?_); rintro e w' ⟨rfl, ⟨nd, rfl⟩⟩; (try first | exact ⟨rfl, _, World.drewN_drewN _ _ _⟩ | exact ⟨rfl, _, Eq.trans (World.drewN_drewN _ _ _) (congrArg (World.drewN _) (Nat.add_assoc _ _ _))⟩))))
      go_ret
      exact ⟨by first | rfl | (simp; done) | (simp [*]; done), by repeat (first | exact Drawn0.refl _ | apply Drawn0.step)⟩
    ·rw [if_neg c3] at H
     exact absurd H (by simp)
   ·rw [if_neg c2] at H
    have c2b0 : decide (x3_1 < (l0.length : Int)) = false := decide_eq_false c2
    clear c2
    obtain rfl := Option.some.inj H
    go_wp2
    repeat (go_quiet (fail); try go_wp2)
    go_ret
    exact ⟨by first | rfl | (simp; done) | (simp [*]; done), by repeat (first | exact Drawn0.refl _ | apply Drawn0.step)⟩

def spec_l1Val.f (a0 : Int) : Option (Bool) := (spec_l6In.f a0 (-9999) 9999).bind fun t520001 => (some t520001)
set_option maxHeartbeats 8000000 in
set_option maxRecDepth 100000 in
theorem spec_l1Val.calls (a0 : Int) (r : Bool) (w : World) (h : spec_l1Val.f a0 = some r) :
 Calls Try.prog 51 #[.int .i64 a0] w fun e w' => e = .returned (.bool r) ∧ Drawn0 w w' := by
 have H : ((spec_l6In.f a0 (-9999) 9999).bind fun t520001 => (some t520001)) = some r := h
 clear h
 replace H := Option.bind_eq_some_iff.mp H
 obtain ⟨t520001, A20, H⟩ := H
 replace H : (some t520001) = some r := H
 have A2 := Aside0.mk A20
 clear A20
 obtain rfl := Option.some.inj H
 go_enter Try.func51, Try.ntmps51
 go_wp2_with (first | ((with_reducible refine gate_callee (f := 21) rfl ?_); refine goesL_ (some 4) rfl rfl Try.func21 (by kernel_rfl) rfl #[.int .i64 a0, .int .i64 (-9999), .int .i64 9999] rfl (by (try simp only [List.map_toArray, List.map_cons, List.map_nil]); first | done | rfl | (simp only [List.length_drop, List.length_take]; rfl)) ?_; (with_reducible refine (spec_l6In.calls a0 (-9999) 9999 t520001 _ A2.out).mono ?_); rintro e w' ⟨rfl, ⟨nd, rfl⟩⟩; refine ⟨_, rfl, ?_⟩))
 go_ret
 exact ⟨by first | rfl | (simp; done) | (simp [*]; done), by repeat (first | exact Drawn0.refl _ | apply Drawn0.step)⟩

end Go.Proofs.Ytbjdnfgalopfiaa.PX
