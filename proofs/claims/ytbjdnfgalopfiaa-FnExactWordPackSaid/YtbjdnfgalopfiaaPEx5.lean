import Derived.Test.YtbjdnfgalopfiaaPEx0
import Derived.Test.YtbjdnfgalopfiaaPEx4
namespace Go.Proofs.Ytbjdnfgalopfiaa.PE
open Go.RowKit Go.Proofs.YtbjdnfgalopfiaaW.PrintWords Go.Proofs.YtbjdnfgalopfiaaW.PrintLast Go.Proofs.YtbjdnfgalopfiaaW.PrintMore
attribute [local go_sem] max2_int min2_int max_two min_two max_three min_three max_four min_four
set_option linter.unusedVariables false
set_option linter.unusedSimpArgs false

def laws_szWord.f (a0_0 : Int) (a0_1 : Int) (a0_2 : Int) (a0_3 : Int) (a0_4 : Int) (a0_5 : Int) (a0_6 : Bool) (l0_7 : List Int) (l0_8 : List (S75)) (a0_9 : Int) (l0_10 : List Int) (a0_11 : Int) (a0_12 : Int) (a0_13 : Int) (a0_14 : ByteArray) (a0_15 : Int) (a0_16 : Int) (a1 : Int) : Option (Int) := (laws_szIntS.f l0_7 a1).bind fun t70002 => (if t70002 < 0 then (some (-1)) else ((laws_szPairS.f l0_8 t70002).bind fun t70003 => (if t70003 < 0 then (some (-1)) else ((laws_szIntS.f l0_10 t70003).bind fun t70004 => (if t70004 < 0 then (some (-1)) else ((laws_szCall.f a0_11 a0_12 a0_13 a0_14 a0_15 a0_16 t70004).bind fun t70005 => (if t70005 < 0 then (some (-1)) else (some t70005))))))))
set_option maxHeartbeats 8000000 in
set_option maxRecDepth 100000 in
theorem laws_szWord.calls (a0_0 : Int) (a0_1 : Int) (a0_2 : Int) (a0_3 : Int) (a0_4 : Int) (a0_5 : Int) (a0_6 : Bool) (A0_7 : Option Addr) (c0_7 : Nat) (l0_7 : List Int) (A0_8 : Option Addr) (c0_8 : Nat) (l0_8 : List (S75)) (a0_9 : Int) (A0_10 : Option Addr) (c0_10 : Nat) (l0_10 : List Int) (a0_11 : Int) (a0_12 : Int) (a0_13 : Int) (a0_14 : ByteArray) (a0_15 : Int) (a0_16 : Int) (a1 : Int) (r : Int) (w : World) (hr0_7 : Kd.C (Kd.int .i64) w A0_7 l0_7.length l0_7) (hc0_7 : l0_7.length ≤ c0_7) (hr0_8 : Kd.C k75 w A0_8 l0_8.length l0_8) (hc0_8 : l0_8.length ≤ c0_8) (hr0_10 : Kd.C (Kd.int .i64) w A0_10 l0_10.length l0_10) (hc0_10 : l0_10.length ≤ c0_10) (h : laws_szWord.f a0_0 a0_1 a0_2 a0_3 a0_4 a0_5 a0_6 l0_7 l0_8 a0_9 l0_10 a0_11 a0_12 a0_13 a0_14 a0_15 a0_16 a1 = some r) :
 Calls Try.prog 6 #[.agg #[.int .i64 a0_0, .int .i64 a0_1, .int .i64 a0_2, .int .i64 a0_3, .int .i64 a0_4, .int .i64 a0_5, .bool a0_6, .slice A0_7 l0_7.length c0_7, .slice A0_8 l0_8.length c0_8, .int .i64 a0_9, .slice A0_10 l0_10.length c0_10, .int .i64 a0_11, .int .i64 a0_12, .int .i64 a0_13, .string a0_14, .int .i64 a0_15, .int .i64 a0_16], .int .i64 a1] w fun e w' => e = .returned (.int .i64 r) ∧ Below w.heap.size w w' := by
 have hu27 := Try.underlying27
 have hu25 := Try.underlying25
 have HR0_7 := Aside0.mk hr0_7
 have HC0_7 := Aside0.mk hc0_7
 clear hr0_7 hc0_7
 have HR0_8 := Aside0.mk hr0_8
 have HC0_8 := Aside0.mk hc0_8
 clear hr0_8 hc0_8
 have HR0_10 := Aside0.mk hr0_10
 have HC0_10 := Aside0.mk hc0_10
 clear hr0_10 hc0_10
 have HB := Aside0.mk (Below.refl w.heap.size w)
 have H : ((laws_szIntS.f l0_7 a1).bind fun jf => (if jf < 0 then (some (-1)) else ((laws_szPairS.f l0_8 jf).bind fun je => (if je < 0 then (some (-1)) else ((laws_szIntS.f l0_10 je).bind fun jd => (if jd < 0 then (some (-1)) else ((laws_szCall.f a0_11 a0_12 a0_13 a0_14 a0_15 a0_16 jd).bind fun jc => (if jc < 0 then (some (-1)) else (some jc))))))))) = some r := h
 clear h
 replace H := Option.bind_eq_some_iff.mp H
 obtain ⟨jf, A30, H⟩ := H
 replace H : (if jf < 0 then (some (-1)) else ((laws_szPairS.f l0_8 jf).bind fun je => (if je < 0 then (some (-1)) else ((laws_szIntS.f l0_10 je).bind fun jd => (if jd < 0 then (some (-1)) else ((laws_szCall.f a0_11 a0_12 a0_13 a0_14 a0_15 a0_16 jd).bind fun jc => (if jc < 0 then (some (-1)) else (some jc)))))))) = some r := H
 have A3 := Aside0.mk A30
 clear A30
 go_enter Try.func6, Try.ntmps6
 go_wp2_with (first | ((with_reducible refine gate_dst (N := 2) rfl ?_); refine box_event ?hg (N := 2) ?hd (cs := #[.int .i64 a0_0, .int .i64 a0_1, .int .i64 a0_2, .int .i64 a0_3, .int .i64 a0_4, .int .i64 a0_5, .bool a0_6, .slice A0_7 l0_7.length c0_7, .slice A0_8 l0_8.length c0_8, .int .i64 a0_9, .slice A0_10 l0_10.length c0_10, .int .i64 a0_11, .int .i64 a0_12, .int .i64 a0_13, .string a0_14, .int .i64 a0_15, .int .i64 a0_16]) (t := 27) ?hr ?_; (case hd => rfl); (case hg => rfl); (case hr => first | (go_simp; done) | (go_simp; rfl)); intro jb hg w17 hbox hb; have n0_ := Aside0.mk (below_step (hb_ HB.out) hb); have n1_ := Aside0.mk (hbox); have n2_ := Aside0.mk ((by rw [hg]; exact (below_size (hb_ HB.out)) : w.heap.size ≤ jb)); have n3_ := Aside0.mk ((by rw [hg]; exact (below_size (hb_ HB.out)) : w.heap.size ≤ jb)); clear HB; have HB := n0_; have ja := n1_; have jh := n2_; have jg := n3_; clear n0_ n1_ n2_ n3_; clear hb hbox hg; have hcz18_0 : w17.cell? ⟨jb, 0, none⟩ = some (.int .i64 a0_0) := (blk_cell ja.out 0).trans rfl; have hcz18_1 : w17.cell? ⟨jb, 1, none⟩ = some (.int .i64 a0_1) := (blk_cell ja.out 1).trans rfl; have hcz18_2 : w17.cell? ⟨jb, 2, none⟩ = some (.int .i64 a0_2) := (blk_cell ja.out 2).trans rfl; have hcz18_3 : w17.cell? ⟨jb, 3, none⟩ = some (.int .i64 a0_3) := (blk_cell ja.out 3).trans rfl; have hcz18_4 : w17.cell? ⟨jb, 4, none⟩ = some (.int .i64 a0_4) := (blk_cell ja.out 4).trans rfl; have hcz18_5 : w17.cell? ⟨jb, 5, none⟩ = some (.int .i64 a0_5) := (blk_cell ja.out 5).trans rfl; have hcz18_6 : w17.cell? ⟨jb, 6, none⟩ = some (.bool a0_6) := (blk_cell ja.out 6).trans rfl; have hcz18_7 : w17.cell? ⟨jb, 7, none⟩ = some (.slice A0_7 l0_7.length c0_7) := (blk_cell ja.out 7).trans rfl; have hcz18_8 : w17.cell? ⟨jb, 8, none⟩ = some (.slice A0_8 l0_8.length c0_8) := (blk_cell ja.out 8).trans rfl; have hcz18_9 : w17.cell? ⟨jb, 9, none⟩ = some (.int .i64 a0_9) := (blk_cell ja.out 9).trans rfl; have hcz18_10 : w17.cell? ⟨jb, 10, none⟩ = some (.slice A0_10 l0_10.length c0_10) := (blk_cell ja.out 10).trans rfl; have hcz18_11 : w17.cell? ⟨jb, 11, none⟩ = some (.int .i64 a0_11) := (blk_cell ja.out 11).trans rfl; have hcz18_12 : w17.cell? ⟨jb, 12, none⟩ = some (.int .i64 a0_12) := (blk_cell ja.out 12).trans rfl; have hcz18_13 : w17.cell? ⟨jb, 13, none⟩ = some (.int .i64 a0_13) := (blk_cell ja.out 13).trans rfl; have hcz18_14 : w17.cell? ⟨jb, 14, none⟩ = some (.string a0_14) := (blk_cell ja.out 14).trans rfl; have hcz18_15 : w17.cell? ⟨jb, 15, none⟩ = some (.int .i64 a0_15) := (blk_cell ja.out 15).trans rfl; have hcz18_16 : w17.cell? ⟨jb, 16, none⟩ = some (.int .i64 a0_16) := (blk_cell ja.out 16).trans rfl; have hfz18_0 := blk_frozen ja.out 0; have hfz18_1 := blk_frozen ja.out 1; have hfz18_2 := blk_frozen ja.out 2; have hfz18_3 := blk_frozen ja.out 3; have hfz18_4 := blk_frozen ja.out 4; have hfz18_5 := blk_frozen ja.out 5; have hfz18_6 := blk_frozen ja.out 6; have hfz18_7 := blk_frozen ja.out 7; have hfz18_8 := blk_frozen ja.out 8; have hfz18_9 := blk_frozen ja.out 9; have hfz18_10 := blk_frozen ja.out 10; have hfz18_11 := blk_frozen ja.out 11; have hfz18_12 := blk_frozen ja.out 12; have hfz18_13 := blk_frozen ja.out 13; have hfz18_14 := blk_frozen ja.out 14; have hfz18_15 := blk_frozen ja.out 15; have hfz18_16 := blk_frozen ja.out 16))
 (with_reducible refine (laws_szIntS.calls _ _ l0_7 a1 jf _ ?side1 ?side2 A3.out).mono ?_)
 (case side1 => repeat (first | exact (Kd.C_below HR0_7.out HB.out) | (with_reducible refine Kd.C_alloc ?_ _) | (with_reducible refine Kd.C_drewN ?_ _) | (with_reducible refine Kd.C_drew ?_)))
 (case side2 => exact HC0_7.out)
 rintro e w' ⟨rfl, ⟨nd, rfl⟩⟩
 by_cases c4 : jf < 0
 ·rw [if_pos c4] at H
  have c4b0 : decide (jf < 0) = true := decide_eq_true c4
  clear c4
  obtain rfl := Option.some.inj H
  go_wp2_with (fail)
  go_ret
  exact ⟨by first | rfl | (simp [errW_none, errW_some] <;> rfl) | (simp [*, errW_none, errW_some] <;> rfl), by repeat (first | (with_reducible first | exact HB.out | apply below_alloc | apply pw_below_drewN | apply below_drew1 | refine below_set ?_ jg.out) | exact HB.out)⟩
 ·rw [if_neg c4] at H
  have c4b0 : decide (jf < 0) = false := decide_eq_false c4
  clear c4
  replace H := Option.bind_eq_some_iff.mp H
  obtain ⟨je, A70, H⟩ := H
  replace H : (if je < 0 then (some (-1)) else ((laws_szIntS.f l0_10 je).bind fun jd => (if jd < 0 then (some (-1)) else ((laws_szCall.f a0_11 a0_12 a0_13 a0_14 a0_15 a0_16 jd).bind fun jc => (if jc < 0 then (some (-1)) else (some jc)))))) = some r := H
  have A7 := Aside0.mk A70
  clear A70
  go_wp2_with (fail)
  (with_reducible refine (laws_szPairS.calls _ _ l0_8 jf je _ ?side1 ?side2 A7.out).mono ?_)
  (case side1 => repeat (first | exact (Kd.C_below HR0_8.out (hb_ HB.out)) | (with_reducible refine Kd.C_alloc ?_ _) | (with_reducible refine Kd.C_drewN ?_ _) | (with_reducible refine Kd.C_drew ?_)))
  (case side2 => exact HC0_8.out)
  rintro e w' ⟨rfl, ⟨nd, rfl⟩⟩
  by_cases c8 : je < 0
  ·rw [if_pos c8] at H
   have c8b0 : decide (je < 0) = true := decide_eq_true c8
   clear c8
   obtain rfl := Option.some.inj H
   go_wp2_with (fail)
   go_ret
   exact ⟨by first | rfl | (simp [errW_none, errW_some] <;> rfl) | (simp [*, errW_none, errW_some] <;> rfl), by repeat (first | (with_reducible first | exact HB.out | apply below_alloc | apply pw_below_drewN | apply below_drew1 | refine below_set ?_ jg.out) | exact HB.out)⟩
  ·rw [if_neg c8] at H
   have c8b0 : decide (je < 0) = false := decide_eq_false c8
   clear c8
   replace H := Option.bind_eq_some_iff.mp H
   obtain ⟨jd, A110, H⟩ := H
   replace H : (if jd < 0 then (some (-1)) else ((laws_szCall.f a0_11 a0_12 a0_13 a0_14 a0_15 a0_16 jd).bind fun jc => (if jc < 0 then (some (-1)) else (some jc)))) = some r := H
   have A11 := Aside0.mk A110
   clear A110
   go_wp2_with (fail)
   (with_reducible refine (laws_szIntS.calls _ _ l0_10 je jd _ ?side1 ?side2 A11.out).mono ?_)
   (case side1 => repeat (first | exact (Kd.C_below HR0_10.out (hb_ HB.out)) | (with_reducible refine Kd.C_alloc ?_ _) | (with_reducible refine Kd.C_drewN ?_ _) | (with_reducible refine Kd.C_drew ?_)))
   (case side2 => exact HC0_10.out)
   rintro e w' ⟨rfl, ⟨nd, rfl⟩⟩
   by_cases c12 : jd < 0
   ·rw [if_pos c12] at H
    have c12b0 : decide (jd < 0) = true := decide_eq_true c12
    clear c12
    obtain rfl := Option.some.inj H
    go_wp2_with (fail)
    go_ret
    exact ⟨by first | rfl | (simp [errW_none, errW_some] <;> rfl) | (simp [*, errW_none, errW_some] <;> rfl), by repeat (first | (with_reducible first | exact HB.out | apply below_alloc | apply pw_below_drewN | apply below_drew1 | refine below_set ?_ jg.out) | exact HB.out)⟩
   ·rw [if_neg c12] at H
    have c12b0 : decide (jd < 0) = false := decide_eq_false c12
    clear c12
    replace H := Option.bind_eq_some_iff.mp H
    obtain ⟨jc, A150, H⟩ := H
    replace H : (if jc < 0 then (some (-1)) else (some jc)) = some r := H
    have A15 := Aside0.mk A150
    clear A150
    go_wp2_with (fail)
    (with_reducible refine (laws_szCall.calls a0_11 a0_12 a0_13 a0_14 a0_15 a0_16 jd jc _ A15.out).mono ?_)
    rintro e w19 ⟨rfl, hb⟩
    have n0_ := Aside0.mk (blk_below (bk_ ja.out) hb)
    have n1_ := Aside0.mk (below_step (hb_ HB.out) hb)
    clear ja
    clear HB
    have ja := n0_
    have HB := n1_
    clear n0_ n1_
    (try clear hb)
    (try clear hb2)
    (try clear hk)
    (try clear hi)
    by_cases c16 : jc < 0
    ·rw [if_pos c16] at H
     have c16b0 : decide (jc < 0) = true := decide_eq_true c16
     clear c16
     obtain rfl := Option.some.inj H
     go_wp2_with (fail)
     go_ret
     exact ⟨by first | rfl | (simp [errW_none, errW_some] <;> rfl) | (simp [*, errW_none, errW_some] <;> rfl), by repeat (first | (with_reducible first | exact HB.out | apply below_alloc | apply pw_below_drewN | apply below_drew1 | refine below_set ?_ jg.out) | exact HB.out)⟩
    ·rw [if_neg c16] at H
     have c16b0 : decide (jc < 0) = false := decide_eq_false c16
     clear c16
     obtain rfl := Option.some.inj H
     go_wp2_with (fail)
     go_ret
     exact ⟨by first | rfl | (simp [errW_none, errW_some] <;> rfl) | (simp [*, errW_none, errW_some] <;> rfl), by repeat (first | (with_reducible first | exact HB.out | apply below_alloc | apply pw_below_drewN | apply below_drew1 | refine below_set ?_ jg.out) | exact HB.out)⟩
end Go.Proofs.Ytbjdnfgalopfiaa.PE
