import Derived.Test.YtbjdnfgalopfiaaPEx0
import Derived.Test.YtbjdnfgalopfiaaPEx11
import Derived.Test.YtbjdnfgalopfiaaPEx13
import Derived.Test.YtbjdnfgalopfiaaPEx14
namespace Go.Proofs.Ytbjdnfgalopfiaa.PE
open Go.RowKit Go.Proofs.YtbjdnfgalopfiaaW.PrintWords Go.Proofs.YtbjdnfgalopfiaaW.PrintLast Go.Proofs.YtbjdnfgalopfiaaW.PrintMore
attribute [local go_sem] max2_int min2_int max_two min_two max_three min_three max_four min_four
set_option linter.unusedVariables false
set_option linter.unusedSimpArgs false

def laws_eqWord.f (k : Nat) (a0_0 : Int) (a0_1 : Int) (a0_2 : Int) (a0_3 : Int) (a0_4 : Int) (a0_5 : Int) (a0_6 : Bool) (l0_7 : List Int) (l0_8 : List (S68)) (a0_9 : Int) (l0_10 : List Int) (a0_11 : Int) (a0_12 : Int) (a0_13 : Int) (a0_14 : ByteArray) (a0_15 : Int) (a0_16 : Int) (a1_0 : Int) (a1_1 : Int) (a1_2 : Int) (a1_3 : Int) (a1_4 : Int) (a1_5 : Int) (a1_6 : Bool) (l1_7 : List Int) (l1_8 : List (S68)) (a1_9 : Int) (l1_10 : List Int) (a1_11 : Int) (a1_12 : Int) (a1_13 : Int) (a1_14 : ByteArray) (a1_15 : Int) (a1_16 : Int) : Option (Bool) := if a0_0 = a1_0 then (if a0_1 = a1_1 then (if a0_2 = a1_2 then (if a0_3 = a1_3 then (if a0_4 = a1_4 then (if a0_5 = a1_5 then (if (a0_6 != a1_6) = true then (none) else ((laws_eqIntS.f k l0_7 l1_7).bind fun t110003 => (if t110003 = true then ((laws_eqPairS.f k l0_8 l1_8).bind fun t110004 => (if t110004 = true then (if a0_9 = a1_9 then ((laws_eqIntS.f k l0_10 l1_10).bind fun t110005 => (if t110005 = true then ((laws_eqCall.f a0_11 a0_12 a0_13 a0_14 a0_15 a0_16 a1_11 a1_12 a1_13 a1_14 a1_15 a1_16).bind fun t110006 => (if t110006 = true then (some true) else (none))) else (none))) else (none)) else (none))) else (none)))) else (none)) else (none)) else (none)) else (none)) else (none)) else (none)
theorem laws_eqWord.mono : ∀ a0 a1 a2 a3 a4 a5 a6 a7 a8 a9 a10 a11 a12 a13 a14 a15 a16 a17 a18 a19 a20 a21 a22 a23 a24 a25 a26 a27 a28 a29 a30 a31 a32 a33 k, LeO (laws_eqWord.f k a0 a1 a2 a3 a4 a5 a6 a7 a8 a9 a10 a11 a12 a13 a14 a15 a16 a17 a18 a19 a20 a21 a22 a23 a24 a25 a26 a27 a28 a29 a30 a31 a32 a33) (laws_eqWord.f (k + 1) a0 a1 a2 a3 a4 a5 a6 a7 a8 a9 a10 a11 a12 a13 a14 a15 a16 a17 a18 a19 a20 a21 a22 a23 a24 a25 a26 a27 a28 a29 a30 a31 a32 a33) := by
 intro a0 a1 a2 a3 a4 a5 a6 a7 a8 a9 a10 a11 a12 a13 a14 a15 a16 a17 a18 a19 a20 a21 a22 a23 a24 a25 a26 a27 a28 a29 a30 a31 a32 a33 k
 unfold laws_eqWord.f
 repeat' first
  | (with_reducible exact laws_eqIntS.mono _ _ _)
  | (with_reducible exact laws_eqPairS.mono _ _ _)
  | (with_reducible exact LeO.refl _)
  | (with_reducible exact LeO.none _)
  | (with_reducible refine LeO.ite ?_ ?_)
  | (with_reducible refine LeO.bind ?_ (fun _ => ?_))
  | exact laws_eqIntS.mono _ _ _
  | exact laws_eqPairS.mono _ _ _
  | exact LeO.none _
  | refine LeO.ite ?_ ?_
  | refine LeO.bind ?_ (fun _ => ?_)
set_option maxHeartbeats 8000000 in
set_option maxRecDepth 100000 in
theorem laws_eqWord.calls (k : Nat) (a0_0 : Int) (a0_1 : Int) (a0_2 : Int) (a0_3 : Int) (a0_4 : Int) (a0_5 : Int) (a0_6 : Bool) (A0_7 : Option Addr) (c0_7 : Nat) (l0_7 : List Int) (A0_8 : Option Addr) (c0_8 : Nat) (l0_8 : List (S68)) (a0_9 : Int) (A0_10 : Option Addr) (c0_10 : Nat) (l0_10 : List Int) (a0_11 : Int) (a0_12 : Int) (a0_13 : Int) (a0_14 : ByteArray) (a0_15 : Int) (a0_16 : Int) (a1_0 : Int) (a1_1 : Int) (a1_2 : Int) (a1_3 : Int) (a1_4 : Int) (a1_5 : Int) (a1_6 : Bool) (A1_7 : Option Addr) (c1_7 : Nat) (l1_7 : List Int) (A1_8 : Option Addr) (c1_8 : Nat) (l1_8 : List (S68)) (a1_9 : Int) (A1_10 : Option Addr) (c1_10 : Nat) (l1_10 : List Int) (a1_11 : Int) (a1_12 : Int) (a1_13 : Int) (a1_14 : ByteArray) (a1_15 : Int) (a1_16 : Int) (r : Bool) (w : World) (hr0_7 : Kd.C (Kd.int .i64) w A0_7 l0_7.length l0_7) (hc0_7 : l0_7.length ≤ c0_7) (hr0_8 : Kd.C k68 w A0_8 l0_8.length l0_8) (hc0_8 : l0_8.length ≤ c0_8) (hr0_10 : Kd.C (Kd.int .i64) w A0_10 l0_10.length l0_10) (hc0_10 : l0_10.length ≤ c0_10) (hr1_7 : Kd.C (Kd.int .i64) w A1_7 l1_7.length l1_7) (hc1_7 : l1_7.length ≤ c1_7) (hr1_8 : Kd.C k68 w A1_8 l1_8.length l1_8) (hc1_8 : l1_8.length ≤ c1_8) (hr1_10 : Kd.C (Kd.int .i64) w A1_10 l1_10.length l1_10) (hc1_10 : l1_10.length ≤ c1_10) (h : laws_eqWord.f k a0_0 a0_1 a0_2 a0_3 a0_4 a0_5 a0_6 l0_7 l0_8 a0_9 l0_10 a0_11 a0_12 a0_13 a0_14 a0_15 a0_16 a1_0 a1_1 a1_2 a1_3 a1_4 a1_5 a1_6 l1_7 l1_8 a1_9 l1_10 a1_11 a1_12 a1_13 a1_14 a1_15 a1_16 = some r) :
 Calls Try.prog 10 #[.agg #[.int .i64 a0_0, .int .i64 a0_1, .int .i64 a0_2, .int .i64 a0_3, .int .i64 a0_4, .int .i64 a0_5, .bool a0_6, .slice A0_7 l0_7.length c0_7, .slice A0_8 l0_8.length c0_8, .int .i64 a0_9, .slice A0_10 l0_10.length c0_10, .int .i64 a0_11, .int .i64 a0_12, .int .i64 a0_13, .string a0_14, .int .i64 a0_15, .int .i64 a0_16], .agg #[.int .i64 a1_0, .int .i64 a1_1, .int .i64 a1_2, .int .i64 a1_3, .int .i64 a1_4, .int .i64 a1_5, .bool a1_6, .slice A1_7 l1_7.length c1_7, .slice A1_8 l1_8.length c1_8, .int .i64 a1_9, .slice A1_10 l1_10.length c1_10, .int .i64 a1_11, .int .i64 a1_12, .int .i64 a1_13, .string a1_14, .int .i64 a1_15, .int .i64 a1_16]] w fun e w' => e = .returned (.bool r) ∧ Below w.heap.size w w' := by
 have hu33 := Try.underlying33
 have hu31 := Try.underlying31
 have HR0_7 := Aside0.mk hr0_7
 have HC0_7 := Aside0.mk hc0_7
 clear hr0_7 hc0_7
 have HR0_8 := Aside0.mk hr0_8
 have HC0_8 := Aside0.mk hc0_8
 clear hr0_8 hc0_8
 have HR0_10 := Aside0.mk hr0_10
 have HC0_10 := Aside0.mk hc0_10
 clear hr0_10 hc0_10
 have HR1_7 := Aside0.mk hr1_7
 have HC1_7 := Aside0.mk hc1_7
 clear hr1_7 hc1_7
 have HR1_8 := Aside0.mk hr1_8
 have HC1_8 := Aside0.mk hc1_8
 clear hr1_8 hc1_8
 have HR1_10 := Aside0.mk hr1_10
 have HC1_10 := Aside0.mk hc1_10
 clear hr1_10 hc1_10
 have HB := Aside0.mk (Below.refl w.heap.size w)
 have H : (if a0_0 = a1_0 then (if a0_1 = a1_1 then (if a0_2 = a1_2 then (if a0_3 = a1_3 then (if a0_4 = a1_4 then (if a0_5 = a1_5 then (if (a0_6 != a1_6) = true then (none) else ((laws_eqIntS.f k l0_7 l1_7).bind fun jh => (if jh = true then ((laws_eqPairS.f k l0_8 l1_8).bind fun jg => (if jg = true then (if a0_9 = a1_9 then ((laws_eqIntS.f k l0_10 l1_10).bind fun jf => (if jf = true then ((laws_eqCall.f a0_11 a0_12 a0_13 a0_14 a0_15 a0_16 a1_11 a1_12 a1_13 a1_14 a1_15 a1_16).bind fun je => (if je = true then (some true) else (none))) else (none))) else (none)) else (none))) else (none)))) else (none)) else (none)) else (none)) else (none)) else (none)) else (none)) = some r := h
 clear h
 by_cases c3 : a0_0 = a1_0
 ·rw [if_pos c3] at H
  have c3b0 : (a0_0 == a1_0) = true := beq_iff_eq.mpr c3
  have c3b1 : (a0_0 != a1_0) = false := bne_eq_false_iff_eq.mpr c3
  clear c3
  by_cases c4 : a0_1 = a1_1
  ·rw [if_pos c4] at H
   have c4b0 : (a0_1 == a1_1) = true := beq_iff_eq.mpr c4
   have c4b1 : (a0_1 != a1_1) = false := bne_eq_false_iff_eq.mpr c4
   clear c4
   by_cases c5 : a0_2 = a1_2
   ·rw [if_pos c5] at H
    have c5b0 : (a0_2 == a1_2) = true := beq_iff_eq.mpr c5
    have c5b1 : (a0_2 != a1_2) = false := bne_eq_false_iff_eq.mpr c5
    clear c5
    by_cases c6 : a0_3 = a1_3
    ·rw [if_pos c6] at H
     have c6b0 : (a0_3 == a1_3) = true := beq_iff_eq.mpr c6
     have c6b1 : (a0_3 != a1_3) = false := bne_eq_false_iff_eq.mpr c6
     clear c6
     by_cases c7 : a0_4 = a1_4
     ·rw [if_pos c7] at H
      have c7b0 : (a0_4 == a1_4) = true := beq_iff_eq.mpr c7
      have c7b1 : (a0_4 != a1_4) = false := bne_eq_false_iff_eq.mpr c7
      clear c7
      by_cases c8 : a0_5 = a1_5
      ·rw [if_pos c8] at H
       have c8b0 : (a0_5 == a1_5) = true := beq_iff_eq.mpr c8
       have c8b1 : (a0_5 != a1_5) = false := bne_eq_false_iff_eq.mpr c8
       clear c8
       by_cases c9 : (a0_6 != a1_6) = true
       ·rw [if_pos c9] at H
        have c9b0 : (a0_6 != a1_6) = true := c9
        (try (have c9b1 : decide (a0_6 = a1_6) = false := by simpa using c9))
        (try (have c9b2 : (a0_6 == a1_6) = false := by simpa using c9))
        (try (have c9b3 : ¬ (a0_6 = a1_6) := by simpa using c9))
        clear c9
        cases H
       ·rw [if_neg c9] at H
        have c9b0 : (a0_6 != a1_6) = false := by simpa using c9
        (try (have c9b1 : decide (a0_6 = a1_6) = true := by simpa using c9))
        (try (have c9b2 : (a0_6 == a1_6) = true := by simpa using c9))
        clear c9
        replace H := Option.bind_eq_some_iff.mp H
        obtain ⟨jh, A150, H⟩ := H
        replace H : (if jh = true then ((laws_eqPairS.f k l0_8 l1_8).bind fun jg => (if jg = true then (if a0_9 = a1_9 then ((laws_eqIntS.f k l0_10 l1_10).bind fun jf => (if jf = true then ((laws_eqCall.f a0_11 a0_12 a0_13 a0_14 a0_15 a0_16 a1_11 a1_12 a1_13 a1_14 a1_15 a1_16).bind fun je => (if je = true then (some true) else (none))) else (none))) else (none)) else (none))) else (none)) = some r := H
        have A15 := Aside0.mk A150
        clear A150
        by_cases c16 : jh = true
        ·subst c16
         have H1 : ((laws_eqPairS.f k l0_8 l1_8).bind fun jg => (if jg = true then (if a0_9 = a1_9 then ((laws_eqIntS.f k l0_10 l1_10).bind fun jf => (if jf = true then ((laws_eqCall.f a0_11 a0_12 a0_13 a0_14 a0_15 a0_16 a1_11 a1_12 a1_13 a1_14 a1_15 a1_16).bind fun je => (if je = true then (some true) else (none))) else (none))) else (none)) else (none))) = some r := by rw [if_pos rfl] at H; exact H
         clear H
         have H := H1
         clear H1
         replace H := Option.bind_eq_some_iff.mp H
         obtain ⟨jg, A170, H⟩ := H
         replace H : (if jg = true then (if a0_9 = a1_9 then ((laws_eqIntS.f k l0_10 l1_10).bind fun jf => (if jf = true then ((laws_eqCall.f a0_11 a0_12 a0_13 a0_14 a0_15 a0_16 a1_11 a1_12 a1_13 a1_14 a1_15 a1_16).bind fun je => (if je = true then (some true) else (none))) else (none))) else (none)) else (none)) = some r := H
         have A17 := Aside0.mk A170
         clear A170
         by_cases c18 : jg = true
         ·subst c18
          have H1 : (if a0_9 = a1_9 then ((laws_eqIntS.f k l0_10 l1_10).bind fun jf => (if jf = true then ((laws_eqCall.f a0_11 a0_12 a0_13 a0_14 a0_15 a0_16 a1_11 a1_12 a1_13 a1_14 a1_15 a1_16).bind fun je => (if je = true then (some true) else (none))) else (none))) else (none)) = some r := by rw [if_pos rfl] at H; exact H
          clear H
          have H := H1
          clear H1
          by_cases c19 : a0_9 = a1_9
          ·rw [if_pos c19] at H
           have c19b0 : (a0_9 == a1_9) = true := beq_iff_eq.mpr c19
           have c19b1 : (a0_9 != a1_9) = false := bne_eq_false_iff_eq.mpr c19
           clear c19
           replace H := Option.bind_eq_some_iff.mp H
           obtain ⟨jf, A200, H⟩ := H
           replace H : (if jf = true then ((laws_eqCall.f a0_11 a0_12 a0_13 a0_14 a0_15 a0_16 a1_11 a1_12 a1_13 a1_14 a1_15 a1_16).bind fun je => (if je = true then (some true) else (none))) else (none)) = some r := H
           have A20 := Aside0.mk A200
           clear A200
           by_cases c21 : jf = true
           ·subst c21
            have H1 : ((laws_eqCall.f a0_11 a0_12 a0_13 a0_14 a0_15 a0_16 a1_11 a1_12 a1_13 a1_14 a1_15 a1_16).bind fun je => (if je = true then (some true) else (none))) = some r := by rw [if_pos rfl] at H; exact H
            clear H
            have H := H1
            clear H1
            replace H := Option.bind_eq_some_iff.mp H
            obtain ⟨je, A220, H⟩ := H
            replace H : (if je = true then (some true) else (none)) = some r := H
            have A22 := Aside0.mk A220
            clear A220
            by_cases c23 : je = true
            ·subst c23
             have H1 : (some true) = some r := by rw [if_pos rfl] at H; exact H
             clear H
             have H := H1
             clear H1
             obtain rfl := Option.some.inj H
             go_enter Try.func10, Try.ntmps10
             go_wp2_with (first | ((with_reducible refine gate_dst (N := 2) rfl ?_); refine box_event ?hg (N := 2) ?hd (cs := #[.int .i64 a0_0, .int .i64 a0_1, .int .i64 a0_2, .int .i64 a0_3, .int .i64 a0_4, .int .i64 a0_5, .bool a0_6, .slice A0_7 l0_7.length c0_7, .slice A0_8 l0_8.length c0_8, .int .i64 a0_9, .slice A0_10 l0_10.length c0_10, .int .i64 a0_11, .int .i64 a0_12, .int .i64 a0_13, .string a0_14, .int .i64 a0_15, .int .i64 a0_16]) (t := 33) ?hr ?_; (case hd => rfl); (case hg => rfl); (case hr => first | (go_simp; done) | (go_simp; rfl)); intro jc hg w24 hbox hb; have n0_ := Aside0.mk (below_step (hb_ HB.out) hb); have n1_ := Aside0.mk (hbox); have n2_ := Aside0.mk ((by rw [hg]; exact (below_size (hb_ HB.out)) : w.heap.size ≤ jc)); have n3_ := Aside0.mk ((by rw [hg]; exact (below_size (hb_ HB.out)) : w.heap.size ≤ jc)); clear HB; have HB := n0_; have ja := n1_; have jn := n2_; have ji := n3_; clear n0_ n1_ n2_ n3_; clear hb hbox hg) | ((with_reducible refine gate_dst (N := 3) rfl ?_); refine box_event ?hg (N := 3) ?hd (cs := #[.int .i64 a1_0, .int .i64 a1_1, .int .i64 a1_2, .int .i64 a1_3, .int .i64 a1_4, .int .i64 a1_5, .bool a1_6, .slice A1_7 l1_7.length c1_7, .slice A1_8 l1_8.length c1_8, .int .i64 a1_9, .slice A1_10 l1_10.length c1_10, .int .i64 a1_11, .int .i64 a1_12, .int .i64 a1_13, .string a1_14, .int .i64 a1_15, .int .i64 a1_16]) (t := 33) ?hr ?_; (case hd => rfl); (case hg => rfl); (case hr => first | (go_simp; done) | (go_simp; rfl)); intro jd hg w25 hbox hb; have n0_ := Aside0.mk (blk_below (bk_ ja.out) hb); have n1_ := Aside0.mk (below_step (hb_ HB.out) hb); have n2_ := Aside0.mk (hbox); have n3_ := Aside0.mk ((by rw [hg]; exact (below_size (hb_ HB.out)) : w.heap.size ≤ jd)); have n4_ := Aside0.mk ((by rw [hg]; exact (below_size (hb_ HB.out)) : w.heap.size ≤ jd)); have n5_ := Aside0.mk ((by rw [hg]; exact Nat.ne_of_lt (blk_lt (g := jc) (o := .cells #[.int .i64 a0_0, .int .i64 a0_1, .int .i64 a0_2, .int .i64 a0_3, .int .i64 a0_4, .int .i64 a0_5, .bool a0_6, .slice A0_7 l0_7.length c0_7, .slice A0_8 l0_8.length c0_8, .int .i64 a0_9, .slice A0_10 l0_10.length c0_10, .int .i64 a0_11, .int .i64 a0_12, .int .i64 a0_13, .string a0_14, .int .i64 a0_15, .int .i64 a0_16] 33 (0, 0)) (bk_ ja.out)) : jc ≠ jd)); have n6_ := Aside0.mk ((by rw [hg]; exact Nat.ne_of_gt (blk_lt (g := jc) (o := .cells #[.int .i64 a0_0, .int .i64 a0_1, .int .i64 a0_2, .int .i64 a0_3, .int .i64 a0_4, .int .i64 a0_5, .bool a0_6, .slice A0_7 l0_7.length c0_7, .slice A0_8 l0_8.length c0_8, .int .i64 a0_9, .slice A0_10 l0_10.length c0_10, .int .i64 a0_11, .int .i64 a0_12, .int .i64 a0_13, .string a0_14, .int .i64 a0_15, .int .i64 a0_16] 33 (0, 0)) (bk_ ja.out)) : jd ≠ jc)); clear ja; clear HB; have ja := n0_; have HB := n1_; have jb := n2_; have jm := n3_; have jj := n4_; have jl := n5_; have jk := n6_; clear n0_ n1_ n2_ n3_ n4_ n5_ n6_; clear hb hbox hg; have hnb26 := jl.out; have hnc26 := jk.out; have hcz27_0 : w25.cell? ⟨jc, 0, none⟩ = some (.int .i64 a0_0) := (blk_cell ja.out 0).trans rfl; have hcz27_1 : w25.cell? ⟨jc, 1, none⟩ = some (.int .i64 a0_1) := (blk_cell ja.out 1).trans rfl; have hcz27_2 : w25.cell? ⟨jc, 2, none⟩ = some (.int .i64 a0_2) := (blk_cell ja.out 2).trans rfl; have hcz27_3 : w25.cell? ⟨jc, 3, none⟩ = some (.int .i64 a0_3) := (blk_cell ja.out 3).trans rfl; have hcz27_4 : w25.cell? ⟨jc, 4, none⟩ = some (.int .i64 a0_4) := (blk_cell ja.out 4).trans rfl; have hcz27_5 : w25.cell? ⟨jc, 5, none⟩ = some (.int .i64 a0_5) := (blk_cell ja.out 5).trans rfl; have hcz27_6 : w25.cell? ⟨jc, 6, none⟩ = some (.bool a0_6) := (blk_cell ja.out 6).trans rfl; have hcz27_7 : w25.cell? ⟨jc, 7, none⟩ = some (.slice A0_7 l0_7.length c0_7) := (blk_cell ja.out 7).trans rfl; have hcz27_8 : w25.cell? ⟨jc, 8, none⟩ = some (.slice A0_8 l0_8.length c0_8) := (blk_cell ja.out 8).trans rfl; have hcz27_9 : w25.cell? ⟨jc, 9, none⟩ = some (.int .i64 a0_9) := (blk_cell ja.out 9).trans rfl; have hcz27_10 : w25.cell? ⟨jc, 10, none⟩ = some (.slice A0_10 l0_10.length c0_10) := (blk_cell ja.out 10).trans rfl; have hcz27_11 : w25.cell? ⟨jc, 11, none⟩ = some (.int .i64 a0_11) := (blk_cell ja.out 11).trans rfl; have hcz27_12 : w25.cell? ⟨jc, 12, none⟩ = some (.int .i64 a0_12) := (blk_cell ja.out 12).trans rfl; have hcz27_13 : w25.cell? ⟨jc, 13, none⟩ = some (.int .i64 a0_13) := (blk_cell ja.out 13).trans rfl; have hcz27_14 : w25.cell? ⟨jc, 14, none⟩ = some (.string a0_14) := (blk_cell ja.out 14).trans rfl; have hcz27_15 : w25.cell? ⟨jc, 15, none⟩ = some (.int .i64 a0_15) := (blk_cell ja.out 15).trans rfl; have hcz27_16 : w25.cell? ⟨jc, 16, none⟩ = some (.int .i64 a0_16) := (blk_cell ja.out 16).trans rfl; have hfz27_0 := blk_frozen ja.out 0; have hfz27_1 := blk_frozen ja.out 1; have hfz27_2 := blk_frozen ja.out 2; have hfz27_3 := blk_frozen ja.out 3; have hfz27_4 := blk_frozen ja.out 4; have hfz27_5 := blk_frozen ja.out 5; have hfz27_6 := blk_frozen ja.out 6; have hfz27_7 := blk_frozen ja.out 7; have hfz27_8 := blk_frozen ja.out 8; have hfz27_9 := blk_frozen ja.out 9; have hfz27_10 := blk_frozen ja.out 10; have hfz27_11 := blk_frozen ja.out 11; have hfz27_12 := blk_frozen ja.out 12; have hfz27_13 := blk_frozen ja.out 13; have hfz27_14 := blk_frozen ja.out 14; have hfz27_15 := blk_frozen ja.out 15; have hfz27_16 := blk_frozen ja.out 16; have hcz28_0 : w25.cell? ⟨jd, 0, none⟩ = some (.int .i64 a1_0) := (blk_cell jb.out 0).trans rfl; have hcz28_1 : w25.cell? ⟨jd, 1, none⟩ = some (.int .i64 a1_1) := (blk_cell jb.out 1).trans rfl; have hcz28_2 : w25.cell? ⟨jd, 2, none⟩ = some (.int .i64 a1_2) := (blk_cell jb.out 2).trans rfl; have hcz28_3 : w25.cell? ⟨jd, 3, none⟩ = some (.int .i64 a1_3) := (blk_cell jb.out 3).trans rfl; have hcz28_4 : w25.cell? ⟨jd, 4, none⟩ = some (.int .i64 a1_4) := (blk_cell jb.out 4).trans rfl; have hcz28_5 : w25.cell? ⟨jd, 5, none⟩ = some (.int .i64 a1_5) := (blk_cell jb.out 5).trans rfl; have hcz28_6 : w25.cell? ⟨jd, 6, none⟩ = some (.bool a1_6) := (blk_cell jb.out 6).trans rfl; have hcz28_7 : w25.cell? ⟨jd, 7, none⟩ = some (.slice A1_7 l1_7.length c1_7) := (blk_cell jb.out 7).trans rfl; have hcz28_8 : w25.cell? ⟨jd, 8, none⟩ = some (.slice A1_8 l1_8.length c1_8) := (blk_cell jb.out 8).trans rfl; have hcz28_9 : w25.cell? ⟨jd, 9, none⟩ = some (.int .i64 a1_9) := (blk_cell jb.out 9).trans rfl; have hcz28_10 : w25.cell? ⟨jd, 10, none⟩ = some (.slice A1_10 l1_10.length c1_10) := (blk_cell jb.out 10).trans rfl; have hcz28_11 : w25.cell? ⟨jd, 11, none⟩ = some (.int .i64 a1_11) := (blk_cell jb.out 11).trans rfl; have hcz28_12 : w25.cell? ⟨jd, 12, none⟩ = some (.int .i64 a1_12) := (blk_cell jb.out 12).trans rfl; have hcz28_13 : w25.cell? ⟨jd, 13, none⟩ = some (.int .i64 a1_13) := (blk_cell jb.out 13).trans rfl; have hcz28_14 : w25.cell? ⟨jd, 14, none⟩ = some (.string a1_14) := (blk_cell jb.out 14).trans rfl; have hcz28_15 : w25.cell? ⟨jd, 15, none⟩ = some (.int .i64 a1_15) := (blk_cell jb.out 15).trans rfl; have hcz28_16 : w25.cell? ⟨jd, 16, none⟩ = some (.int .i64 a1_16) := (blk_cell jb.out 16).trans rfl; have hfz28_0 := blk_frozen jb.out 0; have hfz28_1 := blk_frozen jb.out 1; have hfz28_2 := blk_frozen jb.out 2; have hfz28_3 := blk_frozen jb.out 3; have hfz28_4 := blk_frozen jb.out 4; have hfz28_5 := blk_frozen jb.out 5; have hfz28_6 := blk_frozen jb.out 6; have hfz28_7 := blk_frozen jb.out 7; have hfz28_8 := blk_frozen jb.out 8; have hfz28_9 := blk_frozen jb.out 9; have hfz28_10 := blk_frozen jb.out 10; have hfz28_11 := blk_frozen jb.out 11; have hfz28_12 := blk_frozen jb.out 12; have hfz28_13 := blk_frozen jb.out 13; have hfz28_14 := blk_frozen jb.out 14; have hfz28_15 := blk_frozen jb.out 15; have hfz28_16 := blk_frozen jb.out 16) | ((with_reducible refine gate_callee (f := 37) rfl ?_); refine goesL_ (some 44) rfl rfl Try.func37 (by kernel_rfl) rfl #[.slice A0_7 l0_7.length c0_7, .slice A1_7 l1_7.length c1_7] rfl (by (try simp only [List.map_toArray, List.map_cons, List.map_nil]); first | done | rfl | (simp only [List.length_drop, List.length_take]; rfl)) ?_; (with_reducible refine (laws_eqIntS.calls k _ _ l0_7 _ _ l1_7 true _ ?side1 ?side2 ?side3 ?side4 A15.out).mono ?_); (case side1 => repeat (first | exact (Kd.C_below HR0_7.out HB.out) | (with_reducible refine Kd.C_alloc ?_ _) | (with_reducible refine Kd.C_drewN ?_ _) | (with_reducible refine Kd.C_drew ?_))); (case side2 => exact HC0_7.out); (case side3 => repeat (first | exact (Kd.C_below HR1_7.out HB.out) | (with_reducible refine Kd.C_alloc ?_ _) | (with_reducible refine Kd.C_drewN ?_ _) | (with_reducible refine Kd.C_drew ?_))); (case side4 => exact HC1_7.out); rintro e w' ⟨rfl, ⟨nd, rfl⟩⟩; refine ⟨_, rfl, ?_⟩) | ((with_reducible refine gate_callee (f := 38) rfl ?_); refine goesL_ (some 50) rfl rfl Try.func38 (by kernel_rfl) rfl #[.slice A0_8 l0_8.length c0_8, .slice A1_8 l1_8.length c1_8] rfl (by (try simp only [List.map_toArray, List.map_cons, List.map_nil]); first | done | rfl | (simp only [List.length_drop, List.length_take]; rfl)) ?_; (with_reducible refine (laws_eqPairS.calls k _ _ l0_8 _ _ l1_8 true _ ?side1 ?side2 ?side3 ?side4 A17.out).mono ?_); (case side1 => repeat (first | exact (Kd.C_below HR0_8.out (hb_ HB.out)) | (with_reducible refine Kd.C_alloc ?_ _) | (with_reducible refine Kd.C_drewN ?_ _) | (with_reducible refine Kd.C_drew ?_))); (case side2 => exact HC0_8.out); (case side3 => repeat (first | exact (Kd.C_below HR1_8.out (hb_ HB.out)) | (with_reducible refine Kd.C_alloc ?_ _) | (with_reducible refine Kd.C_drewN ?_ _) | (with_reducible refine Kd.C_drew ?_))); (case side4 => exact HC1_8.out); rintro e w29 ⟨rfl, hb⟩; refine ⟨_, rfl, ?_⟩; have n0_ := Aside0.mk (blk_below (bk_ ja.out) hb); have n1_ := Aside0.mk (blk_below (bk_ jb.out) hb); have n2_ := Aside0.mk (below_step (hb_ HB.out) hb); clear ja; clear jb; clear HB; have ja := n0_; have jb := n1_; have HB := n2_; clear n0_ n1_ n2_; (try clear hb); (try clear hb2); (try clear hk); (try clear hi); have hcz30_0 : w29.cell? ⟨jc, 0, none⟩ = some (.int .i64 a0_0) := (blk_cell ja.out 0).trans rfl; have hcz30_1 : w29.cell? ⟨jc, 1, none⟩ = some (.int .i64 a0_1) := (blk_cell ja.out 1).trans rfl; have hcz30_2 : w29.cell? ⟨jc, 2, none⟩ = some (.int .i64 a0_2) := (blk_cell ja.out 2).trans rfl; have hcz30_3 : w29.cell? ⟨jc, 3, none⟩ = some (.int .i64 a0_3) := (blk_cell ja.out 3).trans rfl; have hcz30_4 : w29.cell? ⟨jc, 4, none⟩ = some (.int .i64 a0_4) := (blk_cell ja.out 4).trans rfl; have hcz30_5 : w29.cell? ⟨jc, 5, none⟩ = some (.int .i64 a0_5) := (blk_cell ja.out 5).trans rfl; have hcz30_6 : w29.cell? ⟨jc, 6, none⟩ = some (.bool a0_6) := (blk_cell ja.out 6).trans rfl; have hcz30_7 : w29.cell? ⟨jc, 7, none⟩ = some (.slice A0_7 l0_7.length c0_7) := (blk_cell ja.out 7).trans rfl; have hcz30_8 : w29.cell? ⟨jc, 8, none⟩ = some (.slice A0_8 l0_8.length c0_8) := (blk_cell ja.out 8).trans rfl; have hcz30_9 : w29.cell? ⟨jc, 9, none⟩ = some (.int .i64 a0_9) := (blk_cell ja.out 9).trans rfl; have hcz30_10 : w29.cell? ⟨jc, 10, none⟩ = some (.slice A0_10 l0_10.length c0_10) := (blk_cell ja.out 10).trans rfl; have hcz30_11 : w29.cell? ⟨jc, 11, none⟩ = some (.int .i64 a0_11) := (blk_cell ja.out 11).trans rfl; have hcz30_12 : w29.cell? ⟨jc, 12, none⟩ = some (.int .i64 a0_12) := (blk_cell ja.out 12).trans rfl; have hcz30_13 : w29.cell? ⟨jc, 13, none⟩ = some (.int .i64 a0_13) := (blk_cell ja.out 13).trans rfl; have hcz30_14 : w29.cell? ⟨jc, 14, none⟩ = some (.string a0_14) := (blk_cell ja.out 14).trans rfl; have hcz30_15 : w29.cell? ⟨jc, 15, none⟩ = some (.int .i64 a0_15) := (blk_cell ja.out 15).trans rfl; have hcz30_16 : w29.cell? ⟨jc, 16, none⟩ = some (.int .i64 a0_16) := (blk_cell ja.out 16).trans rfl; have hfz30_0 := blk_frozen ja.out 0; have hfz30_1 := blk_frozen ja.out 1; have hfz30_2 := blk_frozen ja.out 2; have hfz30_3 := blk_frozen ja.out 3; have hfz30_4 := blk_frozen ja.out 4; have hfz30_5 := blk_frozen ja.out 5; have hfz30_6 := blk_frozen ja.out 6; have hfz30_7 := blk_frozen ja.out 7; have hfz30_8 := blk_frozen ja.out 8; have hfz30_9 := blk_frozen ja.out 9; have hfz30_10 := blk_frozen ja.out 10; have hfz30_11 := blk_frozen ja.out 11; have hfz30_12 := blk_frozen ja.out 12; have hfz30_13 := blk_frozen ja.out 13; have hfz30_14 := blk_frozen ja.out 14; have hfz30_15 := blk_frozen ja.out 15; have hfz30_16 := blk_frozen ja.out 16; have hcz31_0 : w29.cell? ⟨jd, 0, none⟩ = some (.int .i64 a1_0) := (blk_cell jb.out 0).trans rfl; have hcz31_1 : w29.cell? ⟨jd, 1, none⟩ = some (.int .i64 a1_1) := (blk_cell jb.out 1).trans rfl; have hcz31_2 : w29.cell? ⟨jd, 2, none⟩ = some (.int .i64 a1_2) := (blk_cell jb.out 2).trans rfl; have hcz31_3 : w29.cell? ⟨jd, 3, none⟩ = some (.int .i64 a1_3) := (blk_cell jb.out 3).trans rfl; have hcz31_4 : w29.cell? ⟨jd, 4, none⟩ = some (.int .i64 a1_4) := (blk_cell jb.out 4).trans rfl; have hcz31_5 : w29.cell? ⟨jd, 5, none⟩ = some (.int .i64 a1_5) := (blk_cell jb.out 5).trans rfl; have hcz31_6 : w29.cell? ⟨jd, 6, none⟩ = some (.bool a1_6) := (blk_cell jb.out 6).trans rfl; have hcz31_7 : w29.cell? ⟨jd, 7, none⟩ = some (.slice A1_7 l1_7.length c1_7) := (blk_cell jb.out 7).trans rfl; have hcz31_8 : w29.cell? ⟨jd, 8, none⟩ = some (.slice A1_8 l1_8.length c1_8) := (blk_cell jb.out 8).trans rfl; have hcz31_9 : w29.cell? ⟨jd, 9, none⟩ = some (.int .i64 a1_9) := (blk_cell jb.out 9).trans rfl; have hcz31_10 : w29.cell? ⟨jd, 10, none⟩ = some (.slice A1_10 l1_10.length c1_10) := (blk_cell jb.out 10).trans rfl; have hcz31_11 : w29.cell? ⟨jd, 11, none⟩ = some (.int .i64 a1_11) := (blk_cell jb.out 11).trans rfl; have hcz31_12 : w29.cell? ⟨jd, 12, none⟩ = some (.int .i64 a1_12) := (blk_cell jb.out 12).trans rfl; have hcz31_13 : w29.cell? ⟨jd, 13, none⟩ = some (.int .i64 a1_13) := (blk_cell jb.out 13).trans rfl; have hcz31_14 : w29.cell? ⟨jd, 14, none⟩ = some (.string a1_14) := (blk_cell jb.out 14).trans rfl; have hcz31_15 : w29.cell? ⟨jd, 15, none⟩ = some (.int .i64 a1_15) := (blk_cell jb.out 15).trans rfl; have hcz31_16 : w29.cell? ⟨jd, 16, none⟩ = some (.int .i64 a1_16) := (blk_cell jb.out 16).trans rfl; have hfz31_0 := blk_frozen jb.out 0; have hfz31_1 := blk_frozen jb.out 1; have hfz31_2 := blk_frozen jb.out 2; have hfz31_3 := blk_frozen jb.out 3; have hfz31_4 := blk_frozen jb.out 4; have hfz31_5 := blk_frozen jb.out 5; have hfz31_6 := blk_frozen jb.out 6; have hfz31_7 := blk_frozen jb.out 7; have hfz31_8 := blk_frozen jb.out 8; have hfz31_9 := blk_frozen jb.out 9; have hfz31_10 := blk_frozen jb.out 10; have hfz31_11 := blk_frozen jb.out 11; have hfz31_12 := blk_frozen jb.out 12; have hfz31_13 := blk_frozen jb.out 13; have hfz31_14 := blk_frozen jb.out 14; have hfz31_15 := blk_frozen jb.out 15; have hfz31_16 := blk_frozen jb.out 16) | ((with_reducible refine gate_callee (f := 37) rfl ?_); refine goesL_ (some 61) rfl rfl Try.func37 (by kernel_rfl) rfl #[.slice A0_10 l0_10.length c0_10, .slice A1_10 l1_10.length c1_10] rfl (by (try simp only [List.map_toArray, List.map_cons, List.map_nil]); first | done | rfl | (simp only [List.length_drop, List.length_take]; rfl)) ?_; (with_reducible refine (laws_eqIntS.calls k _ _ l0_10 _ _ l1_10 true _ ?side1 ?side2 ?side3 ?side4 A20.out).mono ?_); (case side1 => repeat (first | exact (Kd.C_below HR0_10.out HB.out) | (with_reducible refine Kd.C_alloc ?_ _) | (with_reducible refine Kd.C_drewN ?_ _) | (with_reducible refine Kd.C_drew ?_))); (case side2 => exact HC0_10.out); (case side3 => repeat (first | exact (Kd.C_below HR1_10.out HB.out) | (with_reducible refine Kd.C_alloc ?_ _) | (with_reducible refine Kd.C_drewN ?_ _) | (with_reducible refine Kd.C_drew ?_))); (case side4 => exact HC1_10.out); rintro e w' ⟨rfl, ⟨nd, rfl⟩⟩; refine ⟨_, rfl, ?_⟩) | ((with_reducible refine gate_callee (f := 39) rfl ?_); refine goesL_ (some 67) rfl rfl Try.func39 (by kernel_rfl) rfl #[.agg #[.int .i64 a0_11, .int .i64 a0_12, .int .i64 a0_13, .string a0_14, .int .i64 a0_15, .int .i64 a0_16], .agg #[.int .i64 a1_11, .int .i64 a1_12, .int .i64 a1_13, .string a1_14, .int .i64 a1_15, .int .i64 a1_16]] rfl (by (try simp only [List.map_toArray, List.map_cons, List.map_nil]); first | done | rfl | (simp only [List.length_drop, List.length_take]; rfl)) ?_; (with_reducible refine (laws_eqCall.calls a0_11 a0_12 a0_13 a0_14 a0_15 a0_16 a1_11 a1_12 a1_13 a1_14 a1_15 a1_16 true _ A22.out).mono ?_); rintro e w32 ⟨rfl, hb⟩; refine ⟨_, rfl, ?_⟩; have n0_ := Aside0.mk (blk_below (bk_ ja.out) hb); have n1_ := Aside0.mk (blk_below (bk_ jb.out) hb); have n2_ := Aside0.mk (below_step (hb_ HB.out) hb); clear ja; clear jb; clear HB; have ja := n0_; have jb := n1_; have HB := n2_; clear n0_ n1_ n2_; (try clear hb); (try clear hb2); (try clear hk); (try clear hi)))
             go_ret
             exact ⟨by first | rfl | (simp [errW_none, errW_some] <;> rfl) | (simp [*, errW_none, errW_some] <;> rfl), by repeat (first | (with_reducible first | exact HB.out | apply below_alloc | apply pw_below_drewN | apply below_drew1 | refine below_set ?_ ji.out | refine below_set ?_ jj.out) | exact HB.out)⟩
            ·replace c23 := Bool.eq_false_iff.mpr c23
             subst c23
             have H1 : (none) = some r := by rw [if_neg (show ¬ (false = true) by decide)] at H; exact H
             clear H
             have H := H1
             clear H1
             cases H
           ·replace c21 := Bool.eq_false_iff.mpr c21
            subst c21
            have H1 : (none) = some r := by rw [if_neg (show ¬ (false = true) by decide)] at H; exact H
            clear H
            have H := H1
            clear H1
            cases H
          ·rw [if_neg c19] at H
           have c19b0 : (a0_9 == a1_9) = false := beq_eq_false_iff_ne.mpr c19
           have c19b1 : (a0_9 != a1_9) = true := bne_iff_ne.mpr c19
           cases H
         ·replace c18 := Bool.eq_false_iff.mpr c18
          subst c18
          have H1 : (none) = some r := by rw [if_neg (show ¬ (false = true) by decide)] at H; exact H
          clear H
          have H := H1
          clear H1
          cases H
        ·replace c16 := Bool.eq_false_iff.mpr c16
         subst c16
         have H1 : (none) = some r := by rw [if_neg (show ¬ (false = true) by decide)] at H; exact H
         clear H
         have H := H1
         clear H1
         cases H
      ·rw [if_neg c8] at H
       have c8b0 : (a0_5 == a1_5) = false := beq_eq_false_iff_ne.mpr c8
       have c8b1 : (a0_5 != a1_5) = true := bne_iff_ne.mpr c8
       cases H
     ·rw [if_neg c7] at H
      have c7b0 : (a0_4 == a1_4) = false := beq_eq_false_iff_ne.mpr c7
      have c7b1 : (a0_4 != a1_4) = true := bne_iff_ne.mpr c7
      cases H
    ·rw [if_neg c6] at H
     have c6b0 : (a0_3 == a1_3) = false := beq_eq_false_iff_ne.mpr c6
     have c6b1 : (a0_3 != a1_3) = true := bne_iff_ne.mpr c6
     cases H
   ·rw [if_neg c5] at H
    have c5b0 : (a0_2 == a1_2) = false := beq_eq_false_iff_ne.mpr c5
    have c5b1 : (a0_2 != a1_2) = true := bne_iff_ne.mpr c5
    cases H
  ·rw [if_neg c4] at H
   have c4b0 : (a0_1 == a1_1) = false := beq_eq_false_iff_ne.mpr c4
   have c4b1 : (a0_1 != a1_1) = true := bne_iff_ne.mpr c4
   cases H
 ·rw [if_neg c3] at H
  have c3b0 : (a0_0 == a1_0) = false := beq_eq_false_iff_ne.mpr c3
  have c3b1 : (a0_0 != a1_0) = true := bne_iff_ne.mpr c3
  cases H

end Go.Proofs.Ytbjdnfgalopfiaa.PE
