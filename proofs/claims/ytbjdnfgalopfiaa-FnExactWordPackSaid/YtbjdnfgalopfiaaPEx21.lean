import Derived.Test.YtbjdnfgalopfiaaPEx0
import Derived.Test.YtbjdnfgalopfiaaPEx16
namespace Go.Proofs.Ytbjdnfgalopfiaa.PE
open Go.RowKit Go.Proofs.YtbjdnfgalopfiaaW.PrintWords Go.Proofs.YtbjdnfgalopfiaaW.PrintLast Go.Proofs.YtbjdnfgalopfiaaW.PrintMore
attribute [local go_sem] max2_int min2_int max_two min_two max_three min_three max_four min_four
set_option linter.unusedVariables false
set_option linter.unusedSimpArgs false

def spec_l12Call.f (a0_0 : Int) (a0_1 : Int) (a0_2 : Int) (a0_3 : ByteArray) (a0_4 : Int) (a0_5 : Int) : Option (Bool) := (spec_l6In.f a0_0 0 9999).bind fun t270002 => (if t270002 = true then ((spec_l6In.f a0_1 0 9999).bind fun t270003 => (if t270003 = true then ((spec_l6In.f a0_2 0 9999).bind fun t270004 => (if t270004 = true then ((spec_l6In.f a0_4 0 9999).bind fun t270005 => (if t270005 = true then ((spec_l6In.f a0_5 0 9999).bind fun t270006 => (if t270006 = true then (some (decide ((a0_3.size : Int) ≤ 80))) else (some false))) else (some false))) else (some false))) else (some false))) else (some false))
set_option maxHeartbeats 8000000 in
set_option maxRecDepth 100000 in
theorem spec_l12Call.calls (a0_0 : Int) (a0_1 : Int) (a0_2 : Int) (a0_3 : ByteArray) (a0_4 : Int) (a0_5 : Int) (r : Bool) (w : World) (h : spec_l12Call.f a0_0 a0_1 a0_2 a0_3 a0_4 a0_5 = some r) :
 Calls Try.prog 26 #[.agg #[.int .i64 a0_0, .int .i64 a0_1, .int .i64 a0_2, .string a0_3, .int .i64 a0_4, .int .i64 a0_5]] w fun e w' => e = .returned (.bool r) ∧ Below w.heap.size w w' := by
 have hu31 := Try.underlying31
 have HB := Aside0.mk (Below.refl w.heap.size w)
 have H : ((spec_l6In.f a0_0 0 9999).bind fun jh => (if jh = true then ((spec_l6In.f a0_1 0 9999).bind fun je => (if je = true then ((spec_l6In.f a0_2 0 9999).bind fun jc => (if jc = true then ((spec_l6In.f a0_4 0 9999).bind fun jb => (if jb = true then ((spec_l6In.f a0_5 0 9999).bind fun ja => (if ja = true then (some (decide ((a0_3.size : Int) ≤ 80))) else (some false))) else (some false))) else (some false))) else (some false))) else (some false))) = some r := h
 clear h
 replace H := Option.bind_eq_some_iff.mp H
 obtain ⟨jh, A20, H⟩ := H
 replace H : (if jh = true then ((spec_l6In.f a0_1 0 9999).bind fun je => (if je = true then ((spec_l6In.f a0_2 0 9999).bind fun jc => (if jc = true then ((spec_l6In.f a0_4 0 9999).bind fun jb => (if jb = true then ((spec_l6In.f a0_5 0 9999).bind fun ja => (if ja = true then (some (decide ((a0_3.size : Int) ≤ 80))) else (some false))) else (some false))) else (some false))) else (some false))) else (some false)) = some r := H
 have A2 := Aside0.mk A20
 clear A20
 go_enter Try.func26, Try.ntmps26
 go_wp2_with (first | ((with_reducible refine gate_dst (N := 1) rfl ?_); (try (refine gate_guard (by rfl) ?_; dsimp only)); refine box_event ?hg (N := 1) ?hd (cs := #[.int .i64 a0_0, .int .i64 a0_1, .int .i64 a0_2, .string a0_3, .int .i64 a0_4, .int .i64 a0_5]) (t := 31) ?hr ?_; (case hd => rfl); (case hg => rfl); (case hr => first | (go_simp; done) | (go_simp; rfl)); intro jf hg w12 hbox hb; have n0_ := Aside0.mk (below_step (hb_ HB.out) hb); have n1_ := Aside0.mk (hbox); have n2_ := Aside0.mk ((by rw [hg]; exact (below_size (hb_ HB.out)) : w.heap.size ≤ jf)); have n3_ := Aside0.mk ((by rw [hg]; exact (below_size (hb_ HB.out)) : w.heap.size ≤ jf)); clear HB; have HB := n0_; have jd := n1_; have ji := n2_; have jg := n3_; clear n0_ n1_ n2_ n3_; clear hb hbox hg; have hcz13_0 : w12.cell? ⟨jf, 0, none⟩ = some (.int .i64 a0_0) := (blk_cell jd.out 0).trans rfl; have hcz13_1 : w12.cell? ⟨jf, 1, none⟩ = some (.int .i64 a0_1) := (blk_cell jd.out 1).trans rfl; have hcz13_2 : w12.cell? ⟨jf, 2, none⟩ = some (.int .i64 a0_2) := (blk_cell jd.out 2).trans rfl; have hcz13_3 : w12.cell? ⟨jf, 3, none⟩ = some (.string a0_3) := (blk_cell jd.out 3).trans rfl; have hcz13_4 : w12.cell? ⟨jf, 4, none⟩ = some (.int .i64 a0_4) := (blk_cell jd.out 4).trans rfl; have hcz13_5 : w12.cell? ⟨jf, 5, none⟩ = some (.int .i64 a0_5) := (blk_cell jd.out 5).trans rfl; have hfz13_0 := blk_frozen jd.out 0; have hfz13_1 := blk_frozen jd.out 1; have hfz13_2 := blk_frozen jd.out 2; have hfz13_3 := blk_frozen jd.out 3; have hfz13_4 := blk_frozen jd.out 4; have hfz13_5 := blk_frozen jd.out 5))
 (with_reducible refine (spec_l6In.calls a0_0 0 9999 jh _ A2.out).mono ?_)
 rintro e w' ⟨rfl, ⟨nd, rfl⟩⟩
 by_cases c3 : jh = true
 ·subst c3
  have H1 : ((spec_l6In.f a0_1 0 9999).bind fun je => (if je = true then ((spec_l6In.f a0_2 0 9999).bind fun jc => (if jc = true then ((spec_l6In.f a0_4 0 9999).bind fun jb => (if jb = true then ((spec_l6In.f a0_5 0 9999).bind fun ja => (if ja = true then (some (decide ((a0_3.size : Int) ≤ 80))) else (some false))) else (some false))) else (some false))) else (some false))) = some r := by rw [if_pos rfl] at H; exact H
  clear H
  have H := H1
  clear H1
  replace H := Option.bind_eq_some_iff.mp H
  obtain ⟨je, A40, H⟩ := H
  replace H : (if je = true then ((spec_l6In.f a0_2 0 9999).bind fun jc => (if jc = true then ((spec_l6In.f a0_4 0 9999).bind fun jb => (if jb = true then ((spec_l6In.f a0_5 0 9999).bind fun ja => (if ja = true then (some (decide ((a0_3.size : Int) ≤ 80))) else (some false))) else (some false))) else (some false))) else (some false)) = some r := H
  have A4 := Aside0.mk A40
  clear A40
  go_wp2_with (fail)
  (with_reducible refine (spec_l6In.calls a0_1 0 9999 je _ A4.out).mono ?_)
  rintro e w' ⟨rfl, ⟨nd, rfl⟩⟩
  by_cases c5 : je = true
  ·subst c5
   have H1 : ((spec_l6In.f a0_2 0 9999).bind fun jc => (if jc = true then ((spec_l6In.f a0_4 0 9999).bind fun jb => (if jb = true then ((spec_l6In.f a0_5 0 9999).bind fun ja => (if ja = true then (some (decide ((a0_3.size : Int) ≤ 80))) else (some false))) else (some false))) else (some false))) = some r := by rw [if_pos rfl] at H; exact H
   clear H
   have H := H1
   clear H1
   replace H := Option.bind_eq_some_iff.mp H
   obtain ⟨jc, A60, H⟩ := H
   replace H : (if jc = true then ((spec_l6In.f a0_4 0 9999).bind fun jb => (if jb = true then ((spec_l6In.f a0_5 0 9999).bind fun ja => (if ja = true then (some (decide ((a0_3.size : Int) ≤ 80))) else (some false))) else (some false))) else (some false)) = some r := H
   have A6 := Aside0.mk A60
   clear A60
   go_wp2_with (fail)
   (with_reducible refine (spec_l6In.calls a0_2 0 9999 jc _ A6.out).mono ?_)
   rintro e w' ⟨rfl, ⟨nd, rfl⟩⟩
   by_cases c7 : jc = true
   ·subst c7
    have H1 : ((spec_l6In.f a0_4 0 9999).bind fun jb => (if jb = true then ((spec_l6In.f a0_5 0 9999).bind fun ja => (if ja = true then (some (decide ((a0_3.size : Int) ≤ 80))) else (some false))) else (some false))) = some r := by rw [if_pos rfl] at H; exact H
    clear H
    have H := H1
    clear H1
    replace H := Option.bind_eq_some_iff.mp H
    obtain ⟨jb, A80, H⟩ := H
    replace H : (if jb = true then ((spec_l6In.f a0_5 0 9999).bind fun ja => (if ja = true then (some (decide ((a0_3.size : Int) ≤ 80))) else (some false))) else (some false)) = some r := H
    have A8 := Aside0.mk A80
    clear A80
    go_wp2_with (fail)
    (with_reducible refine (spec_l6In.calls a0_4 0 9999 jb _ A8.out).mono ?_)
    rintro e w' ⟨rfl, ⟨nd, rfl⟩⟩
    by_cases c9 : jb = true
    ·subst c9
     have H1 : ((spec_l6In.f a0_5 0 9999).bind fun ja => (if ja = true then (some (decide ((a0_3.size : Int) ≤ 80))) else (some false))) = some r := by rw [if_pos rfl] at H; exact H
     clear H
     have H := H1
     clear H1
     replace H := Option.bind_eq_some_iff.mp H
     obtain ⟨ja, A100, H⟩ := H
     replace H : (if ja = true then (some (decide ((a0_3.size : Int) ≤ 80))) else (some false)) = some r := H
     have A10 := Aside0.mk A100
     clear A100
     go_wp2_with (fail)
     (with_reducible refine (spec_l6In.calls a0_5 0 9999 ja _ A10.out).mono ?_)
     rintro e w' ⟨rfl, ⟨nd, rfl⟩⟩
     by_cases c11 : ja = true
     ·subst c11
      have H1 : (some (decide ((a0_3.size : Int) ≤ 80))) = some r := by rw [if_pos rfl] at H; exact H
      clear H
      have H := H1
      clear H1
      obtain rfl := Option.some.inj H
      go_wp2_with (fail)
      go_ret
      exact ⟨by first | rfl | (simp [errW_none, errW_some] <;> rfl) | (simp [*, errW_none, errW_some] <;> rfl), by repeat (first | (with_reducible first | exact HB.out | apply below_alloc | apply pw_below_drewN | apply below_drew1 | refine below_set ?_ jg.out) | exact HB.out)⟩
     ·replace c11 := Bool.eq_false_iff.mpr c11
      subst c11
      have H1 : (some false) = some r := by rw [if_neg (show ¬ (false = true) by decide)] at H; exact H
      clear H
      have H := H1
      clear H1
      obtain rfl := Option.some.inj H
      go_wp2_with (fail)
      go_ret
      exact ⟨by first | rfl | (simp [errW_none, errW_some] <;> rfl) | (simp [*, errW_none, errW_some] <;> rfl), by repeat (first | (with_reducible first | exact HB.out | apply below_alloc | apply pw_below_drewN | apply below_drew1 | refine below_set ?_ jg.out) | exact HB.out)⟩
    ·replace c9 := Bool.eq_false_iff.mpr c9
     subst c9
     have H1 : (some false) = some r := by rw [if_neg (show ¬ (false = true) by decide)] at H; exact H
     clear H
     have H := H1
     clear H1
     obtain rfl := Option.some.inj H
     go_wp2_with (fail)
     go_ret
     exact ⟨by first | rfl | (simp [errW_none, errW_some] <;> rfl) | (simp [*, errW_none, errW_some] <;> rfl), by repeat (first | (with_reducible first | exact HB.out | apply below_alloc | apply pw_below_drewN | apply below_drew1 | refine below_set ?_ jg.out) | exact HB.out)⟩
   ·replace c7 := Bool.eq_false_iff.mpr c7
    subst c7
    have H1 : (some false) = some r := by rw [if_neg (show ¬ (false = true) by decide)] at H; exact H
    clear H
    have H := H1
    clear H1
    obtain rfl := Option.some.inj H
    go_wp2_with (fail)
    go_ret
    exact ⟨by first | rfl | (simp [errW_none, errW_some] <;> rfl) | (simp [*, errW_none, errW_some] <;> rfl), by repeat (first | (with_reducible first | exact HB.out | apply below_alloc | apply pw_below_drewN | apply below_drew1 | refine below_set ?_ jg.out) | exact HB.out)⟩
  ·replace c5 := Bool.eq_false_iff.mpr c5
   subst c5
   have H1 : (some false) = some r := by rw [if_neg (show ¬ (false = true) by decide)] at H; exact H
   clear H
   have H := H1
   clear H1
   obtain rfl := Option.some.inj H
   go_wp2_with (fail)
   go_ret
   exact ⟨by first | rfl | (simp [errW_none, errW_some] <;> rfl) | (simp [*, errW_none, errW_some] <;> rfl), by repeat (first | (with_reducible first | exact HB.out | apply below_alloc | apply pw_below_drewN | apply below_drew1 | refine below_set ?_ jg.out) | exact HB.out)⟩
 ·replace c3 := Bool.eq_false_iff.mpr c3
  subst c3
  have H1 : (some false) = some r := by rw [if_neg (show ¬ (false = true) by decide)] at H; exact H
  clear H
  have H := H1
  clear H1
  obtain rfl := Option.some.inj H
  go_wp2_with (fail)
  go_ret
  exact ⟨by first | rfl | (simp [errW_none, errW_some] <;> rfl) | (simp [*, errW_none, errW_some] <;> rfl), by repeat (first | (with_reducible first | exact HB.out | apply below_alloc | apply pw_below_drewN | apply below_drew1 | refine below_set ?_ jg.out) | exact HB.out)⟩
end Go.Proofs.Ytbjdnfgalopfiaa.PE
