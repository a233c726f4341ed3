import Derived.Test.YtjldpnhlegbjkaaPAx0
namespace Go.Proofs.Ytjldpnhlegbjkaa.PA
open Go.RowKit Go.Proofs.YtjldpnhlegbjkaaW.PrintWords Go.Proofs.YtjldpnhlegbjkaaW.PrintLast Go.Proofs.YtjldpnhlegbjkaaW.PrintMore
attribute [local go_sem] max2_int min2_int max_two min_two max_three min_three max_four min_four
set_option linter.unusedVariables false
set_option linter.unusedSimpArgs false

def spec_l11Copy.f (a0_0 : Int) (l0_1 : List (S45)) (l0_2 : List (S45)) : Option (Int × (List (S45)) × (List (S45))) := (some (([] : List (S45)) : List (S45))).bind fun y490003 => (if y490003.length + l0_1.length < 5864062014805 then ((some (([] : List (S45)) : List (S45))).bind fun y490009 => (if y490009.length + l0_2.length < 5864062014805 then (some (a0_0, (y490003 ++ l0_1), (y490009 ++ l0_2))) else (none))) else (none))
def spec_l11Copy.T1 : Bool × List (List Nat × List Nat) := (true, [([], []), ([0], [0]), ([], []), ([], []), ([3], [3]), ([2, 4], [2, 4]), ([], []), ([], []), ([7], [7]), ([6, 8, 5], [6, 8]), ([1, 5, 9], [1, 5, 9]), ([10, 9, 0, 1, 2, 3, 4, 5, 6, 7, 8, 9, 10], [10])])
def spec_l11Copy.B1 : List Nat := [0, 1, 0, 0, 8, 28, 0, 0, 128, 508, 1023, 2047]
theorem spec_l11Copy.tab1 : rtab .any (opsOf Try.f48 1) = spec_l11Copy.T1 := by kernel_rfl
theorem spec_l11Copy.bits1 : waitsOk spec_l11Copy.T1.2 spec_l11Copy.B1 = true := by kernel_rfl
set_option maxHeartbeats 8000000 in
set_option maxRecDepth 100000 in
theorem spec_l11Copy.calls (a0_0 : Int) (A0_1 : Option Addr) (c0_1 : Nat) (l0_1 : List (S45)) (A0_2 : Option Addr) (c0_2 : Nat) (l0_2 : List (S45)) (r1 : Int) (r2 : List (S45)) (r3 : List (S45)) (w : World) (hr0_1 : Kd.C k45 w A0_1 l0_1.length l0_1) (hc0_1 : l0_1.length ≤ c0_1) (hr0_2 : Kd.C k45 w A0_2 l0_2.length l0_2) (hc0_2 : l0_2.length ≤ c0_2) (h : spec_l11Copy.f a0_0 l0_1 l0_2 = some (r1, r2, r3)) :
 Calls Try.prog 48 #[.agg #[.int .i64 a0_0, .slice A0_1 l0_1.length c0_1, .slice A0_2 l0_2.length c0_2]] w fun e w' => ∃ v1_ v2_ : Value, e = .returned (.agg #[.int .i64 r1, v1_, v2_]) ∧ Kd.R k45 45 w' w.heap.size (fun k_ => some k_ ≠ (v2_ : Value).ownBlock) v1_ r2 ∧ Kd.R k45 45 w' w.heap.size (fun k_ => some k_ ≠ (v1_ : Value).ownBlock) v2_ r3 ∧ Below w.heap.size w w' := by
 have hu29 := Try.underlying29
 have HR0_1 := Aside0.mk hr0_1
 have HC0_1 := Aside0.mk hc0_1
 clear hr0_1 hc0_1
 have HR0_2 := Aside0.mk hr0_2
 have HC0_2 := Aside0.mk hc0_2
 clear hr0_2 hc0_2
 have HB := Aside0.mk (Below.refl w.heap.size w)
 have H : ((some (([] : List (S45)) : List (S45))).bind fun jk => (if jk.length + l0_1.length < 5864062014805 then ((some (([] : List (S45)) : List (S45))).bind fun jg => (if jg.length + l0_2.length < 5864062014805 then (some (a0_0, (jk ++ l0_1), (jg ++ l0_2))) else (none))) else (none))) = some (r1, r2, r3) := h
 clear h
 obtain ⟨jk, jp⟩ : ∃ y_ : List (S45), y_ = (([] : List (S45))) := ⟨_, rfl⟩
 replace H : (if jk.length + l0_1.length < 5864062014805 then ((some (([] : List (S45)) : List (S45))).bind fun jg => (if jg.length + l0_2.length < 5864062014805 then (some (a0_0, (jk ++ l0_1), (jg ++ l0_2))) else (none))) else (none)) = some (r1, r2, r3) := by first | (rw [jp]; with_reducible exact H) | (have H2_ := (Option.bind_some _ _).symm.trans H; rw [jp]; with_reducible exact H2_) | (have H2_ := (Option.bind_some _ _).symm.trans H; with_reducible exact H2_) | with_reducible exact H | (rw [jp]; exact H) | exact H
 have ju := Aside0.mk jp
 clear jp
 by_cases c2 : jk.length + l0_1.length < 5864062014805
 ·rw [if_pos c2] at H
  have LMc2 := Aside0.mk c2
  clear c2
  obtain ⟨jl, js⟩ : ∃ y_ : List (S45), y_ = (jk ++ l0_1) := ⟨_, rfl⟩
  replace H : ((some (([] : List (S45)) : List (S45))).bind fun jg => (if jg.length + l0_2.length < 5864062014805 then (some (a0_0, jl, (jg ++ l0_2))) else (none))) = some (r1, r2, r3) := by first | (rw [js]; with_reducible exact H) | (have H2_ := (Option.bind_some _ _).symm.trans H; rw [js]; with_reducible exact H2_) | (have H2_ := (Option.bind_some _ _).symm.trans H; with_reducible exact H2_) | with_reducible exact H | (rw [js]; exact H) | exact H
  have jw := Aside0.mk js
  clear js
  obtain ⟨jg, jq⟩ : ∃ y_ : List (S45), y_ = (([] : List (S45))) := ⟨_, rfl⟩
  replace H : (if jg.length + l0_2.length < 5864062014805 then (some (a0_0, jl, (jg ++ l0_2))) else (none)) = some (r1, r2, r3) := by first | (rw [jq]; with_reducible exact H) | (have H2_ := (Option.bind_some _ _).symm.trans H; rw [jq]; with_reducible exact H2_) | (have H2_ := (Option.bind_some _ _).symm.trans H; with_reducible exact H2_) | with_reducible exact H | (rw [jq]; exact H) | exact H
  have jo := Aside0.mk jq
  clear jq
  by_cases c3 : jg.length + l0_2.length < 5864062014805
  ·rw [if_pos c3] at H
   have LMc3 := Aside0.mk c3
   clear c3
   obtain ⟨jt, jr⟩ : ∃ y_ : List (S45), y_ = (jg ++ l0_2) := ⟨_, rfl⟩
   replace H : (some (a0_0, jl, jt)) = some (r1, r2, r3) := by first | (rw [jr]; with_reducible exact H) | (have H2_ := (Option.bind_some _ _).symm.trans H; rw [jr]; with_reducible exact H2_) | (have H2_ := (Option.bind_some _ _).symm.trans H; with_reducible exact H2_) | with_reducible exact H | (rw [jr]; exact H) | exact H
   have jA := Aside0.mk jr
   clear jr
   simp only [Option.some.injEq, Prod.mk.injEq] at H
   obtain ⟨rfl, rfl, rfl⟩ := H
   go_enter Try.func48, Try.ntmps48
   try go_wp2_with (first | ((with_reducible refine gate_dst (N := 1) rfl ?_); refine box_event ?hg (N := 1) ?hd (cs := #[.int .i64 a0_0, .slice A0_1 l0_1.length c0_1, .slice A0_2 l0_2.length c0_2]) (t := 29) ?hr ?_; (case hd => rfl); (case hg => rfl); (case hr => first | (go_simp; done) | (go_simp; rfl)); intro je hg w4 hbox hb; have n0_ := Aside0.mk (below_step (hb_ HB.out) hb); have n1_ := Aside0.mk (hbox); have n2_ := Aside0.mk ((by rw [hg]; exact (below_size (hb_ HB.out)) : w.heap.size ≤ je)); have n3_ := Aside0.mk ((by rw [hg]; exact (below_size (hb_ HB.out)) : w.heap.size ≤ je)); clear HB; have HB := n0_; have ja := n1_; have jD := n2_; have jy := n3_; clear n0_ n1_ n2_ n3_; clear hb hbox hg) | ((with_reducible refine gate_dst (N := 2) rfl ?_); refine box_event ?hg (N := 2) ?hd (cs := #[.int .i64 0, .slice none 0 0, .slice none 0 0]) (t := 29) ?hr ?_; (case hd => rfl); (case hg => rfl); (case hr => first | (go_simp; done) | (go_simp; rfl)); intro jc hg w5 hbox hb; have n0_ := Aside0.mk (blk_below (bk_ ja.out) hb); have n1_ := Aside0.mk (below_step (hb_ HB.out) hb); have n2_ := Aside0.mk (hbox); have n3_ := Aside0.mk ((by rw [hg]; exact (below_size (hb_ HB.out)) : w.heap.size ≤ jc)); have n4_ := Aside0.mk ((by rw [hg]; exact (below_size (hb_ HB.out)) : w.heap.size ≤ jc)); have n5_ := Aside0.mk ((by rw [hg]; exact Nat.ne_of_lt (blk_lt (g := je) (o := .cells #[.int .i64 a0_0, .slice A0_1 l0_1.length c0_1, .slice A0_2 l0_2.length c0_2] 29 (0, 0)) (bk_ ja.out)) : je ≠ jc)); have n6_ := Aside0.mk ((by rw [hg]; exact Nat.ne_of_gt (blk_lt (g := je) (o := .cells #[.int .i64 a0_0, .slice A0_1 l0_1.length c0_1, .slice A0_2 l0_2.length c0_2] 29 (0, 0)) (bk_ ja.out)) : jc ≠ je)); clear ja; clear HB; have ja := n0_; have HB := n1_; have jb := n2_; have jB := n3_; have jz := n4_; have ji := n5_; have jv := n6_; clear n0_ n1_ n2_ n3_ n4_ n5_ n6_; clear hb hbox hg))
   have n0_ := Aside0.mk (blk_drew ja.out)
   have n1_ := Aside0.mk (blk_drew jb.out)
   have n2_ := Aside0.mk (below_drew1 HB.out)
   clear ja
   clear jb
   clear HB
   have ja := n0_
   have jb := n1_
   have HB := n2_
   clear n0_ n1_ n2_
   refine start_ (n := 12) (S := fun w' => w'.cell? ⟨je, 0, none⟩ = some (.int .i64 a0_0) ∧ w'.cell? ⟨je, 1, none⟩ = some (.slice A0_1 l0_1.length c0_1) ∧ w'.cell? ⟨je, 2, none⟩ = some (.slice A0_2 l0_2.length c0_2)) (ds := []) (bt_ 12 0) (by kernel_rfl) rfl rfl ⟨(blk_cell ja.out 0).trans rfl, (blk_cell ja.out 1).trans rfl, (blk_cell ja.out 2).trans rfl⟩ (fun hHeld => ?_); refine with_tabW spec_l11Copy.tab1 spec_l11Copy.bits1 (fun HT_ HW_ => ?_)
   generalize w5.drew = w6 at ja jb HB hHeld ⊢
   refine pu_ 0 (some 3) (bt_ 12 1) (any_of HT_.out (by kernel_rfl)) ?_
   refine pu_ 3 (some 6) (bt_ 12 9) (any_of HT_.out (by kernel_rfl)) ?_
   refine pu_ 7 (some 10) (bt_ 12 137) (any_of HT_.out (by kernel_rfl)) ?_
   refine tk_ 1 (some 4) (bt_ 12 139) (take_ofW HT_.out HW_.out (by kernel_rfl)) hHeld ?_
   refine tk_ 4 (some 7) (bt_ 12 155) (take_ofW HT_.out HW_.out (by kernel_rfl)) hHeld ?_
   refine tk_ 8 (some 11) (bt_ 12 411) (take_ofW HT_.out HW_.out (by kernel_rfl)) hHeld ?_
   refine join_ (σ := Value × Value × Value) 3 (bt_ 12 511) (fun s_ => [(5, s_.1), (8, s_.2.1), (9, s_.2.2)]) (fun s_ w' => (w'.cell? ⟨je, 0, none⟩ = some (.int .i64 a0_0) ∧ w'.cell? ⟨je, 1, none⟩ = some (.slice A0_1 l0_1.length c0_1) ∧ w'.cell? ⟨je, 2, none⟩ = some (.slice A0_2 l0_2.length c0_2)) ∧ (Kd.R k45 45 w' w.heap.size (fun k_ => some k_ ≠ (s_.2.2 : Value).ownBlock) s_.2.1 jl) ∧ (Kd.R k45 45 w' w.heap.size (fun k_ => some k_ ≠ (s_.2.1 : Value).ownBlock) s_.2.2 jg) ∧ (w'.heap[je]? = some (.cells #[.int .i64 a0_0, .slice A0_1 l0_1.length c0_1, .slice A0_2 l0_2.length c0_2] 29 (0, 0))) ∧ (w'.heap[jc]? = some (.cells #[.int .i64 0, .slice none 0 0, .slice none 0 0] 29 (0, 0))) ∧ (Below w.heap.size w w')) ?_ ?_
   rotate_left
   ·intro hCont
    refine two_ (i := 2) (j := 6) (Ni := some 5) (Nj := some 9) (bt_ 12 415) (bt_ 12 475) rfl rfl rfl rfl (two_of HT_.out (by kernel_rfl)) (by decide) (by decide) (fun K hK => ?_) (fun K hK => ?_)
    ·skip
     refine Kd.R_lit_step k45 _ 45 ?hg (N := 5) ?hd (xs := ([] : List (S45))) (inner := []) (ok := fun _ => True) (okp := fun _ => True) ?hr ?hp (fun _ hk => hk) trivial (Below.refl _ _) (Nat.le_refl _) (by simp) ?_; (case hd => rfl); (case hg => rfl); (case hr => first | (go_simp; done) | (go_simp; rfl)); (case hp => exact (Reps.none _ _))
     intro jn w7 ho8 hb hg_ hnew_
     clear hg_ hnew_
     (first | rw [← ju.out] at ho8 | (simp only [Int.reduceToNat] at ho8; rw [← ju.out] at ho8))
     have n0_ := Aside0.mk (Kd.R_lower ho8 (below_size (hb_ HB.out)))
     have n1_ := Aside0.mk (blk_below (bk_ ja.out) hb)
     have n2_ := Aside0.mk (blk_below (bk_ jb.out) hb)
     have n3_ := Aside0.mk (below_step (hb_ HB.out) hb)
     clear ja
     clear jb
     clear HB
     have jf := n0_
     have ja := n1_
     have jb := n2_
     have HB := n3_
     clear n0_ n1_ n2_ n3_
     clear hb ho8
     refine hK.out _ _ ⟨(blk_cell ja.out 0).trans rfl, (blk_cell ja.out 1).trans rfl, (blk_cell ja.out 2).trans rfl⟩ (fun hHeld => ?_)
     clear hK K
     refine norm_ (a' := ?_) ?_ ?_
     rotate_left
     ·show Act.put _ (some 5) _ = _
      simp only [Act.put, List.setIfInBounds_toArray, List.set_cons_zero, List.set_cons_succ, i64_w, i32_w]
      rfl
     refine two_ (i := 5) (j := 6) (Ni := some 8) (Nj := some 9) (bt_ 12 447) (bt_ 12 479) rfl rfl rfl rfl (two_of HT_.out (by kernel_rfl)) (by decide) (by decide) (fun K hK => ?_) (fun K hK => ?_)
     ·skip
      refine Kd.R_append_rows_step k45 (w0 := w) w.heap.size (by rfl) (.tmp 5) (.tmp 7) 27 45 (.agg #[(.int .i64 0), (.int .i64 0), (.bool false), (.bool false)]) 24 rfl Try.underlying27 info45 rfl (by decide) (by omega) jn jk l0_1 _ _ _ (fun _ => True) (fun _ => False) rfl rfl ?aO ?aR (fun _ _ h => h) (fun _ h => h.elim) ?aF ?aB ?aS ?aL ?_
      (case aR => repeat (first | exact (Kd.C_below HR0_1.out HB.out) | (with_reducible refine Kd.C_alloc ?_ _) | (with_reducible refine Kd.C_drewN ?_ _) | (with_reducible refine Kd.C_drew ?_)))
      (case aB => exact (hb_ HB.out))
      (case aF => exact (fun _ _ => trivial))
      (case aO => exact (kr_ jf.out))
      (case aS => exact (below_size (hb_ HB.out)))
      (case aL => have := LMc2.out; omega)
      intro jm w9 ho hb hg hat
      rw [← jw.out] at ho
      have n0_ := Aside0.mk (blk_grown (g := je) (o := .cells #[.int .i64 a0_0, .slice A0_1 l0_1.length c0_1, .slice A0_2 l0_2.length c0_2] 29 (0, 0)) (bk_ ja.out) hg (Kd.R_ne jf.out ja.out (by decide)))
      have n1_ := Aside0.mk (blk_grown (g := jc) (o := .cells #[.int .i64 0, .slice none 0 0, .slice none 0 0] 29 (0, 0)) (bk_ jb.out) hg (Kd.R_ne jf.out jb.out (by decide)))
      have n2_ := Aside0.mk (hb)
      have n3_ := Aside0.mk (ho)
      clear ja
      clear jb
      clear HB
      clear jf
      have ja := n0_
      have jb := n1_
      have HB := n2_
      have jh := n3_
      clear n0_ n1_ n2_ n3_
      clear ho hb hg hat
      refine hK.out _ _ ⟨(blk_cell ja.out 0).trans rfl, (blk_cell ja.out 1).trans rfl, (blk_cell ja.out 2).trans rfl⟩ (fun hHeld => ?_)
      clear hK K
      refine norm_ (a' := ?_) ?_ ?_
      rotate_left
      ·show Act.put _ (some 8) _ = _
       simp only [Act.put, List.setIfInBounds_toArray, List.set_cons_zero, List.set_cons_succ, i64_w, i32_w]
       rfl
      refine one_ (i := 6) (N := some 9) (bt_ 12 511) rfl rfl (one_of HT_.out (by kernel_rfl)) (by decide) (fun K hK => ?_)
      refine Kd.R_lit_step k45 _ 45 ?hg (N := 9) ?hd (xs := ([] : List (S45))) (inner := []) (ok := fun _ => True) (okp := fun _ => True) ?hr ?hp (fun _ hk => hk) trivial (Below.refl _ _) (Nat.le_refl _) (by simp) ?_; (case hd => rfl); (case hg => rfl); (case hr => first | (go_simp; done) | (go_simp; rfl)); (case hp => exact (Reps.none _ _))
      intro jj w10 ho11 hb hg_ hnew_
      clear hg_ hnew_
      (first | rw [← jo.out] at ho11 | (simp only [Int.reduceToNat] at ho11; rw [← jo.out] at ho11))
      have n0_ := Aside0.mk (Kd.R_elder' (kr_ jh.out) (Kd.R_base ho11) hb)
      have n1_ := Aside0.mk (Kd.R_lower (Kd.R_new' ho11 (Kd.R_lt (kr_ jh.out))) (below_size (hb_ HB.out)))
      have n2_ := Aside0.mk (blk_below (bk_ ja.out) hb)
      have n3_ := Aside0.mk (blk_below (bk_ jb.out) hb)
      have n4_ := Aside0.mk (below_step (hb_ HB.out) hb)
      clear jh
      clear ja
      clear jb
      clear HB
      have jh := n0_
      have jd := n1_
      have ja := n2_
      have jb := n3_
      have HB := n4_
      clear n0_ n1_ n2_ n3_ n4_
      clear hb ho11
      refine hK.out _ _ ⟨(blk_cell ja.out 0).trans rfl, (blk_cell ja.out 1).trans rfl, (blk_cell ja.out 2).trans rfl⟩ (fun hHeld => ?_)
      clear hK K
      refine norm_ (a' := ?_) ?_ ?_
      rotate_left
      ·show Act.put _ (some 9) _ = _
       simp only [Act.put, List.setIfInBounds_toArray, List.set_cons_zero, List.set_cons_succ, i64_w, i32_w]
       rfl
      exact norm_ (by simp only [putAll, Act.put, List.setIfInBounds_toArray, List.set_cons_zero, List.set_cons_succ]) (hCont (jn, jm, jj) _ ⟨hHeld, (by (with_reducible repeat (first | apply Kd.R_alloc | apply Kd.R_drewN | apply Kd.R_drew)); exact Kd.R_mono jh.out (fun _ hk => hk.2)), (by (with_reducible repeat (first | apply Kd.R_alloc | apply Kd.R_drewN | apply Kd.R_drew)); exact Kd.R_mono jd.out (fun _ hk => hk.2)), (bk_ ja.out), (bk_ jb.out), (hb_ HB.out)⟩)
     ·skip
      refine Kd.R_lit_step k45 _ 45 ?hg (N := 9) ?hd (xs := ([] : List (S45))) (inner := []) (ok := fun _ => True) (okp := fun _ => True) ?hr ?hp (fun _ hk => hk) trivial (Below.refl _ _) (Nat.le_refl _) (by simp) ?_; (case hd => rfl); (case hg => rfl); (case hr => first | (go_simp; done) | (go_simp; rfl)); (case hp => exact (Reps.none _ _))
      intro jj w9 ho10 hb hg_ hnew_
      clear hg_ hnew_
      (first | rw [← jo.out] at ho10 | (simp only [Int.reduceToNat] at ho10; rw [← jo.out] at ho10))
      have n0_ := Aside0.mk (Kd.R_elder' (kr_ jf.out) (Kd.R_base ho10) hb)
      have n1_ := Aside0.mk (Kd.R_lower (Kd.R_new' ho10 (Kd.R_lt (kr_ jf.out))) (below_size (hb_ HB.out)))
      have n2_ := Aside0.mk (blk_below (bk_ ja.out) hb)
      have n3_ := Aside0.mk (blk_below (bk_ jb.out) hb)
      have n4_ := Aside0.mk (below_step (hb_ HB.out) hb)
      clear jf
      clear ja
      clear jb
      clear HB
      have jf := n0_
      have jd := n1_
      have ja := n2_
      have jb := n3_
      have HB := n4_
      clear n0_ n1_ n2_ n3_ n4_
      clear hb ho10
      refine hK.out _ _ ⟨(blk_cell ja.out 0).trans rfl, (blk_cell ja.out 1).trans rfl, (blk_cell ja.out 2).trans rfl⟩ (fun hHeld => ?_)
      clear hK K
      refine norm_ (a' := ?_) ?_ ?_
      rotate_left
      ·show Act.put _ (some 9) _ = _
       simp only [Act.put, List.setIfInBounds_toArray, List.set_cons_zero, List.set_cons_succ, i64_w, i32_w]
       rfl
      refine one_ (i := 5) (N := some 8) (bt_ 12 511) rfl rfl (one_of HT_.out (by kernel_rfl)) (by decide) (fun K hK => ?_)
      refine Kd.R_append_rows_step k45 (w0 := w) w.heap.size (by rfl) (.tmp 5) (.tmp 7) 27 45 (.agg #[(.int .i64 0), (.int .i64 0), (.bool false), (.bool false)]) 24 rfl Try.underlying27 info45 rfl (by decide) (by omega) jn jk l0_1 _ _ _ (fun k_ => some k_ ≠ (jj : Value).ownBlock) (fun _ => False) rfl rfl ?aO ?aR (fun _ _ h => h) (fun _ h => h.elim) ?aF ?aB ?aS ?aL ?_
      (case aR => repeat (first | exact (Kd.C_below HR0_1.out HB.out) | (with_reducible refine Kd.C_alloc ?_ _) | (with_reducible refine Kd.C_drewN ?_ _) | (with_reducible refine Kd.C_drew ?_)))
      (case aB => exact (hb_ HB.out))
      (case aF => exact (fun k_ hk => Kd.fresh' (Kd.R_lt (kr_ jd.out)) k_ hk))
      (case aO => exact (by (with_reducible repeat (first | apply Kd.R_alloc | apply Kd.R_drewN | apply Kd.R_drew)); exact Kd.R_mono jf.out (fun _ hk => hk.2)))
      (case aS => exact (below_size (hb_ HB.out)))
      (case aL => have := LMc2.out; omega)
      intro jm w11 ho hb hg hat
      rw [← jw.out] at ho
      have n0_ := Aside0.mk (blk_grown (g := je) (o := .cells #[.int .i64 a0_0, .slice A0_1 l0_1.length c0_1, .slice A0_2 l0_2.length c0_2] 29 (0, 0)) (bk_ ja.out) hg (Kd.R_ne jf.out ja.out (by decide)))
      have n1_ := Aside0.mk (blk_grown (g := jc) (o := .cells #[.int .i64 0, .slice none 0 0, .slice none 0 0] 29 (0, 0)) (bk_ jb.out) hg (Kd.R_ne jf.out jb.out (by decide)))
      have n2_ := Aside0.mk (Kd.R_after (ok := (fun _ => True)) (kr_ jd.out) hg hat)
      have n3_ := Aside0.mk (hb)
      have n4_ := Aside0.mk (ho)
      clear ja
      clear jb
      clear jd
      clear HB
      clear jf
      have ja := n0_
      have jb := n1_
      have jd := n2_
      have HB := n3_
      have jh := n4_
      clear n0_ n1_ n2_ n3_ n4_
      clear ho hb hg hat
      refine hK.out _ _ ⟨(blk_cell ja.out 0).trans rfl, (blk_cell ja.out 1).trans rfl, (blk_cell ja.out 2).trans rfl⟩ (fun hHeld => ?_)
      clear hK K
      refine norm_ (a' := ?_) ?_ ?_
      rotate_left
      ·show Act.put _ (some 8) _ = _
       simp only [Act.put, List.setIfInBounds_toArray, List.set_cons_zero, List.set_cons_succ, i64_w, i32_w]
       rfl
      exact norm_ (by simp only [putAll, Act.put, List.setIfInBounds_toArray, List.set_cons_zero, List.set_cons_succ]) (hCont (jn, jm, jj) _ ⟨hHeld, (kr_ jh.out), (by (with_reducible repeat (first | apply Kd.R_alloc | apply Kd.R_drewN | apply Kd.R_drew)); exact Kd.R_mono jd.out (fun _ hk => hk.2)), (bk_ ja.out), (bk_ jb.out), (hb_ HB.out)⟩)
    ·skip
     refine Kd.R_lit_step k45 _ 45 ?hg (N := 9) ?hd (xs := ([] : List (S45))) (inner := []) (ok := fun _ => True) (okp := fun _ => True) ?hr ?hp (fun _ hk => hk) trivial (Below.refl _ _) (Nat.le_refl _) (by simp) ?_; (case hd => rfl); (case hg => rfl); (case hr => first | (go_simp; done) | (go_simp; rfl)); (case hp => exact (Reps.none _ _))
     intro jj w7 ho8 hb hg_ hnew_
     clear hg_ hnew_
     (first | rw [← jo.out] at ho8 | (simp only [Int.reduceToNat] at ho8; rw [← jo.out] at ho8))
     have n0_ := Aside0.mk (Kd.R_lower ho8 (below_size (hb_ HB.out)))
     have n1_ := Aside0.mk (blk_below (bk_ ja.out) hb)
     have n2_ := Aside0.mk (blk_below (bk_ jb.out) hb)
     have n3_ := Aside0.mk (below_step (hb_ HB.out) hb)
     clear ja
     clear jb
     clear HB
     have jd := n0_
     have ja := n1_
     have jb := n2_
     have HB := n3_
     clear n0_ n1_ n2_ n3_
     clear hb ho8
     refine hK.out _ _ ⟨(blk_cell ja.out 0).trans rfl, (blk_cell ja.out 1).trans rfl, (blk_cell ja.out 2).trans rfl⟩ (fun hHeld => ?_)
     clear hK K
     refine norm_ (a' := ?_) ?_ ?_
     rotate_left
     ·show Act.put _ (some 9) _ = _
      simp only [Act.put, List.setIfInBounds_toArray, List.set_cons_zero, List.set_cons_succ, i64_w, i32_w]
      rfl
     refine one_ (i := 2) (N := some 5) (bt_ 12 479) rfl rfl (one_of HT_.out (by kernel_rfl)) (by decide) (fun K hK => ?_)
     refine Kd.R_lit_step k45 _ 45 ?hg (N := 5) ?hd (xs := ([] : List (S45))) (inner := []) (ok := fun _ => True) (okp := fun _ => True) ?hr ?hp (fun _ hk => hk) trivial (Below.refl _ _) (Nat.le_refl _) (by simp) ?_; (case hd => rfl); (case hg => rfl); (case hr => first | (go_simp; done) | (go_simp; rfl)); (case hp => exact (Reps.none _ _))
     intro jn w9 ho10 hb hg_ hnew_
     clear hg_ hnew_
     (first | rw [← ju.out] at ho10 | (simp only [Int.reduceToNat] at ho10; rw [← ju.out] at ho10))
     have n0_ := Aside0.mk (Kd.R_elder' (kr_ jd.out) (Kd.R_base ho10) hb)
     have n1_ := Aside0.mk (Kd.R_lower (Kd.R_new' ho10 (Kd.R_lt (kr_ jd.out))) (below_size (hb_ HB.out)))
     have n2_ := Aside0.mk (blk_below (bk_ ja.out) hb)
     have n3_ := Aside0.mk (blk_below (bk_ jb.out) hb)
     have n4_ := Aside0.mk (below_step (hb_ HB.out) hb)
     clear jd
     clear ja
     clear jb
     clear HB
     have jd := n0_
     have jf := n1_
     have ja := n2_
     have jb := n3_
     have HB := n4_
     clear n0_ n1_ n2_ n3_ n4_
     clear hb ho10
     refine hK.out _ _ ⟨(blk_cell ja.out 0).trans rfl, (blk_cell ja.out 1).trans rfl, (blk_cell ja.out 2).trans rfl⟩ (fun hHeld => ?_)
     clear hK K
     refine norm_ (a' := ?_) ?_ ?_
     rotate_left
     ·show Act.put _ (some 5) _ = _
      simp only [Act.put, List.setIfInBounds_toArray, List.set_cons_zero, List.set_cons_succ, i64_w, i32_w]
      rfl
     refine one_ (i := 5) (N := some 8) (bt_ 12 511) rfl rfl (one_of HT_.out (by kernel_rfl)) (by decide) (fun K hK => ?_)
     refine Kd.R_append_rows_step k45 (w0 := w) w.heap.size (by rfl) (.tmp 5) (.tmp 7) 27 45 (.agg #[(.int .i64 0), (.int .i64 0), (.bool false), (.bool false)]) 24 rfl Try.underlying27 info45 rfl (by decide) (by omega) jn jk l0_1 _ _ _ (fun k_ => some k_ ≠ (jj : Value).ownBlock) (fun _ => False) rfl rfl ?aO ?aR (fun _ _ h => h) (fun _ h => h.elim) ?aF ?aB ?aS ?aL ?_
     (case aR => repeat (first | exact (Kd.C_below HR0_1.out HB.out) | (with_reducible refine Kd.C_alloc ?_ _) | (with_reducible refine Kd.C_drewN ?_ _) | (with_reducible refine Kd.C_drew ?_)))
     (case aB => exact (hb_ HB.out))
     (case aF => exact (fun k_ hk => Kd.fresh' (Kd.R_lt (kr_ jd.out)) k_ hk))
     (case aO => exact (by (with_reducible repeat (first | apply Kd.R_alloc | apply Kd.R_drewN | apply Kd.R_drew)); exact Kd.R_mono jf.out (fun _ hk => hk.2)))
     (case aS => exact (below_size (hb_ HB.out)))
     (case aL => have := LMc2.out; omega)
     intro jm w11 ho hb hg hat
     rw [← jw.out] at ho
     have n0_ := Aside0.mk (blk_grown (g := je) (o := .cells #[.int .i64 a0_0, .slice A0_1 l0_1.length c0_1, .slice A0_2 l0_2.length c0_2] 29 (0, 0)) (bk_ ja.out) hg (Kd.R_ne jf.out ja.out (by decide)))
     have n1_ := Aside0.mk (blk_grown (g := jc) (o := .cells #[.int .i64 0, .slice none 0 0, .slice none 0 0] 29 (0, 0)) (bk_ jb.out) hg (Kd.R_ne jf.out jb.out (by decide)))
     have n2_ := Aside0.mk (Kd.R_after (ok := (fun _ => True)) (kr_ jd.out) hg hat)
     have n3_ := Aside0.mk (hb)
     have n4_ := Aside0.mk (ho)
     clear ja
     clear jb
     clear jd
     clear HB
     clear jf
     have ja := n0_
     have jb := n1_
     have jd := n2_
     have HB := n3_
     have jh := n4_
     clear n0_ n1_ n2_ n3_ n4_
     clear ho hb hg hat
     refine hK.out _ _ ⟨(blk_cell ja.out 0).trans rfl, (blk_cell ja.out 1).trans rfl, (blk_cell ja.out 2).trans rfl⟩ (fun hHeld => ?_)
     clear hK K
     refine norm_ (a' := ?_) ?_ ?_
     rotate_left
     ·show Act.put _ (some 8) _ = _
      simp only [Act.put, List.setIfInBounds_toArray, List.set_cons_zero, List.set_cons_succ, i64_w, i32_w]
      rfl
     exact norm_ (by simp only [putAll, Act.put, List.setIfInBounds_toArray, List.set_cons_zero, List.set_cons_succ]) (hCont (jn, jm, jj) _ ⟨hHeld, (kr_ jh.out), (by (with_reducible repeat (first | apply Kd.R_alloc | apply Kd.R_drewN | apply Kd.R_drew)); exact Kd.R_mono jd.out (fun _ hk => hk.2)), (bk_ ja.out), (bk_ jb.out), (hb_ HB.out)⟩)
   rintro ⟨jn, jm, jj⟩ w12 ⟨hS_, h0_, h1_, h2_, h3_, h4_⟩
   have n0_ : Aside0 (Kd.R k45 45 w12 w.heap.size (fun k_ => some k_ ≠ (jj : Value).ownBlock) jm jl) := ⟨h0_⟩
   have n1_ : Aside0 (Kd.R k45 45 w12 w.heap.size (fun k_ => some k_ ≠ (jm : Value).ownBlock) jj jg) := ⟨h1_⟩
   have n2_ : Aside0 (w12.heap[je]? = some (.cells #[.int .i64 a0_0, .slice A0_1 l0_1.length c0_1, .slice A0_2 l0_2.length c0_2] 29 (0, 0))) := ⟨h2_⟩
   have n3_ : Aside0 (w12.heap[jc]? = some (.cells #[.int .i64 0, .slice none 0 0, .slice none 0 0] 29 (0, 0))) := ⟨h3_⟩
   have n4_ : Aside0 (Below w.heap.size w w12) := ⟨h4_⟩
   clear ja
   clear jb
   clear HB
   clear h0_ h1_ h2_ h3_ h4_
   have jh := n0_
   have jd := n1_
   have ja := n2_
   have jb := n3_
   have HB := n4_
   clear n0_ n1_ n2_ n3_ n4_
   have hHeld : w12.cell? ⟨je, 0, none⟩ = some (.int .i64 a0_0) ∧ w12.cell? ⟨je, 1, none⟩ = some (.slice A0_1 l0_1.length c0_1) ∧ w12.cell? ⟨je, 2, none⟩ = some (.slice A0_2 l0_2.length c0_2) := hS_
   refine norm_ (a' := ?_) ?_ ?_
   rotate_left
   ·simp only [putAll, Act.put, List.setIfInBounds_toArray, List.set_cons_zero, List.set_cons_succ]
    rfl
   refine one_ (i := 9) (N := some 12) (bt_ 12 1023) rfl rfl (one_of HT_.out (by kernel_rfl)) (by decide) (fun K hK => ?_)
   refine Kd.R_append_rows_step k45 (w0 := w) w.heap.size (by rfl) (.tmp 9) (.tmp 11) 27 45 (.agg #[(.int .i64 0), (.int .i64 0), (.bool false), (.bool false)]) 24 rfl Try.underlying27 info45 rfl (by decide) (by omega) jj jg l0_2 _ _ _ (fun k_ => some k_ ≠ (jm : Value).ownBlock) (fun _ => False) rfl rfl ?aO ?aR (fun _ _ h => h) (fun _ h => h.elim) ?aF ?aB ?aS ?aL ?_
   (case aR => repeat (first | exact (Kd.C_below HR0_2.out HB.out) | (with_reducible refine Kd.C_alloc ?_ _) | (with_reducible refine Kd.C_drewN ?_ _) | (with_reducible refine Kd.C_drew ?_)))
   (case aB => exact (hb_ HB.out))
   (case aF => exact (fun k_ hk => Kd.fresh' (Kd.R_lt (kr_ jh.out)) k_ hk))
   (case aO => exact (kr_ jd.out))
   (case aS => exact (below_size (hb_ HB.out)))
   (case aL => have := LMc3.out; omega)
   intro jC w13 ho hb hg hat
   rw [← jA.out] at ho
   have n0_ := Aside0.mk (blk_grown (g := je) (o := .cells #[.int .i64 a0_0, .slice A0_1 l0_1.length c0_1, .slice A0_2 l0_2.length c0_2] 29 (0, 0)) (bk_ ja.out) hg (Kd.R_ne jd.out ja.out (by decide)))
   have n1_ := Aside0.mk (blk_grown (g := jc) (o := .cells #[.int .i64 0, .slice none 0 0, .slice none 0 0] 29 (0, 0)) (bk_ jb.out) hg (Kd.R_ne jd.out jb.out (by decide)))
   have n2_ := Aside0.mk (Kd.R_after (ok := (fun _ => True)) (by (with_reducible repeat (first | apply Kd.R_alloc | apply Kd.R_drewN | apply Kd.R_drew)); exact Kd.R_mono jh.out (fun _ hk => ⟨trivial, hk⟩)) hg hat)
   have n3_ := Aside0.mk (hb)
   have n4_ := Aside0.mk (ho)
   clear ja
   clear jb
   clear jh
   clear HB
   clear jd
   have ja := n0_
   have jb := n1_
   have jh := n2_
   have HB := n3_
   have jx := n4_
   clear n0_ n1_ n2_ n3_ n4_
   clear ho hb hg hat
   obtain ⟨Ao14, co14, eo14⟩ := Kd.R_slice jx.out
   (first | subst eo14 | (injection eo14 with f1_ f2_ f3_; have f4_ := f1_.symm; have f5_ := f3_.symm; clear f1_ f2_ f3_; subst f4_; subst f5_))
   obtain ⟨Ao15, co15, eo15⟩ := Kd.R_slice jh.out
   (first | subst eo15 | (injection eo15 with f1_ f2_ f3_; have f4_ := f1_.symm; have f5_ := f3_.symm; clear f1_ f2_ f3_; subst f4_; subst f5_))
   refine hK.out _ _ ⟨(blk_cell ja.out 0).trans rfl, (blk_cell ja.out 1).trans rfl, (blk_cell ja.out 2).trans rfl⟩ (fun hHeld => ?_)
   clear hK K
   refine norm_ (a' := ?_) ?_ ?_
   rotate_left
   ·show Act.put _ (some 12) _ = _
    simp only [Act.put, List.setIfInBounds_toArray, List.set_cons_zero, List.set_cons_succ, i64_w, i32_w]
    rfl
   refine pu_ 10 (some 13) (bt_ 12 2047) (any_of HT_.out (by kernel_rfl)) ?_
   refine one_ (i := 11) (N := none) (bt_ 12 4095) rfl rfl (one_of HT_.out (by kernel_rfl)) (by decide) (fun K hK => ?_)
   have hs16 : w13.cell? ⟨jc, 0, none⟩ = some (.int .i64 0) := (blk_cell jb.out 0).trans rfl
   have hfs16 := blk_frozen jb.out 0
   have hns16_0 := ji.out
   have hms16_0 := jv.out
   have hs17 : w13.cell? ⟨jc, 1, none⟩ = some (.slice none 0 0) := (blk_cell jb.out 1).trans rfl
   have hfs17 := blk_frozen jb.out 1
   have hns17_0 := ji.out
   have hms17_0 := jv.out
   have hs18 : w13.cell? ⟨jc, 2, none⟩ = some (.slice none 0 0) := (blk_cell jb.out 2).trans rfl
   have hfs18 := blk_frozen jb.out 2
   have hns18_0 := ji.out
   have hms18_0 := jv.out
   refine skip_ (w1 := ?_) (by rfl) rfl ?_ ?_
   rotate_left
   ·go_simp
    rfl
   refine hK.out _ _ ⟨((cell_far (p := ⟨jc, _, none⟩) ji.out _).trans (((cell_far (p := ⟨jc, _, none⟩) ji.out _).trans (((cell_far (p := ⟨jc, _, none⟩) ji.out _).trans (hHeld.1)))))), ((cell_far (p := ⟨jc, _, none⟩) ji.out _).trans (((cell_far (p := ⟨jc, _, none⟩) ji.out _).trans (((cell_far (p := ⟨jc, _, none⟩) ji.out _).trans (hHeld.2.1)))))), ((cell_far (p := ⟨jc, _, none⟩) ji.out _).trans (((cell_far (p := ⟨jc, _, none⟩) ji.out _).trans (((cell_far (p := ⟨jc, _, none⟩) ji.out _).trans (hHeld.2.2))))))⟩ (fun hHeld => ?_)
   clear hK K
   refine done_ (done_of HT_.out (by kernel_rfl)) ?_
   try go_wp2
   refine bodyPost_ret (results_cell_row rfl _ _ jc 29 #[.int .i64 a0_0, .slice Ao15 jl.length co15, .slice Ao14 jt.length co14] (0, 0) _ rfl (by (with_reducible repeat (first | refine blk_drewN ?_ _ | refine blk_drew ?_ | refine blk_alloc ?_ _)); refine blk_put (cs := #[.int .i64 a0_0, .slice Ao15 jl.length co15, .slice none 0 0]) ?_ 2 _ rfl; (with_reducible repeat (first | refine blk_drewN ?_ _ | refine blk_drew ?_ | refine blk_alloc ?_ _)); refine blk_put (cs := #[.int .i64 a0_0, .slice none 0 0, .slice none 0 0]) ?_ 1 _ rfl; (with_reducible repeat (first | refine blk_drewN ?_ _ | refine blk_drew ?_ | refine blk_alloc ?_ _)); refine blk_put (cs := #[.int .i64 0, .slice none 0 0, .slice none 0 0]) ?_ 0 _ rfl; (with_reducible repeat (first | refine blk_drewN ?_ _ | refine blk_drew ?_ | refine blk_alloc ?_ _)); exact jb.out) Try.underlying29 rfl (by kernel_rfl)) rfl ?_
   exact ⟨_, _, by first | rfl | (simp [errW_none, errW_some] <;> rfl) | (simp [*, errW_none, errW_some] <;> rfl), by (with_reducible repeat (first | apply Kd.R_alloc | apply Kd.R_drewN | apply Kd.R_drew)); exact Kd.R_mono (Kd.R_far (p := ⟨jc, 2, none⟩) (Kd.R_far (p := ⟨jc, 1, none⟩) (Kd.R_far (p := ⟨jc, 0, none⟩) (Kd.R_types jh.out jb.out (by decide)) (fun _ hk => hk.2) (.int .i64 a0_0)) (fun _ hk => hk.2) (.slice Ao15 jl.length co15)) (fun _ hk => hk.2) (.slice Ao14 jt.length co14)) (fun _ hk => hk.1.2), by (with_reducible repeat (first | apply Kd.R_alloc | apply Kd.R_drewN | apply Kd.R_drew)); exact Kd.R_mono (Kd.R_far (p := ⟨jc, 2, none⟩) (Kd.R_far (p := ⟨jc, 1, none⟩) (Kd.R_far (p := ⟨jc, 0, none⟩) (Kd.R_types jx.out jb.out (by decide)) (fun _ hk => hk.2) (.int .i64 a0_0)) (fun _ hk => hk.2) (.slice Ao15 jl.length co15)) (fun _ hk => hk.2) (.slice Ao14 jt.length co14)) (fun _ hk => hk.1), by repeat (first | (with_reducible first | exact HB.out | apply below_alloc | apply pw_below_drewN | apply below_drew1 | refine below_set ?_ jy.out | refine below_set ?_ jz.out) | exact HB.out)⟩
  ·rw [if_neg c3] at H
   exact absurd H (by simp)
 ·rw [if_neg c2] at H
  exact absurd H (by simp)

end Go.Proofs.Ytjldpnhlegbjkaa.PA
