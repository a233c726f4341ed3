import Derived.Test.YtjldpnhlegbjkaaPAx0
import Derived.Test.YtjldpnhlegbjkaaPAx27
namespace Go.Proofs.Ytjldpnhlegbjkaa.PA
open Go.RowKit Go.Proofs.YtjldpnhlegbjkaaW.PrintWords Go.Proofs.YtjldpnhlegbjkaaW.PrintLast Go.Proofs.YtjldpnhlegbjkaaW.PrintMore
attribute [local go_sem] max2_int min2_int max_two min_two max_three min_three max_four min_four
set_option linter.unusedVariables false
set_option linter.unusedSimpArgs false

def impl_lockClone.f (a0_0 : Int) (l0_1 : List (S45)) (l0_2 : List (S45)) : Option (Int × (List (S45)) × (List (S45))) := (impl_Hold_56.f l0_1).bind fun t510003 => ((impl_Hold_56.f l0_2).bind fun t510006 => (some (a0_0, t510003, t510006)))
def impl_lockClone.T1 : Bool × List (List Nat × List Nat) := (true, [([], []), ([0], [0]), ([], []), ([2], [2]), ([3], [3]), ([], []), ([5], [5]), ([6, 4], [6]), ([1, 4, 7], [1, 4, 7]), ([8, 7, 0, 1, 2, 3, 4, 5, 6, 7, 8], [8])])
def impl_lockClone.B1 : List Nat := [0, 1, 0, 4, 12, 0, 32, 124, 255, 511]
theorem impl_lockClone.tab1 : rtab .any (opsOf Try.f50 1) = impl_lockClone.T1 := by kernel_rfl
theorem impl_lockClone.bits1 : waitsOk impl_lockClone.T1.2 impl_lockClone.B1 = true := by kernel_rfl
set_option maxHeartbeats 8000000 in
set_option maxRecDepth 100000 in
theorem impl_lockClone.calls (a0_0 : Int) (A0_1 : Option Addr) (c0_1 : Nat) (l0_1 : List (S45)) (A0_2 : Option Addr) (c0_2 : Nat) (l0_2 : List (S45)) (r1 : Int) (r2 : List (S45)) (r3 : List (S45)) (w : World) (hr0_1 : Kd.C k45 w A0_1 l0_1.length l0_1) (hc0_1 : l0_1.length ≤ c0_1) (hr0_2 : Kd.C k45 w A0_2 l0_2.length l0_2) (hc0_2 : l0_2.length ≤ c0_2) (h : impl_lockClone.f a0_0 l0_1 l0_2 = some (r1, r2, r3)) :
 Calls Try.prog 50 #[.agg #[.int .i64 a0_0, .slice A0_1 l0_1.length c0_1, .slice A0_2 l0_2.length c0_2]] w fun e w' => ∃ v1_ v2_ : Value, e = .returned (.agg #[.int .i64 r1, v1_, v2_]) ∧ Kd.R k45 45 w' w.heap.size (fun k_ => some k_ ≠ (v2_ : Value).ownBlock) v1_ r2 ∧ Kd.R k45 45 w' w.heap.size (fun k_ => some k_ ≠ (v1_ : Value).ownBlock) v2_ r3 ∧ Below w.heap.size w w' := by
 have hu29 := Try.underlying29
 have HR0_1 := Aside0.mk hr0_1
 have HC0_1 := Aside0.mk hc0_1
 clear hr0_1 hc0_1
 have HR0_2 := Aside0.mk hr0_2
 have HC0_2 := Aside0.mk hc0_2
 clear hr0_2 hc0_2
 have HB := Aside0.mk (Below.refl w.heap.size w)
 have H : ((impl_Hold_56.f l0_1).bind fun jg => ((impl_Hold_56.f l0_2).bind fun jf => (some (a0_0, jg, jf)))) = some (r1, r2, r3) := h
 clear h
 replace H := Option.bind_eq_some_iff.mp H
 obtain ⟨jg, A20, H⟩ := H
 replace H : ((impl_Hold_56.f l0_2).bind fun jf => (some (a0_0, jg, jf))) = some (r1, r2, r3) := H
 have A2 := Aside0.mk A20
 clear A20
 replace H := Option.bind_eq_some_iff.mp H
 obtain ⟨jf, A30, H⟩ := H
 replace H : (some (a0_0, jg, jf)) = some (r1, r2, r3) := H
 have A3 := Aside0.mk A30
 clear A30
 simp only [Option.some.injEq, Prod.mk.injEq] at H
 obtain ⟨rfl, rfl, rfl⟩ := H
 go_enter Try.func50, Try.ntmps50
 try go_wp2_with (first | ((with_reducible refine gate_dst (N := 1) rfl ?_); refine box_event ?hg (N := 1) ?hd (cs := #[.int .i64 a0_0, .slice A0_1 l0_1.length c0_1, .slice A0_2 l0_2.length c0_2]) (t := 29) ?hr ?_; (case hd => rfl); (case hg => rfl); (case hr => first | (go_simp; done) | (go_simp; rfl)); intro je hg w4 hbox hb; have n0_ := Aside0.mk (below_step (hb_ HB.out) hb); have n1_ := Aside0.mk (hbox); have n2_ := Aside0.mk ((by rw [hg]; exact (below_size (hb_ HB.out)) : w.heap.size ≤ je)); have n3_ := Aside0.mk ((by rw [hg]; exact (below_size (hb_ HB.out)) : w.heap.size ≤ je)); clear HB; have HB := n0_; have ja := n1_; have jp := n2_; have jk := n3_; clear n0_ n1_ n2_ n3_; clear hb hbox hg) | ((with_reducible refine gate_dst (N := 2) rfl ?_); refine box_event ?hg (N := 2) ?hd (cs := #[.int .i64 0, .slice none 0 0, .slice none 0 0]) (t := 29) ?hr ?_; (case hd => rfl); (case hg => rfl); (case hr => first | (go_simp; done) | (go_simp; rfl)); intro jb hg w5 hbox hb; have n0_ := Aside0.mk (blk_below (bk_ ja.out) hb); have n1_ := Aside0.mk (below_step (hb_ HB.out) hb); have n2_ := Aside0.mk (hbox); have n3_ := Aside0.mk ((by rw [hg]; exact (below_size (hb_ HB.out)) : w.heap.size ≤ jb)); have n4_ := Aside0.mk ((by rw [hg]; exact (below_size (hb_ HB.out)) : w.heap.size ≤ jb)); have n5_ := Aside0.mk ((by rw [hg]; exact Nat.ne_of_lt (blk_lt (g := je) (o := .cells #[.int .i64 a0_0, .slice A0_1 l0_1.length c0_1, .slice A0_2 l0_2.length c0_2] 29 (0, 0)) (bk_ ja.out)) : je ≠ jb)); have n6_ := Aside0.mk ((by rw [hg]; exact Nat.ne_of_gt (blk_lt (g := je) (o := .cells #[.int .i64 a0_0, .slice A0_1 l0_1.length c0_1, .slice A0_2 l0_2.length c0_2] 29 (0, 0)) (bk_ ja.out)) : jb ≠ je)); clear ja; clear HB; have ja := n0_; have HB := n1_; have jc := n2_; have jn := n3_; have jl := n4_; have jd := n5_; have ji := n6_; clear n0_ n1_ n2_ n3_ n4_ n5_ n6_; clear hb hbox hg))
 have n0_ := Aside0.mk (blk_drew ja.out)
 have n1_ := Aside0.mk (blk_drew jc.out)
 have n2_ := Aside0.mk (below_drew1 HB.out)
 clear ja
 clear jc
 clear HB
 have ja := n0_
 have jc := n1_
 have HB := n2_
 clear n0_ n1_ n2_
 refine start_ (n := 10) (S := fun w' => w'.cell? ⟨je, 0, none⟩ = some (.int .i64 a0_0) ∧ w'.cell? ⟨je, 1, none⟩ = some (.slice A0_1 l0_1.length c0_1) ∧ w'.cell? ⟨je, 2, none⟩ = some (.slice A0_2 l0_2.length c0_2)) (ds := []) (bt_ 10 0) (by kernel_rfl) rfl rfl ⟨(blk_cell ja.out 0).trans rfl, (blk_cell ja.out 1).trans rfl, (blk_cell ja.out 2).trans rfl⟩ (fun hHeld => ?_); refine with_tabW impl_lockClone.tab1 impl_lockClone.bits1 (fun HT_ HW_ => ?_)
 generalize w5.drew = w6 at ja jc HB hHeld ⊢
 refine pu_ 0 (some 3) (bt_ 10 1) (any_of HT_.out (by kernel_rfl)) ?_
 refine pu_ 2 (some 5) (bt_ 10 5) (any_of HT_.out (by kernel_rfl)) ?_
 refine pu_ 5 (some 8) (bt_ 10 37) (any_of HT_.out (by kernel_rfl)) ?_
 refine tk_ 1 (some 4) (bt_ 10 39) (take_ofW HT_.out HW_.out (by kernel_rfl)) hHeld ?_
 refine tk_ 3 (some 6) (bt_ 10 47) (take_ofW HT_.out HW_.out (by kernel_rfl)) hHeld ?_
 refine tk_ 6 (some 9) (bt_ 10 111) (take_ofW HT_.out HW_.out (by kernel_rfl)) hHeld ?_
 refine one_ (i := 4) (N := some 7) (bt_ 10 127) rfl rfl (one_of HT_.out (by kernel_rfl)) (by decide) (fun K hK => ?_)
 refine goes_ Try.func56 (by kernel_rfl) rfl #[.slice A0_1 l0_1.length c0_1] (by rfl) rfl rfl (by (try simp only [List.map_toArray, List.map_cons, List.map_nil]); first | done | rfl | (simp only [List.length_drop, List.length_take]; rfl)) ?_
 with_reducible refine (impl_Hold_56.calls _ _ l0_1 jg _ ?side1 ?side2 A2.out).mono ?_
 (case side1 => repeat (first | exact (Kd.C_below HR0_1.out HB.out) | (with_reducible refine Kd.C_alloc ?_ _) | (with_reducible refine Kd.C_drewN ?_ _) | (with_reducible refine Kd.C_drew ?_)))
 (case side2 => exact HC0_1.out)
 rintro e w7 ⟨jm, rfl, ho0, hb⟩
 refine ⟨_, rfl, ?_⟩
 have n0_ := Aside0.mk (Kd.R_lower ho0 (below_size (hb_ HB.out)))
 have n1_ := Aside0.mk (blk_below (bk_ ja.out) hb)
 have n2_ := Aside0.mk (blk_below (bk_ jc.out) hb)
 have n3_ := Aside0.mk (below_step (hb_ HB.out) hb)
 clear ja
 clear jc
 clear HB
 have jh := n0_
 have ja := n1_
 have jc := n2_
 have HB := n3_
 clear n0_ n1_ n2_ n3_
 (try clear hb)
 (try clear hb2)
 (try clear hk)
 (try clear hi)
 (try clear ho0)
 refine hK.out _ _ ⟨(blk_cell ja.out 0).trans rfl, (blk_cell ja.out 1).trans rfl, (blk_cell ja.out 2).trans rfl⟩ (fun hHeld => ?_)
 clear hK K
 refine norm_ (a' := ?_) ?_ ?_
 rotate_left
 ·show Act.put _ (some 7) _ = _
  simp only [Act.put, List.setIfInBounds_toArray, List.set_cons_zero, List.set_cons_succ, i64_w, i32_w]
  rfl
 refine one_ (i := 7) (N := some 10) (bt_ 10 255) rfl rfl (one_of HT_.out (by kernel_rfl)) (by decide) (fun K hK => ?_)
 refine goes_ Try.func56 (by kernel_rfl) rfl #[.slice A0_2 l0_2.length c0_2] (by rfl) rfl rfl (by (try simp only [List.map_toArray, List.map_cons, List.map_nil]); first | done | rfl | (simp only [List.length_drop, List.length_take]; rfl)) ?_
 with_reducible refine (impl_Hold_56.calls _ _ l0_2 jf _ ?side1 ?side2 A3.out).mono ?_
 (case side1 => repeat (first | exact (Kd.C_below HR0_2.out HB.out) | (with_reducible refine Kd.C_alloc ?_ _) | (with_reducible refine Kd.C_drewN ?_ _) | (with_reducible refine Kd.C_drew ?_)))
 (case side2 => exact HC0_2.out)
 rintro e w8 ⟨jo, rfl, ho0, hb⟩
 refine ⟨_, rfl, ?_⟩
 have n0_ := Aside0.mk (Kd.R_elder' (kr_ jh.out) (Kd.R_base ho0) hb)
 have n1_ := Aside0.mk (Kd.R_lower (Kd.R_new' ho0 (Kd.R_lt (kr_ jh.out))) (below_size (hb_ HB.out)))
 have n2_ := Aside0.mk (blk_below (bk_ ja.out) hb)
 have n3_ := Aside0.mk (blk_below (bk_ jc.out) hb)
 have n4_ := Aside0.mk (below_step (hb_ HB.out) hb)
 clear jh
 clear ja
 clear jc
 clear HB
 have jh := n0_
 have jj := n1_
 have ja := n2_
 have jc := n3_
 have HB := n4_
 clear n0_ n1_ n2_ n3_ n4_
 (try clear hb)
 (try clear hb2)
 (try clear hk)
 (try clear hi)
 (try clear ho0)
 obtain ⟨Ao9, co9, eo9⟩ := Kd.R_slice jj.out
 (first | subst eo9 | (injection eo9 with f1_ f2_ f3_; have f4_ := f1_.symm; have f5_ := f3_.symm; clear f1_ f2_ f3_; subst f4_; subst f5_))
 obtain ⟨Ao10, co10, eo10⟩ := Kd.R_slice jh.out
 (first | subst eo10 | (injection eo10 with f1_ f2_ f3_; have f4_ := f1_.symm; have f5_ := f3_.symm; clear f1_ f2_ f3_; subst f4_; subst f5_))
 refine hK.out _ _ ⟨(blk_cell ja.out 0).trans rfl, (blk_cell ja.out 1).trans rfl, (blk_cell ja.out 2).trans rfl⟩ (fun hHeld => ?_)
 clear hK K
 refine norm_ (a' := ?_) ?_ ?_
 rotate_left
 ·show Act.put _ (some 10) _ = _
  simp only [Act.put, List.setIfInBounds_toArray, List.set_cons_zero, List.set_cons_succ, i64_w, i32_w]
  rfl
 refine pu_ 8 (some 11) (bt_ 10 511) (any_of HT_.out (by kernel_rfl)) ?_
 refine one_ (i := 9) (N := none) (bt_ 10 1023) rfl rfl (one_of HT_.out (by kernel_rfl)) (by decide) (fun K hK => ?_)
 have hs11 : w8.cell? ⟨jb, 0, none⟩ = some (.int .i64 0) := (blk_cell jc.out 0).trans rfl
 have hfs11 := blk_frozen jc.out 0
 have hns11_0 := jd.out
 have hms11_0 := ji.out
 have hs12 : w8.cell? ⟨jb, 1, none⟩ = some (.slice none 0 0) := (blk_cell jc.out 1).trans rfl
 have hfs12 := blk_frozen jc.out 1
 have hns12_0 := jd.out
 have hms12_0 := ji.out
 have hs13 : w8.cell? ⟨jb, 2, none⟩ = some (.slice none 0 0) := (blk_cell jc.out 2).trans rfl
 have hfs13 := blk_frozen jc.out 2
 have hns13_0 := jd.out
 have hms13_0 := ji.out
 refine skip_ (w1 := ?_) (by rfl) rfl ?_ ?_
 rotate_left
 ·go_simp
  rfl
 refine hK.out _ _ ⟨((cell_far (p := ⟨jb, _, none⟩) jd.out _).trans (((cell_far (p := ⟨jb, _, none⟩) jd.out _).trans (((cell_far (p := ⟨jb, _, none⟩) jd.out _).trans (hHeld.1)))))), ((cell_far (p := ⟨jb, _, none⟩) jd.out _).trans (((cell_far (p := ⟨jb, _, none⟩) jd.out _).trans (((cell_far (p := ⟨jb, _, none⟩) jd.out _).trans (hHeld.2.1)))))), ((cell_far (p := ⟨jb, _, none⟩) jd.out _).trans (((cell_far (p := ⟨jb, _, none⟩) jd.out _).trans (((cell_far (p := ⟨jb, _, none⟩) jd.out _).trans (hHeld.2.2))))))⟩ (fun hHeld => ?_)
 clear hK K
 refine done_ (done_of HT_.out (by kernel_rfl)) ?_
 try go_wp2
 refine bodyPost_ret (results_cell_row rfl _ _ jb 29 #[.int .i64 a0_0, .slice Ao10 jg.length co10, .slice Ao9 jf.length co9] (0, 0) _ rfl (by (with_reducible repeat (first | refine blk_drewN ?_ _ | refine blk_drew ?_ | refine blk_alloc ?_ _)); refine blk_put (cs := #[.int .i64 a0_0, .slice Ao10 jg.length co10, .slice none 0 0]) ?_ 2 _ rfl; (with_reducible repeat (first | refine blk_drewN ?_ _ | refine blk_drew ?_ | refine blk_alloc ?_ _)); refine blk_put (cs := #[.int .i64 a0_0, .slice none 0 0, .slice none 0 0]) ?_ 1 _ rfl; (with_reducible repeat (first | refine blk_drewN ?_ _ | refine blk_drew ?_ | refine blk_alloc ?_ _)); refine blk_put (cs := #[.int .i64 0, .slice none 0 0, .slice none 0 0]) ?_ 0 _ rfl; (with_reducible repeat (first | refine blk_drewN ?_ _ | refine blk_drew ?_ | refine blk_alloc ?_ _)); exact jc.out) Try.underlying29 rfl (by kernel_rfl)) rfl ?_
 exact ⟨_, _, by first | rfl | (simp [errW_none, errW_some] <;> rfl) | (simp [*, errW_none, errW_some] <;> rfl), by (with_reducible repeat (first | apply Kd.R_alloc | apply Kd.R_drewN | apply Kd.R_drew)); exact Kd.R_mono (Kd.R_far (p := ⟨jb, 2, none⟩) (Kd.R_far (p := ⟨jb, 1, none⟩) (Kd.R_far (p := ⟨jb, 0, none⟩) (Kd.R_types jh.out jc.out (by decide)) (fun _ hk => hk.2) (.int .i64 a0_0)) (fun _ hk => hk.2) (.slice Ao10 jg.length co10)) (fun _ hk => hk.2) (.slice Ao9 jf.length co9)) (fun _ hk => hk.1.2), by (with_reducible repeat (first | apply Kd.R_alloc | apply Kd.R_drewN | apply Kd.R_drew)); exact Kd.R_mono (Kd.R_far (p := ⟨jb, 2, none⟩) (Kd.R_far (p := ⟨jb, 1, none⟩) (Kd.R_far (p := ⟨jb, 0, none⟩) (Kd.R_types jj.out jc.out (by decide)) (fun _ hk => hk.2) (.int .i64 a0_0)) (fun _ hk => hk.2) (.slice Ao10 jg.length co10)) (fun _ hk => hk.2) (.slice Ao9 jf.length co9)) (fun _ hk => hk.1.2), by repeat (first | (with_reducible first | exact HB.out | apply below_alloc | apply pw_below_drewN | apply below_drew1 | refine below_set ?_ jk.out | refine below_set ?_ jl.out) | exact HB.out)⟩

end Go.Proofs.Ytjldpnhlegbjkaa.PA
