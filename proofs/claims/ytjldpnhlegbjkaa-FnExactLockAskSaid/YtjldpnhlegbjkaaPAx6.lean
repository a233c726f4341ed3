import Derived.Test.YtjldpnhlegbjkaaPAx0
import Derived.Test.YtjldpnhlegbjkaaPAx5
namespace Go.Proofs.Ytjldpnhlegbjkaa.PA
open Go.RowKit Go.Proofs.YtjldpnhlegbjkaaW.PrintWords Go.Proofs.YtjldpnhlegbjkaaW.PrintLast Go.Proofs.YtjldpnhlegbjkaaW.PrintMore
attribute [local go_sem] max2_int min2_int max_two min_two max_three min_three max_four min_four
set_option linter.unusedVariables false
set_option linter.unusedSimpArgs false

def laws_toLock.f (k : Nat) (a0_0 : Int) (l0_1 : List (S42)) (l0_2 : List (S42)) : Option (Int × (List (S45)) × (List (S45))) := (laws_toHoldS.f k l0_1).bind fun t180004 => ((laws_toHoldS.f k l0_2).bind fun t180007 => (some (a0_0, t180004, t180007)))
theorem laws_toLock.mono : ∀ a0 a1 a2 k, LeO (laws_toLock.f k a0 a1 a2) (laws_toLock.f (k + 1) a0 a1 a2) := by
 intro a0 a1 a2 k
 unfold laws_toLock.f
 repeat' first
  | (with_reducible exact laws_toHoldS.mono _ _)
  | (with_reducible exact LeO.refl _)
  | (with_reducible exact LeO.none _)
  | (with_reducible refine LeO.ite ?_ ?_)
  | (with_reducible refine LeO.bind ?_ (fun _ => ?_))
  | exact laws_toHoldS.mono _ _
  | exact LeO.none _
  | refine LeO.ite ?_ ?_
  | refine LeO.bind ?_ (fun _ => ?_)
set_option maxHeartbeats 8000000 in
set_option maxRecDepth 100000 in
theorem laws_toLock.calls (k : Nat) (a0_0 : Int) (A0_1 : Option Addr) (c0_1 : Nat) (l0_1 : List (S42)) (A0_2 : Option Addr) (c0_2 : Nat) (l0_2 : List (S42)) (r1 : Int) (r2 : List (S45)) (r3 : List (S45)) (w : World) (hr0_1 : Kd.C k42 w A0_1 l0_1.length l0_1) (hc0_1 : l0_1.length ≤ c0_1) (hr0_2 : Kd.C k42 w A0_2 l0_2.length l0_2) (hc0_2 : l0_2.length ≤ c0_2) (h : laws_toLock.f k a0_0 l0_1 l0_2 = some (r1, r2, r3)) :
 Calls Try.prog 17 #[.agg #[.int .i64 a0_0, .slice A0_1 l0_1.length c0_1, .slice A0_2 l0_2.length c0_2]] w fun e w' => ∃ v1_ v2_ : Value, e = .returned (.agg #[.int .i64 r1, v1_, v2_]) ∧ Kd.R k45 45 w' w.heap.size (fun k_ => some k_ ≠ (v2_ : Value).ownBlock) v1_ r2 ∧ Kd.R k45 45 w' w.heap.size (fun k_ => some k_ ≠ (v1_ : Value).ownBlock) v2_ r3 ∧ Below w.heap.size w w' := by
 have hu24 := Try.underlying24
 have hu29 := Try.underlying29
 have HR0_1 := Aside0.mk hr0_1
 have HC0_1 := Aside0.mk hc0_1
 clear hr0_1 hc0_1
 have HR0_2 := Aside0.mk hr0_2
 have HC0_2 := Aside0.mk hc0_2
 clear hr0_2 hc0_2
 have HB := Aside0.mk (Below.refl w.heap.size w)
 have H : ((laws_toHoldS.f k l0_1).bind fun jg => ((laws_toHoldS.f k l0_2).bind fun jh => (some (a0_0, jg, jh)))) = some (r1, r2, r3) := h
 clear h
 replace H := Option.bind_eq_some_iff.mp H
 obtain ⟨jg, A20, H⟩ := H
 replace H : ((laws_toHoldS.f k l0_2).bind fun jh => (some (a0_0, jg, jh))) = some (r1, r2, r3) := H
 have A2 := Aside0.mk A20
 clear A20
 replace H := Option.bind_eq_some_iff.mp H
 obtain ⟨jh, A30, H⟩ := H
 replace H : (some (a0_0, jg, jh)) = some (r1, r2, r3) := H
 have A3 := Aside0.mk A30
 clear A30
 simp only [Option.some.injEq, Prod.mk.injEq] at H
 obtain ⟨rfl, rfl, rfl⟩ := H
 go_enter Try.func17, Try.ntmps17
 go_wp2_with (first | ((with_reducible refine gate_dst (N := 1) rfl ?_); refine box_event ?hg (N := 1) ?hd (cs := #[.int .i64 a0_0, .slice A0_1 l0_1.length c0_1, .slice A0_2 l0_2.length c0_2]) (t := 24) ?hr ?_; (case hd => rfl); (case hg => rfl); (case hr => first | (go_simp; done) | (go_simp; rfl)); intro jf hg w4 hbox hb; have n0_ := Aside0.mk (below_step (hb_ HB.out) hb); have n1_ := Aside0.mk (hbox); have n2_ := Aside0.mk ((by rw [hg]; exact (below_size (hb_ HB.out)) : w.heap.size ≤ jf)); have n3_ := Aside0.mk ((by rw [hg]; exact (below_size (hb_ HB.out)) : w.heap.size ≤ jf)); clear HB; have HB := n0_; have ja := n1_; have jx := n2_; have js := n3_; clear n0_ n1_ n2_ n3_; clear hb hbox hg) | ((with_reducible refine gate_dst (N := 2) rfl ?_); refine box_event ?hg (N := 2) ?hd (cs := #[.int .i64 0, .slice none 0 0, .slice none 0 0]) (t := 29) ?hr ?_; (case hd => rfl); (case hg => rfl); (case hr => first | (go_simp; done) | (go_simp; rfl)); intro jd hg w5 hbox hb; have n0_ := Aside0.mk (blk_below (bk_ ja.out) hb); have n1_ := Aside0.mk (below_step (hb_ HB.out) hb); have n2_ := Aside0.mk (hbox); have n3_ := Aside0.mk ((by rw [hg]; exact (below_size (hb_ HB.out)) : w.heap.size ≤ jd)); have n4_ := Aside0.mk ((by rw [hg]; exact (below_size (hb_ HB.out)) : w.heap.size ≤ jd)); have n5_ := Aside0.mk ((by rw [hg]; exact Nat.ne_of_lt (blk_lt (g := jf) (o := .cells #[.int .i64 a0_0, .slice A0_1 l0_1.length c0_1, .slice A0_2 l0_2.length c0_2] 24 (0, 0)) (bk_ ja.out)) : jf ≠ jd)); have n6_ := Aside0.mk ((by rw [hg]; exact Nat.ne_of_gt (blk_lt (g := jf) (o := .cells #[.int .i64 a0_0, .slice A0_1 l0_1.length c0_1, .slice A0_2 l0_2.length c0_2] 24 (0, 0)) (bk_ ja.out)) : jd ≠ jf)); clear ja; clear HB; have ja := n0_; have HB := n1_; have je := n2_; have jv := n3_; have jq := n4_; have jo := n5_; have jm := n6_; clear n0_ n1_ n2_ n3_ n4_ n5_ n6_; clear hb hbox hg) | ((with_reducible refine gate_dst (N := 3) rfl ?_); refine box_event ?hg (N := 3) ?hd (cs := #[.int .i64 0, .slice none 0 0, .slice none 0 0]) (t := 29) ?hr ?_; (case hd => rfl); (case hg => rfl); (case hr => first | (go_simp; done) | (go_simp; rfl)); intro jc hg w6 hbox hb; have n0_ := Aside0.mk (blk_below (bk_ ja.out) hb); have n1_ := Aside0.mk (blk_below (bk_ je.out) hb); have n2_ := Aside0.mk (below_step (hb_ HB.out) hb); have n3_ := Aside0.mk (hbox); have n4_ := Aside0.mk ((by rw [hg]; exact (below_size (hb_ HB.out)) : w.heap.size ≤ jc)); have n5_ := Aside0.mk ((by rw [hg]; exact (below_size (hb_ HB.out)) : w.heap.size ≤ jc)); have n6_ := Aside0.mk ((by rw [hg]; exact Nat.ne_of_lt (blk_lt (g := jf) (o := .cells #[.int .i64 a0_0, .slice A0_1 l0_1.length c0_1, .slice A0_2 l0_2.length c0_2] 24 (0, 0)) (bk_ ja.out)) : jf ≠ jc)); have n7_ := Aside0.mk ((by rw [hg]; exact Nat.ne_of_gt (blk_lt (g := jf) (o := .cells #[.int .i64 a0_0, .slice A0_1 l0_1.length c0_1, .slice A0_2 l0_2.length c0_2] 24 (0, 0)) (bk_ ja.out)) : jc ≠ jf)); have n8_ := Aside0.mk ((by rw [hg]; exact Nat.ne_of_lt (blk_lt (g := jd) (o := .cells #[.int .i64 0, .slice none 0 0, .slice none 0 0] 29 (0, 0)) (bk_ je.out)) : jd ≠ jc)); have n9_ := Aside0.mk ((by rw [hg]; exact Nat.ne_of_gt (blk_lt (g := jd) (o := .cells #[.int .i64 0, .slice none 0 0, .slice none 0 0] 29 (0, 0)) (bk_ je.out)) : jc ≠ jd)); clear ja; clear je; clear HB; have ja := n0_; have je := n1_; have HB := n2_; have jb := n3_; have jt := n4_; have jp := n5_; have jk := n6_; have jr := n7_; have jj := n8_; have jn := n9_; clear n0_ n1_ n2_ n3_ n4_ n5_ n6_ n7_ n8_ n9_; clear hb hbox hg; have hnb7 := jo.out; have hnc7 := jm.out; have hnb8 := jk.out; have hnc8 := jr.out; have hcz9_0 : w6.cell? ⟨jf, 0, none⟩ = some (.int .i64 a0_0) := (blk_cell ja.out 0).trans rfl; have hcz9_1 : w6.cell? ⟨jf, 1, none⟩ = some (.slice A0_1 l0_1.length c0_1) := (blk_cell ja.out 1).trans rfl; have hcz9_2 : w6.cell? ⟨jf, 2, none⟩ = some (.slice A0_2 l0_2.length c0_2) := (blk_cell ja.out 2).trans rfl; have hfz9_0 := blk_frozen ja.out 0; have hfz9_1 := blk_frozen ja.out 1; have hfz9_2 := blk_frozen ja.out 2; have hnb10 := jn.out; have hnc10 := jj.out; have hcz11_0 : w6.cell? ⟨jc, 0, none⟩ = some (.int .i64 0) := (blk_cell jb.out 0).trans rfl; have hcz11_1 : w6.cell? ⟨jc, 1, none⟩ = some (.slice none 0 0) := (blk_cell jb.out 1).trans rfl; have hcz11_2 : w6.cell? ⟨jc, 2, none⟩ = some (.slice none 0 0) := (blk_cell jb.out 2).trans rfl; have hfz11_0 := blk_frozen jb.out 0; have hfz11_1 := blk_frozen jb.out 1; have hfz11_2 := blk_frozen jb.out 2) | ((with_reducible refine gate_callee (f := 41) rfl ?_); refine goesL_ (some 9) rfl rfl Try.func41 (by kernel_rfl) rfl #[.slice A0_1 l0_1.length c0_1] rfl (by (try simp only [List.map_toArray, List.map_cons, List.map_nil]); first | done | rfl | (simp only [List.length_drop, List.length_take]; rfl)) ?_; (with_reducible refine (laws_toHoldS.calls k _ _ l0_1 jg _ ?side1 ?side2 A2.out).mono ?_); (case side1 => exact Kd.C_below HR0_1.out (hb_ HB.out)); (case side2 => exact HC0_1.out); rintro e w12 ⟨jw, rfl, ho0, hb⟩; refine ⟨_, rfl, ?_⟩; have n0_ := Aside0.mk (Kd.R_lower ho0 (below_size (hb_ HB.out))); have n1_ := Aside0.mk (blk_below (g := jf) (o := .cells #[.int .i64 a0_0, .slice A0_1 l0_1.length c0_1, .slice A0_2 l0_2.length c0_2] 24 (0, 0)) (by (with_reducible repeat (first | refine blk_drewN ?_ _ | refine blk_drew ?_ | refine blk_alloc ?_ _)); refine blk_far ?_ jk.out _; (with_reducible repeat (first | refine blk_drewN ?_ _ | refine blk_drew ?_ | refine blk_alloc ?_ _)); exact ja.out) hb); have n2_ := Aside0.mk (blk_below (g := jd) (o := .cells #[.int .i64 0, .slice none 0 0, .slice none 0 0] 29 (0, 0)) (by (with_reducible repeat (first | refine blk_drewN ?_ _ | refine blk_drew ?_ | refine blk_alloc ?_ _)); refine blk_far ?_ jj.out _; (with_reducible repeat (first | refine blk_drewN ?_ _ | refine blk_drew ?_ | refine blk_alloc ?_ _)); exact je.out) hb); have n3_ := Aside0.mk (blk_below (g := jc) (o := .cells #[.int .i64 a0_0, .slice none 0 0, .slice none 0 0] 29 (0, 0)) (by (with_reducible repeat (first | refine blk_drewN ?_ _ | refine blk_drew ?_ | refine blk_alloc ?_ _)); refine blk_put (cs := #[.int .i64 0, .slice none 0 0, .slice none 0 0]) ?_ 0 _ rfl; (with_reducible repeat (first | refine blk_drewN ?_ _ | refine blk_drew ?_ | refine blk_alloc ?_ _)); exact jb.out) hb); have n4_ := Aside0.mk (below_step (hb_ HB.out) hb); clear ja; clear je; clear jb; clear HB; have ji := n0_; have ja := n1_; have je := n2_; have jb := n3_; have HB := n4_; clear n0_ n1_ n2_ n3_ n4_; (try clear hb); (try clear hb2); (try clear hk); (try clear hi); (try clear ho0); obtain ⟨Ao13, co13, eo13⟩ := Kd.R_slice ji.out; subst eo13; have hcz14_0 : w12.cell? ⟨jc, 0, none⟩ = some (.int .i64 a0_0) := (blk_cell jb.out 0).trans rfl; have hcz14_1 : w12.cell? ⟨jc, 1, none⟩ = some (.slice none 0 0) := (blk_cell jb.out 1).trans rfl; have hcz14_2 : w12.cell? ⟨jc, 2, none⟩ = some (.slice none 0 0) := (blk_cell jb.out 2).trans rfl; have hfz14_0 := blk_frozen jb.out 0; have hfz14_1 := blk_frozen jb.out 1; have hfz14_2 := blk_frozen jb.out 2; have hcz15_0 : w12.cell? ⟨jf, 0, none⟩ = some (.int .i64 a0_0) := (blk_cell ja.out 0).trans rfl; have hcz15_1 : w12.cell? ⟨jf, 1, none⟩ = some (.slice A0_1 l0_1.length c0_1) := (blk_cell ja.out 1).trans rfl; have hcz15_2 : w12.cell? ⟨jf, 2, none⟩ = some (.slice A0_2 l0_2.length c0_2) := (blk_cell ja.out 2).trans rfl; have hfz15_0 := blk_frozen ja.out 0; have hfz15_1 := blk_frozen ja.out 1; have hfz15_2 := blk_frozen ja.out 2) | ((with_reducible refine gate_callee (f := 41) rfl ?_); refine goesL_ (some 13) rfl rfl Try.func41 (by kernel_rfl) rfl #[.slice A0_2 l0_2.length c0_2] rfl (by (try simp only [List.map_toArray, List.map_cons, List.map_nil]); first | done | rfl | (simp only [List.length_drop, List.length_take]; rfl)) ?_; (with_reducible refine (laws_toHoldS.calls k _ _ l0_2 jh _ ?side1 ?side2 A3.out).mono ?_); (case side1 => exact Kd.C_below HR0_2.out (hb_ HB.out)); (case side2 => exact HC0_2.out); rintro e w16 ⟨ju, rfl, ho0, hb⟩; refine ⟨_, rfl, ?_⟩; have n0_ := Aside0.mk (Kd.R_elder' (by (with_reducible repeat (first | apply Kd.R_alloc | apply Kd.R_drewN | apply Kd.R_drew)); exact (Kd.R_mono (Kd.R_far (p := ⟨jc, 1, none⟩) (Kd.R_types ji.out jb.out (by decide)) (fun _ hk => hk.2) (.slice Ao13 jg.length co13)) (fun _ h_ => h_.1))) (Kd.R_base ho0) hb); have n1_ := Aside0.mk (Kd.R_lower (Kd.R_new' ho0 (Kd.R_lt (by (with_reducible repeat (first | apply Kd.R_alloc | apply Kd.R_drewN | apply Kd.R_drew)); exact (Kd.R_mono (Kd.R_far (p := ⟨jc, 1, none⟩) (Kd.R_types ji.out jb.out (by decide)) (fun _ hk => hk.2) (.slice Ao13 jg.length co13)) (fun _ h_ => h_.1))))) (below_size (hb_ HB.out))); have n2_ := Aside0.mk (blk_below (g := jf) (o := .cells #[.int .i64 a0_0, .slice A0_1 l0_1.length c0_1, .slice A0_2 l0_2.length c0_2] 24 (0, 0)) (by (with_reducible repeat (first | refine blk_drewN ?_ _ | refine blk_drew ?_ | refine blk_alloc ?_ _)); refine blk_far ?_ jk.out _; (with_reducible repeat (first | refine blk_drewN ?_ _ | refine blk_drew ?_ | refine blk_alloc ?_ _)); exact ja.out) hb); have n3_ := Aside0.mk (blk_below (g := jd) (o := .cells #[.int .i64 0, .slice none 0 0, .slice none 0 0] 29 (0, 0)) (by (with_reducible repeat (first | refine blk_drewN ?_ _ | refine blk_drew ?_ | refine blk_alloc ?_ _)); refine blk_far ?_ jj.out _; (with_reducible repeat (first | refine blk_drewN ?_ _ | refine blk_drew ?_ | refine blk_alloc ?_ _)); exact je.out) hb); have n4_ := Aside0.mk (blk_below (g := jc) (o := .cells #[.int .i64 a0_0, .slice Ao13 jg.length co13, .slice none 0 0] 29 (0, 0)) (by (with_reducible repeat (first | refine blk_drewN ?_ _ | refine blk_drew ?_ | refine blk_alloc ?_ _)); refine blk_put (cs := #[.int .i64 a0_0, .slice none 0 0, .slice none 0 0]) ?_ 1 _ rfl; (with_reducible repeat (first | refine blk_drewN ?_ _ | refine blk_drew ?_ | refine blk_alloc ?_ _)); exact jb.out) hb); have n5_ := Aside0.mk (below_step (hb_ HB.out) hb); clear ji; clear ja; clear je; clear jb; clear HB; have ji := n0_; have jl := n1_; have ja := n2_; have je := n3_; have jb := n4_; have HB := n5_; clear n0_ n1_ n2_ n3_ n4_ n5_; (try clear hb); (try clear hb2); (try clear hk); (try clear hi); (try clear ho0); obtain ⟨Ao17, co17, eo17⟩ := Kd.R_slice jl.out; subst eo17; have hcz18_0 : w16.cell? ⟨jc, 0, none⟩ = some (.int .i64 a0_0) := (blk_cell jb.out 0).trans rfl; have hcz18_1 : w16.cell? ⟨jc, 1, none⟩ = some (.slice Ao13 jg.length co13) := (blk_cell jb.out 1).trans rfl; have hcz18_2 : w16.cell? ⟨jc, 2, none⟩ = some (.slice none 0 0) := (blk_cell jb.out 2).trans rfl; have hfz18_0 := blk_frozen jb.out 0; have hfz18_1 := blk_frozen jb.out 1; have hfz18_2 := blk_frozen jb.out 2; have hcz19_0 : w16.cell? ⟨jd, 0, none⟩ = some (.int .i64 0) := (blk_cell je.out 0).trans rfl; have hcz19_1 : w16.cell? ⟨jd, 1, none⟩ = some (.slice none 0 0) := (blk_cell je.out 1).trans rfl; have hcz19_2 : w16.cell? ⟨jd, 2, none⟩ = some (.slice none 0 0) := (blk_cell je.out 2).trans rfl; have hfz19_0 := blk_frozen je.out 0; have hfz19_1 := blk_frozen je.out 1; have hfz19_2 := blk_frozen je.out 2))
 refine bodyPost_ret (results_cell_row rfl _ _ jd 29 #[.int .i64 a0_0, .slice Ao13 jg.length co13, .slice Ao17 jh.length co17] (0, 0) _ rfl (by (with_reducible repeat (first | refine blk_drewN ?_ _ | refine blk_drew ?_ | refine blk_alloc ?_ _)); refine blk_put (cs := #[.int .i64 a0_0, .slice Ao13 jg.length co13, .slice none 0 0]) ?_ 2 _ rfl; (with_reducible repeat (first | refine blk_drewN ?_ _ | refine blk_drew ?_ | refine blk_alloc ?_ _)); refine blk_put (cs := #[.int .i64 a0_0, .slice none 0 0, .slice none 0 0]) ?_ 1 _ rfl; (with_reducible repeat (first | refine blk_drewN ?_ _ | refine blk_drew ?_ | refine blk_alloc ?_ _)); refine blk_put (cs := #[.int .i64 0, .slice none 0 0, .slice none 0 0]) ?_ 0 _ rfl; (with_reducible repeat (first | refine blk_drewN ?_ _ | refine blk_drew ?_ | refine blk_alloc ?_ _)); refine blk_far ?_ jj.out _; (with_reducible repeat (first | refine blk_drewN ?_ _ | refine blk_drew ?_ | refine blk_alloc ?_ _)); exact je.out) Try.underlying29 rfl (by kernel_rfl)) rfl ?_
 exact ⟨_, _, by first | rfl | (simp [errW_none, errW_some] <;> rfl) | (simp [*, errW_none, errW_some] <;> rfl), by (with_reducible repeat (first | apply Kd.R_alloc | apply Kd.R_drewN | apply Kd.R_drew)); exact Kd.R_mono (Kd.R_far (p := ⟨jd, 2, none⟩) (Kd.R_far (p := ⟨jd, 1, none⟩) (Kd.R_far (p := ⟨jd, 0, none⟩) (Kd.R_far (p := ⟨jc, 2, none⟩) (Kd.R_types (Kd.R_types ji.out jb.out (by decide)) je.out (by decide)) (fun _ hk => hk.1.2) (.slice Ao17 jh.length co17)) (fun _ hk => hk.2) (.int .i64 a0_0)) (fun _ hk => hk.2) (.slice Ao13 jg.length co13)) (fun _ hk => hk.2) (.slice Ao17 jh.length co17)) (fun _ hk => hk.1.1.2), by (with_reducible repeat (first | apply Kd.R_alloc | apply Kd.R_drewN | apply Kd.R_drew)); exact Kd.R_mono (Kd.R_far (p := ⟨jd, 2, none⟩) (Kd.R_far (p := ⟨jd, 1, none⟩) (Kd.R_far (p := ⟨jd, 0, none⟩) (Kd.R_far (p := ⟨jc, 2, none⟩) (Kd.R_types (Kd.R_types jl.out jb.out (by decide)) je.out (by decide)) (fun _ hk => hk.1.2) (.slice Ao17 jh.length co17)) (fun _ hk => hk.2) (.int .i64 a0_0)) (fun _ hk => hk.2) (.slice Ao13 jg.length co13)) (fun _ hk => hk.2) (.slice Ao17 jh.length co17)) (fun _ hk => hk.1.1.2), by repeat (first | (with_reducible first | exact HB.out | apply below_alloc | apply pw_below_drewN | apply below_drew1 | refine below_set ?_ js.out | refine below_set ?_ jq.out | refine below_set ?_ jp.out) | exact HB.out)⟩

def laws_eqHold.f (a0_0 : Int) (a0_1 : Int) (a0_2 : Bool) (a0_3 : Bool) (a1_0 : Int) (a1_1 : Int) (a1_2 : Bool) (a1_3 : Bool) : Option (Bool) := if a0_0 = a1_0 then (if a0_1 = a1_1 then (if (a0_2 != a1_2) = true then (none) else (if (a0_3 != a1_3) = true then (none) else (some true))) else (none)) else (none)
set_option maxHeartbeats 8000000 in
set_option maxRecDepth 100000 in
theorem laws_eqHold.calls (a0_0 : Int) (a0_1 : Int) (a0_2 : Bool) (a0_3 : Bool) (a1_0 : Int) (a1_1 : Int) (a1_2 : Bool) (a1_3 : Bool) (r : Bool) (w : World) (h : laws_eqHold.f a0_0 a0_1 a0_2 a0_3 a1_0 a1_1 a1_2 a1_3 = some r) :
 Calls Try.prog 60 #[.agg #[.int .i64 a0_0, .int .i64 a0_1, .bool a0_2, .bool a0_3], .agg #[.int .i64 a1_0, .int .i64 a1_1, .bool a1_2, .bool a1_3]] w fun e w' => e = .returned (.bool r) ∧ Below w.heap.size w w' := by
 have hu45 := Try.underlying45
 have HB := Aside0.mk (Below.refl w.heap.size w)
 have H : (if a0_0 = a1_0 then (if a0_1 = a1_1 then (if (a0_2 != a1_2) = true then (none) else (if (a0_3 != a1_3) = true then (none) else (some true))) else (none)) else (none)) = some r := h
 clear h
 by_cases c3 : a0_0 = a1_0
 ·rw [if_pos c3] at H
  have c3b0 : (a0_0 == a1_0) = true := beq_iff_eq.mpr c3
  have c3b1 : (a0_0 != a1_0) = false := bne_eq_false_iff_eq.mpr c3
  clear c3
  by_cases c4 : a0_1 = a1_1
  ·rw [if_pos c4] at H
   have c4b0 : (a0_1 == a1_1) = true := beq_iff_eq.mpr c4
   have c4b1 : (a0_1 != a1_1) = false := bne_eq_false_iff_eq.mpr c4
   clear c4
   by_cases c5 : (a0_2 != a1_2) = true
   ·rw [if_pos c5] at H
    have c5b0 : (a0_2 != a1_2) = true := c5
    (try (have c5b1 : decide (a0_2 = a1_2) = false := by simpa using c5))
    (try (have c5b2 : (a0_2 == a1_2) = false := by simpa using c5))
    (try (have c5b3 : ¬ (a0_2 = a1_2) := by simpa using c5))
    clear c5
    cases H
   ·rw [if_neg c5] at H
    have c5b0 : (a0_2 != a1_2) = false := by simpa using c5
    (try (have c5b1 : decide (a0_2 = a1_2) = true := by simpa using c5))
    (try (have c5b2 : (a0_2 == a1_2) = true := by simpa using c5))
    clear c5
    by_cases c11 : (a0_3 != a1_3) = true
    ·rw [if_pos c11] at H
     have c11b0 : (a0_3 != a1_3) = true := c11
     (try (have c11b1 : decide (a0_3 = a1_3) = false := by simpa using c11))
     (try (have c11b2 : (a0_3 == a1_3) = false := by simpa using c11))
     (try (have c11b3 : ¬ (a0_3 = a1_3) := by simpa using c11))
     clear c11
     cases H
    ·rw [if_neg c11] at H
     have c11b0 : (a0_3 != a1_3) = false := by simpa using c11
     (try (have c11b1 : decide (a0_3 = a1_3) = true := by simpa using c11))
     (try (have c11b2 : (a0_3 == a1_3) = true := by simpa using c11))
     clear c11
     obtain rfl := Option.some.inj H
     go_enter Try.func60, Try.ntmps60
     go_wp2_with (first | ((with_reducible refine gate_dst (N := 2) rfl ?_); refine box_event ?hg (N := 2) ?hd (cs := #[.int .i64 a0_0, .int .i64 a0_1, .bool a0_2, .bool a0_3]) (t := 45) ?hr ?_; (case hd => rfl); (case hg => rfl); (case hr => first | (go_simp; done) | (go_simp; rfl)); intro jb hg w17 hbox hb; have n0_ := Aside0.mk (below_step (hb_ HB.out) hb); have n1_ := Aside0.mk (hbox); have n2_ := Aside0.mk ((by rw [hg]; exact (below_size (hb_ HB.out)) : w.heap.size ≤ jb)); have n3_ := Aside0.mk ((by rw [hg]; exact (below_size (hb_ HB.out)) : w.heap.size ≤ jb)); clear HB; have HB := n0_; have ja := n1_; have ji := n2_; have jg := n3_; clear n0_ n1_ n2_ n3_; clear hb hbox hg) | ((with_reducible refine gate_dst (N := 3) rfl ?_); refine box_event ?hg (N := 3) ?hd (cs := #[.int .i64 a1_0, .int .i64 a1_1, .bool a1_2, .bool a1_3]) (t := 45) ?hr ?_; (case hd => rfl); (case hg => rfl); (case hr => first | (go_simp; done) | (go_simp; rfl)); intro jd hg w18 hbox hb; have n0_ := Aside0.mk (blk_below (bk_ ja.out) hb); have n1_ := Aside0.mk (below_step (hb_ HB.out) hb); have n2_ := Aside0.mk (hbox); have n3_ := Aside0.mk ((by rw [hg]; exact (below_size (hb_ HB.out)) : w.heap.size ≤ jd)); have n4_ := Aside0.mk ((by rw [hg]; exact (below_size (hb_ HB.out)) : w.heap.size ≤ jd)); have n5_ := Aside0.mk ((by rw [hg]; exact Nat.ne_of_lt (blk_lt (g := jb) (o := .cells #[.int .i64 a0_0, .int .i64 a0_1, .bool a0_2, .bool a0_3] 45 (0, 0)) (bk_ ja.out)) : jb ≠ jd)); have n6_ := Aside0.mk ((by rw [hg]; exact Nat.ne_of_gt (blk_lt (g := jb) (o := .cells #[.int .i64 a0_0, .int .i64 a0_1, .bool a0_2, .bool a0_3] 45 (0, 0)) (bk_ ja.out)) : jd ≠ jb)); clear ja; clear HB; have ja := n0_; have HB := n1_; have jc := n2_; have jj := n3_; have je := n4_; have jf := n5_; have jh := n6_; clear n0_ n1_ n2_ n3_ n4_ n5_ n6_; clear hb hbox hg; have hnb19 := jf.out; have hnc19 := jh.out; have hcz20_0 : w18.cell? ⟨jb, 0, none⟩ = some (.int .i64 a0_0) := (blk_cell ja.out 0).trans rfl; have hcz20_1 : w18.cell? ⟨jb, 1, none⟩ = some (.int .i64 a0_1) := (blk_cell ja.out 1).trans rfl; have hcz20_2 : w18.cell? ⟨jb, 2, none⟩ = some (.bool a0_2) := (blk_cell ja.out 2).trans rfl; have hcz20_3 : w18.cell? ⟨jb, 3, none⟩ = some (.bool a0_3) := (blk_cell ja.out 3).trans rfl; have hfz20_0 := blk_frozen ja.out 0; have hfz20_1 := blk_frozen ja.out 1; have hfz20_2 := blk_frozen ja.out 2; have hfz20_3 := blk_frozen ja.out 3; have hcz21_0 : w18.cell? ⟨jd, 0, none⟩ = some (.int .i64 a1_0) := (blk_cell jc.out 0).trans rfl; have hcz21_1 : w18.cell? ⟨jd, 1, none⟩ = some (.int .i64 a1_1) := (blk_cell jc.out 1).trans rfl; have hcz21_2 : w18.cell? ⟨jd, 2, none⟩ = some (.bool a1_2) := (blk_cell jc.out 2).trans rfl; have hcz21_3 : w18.cell? ⟨jd, 3, none⟩ = some (.bool a1_3) := (blk_cell jc.out 3).trans rfl; have hfz21_0 := blk_frozen jc.out 0; have hfz21_1 := blk_frozen jc.out 1; have hfz21_2 := blk_frozen jc.out 2; have hfz21_3 := blk_frozen jc.out 3))
     go_ret
     exact ⟨by first | rfl | (simp [errW_none, errW_some] <;> rfl) | (simp [*, errW_none, errW_some] <;> rfl), by repeat (first | (with_reducible first | exact HB.out | apply below_alloc | apply pw_below_drewN | apply below_drew1 | refine below_set ?_ jg.out | refine below_set ?_ je.out) | exact HB.out)⟩
  ·rw [if_neg c4] at H
   have c4b0 : (a0_1 == a1_1) = false := beq_eq_false_iff_ne.mpr c4
   have c4b1 : (a0_1 != a1_1) = true := bne_iff_ne.mpr c4
   cases H
 ·rw [if_neg c3] at H
  have c3b0 : (a0_0 == a1_0) = false := beq_eq_false_iff_ne.mpr c3
  have c3b1 : (a0_0 != a1_0) = true := bne_iff_ne.mpr c3
  cases H

end Go.Proofs.Ytjldpnhlegbjkaa.PA
