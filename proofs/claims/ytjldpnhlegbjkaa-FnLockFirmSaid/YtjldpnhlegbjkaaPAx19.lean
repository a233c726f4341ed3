import Derived.Test.YtjldpnhlegbjkaaPAx0
namespace Go.Proofs.Ytjldpnhlegbjkaa.PA
open Go.RowKit Go.Proofs.YtjldpnhlegbjkaaW.PrintWords Go.Proofs.YtjldpnhlegbjkaaW.PrintLast Go.Proofs.YtjldpnhlegbjkaaW.PrintMore
attribute [local go_sem] max2_int min2_int max_two min_two max_three min_three max_four min_four
set_option linter.unusedVariables false
set_option linter.unusedSimpArgs false

def spec_l11Put.l0 : Nat → List (S45) → List (S45) → Bool → Int → Int → Int → Bool → Bool → Option ((List (S45)))
 | 0, _, _, _, _, _, _, _, _ => none
 | k + 1, x0, x5, x6, x7, x540002000, x540002001, x540002002, x540002003 => if x7 < (x0.length : Int) then (if x6 = true then (if 0 ≤ x7 then (if x5.length < 5864062014805 then (spec_l11Put.l0 k x0 (x5 ++ [(⟨(rd_T45 x0 x7).f0, (rd_T45 x0 x7).f1, (rd_T45 x0 x7).f2, (rd_T45 x0 x7).f3⟩ : S45)]) x6 (wrap64 (x7 + 1)) x540002000 x540002001 x540002002 x540002003) else (none)) else (none)) else (if 0 ≤ x7 then (if ((rd_T45 x0 x7).f0) > x540002000 then (if x5.length < 5864062014805 then ((some (x5 ++ [(⟨x540002000, x540002001, x540002002, x540002003⟩ : S45)] : List (S45))).bind fun y540010 => (if y540010.length < 5864062014805 then (spec_l11Put.l0 k x0 (y540010 ++ [(⟨(rd_T45 x0 x7).f0, (rd_T45 x0 x7).f1, (rd_T45 x0 x7).f2, (rd_T45 x0 x7).f3⟩ : S45)]) true (wrap64 (x7 + 1)) x540002000 x540002001 x540002002 x540002003) else (none))) else (none)) else (if x5.length < 5864062014805 then (spec_l11Put.l0 k x0 (x5 ++ [(⟨(rd_T45 x0 x7).f0, (rd_T45 x0 x7).f1, (rd_T45 x0 x7).f2, (rd_T45 x0 x7).f3⟩ : S45)]) x6 (wrap64 (x7 + 1)) x540002000 x540002001 x540002002 x540002003) else (none))) else (none))) else (if x6 = true then (some x5) else (if x5.length < 5864062014805 then (some (x5 ++ [(⟨x540002000, x540002001, x540002002, x540002003⟩ : S45)])) else (none)))
def spec_l11Put.f (k : Nat) (l0 : List (S45)) (a1_0 : Int) (a1_1 : Int) (a1_2 : Bool) (a1_3 : Bool) : Option ((List (S45))) := spec_l11Put.l0 k l0 (([] : List (S45))) false 0 a1_0 a1_1 a1_2 a1_3
theorem spec_l11Put.mono_l : ∀ k, (∀ y0 y1 y2 y3 y4 y5 y6 y7, LeO (spec_l11Put.l0 k y0 y1 y2 y3 y4 y5 y6 y7) (spec_l11Put.l0 (k + 1) y0 y1 y2 y3 y4 y5 y6 y7))
 | 0 => fun _ _ _ _ _ _ _ _ r h => by simp [spec_l11Put.l0] at h
 | k + 1 => by
  have ih0 := spec_l11Put.mono_l k
  ·intro y0 y1 y2 y3 y4 y5 y6 y7
   unfold spec_l11Put.l0
   repeat' first
   | (with_reducible exact ih0 _ _ _ _ _ _ _ _)
   | (with_reducible exact LeO.refl _)
   | (with_reducible exact LeO.none _)
   | (with_reducible refine LeO.ite ?_ ?_)
   | (with_reducible refine LeO.bind ?_ (fun _ => ?_))
   | exact ih0 _ _ _ _ _ _ _ _
   | exact LeO.none _
   | refine LeO.ite ?_ ?_
   | refine LeO.bind ?_ (fun _ => ?_)
theorem spec_l11Put.mono : ∀ a0 a1 a2 a3 a4 k, LeO (spec_l11Put.f k a0 a1 a2 a3 a4) (spec_l11Put.f (k + 1) a0 a1 a2 a3 a4) := by
 intro a0 a1 a2 a3 a4 k
 have ih0 := spec_l11Put.mono_l k
 unfold spec_l11Put.f
 repeat' first
  | (with_reducible exact ih0 _ _ _ _ _ _ _ _)
  | (with_reducible exact LeO.refl _)
  | (with_reducible exact LeO.none _)
  | (with_reducible refine LeO.ite ?_ ?_)
  | (with_reducible refine LeO.bind ?_ (fun _ => ?_))
  | exact ih0 _ _ _ _ _ _ _ _
  | exact LeO.none _
  | refine LeO.ite ?_ ?_
  | refine LeO.bind ?_ (fun _ => ?_)
set_option maxHeartbeats 8000000 in
set_option maxRecDepth 100000 in
theorem spec_l11Put.calls (k : Nat) (A0 : Option Addr) (c0 : Nat) (l0 : List (S45)) (a1_0 : Int) (a1_1 : Int) (a1_2 : Bool) (a1_3 : Bool) (r : List (S45)) (w : World) (hr0 : Kd.C k45 w A0 l0.length l0) (hc0 : l0.length ≤ c0) (h : spec_l11Put.f k l0 a1_0 a1_1 a1_2 a1_3 = some r) :
 Calls Try.prog 53 #[.slice A0 l0.length c0, .agg #[.int .i64 a1_0, .int .i64 a1_1, .bool a1_2, .bool a1_3]] w fun e w' => ∃ v0_ : Value, e = .returned (v0_) ∧ Kd.R k45 45 w' w.heap.size (fun _ => True) v0_ r ∧ Below w.heap.size w w' := by
 have hu45 := Try.underlying45
 have HR0 := Aside0.mk hr0
 have HC0 := Aside0.mk hc0
 clear hr0 hc0
 have HB := Aside0.mk (Below.refl w.heap.size w)
 have H : (spec_l11Put.l0 k l0 (([] : List (S45))) false 0 a1_0 a1_1 a1_2 a1_3) = some r := h
 clear h
 obtain ⟨jac, jy⟩ : ∃ y_ : List (S45), y_ = (([] : List (S45))) := ⟨_, rfl⟩
 replace H : (spec_l11Put.l0 k l0 jac false 0 a1_0 a1_1 a1_2 a1_3) = some r := by first | (rw [jy]; with_reducible exact H) | (have H2_ := (Option.bind_some _ _).symm.trans H; rw [jy]; with_reducible exact H2_) | (have H2_ := (Option.bind_some _ _).symm.trans H; with_reducible exact H2_) | with_reducible exact H | (rw [jy]; exact H) | exact H
 have jq := Aside0.mk jy
 clear jy
 have H' := Aside0.mk H
 clear H
 go_enter Try.func53, Try.ntmps53
 go_wp2_with (first | ((with_reducible refine gate_dst (N := 3) rfl ?_); refine box_event ?hg (N := 3) ?hd (cs := #[.int .i64 a1_0, .int .i64 a1_1, .bool a1_2, .bool a1_3]) (t := 45) ?hr ?_; (case hd => rfl); (case hg => rfl); (case hr => first | (go_simp; done) | (go_simp; rfl)); intro jb hg w3 hbox hb; have n0_ := Aside0.mk (below_step (hb_ HB.out) hb); have n1_ := Aside0.mk (hbox); have n2_ := Aside0.mk ((by rw [hg]; exact (below_size (hb_ HB.out)) : w.heap.size ≤ jb)); have n3_ := Aside0.mk ((by rw [hg]; exact (below_size (hb_ HB.out)) : w.heap.size ≤ jb)); clear HB; have HB := n0_; have ja := n1_; have jaj := n2_; have jB := n3_; clear n0_ n1_ n2_ n3_; clear hb hbox hg) | ((with_reducible refine gate_dst (N := 8) rfl ?_); refine Kd.R_lit k45 _ 45 ?hg (N := 8) ?hd (xs := ([] : List (S45))) (inner := []) (ok := fun _ => True) (okp := fun _ => True) ?hr ?hp (fun _ hk => hk) trivial (Below.refl _ _) (Nat.le_refl _) (by simp) ?_; (case hd => rfl); (case hg => rfl); (case hr => first | (go_simp; done) | (go_simp; rfl)); (case hp => exact (Reps.none _ _)); intro jaa w4 ho5 hb hg_ hnew_; clear hg_ hnew_; (first | rw [← jq.out] at ho5 | (simp only [Int.reduceToNat] at ho5; rw [← jq.out] at ho5)); have n0_ := Aside0.mk (Kd.R_lower (Kd.R_newB ho5 (g := jb) (o := .cells #[.int .i64 a1_0, .int .i64 a1_1, .bool a1_2, .bool a1_3] 45 (0, 0)) (bk_ ja.out)) (below_size (hb_ HB.out))); have n1_ := Aside0.mk (blk_below (bk_ ja.out) hb); have n2_ := Aside0.mk (below_step (hb_ HB.out) hb); clear ja; clear HB; have jK := n0_; have ja := n1_; have HB := n2_; clear n0_ n1_ n2_; clear hb ho5))
 repeat (go_quiet (first | ((with_reducible refine gate_dst (N := 3) rfl ?_); refine box_event ?hg (N := 3) ?hd (cs := #[.int .i64 a1_0, .int .i64 a1_1, .bool a1_2, .bool a1_3]) (t := 45) ?hr ?_; (case hd => rfl); (case hg => rfl); (case hr => first | (go_simp; done) | (go_simp; rfl)); intro jb hg w3 hbox hb; have n0_ := Aside0.mk (below_step (hb_ HB.out) hb); have n1_ := Aside0.mk (hbox); have n2_ := Aside0.mk ((by rw [hg]; exact (below_size (hb_ HB.out)) : w.heap.size ≤ jb)); have n3_ := Aside0.mk ((by rw [hg]; exact (below_size (hb_ HB.out)) : w.heap.size ≤ jb)); clear HB; have HB := n0_; have ja := n1_; have jaj := n2_; have jB := n3_; clear n0_ n1_ n2_ n3_; clear hb hbox hg) | ((with_reducible refine gate_dst (N := 8) rfl ?_); refine Kd.R_lit k45 _ 45 ?hg (N := 8) ?hd (xs := ([] : List (S45))) (inner := []) (ok := fun _ => True) (okp := fun _ => True) ?hr ?hp (fun _ hk => hk) trivial (Below.refl _ _) (Nat.le_refl _) (by simp) ?_; (case hd => rfl); (case hg => rfl); (case hr => first | (go_simp; done) | (go_simp; rfl)); (case hp => exact (Reps.none _ _)); intro jaa w4 ho5 hb hg_ hnew_; clear hg_ hnew_; (first | rw [← jq.out] at ho5 | (simp only [Int.reduceToNat] at ho5; rw [← jq.out] at ho5)); have n0_ := Aside0.mk (Kd.R_lower (Kd.R_newB ho5 (g := jb) (o := .cells #[.int .i64 a1_0, .int .i64 a1_1, .bool a1_2, .bool a1_3] 45 (0, 0)) (bk_ ja.out)) (below_size (hb_ HB.out))); have n1_ := Aside0.mk (blk_below (bk_ ja.out) hb); have n2_ := Aside0.mk (below_step (hb_ HB.out) hb); clear ja; clear HB; have jK := n0_; have ja := n1_; have HB := n2_; clear n0_ n1_ n2_; clear hb ho5)); try go_wp2_with (first | ((with_reducible refine gate_dst (N := 3) rfl ?_); refine box_event ?hg (N := 3) ?hd (cs := #[.int .i64 a1_0, .int .i64 a1_1, .bool a1_2, .bool a1_3]) (t := 45) ?hr ?_; (case hd => rfl); (case hg => rfl); (case hr => first | (go_simp; done) | (go_simp; rfl)); intro jb hg w3 hbox hb; have n0_ := Aside0.mk (below_step (hb_ HB.out) hb); have n1_ := Aside0.mk (hbox); have n2_ := Aside0.mk ((by rw [hg]; exact (below_size (hb_ HB.out)) : w.heap.size ≤ jb)); have n3_ := Aside0.mk ((by rw [hg]; exact (below_size (hb_ HB.out)) : w.heap.size ≤ jb)); clear HB; have HB := n0_; have ja := n1_; have jaj := n2_; have jB := n3_; clear n0_ n1_ n2_ n3_; clear hb hbox hg) | ((with_reducible refine gate_dst (N := 8) rfl ?_); refine Kd.R_lit k45 _ 45 ?hg (N := 8) ?hd (xs := ([] : List (S45))) (inner := []) (ok := fun _ => True) (okp := fun _ => True) ?hr ?hp (fun _ hk => hk) trivial (Below.refl _ _) (Nat.le_refl _) (by simp) ?_; (case hd => rfl); (case hg => rfl); (case hr => first | (go_simp; done) | (go_simp; rfl)); (case hp => exact (Reps.none _ _)); intro jaa w4 ho5 hb hg_ hnew_; clear hg_ hnew_; (first | rw [← jq.out] at ho5 | (simp only [Int.reduceToNat] at ho5; rw [← jq.out] at ho5)); have n0_ := Aside0.mk (Kd.R_lower (Kd.R_newB ho5 (g := jb) (o := .cells #[.int .i64 a1_0, .int .i64 a1_1, .bool a1_2, .bool a1_3] 45 (0, 0)) (bk_ ja.out)) (below_size (hb_ HB.out))); have n1_ := Aside0.mk (blk_below (bk_ ja.out) hb); have n2_ := Aside0.mk (below_step (hb_ HB.out) hb); clear ja; clear HB; have jK := n0_; have ja := n1_; have HB := n2_; clear n0_ n1_ n2_; clear hb ho5)))
 go_loopg [5, 6, 7] k (fun kq v5 v6 v7 w' => ∃ (x5_1 : List (S45)) (x6_1 : Bool) (x7_1 : Int), v6 = .bool x6_1 ∧ v7 = .int .i64 x7_1 ∧ Aside0 (spec_l11Put.l0 kq l0 x5_1 x6_1 x7_1 a1_0 a1_1 a1_2 a1_3 = some r) ∧ Aside0 (kq ≤ k) ∧ Aside0 (Kd.R k45 45 w' w.heap.size (fun k_ => k_ ≠ jb) v5 x5_1) ∧ Aside0 (w'.heap[jb]? = some (.cells #[.int .i64 a1_0, .int .i64 a1_1, .bool a1_2, .bool a1_3] 45 (0, 0))) ∧ Aside0 (Below w.heap.size w w'))
 case atStart => exact ⟨(jac), (false), (0), (by first | rfl | (simp; done) | (simp [*]; done)), (by first | rfl | (simp; done) | (simp [*]; done)), H', ⟨Nat.le_refl _⟩, ⟨by (with_reducible repeat (first | apply Kd.R_alloc | apply Kd.R_drewN | apply Kd.R_drew)); exact Kd.R_mono jK.out (fun _ hk => hk.2)⟩, ⟨bk_ ja.out⟩, ⟨hb_ HB.out⟩⟩
 case round =>
  clear H'
  try clear p2
  try clear c5
  obtain ⟨x5_1, x6_1, x7_1, rfl, rfl, HA, HK1, HO_5, ja, HB⟩ := hrel
  cases gk with
  | zero => exact absurd HA.out (by simp [spec_l11Put.l0])
  | succ k1 =>
   have H := HA.out
   clear HA
   simp only [spec_l11Put.l0] at H
   by_cases c6 : x7_1 < (l0.length : Int)
   ·rw [if_pos c6] at H
    have c6b0 : decide (x7_1 < (l0.length : Int)) = true := decide_eq_true c6
    clear c6
    by_cases c7 : x6_1 = true
    ·subst c7
     have H1 : (if 0 ≤ x7_1 then (if x5_1.length < 5864062014805 then (spec_l11Put.l0 k1 l0 (x5_1 ++ [(⟨(rd_T45 l0 x7_1).f0, (rd_T45 l0 x7_1).f1, (rd_T45 l0 x7_1).f2, (rd_T45 l0 x7_1).f3⟩ : S45)]) true (wrap64 (x7_1 + 1)) a1_0 a1_1 a1_2 a1_3) else (none)) else (none)) = some r := by rw [if_pos rfl] at H; exact H
     clear H
     have H := H1
     clear H1
     by_cases c8 : 0 ≤ x7_1
     ·rw [if_pos c8] at H
      have c8b0 : decide (0 ≤ x7_1) = true := decide_eq_true c8
      clear c8
      by_cases c9 : x5_1.length < 5864062014805
      ·rw [if_pos c9] at H
       have LMc9 := Aside0.mk c9
       clear c9
       obtain ⟨jah, jx⟩ : ∃ y_ : List (S45), y_ = (x5_1 ++ [(⟨(rd_T45 l0 x7_1).f0, (rd_T45 l0 x7_1).f1, (rd_T45 l0 x7_1).f2, (rd_T45 l0 x7_1).f3⟩ : S45)]) := ⟨_, rfl⟩
       replace H : (spec_l11Put.l0 k1 l0 jah true (wrap64 (x7_1 + 1)) a1_0 a1_1 a1_2 a1_3) = some r := by first | (rw [jx]; with_reducible exact H) | (have H2_ := (Option.bind_some _ _).symm.trans H; rw [jx]; with_reducible exact H2_) | (have H2_ := (Option.bind_some _ _).symm.trans H; with_reducible exact H2_) | with_reducible exact H | (rw [jx]; exact H) | exact H
       have jN := Aside0.mk jx
       clear jx
       have H' := Aside0.mk H
       clear H
       have jO : 0 ≤ (x7_1 : Int) := of_decide_eq_true (by first | (with_reducible assumption) | assumption)
       have jL : x7_1 < (l0.length : Int) := of_decide_eq_true (by first | (with_reducible assumption) | assumption)
       obtain ⟨jao, jak, jW, jP, jG, jD⟩ := at_T45 HR0.out x7_1 jO jL
       cases jak
       replace jW := (HB.out.cell (World.block_lt_of_cell? w _ jW)).trans jW
       replace jP := (HB.out.cell (World.block_lt_of_cell? w _ jP)).trans jP
       replace jG := (HB.out.cell (World.block_lt_of_cell? w _ jG)).trans jG
       replace jD := (HB.out.cell (World.block_lt_of_cell? w _ jD)).trans jD
       replace jO := eq_true jO
       replace jL := eq_true jL
       go_wp2_with (first | ((with_reducible refine gate_builtin (b := .append) (xs := #[.tmp 31, .tmp 36]) rfl ?_); at_builtin; refine Kd.R_append k45 (w0 := w) w.heap.size rfl (.tmp 31) (.tmp 36) 27 45 (.agg #[(.int .i64 0), (.int .i64 0), (.bool false), (.bool false)]) 24 rfl Try.underlying27 info45 rfl (by decide) (by omega) u5 x5_1 (⟨(rd_T45 l0 x7_1).f0, (rd_T45 l0 x7_1).f1, (rd_T45 l0 x7_1).f2, (rd_T45 l0 x7_1).f3⟩ : S45) [.int .i64 ((rd_T45 l0 x7_1).f0), .int .i64 ((rd_T45 l0 x7_1).f1), .bool ((rd_T45 l0 x7_1).f2), .bool ((rd_T45 l0 x7_1).f3)] (fun k_ => k_ ≠ jb) (fun _ => False) rfl rfl ?aP (fun _ hk => hk.elim) ?aF ?aO ?aB ?aS ?aL ?_; (case aP => exact k45_mkM _ _ _ (⟨(rd_T45 l0 x7_1).f0, (rd_T45 l0 x7_1).f1, (rd_T45 l0 x7_1).f2, (rd_T45 l0 x7_1).f3⟩ : S45)); (case aB => exact (hb_ HB.out)); (case aF => exact (fun k_ hk => Kd.freshB (g := jb) (o := .cells #[.int .i64 a1_0, .int .i64 a1_1, .bool a1_2, .bool a1_3] 45 (0, 0)) (bk_ ja.out) k_ hk)); (case aO => exact (kr_ HO_5.out)); (case aS => exact (below_size (hb_ HB.out))); (case aL => have := LMc9.out; omega); intro jaf w10 ho hb hg hat; rw [← jN.out] at ho; have n0_ := Aside0.mk (blk_grown (g := jb) (o := .cells #[.int .i64 a1_0, .int .i64 a1_1, .bool a1_2, .bool a1_3] 45 (0, 0)) (bk_ ja.out) hg (Kd.R_away HO_5.out (fun _ hk => hk))); have n1_ := Aside0.mk (hb); have n2_ := Aside0.mk (ho); clear ja; clear HB; clear HO_5; have ja := n0_; have HB := n1_; have jT := n2_; clear n0_ n1_ n2_; clear ho hb hg hat))
       repeat (go_quiet (first | ((with_reducible refine gate_builtin (b := .append) (xs := #[.tmp 31, .tmp 36]) rfl ?_); at_builtin; refine Kd.R_append k45 (w0 := w) w.heap.size rfl (.tmp 31) (.tmp 36) 27 45 (.agg #[(.int .i64 0), (.int .i64 0), (.bool false), (.bool false)]) 24 rfl Try.underlying27 info45 rfl (by decide) (by omega) u5 x5_1 (⟨(rd_T45 l0 x7_1).f0, (rd_T45 l0 x7_1).f1, (rd_T45 l0 x7_1).f2, (rd_T45 l0 x7_1).f3⟩ : S45) [.int .i64 ((rd_T45 l0 x7_1).f0), .int .i64 ((rd_T45 l0 x7_1).f1), .bool ((rd_T45 l0 x7_1).f2), .bool ((rd_T45 l0 x7_1).f3)] (fun k_ => k_ ≠ jb) (fun _ => False) rfl rfl ?aP (fun _ hk => hk.elim) ?aF ?aO ?aB ?aS ?aL ?_; (case aP => exact k45_mkM _ _ _ (⟨(rd_T45 l0 x7_1).f0, (rd_T45 l0 x7_1).f1, (rd_T45 l0 x7_1).f2, (rd_T45 l0 x7_1).f3⟩ : S45)); (case aB => exact (hb_ HB.out)); (case aF => exact (fun k_ hk => Kd.freshB (g := jb) (o := .cells #[.int .i64 a1_0, .int .i64 a1_1, .bool a1_2, .bool a1_3] 45 (0, 0)) (bk_ ja.out) k_ hk)); (case aO => exact (kr_ HO_5.out)); (case aS => exact (below_size (hb_ HB.out))); (case aL => have := LMc9.out; omega); intro jaf w10 ho hb hg hat; rw [← jN.out] at ho; have n0_ := Aside0.mk (blk_grown (g := jb) (o := .cells #[.int .i64 a1_0, .int .i64 a1_1, .bool a1_2, .bool a1_3] 45 (0, 0)) (bk_ ja.out) hg (Kd.R_away HO_5.out (fun _ hk => hk))); have n1_ := Aside0.mk (hb); have n2_ := Aside0.mk (ho); clear ja; clear HB; clear HO_5; have ja := n0_; have HB := n1_; have jT := n2_; clear n0_ n1_ n2_; clear ho hb hg hat)); try go_wp2_with (first | ((with_reducible refine gate_builtin (b := .append) (xs := #[.tmp 31, .tmp 36]) rfl ?_); at_builtin; refine Kd.R_append k45 (w0 := w) w.heap.size rfl (.tmp 31) (.tmp 36) 27 45 (.agg #[(.int .i64 0), (.int .i64 0), (.bool false), (.bool false)]) 24 rfl Try.underlying27 info45 rfl (by decide) (by omega) u5 x5_1 (⟨(rd_T45 l0 x7_1).f0, (rd_T45 l0 x7_1).f1, (rd_T45 l0 x7_1).f2, (rd_T45 l0 x7_1).f3⟩ : S45) [.int .i64 ((rd_T45 l0 x7_1).f0), .int .i64 ((rd_T45 l0 x7_1).f1), .bool ((rd_T45 l0 x7_1).f2), .bool ((rd_T45 l0 x7_1).f3)] (fun k_ => k_ ≠ jb) (fun _ => False) rfl rfl ?aP (fun _ hk => hk.elim) ?aF ?aO ?aB ?aS ?aL ?_; (case aP => exact k45_mkM _ _ _ (⟨(rd_T45 l0 x7_1).f0, (rd_T45 l0 x7_1).f1, (rd_T45 l0 x7_1).f2, (rd_T45 l0 x7_1).f3⟩ : S45)); (case aB => exact (hb_ HB.out)); (case aF => exact (fun k_ hk => Kd.freshB (g := jb) (o := .cells #[.int .i64 a1_0, .int .i64 a1_1, .bool a1_2, .bool a1_3] 45 (0, 0)) (bk_ ja.out) k_ hk)); (case aO => exact (kr_ HO_5.out)); (case aS => exact (below_size (hb_ HB.out))); (case aL => have := LMc9.out; omega); intro jaf w10 ho hb hg hat; rw [← jN.out] at ho; have n0_ := Aside0.mk (blk_grown (g := jb) (o := .cells #[.int .i64 a1_0, .int .i64 a1_1, .bool a1_2, .bool a1_3] 45 (0, 0)) (bk_ ja.out) hg (Kd.R_away HO_5.out (fun _ hk => hk))); have n1_ := Aside0.mk (hb); have n2_ := Aside0.mk (ho); clear ja; clear HB; clear HO_5; have ja := n0_; have HB := n1_; have jT := n2_; clear n0_ n1_ n2_; clear ho hb hg hat)))
       go_roundg k1
       case measure => have := HK1.out; omega
       case rel => exact ⟨(jah), (true), (wrap64 (x7_1 + 1)), (by first | rfl | (simp; done) | (simp [*]; done)), (by first | rfl | (simp; done) | (simp [*]; done)), H', ⟨by have := HK1.out; omega⟩, ⟨kr_ jT.out⟩, ⟨bk_ ja.out⟩, ⟨hb_ HB.out⟩⟩
      ·rw [if_neg c9] at H
       exact absurd H (by simp)
     ·rw [if_neg c8] at H
      exact absurd H (by simp)
    ·replace c7 := Bool.eq_false_iff.mpr c7
     subst c7
     have H1 : (if 0 ≤ x7_1 then (if ((rd_T45 l0 x7_1).f0) > a1_0 then (if x5_1.length < 5864062014805 then ((some (x5_1 ++ [(⟨a1_0, a1_1, a1_2, a1_3⟩ : S45)] : List (S45))).bind fun jj => (if jj.length < 5864062014805 then (spec_l11Put.l0 k1 l0 (jj ++ [(⟨(rd_T45 l0 x7_1).f0, (rd_T45 l0 x7_1).f1, (rd_T45 l0 x7_1).f2, (rd_T45 l0 x7_1).f3⟩ : S45)]) true (wrap64 (x7_1 + 1)) a1_0 a1_1 a1_2 a1_3) else (none))) else (none)) else (if x5_1.length < 5864062014805 then (spec_l11Put.l0 k1 l0 (x5_1 ++ [(⟨(rd_T45 l0 x7_1).f0, (rd_T45 l0 x7_1).f1, (rd_T45 l0 x7_1).f2, (rd_T45 l0 x7_1).f3⟩ : S45)]) false (wrap64 (x7_1 + 1)) a1_0 a1_1 a1_2 a1_3) else (none))) else (none)) = some r := by rw [if_neg (show ¬ (false = true) by decide)] at H; exact H
     clear H
     have H := H1
     clear H1
     by_cases c11 : 0 ≤ x7_1
     ·rw [if_pos c11] at H
      have c11b0 : decide (0 ≤ x7_1) = true := decide_eq_true c11
      clear c11
      by_cases c12 : ((rd_T45 l0 x7_1).f0) > a1_0
      ·rw [if_pos c12] at H
       have c12b0 : decide (a1_0 < ((rd_T45 l0 x7_1).f0)) = true := decide_eq_true c12
       clear c12
       by_cases c13 : x5_1.length < 5864062014805
       ·rw [if_pos c13] at H
        have LMc13 := Aside0.mk c13
        clear c13
        obtain ⟨jj, js⟩ : ∃ y_ : List (S45), y_ = (x5_1 ++ [(⟨a1_0, a1_1, a1_2, a1_3⟩ : S45)]) := ⟨_, rfl⟩
        replace H : (if jj.length < 5864062014805 then (spec_l11Put.l0 k1 l0 (jj ++ [(⟨(rd_T45 l0 x7_1).f0, (rd_T45 l0 x7_1).f1, (rd_T45 l0 x7_1).f2, (rd_T45 l0 x7_1).f3⟩ : S45)]) true (wrap64 (x7_1 + 1)) a1_0 a1_1 a1_2 a1_3) else (none)) = some r := by first | (rw [js]; with_reducible exact H) | (have H2_ := (Option.bind_some _ _).symm.trans H; rw [js]; with_reducible exact H2_) | (have H2_ := (Option.bind_some _ _).symm.trans H; with_reducible exact H2_) | with_reducible exact H | (rw [js]; exact H) | exact H
        have jM := Aside0.mk js
        clear js
        by_cases c14 : jj.length < 5864062014805
        ·rw [if_pos c14] at H
         have LMc14 := Aside0.mk c14
         clear c14
         obtain ⟨jad, ju⟩ : ∃ y_ : List (S45), y_ = (jj ++ [(⟨(rd_T45 l0 x7_1).f0, (rd_T45 l0 x7_1).f1, (rd_T45 l0 x7_1).f2, (rd_T45 l0 x7_1).f3⟩ : S45)]) := ⟨_, rfl⟩
         replace H : (spec_l11Put.l0 k1 l0 jad true (wrap64 (x7_1 + 1)) a1_0 a1_1 a1_2 a1_3) = some r := by first | (rw [ju]; with_reducible exact H) | (have H2_ := (Option.bind_some _ _).symm.trans H; rw [ju]; with_reducible exact H2_) | (have H2_ := (Option.bind_some _ _).symm.trans H; with_reducible exact H2_) | with_reducible exact H | (rw [ju]; exact H) | exact H
         have jV := Aside0.mk ju
         clear ju
         have H' := Aside0.mk H
         clear H
         have jo : 0 ≤ (x7_1 : Int) := of_decide_eq_true (by first | (with_reducible assumption) | assumption)
         have jm : x7_1 < (l0.length : Int) := of_decide_eq_true (by first | (with_reducible assumption) | assumption)
         obtain ⟨jw, jU, jp, jk, jn, jl⟩ := at_T45 HR0.out x7_1 jo jm
         cases jU
         replace jp := (HB.out.cell (World.block_lt_of_cell? w _ jp)).trans jp
         replace jk := (HB.out.cell (World.block_lt_of_cell? w _ jk)).trans jk
         replace jn := (HB.out.cell (World.block_lt_of_cell? w _ jn)).trans jn
         replace jl := (HB.out.cell (World.block_lt_of_cell? w _ jl)).trans jl
         replace jo := eq_true jo
         replace jm := eq_true jm
         have hcz15_0 : wr.cell? ⟨jb, 0, none⟩ = some (.int .i64 a1_0) := (blk_cell ja.out 0).trans rfl
         have hcz15_1 : wr.cell? ⟨jb, 1, none⟩ = some (.int .i64 a1_1) := (blk_cell ja.out 1).trans rfl
         have hcz15_2 : wr.cell? ⟨jb, 2, none⟩ = some (.bool a1_2) := (blk_cell ja.out 2).trans rfl
         have hcz15_3 : wr.cell? ⟨jb, 3, none⟩ = some (.bool a1_3) := (blk_cell ja.out 3).trans rfl
         have hfz15_0 := blk_frozen ja.out 0
         have hfz15_1 := blk_frozen ja.out 1
         have hfz15_2 := blk_frozen ja.out 2
         have hfz15_3 := blk_frozen ja.out 3
         go_wp2_with (first | ((with_reducible refine gate_builtin (b := .append) (xs := #[.tmp 27, .tmp 29]) rfl ?_); at_builtin; refine Kd.R_append k45 (w0 := w) w.heap.size rfl (.tmp 27) (.tmp 29) 27 45 (.agg #[(.int .i64 0), (.int .i64 0), (.bool false), (.bool false)]) 24 rfl Try.underlying27 info45 rfl (by decide) (by omega) u5 x5_1 (⟨a1_0, a1_1, a1_2, a1_3⟩ : S45) [.int .i64 a1_0, .int .i64 a1_1, .bool a1_2, .bool a1_3] (fun k_ => k_ ≠ jb) (fun _ => False) rfl rfl ?aP (fun _ hk => hk.elim) ?aF ?aO ?aB ?aS ?aL ?_; (case aP => exact k45_mkM _ _ _ (⟨a1_0, a1_1, a1_2, a1_3⟩ : S45)); (case aB => exact (hb_ HB.out)); (case aF => exact (fun k_ hk => Kd.freshB (g := jb) (o := .cells #[.int .i64 a1_0, .int .i64 a1_1, .bool a1_2, .bool a1_3] 45 (0, 0)) (bk_ ja.out) k_ hk)); (case aO => exact (kr_ HO_5.out)); (case aS => exact (below_size (hb_ HB.out))); (case aL => have := LMc13.out; omega); intro jA w16 ho hb hg hat; rw [← jM.out] at ho; have n0_ := Aside0.mk (blk_grown (g := jb) (o := .cells #[.int .i64 a1_0, .int .i64 a1_1, .bool a1_2, .bool a1_3] 45 (0, 0)) (bk_ ja.out) hg (Kd.R_away HO_5.out (fun _ hk => hk))); have n1_ := Aside0.mk (hb); have n2_ := Aside0.mk (ho); clear ja; clear HB; clear HO_5; have ja := n0_; have HB := n1_; have jc := n2_; clear n0_ n1_ n2_; clear ho hb hg hat; have je : 0 ≤ (x7_1 : Int) := of_decide_eq_true (by first | (with_reducible assumption) | assumption); have jh : x7_1 < (l0.length : Int) := of_decide_eq_true (by first | (with_reducible assumption) | assumption); obtain ⟨jz, jv, jg, ji, jd, jf⟩ := at_T45 HR0.out x7_1 je jh; obtain rfl : jw = jz := (by injection jv); replace jg := (HB.out.cell (World.block_lt_of_cell? w _ jg)).trans jg; replace ji := (HB.out.cell (World.block_lt_of_cell? w _ ji)).trans ji; replace jd := (HB.out.cell (World.block_lt_of_cell? w _ jd)).trans jd; replace jf := (HB.out.cell (World.block_lt_of_cell? w _ jf)).trans jf; replace je := eq_true je; replace jh := eq_true jh) | ((with_reducible refine gate_builtin (b := .append) (xs := #[.tmp 31, .tmp 36]) rfl ?_); at_builtin; refine Kd.R_append k45 (w0 := w) w.heap.size rfl (.tmp 31) (.tmp 36) 27 45 (.agg #[(.int .i64 0), (.int .i64 0), (.bool false), (.bool false)]) 24 rfl Try.underlying27 info45 rfl (by decide) (by omega) jA jj (⟨(rd_T45 l0 x7_1).f0, (rd_T45 l0 x7_1).f1, (rd_T45 l0 x7_1).f2, (rd_T45 l0 x7_1).f3⟩ : S45) [.int .i64 ((rd_T45 l0 x7_1).f0), .int .i64 ((rd_T45 l0 x7_1).f1), .bool ((rd_T45 l0 x7_1).f2), .bool ((rd_T45 l0 x7_1).f3)] (fun k_ => k_ ≠ jb) (fun _ => False) rfl rfl ?aP (fun _ hk => hk.elim) ?aF ?aO ?aB ?aS ?aL ?_; (case aP => exact k45_mkM _ _ _ (⟨(rd_T45 l0 x7_1).f0, (rd_T45 l0 x7_1).f1, (rd_T45 l0 x7_1).f2, (rd_T45 l0 x7_1).f3⟩ : S45)); (case aB => exact (hb_ HB.out)); (case aF => exact (fun k_ hk => Kd.freshB (g := jb) (o := .cells #[.int .i64 a1_0, .int .i64 a1_1, .bool a1_2, .bool a1_3] 45 (0, 0)) (bk_ ja.out) k_ hk)); (case aO => exact (kr_ jc.out)); (case aS => exact (below_size (hb_ HB.out))); (case aL => have := LMc14.out; omega); intro jag w17 ho hb hg hat; rw [← jV.out] at ho; have n0_ := Aside0.mk (blk_grown (g := jb) (o := .cells #[.int .i64 a1_0, .int .i64 a1_1, .bool a1_2, .bool a1_3] 45 (0, 0)) (bk_ ja.out) hg (Kd.R_away jc.out (fun _ hk => hk))); have n1_ := Aside0.mk (hb); have n2_ := Aside0.mk (ho); clear ja; clear HB; clear jc; have ja := n0_; have HB := n1_; have jS := n2_; clear n0_ n1_ n2_; clear ho hb hg hat))
         repeat (go_quiet (first | ((with_reducible refine gate_builtin (b := .append) (xs := #[.tmp 27, .tmp 29]) rfl ?_); at_builtin; refine Kd.R_append k45 (w0 := w) w.heap.size rfl (.tmp 27) (.tmp 29) 27 45 (.agg #[(.int .i64 0), (.int .i64 0), (.bool false), (.bool false)]) 24 rfl Try.underlying27 info45 rfl (by decide) (by omega) u5 x5_1 (⟨a1_0, a1_1, a1_2, a1_3⟩ : S45) [.int .i64 a1_0, .int .i64 a1_1, .bool a1_2, .bool a1_3] (fun k_ => k_ ≠ jb) (fun _ => False) rfl rfl ?aP (fun _ hk => hk.elim) ?aF ?aO ?aB ?aS ?aL ?_; (case aP => exact k45_mkM _ _ _ (⟨a1_0, a1_1, a1_2, a1_3⟩ : S45)); (case aB => exact (hb_ HB.out)); (case aF => exact (fun k_ hk => Kd.freshB (g := jb) (o := .cells #[.int .i64 a1_0, .int .i64 a1_1, .bool a1_2, .bool a1_3] 45 (0, 0)) (bk_ ja.out) k_ hk)); (case aO => exact (kr_ HO_5.out)); (case aS => exact (below_size (hb_ HB.out))); (case aL => have := LMc13.out; omega); intro jA w16 ho hb hg hat; rw [← jM.out] at ho; have n0_ := Aside0.mk (blk_grown (g := jb) (o := .cells #[.int .i64 a1_0, .int .i64 a1_1, .bool a1_2, .bool a1_3] 45 (0, 0)) (bk_ ja.out) hg (Kd.R_away HO_5.out (fun _ hk => hk))); have n1_ := Aside0.mk (hb); have n2_ := Aside0.mk (ho); clear ja; clear HB; clear HO_5; have ja := n0_; have HB := n1_; have jc := n2_; clear n0_ n1_ n2_; clear ho hb hg hat; have je : 0 ≤ (x7_1 : Int) := of_decide_eq_true (by first | (with_reducible assumption) | assumption); have jh : x7_1 < (l0.length : Int) := of_decide_eq_true (by first | (with_reducible assumption) | assumption); obtain ⟨jz, jv, jg, ji, jd, jf⟩ := at_T45 HR0.out x7_1 je jh; obtain rfl : jw = jz := (by injection jv); replace jg := (HB.out.cell (World.block_lt_of_cell? w _ jg)).trans jg; replace ji := (HB.out.cell (World.block_lt_of_cell? w _ ji)).trans ji; replace jd := (HB.out.cell (World.block_lt_of_cell? w _ jd)).trans jd; replace jf := (HB.out.cell (World.block_lt_of_cell? w _ jf)).trans jf; replace je := eq_true je; replace jh := eq_true jh) | ((with_reducible refine gate_builtin (b := .append) (xs := #[.tmp 31, .tmp 36]) rfl ?_); at_builtin; refine Kd.R_append k45 (w0 := w) w.heap.size rfl (.tmp 31) (.tmp 36) 27 45 (.agg #[(.int .i64 0), (.int .i64 0), (.bool false), (.bool false)]) 24 rfl Try.underlying27 info45 rfl (by decide) (by omega) jA jj (⟨(rd_T45 l0 x7_1).f0, (rd_T45 l0 x7_1).f1, (rd_T45 l0 x7_1).f2, (rd_T45 l0 x7_1).f3⟩ : S45) [.int .i64 ((rd_T45 l0 x7_1).f0), .int .i64 ((rd_T45 l0 x7_1).f1), .bool ((rd_T45 l0 x7_1).f2), .bool ((rd_T45 l0 x7_1).f3)] (fun k_ => k_ ≠ jb) (fun _ => False) rfl rfl ?aP (fun _ hk => hk.elim) ?aF ?aO ?aB ?aS ?aL ?_; (case aP => exact k45_mkM _ _ _ (⟨(rd_T45 l0 x7_1).f0, (rd_T45 l0 x7_1).f1, (rd_T45 l0 x7_1).f2, (rd_T45 l0 x7_1).f3⟩ : S45)); (case aB => exact (hb_ HB.out)); (case aF => exact (fun k_ hk => Kd.freshB (g := jb) (o := .cells #[.int .i64 a1_0, .int .i64 a1_1, .bool a1_2, .bool a1_3] 45 (0, 0)) (bk_ ja.out) k_ hk)); (case aO => exact (kr_ jc.out)); (case aS => exact (below_size (hb_ HB.out))); (case aL => have := LMc14.out; omega); intro jag w17 ho hb hg hat; rw [← jV.out] at ho; have n0_ := Aside0.mk (blk_grown (g := jb) (o := .cells #[.int .i64 a1_0, .int .i64 a1_1, .bool a1_2, .bool a1_3] 45 (0, 0)) (bk_ ja.out) hg (Kd.R_away jc.out (fun _ hk => hk))); have n1_ := Aside0.mk (hb); have n2_ := Aside0.mk (ho); clear ja; clear HB; clear jc; have ja := n0_; have HB := n1_; have jS := n2_; clear n0_ n1_ n2_; clear ho hb hg hat)); try go_wp2_with (first | ((with_reducible refine gate_builtin (b := .append) (xs := #[.tmp 27, .tmp 29]) rfl ?_); at_builtin; refine Kd.R_append k45 (w0 := w) w.heap.size rfl (.tmp 27) (.tmp 29) 27 45 (.agg #[(.int .i64 0), (.int .i64 0), (.bool false), (.bool false)]) 24 rfl Try.underlying27 info45 rfl (by decide) (by omega) u5 x5_1 (⟨a1_0, a1_1, a1_2, a1_3⟩ : S45) [.int .i64 a1_0, .int .i64 a1_1, .bool a1_2, .bool a1_3] (fun k_ => k_ ≠ jb) (fun _ => False) rfl rfl ?aP (fun _ hk => hk.elim) ?aF ?aO ?aB ?aS ?aL ?_; (case aP => exact k45_mkM _ _ _ (⟨a1_0, a1_1, a1_2, a1_3⟩ : S45)); (case aB => exact (hb_ HB.out)); (case aF => exact (fun k_ hk => Kd.freshB (g := jb) (o := .cells #[.int .i64 a1_0, .int .i64 a1_1, .bool a1_2, .bool a1_3] 45 (0, 0)) (bk_ ja.out) k_ hk)); (case aO => exact (kr_ HO_5.out)); (case aS => exact (below_size (hb_ HB.out))); (case aL => have := LMc13.out; omega); intro jA w16 ho hb hg hat; rw [← jM.out] at ho; have n0_ := Aside0.mk (blk_grown (g := jb) (o := .cells #[.int .i64 a1_0, .int .i64 a1_1, .bool a1_2, .bool a1_3] 45 (0, 0)) (bk_ ja.out) hg (Kd.R_away HO_5.out (fun _ hk => hk))); have n1_ := Aside0.mk (hb); have n2_ := Aside0.mk (ho); clear ja; clear HB; clear HO_5; have ja := n0_; have HB := n1_; have jc := n2_; clear n0_ n1_ n2_; clear ho hb hg hat; have je : 0 ≤ (x7_1 : Int) := of_decide_eq_true (by first | (with_reducible assumption) | assumption); have jh : x7_1 < (l0.length : Int) := of_decide_eq_true (by first | (with_reducible assumption) | assumption); obtain ⟨jz, jv, jg, ji, jd, jf⟩ := at_T45 HR0.out x7_1 je jh; obtain rfl : jw = jz := (by injection jv); replace jg := (HB.out.cell (World.block_lt_of_cell? w _ jg)).trans jg; replace ji := (HB.out.cell (World.block_lt_of_cell? w _ ji)).trans ji; replace jd := (HB.out.cell (World.block_lt_of_cell? w _ jd)).trans jd; replace jf := (HB.out.cell (World.block_lt_of_cell? w _ jf)).trans jf; replace je := eq_true je; replace jh := eq_true jh) | ((with_reducible refine gate_builtin (b := .append) (xs := #[.tmp 31, .tmp 36]) rfl ?_); at_builtin; refine Kd.R_append k45 (w0 := w) w.heap.size rfl (.tmp 31) (.tmp 36) 27 45 (.agg #[(.int .i64 0), (.int .i64 0), (.bool false), (.bool false)]) 24 rfl Try.underlying27 info45 rfl (by decide) (by omega) jA jj (⟨(rd_T45 l0 x7_1).f0, (rd_T45 l0 x7_1).f1, (rd_T45 l0 x7_1).f2, (rd_T45 l0 x7_1).f3⟩ : S45) [.int .i64 ((rd_T45 l0 x7_1).f0), .int .i64 ((rd_T45 l0 x7_1).f1), .bool ((rd_T45 l0 x7_1).f2), .bool ((rd_T45 l0 x7_1).f3)] (fun k_ => k_ ≠ jb) (fun _ => False) rfl rfl ?aP (fun _ hk => hk.elim) ?aF ?aO ?aB ?aS ?aL ?_; (case aP => exact k45_mkM _ _ _ (⟨(rd_T45 l0 x7_1).f0, (rd_T45 l0 x7_1).f1, (rd_T45 l0 x7_1).f2, (rd_T45 l0 x7_1).f3⟩ : S45)); (case aB => exact (hb_ HB.out)); (case aF => exact (fun k_ hk => Kd.freshB (g := jb) (o := .cells #[.int .i64 a1_0, .int .i64 a1_1, .bool a1_2, .bool a1_3] 45 (0, 0)) (bk_ ja.out) k_ hk)); (case aO => exact (kr_ jc.out)); (case aS => exact (below_size (hb_ HB.out))); (case aL => have := LMc14.out; omega); intro jag w17 ho hb hg hat; rw [← jV.out] at ho; have n0_ := Aside0.mk (blk_grown (g := jb) (o := .cells #[.int .i64 a1_0, .int .i64 a1_1, .bool a1_2, .bool a1_3] 45 (0, 0)) (bk_ ja.out) hg (Kd.R_away jc.out (fun _ hk => hk))); have n1_ := Aside0.mk (hb); have n2_ := Aside0.mk (ho); clear ja; clear HB; clear jc; have ja := n0_; have HB := n1_; have jS := n2_; clear n0_ n1_ n2_; clear ho hb hg hat)))
         go_roundg k1
         case measure => have := HK1.out; omega
         case rel => exact ⟨(jad), (true), (wrap64 (x7_1 + 1)), (by first | rfl | (simp; done) | (simp [*]; done)), (by first | rfl | (simp; done) | (simp [*]; done)), H', ⟨by have := HK1.out; omega⟩, ⟨kr_ jS.out⟩, ⟨bk_ ja.out⟩, ⟨hb_ HB.out⟩⟩
        ·rw [if_neg c14] at H
         exact absurd H (by simp)
       ·rw [if_neg c13] at H
        exact absurd H (by simp)
      ·rw [if_neg c12] at H
       have c12b0 : decide (a1_0 < ((rd_T45 l0 x7_1).f0)) = false := decide_eq_false c12
       clear c12
       by_cases c18 : x5_1.length < 5864062014805
       ·rw [if_pos c18] at H
        have LMc18 := Aside0.mk c18
        clear c18
        obtain ⟨jai, jt⟩ : ∃ y_ : List (S45), y_ = (x5_1 ++ [(⟨(rd_T45 l0 x7_1).f0, (rd_T45 l0 x7_1).f1, (rd_T45 l0 x7_1).f2, (rd_T45 l0 x7_1).f3⟩ : S45)]) := ⟨_, rfl⟩
        replace H : (spec_l11Put.l0 k1 l0 jai false (wrap64 (x7_1 + 1)) a1_0 a1_1 a1_2 a1_3) = some r := by first | (rw [jt]; with_reducible exact H) | (have H2_ := (Option.bind_some _ _).symm.trans H; rw [jt]; with_reducible exact H2_) | (have H2_ := (Option.bind_some _ _).symm.trans H; with_reducible exact H2_) | with_reducible exact H | (rw [jt]; exact H) | exact H
        have jY := Aside0.mk jt
        clear jt
        have H' := Aside0.mk H
        clear H
        have jo : 0 ≤ (x7_1 : Int) := of_decide_eq_true (by first | (with_reducible assumption) | assumption)
        have jm : x7_1 < (l0.length : Int) := of_decide_eq_true (by first | (with_reducible assumption) | assumption)
        obtain ⟨jw, jU, jp, jk, jn, jl⟩ := at_T45 HR0.out x7_1 jo jm
        cases jU
        replace jp := (HB.out.cell (World.block_lt_of_cell? w _ jp)).trans jp
        replace jk := (HB.out.cell (World.block_lt_of_cell? w _ jk)).trans jk
        replace jn := (HB.out.cell (World.block_lt_of_cell? w _ jn)).trans jn
        replace jl := (HB.out.cell (World.block_lt_of_cell? w _ jl)).trans jl
        replace jo := eq_true jo
        replace jm := eq_true jm
        have hcz19_0 : wr.cell? ⟨jb, 0, none⟩ = some (.int .i64 a1_0) := (blk_cell ja.out 0).trans rfl
        have hcz19_1 : wr.cell? ⟨jb, 1, none⟩ = some (.int .i64 a1_1) := (blk_cell ja.out 1).trans rfl
        have hcz19_2 : wr.cell? ⟨jb, 2, none⟩ = some (.bool a1_2) := (blk_cell ja.out 2).trans rfl
        have hcz19_3 : wr.cell? ⟨jb, 3, none⟩ = some (.bool a1_3) := (blk_cell ja.out 3).trans rfl
        have hfz19_0 := blk_frozen ja.out 0
        have hfz19_1 := blk_frozen ja.out 1
        have hfz19_2 := blk_frozen ja.out 2
        have hfz19_3 := blk_frozen ja.out 3
        have jZ : 0 ≤ (x7_1 : Int) := of_decide_eq_true (by first | (with_reducible assumption) | assumption)
        have jX : x7_1 < (l0.length : Int) := of_decide_eq_true (by first | (with_reducible assumption) | assumption)
        obtain ⟨jal, jan, jE, jJ, jQ, jR⟩ := at_T45 HR0.out x7_1 jZ jX
        obtain rfl : jw = jal := (by injection jan)
        replace jE := (HB.out.cell (World.block_lt_of_cell? w _ jE)).trans jE
        replace jJ := (HB.out.cell (World.block_lt_of_cell? w _ jJ)).trans jJ
        replace jQ := (HB.out.cell (World.block_lt_of_cell? w _ jQ)).trans jQ
        replace jR := (HB.out.cell (World.block_lt_of_cell? w _ jR)).trans jR
        replace jZ := eq_true jZ
        replace jX := eq_true jX
        go_wp2_with (first | ((with_reducible refine gate_builtin (b := .append) (xs := #[.tmp 31, .tmp 36]) rfl ?_); at_builtin; refine Kd.R_append k45 (w0 := w) w.heap.size rfl (.tmp 31) (.tmp 36) 27 45 (.agg #[(.int .i64 0), (.int .i64 0), (.bool false), (.bool false)]) 24 rfl Try.underlying27 info45 rfl (by decide) (by omega) u5 x5_1 (⟨(rd_T45 l0 x7_1).f0, (rd_T45 l0 x7_1).f1, (rd_T45 l0 x7_1).f2, (rd_T45 l0 x7_1).f3⟩ : S45) [.int .i64 ((rd_T45 l0 x7_1).f0), .int .i64 ((rd_T45 l0 x7_1).f1), .bool ((rd_T45 l0 x7_1).f2), .bool ((rd_T45 l0 x7_1).f3)] (fun k_ => k_ ≠ jb) (fun _ => False) rfl rfl ?aP (fun _ hk => hk.elim) ?aF ?aO ?aB ?aS ?aL ?_; (case aP => exact k45_mkM _ _ _ (⟨(rd_T45 l0 x7_1).f0, (rd_T45 l0 x7_1).f1, (rd_T45 l0 x7_1).f2, (rd_T45 l0 x7_1).f3⟩ : S45)); (case aB => exact (hb_ HB.out)); (case aF => exact (fun k_ hk => Kd.freshB (g := jb) (o := .cells #[.int .i64 a1_0, .int .i64 a1_1, .bool a1_2, .bool a1_3] 45 (0, 0)) (bk_ ja.out) k_ hk)); (case aO => exact (kr_ HO_5.out)); (case aS => exact (below_size (hb_ HB.out))); (case aL => have := LMc18.out; omega); intro jab w20 ho hb hg hat; rw [← jY.out] at ho; have n0_ := Aside0.mk (blk_grown (g := jb) (o := .cells #[.int .i64 a1_0, .int .i64 a1_1, .bool a1_2, .bool a1_3] 45 (0, 0)) (bk_ ja.out) hg (Kd.R_away HO_5.out (fun _ hk => hk))); have n1_ := Aside0.mk (hb); have n2_ := Aside0.mk (ho); clear ja; clear HB; clear HO_5; have ja := n0_; have HB := n1_; have jF := n2_; clear n0_ n1_ n2_; clear ho hb hg hat))
        repeat (go_quiet (first | ((with_reducible refine gate_builtin (b := .append) (xs := #[.tmp 31, .tmp 36]) rfl ?_); at_builtin; refine Kd.R_append k45 (w0 := w) w.heap.size rfl (.tmp 31) (.tmp 36) 27 45 (.agg #[(.int .i64 0), (.int .i64 0), (.bool false), (.bool false)]) 24 rfl Try.underlying27 info45 rfl (by decide) (by omega) u5 x5_1 (⟨(rd_T45 l0 x7_1).f0, (rd_T45 l0 x7_1).f1, (rd_T45 l0 x7_1).f2, (rd_T45 l0 x7_1).f3⟩ : S45) [.int .i64 ((rd_T45 l0 x7_1).f0), .int .i64 ((rd_T45 l0 x7_1).f1), .bool ((rd_T45 l0 x7_1).f2), .bool ((rd_T45 l0 x7_1).f3)] (fun k_ => k_ ≠ jb) (fun _ => False) rfl rfl ?aP (fun _ hk => hk.elim) ?aF ?aO ?aB ?aS ?aL ?_; (case aP => exact k45_mkM _ _ _ (⟨(rd_T45 l0 x7_1).f0, (rd_T45 l0 x7_1).f1, (rd_T45 l0 x7_1).f2, (rd_T45 l0 x7_1).f3⟩ : S45)); (case aB => exact (hb_ HB.out)); (case aF => exact (fun k_ hk => Kd.freshB (g := jb) (o := .cells #[.int .i64 a1_0, .int .i64 a1_1, .bool a1_2, .bool a1_3] 45 (0, 0)) (bk_ ja.out) k_ hk)); (case aO => exact (kr_ HO_5.out)); (case aS => exact (below_size (hb_ HB.out))); (case aL => have := LMc18.out; omega); intro jab w20 ho hb hg hat; rw [← jY.out] at ho; have n0_ := Aside0.mk (blk_grown (g := jb) (o := .cells #[.int .i64 a1_0, .int .i64 a1_1, .bool a1_2, .bool a1_3] 45 (0, 0)) (bk_ ja.out) hg (Kd.R_away HO_5.out (fun _ hk => hk))); have n1_ := Aside0.mk (hb); have n2_ := Aside0.mk (ho); clear ja; clear HB; clear HO_5; have ja := n0_; have HB := n1_; have jF := n2_; clear n0_ n1_ n2_; clear ho hb hg hat)); try go_wp2_with (first | ((with_reducible refine gate_builtin (b := .append) (xs := #[.tmp 31, .tmp 36]) rfl ?_); at_builtin; refine Kd.R_append k45 (w0 := w) w.heap.size rfl (.tmp 31) (.tmp 36) 27 45 (.agg #[(.int .i64 0), (.int .i64 0), (.bool false), (.bool false)]) 24 rfl Try.underlying27 info45 rfl (by decide) (by omega) u5 x5_1 (⟨(rd_T45 l0 x7_1).f0, (rd_T45 l0 x7_1).f1, (rd_T45 l0 x7_1).f2, (rd_T45 l0 x7_1).f3⟩ : S45) [.int .i64 ((rd_T45 l0 x7_1).f0), .int .i64 ((rd_T45 l0 x7_1).f1), .bool ((rd_T45 l0 x7_1).f2), .bool ((rd_T45 l0 x7_1).f3)] (fun k_ => k_ ≠ jb) (fun _ => False) rfl rfl ?aP (fun _ hk => hk.elim) ?aF ?aO ?aB ?aS ?aL ?_; (case aP => exact k45_mkM _ _ _ (⟨(rd_T45 l0 x7_1).f0, (rd_T45 l0 x7_1).f1, (rd_T45 l0 x7_1).f2, (rd_T45 l0 x7_1).f3⟩ : S45)); (case aB => exact (hb_ HB.out)); (case aF => exact (fun k_ hk => Kd.freshB (g := jb) (o := .cells #[.int .i64 a1_0, .int .i64 a1_1, .bool a1_2, .bool a1_3] 45 (0, 0)) (bk_ ja.out) k_ hk)); (case aO => exact (kr_ HO_5.out)); (case aS => exact (below_size (hb_ HB.out))); (case aL => have := LMc18.out; omega); intro jab w20 ho hb hg hat; rw [← jY.out] at ho; have n0_ := Aside0.mk (blk_grown (g := jb) (o := .cells #[.int .i64 a1_0, .int .i64 a1_1, .bool a1_2, .bool a1_3] 45 (0, 0)) (bk_ ja.out) hg (Kd.R_away HO_5.out (fun _ hk => hk))); have n1_ := Aside0.mk (hb); have n2_ := Aside0.mk (ho); clear ja; clear HB; clear HO_5; have ja := n0_; have HB := n1_; have jF := n2_; clear n0_ n1_ n2_; clear ho hb hg hat)))
        go_roundg k1
        case measure => have := HK1.out; omega
        case rel => exact ⟨(jai), (false), (wrap64 (x7_1 + 1)), (by first | rfl | (simp; done) | (simp [*]; done)), (by first | rfl | (simp; done) | (simp [*]; done)), H', ⟨by have := HK1.out; omega⟩, ⟨kr_ jF.out⟩, ⟨bk_ ja.out⟩, ⟨hb_ HB.out⟩⟩
       ·rw [if_neg c18] at H
        exact absurd H (by simp)
     ·rw [if_neg c11] at H
      exact absurd H (by simp)
   ·rw [if_neg c6] at H
    have c6b0 : decide (x7_1 < (l0.length : Int)) = false := decide_eq_false c6
    clear c6
    by_cases c21 : x6_1 = true
    ·subst c21
     have H1 : (some x5_1) = some r := by rw [if_pos rfl] at H; exact H
     clear H
     have H := H1
     clear H1
     obtain rfl := Option.some.inj H
     go_wp2
     repeat (go_quiet (fail); try go_wp2)
     go_ret
     exact ⟨_, by first | rfl | (simp [errW_none, errW_some] <;> rfl) | (simp [*, errW_none, errW_some] <;> rfl), by (with_reducible repeat (first | apply Kd.R_alloc | apply Kd.R_drewN | apply Kd.R_drew)); exact Kd.R_mono HO_5.out (fun _ hk => trivial), by repeat (first | (with_reducible first | exact HB.out | apply below_alloc | apply pw_below_drewN | apply below_drew1 | refine below_set ?_ jB.out) | exact HB.out)⟩
    ·replace c21 := Bool.eq_false_iff.mpr c21
     subst c21
     have H1 : (if x5_1.length < 5864062014805 then (some (x5_1 ++ [(⟨a1_0, a1_1, a1_2, a1_3⟩ : S45)])) else (none)) = some r := by rw [if_neg (show ¬ (false = true) by decide)] at H; exact H
     clear H
     have H := H1
     clear H1
     by_cases c22 : x5_1.length < 5864062014805
     ·rw [if_pos c22] at H
      have LMc22 := Aside0.mk c22
      clear c22
      obtain ⟨jam, jr⟩ : ∃ y_ : List (S45), y_ = (x5_1 ++ [(⟨a1_0, a1_1, a1_2, a1_3⟩ : S45)]) := ⟨_, rfl⟩
      replace H : (some jam) = some r := by first | (rw [jr]; with_reducible exact H) | (have H2_ := (Option.bind_some _ _).symm.trans H; rw [jr]; with_reducible exact H2_) | (have H2_ := (Option.bind_some _ _).symm.trans H; with_reducible exact H2_) | with_reducible exact H | (rw [jr]; exact H) | exact H
      have jC := Aside0.mk jr
      clear jr
      obtain rfl := Option.some.inj H
      have hcz23_0 : wr.cell? ⟨jb, 0, none⟩ = some (.int .i64 a1_0) := (blk_cell ja.out 0).trans rfl
      have hcz23_1 : wr.cell? ⟨jb, 1, none⟩ = some (.int .i64 a1_1) := (blk_cell ja.out 1).trans rfl
      have hcz23_2 : wr.cell? ⟨jb, 2, none⟩ = some (.bool a1_2) := (blk_cell ja.out 2).trans rfl
      have hcz23_3 : wr.cell? ⟨jb, 3, none⟩ = some (.bool a1_3) := (blk_cell ja.out 3).trans rfl
      have hfz23_0 := blk_frozen ja.out 0
      have hfz23_1 := blk_frozen ja.out 1
      have hfz23_2 := blk_frozen ja.out 2
      have hfz23_3 := blk_frozen ja.out 3
      go_wp2_with (first | ((with_reducible refine gate_builtin (b := .append) (xs := #[.tmp 40, .tmp 42]) rfl ?_); at_builtin; refine Kd.R_append k45 (w0 := w) w.heap.size rfl (.tmp 40) (.tmp 42) 27 45 (.agg #[(.int .i64 0), (.int .i64 0), (.bool false), (.bool false)]) 24 rfl Try.underlying27 info45 rfl (by decide) (by omega) u5 x5_1 (⟨a1_0, a1_1, a1_2, a1_3⟩ : S45) [.int .i64 a1_0, .int .i64 a1_1, .bool a1_2, .bool a1_3] (fun k_ => k_ ≠ jb) (fun _ => False) rfl rfl ?aP (fun _ hk => hk.elim) ?aF ?aO ?aB ?aS ?aL ?_; (case aP => exact k45_mkM _ _ _ (⟨a1_0, a1_1, a1_2, a1_3⟩ : S45)); (case aB => exact (hb_ HB.out)); (case aF => exact (fun k_ hk => Kd.freshB (g := jb) (o := .cells #[.int .i64 a1_0, .int .i64 a1_1, .bool a1_2, .bool a1_3] 45 (0, 0)) (bk_ ja.out) k_ hk)); (case aO => exact (kr_ HO_5.out)); (case aS => exact (below_size (hb_ HB.out))); (case aL => have := LMc22.out; omega); intro jae w24 ho hb hg hat; rw [← jC.out] at ho; have n0_ := Aside0.mk (blk_grown (g := jb) (o := .cells #[.int .i64 a1_0, .int .i64 a1_1, .bool a1_2, .bool a1_3] 45 (0, 0)) (bk_ ja.out) hg (Kd.R_away HO_5.out (fun _ hk => hk))); have n1_ := Aside0.mk (hb); have n2_ := Aside0.mk (ho); clear ja; clear HB; clear HO_5; have ja := n0_; have HB := n1_; have jI := n2_; clear n0_ n1_ n2_; clear ho hb hg hat))
      repeat (go_quiet (first | ((with_reducible refine gate_builtin (b := .append) (xs := #[.tmp 40, .tmp 42]) rfl ?_); at_builtin; refine Kd.R_append k45 (w0 := w) w.heap.size rfl (.tmp 40) (.tmp 42) 27 45 (.agg #[(.int .i64 0), (.int .i64 0), (.bool false), (.bool false)]) 24 rfl Try.underlying27 info45 rfl (by decide) (by omega) u5 x5_1 (⟨a1_0, a1_1, a1_2, a1_3⟩ : S45) [.int .i64 a1_0, .int .i64 a1_1, .bool a1_2, .bool a1_3] (fun k_ => k_ ≠ jb) (fun _ => False) rfl rfl ?aP (fun _ hk => hk.elim) ?aF ?aO ?aB ?aS ?aL ?_; (case aP => exact k45_mkM _ _ _ (⟨a1_0, a1_1, a1_2, a1_3⟩ : S45)); (case aB => exact (hb_ HB.out)); (case aF => exact (fun k_ hk => Kd.freshB (g := jb) (o := .cells #[.int .i64 a1_0, .int .i64 a1_1, .bool a1_2, .bool a1_3] 45 (0, 0)) (bk_ ja.out) k_ hk)); (case aO => exact (kr_ HO_5.out)); (case aS => exact (below_size (hb_ HB.out))); (case aL => have := LMc22.out; omega); intro jae w24 ho hb hg hat; rw [← jC.out] at ho; have n0_ := Aside0.mk (blk_grown (g := jb) (o := .cells #[.int .i64 a1_0, .int .i64 a1_1, .bool a1_2, .bool a1_3] 45 (0, 0)) (bk_ ja.out) hg (Kd.R_away HO_5.out (fun _ hk => hk))); have n1_ := Aside0.mk (hb); have n2_ := Aside0.mk (ho); clear ja; clear HB; clear HO_5; have ja := n0_; have HB := n1_; have jI := n2_; clear n0_ n1_ n2_; clear ho hb hg hat)); try go_wp2_with (first | ((with_reducible refine gate_builtin (b := .append) (xs := #[.tmp 40, .tmp 42]) rfl ?_); at_builtin; refine Kd.R_append k45 (w0 := w) w.heap.size rfl (.tmp 40) (.tmp 42) 27 45 (.agg #[(.int .i64 0), (.int .i64 0), (.bool false), (.bool false)]) 24 rfl Try.underlying27 info45 rfl (by decide) (by omega) u5 x5_1 (⟨a1_0, a1_1, a1_2, a1_3⟩ : S45) [.int .i64 a1_0, .int .i64 a1_1, .bool a1_2, .bool a1_3] (fun k_ => k_ ≠ jb) (fun _ => False) rfl rfl ?aP (fun _ hk => hk.elim) ?aF ?aO ?aB ?aS ?aL ?_; (case aP => exact k45_mkM _ _ _ (⟨a1_0, a1_1, a1_2, a1_3⟩ : S45)); (case aB => exact (hb_ HB.out)); (case aF => exact (fun k_ hk => Kd.freshB (g := jb) (o := .cells #[.int .i64 a1_0, .int .i64 a1_1, .bool a1_2, .bool a1_3] 45 (0, 0)) (bk_ ja.out) k_ hk)); (case aO => exact (kr_ HO_5.out)); (case aS => exact (below_size (hb_ HB.out))); (case aL => have := LMc22.out; omega); intro jae w24 ho hb hg hat; rw [← jC.out] at ho; have n0_ := Aside0.mk (blk_grown (g := jb) (o := .cells #[.int .i64 a1_0, .int .i64 a1_1, .bool a1_2, .bool a1_3] 45 (0, 0)) (bk_ ja.out) hg (Kd.R_away HO_5.out (fun _ hk => hk))); have n1_ := Aside0.mk (hb); have n2_ := Aside0.mk (ho); clear ja; clear HB; clear HO_5; have ja := n0_; have HB := n1_; have jI := n2_; clear n0_ n1_ n2_; clear ho hb hg hat)))
      go_ret
      exact ⟨_, by first | rfl | (simp [errW_none, errW_some] <;> rfl) | (simp [*, errW_none, errW_some] <;> rfl), by (with_reducible repeat (first | apply Kd.R_alloc | apply Kd.R_drewN | apply Kd.R_drew)); exact Kd.R_mono jI.out (fun _ hk => trivial), by repeat (first | (with_reducible first | exact HB.out | apply below_alloc | apply pw_below_drewN | apply below_drew1 | refine below_set ?_ jB.out) | exact HB.out)⟩
     ·rw [if_neg c22] at H
      exact absurd H (by simp)

end Go.Proofs.Ytjldpnhlegbjkaa.PA
