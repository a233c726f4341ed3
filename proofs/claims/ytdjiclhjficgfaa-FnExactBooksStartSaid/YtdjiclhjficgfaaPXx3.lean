-- Written by a program of this workplace (wip/xprint.py over the kit's print.py) out of the translation.
import Derived.Test.YtdjiclhjficgfaaPXx0
namespace Go.Proofs.Ytdjiclhjficgfaa.PX
open Go.RowKit Go.Proofs.YtdjiclhjficgfaaW.PrintWords Go.Proofs.YtdjiclhjficgfaaW.PrintLast Go.Proofs.YtdjiclhjficgfaaW.PrintMore
attribute [local go_sem] max2_int min2_int max_two min_two max_three min_three max_four min_four   -- for this text's walks alone
set_option linter.unusedVariables false
set_option linter.unusedSimpArgs false

/-! ### spec_MapStart: function 60 -/
def spec_MapStart.l0 : Nat → Int → Int → List Int → Option (Int × List Int)
  | 0, _, _, _ => none
  | k + 1, x2, x610003000, x610003001 => if x2 < 8 then (if x610003001.length < 17592186044416 then (spec_MapStart.l0 k (wrap64 (x2 + 1)) x610003000 (x610003001 ++ [Int.tmod x2 3])) else (none)) else (some (x610003000, x610003001))
def spec_MapStart.f (k : Nat)  : Option (Int × List Int) := spec_MapStart.l0 k 0 1 ([] : List Int)
theorem spec_MapStart.mono_l : ∀ k, (∀ y0 y1 y2, LeO (spec_MapStart.l0 k y0 y1 y2) (spec_MapStart.l0 (k + 1) y0 y1 y2))
  | 0 => fun _ _ _ r h => by simp [spec_MapStart.l0] at h
  | k + 1 => by
    have ih0 := spec_MapStart.mono_l k
    · intro y0 y1 y2
      unfold spec_MapStart.l0
      repeat' first
      | (with_reducible exact ih0 _ _ _)
      | (with_reducible exact LeO.refl _)
      | (with_reducible exact LeO.none _)
      | (with_reducible refine LeO.ite ?_ ?_)
      | (with_reducible refine LeO.bind ?_ (fun _ => ?_))
      | exact ih0 _ _ _
      | exact LeO.none _
      | refine LeO.ite ?_ ?_
      | refine LeO.bind ?_ (fun _ => ?_)
theorem spec_MapStart.mono : ∀ k, LeO (spec_MapStart.f k ) (spec_MapStart.f (k + 1) ) := by
  intro  k
  have ih0 := spec_MapStart.mono_l k
  unfold spec_MapStart.f
  repeat' first
      | (with_reducible exact ih0 _ _ _)
      | (with_reducible exact LeO.refl _)
      | (with_reducible exact LeO.none _)
      | (with_reducible refine LeO.ite ?_ ?_)
      | (with_reducible refine LeO.bind ?_ (fun _ => ?_))
      | exact ih0 _ _ _
      | exact LeO.none _
      | refine LeO.ite ?_ ?_
      | refine LeO.bind ?_ (fun _ => ?_)
set_option maxHeartbeats 8000000 in
set_option maxRecDepth 100000 in
theorem spec_MapStart.calls (k : Nat)  (r1 : Int) (r2 : List Int) (w : World) (h : spec_MapStart.f k  = some (r1, r2)) :
    Calls Try.prog 60 #[] w fun e w' => ∃ v1_ : Value, e = .returned (.agg #[.int .i64 r1, v1_]) ∧ Kd.R (Kd.int .i64) 3 w' w.heap.size (fun _ => True) v1_ r2 ∧ Below w.heap.size w w' := by
  have hu53 := Try.underlying53
  have HB := Aside0.mk (Below.refl w.heap.size w)
  have H : (spec_MapStart.l0 k 0 1 ([] : List Int)) = some (r1, r2) := h
  clear h
  have H' := Aside0.mk H
  clear H
  go_enter Try.func60, Try.ntmps60
  go_wp2_with (first | ((with_reducible refine gate_dst (N := 0) rfl ?_); refine box_event ?hg (N := 0) ?hd (cs := #[.int .i64 0, .slice none 0 0]) (t := 53) ?hr ?_; (case hd => rfl); (case hg => rfl); (case hr => first | (go_simp; done) | (go_simp; rfl)); intro gb610001 hg w1 hbox hb; have n0_ := Aside0.mk (below_step (by repeat (first | (with_reducible first | exact HB.out | apply below_alloc | apply pw_below_drewN | apply below_drew1) | exact HB.out)) hb); have n1_ := Aside0.mk (hbox); have n2_ := Aside0.mk ((by rw [hg]; exact (below_size (by repeat (first | (with_reducible first | exact HB.out | apply below_alloc | apply pw_below_drewN | apply below_drew1) | exact HB.out))) : w.heap.size ≤ gb610001)); have n3_ := Aside0.mk ((by rw [hg]; exact (below_size (by repeat (first | (with_reducible first | exact HB.out | apply below_alloc | apply pw_below_drewN | apply below_drew1) | exact HB.out))) : w.heap.size ≤ gb610001)); clear HB; have HB := n0_; have BK610001 := n1_; have GW610001 := n2_; have GE610001 := n3_; clear n0_ n1_ n2_ n3_; clear hb hbox hg) | ((with_reducible refine gate_dst (N := 1) rfl ?_); refine box_event ?hg (N := 1) ?hd (cs := #[.int .i64 0, .slice none 0 0]) (t := 53) ?hr ?_; (case hd => rfl); (case hg => rfl); (case hr => first | (go_simp; done) | (go_simp; rfl)); intro gb610002 hg w2 hbox hb; have n0_ := Aside0.mk (blk_below (g := gb610001) (o := .cells #[.int .i64 0, .slice none 0 0] 53 (0, 0)) (by (with_reducible repeat (first | refine blk_drewN ?_ _ | refine blk_drew ?_ | refine blk_alloc ?_ _)); exact BK610001.out) hb); have n1_ := Aside0.mk (below_step (by repeat (first | (with_reducible first | exact HB.out | apply below_alloc | apply pw_below_drewN | apply below_drew1 | refine below_set ?_ GE610001.out) | exact HB.out)) hb); have n2_ := Aside0.mk (hbox); have n3_ := Aside0.mk ((by rw [hg]; exact (below_size (by repeat (first | (with_reducible first | exact HB.out | apply below_alloc | apply pw_below_drewN | apply below_drew1 | refine below_set ?_ GE610001.out) | exact HB.out))) : w.heap.size ≤ gb610002)); have n4_ := Aside0.mk ((by rw [hg]; exact (below_size (by repeat (first | (with_reducible first | exact HB.out | apply below_alloc | apply pw_below_drewN | apply below_drew1 | refine below_set ?_ GE610001.out) | exact HB.out))) : w.heap.size ≤ gb610002)); have n5_ := Aside0.mk ((by rw [hg]; exact Nat.ne_of_lt (blk_lt (g := gb610001) (o := .cells #[.int .i64 0, .slice none 0 0] 53 (0, 0)) (by (with_reducible repeat (first | refine blk_drewN ?_ _ | refine blk_drew ?_ | refine blk_alloc ?_ _)); exact BK610001.out)) : gb610001 ≠ gb610002)); have n6_ := Aside0.mk ((by rw [hg]; exact Nat.ne_of_gt (blk_lt (g := gb610001) (o := .cells #[.int .i64 0, .slice none 0 0] 53 (0, 0)) (by (with_reducible repeat (first | refine blk_drewN ?_ _ | refine blk_drew ?_ | refine blk_alloc ?_ _)); exact BK610001.out)) : gb610002 ≠ gb610001)); clear BK610001; clear HB; have BK610001 := n0_; have HB := n1_; have BK610002 := n2_; have GW610002 := n3_; have GE610002 := n4_; have NB610001_610002 := n5_; have NB610002_610001 := n6_; clear n0_ n1_ n2_ n3_ n4_ n5_ n6_; clear hb hbox hg; have hnb3 := NB610002_610001.out; have hnc3 := NB610001_610002.out; have hcz4_0 : w2.cell? ⟨gb610002, 0, none⟩ = some (.int .i64 0) := (blk_cell BK610002.out 0).trans rfl; have hcz4_1 : w2.cell? ⟨gb610002, 1, none⟩ = some (.slice none 0 0) := (blk_cell BK610002.out 1).trans rfl; have hfz4_0 := blk_frozen BK610002.out 0; have hfz4_1 := blk_frozen BK610002.out 1))
  go_loopg [2] k (fun kq v2 w' => ∃ (x2_1 : Int) (x610003001_1 : List Int) (u610003001 : Value), v2 = .int .i64 x2_1 ∧ Aside0 (spec_MapStart.l0 kq x2_1 1 x610003001_1 = some (r1, r2)) ∧ Aside0 (kq ≤ k) ∧ Aside0 (Kd.R (Kd.int .i64) 3 w' w.heap.size (fun _ => True) u610003001 x610003001_1) ∧ Aside0 (w'.heap[gb610001]? = some (.cells #[.int .i64 0, (.slice none 0 0)] 53 (0, 0))) ∧ Aside0 (w'.heap[gb610002]? = some (.cells #[.int .i64 1, u610003001] 53 (0, 0))) ∧ Aside0 (Below w.heap.size w w'))
  case atStart => exact ⟨(0), (([] : List Int)), (.slice none 0 0), (by first | rfl | (simp; done) | (simp [*]; done)), H', ⟨Nat.le_refl _⟩, ⟨by first | exact Kd.R_nil _ _ _ _ _ | exact Kd.N_nil _ _ _ _ _ | exact Kd.V_nil _ _ _ _ _ | exact Kd.Q_nil _ _ _ _ _ | exact Kd.S_nil _ _ _ _ _⟩, ⟨by (with_reducible repeat (first | refine blk_drewN ?_ _ | refine blk_drew ?_ | refine blk_alloc ?_ _)); refine blk_far ?_ NB610001_610002.out _; (with_reducible repeat (first | refine blk_drewN ?_ _ | refine blk_drew ?_ | refine blk_alloc ?_ _)); refine blk_far ?_ NB610001_610002.out _; (with_reducible repeat (first | refine blk_drewN ?_ _ | refine blk_drew ?_ | refine blk_alloc ?_ _)); exact BK610001.out⟩, ⟨by (with_reducible repeat (first | refine blk_drewN ?_ _ | refine blk_drew ?_ | refine blk_alloc ?_ _)); refine blk_put (cs := #[.int .i64 1, .slice none 0 0]) ?_ 1 _ rfl; (with_reducible repeat (first | refine blk_drewN ?_ _ | refine blk_drew ?_ | refine blk_alloc ?_ _)); refine blk_put (cs := #[.int .i64 0, .slice none 0 0]) ?_ 0 _ rfl; (with_reducible repeat (first | refine blk_drewN ?_ _ | refine blk_drew ?_ | refine blk_alloc ?_ _)); exact BK610002.out⟩, ⟨by repeat (first | (with_reducible first | exact HB.out | apply below_alloc | apply pw_below_drewN | apply below_drew1 | refine below_set ?_ GE610001.out | refine below_set ?_ GE610002.out) | exact HB.out)⟩⟩
  case round =>
    clear H'
    try clear p2
    try clear c3
    try clear hcz4_0
    try clear hcz4_1
    try clear hfz4_0
    try clear hfz4_1
    obtain ⟨x2_1, x610003001_1, u610003001, rfl, HA, HK1, HO_610003001, BK610001, BK610002, HB⟩ := hrel
    cases gk with
    | zero => exact absurd HA.out (by simp [spec_MapStart.l0])
    | succ k1 =>
      have H := HA.out
      clear HA
      simp only [spec_MapStart.l0] at H
      by_cases c5 : x2_1 < 8
      · rw [if_pos c5] at H
        have c5b0 : decide (x2_1 < 8) = true := decide_eq_true c5
        clear c5
        by_cases c6 : x610003001_1.length < 17592186044416
        · rw [if_pos c6] at H
          have LMc6 := Aside0.mk c6
          clear c6
          obtain ⟨y610003, hy610003⟩ : ∃ y_ : List Int, y_ = (x610003001_1 ++ [Int.tmod x2_1 3]) := ⟨_, rfl⟩
          replace H : (spec_MapStart.l0 k1 (wrap64 (x2_1 + 1)) 1 y610003) = some (r1, r2) := by first | (rw [hy610003]; with_reducible exact H) | (have H2_ := (Option.bind_some _ _).symm.trans H; rw [hy610003]; with_reducible exact H2_) | (have H2_ := (Option.bind_some _ _).symm.trans H; with_reducible exact H2_) | with_reducible exact H | (rw [hy610003]; exact H) | exact H
          have Ny610003 := Aside0.mk hy610003
          clear hy610003
          have H' := Aside0.mk H
          clear H
          have hnb7 := NB610002_610001.out
          have hnc7 := NB610001_610002.out
          have hcz8_0 : wr.cell? ⟨gb610002, 0, none⟩ = some (.int .i64 1) := (blk_cell BK610002.out 0).trans rfl
          have hcz8_1 : wr.cell? ⟨gb610002, 1, none⟩ = some (u610003001) := (blk_cell BK610002.out 1).trans rfl
          have hfz8_0 := blk_frozen BK610002.out 0
          have hfz8_1 := blk_frozen BK610002.out 1
          go_wp2_with (first | ((with_reducible refine gate_builtin (b := .append) (xs := #[.tmp 9, .tmp 12]) rfl ?_); at_builtin; refine Kd.R_append (Kd.int .i64) (w0 := w) w.heap.size rfl (.tmp 9) (.tmp 12) 31 3 (.int .i64 0) 8 rfl Try.underlying31 info3 rfl (by decide) (by omega) u610003001 x610003001_1 (Int.tmod x2_1 3) [.int .i64 (Int.tmod x2_1 3)] (fun _ => True) (fun _ => False) rfl rfl ?aP (fun _ hk => hk.elim) ?aF ?aO ?aB ?aS ?aL ?_; (case aP => exact rfl); (case aB => exact (by repeat (first | (with_reducible first | exact HB.out | apply below_alloc | apply pw_below_drewN | apply below_drew1 | refine below_set ?_ GE610001.out | refine below_set ?_ GE610002.out) | exact HB.out))); (case aF => exact (fun _ _ => trivial)); (case aO => exact (by (with_reducible repeat (first | apply Kd.R_alloc | apply Kd.R_drewN | apply Kd.R_drew)); exact HO_610003001.out)); (case aS => exact (below_size (by repeat (first | (with_reducible first | exact HB.out | apply below_alloc | apply pw_below_drewN | apply below_drew1 | refine below_set ?_ GE610001.out | refine below_set ?_ GE610002.out) | exact HB.out)))); (case aL => have := LMc6.out; omega); intro v610004 w9 ho hb hg hat; rw [← Ny610003.out] at ho; have n0_ := Aside0.mk (blk_grown (g := gb610001) (o := .cells #[.int .i64 0, .slice none 0 0] 53 (0, 0)) (by (with_reducible repeat (first | refine blk_drewN ?_ _ | refine blk_drew ?_ | refine blk_alloc ?_ _)); exact BK610001.out) hg (Kd.R_ne HO_610003001.out BK610001.out (by decide))); have n1_ := Aside0.mk (blk_grown (g := gb610002) (o := .cells #[.int .i64 1, u610003001] 53 (0, 0)) (by (with_reducible repeat (first | refine blk_drewN ?_ _ | refine blk_drew ?_ | refine blk_alloc ?_ _)); exact BK610002.out) hg (Kd.R_ne HO_610003001.out BK610002.out (by decide))); have n2_ := Aside0.mk (hb); have n3_ := Aside0.mk (ho); clear BK610001; clear BK610002; clear HB; clear HO_610003001; have BK610001 := n0_; have BK610002 := n1_; have HB := n2_; have HO610005 := n3_; clear n0_ n1_ n2_ n3_; clear ho hb hg hat; obtain ⟨Ao10, co10, eo10⟩ := Kd.R_slice HO610005.out; subst eo10; have hcz11_0 : w9.cell? ⟨gb610002, 0, none⟩ = some (.int .i64 1) := (blk_cell BK610002.out 0).trans rfl; have hcz11_1 : w9.cell? ⟨gb610002, 1, none⟩ = some (u610003001) := (blk_cell BK610002.out 1).trans rfl; have hfz11_0 := blk_frozen BK610002.out 0; have hfz11_1 := blk_frozen BK610002.out 1))
          go_roundg k1
          case measure => have := HK1.out; omega
          case rel => exact ⟨(wrap64 (x2_1 + 1)), (y610003), (.slice Ao10 y610003.length co10), (by first | rfl | (simp; done) | (simp [*]; done)), H', ⟨by have := HK1.out; omega⟩, ⟨by (with_reducible repeat (first | apply Kd.R_alloc | apply Kd.R_drewN | apply Kd.R_drew)); exact Kd.R_mono (Kd.R_far (p := ⟨gb610002, 1, none⟩) (Kd.R_types HO610005.out BK610002.out (by decide)) (fun _ hk => hk.2) (.slice Ao10 y610003.length co10)) (fun _ hk => trivial)⟩, ⟨by (with_reducible repeat (first | refine blk_drewN ?_ _ | refine blk_drew ?_ | refine blk_alloc ?_ _)); refine blk_far ?_ NB610001_610002.out _; (with_reducible repeat (first | refine blk_drewN ?_ _ | refine blk_drew ?_ | refine blk_alloc ?_ _)); exact BK610001.out⟩, ⟨by (with_reducible repeat (first | refine blk_drewN ?_ _ | refine blk_drew ?_ | refine blk_alloc ?_ _)); refine blk_put (cs := #[.int .i64 1, u610003001]) ?_ 1 _ rfl; (with_reducible repeat (first | refine blk_drewN ?_ _ | refine blk_drew ?_ | refine blk_alloc ?_ _)); exact BK610002.out⟩, ⟨by repeat (first | (with_reducible first | exact HB.out | apply below_alloc | apply pw_below_drewN | apply below_drew1 | refine below_set ?_ GE610001.out | refine below_set ?_ GE610002.out) | exact HB.out)⟩⟩
        · rw [if_neg c6] at H
          exact absurd H (by simp)
      · rw [if_neg c5] at H
        have c5b0 : decide (x2_1 < 8) = false := decide_eq_false c5
        clear c5
        simp only [Option.some.injEq, Prod.mk.injEq] at H
        obtain ⟨rfl, rfl⟩ := H
        have hnb12 := NB610002_610001.out
        have hnc12 := NB610001_610002.out
        have hcz13_0 : wr.cell? ⟨gb610002, 0, none⟩ = some (.int .i64 1) := (blk_cell BK610002.out 0).trans rfl
        have hcz13_1 : wr.cell? ⟨gb610002, 1, none⟩ = some (u610003001) := (blk_cell BK610002.out 1).trans rfl
        have hfz13_0 := blk_frozen BK610002.out 0
        have hfz13_1 := blk_frozen BK610002.out 1
        have hcz14_0 : wr.cell? ⟨gb610001, 0, none⟩ = some (.int .i64 0) := (blk_cell BK610001.out 0).trans rfl
        have hcz14_1 : wr.cell? ⟨gb610001, 1, none⟩ = some (.slice none 0 0) := (blk_cell BK610001.out 1).trans rfl
        have hfz14_0 := blk_frozen BK610001.out 0
        have hfz14_1 := blk_frozen BK610001.out 1
        obtain ⟨Ao15, co15, eo15⟩ := Kd.R_slice HO_610003001.out
        subst eo15
        go_wp2
        refine bodyPost_ret (results_cell_row rfl _ _ gb610001 53 #[.int .i64 1, .slice Ao15 x610003001_1.length co15] (0, 0) _ rfl (by (with_reducible repeat (first | refine blk_drewN ?_ _ | refine blk_drew ?_ | refine blk_alloc ?_ _)); refine blk_put (cs := #[.int .i64 1, .slice none 0 0]) ?_ 1 _ rfl; (with_reducible repeat (first | refine blk_drewN ?_ _ | refine blk_drew ?_ | refine blk_alloc ?_ _)); refine blk_put (cs := #[.int .i64 0, .slice none 0 0]) ?_ 0 _ rfl; (with_reducible repeat (first | refine blk_drewN ?_ _ | refine blk_drew ?_ | refine blk_alloc ?_ _)); exact BK610001.out) Try.underlying53 rfl (by kernel_rfl)) rfl ?_
        exact ⟨_, by first | rfl | (simp [errW_none, errW_some] <;> rfl) | (simp [*, errW_none, errW_some] <;> rfl), by (with_reducible repeat (first | apply Kd.R_alloc | apply Kd.R_drewN | apply Kd.R_drew)); exact Kd.R_mono (Kd.R_far (p := ⟨gb610001, 1, none⟩) (Kd.R_far (p := ⟨gb610001, 0, none⟩) (Kd.R_types HO_610003001.out BK610001.out (by decide)) (fun _ hk => hk.2) (.int .i64 1)) (fun _ hk => hk.2) (.slice Ao15 x610003001_1.length co15)) (fun _ hk => trivial), by repeat (first | (with_reducible first | exact HB.out | apply below_alloc | apply pw_below_drewN | apply below_drew1 | refine below_set ?_ GE610001.out | refine below_set ?_ GE610002.out) | exact HB.out)⟩

/-! ### spec_BooksStart: function 35 -/
def spec_BooksStart.f (k : Nat)  : Option (Int × Int × List Int × (List (S48)) × (List (S108))) := (spec_MapStart.f k).bind fun bt360002 => (some (0, bt360002.1, bt360002.2, ([] : List (S48)), ([] : List (S108))))
theorem spec_BooksStart.mono : ∀ k, LeO (spec_BooksStart.f k ) (spec_BooksStart.f (k + 1) ) := by
  intro  k
  unfold spec_BooksStart.f
  repeat' first
      | (with_reducible exact spec_MapStart.mono _)
      | (with_reducible exact LeO.refl _)
      | (with_reducible exact LeO.none _)
      | (with_reducible refine LeO.ite ?_ ?_)
      | (with_reducible refine LeO.bind ?_ (fun _ => ?_))
      | exact spec_MapStart.mono _
      | exact LeO.none _
      | refine LeO.ite ?_ ?_
      | refine LeO.bind ?_ (fun _ => ?_)
set_option maxHeartbeats 8000000 in
set_option maxRecDepth 100000 in
theorem spec_BooksStart.calls (k : Nat)  (r1 : Int) (r2 : Int) (r3 : List Int) (r4 : List (S48)) (r5 : List (S108)) (w : World) (h : spec_BooksStart.f k  = some (r1, r2, r3, r4, r5)) :
    Calls Try.prog 35 #[] w fun e w' => ∃ v2_ v3_ v4_ : Value, e = .returned (.agg #[.int .i64 r1, .int .i64 r2, v2_, v3_, v4_]) ∧ Kd.R (Kd.int .i64) 3 w' w.heap.size (fun _ => True) v2_ r3 ∧ Kd.R k48 48 w' w.heap.size (fun _ => True) v3_ r4 ∧ Kd.S k108 108 w' w.heap.size (fun k_ => some k_ ≠ (v2_ : Value).ownBlock) v4_ r5 ∧ Below w.heap.size w w' := by
  have hu56 := Try.underlying56
  have HB := Aside0.mk (Below.refl w.heap.size w)
  have H : ((spec_MapStart.f k).bind fun bt360002 => (some (0, bt360002.1, bt360002.2, ([] : List (S48)), ([] : List (S108))))) = some (r1, r2, r3, r4, r5) := h
  clear h
  replace H := Option.bind_eq_some_iff.mp H
  obtain ⟨⟨t360002, t360003⟩, A10, H⟩ := H
  replace H : (some (0, t360002, t360003, ([] : List (S48)), ([] : List (S108)))) = some (r1, r2, r3, r4, r5) := H
  have A1 := Aside0.mk A10
  clear A10
  simp only [Option.some.injEq, Prod.mk.injEq] at H
  obtain ⟨rfl, rfl, rfl, rfl, rfl⟩ := H
  go_enter Try.func35, Try.ntmps35
  go_wp2_with (first | ((with_reducible refine gate_dst (N := 0) rfl ?_); refine box_event ?hg (N := 0) ?hd (cs := #[.int .i64 0, .int .i64 0, .slice none 0 0, .slice none 0 0, .slice none 0 0]) (t := 56) ?hr ?_; (case hd => rfl); (case hg => rfl); (case hr => first | (go_simp; done) | (go_simp; rfl)); intro gb360001 hg w2 hbox hb; have n0_ := Aside0.mk (below_step (by repeat (first | (with_reducible first | exact HB.out | apply below_alloc | apply pw_below_drewN | apply below_drew1) | exact HB.out)) hb); have n1_ := Aside0.mk (hbox); have n2_ := Aside0.mk ((by rw [hg]; exact (below_size (by repeat (first | (with_reducible first | exact HB.out | apply below_alloc | apply pw_below_drewN | apply below_drew1) | exact HB.out))) : w.heap.size ≤ gb360001)); have n3_ := Aside0.mk ((by rw [hg]; exact (below_size (by repeat (first | (with_reducible first | exact HB.out | apply below_alloc | apply pw_below_drewN | apply below_drew1) | exact HB.out))) : w.heap.size ≤ gb360001)); clear HB; have HB := n0_; have BK360001 := n1_; have GW360001 := n2_; have GE360001 := n3_; clear n0_ n1_ n2_ n3_; clear hb hbox hg) | ((with_reducible refine gate_callee (f := 60) rfl ?_); refine goesL_ (some 1) rfl rfl Try.func60 (by kernel_rfl) rfl #[] rfl (by (try simp only [List.map_toArray, List.map_cons, List.map_nil]); first | done | rfl | (simp only [List.length_drop, List.length_take]; rfl)) ?_; (with_reducible refine (spec_MapStart.calls k  t360002 t360003 _ A1.out).mono ?_); rintro e w3 ⟨v360004, rfl, ho0, hb⟩; refine ⟨_, rfl, ?_⟩; have n0_ := Aside0.mk (Kd.R_lower ho0 (below_size (by repeat (first | (with_reducible first | exact HB.out | apply below_alloc | apply pw_below_drewN | apply below_drew1 | refine below_set ?_ GE360001.out) | exact HB.out)))); have n1_ := Aside0.mk (blk_below (g := gb360001) (o := .cells #[.int .i64 0, .int .i64 0, .slice none 0 0, .slice none 0 0, .slice none 0 0] 56 (0, 0)) (by (with_reducible repeat (first | refine blk_drewN ?_ _ | refine blk_drew ?_ | refine blk_alloc ?_ _)); exact BK360001.out) hb); have n2_ := Aside0.mk (below_step (by repeat (first | (with_reducible first | exact HB.out | apply below_alloc | apply pw_below_drewN | apply below_drew1 | refine below_set ?_ GE360001.out) | exact HB.out)) hb); clear BK360001; clear HB; have HO360005 := n0_; have BK360001 := n1_; have HB := n2_; clear n0_ n1_ n2_; (try clear hb); (try clear hb2); (try clear hk); (try clear hi); (try clear ho0); obtain ⟨Ao4, co4, eo4⟩ := Kd.R_slice HO360005.out; subst eo4; have hcz5_0 : w3.cell? ⟨gb360001, 0, none⟩ = some (.int .i64 0) := (blk_cell BK360001.out 0).trans rfl; have hcz5_1 : w3.cell? ⟨gb360001, 1, none⟩ = some (.int .i64 0) := (blk_cell BK360001.out 1).trans rfl; have hcz5_2 : w3.cell? ⟨gb360001, 2, none⟩ = some (.slice none 0 0) := (blk_cell BK360001.out 2).trans rfl; have hcz5_3 : w3.cell? ⟨gb360001, 3, none⟩ = some (.slice none 0 0) := (blk_cell BK360001.out 3).trans rfl; have hcz5_4 : w3.cell? ⟨gb360001, 4, none⟩ = some (.slice none 0 0) := (blk_cell BK360001.out 4).trans rfl; have hfz5_0 := blk_frozen BK360001.out 0; have hfz5_1 := blk_frozen BK360001.out 1; have hfz5_2 := blk_frozen BK360001.out 2; have hfz5_3 := blk_frozen BK360001.out 3; have hfz5_4 := blk_frozen BK360001.out 4))
  refine bodyPost_ret (results_cell_row rfl _ _ gb360001 56 #[.int .i64 0, .int .i64 t360002, .slice Ao4 t360003.length co4, .slice none 0 0, .slice none 0 0] (0, 0) _ rfl (by (with_reducible repeat (first | refine blk_drewN ?_ _ | refine blk_drew ?_ | refine blk_alloc ?_ _)); refine blk_put (cs := #[.int .i64 0, .int .i64 t360002, .slice Ao4 t360003.length co4, .slice none 0 0, .slice none 0 0]) ?_ 4 _ rfl; (with_reducible repeat (first | refine blk_drewN ?_ _ | refine blk_drew ?_ | refine blk_alloc ?_ _)); refine blk_put (cs := #[.int .i64 0, .int .i64 t360002, .slice Ao4 t360003.length co4, .slice none 0 0, .slice none 0 0]) ?_ 3 _ rfl; (with_reducible repeat (first | refine blk_drewN ?_ _ | refine blk_drew ?_ | refine blk_alloc ?_ _)); refine blk_put (cs := #[.int .i64 0, .int .i64 t360002, .slice none 0 0, .slice none 0 0, .slice none 0 0]) ?_ 2 _ rfl; (with_reducible repeat (first | refine blk_drewN ?_ _ | refine blk_drew ?_ | refine blk_alloc ?_ _)); refine blk_put (cs := #[.int .i64 0, .int .i64 0, .slice none 0 0, .slice none 0 0, .slice none 0 0]) ?_ 1 _ rfl; (with_reducible repeat (first | refine blk_drewN ?_ _ | refine blk_drew ?_ | refine blk_alloc ?_ _)); refine blk_put (cs := #[.int .i64 0, .int .i64 0, .slice none 0 0, .slice none 0 0, .slice none 0 0]) ?_ 0 _ rfl; (with_reducible repeat (first | refine blk_drewN ?_ _ | refine blk_drew ?_ | refine blk_alloc ?_ _)); exact BK360001.out) Try.underlying56 rfl (by kernel_rfl)) rfl ?_
  exact ⟨_, _, _, by first | rfl | (simp [errW_none, errW_some] <;> rfl) | (simp [*, errW_none, errW_some] <;> rfl), by (with_reducible repeat (first | apply Kd.R_alloc | apply Kd.R_drewN | apply Kd.R_drew)); exact Kd.R_mono (Kd.R_far (p := ⟨gb360001, 4, none⟩) (Kd.R_far (p := ⟨gb360001, 3, none⟩) (Kd.R_far (p := ⟨gb360001, 2, none⟩) (Kd.R_far (p := ⟨gb360001, 1, none⟩) (Kd.R_far (p := ⟨gb360001, 0, none⟩) (Kd.R_types HO360005.out BK360001.out (by decide)) (fun _ hk => hk.2) (.int .i64 0)) (fun _ hk => hk.2) (.int .i64 t360002)) (fun _ hk => hk.2) (.slice Ao4 t360003.length co4)) (fun _ hk => hk.2) (.slice none 0 0)) (fun _ hk => hk.2) (.slice none 0 0)) (fun _ hk => trivial), by first | exact Kd.R_nil _ _ _ _ _ | exact Kd.N_nil _ _ _ _ _ | exact Kd.V_nil _ _ _ _ _ | exact Kd.Q_nil _ _ _ _ _ | exact Kd.S_nil _ _ _ _ _, by first | exact Kd.S_nil _ _ _ _ _ | exact Kd.N_nil _ _ _ _ _ | exact Kd.V_nil _ _ _ _ _ | exact Kd.Q_nil _ _ _ _ _ | exact Kd.R_nil _ _ _ _ _, by repeat (first | (with_reducible first | exact HB.out | apply below_alloc | apply pw_below_drewN | apply below_drew1 | refine below_set ?_ GE360001.out) | exact HB.out)⟩

end Go.Proofs.Ytdjiclhjficgfaa.PX
