import Derived.Test.YtdjiclhjficgfaaPBx0
import Derived.Test.YtdjiclhjficgfaaPBx8
import Derived.Test.YtdjiclhjficgfaaPBx10
namespace Go.Proofs.Ytdjiclhjficgfaa.PB
open Go.RowKit Go.Proofs.YtdjiclhjficgfaaW.PrintWords Go.Proofs.YtdjiclhjficgfaaW.PrintLast Go.Proofs.YtdjiclhjficgfaaW.PrintMore
attribute [local go_sem] max2_int min2_int max_two min_two max_three min_three max_four min_four
set_option linter.unusedVariables false
set_option linter.unusedSimpArgs false

def spec_l3SaidOk.l0 : Nat → List (S108) → Int → Option (Bool)
 | 0, _, _ => none
 | k + 1, x0, x3 => if x3 < (x0.length : Int) then (if 0 ≤ x3 then ((spec_l6In.f ((rd_T108 x0 x3).f0) 0 2).bind fun t730003 => (if t730003 = true then ((spec_l6In.f ((rd_T108 x0 x3).f1) 1 99).bind fun t730004 => (if t730004 = true then ((spec_l6In.f ((rd_T108 x0 x3).f2) 0 9).bind fun t730005 => (if t730005 = true then ((spec_l3Vals.f k ((rd_T108 x0 x3).f3)).bind fun t730006 => (if t730006 = true then (if x3 > 0 then (if 0 ≤ (wrap64 (x3 - 1)) then (if (wrap64 (x3 - 1)) < (x0.length : Int) then (if ((rd_T108 x0 (wrap64 (x3 - 1))).f0) ≥ ((rd_T108 x0 x3).f0) then (some false) else (spec_l3SaidOk.l0 k x0 (wrap64 (x3 + 1)))) else (none)) else (none)) else (spec_l3SaidOk.l0 k x0 (wrap64 (x3 + 1)))) else (some false))) else (some false))) else (some false))) else (some false))) else (none)) else (some true)
def spec_l3SaidOk.f (k : Nat) (l0 : List (S108)) : Option (Bool) := spec_l3SaidOk.l0 k l0 0
theorem spec_l3SaidOk.mono_l : ∀ k, (∀ y0 y1, LeO (spec_l3SaidOk.l0 k y0 y1) (spec_l3SaidOk.l0 (k + 1) y0 y1))
 | 0 => fun _ _ r h => by simp [spec_l3SaidOk.l0] at h
 | k + 1 => by
  have ih0 := spec_l3SaidOk.mono_l k
  ·intro y0 y1
   unfold spec_l3SaidOk.l0
   repeat' first
   | (with_reducible exact ih0 _ _)
   | (with_reducible exact spec_l3Vals.mono _ _)
   | (with_reducible exact LeO.refl _)
   | (with_reducible exact LeO.none _)
   | (with_reducible refine LeO.ite ?_ ?_)
   | (with_reducible refine LeO.bind ?_ (fun _ => ?_))
   | exact ih0 _ _
   | exact spec_l3Vals.mono _ _
   | exact LeO.none _
   | refine LeO.ite ?_ ?_
   | refine LeO.bind ?_ (fun _ => ?_)
theorem spec_l3SaidOk.mono : ∀ a0 k, LeO (spec_l3SaidOk.f k a0) (spec_l3SaidOk.f (k + 1) a0) := by
 intro a0 k
 have ih0 := spec_l3SaidOk.mono_l k
 unfold spec_l3SaidOk.f
 repeat' first
  | (with_reducible exact ih0 _ _)
  | (with_reducible exact spec_l3Vals.mono _ _)
  | (with_reducible exact LeO.refl _)
  | (with_reducible exact LeO.none _)
  | (with_reducible refine LeO.ite ?_ ?_)
  | (with_reducible refine LeO.bind ?_ (fun _ => ?_))
  | exact ih0 _ _
  | exact spec_l3Vals.mono _ _
  | exact LeO.none _
  | refine LeO.ite ?_ ?_
  | refine LeO.bind ?_ (fun _ => ?_)
def spec_l3SaidOk.T5 : Bool × List (List Nat × List Nat) := (true, [([], []), ([0], [0]), ([1], [1]), ([2], [2]), ([3, 2], [3]), ([4], [4]), ([5, 4], [4, 5]), ([6, 4, 4], [4, 6]), ([7, 4], [4, 7]), ([4, 8], [4, 8]), ([9, 7], [9]), ([10], [10]), ([11, 10], [10, 11]), ([12, 10, 10], [10, 12]), ([13, 10], [10, 13]), ([10, 14], [10, 14]), ([15, 13], [15]), ([16], [16]), ([17, 16], [16, 17]), ([18, 16, 16], [16, 18]), ([19, 16], [16, 19]), ([16, 20], [16, 20]), ([21, 19], [21]), ([22], [22]), ([23, 22], [22, 23]), ([24, 22, 22], [22, 24]), ([25], [25]), ([25], [25]), ([27, 25], [25, 27]), ([26, 28, 25], [25, 26, 28]), ([29, 25], [25, 29]), ([30, 25], [25, 30]), ([25], [25]), ([32, 25], [25, 32]), ([31, 33, 25], [25, 31, 33]), ([25, 34, 22], [22, 25, 34]), ([22, 35], [22, 35])])
def spec_l3SaidOk.B5 : List Nat := [0, 1, 3, 7, 15, 31, 63, 127, 255, 511, 1023, 2047, 4095, 8191, 16383, 32767, 65535, 131071, 262143, 524287, 1048575, 2097151, 4194303, 8388607, 16777215, 33554431, 67108863, 67108863, 201326591, 536870911, 1073741823, 2147483647, 67108863, 4362076159, 17179869183, 34359738367, 68719476735]
theorem spec_l3SaidOk.tab5 : rtab .any (opsOf Try.f72 5) = spec_l3SaidOk.T5 := by kernel_rfl
theorem spec_l3SaidOk.bits5 : waitsOk spec_l3SaidOk.T5.2 spec_l3SaidOk.B5 = true := by kernel_rfl
set_option maxHeartbeats 8000000 in
set_option maxRecDepth 100000 in
theorem spec_l3SaidOk.calls (k : Nat) (A0 : Option Addr) (c0 : Nat) (l0 : List (S108)) (r : Bool) (w : World) (hr0 : Kd.C k108 w A0 l0.length l0) (hc0 : l0.length ≤ c0) (h : spec_l3SaidOk.f k l0 = some r) :
 Calls Try.prog 72 #[.slice A0 l0.length c0] w fun e w' => e = .returned (.bool r) ∧ Below w.heap.size w w' := by
 have hu108 := Try.underlying108
 have HR0 := Aside0.mk hr0
 have HC0 := Aside0.mk hc0
 clear hr0 hc0
 have HB := Aside0.mk (Below.refl w.heap.size w)
 have H : (spec_l3SaidOk.l0 k l0 0) = some r := h
 clear h
 have H' := Aside0.mk H
 clear H
 go_enter Try.func72, Try.ntmps72
 go_wp2
 go_loopg [3] k (fun kq v3 w' => ∃ (x3_1 : Int), v3 = .int .i64 x3_1 ∧ Aside0 (spec_l3SaidOk.l0 kq l0 x3_1 = some r) ∧ Aside0 (kq ≤ k) ∧ Aside0 (Below w.heap.size w w'))
 case atStart => exact ⟨(0), (by first | rfl | (simp; done) | (simp [*]; done)), H', ⟨Nat.le_refl _⟩, ⟨by repeat (first | (with_reducible first | exact HB.out | apply below_alloc | apply pw_below_drewN | apply below_drew1) | exact HB.out)⟩⟩
 case round =>
  clear H'
  obtain ⟨x3_1, rfl, HA, HK1, HB⟩ := hrel
  cases gk with
  | zero => exact absurd HA.out (by simp [spec_l3SaidOk.l0])
  | succ k1 =>
   have H := HA.out
   clear HA
   simp only [spec_l3SaidOk.l0] at H
   by_cases c2 : x3_1 < (l0.length : Int)
   ·rw [if_pos c2] at H
    have c2b0 : decide (x3_1 < (l0.length : Int)) = true := decide_eq_true c2
    clear c2
    by_cases c3 : 0 ≤ x3_1
    ·rw [if_pos c3] at H
     have c3b0 : decide (0 ≤ x3_1) = true := decide_eq_true c3
     clear c3
     replace H := Option.bind_eq_some_iff.mp H
     obtain ⟨t730003, A40, H⟩ := H
     replace H : (if t730003 = true then ((spec_l6In.f ((rd_T108 l0 x3_1).f1) 1 99).bind fun t730004 => (if t730004 = true then ((spec_l6In.f ((rd_T108 l0 x3_1).f2) 0 9).bind fun t730005 => (if t730005 = true then ((spec_l3Vals.f k1 ((rd_T108 l0 x3_1).f3)).bind fun t730006 => (if t730006 = true then (if x3_1 > 0 then (if 0 ≤ (wrap64 (x3_1 - 1)) then (if (wrap64 (x3_1 - 1)) < (l0.length : Int) then (if ((rd_T108 l0 (wrap64 (x3_1 - 1))).f0) ≥ ((rd_T108 l0 x3_1).f0) then (some false) else (spec_l3SaidOk.l0 k1 l0 (wrap64 (x3_1 + 1)))) else (none)) else (none)) else (spec_l3SaidOk.l0 k1 l0 (wrap64 (x3_1 + 1)))) else (some false))) else (some false))) else (some false))) else (some false)) = some r := H
     have A4 := Aside0.mk A40
     clear A40
     by_cases c5 : t730003 = true
     ·subst c5
      have H1 : ((spec_l6In.f ((rd_T108 l0 x3_1).f1) 1 99).bind fun t730004 => (if t730004 = true then ((spec_l6In.f ((rd_T108 l0 x3_1).f2) 0 9).bind fun t730005 => (if t730005 = true then ((spec_l3Vals.f k1 ((rd_T108 l0 x3_1).f3)).bind fun t730006 => (if t730006 = true then (if x3_1 > 0 then (if 0 ≤ (wrap64 (x3_1 - 1)) then (if (wrap64 (x3_1 - 1)) < (l0.length : Int) then (if ((rd_T108 l0 (wrap64 (x3_1 - 1))).f0) ≥ ((rd_T108 l0 x3_1).f0) then (some false) else (spec_l3SaidOk.l0 k1 l0 (wrap64 (x3_1 + 1)))) else (none)) else (none)) else (spec_l3SaidOk.l0 k1 l0 (wrap64 (x3_1 + 1)))) else (some false))) else (some false))) else (some false))) = some r := by rw [if_pos rfl] at H; exact H
      clear H
      have H := H1
      clear H1
      replace H := Option.bind_eq_some_iff.mp H
      obtain ⟨t730004, A60, H⟩ := H
      replace H : (if t730004 = true then ((spec_l6In.f ((rd_T108 l0 x3_1).f2) 0 9).bind fun t730005 => (if t730005 = true then ((spec_l3Vals.f k1 ((rd_T108 l0 x3_1).f3)).bind fun t730006 => (if t730006 = true then (if x3_1 > 0 then (if 0 ≤ (wrap64 (x3_1 - 1)) then (if (wrap64 (x3_1 - 1)) < (l0.length : Int) then (if ((rd_T108 l0 (wrap64 (x3_1 - 1))).f0) ≥ ((rd_T108 l0 x3_1).f0) then (some false) else (spec_l3SaidOk.l0 k1 l0 (wrap64 (x3_1 + 1)))) else (none)) else (none)) else (spec_l3SaidOk.l0 k1 l0 (wrap64 (x3_1 + 1)))) else (some false))) else (some false))) else (some false)) = some r := H
      have A6 := Aside0.mk A60
      clear A60
      by_cases c7 : t730004 = true
      ·subst c7
       have H1 : ((spec_l6In.f ((rd_T108 l0 x3_1).f2) 0 9).bind fun t730005 => (if t730005 = true then ((spec_l3Vals.f k1 ((rd_T108 l0 x3_1).f3)).bind fun t730006 => (if t730006 = true then (if x3_1 > 0 then (if 0 ≤ (wrap64 (x3_1 - 1)) then (if (wrap64 (x3_1 - 1)) < (l0.length : Int) then (if ((rd_T108 l0 (wrap64 (x3_1 - 1))).f0) ≥ ((rd_T108 l0 x3_1).f0) then (some false) else (spec_l3SaidOk.l0 k1 l0 (wrap64 (x3_1 + 1)))) else (none)) else (none)) else (spec_l3SaidOk.l0 k1 l0 (wrap64 (x3_1 + 1)))) else (some false))) else (some false))) = some r := by rw [if_pos rfl] at H; exact H
       clear H
       have H := H1
       clear H1
       replace H := Option.bind_eq_some_iff.mp H
       obtain ⟨t730005, A80, H⟩ := H
       replace H : (if t730005 = true then ((spec_l3Vals.f k1 ((rd_T108 l0 x3_1).f3)).bind fun t730006 => (if t730006 = true then (if x3_1 > 0 then (if 0 ≤ (wrap64 (x3_1 - 1)) then (if (wrap64 (x3_1 - 1)) < (l0.length : Int) then (if ((rd_T108 l0 (wrap64 (x3_1 - 1))).f0) ≥ ((rd_T108 l0 x3_1).f0) then (some false) else (spec_l3SaidOk.l0 k1 l0 (wrap64 (x3_1 + 1)))) else (none)) else (none)) else (spec_l3SaidOk.l0 k1 l0 (wrap64 (x3_1 + 1)))) else (some false))) else (some false)) = some r := H
       have A8 := Aside0.mk A80
       clear A80
       by_cases c9 : t730005 = true
       ·subst c9
        have H1 : ((spec_l3Vals.f k1 ((rd_T108 l0 x3_1).f3)).bind fun t730006 => (if t730006 = true then (if x3_1 > 0 then (if 0 ≤ (wrap64 (x3_1 - 1)) then (if (wrap64 (x3_1 - 1)) < (l0.length : Int) then (if ((rd_T108 l0 (wrap64 (x3_1 - 1))).f0) ≥ ((rd_T108 l0 x3_1).f0) then (some false) else (spec_l3SaidOk.l0 k1 l0 (wrap64 (x3_1 + 1)))) else (none)) else (none)) else (spec_l3SaidOk.l0 k1 l0 (wrap64 (x3_1 + 1)))) else (some false))) = some r := by rw [if_pos rfl] at H; exact H
        clear H
        have H := H1
        clear H1
        replace H := Option.bind_eq_some_iff.mp H
        obtain ⟨t730006, A100, H⟩ := H
        replace H : (if t730006 = true then (if x3_1 > 0 then (if 0 ≤ (wrap64 (x3_1 - 1)) then (if (wrap64 (x3_1 - 1)) < (l0.length : Int) then (if ((rd_T108 l0 (wrap64 (x3_1 - 1))).f0) ≥ ((rd_T108 l0 x3_1).f0) then (some false) else (spec_l3SaidOk.l0 k1 l0 (wrap64 (x3_1 + 1)))) else (none)) else (none)) else (spec_l3SaidOk.l0 k1 l0 (wrap64 (x3_1 + 1)))) else (some false)) = some r := H
        have A10 := Aside0.mk A100
        clear A100
        by_cases c11 : t730006 = true
        ·subst c11
         have H1 : (if x3_1 > 0 then (if 0 ≤ (wrap64 (x3_1 - 1)) then (if (wrap64 (x3_1 - 1)) < (l0.length : Int) then (if ((rd_T108 l0 (wrap64 (x3_1 - 1))).f0) ≥ ((rd_T108 l0 x3_1).f0) then (some false) else (spec_l3SaidOk.l0 k1 l0 (wrap64 (x3_1 + 1)))) else (none)) else (none)) else (spec_l3SaidOk.l0 k1 l0 (wrap64 (x3_1 + 1)))) = some r := by rw [if_pos rfl] at H; exact H
         clear H
         have H := H1
         clear H1
         by_cases c12 : x3_1 > 0
         ·rw [if_pos c12] at H
          have c12b0 : decide (0 < x3_1) = true := decide_eq_true c12
          clear c12
          obtain ⟨ji13, hji13⟩ : ∃ j_ : Int, (wrap64 (x3_1 - 1)) = j_ := ⟨_, rfl⟩
          replace H : (if 0 ≤ (ji13) then (if (ji13) < (l0.length : Int) then (if ((rd_T108 l0 (ji13)).f0) ≥ ((rd_T108 l0 x3_1).f0) then (some false) else (spec_l3SaidOk.l0 k1 l0 (wrap64 (x3_1 + 1)))) else (none)) else (none)) = some r := by first | (rw [hji13] at H; exact H) | (simp only [hji13] at H ⊢; exact H)
          (try rw [hji13] at A4)
          (try rw [hji13] at A6)
          (try rw [hji13] at A8)
          (try rw [hji13] at A10)
          have hji13w : (IntKind.i64.wrap (x3_1 - 1)) = ji13 := (i64_w _).trans hji13
          by_cases c14 : 0 ≤ (ji13)
          ·rw [if_pos c14] at H
           have c14b0 : decide (0 ≤ (ji13)) = true := decide_eq_true c14
           clear c14
           by_cases c15 : (ji13) < (l0.length : Int)
           ·rw [if_pos c15] at H
            have c15b0 : decide ((ji13) < (l0.length : Int)) = true := decide_eq_true c15
            clear c15
            by_cases c16 : ((rd_T108 l0 (ji13)).f0) ≥ ((rd_T108 l0 x3_1).f0)
            ·rw [if_pos c16] at H
             have c16b0 : decide (((rd_T108 l0 x3_1).f0) ≤ ((rd_T108 l0 (ji13)).f0)) = true := decide_eq_true c16
             clear c16
             obtain rfl := Option.some.inj H
             have p730001 : 0 ≤ (x3_1 : Int) := of_decide_eq_true (by first | (with_reducible assumption) | assumption)
             have q730001 : x3_1 < (l0.length : Int) := of_decide_eq_true (by first | (with_reducible assumption) | assumption)
             obtain ⟨ad730001, A730001_3, c730001_3, e730001, hx730001_0, hx730001_1, hx730001_2, hx730001_3, hl730001_3, hi730001_3⟩ := at_T108 HR0.out x3_1 p730001 q730001
             cases e730001
             replace hx730001_0 := (HB.out.cell (World.block_lt_of_cell? w _ hx730001_0)).trans hx730001_0
             replace hx730001_1 := (HB.out.cell (World.block_lt_of_cell? w _ hx730001_1)).trans hx730001_1
             replace hx730001_2 := (HB.out.cell (World.block_lt_of_cell? w _ hx730001_2)).trans hx730001_2
             replace hx730001_3 := (HB.out.cell (World.block_lt_of_cell? w _ hx730001_3)).trans hx730001_3
             have HR730001_3 := Aside0.mk hi730001_3
             have HC730001_3 := Aside0.mk hl730001_3
             clear hi730001_3 hl730001_3
             replace p730001 := eq_true p730001
             replace q730001 := eq_true q730001
             try go_wp2_with (first | ((with_reducible refine gate_dst (N := 4) rfl ?_); refine box_event ?hg (N := 4) ?hd (cs := #[.int .i64 0, .int .i64 0, .int .i64 0, .slice none 0 0]) (t := 108) ?hr ?_; (case hd => rfl); (case hg => rfl); (case hr => first | (go_simp; done) | (go_simp; rfl)); intro gb730002 hg w17 hbox hb; have n0_ := Aside0.mk (below_step (by repeat (first | (with_reducible first | exact HB.out | apply below_alloc | apply pw_below_drewN | apply below_drew1) | exact HB.out)) hb); have n1_ := Aside0.mk (hbox); have n2_ := Aside0.mk ((by rw [hg]; exact (below_size (by repeat (first | (with_reducible first | exact HB.out | apply below_alloc | apply pw_below_drewN | apply below_drew1) | exact HB.out))) : w.heap.size ≤ gb730002)); have n3_ := Aside0.mk ((by rw [hg]; exact (below_size (by repeat (first | (with_reducible first | exact HB.out | apply below_alloc | apply pw_below_drewN | apply below_drew1) | exact HB.out))) : w.heap.size ≤ gb730002)); clear HB; have HB := n0_; have BK730002 := n1_; have GW730002 := n2_; have GE730002 := n3_; clear n0_ n1_ n2_ n3_; clear hb hbox hg; have hcz18_0 : w17.cell? ⟨gb730002, 0, none⟩ = some (.int .i64 0) := (blk_cell BK730002.out 0).trans rfl; have hcz18_1 : w17.cell? ⟨gb730002, 1, none⟩ = some (.int .i64 0) := (blk_cell BK730002.out 1).trans rfl; have hcz18_2 : w17.cell? ⟨gb730002, 2, none⟩ = some (.int .i64 0) := (blk_cell BK730002.out 2).trans rfl; have hcz18_3 : w17.cell? ⟨gb730002, 3, none⟩ = some (.slice none 0 0) := (blk_cell BK730002.out 3).trans rfl; have hfz18_0 := blk_frozen BK730002.out 0; have hfz18_1 := blk_frozen BK730002.out 1; have hfz18_2 := blk_frozen BK730002.out 2; have hfz18_3 := blk_frozen BK730002.out 3))
             have n0_ : Aside0 (((((w17.setCell ⟨gb730002, 0, none⟩ (.int .i64 ((rd_T108 l0 x3_1).f0))).setCell ⟨gb730002, 1, none⟩ (.int .i64 ((rd_T108 l0 x3_1).f1))).setCell ⟨gb730002, 2, none⟩ (.int .i64 ((rd_T108 l0 x3_1).f2))).setCell ⟨gb730002, 3, none⟩ (.slice A730001_3 ((rd_T108 l0 x3_1).f3).length c730001_3)).heap[gb730002]? = some (.cells #[.int .i64 ((rd_T108 l0 x3_1).f0), .int .i64 ((rd_T108 l0 x3_1).f1), .int .i64 ((rd_T108 l0 x3_1).f2), .slice A730001_3 ((rd_T108 l0 x3_1).f3).length c730001_3] 108 (0, 0))) := ⟨by (with_reducible repeat (first | refine blk_drewN ?_ _ | refine blk_drew ?_ | refine blk_alloc ?_ _)); refine blk_put (cs := #[.int .i64 ((rd_T108 l0 x3_1).f0), .int .i64 ((rd_T108 l0 x3_1).f1), .int .i64 ((rd_T108 l0 x3_1).f2), .slice none 0 0]) ?_ 3 _ rfl; (with_reducible repeat (first | refine blk_drewN ?_ _ | refine blk_drew ?_ | refine blk_alloc ?_ _)); refine blk_put (cs := #[.int .i64 ((rd_T108 l0 x3_1).f0), .int .i64 ((rd_T108 l0 x3_1).f1), .int .i64 0, .slice none 0 0]) ?_ 2 _ rfl; (with_reducible repeat (first | refine blk_drewN ?_ _ | refine blk_drew ?_ | refine blk_alloc ?_ _)); refine blk_put (cs := #[.int .i64 ((rd_T108 l0 x3_1).f0), .int .i64 0, .int .i64 0, .slice none 0 0]) ?_ 1 _ rfl; (with_reducible repeat (first | refine blk_drewN ?_ _ | refine blk_drew ?_ | refine blk_alloc ?_ _)); refine blk_put (cs := #[.int .i64 0, .int .i64 0, .int .i64 0, .slice none 0 0]) ?_ 0 _ rfl; (with_reducible repeat (first | refine blk_drewN ?_ _ | refine blk_drew ?_ | refine blk_alloc ?_ _)); exact BK730002.out⟩
             have n1_ : Aside0 (Below w.heap.size w ((((w17.setCell ⟨gb730002, 0, none⟩ (.int .i64 ((rd_T108 l0 x3_1).f0))).setCell ⟨gb730002, 1, none⟩ (.int .i64 ((rd_T108 l0 x3_1).f1))).setCell ⟨gb730002, 2, none⟩ (.int .i64 ((rd_T108 l0 x3_1).f2))).setCell ⟨gb730002, 3, none⟩ (.slice A730001_3 ((rd_T108 l0 x3_1).f3).length c730001_3))) := ⟨by repeat (first | (with_reducible first | exact HB.out | apply below_alloc | apply pw_below_drewN | apply below_drew1 | refine below_set ?_ GE730002.out) | exact HB.out)⟩
             (try clear BK730002)
             (try clear HB)
             generalize ((((w17.setCell ⟨gb730002, 0, none⟩ (.int .i64 ((rd_T108 l0 x3_1).f0))).setCell ⟨gb730002, 1, none⟩ (.int .i64 ((rd_T108 l0 x3_1).f1))).setCell ⟨gb730002, 2, none⟩ (.int .i64 ((rd_T108 l0 x3_1).f2))).setCell ⟨gb730002, 3, none⟩ (.slice A730001_3 ((rd_T108 l0 x3_1).f3).length c730001_3)) = w19 at n0_ n1_ ⊢
             have BK730002 := n0_
             have HB := n1_
             clear n0_ n1_
             have n0_ := Aside0.mk (blk_drew BK730002.out)
             have n1_ := Aside0.mk (below_drew1 HB.out)
             clear BK730002
             clear HB
             have BK730002 := n0_
             have HB := n1_
             clear n0_ n1_
             have p730007 : 0 ≤ ((ji13) : Int) := of_decide_eq_true (by first | (with_reducible assumption) | assumption)
             have q730007 : (ji13) < (l0.length : Int) := of_decide_eq_true (by first | (with_reducible assumption) | assumption)
             obtain ⟨ad730007, A730007_3, c730007_3, e730007, hx730007_0, hx730007_1, hx730007_2, hx730007_3, hl730007_3, hi730007_3⟩ := at_T108 HR0.out (ji13) p730007 q730007
             have hw730007_3 := hx730007_3
             have hw730007_2 := hx730007_2
             have hw730007_1 := hx730007_1
             have hw730007_0 := hx730007_0
             obtain rfl : ad730001 = ad730007 := (by injection e730007)
             replace hx730007_0 := (HB.out.cell (World.block_lt_of_cell? w _ hx730007_0)).trans hx730007_0
             replace hx730007_1 := (HB.out.cell (World.block_lt_of_cell? w _ hx730007_1)).trans hx730007_1
             replace hx730007_2 := (HB.out.cell (World.block_lt_of_cell? w _ hx730007_2)).trans hx730007_2
             replace hx730007_3 := (HB.out.cell (World.block_lt_of_cell? w _ hx730007_3)).trans hx730007_3
             have HR730007_3 := Aside0.mk hi730007_3
             have HC730007_3 := Aside0.mk hl730007_3
             clear hi730007_3 hl730007_3
             replace p730007 := eq_true p730007
             replace q730007 := eq_true q730007
             refine start_ (n := 37) (S := fun w' => w'.cell? ⟨gb730002, 0, none⟩ = some (.int .i64 ((rd_T108 l0 x3_1).f0)) ∧ w'.cell? ⟨gb730002, 1, none⟩ = some (.int .i64 ((rd_T108 l0 x3_1).f1)) ∧ w'.cell? ⟨gb730002, 2, none⟩ = some (.int .i64 ((rd_T108 l0 x3_1).f2)) ∧ w'.cell? ⟨gb730002, 3, none⟩ = some (.slice A730001_3 ((rd_T108 l0 x3_1).f3).length c730001_3) ∧ w'.cell? (ad730001.add (((ji13)).toNat * 4)) = some (.int .i64 ((rd_T108 l0 (ji13)).f0)) ∧ w'.cell? ⟨(ad730001.add (((ji13)).toNat * 4)).block, (ad730001.add (((ji13)).toNat * 4)).off + 1, none⟩ = some (.int .i64 ((rd_T108 l0 (ji13)).f1)) ∧ w'.cell? ⟨(ad730001.add (((ji13)).toNat * 4)).block, (ad730001.add (((ji13)).toNat * 4)).off + 2, none⟩ = some (.int .i64 ((rd_T108 l0 (ji13)).f2)) ∧ w'.cell? ⟨(ad730001.add (((ji13)).toNat * 4)).block, (ad730001.add (((ji13)).toNat * 4)).off + 3, none⟩ = some (.slice A730007_3 ((rd_T108 l0 (ji13)).f3).length c730007_3)) (ds := []) (bt_ 37 0) (by kernel_rfl) rfl rfl ⟨(blk_cell BK730002.out 0).trans rfl, (blk_cell BK730002.out 1).trans rfl, (blk_cell BK730002.out 2).trans rfl, (blk_cell BK730002.out 3).trans rfl, ((HB.out.cell (World.block_lt_of_cell? w _ hw730007_0)).trans hw730007_0), ((HB.out.cell (World.block_lt_of_cell? w _ hw730007_1)).trans hw730007_1), ((HB.out.cell (World.block_lt_of_cell? w _ hw730007_2)).trans hw730007_2), ((HB.out.cell (World.block_lt_of_cell? w _ hw730007_3)).trans hw730007_3)⟩ (fun hHeld => ?_); refine with_tabW spec_l3SaidOk.tab5 spec_l3SaidOk.bits5 (fun HT_ HW_ => ?_)
             generalize w19.drew = w20 at BK730002 HB HR730007_3 hx730007_0 hx730007_1 hx730007_2 hx730007_3 hHeld ⊢
             refine pu_ 0 (some 15) (bt_ 37 1) (any_of HT_.out (by kernel_rfl)) ?_
             refine take_ (i := 1) (N := some 16) (v := ?_) (a' := ?_) (bt_ 37 3) rfl rfl (take_ofW HT_.out HW_.out (by kernel_rfl)) (fun _ _ _ h => h) (Or.inl ⟨by rfl, ?_⟩) hHeld ?_ ?_
             rotate_left
             ·rintro w' ⟨s0, s1, s2, s3, s4, s5, s6, s7⟩
              go_simp
              with_reducible rfl
             rotate_left
             ·simp only [Act.put, List.setIfInBounds_toArray, List.set_cons_zero, List.set_cons_succ, i64_w, i32_w]
              rfl
             refine one_ (i := 2) (N := some 17) (bt_ 37 7) rfl rfl (one_of HT_.out (by kernel_rfl)) (by decide) (fun K hK => ?_)
             refine goes_ Try.func44 (by kernel_rfl) rfl #[.int .i64 ((rd_T108 l0 x3_1).f0), .int .i64 0, .int .i64 2] (by rfl) rfl rfl (by (try simp only [List.map_toArray, List.map_cons, List.map_nil]); first | done | rfl | (simp only [List.length_drop, List.length_take]; rfl)) ?_
             with_reducible refine (spec_l6In.calls ((rd_T108 l0 x3_1).f0) 0 2 true _ A4.out).mono ?_
             rintro e w' ⟨rfl, ⟨nd, rfl⟩⟩
             refine ⟨_, rfl, ?_⟩
             refine hK.out _ _ ⟨(blk_cell BK730002.out 0).trans rfl, (blk_cell BK730002.out 1).trans rfl, (blk_cell BK730002.out 2).trans rfl, (blk_cell BK730002.out 3).trans rfl, ((HB.out.cell (World.block_lt_of_cell? w _ hw730007_0)).trans hw730007_0), ((HB.out.cell (World.block_lt_of_cell? w _ hw730007_1)).trans hw730007_1), ((HB.out.cell (World.block_lt_of_cell? w _ hw730007_2)).trans hw730007_2), ((HB.out.cell (World.block_lt_of_cell? w _ hw730007_3)).trans hw730007_3)⟩ (fun hHeld => ?_)
             clear hK K
             refine norm_ (a' := ?_) ?_ ?_
             rotate_left
             ·show Act.put _ (some 17) _ = _
              simp only [Act.put, List.setIfInBounds_toArray, List.set_cons_zero, List.set_cons_succ, i64_w, i32_w]
              rfl
             refine pu_ 3 (some 18) (bt_ 37 15) (any_of HT_.out (by kernel_rfl)) ?_
             refine pu_ 4 (some 19) (bt_ 37 31) (any_of HT_.out (by kernel_rfl)) ?_
             refine pu_ 5 (some 20) (bt_ 37 63) (any_of HT_.out (by kernel_rfl)) ?_
             refine take_ (i := 6) (N := some 21) (v := ?_) (a' := ?_) (bt_ 37 127) rfl rfl (take_ofW HT_.out HW_.out (by kernel_rfl)) (fun _ _ _ h => h) (Or.inl ⟨by rfl, ?_⟩) hHeld ?_ ?_
             rotate_left
             ·rintro w' ⟨s0, s1, s2, s3, s4, s5, s6, s7⟩
              go_simp
              with_reducible rfl
             rotate_left
             ·simp only [Act.put, List.setIfInBounds_toArray, List.set_cons_zero, List.set_cons_succ, i64_w, i32_w]
              rfl
             refine one_ (i := 7) (N := some 22) (bt_ 37 255) rfl rfl (one_of HT_.out (by kernel_rfl)) (by decide) (fun K hK => ?_)
             refine goes_ Try.func44 (by kernel_rfl) rfl #[.int .i64 ((rd_T108 l0 x3_1).f1), .int .i64 1, .int .i64 99] (by rfl) rfl rfl (by (try simp only [List.map_toArray, List.map_cons, List.map_nil]); first | done | rfl | (simp only [List.length_drop, List.length_take]; rfl)) ?_
             with_reducible refine (spec_l6In.calls ((rd_T108 l0 x3_1).f1) 1 99 true _ A6.out).mono ?_
             rintro e w' ⟨rfl, ⟨nd, rfl⟩⟩
             refine ⟨_, rfl, ?_⟩
             refine hK.out _ _ ⟨(blk_cell BK730002.out 0).trans rfl, (blk_cell BK730002.out 1).trans rfl, (blk_cell BK730002.out 2).trans rfl, (blk_cell BK730002.out 3).trans rfl, ((HB.out.cell (World.block_lt_of_cell? w _ hw730007_0)).trans hw730007_0), ((HB.out.cell (World.block_lt_of_cell? w _ hw730007_1)).trans hw730007_1), ((HB.out.cell (World.block_lt_of_cell? w _ hw730007_2)).trans hw730007_2), ((HB.out.cell (World.block_lt_of_cell? w _ hw730007_3)).trans hw730007_3)⟩ (fun hHeld => ?_)
             clear hK K
             refine norm_ (a' := ?_) ?_ ?_
             rotate_left
             ·show Act.put _ (some 22) _ = _
              simp only [Act.put, List.setIfInBounds_toArray, List.set_cons_zero, List.set_cons_succ, i64_w, i32_w]
              rfl
             refine pu_ 8 (some 23) (bt_ 37 511) (any_of HT_.out (by kernel_rfl)) ?_
             refine pu_ 9 (some 24) (bt_ 37 1023) (any_of HT_.out (by kernel_rfl)) ?_
             refine pu_ 10 (some 25) (bt_ 37 2047) (any_of HT_.out (by kernel_rfl)) ?_
             refine pu_ 11 (some 26) (bt_ 37 4095) (any_of HT_.out (by kernel_rfl)) ?_
             refine take_ (i := 12) (N := some 27) (v := ?_) (a' := ?_) (bt_ 37 8191) rfl rfl (take_ofW HT_.out HW_.out (by kernel_rfl)) (fun _ _ _ h => h) (Or.inl ⟨by rfl, ?_⟩) hHeld ?_ ?_
             rotate_left
             ·rintro w' ⟨s0, s1, s2, s3, s4, s5, s6, s7⟩
              go_simp
              with_reducible rfl
             rotate_left
             ·simp only [Act.put, List.setIfInBounds_toArray, List.set_cons_zero, List.set_cons_succ, i64_w, i32_w]
              rfl
             refine one_ (i := 13) (N := some 28) (bt_ 37 16383) rfl rfl (one_of HT_.out (by kernel_rfl)) (by decide) (fun K hK => ?_)
             refine goes_ Try.func44 (by kernel_rfl) rfl #[.int .i64 ((rd_T108 l0 x3_1).f2), .int .i64 0, .int .i64 9] (by rfl) rfl rfl (by (try simp only [List.map_toArray, List.map_cons, List.map_nil]); first | done | rfl | (simp only [List.length_drop, List.length_take]; rfl)) ?_
             with_reducible refine (spec_l6In.calls ((rd_T108 l0 x3_1).f2) 0 9 true _ A8.out).mono ?_
             rintro e w' ⟨rfl, ⟨nd, rfl⟩⟩
             refine ⟨_, rfl, ?_⟩
             refine hK.out _ _ ⟨(blk_cell BK730002.out 0).trans rfl, (blk_cell BK730002.out 1).trans rfl, (blk_cell BK730002.out 2).trans rfl, (blk_cell BK730002.out 3).trans rfl, ((HB.out.cell (World.block_lt_of_cell? w _ hw730007_0)).trans hw730007_0), ((HB.out.cell (World.block_lt_of_cell? w _ hw730007_1)).trans hw730007_1), ((HB.out.cell (World.block_lt_of_cell? w _ hw730007_2)).trans hw730007_2), ((HB.out.cell (World.block_lt_of_cell? w _ hw730007_3)).trans hw730007_3)⟩ (fun hHeld => ?_)
             clear hK K
             refine norm_ (a' := ?_) ?_ ?_
             rotate_left
             ·show Act.put _ (some 28) _ = _
              simp only [Act.put, List.setIfInBounds_toArray, List.set_cons_zero, List.set_cons_succ, i64_w, i32_w]
              rfl
             refine pu_ 14 (some 29) (bt_ 37 32767) (any_of HT_.out (by kernel_rfl)) ?_
             refine pu_ 15 (some 30) (bt_ 37 65535) (any_of HT_.out (by kernel_rfl)) ?_
             refine pu_ 16 (some 31) (bt_ 37 131071) (any_of HT_.out (by kernel_rfl)) ?_
             refine pu_ 17 (some 32) (bt_ 37 262143) (any_of HT_.out (by kernel_rfl)) ?_
             refine take_ (i := 18) (N := some 33) (v := ?_) (a' := ?_) (bt_ 37 524287) rfl rfl (take_ofW HT_.out HW_.out (by kernel_rfl)) (fun _ _ _ h => h) (Or.inl ⟨by rfl, ?_⟩) hHeld ?_ ?_
             rotate_left
             ·rintro w' ⟨s0, s1, s2, s3, s4, s5, s6, s7⟩
              go_simp
              with_reducible rfl
             rotate_left
             ·simp only [Act.put, List.setIfInBounds_toArray, List.set_cons_zero, List.set_cons_succ, i64_w, i32_w]
              rfl
             refine one_ (i := 19) (N := some 34) (bt_ 37 1048575) rfl rfl (one_of HT_.out (by kernel_rfl)) (by decide) (fun K hK => ?_)
             refine goes_ Try.func90 (by kernel_rfl) rfl #[.slice A730001_3 ((rd_T108 l0 x3_1).f3).length c730001_3] (by rfl) rfl rfl (by (try simp only [List.map_toArray, List.map_cons, List.map_nil]); first | done | rfl | (simp only [List.length_drop, List.length_take]; rfl)) ?_
             with_reducible refine (spec_l3Vals.calls k1 _ _ ((rd_T108 l0 x3_1).f3) true _ ?side1 ?side2 A10.out).mono ?_
             (case side1 => repeat (first | exact (Kd.C_below HR730001_3.out (by repeat (first | (with_reducible first | exact HB.out | apply below_alloc | apply pw_below_drewN | apply below_drew1 | refine below_set ?_ GE730002.out) | exact HB.out))) | (with_reducible refine Kd.C_alloc ?_ _) | (with_reducible refine Kd.C_drewN ?_ _) | (with_reducible refine Kd.C_drew ?_)))
             (case side2 => exact HC730001_3.out)
             rintro e w' ⟨rfl, ⟨nd, rfl⟩⟩
             refine ⟨_, rfl, ?_⟩
             refine hK.out _ _ ⟨(blk_cell BK730002.out 0).trans rfl, (blk_cell BK730002.out 1).trans rfl, (blk_cell BK730002.out 2).trans rfl, (blk_cell BK730002.out 3).trans rfl, ((HB.out.cell (World.block_lt_of_cell? w _ hw730007_0)).trans hw730007_0), ((HB.out.cell (World.block_lt_of_cell? w _ hw730007_1)).trans hw730007_1), ((HB.out.cell (World.block_lt_of_cell? w _ hw730007_2)).trans hw730007_2), ((HB.out.cell (World.block_lt_of_cell? w _ hw730007_3)).trans hw730007_3)⟩ (fun hHeld => ?_)
             clear hK K
             refine norm_ (a' := ?_) ?_ ?_
             rotate_left
             ·show Act.put _ (some 34) _ = _
              simp only [Act.put, List.setIfInBounds_toArray, List.set_cons_zero, List.set_cons_succ, i64_w, i32_w]
              rfl
             refine pu_ 20 (some 35) (bt_ 37 2097151) (any_of HT_.out (by kernel_rfl)) ?_
             refine pu_ 21 (some 36) (bt_ 37 4194303) (any_of HT_.out (by kernel_rfl)) ?_
             refine pu_ 22 (some 37) (bt_ 37 8388607) (any_of HT_.out (by kernel_rfl)) ?_
             refine pu_ 23 (some 38) (bt_ 37 16777215) (any_of HT_.out (by kernel_rfl)) ?_
             refine pu_ 24 (some 39) (bt_ 37 33554431) (any_of HT_.out (by kernel_rfl)) ?_
             refine pu_ 25 (some 40) (bt_ 37 67108863) (any_of HT_.out (by kernel_rfl)) ?_
             refine pu_ 26 (some 41) (bt_ 37 134217727) (any_of HT_.out (by kernel_rfl)) ?_
             refine pu_ 27 (some 42) (bt_ 37 268435455) (any_of HT_.out (by kernel_rfl)) ?_
             refine pu_ 28 (some 43) (bt_ 37 536870911) (any_of HT_.out (by kernel_rfl)) ?_
             refine pu_ 29 (some 44) (bt_ 37 1073741823) (any_of HT_.out (by kernel_rfl)) ?_
             refine pu_ 30 (some 45) (bt_ 37 2147483647) (any_of HT_.out (by kernel_rfl)) ?_
             refine pu_ 32 (some 47) (bt_ 37 6442450943) (any_of HT_.out (by kernel_rfl)) ?_
             refine take_ (i := 31) (N := some 46) (v := ?_) (a' := ?_) (bt_ 37 8589934591) rfl rfl (take_ofW HT_.out HW_.out (by kernel_rfl)) (fun _ _ _ h => h) (Or.inl ⟨by rfl, ?_⟩) hHeld ?_ ?_
             rotate_left
             ·rintro w' ⟨s0, s1, s2, s3, s4, s5, s6, s7⟩
              go_simp
              with_reducible rfl
             rotate_left
             ·simp only [Act.put, List.setIfInBounds_toArray, List.set_cons_zero, List.set_cons_succ, i64_w, i32_w]
              rfl
             refine take_ (i := 33) (N := some 48) (v := ?_) (a' := ?_) (bt_ 37 17179869183) rfl rfl (take_ofW HT_.out HW_.out (by kernel_rfl)) (fun _ _ _ h => h) (Or.inl ⟨by rfl, ?_⟩) hHeld ?_ ?_
             rotate_left
             ·rintro w' ⟨s0, s1, s2, s3, s4, s5, s6, s7⟩
              go_simp
              with_reducible rfl
             rotate_left
             ·simp only [Act.put, List.setIfInBounds_toArray, List.set_cons_zero, List.set_cons_succ, i64_w, i32_w]
              rfl
             refine pu_ 34 (some 49) (bt_ 37 34359738367) (any_of HT_.out (by kernel_rfl)) ?_
             refine pu_ 35 (some 50) (bt_ 37 68719476735) (any_of HT_.out (by kernel_rfl)) ?_
             refine pu_ 36 (some 51) (bt_ 37 137438953471) (any_of HT_.out (by kernel_rfl)) ?_
             refine done_ (done_of HT_.out (by kernel_rfl)) ?_
             try go_wp2
             go_ret
             exact ⟨by first | rfl | (simp [errW_none, errW_some] <;> rfl) | (simp only [← hji13]; first | rfl | (simp [errW_none, errW_some] <;> rfl)) | (simp [*, errW_none, errW_some] <;> rfl), by repeat (first | (with_reducible first | exact HB.out | apply below_alloc | apply pw_below_drewN | apply below_drew1 | refine below_set ?_ GE730002.out) | exact HB.out)⟩
            ·rw [if_neg c16] at H
             have c16b0 : decide (((rd_T108 l0 x3_1).f0) ≤ ((rd_T108 l0 (ji13)).f0)) = false := decide_eq_false c16
             clear c16
             have H' := Aside0.mk H
             clear H
             have p730001 : 0 ≤ (x3_1 : Int) := of_decide_eq_true (by first | (with_reducible assumption) | assumption)
             have q730001 : x3_1 < (l0.length : Int) := of_decide_eq_true (by first | (with_reducible assumption) | assumption)
             obtain ⟨ad730001, A730001_3, c730001_3, e730001, hx730001_0, hx730001_1, hx730001_2, hx730001_3, hl730001_3, hi730001_3⟩ := at_T108 HR0.out x3_1 p730001 q730001
             cases e730001
             replace hx730001_0 := (HB.out.cell (World.block_lt_of_cell? w _ hx730001_0)).trans hx730001_0
             replace hx730001_1 := (HB.out.cell (World.block_lt_of_cell? w _ hx730001_1)).trans hx730001_1
             replace hx730001_2 := (HB.out.cell (World.block_lt_of_cell? w _ hx730001_2)).trans hx730001_2
             replace hx730001_3 := (HB.out.cell (World.block_lt_of_cell? w _ hx730001_3)).trans hx730001_3
             have HR730001_3 := Aside0.mk hi730001_3
             have HC730001_3 := Aside0.mk hl730001_3
             clear hi730001_3 hl730001_3
             replace p730001 := eq_true p730001
             replace q730001 := eq_true q730001
             try go_wp2_with (first | ((with_reducible refine gate_dst (N := 4) rfl ?_); refine box_event ?hg (N := 4) ?hd (cs := #[.int .i64 0, .int .i64 0, .int .i64 0, .slice none 0 0]) (t := 108) ?hr ?_; (case hd => rfl); (case hg => rfl); (case hr => first | (go_simp; done) | (go_simp; rfl)); intro gb730002 hg w21 hbox hb; have n0_ := Aside0.mk (below_step (by repeat (first | (with_reducible first | exact HB.out | apply below_alloc | apply pw_below_drewN | apply below_drew1) | exact HB.out)) hb); have n1_ := Aside0.mk (hbox); have n2_ := Aside0.mk ((by rw [hg]; exact (below_size (by repeat (first | (with_reducible first | exact HB.out | apply below_alloc | apply pw_below_drewN | apply below_drew1) | exact HB.out))) : w.heap.size ≤ gb730002)); have n3_ := Aside0.mk ((by rw [hg]; exact (below_size (by repeat (first | (with_reducible first | exact HB.out | apply below_alloc | apply pw_below_drewN | apply below_drew1) | exact HB.out))) : w.heap.size ≤ gb730002)); clear HB; have HB := n0_; have BK730002 := n1_; have GW730002 := n2_; have GE730002 := n3_; clear n0_ n1_ n2_ n3_; clear hb hbox hg; have hcz22_0 : w21.cell? ⟨gb730002, 0, none⟩ = some (.int .i64 0) := (blk_cell BK730002.out 0).trans rfl; have hcz22_1 : w21.cell? ⟨gb730002, 1, none⟩ = some (.int .i64 0) := (blk_cell BK730002.out 1).trans rfl; have hcz22_2 : w21.cell? ⟨gb730002, 2, none⟩ = some (.int .i64 0) := (blk_cell BK730002.out 2).trans rfl; have hcz22_3 : w21.cell? ⟨gb730002, 3, none⟩ = some (.slice none 0 0) := (blk_cell BK730002.out 3).trans rfl; have hfz22_0 := blk_frozen BK730002.out 0; have hfz22_1 := blk_frozen BK730002.out 1; have hfz22_2 := blk_frozen BK730002.out 2; have hfz22_3 := blk_frozen BK730002.out 3))
             have n0_ : Aside0 (((((w21.setCell ⟨gb730002, 0, none⟩ (.int .i64 ((rd_T108 l0 x3_1).f0))).setCell ⟨gb730002, 1, none⟩ (.int .i64 ((rd_T108 l0 x3_1).f1))).setCell ⟨gb730002, 2, none⟩ (.int .i64 ((rd_T108 l0 x3_1).f2))).setCell ⟨gb730002, 3, none⟩ (.slice A730001_3 ((rd_T108 l0 x3_1).f3).length c730001_3)).heap[gb730002]? = some (.cells #[.int .i64 ((rd_T108 l0 x3_1).f0), .int .i64 ((rd_T108 l0 x3_1).f1), .int .i64 ((rd_T108 l0 x3_1).f2), .slice A730001_3 ((rd_T108 l0 x3_1).f3).length c730001_3] 108 (0, 0))) := ⟨by (with_reducible repeat (first | refine blk_drewN ?_ _ | refine blk_drew ?_ | refine blk_alloc ?_ _)); refine blk_put (cs := #[.int .i64 ((rd_T108 l0 x3_1).f0), .int .i64 ((rd_T108 l0 x3_1).f1), .int .i64 ((rd_T108 l0 x3_1).f2), .slice none 0 0]) ?_ 3 _ rfl; (with_reducible repeat (first | refine blk_drewN ?_ _ | refine blk_drew ?_ | refine blk_alloc ?_ _)); refine blk_put (cs := #[.int .i64 ((rd_T108 l0 x3_1).f0), .int .i64 ((rd_T108 l0 x3_1).f1), .int .i64 0, .slice none 0 0]) ?_ 2 _ rfl; (with_reducible repeat (first | refine blk_drewN ?_ _ | refine blk_drew ?_ | refine blk_alloc ?_ _)); refine blk_put (cs := #[.int .i64 ((rd_T108 l0 x3_1).f0), .int .i64 0, .int .i64 0, .slice none 0 0]) ?_ 1 _ rfl; (with_reducible repeat (first | refine blk_drewN ?_ _ | refine blk_drew ?_ | refine blk_alloc ?_ _)); refine blk_put (cs := #[.int .i64 0, .int .i64 0, .int .i64 0, .slice none 0 0]) ?_ 0 _ rfl; (with_reducible repeat (first | refine blk_drewN ?_ _ | refine blk_drew ?_ | refine blk_alloc ?_ _)); exact BK730002.out⟩
             have n1_ : Aside0 (Below w.heap.size w ((((w21.setCell ⟨gb730002, 0, none⟩ (.int .i64 ((rd_T108 l0 x3_1).f0))).setCell ⟨gb730002, 1, none⟩ (.int .i64 ((rd_T108 l0 x3_1).f1))).setCell ⟨gb730002, 2, none⟩ (.int .i64 ((rd_T108 l0 x3_1).f2))).setCell ⟨gb730002, 3, none⟩ (.slice A730001_3 ((rd_T108 l0 x3_1).f3).length c730001_3))) := ⟨by repeat (first | (with_reducible first | exact HB.out | apply below_alloc | apply pw_below_drewN | apply below_drew1 | refine below_set ?_ GE730002.out) | exact HB.out)⟩
             (try clear BK730002)
             (try clear HB)
             generalize ((((w21.setCell ⟨gb730002, 0, none⟩ (.int .i64 ((rd_T108 l0 x3_1).f0))).setCell ⟨gb730002, 1, none⟩ (.int .i64 ((rd_T108 l0 x3_1).f1))).setCell ⟨gb730002, 2, none⟩ (.int .i64 ((rd_T108 l0 x3_1).f2))).setCell ⟨gb730002, 3, none⟩ (.slice A730001_3 ((rd_T108 l0 x3_1).f3).length c730001_3)) = w23 at n0_ n1_ ⊢
             have BK730002 := n0_
             have HB := n1_
             clear n0_ n1_
             have n0_ := Aside0.mk (blk_drew BK730002.out)
             have n1_ := Aside0.mk (below_drew1 HB.out)
             clear BK730002
             clear HB
             have BK730002 := n0_
             have HB := n1_
             clear n0_ n1_
             have p730007 : 0 ≤ ((ji13) : Int) := of_decide_eq_true (by first | (with_reducible assumption) | assumption)
             have q730007 : (ji13) < (l0.length : Int) := of_decide_eq_true (by first | (with_reducible assumption) | assumption)
             obtain ⟨ad730007, A730007_3, c730007_3, e730007, hx730007_0, hx730007_1, hx730007_2, hx730007_3, hl730007_3, hi730007_3⟩ := at_T108 HR0.out (ji13) p730007 q730007
             have hw730007_3 := hx730007_3
             have hw730007_2 := hx730007_2
             have hw730007_1 := hx730007_1
             have hw730007_0 := hx730007_0
             obtain rfl : ad730001 = ad730007 := (by injection e730007)
             replace hx730007_0 := (HB.out.cell (World.block_lt_of_cell? w _ hx730007_0)).trans hx730007_0
             replace hx730007_1 := (HB.out.cell (World.block_lt_of_cell? w _ hx730007_1)).trans hx730007_1
             replace hx730007_2 := (HB.out.cell (World.block_lt_of_cell? w _ hx730007_2)).trans hx730007_2
             replace hx730007_3 := (HB.out.cell (World.block_lt_of_cell? w _ hx730007_3)).trans hx730007_3
             have HR730007_3 := Aside0.mk hi730007_3
             have HC730007_3 := Aside0.mk hl730007_3
             clear hi730007_3 hl730007_3
             replace p730007 := eq_true p730007
             replace q730007 := eq_true q730007
             refine start_ (n := 37) (S := fun w' => w'.cell? ⟨gb730002, 0, none⟩ = some (.int .i64 ((rd_T108 l0 x3_1).f0)) ∧ w'.cell? ⟨gb730002, 1, none⟩ = some (.int .i64 ((rd_T108 l0 x3_1).f1)) ∧ w'.cell? ⟨gb730002, 2, none⟩ = some (.int .i64 ((rd_T108 l0 x3_1).f2)) ∧ w'.cell? ⟨gb730002, 3, none⟩ = some (.slice A730001_3 ((rd_T108 l0 x3_1).f3).length c730001_3) ∧ w'.cell? (ad730001.add (((ji13)).toNat * 4)) = some (.int .i64 ((rd_T108 l0 (ji13)).f0)) ∧ w'.cell? ⟨(ad730001.add (((ji13)).toNat * 4)).block, (ad730001.add (((ji13)).toNat * 4)).off + 1, none⟩ = some (.int .i64 ((rd_T108 l0 (ji13)).f1)) ∧ w'.cell? ⟨(ad730001.add (((ji13)).toNat * 4)).block, (ad730001.add (((ji13)).toNat * 4)).off + 2, none⟩ = some (.int .i64 ((rd_T108 l0 (ji13)).f2)) ∧ w'.cell? ⟨(ad730001.add (((ji13)).toNat * 4)).block, (ad730001.add (((ji13)).toNat * 4)).off + 3, none⟩ = some (.slice A730007_3 ((rd_T108 l0 (ji13)).f3).length c730007_3)) (ds := []) (bt_ 37 0) (by kernel_rfl) rfl rfl ⟨(blk_cell BK730002.out 0).trans rfl, (blk_cell BK730002.out 1).trans rfl, (blk_cell BK730002.out 2).trans rfl, (blk_cell BK730002.out 3).trans rfl, ((HB.out.cell (World.block_lt_of_cell? w _ hw730007_0)).trans hw730007_0), ((HB.out.cell (World.block_lt_of_cell? w _ hw730007_1)).trans hw730007_1), ((HB.out.cell (World.block_lt_of_cell? w _ hw730007_2)).trans hw730007_2), ((HB.out.cell (World.block_lt_of_cell? w _ hw730007_3)).trans hw730007_3)⟩ (fun hHeld => ?_); refine with_tabW spec_l3SaidOk.tab5 spec_l3SaidOk.bits5 (fun HT_ HW_ => ?_)
             generalize w23.drew = w24 at BK730002 HB HR730007_3 hx730007_0 hx730007_1 hx730007_2 hx730007_3 hHeld ⊢
             refine pu_ 0 (some 15) (bt_ 37 1) (any_of HT_.out (by kernel_rfl)) ?_
             refine take_ (i := 1) (N := some 16) (v := ?_) (a' := ?_) (bt_ 37 3) rfl rfl (take_ofW HT_.out HW_.out (by kernel_rfl)) (fun _ _ _ h => h) (Or.inl ⟨by rfl, ?_⟩) hHeld ?_ ?_
             rotate_left
             ·rintro w' ⟨s0, s1, s2, s3, s4, s5, s6, s7⟩
              go_simp
              with_reducible rfl
             rotate_left
             ·simp only [Act.put, List.setIfInBounds_toArray, List.set_cons_zero, List.set_cons_succ, i64_w, i32_w]
              rfl
             refine one_ (i := 2) (N := some 17) (bt_ 37 7) rfl rfl (one_of HT_.out (by kernel_rfl)) (by decide) (fun K hK => ?_)
             refine goes_ Try.func44 (by kernel_rfl) rfl #[.int .i64 ((rd_T108 l0 x3_1).f0), .int .i64 0, .int .i64 2] (by rfl) rfl rfl (by (try simp only [List.map_toArray, List.map_cons, List.map_nil]); first | done | rfl | (simp only [List.length_drop, List.length_take]; rfl)) ?_
             with_reducible refine (spec_l6In.calls ((rd_T108 l0 x3_1).f0) 0 2 true _ A4.out).mono ?_
             rintro e w' ⟨rfl, ⟨nd, rfl⟩⟩
             refine ⟨_, rfl, ?_⟩
             refine hK.out _ _ ⟨(blk_cell BK730002.out 0).trans rfl, (blk_cell BK730002.out 1).trans rfl, (blk_cell BK730002.out 2).trans rfl, (blk_cell BK730002.out 3).trans rfl, ((HB.out.cell (World.block_lt_of_cell? w _ hw730007_0)).trans hw730007_0), ((HB.out.cell (World.block_lt_of_cell? w _ hw730007_1)).trans hw730007_1), ((HB.out.cell (World.block_lt_of_cell? w _ hw730007_2)).trans hw730007_2), ((HB.out.cell (World.block_lt_of_cell? w _ hw730007_3)).trans hw730007_3)⟩ (fun hHeld => ?_)
             clear hK K
             refine norm_ (a' := ?_) ?_ ?_
             rotate_left
             ·show Act.put _ (some 17) _ = _
              simp only [Act.put, List.setIfInBounds_toArray, List.set_cons_zero, List.set_cons_succ, i64_w, i32_w]
              rfl
             refine pu_ 3 (some 18) (bt_ 37 15) (any_of HT_.out (by kernel_rfl)) ?_
             refine pu_ 4 (some 19) (bt_ 37 31) (any_of HT_.out (by kernel_rfl)) ?_
             refine pu_ 5 (some 20) (bt_ 37 63) (any_of HT_.out (by kernel_rfl)) ?_
             refine take_ (i := 6) (N := some 21) (v := ?_) (a' := ?_) (bt_ 37 127) rfl rfl (take_ofW HT_.out HW_.out (by kernel_rfl)) (fun _ _ _ h => h) (Or.inl ⟨by rfl, ?_⟩) hHeld ?_ ?_
             rotate_left
             ·rintro w' ⟨s0, s1, s2, s3, s4, s5, s6, s7⟩
              go_simp
              with_reducible rfl
             rotate_left
             ·simp only [Act.put, List.setIfInBounds_toArray, List.set_cons_zero, List.set_cons_succ, i64_w, i32_w]
              rfl
             refine one_ (i := 7) (N := some 22) (bt_ 37 255) rfl rfl (one_of HT_.out (by kernel_rfl)) (by decide) (fun K hK => ?_)
             refine goes_ Try.func44 (by kernel_rfl) rfl #[.int .i64 ((rd_T108 l0 x3_1).f1), .int .i64 1, .int .i64 99] (by rfl) rfl rfl (by (try simp only [List.map_toArray, List.map_cons, List.map_nil]); first | done | rfl | (simp only [List.length_drop, List.length_take]; rfl)) ?_
             with_reducible refine (spec_l6In.calls ((rd_T108 l0 x3_1).f1) 1 99 true _ A6.out).mono ?_
             rintro e w' ⟨rfl, ⟨nd, rfl⟩⟩
             refine ⟨_, rfl, ?_⟩
             refine hK.out _ _ ⟨(blk_cell BK730002.out 0).trans rfl, (blk_cell BK730002.out 1).trans rfl, (blk_cell BK730002.out 2).trans rfl, (blk_cell BK730002.out 3).trans rfl, ((HB.out.cell (World.block_lt_of_cell? w _ hw730007_0)).trans hw730007_0), ((HB.out.cell (World.block_lt_of_cell? w _ hw730007_1)).trans hw730007_1), ((HB.out.cell (World.block_lt_of_cell? w _ hw730007_2)).trans hw730007_2), ((HB.out.cell (World.block_lt_of_cell? w _ hw730007_3)).trans hw730007_3)⟩ (fun hHeld => ?_)
             clear hK K
             refine norm_ (a' := ?_) ?_ ?_
             rotate_left
             ·show Act.put _ (some 22) _ = _
              simp only [Act.put, List.setIfInBounds_toArray, List.set_cons_zero, List.set_cons_succ, i64_w, i32_w]
              rfl
             refine pu_ 8 (some 23) (bt_ 37 511) (any_of HT_.out (by kernel_rfl)) ?_
             refine pu_ 9 (some 24) (bt_ 37 1023) (any_of HT_.out (by kernel_rfl)) ?_
             refine pu_ 10 (some 25) (bt_ 37 2047) (any_of HT_.out (by kernel_rfl)) ?_
             refine pu_ 11 (some 26) (bt_ 37 4095) (any_of HT_.out (by kernel_rfl)) ?_
             refine take_ (i := 12) (N := some 27) (v := ?_) (a' := ?_) (bt_ 37 8191) rfl rfl (take_ofW HT_.out HW_.out (by kernel_rfl)) (fun _ _ _ h => h) (Or.inl ⟨by rfl, ?_⟩) hHeld ?_ ?_
             rotate_left
             ·rintro w' ⟨s0, s1, s2, s3, s4, s5, s6, s7⟩
              go_simp
              with_reducible rfl
             rotate_left
             ·simp only [Act.put, List.setIfInBounds_toArray, List.set_cons_zero, List.set_cons_succ, i64_w, i32_w]
              rfl
             refine one_ (i := 13) (N := some 28) (bt_ 37 16383) rfl rfl (one_of HT_.out (by kernel_rfl)) (by decide) (fun K hK => ?_)
             refine goes_ Try.func44 (by kernel_rfl) rfl #[.int .i64 ((rd_T108 l0 x3_1).f2), .int .i64 0, .int .i64 9] (by rfl) rfl rfl (by (try simp only [List.map_toArray, List.map_cons, List.map_nil]); first | done | rfl | (simp only [List.length_drop, List.length_take]; rfl)) ?_
             with_reducible refine (spec_l6In.calls ((rd_T108 l0 x3_1).f2) 0 9 true _ A8.out).mono ?_
             rintro e w' ⟨rfl, ⟨nd, rfl⟩⟩
             refine ⟨_, rfl, ?_⟩
             refine hK.out _ _ ⟨(blk_cell BK730002.out 0).trans rfl, (blk_cell BK730002.out 1).trans rfl, (blk_cell BK730002.out 2).trans rfl, (blk_cell BK730002.out 3).trans rfl, ((HB.out.cell (World.block_lt_of_cell? w _ hw730007_0)).trans hw730007_0), ((HB.out.cell (World.block_lt_of_cell? w _ hw730007_1)).trans hw730007_1), ((HB.out.cell (World.block_lt_of_cell? w _ hw730007_2)).trans hw730007_2), ((HB.out.cell (World.block_lt_of_cell? w _ hw730007_3)).trans hw730007_3)⟩ (fun hHeld => ?_)
             clear hK K
             refine norm_ (a' := ?_) ?_ ?_
             rotate_left
             ·show Act.put _ (some 28) _ = _
              simp only [Act.put, List.setIfInBounds_toArray, List.set_cons_zero, List.set_cons_succ, i64_w, i32_w]
              rfl
             refine pu_ 14 (some 29) (bt_ 37 32767) (any_of HT_.out (by kernel_rfl)) ?_
             refine pu_ 15 (some 30) (bt_ 37 65535) (any_of HT_.out (by kernel_rfl)) ?_
             refine pu_ 16 (some 31) (bt_ 37 131071) (any_of HT_.out (by kernel_rfl)) ?_
             refine pu_ 17 (some 32) (bt_ 37 262143) (any_of HT_.out (by kernel_rfl)) ?_
             refine take_ (i := 18) (N := some 33) (v := ?_) (a' := ?_) (bt_ 37 524287) rfl rfl (take_ofW HT_.out HW_.out (by kernel_rfl)) (fun _ _ _ h => h) (Or.inl ⟨by rfl, ?_⟩) hHeld ?_ ?_
             rotate_left
             ·rintro w' ⟨s0, s1, s2, s3, s4, s5, s6, s7⟩
              go_simp
              with_reducible rfl
             rotate_left
             ·simp only [Act.put, List.setIfInBounds_toArray, List.set_cons_zero, List.set_cons_succ, i64_w, i32_w]
              rfl
             refine one_ (i := 19) (N := some 34) (bt_ 37 1048575) rfl rfl (one_of HT_.out (by kernel_rfl)) (by decide) (fun K hK => ?_)
             refine goes_ Try.func90 (by kernel_rfl) rfl #[.slice A730001_3 ((rd_T108 l0 x3_1).f3).length c730001_3] (by rfl) rfl rfl (by (try simp only [List.map_toArray, List.map_cons, List.map_nil]); first | done | rfl | (simp only [List.length_drop, List.length_take]; rfl)) ?_
             with_reducible refine (spec_l3Vals.calls k1 _ _ ((rd_T108 l0 x3_1).f3) true _ ?side1 ?side2 A10.out).mono ?_
             (case side1 => repeat (first | exact (Kd.C_below HR730001_3.out (by repeat (first | (with_reducible first | exact HB.out | apply below_alloc | apply pw_below_drewN | apply below_drew1 | refine below_set ?_ GE730002.out) | exact HB.out))) | (with_reducible refine Kd.C_alloc ?_ _) | (with_reducible refine Kd.C_drewN ?_ _) | (with_reducible refine Kd.C_drew ?_)))
             (case side2 => exact HC730001_3.out)
             rintro e w' ⟨rfl, ⟨nd, rfl⟩⟩
             refine ⟨_, rfl, ?_⟩
             refine hK.out _ _ ⟨(blk_cell BK730002.out 0).trans rfl, (blk_cell BK730002.out 1).trans rfl, (blk_cell BK730002.out 2).trans rfl, (blk_cell BK730002.out 3).trans rfl, ((HB.out.cell (World.block_lt_of_cell? w _ hw730007_0)).trans hw730007_0), ((HB.out.cell (World.block_lt_of_cell? w _ hw730007_1)).trans hw730007_1), ((HB.out.cell (World.block_lt_of_cell? w _ hw730007_2)).trans hw730007_2), ((HB.out.cell (World.block_lt_of_cell? w _ hw730007_3)).trans hw730007_3)⟩ (fun hHeld => ?_)
             clear hK K
             refine norm_ (a' := ?_) ?_ ?_
             rotate_left
             ·show Act.put _ (some 34) _ = _
              simp only [Act.put, List.setIfInBounds_toArray, List.set_cons_zero, List.set_cons_succ, i64_w, i32_w]
              rfl
             refine pu_ 20 (some 35) (bt_ 37 2097151) (any_of HT_.out (by kernel_rfl)) ?_
             refine pu_ 21 (some 36) (bt_ 37 4194303) (any_of HT_.out (by kernel_rfl)) ?_
             refine pu_ 22 (some 37) (bt_ 37 8388607) (any_of HT_.out (by kernel_rfl)) ?_
             refine pu_ 23 (some 38) (bt_ 37 16777215) (any_of HT_.out (by kernel_rfl)) ?_
             refine pu_ 24 (some 39) (bt_ 37 33554431) (any_of HT_.out (by kernel_rfl)) ?_
             refine pu_ 25 (some 40) (bt_ 37 67108863) (any_of HT_.out (by kernel_rfl)) ?_
             refine pu_ 26 (some 41) (bt_ 37 134217727) (any_of HT_.out (by kernel_rfl)) ?_
             refine pu_ 27 (some 42) (bt_ 37 268435455) (any_of HT_.out (by kernel_rfl)) ?_
             refine pu_ 28 (some 43) (bt_ 37 536870911) (any_of HT_.out (by kernel_rfl)) ?_
             refine pu_ 29 (some 44) (bt_ 37 1073741823) (any_of HT_.out (by kernel_rfl)) ?_
             refine pu_ 30 (some 45) (bt_ 37 2147483647) (any_of HT_.out (by kernel_rfl)) ?_
             refine pu_ 32 (some 47) (bt_ 37 6442450943) (any_of HT_.out (by kernel_rfl)) ?_
             refine take_ (i := 31) (N := some 46) (v := ?_) (a' := ?_) (bt_ 37 8589934591) rfl rfl (take_ofW HT_.out HW_.out (by kernel_rfl)) (fun _ _ _ h => h) (Or.inl ⟨by rfl, ?_⟩) hHeld ?_ ?_
             rotate_left
             ·rintro w' ⟨s0, s1, s2, s3, s4, s5, s6, s7⟩
              go_simp
              with_reducible rfl
             rotate_left
             ·simp only [Act.put, List.setIfInBounds_toArray, List.set_cons_zero, List.set_cons_succ, i64_w, i32_w]
              rfl
             refine take_ (i := 33) (N := some 48) (v := ?_) (a' := ?_) (bt_ 37 17179869183) rfl rfl (take_ofW HT_.out HW_.out (by kernel_rfl)) (fun _ _ _ h => h) (Or.inl ⟨by rfl, ?_⟩) hHeld ?_ ?_
             rotate_left
             ·rintro w' ⟨s0, s1, s2, s3, s4, s5, s6, s7⟩
              go_simp
              with_reducible rfl
             rotate_left
             ·simp only [Act.put, List.setIfInBounds_toArray, List.set_cons_zero, List.set_cons_succ, i64_w, i32_w]
              rfl
             refine pu_ 34 (some 49) (bt_ 37 34359738367) (any_of HT_.out (by kernel_rfl)) ?_
             refine pu_ 35 (some 50) (bt_ 37 68719476735) (any_of HT_.out (by kernel_rfl)) ?_
             refine pu_ 36 (some 51) (bt_ 37 137438953471) (any_of HT_.out (by kernel_rfl)) ?_
             refine done_ (done_of HT_.out (by kernel_rfl)) ?_
             try go_wp2
             go_roundg k1
             case measure => have := HK1.out; omega
             case rel => exact ⟨(wrap64 (x3_1 + 1)), (by first | rfl | (simp; done) | (simp [*]; done)), H', ⟨by have := HK1.out; omega⟩, ⟨by repeat (first | (with_reducible first | exact HB.out | apply below_alloc | apply pw_below_drewN | apply below_drew1 | refine below_set ?_ GE730002.out) | exact HB.out)⟩⟩
           ·rw [if_neg c15] at H
            exact absurd H (by simp)
          ·rw [if_neg c14] at H
           exact absurd H (by simp)
         ·rw [if_neg c12] at H
          have c12b0 : decide (0 < x3_1) = false := decide_eq_false c12
          clear c12
          have H' := Aside0.mk H
          clear H
          have p730001 : 0 ≤ (x3_1 : Int) := of_decide_eq_true (by first | (with_reducible assumption) | assumption)
          have q730001 : x3_1 < (l0.length : Int) := of_decide_eq_true (by first | (with_reducible assumption) | assumption)
          obtain ⟨ad730001, A730001_3, c730001_3, e730001, hx730001_0, hx730001_1, hx730001_2, hx730001_3, hl730001_3, hi730001_3⟩ := at_T108 HR0.out x3_1 p730001 q730001
          cases e730001
          replace hx730001_0 := (HB.out.cell (World.block_lt_of_cell? w _ hx730001_0)).trans hx730001_0
          replace hx730001_1 := (HB.out.cell (World.block_lt_of_cell? w _ hx730001_1)).trans hx730001_1
          replace hx730001_2 := (HB.out.cell (World.block_lt_of_cell? w _ hx730001_2)).trans hx730001_2
          replace hx730001_3 := (HB.out.cell (World.block_lt_of_cell? w _ hx730001_3)).trans hx730001_3
          have HR730001_3 := Aside0.mk hi730001_3
          have HC730001_3 := Aside0.mk hl730001_3
          clear hi730001_3 hl730001_3
          replace p730001 := eq_true p730001
          replace q730001 := eq_true q730001
          try go_wp2_with (first | ((with_reducible refine gate_dst (N := 4) rfl ?_); refine box_event ?hg (N := 4) ?hd (cs := #[.int .i64 0, .int .i64 0, .int .i64 0, .slice none 0 0]) (t := 108) ?hr ?_; (case hd => rfl); (case hg => rfl); (case hr => first | (go_simp; done) | (go_simp; rfl)); intro gb730002 hg w25 hbox hb; have n0_ := Aside0.mk (below_step (by repeat (first | (with_reducible first | exact HB.out | apply below_alloc | apply pw_below_drewN | apply below_drew1) | exact HB.out)) hb); have n1_ := Aside0.mk (hbox); have n2_ := Aside0.mk ((by rw [hg]; exact (below_size (by repeat (first | (with_reducible first | exact HB.out | apply below_alloc | apply pw_below_drewN | apply below_drew1) | exact HB.out))) : w.heap.size ≤ gb730002)); have n3_ := Aside0.mk ((by rw [hg]; exact (below_size (by repeat (first | (with_reducible first | exact HB.out | apply below_alloc | apply pw_below_drewN | apply below_drew1) | exact HB.out))) : w.heap.size ≤ gb730002)); clear HB; have HB := n0_; have BK730002 := n1_; have GW730002 := n2_; have GE730002 := n3_; clear n0_ n1_ n2_ n3_; clear hb hbox hg; have hcz26_0 : w25.cell? ⟨gb730002, 0, none⟩ = some (.int .i64 0) := (blk_cell BK730002.out 0).trans rfl; have hcz26_1 : w25.cell? ⟨gb730002, 1, none⟩ = some (.int .i64 0) := (blk_cell BK730002.out 1).trans rfl; have hcz26_2 : w25.cell? ⟨gb730002, 2, none⟩ = some (.int .i64 0) := (blk_cell BK730002.out 2).trans rfl; have hcz26_3 : w25.cell? ⟨gb730002, 3, none⟩ = some (.slice none 0 0) := (blk_cell BK730002.out 3).trans rfl; have hfz26_0 := blk_frozen BK730002.out 0; have hfz26_1 := blk_frozen BK730002.out 1; have hfz26_2 := blk_frozen BK730002.out 2; have hfz26_3 := blk_frozen BK730002.out 3))
          have n0_ : Aside0 (((((w25.setCell ⟨gb730002, 0, none⟩ (.int .i64 ((rd_T108 l0 x3_1).f0))).setCell ⟨gb730002, 1, none⟩ (.int .i64 ((rd_T108 l0 x3_1).f1))).setCell ⟨gb730002, 2, none⟩ (.int .i64 ((rd_T108 l0 x3_1).f2))).setCell ⟨gb730002, 3, none⟩ (.slice A730001_3 ((rd_T108 l0 x3_1).f3).length c730001_3)).heap[gb730002]? = some (.cells #[.int .i64 ((rd_T108 l0 x3_1).f0), .int .i64 ((rd_T108 l0 x3_1).f1), .int .i64 ((rd_T108 l0 x3_1).f2), .slice A730001_3 ((rd_T108 l0 x3_1).f3).length c730001_3] 108 (0, 0))) := ⟨by (with_reducible repeat (first | refine blk_drewN ?_ _ | refine blk_drew ?_ | refine blk_alloc ?_ _)); refine blk_put (cs := #[.int .i64 ((rd_T108 l0 x3_1).f0), .int .i64 ((rd_T108 l0 x3_1).f1), .int .i64 ((rd_T108 l0 x3_1).f2), .slice none 0 0]) ?_ 3 _ rfl; (with_reducible repeat (first | refine blk_drewN ?_ _ | refine blk_drew ?_ | refine blk_alloc ?_ _)); refine blk_put (cs := #[.int .i64 ((rd_T108 l0 x3_1).f0), .int .i64 ((rd_T108 l0 x3_1).f1), .int .i64 0, .slice none 0 0]) ?_ 2 _ rfl; (with_reducible repeat (first | refine blk_drewN ?_ _ | refine blk_drew ?_ | refine blk_alloc ?_ _)); refine blk_put (cs := #[.int .i64 ((rd_T108 l0 x3_1).f0), .int .i64 0, .int .i64 0, .slice none 0 0]) ?_ 1 _ rfl; (with_reducible repeat (first | refine blk_drewN ?_ _ | refine blk_drew ?_ | refine blk_alloc ?_ _)); refine blk_put (cs := #[.int .i64 0, .int .i64 0, .int .i64 0, .slice none 0 0]) ?_ 0 _ rfl; (with_reducible repeat (first | refine blk_drewN ?_ _ | refine blk_drew ?_ | refine blk_alloc ?_ _)); exact BK730002.out⟩
          have n1_ : Aside0 (Below w.heap.size w ((((w25.setCell ⟨gb730002, 0, none⟩ (.int .i64 ((rd_T108 l0 x3_1).f0))).setCell ⟨gb730002, 1, none⟩ (.int .i64 ((rd_T108 l0 x3_1).f1))).setCell ⟨gb730002, 2, none⟩ (.int .i64 ((rd_T108 l0 x3_1).f2))).setCell ⟨gb730002, 3, none⟩ (.slice A730001_3 ((rd_T108 l0 x3_1).f3).length c730001_3))) := ⟨by repeat (first | (with_reducible first | exact HB.out | apply below_alloc | apply pw_below_drewN | apply below_drew1 | refine below_set ?_ GE730002.out) | exact HB.out)⟩
          (try clear BK730002)
          (try clear HB)
          generalize ((((w25.setCell ⟨gb730002, 0, none⟩ (.int .i64 ((rd_T108 l0 x3_1).f0))).setCell ⟨gb730002, 1, none⟩ (.int .i64 ((rd_T108 l0 x3_1).f1))).setCell ⟨gb730002, 2, none⟩ (.int .i64 ((rd_T108 l0 x3_1).f2))).setCell ⟨gb730002, 3, none⟩ (.slice A730001_3 ((rd_T108 l0 x3_1).f3).length c730001_3)) = w27 at n0_ n1_ ⊢
          have BK730002 := n0_
          have HB := n1_
          clear n0_ n1_
          have n0_ := Aside0.mk (blk_drew BK730002.out)
          have n1_ := Aside0.mk (below_drew1 HB.out)
          clear BK730002
          clear HB
          have BK730002 := n0_
          have HB := n1_
          clear n0_ n1_
          refine start_ (n := 37) (S := fun w' => w'.cell? ⟨gb730002, 0, none⟩ = some (.int .i64 ((rd_T108 l0 x3_1).f0)) ∧ w'.cell? ⟨gb730002, 1, none⟩ = some (.int .i64 ((rd_T108 l0 x3_1).f1)) ∧ w'.cell? ⟨gb730002, 2, none⟩ = some (.int .i64 ((rd_T108 l0 x3_1).f2)) ∧ w'.cell? ⟨gb730002, 3, none⟩ = some (.slice A730001_3 ((rd_T108 l0 x3_1).f3).length c730001_3)) (ds := []) (bt_ 37 0) (by kernel_rfl) rfl rfl ⟨(blk_cell BK730002.out 0).trans rfl, (blk_cell BK730002.out 1).trans rfl, (blk_cell BK730002.out 2).trans rfl, (blk_cell BK730002.out 3).trans rfl⟩ (fun hHeld => ?_); refine with_tabW spec_l3SaidOk.tab5 spec_l3SaidOk.bits5 (fun HT_ HW_ => ?_)
          generalize w27.drew = w28 at BK730002 HB hHeld ⊢
          refine pu_ 0 (some 15) (bt_ 37 1) (any_of HT_.out (by kernel_rfl)) ?_
          refine take_ (i := 1) (N := some 16) (v := ?_) (a' := ?_) (bt_ 37 3) rfl rfl (take_ofW HT_.out HW_.out (by kernel_rfl)) (fun _ _ _ h => h) (Or.inl ⟨by rfl, ?_⟩) hHeld ?_ ?_
          rotate_left
          ·rintro w' ⟨s0, s1, s2, s3⟩
           go_simp
           with_reducible rfl
          rotate_left
          ·simp only [Act.put, List.setIfInBounds_toArray, List.set_cons_zero, List.set_cons_succ, i64_w, i32_w]
           rfl
          refine one_ (i := 2) (N := some 17) (bt_ 37 7) rfl rfl (one_of HT_.out (by kernel_rfl)) (by decide) (fun K hK => ?_)
          refine goes_ Try.func44 (by kernel_rfl) rfl #[.int .i64 ((rd_T108 l0 x3_1).f0), .int .i64 0, .int .i64 2] (by rfl) rfl rfl (by (try simp only [List.map_toArray, List.map_cons, List.map_nil]); first | done | rfl | (simp only [List.length_drop, List.length_take]; rfl)) ?_
          with_reducible refine (spec_l6In.calls ((rd_T108 l0 x3_1).f0) 0 2 true _ A4.out).mono ?_
          rintro e w' ⟨rfl, ⟨nd, rfl⟩⟩
          refine ⟨_, rfl, ?_⟩
          refine hK.out _ _ ⟨(blk_cell BK730002.out 0).trans rfl, (blk_cell BK730002.out 1).trans rfl, (blk_cell BK730002.out 2).trans rfl, (blk_cell BK730002.out 3).trans rfl⟩ (fun hHeld => ?_)
          clear hK K
          refine norm_ (a' := ?_) ?_ ?_
          rotate_left
          ·show Act.put _ (some 17) _ = _
           simp only [Act.put, List.setIfInBounds_toArray, List.set_cons_zero, List.set_cons_succ, i64_w, i32_w]
           rfl
          refine pu_ 3 (some 18) (bt_ 37 15) (any_of HT_.out (by kernel_rfl)) ?_
          refine pu_ 4 (some 19) (bt_ 37 31) (any_of HT_.out (by kernel_rfl)) ?_
          refine pu_ 5 (some 20) (bt_ 37 63) (any_of HT_.out (by kernel_rfl)) ?_
          refine take_ (i := 6) (N := some 21) (v := ?_) (a' := ?_) (bt_ 37 127) rfl rfl (take_ofW HT_.out HW_.out (by kernel_rfl)) (fun _ _ _ h => h) (Or.inl ⟨by rfl, ?_⟩) hHeld ?_ ?_
          rotate_left
          ·rintro w' ⟨s0, s1, s2, s3⟩
           go_simp
           with_reducible rfl
          rotate_left
          ·simp only [Act.put, List.setIfInBounds_toArray, List.set_cons_zero, List.set_cons_succ, i64_w, i32_w]
           rfl
          refine one_ (i := 7) (N := some 22) (bt_ 37 255) rfl rfl (one_of HT_.out (by kernel_rfl)) (by decide) (fun K hK => ?_)
          refine goes_ Try.func44 (by kernel_rfl) rfl #[.int .i64 ((rd_T108 l0 x3_1).f1), .int .i64 1, .int .i64 99] (by rfl) rfl rfl (by (try simp only [List.map_toArray, List.map_cons, List.map_nil]); first | done | rfl | (simp only [List.length_drop, List.length_take]; rfl)) ?_
          with_reducible refine (spec_l6In.calls ((rd_T108 l0 x3_1).f1) 1 99 true _ A6.out).mono ?_
          rintro e w' ⟨rfl, ⟨nd, rfl⟩⟩
          refine ⟨_, rfl, ?_⟩
          refine hK.out _ _ ⟨(blk_cell BK730002.out 0).trans rfl, (blk_cell BK730002.out 1).trans rfl, (blk_cell BK730002.out 2).trans rfl, (blk_cell BK730002.out 3).trans rfl⟩ (fun hHeld => ?_)
          clear hK K
          refine norm_ (a' := ?_) ?_ ?_
          rotate_left
          ·show Act.put _ (some 22) _ = _
           simp only [Act.put, List.setIfInBounds_toArray, List.set_cons_zero, List.set_cons_succ, i64_w, i32_w]
           rfl
          refine pu_ 8 (some 23) (bt_ 37 511) (any_of HT_.out (by kernel_rfl)) ?_
          refine pu_ 9 (some 24) (bt_ 37 1023) (any_of HT_.out (by kernel_rfl)) ?_
          refine pu_ 10 (some 25) (bt_ 37 2047) (any_of HT_.out (by kernel_rfl)) ?_
          refine pu_ 11 (some 26) (bt_ 37 4095) (any_of HT_.out (by kernel_rfl)) ?_
          refine take_ (i := 12) (N := some 27) (v := ?_) (a' := ?_) (bt_ 37 8191) rfl rfl (take_ofW HT_.out HW_.out (by kernel_rfl)) (fun _ _ _ h => h) (Or.inl ⟨by rfl, ?_⟩) hHeld ?_ ?_
          rotate_left
          ·rintro w' ⟨s0, s1, s2, s3⟩
           go_simp
           with_reducible rfl
          rotate_left
          ·simp only [Act.put, List.setIfInBounds_toArray, List.set_cons_zero, List.set_cons_succ, i64_w, i32_w]
           rfl
          refine one_ (i := 13) (N := some 28) (bt_ 37 16383) rfl rfl (one_of HT_.out (by kernel_rfl)) (by decide) (fun K hK => ?_)
          refine goes_ Try.func44 (by kernel_rfl) rfl #[.int .i64 ((rd_T108 l0 x3_1).f2), .int .i64 0, .int .i64 9] (by rfl) rfl rfl (by (try simp only [List.map_toArray, List.map_cons, List.map_nil]); first | done | rfl | (simp only [List.length_drop, List.length_take]; rfl)) ?_
          with_reducible refine (spec_l6In.calls ((rd_T108 l0 x3_1).f2) 0 9 true _ A8.out).mono ?_
          rintro e w' ⟨rfl, ⟨nd, rfl⟩⟩
          refine ⟨_, rfl, ?_⟩
          refine hK.out _ _ ⟨(blk_cell BK730002.out 0).trans rfl, (blk_cell BK730002.out 1).trans rfl, (blk_cell BK730002.out 2).trans rfl, (blk_cell BK730002.out 3).trans rfl⟩ (fun hHeld => ?_)
          clear hK K
          refine norm_ (a' := ?_) ?_ ?_
          rotate_left
          ·show Act.put _ (some 28) _ = _
           simp only [Act.put, List.setIfInBounds_toArray, List.set_cons_zero, List.set_cons_succ, i64_w, i32_w]
           rfl
          refine pu_ 14 (some 29) (bt_ 37 32767) (any_of HT_.out (by kernel_rfl)) ?_
          refine pu_ 15 (some 30) (bt_ 37 65535) (any_of HT_.out (by kernel_rfl)) ?_
          refine pu_ 16 (some 31) (bt_ 37 131071) (any_of HT_.out (by kernel_rfl)) ?_
          refine pu_ 17 (some 32) (bt_ 37 262143) (any_of HT_.out (by kernel_rfl)) ?_
          refine take_ (i := 18) (N := some 33) (v := ?_) (a' := ?_) (bt_ 37 524287) rfl rfl (take_ofW HT_.out HW_.out (by kernel_rfl)) (fun _ _ _ h => h) (Or.inl ⟨by rfl, ?_⟩) hHeld ?_ ?_
          rotate_left
          ·rintro w' ⟨s0, s1, s2, s3⟩
           go_simp
           with_reducible rfl
          rotate_left
          ·simp only [Act.put, List.setIfInBounds_toArray, List.set_cons_zero, List.set_cons_succ, i64_w, i32_w]
           rfl
          refine one_ (i := 19) (N := some 34) (bt_ 37 1048575) rfl rfl (one_of HT_.out (by kernel_rfl)) (by decide) (fun K hK => ?_)
          refine goes_ Try.func90 (by kernel_rfl) rfl #[.slice A730001_3 ((rd_T108 l0 x3_1).f3).length c730001_3] (by rfl) rfl rfl (by (try simp only [List.map_toArray, List.map_cons, List.map_nil]); first | done | rfl | (simp only [List.length_drop, List.length_take]; rfl)) ?_
          with_reducible refine (spec_l3Vals.calls k1 _ _ ((rd_T108 l0 x3_1).f3) true _ ?side1 ?side2 A10.out).mono ?_
          (case side1 => repeat (first | exact (Kd.C_below HR730001_3.out (by repeat (first | (with_reducible first | exact HB.out | apply below_alloc | apply pw_below_drewN | apply below_drew1 | refine below_set ?_ GE730002.out) | exact HB.out))) | (with_reducible refine Kd.C_alloc ?_ _) | (with_reducible refine Kd.C_drewN ?_ _) | (with_reducible refine Kd.C_drew ?_)))
          (case side2 => exact HC730001_3.out)
          rintro e w' ⟨rfl, ⟨nd, rfl⟩⟩
          refine ⟨_, rfl, ?_⟩
          refine hK.out _ _ ⟨(blk_cell BK730002.out 0).trans rfl, (blk_cell BK730002.out 1).trans rfl, (blk_cell BK730002.out 2).trans rfl, (blk_cell BK730002.out 3).trans rfl⟩ (fun hHeld => ?_)
          clear hK K
          refine norm_ (a' := ?_) ?_ ?_
          rotate_left
          ·show Act.put _ (some 34) _ = _
           simp only [Act.put, List.setIfInBounds_toArray, List.set_cons_zero, List.set_cons_succ, i64_w, i32_w]
           rfl
          refine pu_ 20 (some 35) (bt_ 37 2097151) (any_of HT_.out (by kernel_rfl)) ?_
          refine pu_ 21 (some 36) (bt_ 37 4194303) (any_of HT_.out (by kernel_rfl)) ?_
          refine pu_ 22 (some 37) (bt_ 37 8388607) (any_of HT_.out (by kernel_rfl)) ?_
          refine pu_ 23 (some 38) (bt_ 37 16777215) (any_of HT_.out (by kernel_rfl)) ?_
          refine pu_ 24 (some 39) (bt_ 37 33554431) (any_of HT_.out (by kernel_rfl)) ?_
          refine pu_ 25 (some 40) (bt_ 37 67108863) (any_of HT_.out (by kernel_rfl)) ?_
          refine pn_ 26 (some 41) (bt_ 37 134217727) (any_of HT_.out (by kernel_rfl)) ?_
          refine pn_ 27 (some 42) (bt_ 37 268435455) (any_of HT_.out (by kernel_rfl)) ?_
          refine pn_ 28 (some 43) (bt_ 37 536870911) (any_of HT_.out (by kernel_rfl)) ?_
          refine pn_ 29 (some 44) (bt_ 37 1073741823) (any_of HT_.out (by kernel_rfl)) ?_
          refine pn_ 30 (some 45) (bt_ 37 2147483647) (any_of HT_.out (by kernel_rfl)) ?_
          refine pn_ 31 (some 46) (bt_ 37 4294967295) (any_of HT_.out (by kernel_rfl)) ?_
          refine pn_ 32 (some 47) (bt_ 37 8589934591) (any_of HT_.out (by kernel_rfl)) ?_
          refine pn_ 33 (some 48) (bt_ 37 17179869183) (any_of HT_.out (by kernel_rfl)) ?_
          refine pn_ 34 (some 49) (bt_ 37 34359738367) (any_of HT_.out (by kernel_rfl)) ?_
          refine pu_ 35 (some 50) (bt_ 37 68719476735) (any_of HT_.out (by kernel_rfl)) ?_
          refine pu_ 36 (some 51) (bt_ 37 137438953471) (any_of HT_.out (by kernel_rfl)) ?_
          refine done_ (done_of HT_.out (by kernel_rfl)) ?_
          try go_wp2
          go_roundg k1
          case measure => have := HK1.out; omega
          case rel => exact ⟨(wrap64 (x3_1 + 1)), (by first | rfl | (simp; done) | (simp [*]; done)), H', ⟨by have := HK1.out; omega⟩, ⟨by repeat (first | (with_reducible first | exact HB.out | apply below_alloc | apply pw_below_drewN | apply below_drew1 | refine below_set ?_ GE730002.out) | exact HB.out)⟩⟩
        ·replace c11 := Bool.eq_false_iff.mpr c11
         subst c11
         have H1 : (some false) = some r := by rw [if_neg (show ¬ (false = true) by decide)] at H; exact H
         clear H
         have H := H1
         clear H1
         obtain rfl := Option.some.inj H
         have p730001 : 0 ≤ (x3_1 : Int) := of_decide_eq_true (by first | (with_reducible assumption) | assumption)
         have q730001 : x3_1 < (l0.length : Int) := of_decide_eq_true (by first | (with_reducible assumption) | assumption)
         obtain ⟨ad730001, A730001_3, c730001_3, e730001, hx730001_0, hx730001_1, hx730001_2, hx730001_3, hl730001_3, hi730001_3⟩ := at_T108 HR0.out x3_1 p730001 q730001
         cases e730001
         replace hx730001_0 := (HB.out.cell (World.block_lt_of_cell? w _ hx730001_0)).trans hx730001_0
         replace hx730001_1 := (HB.out.cell (World.block_lt_of_cell? w _ hx730001_1)).trans hx730001_1
         replace hx730001_2 := (HB.out.cell (World.block_lt_of_cell? w _ hx730001_2)).trans hx730001_2
         replace hx730001_3 := (HB.out.cell (World.block_lt_of_cell? w _ hx730001_3)).trans hx730001_3
         have HR730001_3 := Aside0.mk hi730001_3
         have HC730001_3 := Aside0.mk hl730001_3
         clear hi730001_3 hl730001_3
         replace p730001 := eq_true p730001
         replace q730001 := eq_true q730001
         try go_wp2_with (first | ((with_reducible refine gate_dst (N := 4) rfl ?_); refine box_event ?hg (N := 4) ?hd (cs := #[.int .i64 0, .int .i64 0, .int .i64 0, .slice none 0 0]) (t := 108) ?hr ?_; (case hd => rfl); (case hg => rfl); (case hr => first | (go_simp; done) | (go_simp; rfl)); intro gb730002 hg w29 hbox hb; have n0_ := Aside0.mk (below_step (by repeat (first | (with_reducible first | exact HB.out | apply below_alloc | apply pw_below_drewN | apply below_drew1) | exact HB.out)) hb); have n1_ := Aside0.mk (hbox); have n2_ := Aside0.mk ((by rw [hg]; exact (below_size (by repeat (first | (with_reducible first | exact HB.out | apply below_alloc | apply pw_below_drewN | apply below_drew1) | exact HB.out))) : w.heap.size ≤ gb730002)); have n3_ := Aside0.mk ((by rw [hg]; exact (below_size (by repeat (first | (with_reducible first | exact HB.out | apply below_alloc | apply pw_below_drewN | apply below_drew1) | exact HB.out))) : w.heap.size ≤ gb730002)); clear HB; have HB := n0_; have BK730002 := n1_; have GW730002 := n2_; have GE730002 := n3_; clear n0_ n1_ n2_ n3_; clear hb hbox hg; have hcz30_0 : w29.cell? ⟨gb730002, 0, none⟩ = some (.int .i64 0) := (blk_cell BK730002.out 0).trans rfl; have hcz30_1 : w29.cell? ⟨gb730002, 1, none⟩ = some (.int .i64 0) := (blk_cell BK730002.out 1).trans rfl; have hcz30_2 : w29.cell? ⟨gb730002, 2, none⟩ = some (.int .i64 0) := (blk_cell BK730002.out 2).trans rfl; have hcz30_3 : w29.cell? ⟨gb730002, 3, none⟩ = some (.slice none 0 0) := (blk_cell BK730002.out 3).trans rfl; have hfz30_0 := blk_frozen BK730002.out 0; have hfz30_1 := blk_frozen BK730002.out 1; have hfz30_2 := blk_frozen BK730002.out 2; have hfz30_3 := blk_frozen BK730002.out 3))
         have n0_ : Aside0 (((((w29.setCell ⟨gb730002, 0, none⟩ (.int .i64 ((rd_T108 l0 x3_1).f0))).setCell ⟨gb730002, 1, none⟩ (.int .i64 ((rd_T108 l0 x3_1).f1))).setCell ⟨gb730002, 2, none⟩ (.int .i64 ((rd_T108 l0 x3_1).f2))).setCell ⟨gb730002, 3, none⟩ (.slice A730001_3 ((rd_T108 l0 x3_1).f3).length c730001_3)).heap[gb730002]? = some (.cells #[.int .i64 ((rd_T108 l0 x3_1).f0), .int .i64 ((rd_T108 l0 x3_1).f1), .int .i64 ((rd_T108 l0 x3_1).f2), .slice A730001_3 ((rd_T108 l0 x3_1).f3).length c730001_3] 108 (0, 0))) := ⟨by (with_reducible repeat (first | refine blk_drewN ?_ _ | refine blk_drew ?_ | refine blk_alloc ?_ _)); refine blk_put (cs := #[.int .i64 ((rd_T108 l0 x3_1).f0), .int .i64 ((rd_T108 l0 x3_1).f1), .int .i64 ((rd_T108 l0 x3_1).f2), .slice none 0 0]) ?_ 3 _ rfl; (with_reducible repeat (first | refine blk_drewN ?_ _ | refine blk_drew ?_ | refine blk_alloc ?_ _)); refine blk_put (cs := #[.int .i64 ((rd_T108 l0 x3_1).f0), .int .i64 ((rd_T108 l0 x3_1).f1), .int .i64 0, .slice none 0 0]) ?_ 2 _ rfl; (with_reducible repeat (first | refine blk_drewN ?_ _ | refine blk_drew ?_ | refine blk_alloc ?_ _)); refine blk_put (cs := #[.int .i64 ((rd_T108 l0 x3_1).f0), .int .i64 0, .int .i64 0, .slice none 0 0]) ?_ 1 _ rfl; (with_reducible repeat (first | refine blk_drewN ?_ _ | refine blk_drew ?_ | refine blk_alloc ?_ _)); refine blk_put (cs := #[.int .i64 0, .int .i64 0, .int .i64 0, .slice none 0 0]) ?_ 0 _ rfl; (with_reducible repeat (first | refine blk_drewN ?_ _ | refine blk_drew ?_ | refine blk_alloc ?_ _)); exact BK730002.out⟩
         have n1_ : Aside0 (Below w.heap.size w ((((w29.setCell ⟨gb730002, 0, none⟩ (.int .i64 ((rd_T108 l0 x3_1).f0))).setCell ⟨gb730002, 1, none⟩ (.int .i64 ((rd_T108 l0 x3_1).f1))).setCell ⟨gb730002, 2, none⟩ (.int .i64 ((rd_T108 l0 x3_1).f2))).setCell ⟨gb730002, 3, none⟩ (.slice A730001_3 ((rd_T108 l0 x3_1).f3).length c730001_3))) := ⟨by repeat (first | (with_reducible first | exact HB.out | apply below_alloc | apply pw_below_drewN | apply below_drew1 | refine below_set ?_ GE730002.out) | exact HB.out)⟩
         (try clear BK730002)
         (try clear HB)
         generalize ((((w29.setCell ⟨gb730002, 0, none⟩ (.int .i64 ((rd_T108 l0 x3_1).f0))).setCell ⟨gb730002, 1, none⟩ (.int .i64 ((rd_T108 l0 x3_1).f1))).setCell ⟨gb730002, 2, none⟩ (.int .i64 ((rd_T108 l0 x3_1).f2))).setCell ⟨gb730002, 3, none⟩ (.slice A730001_3 ((rd_T108 l0 x3_1).f3).length c730001_3)) = w31 at n0_ n1_ ⊢
         have BK730002 := n0_
         have HB := n1_
         clear n0_ n1_
         have n0_ := Aside0.mk (blk_drew BK730002.out)
         have n1_ := Aside0.mk (below_drew1 HB.out)
         clear BK730002
         clear HB
         have BK730002 := n0_
         have HB := n1_
         clear n0_ n1_
         refine start_ (n := 37) (S := fun w' => w'.cell? ⟨gb730002, 0, none⟩ = some (.int .i64 ((rd_T108 l0 x3_1).f0)) ∧ w'.cell? ⟨gb730002, 1, none⟩ = some (.int .i64 ((rd_T108 l0 x3_1).f1)) ∧ w'.cell? ⟨gb730002, 2, none⟩ = some (.int .i64 ((rd_T108 l0 x3_1).f2)) ∧ w'.cell? ⟨gb730002, 3, none⟩ = some (.slice A730001_3 ((rd_T108 l0 x3_1).f3).length c730001_3)) (ds := []) (bt_ 37 0) (by kernel_rfl) rfl rfl ⟨(blk_cell BK730002.out 0).trans rfl, (blk_cell BK730002.out 1).trans rfl, (blk_cell BK730002.out 2).trans rfl, (blk_cell BK730002.out 3).trans rfl⟩ (fun hHeld => ?_); refine with_tabW spec_l3SaidOk.tab5 spec_l3SaidOk.bits5 (fun HT_ HW_ => ?_)
         generalize w31.drew = w32 at BK730002 HB hHeld ⊢
         refine pu_ 0 (some 15) (bt_ 37 1) (any_of HT_.out (by kernel_rfl)) ?_
         refine take_ (i := 1) (N := some 16) (v := ?_) (a' := ?_) (bt_ 37 3) rfl rfl (take_ofW HT_.out HW_.out (by kernel_rfl)) (fun _ _ _ h => h) (Or.inl ⟨by rfl, ?_⟩) hHeld ?_ ?_
         rotate_left
         ·rintro w' ⟨s0, s1, s2, s3⟩
          go_simp
          with_reducible rfl
         rotate_left
         ·simp only [Act.put, List.setIfInBounds_toArray, List.set_cons_zero, List.set_cons_succ, i64_w, i32_w]
          rfl
         refine one_ (i := 2) (N := some 17) (bt_ 37 7) rfl rfl (one_of HT_.out (by kernel_rfl)) (by decide) (fun K hK => ?_)
         refine goes_ Try.func44 (by kernel_rfl) rfl #[.int .i64 ((rd_T108 l0 x3_1).f0), .int .i64 0, .int .i64 2] (by rfl) rfl rfl (by (try simp only [List.map_toArray, List.map_cons, List.map_nil]); first | done | rfl | (simp only [List.length_drop, List.length_take]; rfl)) ?_
         with_reducible refine (spec_l6In.calls ((rd_T108 l0 x3_1).f0) 0 2 true _ A4.out).mono ?_
         rintro e w' ⟨rfl, ⟨nd, rfl⟩⟩
         refine ⟨_, rfl, ?_⟩
         refine hK.out _ _ ⟨(blk_cell BK730002.out 0).trans rfl, (blk_cell BK730002.out 1).trans rfl, (blk_cell BK730002.out 2).trans rfl, (blk_cell BK730002.out 3).trans rfl⟩ (fun hHeld => ?_)
         clear hK K
         refine norm_ (a' := ?_) ?_ ?_
         rotate_left
         ·show Act.put _ (some 17) _ = _
          simp only [Act.put, List.setIfInBounds_toArray, List.set_cons_zero, List.set_cons_succ, i64_w, i32_w]
          rfl
         refine pu_ 3 (some 18) (bt_ 37 15) (any_of HT_.out (by kernel_rfl)) ?_
         refine pu_ 4 (some 19) (bt_ 37 31) (any_of HT_.out (by kernel_rfl)) ?_
         refine pu_ 5 (some 20) (bt_ 37 63) (any_of HT_.out (by kernel_rfl)) ?_
         refine take_ (i := 6) (N := some 21) (v := ?_) (a' := ?_) (bt_ 37 127) rfl rfl (take_ofW HT_.out HW_.out (by kernel_rfl)) (fun _ _ _ h => h) (Or.inl ⟨by rfl, ?_⟩) hHeld ?_ ?_
         rotate_left
         ·rintro w' ⟨s0, s1, s2, s3⟩
          go_simp
          with_reducible rfl
         rotate_left
         ·simp only [Act.put, List.setIfInBounds_toArray, List.set_cons_zero, List.set_cons_succ, i64_w, i32_w]
          rfl
         refine one_ (i := 7) (N := some 22) (bt_ 37 255) rfl rfl (one_of HT_.out (by kernel_rfl)) (by decide) (fun K hK => ?_)
         refine goes_ Try.func44 (by kernel_rfl) rfl #[.int .i64 ((rd_T108 l0 x3_1).f1), .int .i64 1, .int .i64 99] (by rfl) rfl rfl (by (try simp only [List.map_toArray, List.map_cons, List.map_nil]); first | done | rfl | (simp only [List.length_drop, List.length_take]; rfl)) ?_
         with_reducible refine (spec_l6In.calls ((rd_T108 l0 x3_1).f1) 1 99 true _ A6.out).mono ?_
         rintro e w' ⟨rfl, ⟨nd, rfl⟩⟩
         refine ⟨_, rfl, ?_⟩
         refine hK.out _ _ ⟨(blk_cell BK730002.out 0).trans rfl, (blk_cell BK730002.out 1).trans rfl, (blk_cell BK730002.out 2).trans rfl, (blk_cell BK730002.out 3).trans rfl⟩ (fun hHeld => ?_)
         clear hK K
         refine norm_ (a' := ?_) ?_ ?_
         rotate_left
         ·show Act.put _ (some 22) _ = _
          simp only [Act.put, List.setIfInBounds_toArray, List.set_cons_zero, List.set_cons_succ, i64_w, i32_w]
          rfl
         refine pu_ 8 (some 23) (bt_ 37 511) (any_of HT_.out (by kernel_rfl)) ?_
         refine pu_ 9 (some 24) (bt_ 37 1023) (any_of HT_.out (by kernel_rfl)) ?_
         refine pu_ 10 (some 25) (bt_ 37 2047) (any_of HT_.out (by kernel_rfl)) ?_
         refine pu_ 11 (some 26) (bt_ 37 4095) (any_of HT_.out (by kernel_rfl)) ?_
         refine take_ (i := 12) (N := some 27) (v := ?_) (a' := ?_) (bt_ 37 8191) rfl rfl (take_ofW HT_.out HW_.out (by kernel_rfl)) (fun _ _ _ h => h) (Or.inl ⟨by rfl, ?_⟩) hHeld ?_ ?_
         rotate_left
         ·rintro w' ⟨s0, s1, s2, s3⟩
          go_simp
          with_reducible rfl
         rotate_left
         ·simp only [Act.put, List.setIfInBounds_toArray, List.set_cons_zero, List.set_cons_succ, i64_w, i32_w]
          rfl
         refine one_ (i := 13) (N := some 28) (bt_ 37 16383) rfl rfl (one_of HT_.out (by kernel_rfl)) (by decide) (fun K hK => ?_)
         refine goes_ Try.func44 (by kernel_rfl) rfl #[.int .i64 ((rd_T108 l0 x3_1).f2), .int .i64 0, .int .i64 9] (by rfl) rfl rfl (by (try simp only [List.map_toArray, List.map_cons, List.map_nil]); first | done | rfl | (simp only [List.length_drop, List.length_take]; rfl)) ?_
         with_reducible refine (spec_l6In.calls ((rd_T108 l0 x3_1).f2) 0 9 true _ A8.out).mono ?_
         rintro e w' ⟨rfl, ⟨nd, rfl⟩⟩
         refine ⟨_, rfl, ?_⟩
         refine hK.out _ _ ⟨(blk_cell BK730002.out 0).trans rfl, (blk_cell BK730002.out 1).trans rfl, (blk_cell BK730002.out 2).trans rfl, (blk_cell BK730002.out 3).trans rfl⟩ (fun hHeld => ?_)
         clear hK K
         refine norm_ (a' := ?_) ?_ ?_
         rotate_left
         ·show Act.put _ (some 28) _ = _
          simp only [Act.put, List.setIfInBounds_toArray, List.set_cons_zero, List.set_cons_succ, i64_w, i32_w]
          rfl
         refine pu_ 14 (some 29) (bt_ 37 32767) (any_of HT_.out (by kernel_rfl)) ?_
         refine pu_ 15 (some 30) (bt_ 37 65535) (any_of HT_.out (by kernel_rfl)) ?_
         refine pu_ 16 (some 31) (bt_ 37 131071) (any_of HT_.out (by kernel_rfl)) ?_
         refine pu_ 17 (some 32) (bt_ 37 262143) (any_of HT_.out (by kernel_rfl)) ?_
         refine take_ (i := 18) (N := some 33) (v := ?_) (a' := ?_) (bt_ 37 524287) rfl rfl (take_ofW HT_.out HW_.out (by kernel_rfl)) (fun _ _ _ h => h) (Or.inl ⟨by rfl, ?_⟩) hHeld ?_ ?_
         rotate_left
         ·rintro w' ⟨s0, s1, s2, s3⟩
          go_simp
          with_reducible rfl
         rotate_left
         ·simp only [Act.put, List.setIfInBounds_toArray, List.set_cons_zero, List.set_cons_succ, i64_w, i32_w]
          rfl
         refine one_ (i := 19) (N := some 34) (bt_ 37 1048575) rfl rfl (one_of HT_.out (by kernel_rfl)) (by decide) (fun K hK => ?_)
         refine goes_ Try.func90 (by kernel_rfl) rfl #[.slice A730001_3 ((rd_T108 l0 x3_1).f3).length c730001_3] (by rfl) rfl rfl (by (try simp only [List.map_toArray, List.map_cons, List.map_nil]); first | done | rfl | (simp only [List.length_drop, List.length_take]; rfl)) ?_
         with_reducible refine (spec_l3Vals.calls k1 _ _ ((rd_T108 l0 x3_1).f3) false _ ?side1 ?side2 A10.out).mono ?_
         (case side1 => repeat (first | exact (Kd.C_below HR730001_3.out (by repeat (first | (with_reducible first | exact HB.out | apply below_alloc | apply pw_below_drewN | apply below_drew1 | refine below_set ?_ GE730002.out) | exact HB.out))) | (with_reducible refine Kd.C_alloc ?_ _) | (with_reducible refine Kd.C_drewN ?_ _) | (with_reducible refine Kd.C_drew ?_)))
         (case side2 => exact HC730001_3.out)
         rintro e w' ⟨rfl, ⟨nd, rfl⟩⟩
         refine ⟨_, rfl, ?_⟩
         refine hK.out _ _ ⟨(blk_cell BK730002.out 0).trans rfl, (blk_cell BK730002.out 1).trans rfl, (blk_cell BK730002.out 2).trans rfl, (blk_cell BK730002.out 3).trans rfl⟩ (fun hHeld => ?_)
         clear hK K
         refine norm_ (a' := ?_) ?_ ?_
         rotate_left
         ·show Act.put _ (some 34) _ = _
          simp only [Act.put, List.setIfInBounds_toArray, List.set_cons_zero, List.set_cons_succ, i64_w, i32_w]
          rfl
         refine pu_ 20 (some 35) (bt_ 37 2097151) (any_of HT_.out (by kernel_rfl)) ?_
         refine pu_ 21 (some 36) (bt_ 37 4194303) (any_of HT_.out (by kernel_rfl)) ?_
         refine pu_ 22 (some 37) (bt_ 37 8388607) (any_of HT_.out (by kernel_rfl)) ?_
         refine pn_ 23 (some 38) (bt_ 37 16777215) (any_of HT_.out (by kernel_rfl)) ?_
         refine pn_ 24 (some 39) (bt_ 37 33554431) (any_of HT_.out (by kernel_rfl)) ?_
         refine pn_ 25 (some 40) (bt_ 37 67108863) (any_of HT_.out (by kernel_rfl)) ?_
         refine pn_ 26 (some 41) (bt_ 37 134217727) (any_of HT_.out (by kernel_rfl)) ?_
         refine pn_ 27 (some 42) (bt_ 37 268435455) (any_of HT_.out (by kernel_rfl)) ?_
         refine pn_ 28 (some 43) (bt_ 37 536870911) (any_of HT_.out (by kernel_rfl)) ?_
         refine pn_ 29 (some 44) (bt_ 37 1073741823) (any_of HT_.out (by kernel_rfl)) ?_
         refine pn_ 30 (some 45) (bt_ 37 2147483647) (any_of HT_.out (by kernel_rfl)) ?_
         refine pn_ 31 (some 46) (bt_ 37 4294967295) (any_of HT_.out (by kernel_rfl)) ?_
         refine pn_ 32 (some 47) (bt_ 37 8589934591) (any_of HT_.out (by kernel_rfl)) ?_
         refine pn_ 33 (some 48) (bt_ 37 17179869183) (any_of HT_.out (by kernel_rfl)) ?_
         refine pn_ 34 (some 49) (bt_ 37 34359738367) (any_of HT_.out (by kernel_rfl)) ?_
         refine pn_ 35 (some 50) (bt_ 37 68719476735) (any_of HT_.out (by kernel_rfl)) ?_
         refine pu_ 36 (some 51) (bt_ 37 137438953471) (any_of HT_.out (by kernel_rfl)) ?_
         refine done_ (done_of HT_.out (by kernel_rfl)) ?_
         try go_wp2
         go_ret
         exact ⟨by first | rfl | (simp [errW_none, errW_some] <;> rfl) | (simp [*, errW_none, errW_some] <;> rfl), by repeat (first | (with_reducible first | exact HB.out | apply below_alloc | apply pw_below_drewN | apply below_drew1 | refine below_set ?_ GE730002.out) | exact HB.out)⟩
       ·replace c9 := Bool.eq_false_iff.mpr c9
        subst c9
        have H1 : (some false) = some r := by rw [if_neg (show ¬ (false = true) by decide)] at H; exact H
        clear H
        have H := H1
        clear H1
        obtain rfl := Option.some.inj H
        have p730001 : 0 ≤ (x3_1 : Int) := of_decide_eq_true (by first | (with_reducible assumption) | assumption)
        have q730001 : x3_1 < (l0.length : Int) := of_decide_eq_true (by first | (with_reducible assumption) | assumption)
        obtain ⟨ad730001, A730001_3, c730001_3, e730001, hx730001_0, hx730001_1, hx730001_2, hx730001_3, hl730001_3, hi730001_3⟩ := at_T108 HR0.out x3_1 p730001 q730001
        cases e730001
        replace hx730001_0 := (HB.out.cell (World.block_lt_of_cell? w _ hx730001_0)).trans hx730001_0
        replace hx730001_1 := (HB.out.cell (World.block_lt_of_cell? w _ hx730001_1)).trans hx730001_1
        replace hx730001_2 := (HB.out.cell (World.block_lt_of_cell? w _ hx730001_2)).trans hx730001_2
        replace hx730001_3 := (HB.out.cell (World.block_lt_of_cell? w _ hx730001_3)).trans hx730001_3
        have HR730001_3 := Aside0.mk hi730001_3
        have HC730001_3 := Aside0.mk hl730001_3
        clear hi730001_3 hl730001_3
        replace p730001 := eq_true p730001
        replace q730001 := eq_true q730001
        try go_wp2_with (first | ((with_reducible refine gate_dst (N := 4) rfl ?_); refine box_event ?hg (N := 4) ?hd (cs := #[.int .i64 0, .int .i64 0, .int .i64 0, .slice none 0 0]) (t := 108) ?hr ?_; (case hd => rfl); (case hg => rfl); (case hr => first | (go_simp; done) | (go_simp; rfl)); intro gb730002 hg w33 hbox hb; have n0_ := Aside0.mk (below_step (by repeat (first | (with_reducible first | exact HB.out | apply below_alloc | apply pw_below_drewN | apply below_drew1) | exact HB.out)) hb); have n1_ := Aside0.mk (hbox); have n2_ := Aside0.mk ((by rw [hg]; exact (below_size (by repeat (first | (with_reducible first | exact HB.out | apply below_alloc | apply pw_below_drewN | apply below_drew1) | exact HB.out))) : w.heap.size ≤ gb730002)); have n3_ := Aside0.mk ((by rw [hg]; exact (below_size (by repeat (first | (with_reducible first | exact HB.out | apply below_alloc | apply pw_below_drewN | apply below_drew1) | exact HB.out))) : w.heap.size ≤ gb730002)); clear HB; have HB := n0_; have BK730002 := n1_; have GW730002 := n2_; have GE730002 := n3_; clear n0_ n1_ n2_ n3_; clear hb hbox hg; have hcz34_0 : w33.cell? ⟨gb730002, 0, none⟩ = some (.int .i64 0) := (blk_cell BK730002.out 0).trans rfl; have hcz34_1 : w33.cell? ⟨gb730002, 1, none⟩ = some (.int .i64 0) := (blk_cell BK730002.out 1).trans rfl; have hcz34_2 : w33.cell? ⟨gb730002, 2, none⟩ = some (.int .i64 0) := (blk_cell BK730002.out 2).trans rfl; have hcz34_3 : w33.cell? ⟨gb730002, 3, none⟩ = some (.slice none 0 0) := (blk_cell BK730002.out 3).trans rfl; have hfz34_0 := blk_frozen BK730002.out 0; have hfz34_1 := blk_frozen BK730002.out 1; have hfz34_2 := blk_frozen BK730002.out 2; have hfz34_3 := blk_frozen BK730002.out 3))
        have n0_ : Aside0 (((((w33.setCell ⟨gb730002, 0, none⟩ (.int .i64 ((rd_T108 l0 x3_1).f0))).setCell ⟨gb730002, 1, none⟩ (.int .i64 ((rd_T108 l0 x3_1).f1))).setCell ⟨gb730002, 2, none⟩ (.int .i64 ((rd_T108 l0 x3_1).f2))).setCell ⟨gb730002, 3, none⟩ (.slice A730001_3 ((rd_T108 l0 x3_1).f3).length c730001_3)).heap[gb730002]? = some (.cells #[.int .i64 ((rd_T108 l0 x3_1).f0), .int .i64 ((rd_T108 l0 x3_1).f1), .int .i64 ((rd_T108 l0 x3_1).f2), .slice A730001_3 ((rd_T108 l0 x3_1).f3).length c730001_3] 108 (0, 0))) := ⟨by (with_reducible repeat (first | refine blk_drewN ?_ _ | refine blk_drew ?_ | refine blk_alloc ?_ _)); refine blk_put (cs := #[.int .i64 ((rd_T108 l0 x3_1).f0), .int .i64 ((rd_T108 l0 x3_1).f1), .int .i64 ((rd_T108 l0 x3_1).f2), .slice none 0 0]) ?_ 3 _ rfl; (with_reducible repeat (first | refine blk_drewN ?_ _ | refine blk_drew ?_ | refine blk_alloc ?_ _)); refine blk_put (cs := #[.int .i64 ((rd_T108 l0 x3_1).f0), .int .i64 ((rd_T108 l0 x3_1).f1), .int .i64 0, .slice none 0 0]) ?_ 2 _ rfl; (with_reducible repeat (first | refine blk_drewN ?_ _ | refine blk_drew ?_ | refine blk_alloc ?_ _)); refine blk_put (cs := #[.int .i64 ((rd_T108 l0 x3_1).f0), .int .i64 0, .int .i64 0, .slice none 0 0]) ?_ 1 _ rfl; (with_reducible repeat (first | refine blk_drewN ?_ _ | refine blk_drew ?_ | refine blk_alloc ?_ _)); refine blk_put (cs := #[.int .i64 0, .int .i64 0, .int .i64 0, .slice none 0 0]) ?_ 0 _ rfl; (with_reducible repeat (first | refine blk_drewN ?_ _ | refine blk_drew ?_ | refine blk_alloc ?_ _)); exact BK730002.out⟩
        have n1_ : Aside0 (Below w.heap.size w ((((w33.setCell ⟨gb730002, 0, none⟩ (.int .i64 ((rd_T108 l0 x3_1).f0))).setCell ⟨gb730002, 1, none⟩ (.int .i64 ((rd_T108 l0 x3_1).f1))).setCell ⟨gb730002, 2, none⟩ (.int .i64 ((rd_T108 l0 x3_1).f2))).setCell ⟨gb730002, 3, none⟩ (.slice A730001_3 ((rd_T108 l0 x3_1).f3).length c730001_3))) := ⟨by repeat (first | (with_reducible first | exact HB.out | apply below_alloc | apply pw_below_drewN | apply below_drew1 | refine below_set ?_ GE730002.out) | exact HB.out)⟩
        (try clear BK730002)
        (try clear HB)
        generalize ((((w33.setCell ⟨gb730002, 0, none⟩ (.int .i64 ((rd_T108 l0 x3_1).f0))).setCell ⟨gb730002, 1, none⟩ (.int .i64 ((rd_T108 l0 x3_1).f1))).setCell ⟨gb730002, 2, none⟩ (.int .i64 ((rd_T108 l0 x3_1).f2))).setCell ⟨gb730002, 3, none⟩ (.slice A730001_3 ((rd_T108 l0 x3_1).f3).length c730001_3)) = w35 at n0_ n1_ ⊢
        have BK730002 := n0_
        have HB := n1_
        clear n0_ n1_
        have n0_ := Aside0.mk (blk_drew BK730002.out)
        have n1_ := Aside0.mk (below_drew1 HB.out)
        clear BK730002
        clear HB
        have BK730002 := n0_
        have HB := n1_
        clear n0_ n1_
        refine start_ (n := 37) (S := fun w' => w'.cell? ⟨gb730002, 0, none⟩ = some (.int .i64 ((rd_T108 l0 x3_1).f0)) ∧ w'.cell? ⟨gb730002, 1, none⟩ = some (.int .i64 ((rd_T108 l0 x3_1).f1)) ∧ w'.cell? ⟨gb730002, 2, none⟩ = some (.int .i64 ((rd_T108 l0 x3_1).f2)) ∧ w'.cell? ⟨gb730002, 3, none⟩ = some (.slice A730001_3 ((rd_T108 l0 x3_1).f3).length c730001_3)) (ds := []) (bt_ 37 0) (by kernel_rfl) rfl rfl ⟨(blk_cell BK730002.out 0).trans rfl, (blk_cell BK730002.out 1).trans rfl, (blk_cell BK730002.out 2).trans rfl, (blk_cell BK730002.out 3).trans rfl⟩ (fun hHeld => ?_); refine with_tabW spec_l3SaidOk.tab5 spec_l3SaidOk.bits5 (fun HT_ HW_ => ?_)
        generalize w35.drew = w36 at BK730002 HB hHeld ⊢
        refine pu_ 0 (some 15) (bt_ 37 1) (any_of HT_.out (by kernel_rfl)) ?_
        refine take_ (i := 1) (N := some 16) (v := ?_) (a' := ?_) (bt_ 37 3) rfl rfl (take_ofW HT_.out HW_.out (by kernel_rfl)) (fun _ _ _ h => h) (Or.inl ⟨by rfl, ?_⟩) hHeld ?_ ?_
        rotate_left
        ·rintro w' ⟨s0, s1, s2, s3⟩
         go_simp
         with_reducible rfl
        rotate_left
        ·simp only [Act.put, List.setIfInBounds_toArray, List.set_cons_zero, List.set_cons_succ, i64_w, i32_w]
         rfl
        refine one_ (i := 2) (N := some 17) (bt_ 37 7) rfl rfl (one_of HT_.out (by kernel_rfl)) (by decide) (fun K hK => ?_)
        refine goes_ Try.func44 (by kernel_rfl) rfl #[.int .i64 ((rd_T108 l0 x3_1).f0), .int .i64 0, .int .i64 2] (by rfl) rfl rfl (by (try simp only [List.map_toArray, List.map_cons, List.map_nil]); first | done | rfl | (simp only [List.length_drop, List.length_take]; rfl)) ?_
        with_reducible refine (spec_l6In.calls ((rd_T108 l0 x3_1).f0) 0 2 true _ A4.out).mono ?_
        rintro e w' ⟨rfl, ⟨nd, rfl⟩⟩
        refine ⟨_, rfl, ?_⟩
        refine hK.out _ _ ⟨(blk_cell BK730002.out 0).trans rfl, (blk_cell BK730002.out 1).trans rfl, (blk_cell BK730002.out 2).trans rfl, (blk_cell BK730002.out 3).trans rfl⟩ (fun hHeld => ?_)
        clear hK K
        refine norm_ (a' := ?_) ?_ ?_
        rotate_left
        ·show Act.put _ (some 17) _ = _
         simp only [Act.put, List.setIfInBounds_toArray, List.set_cons_zero, List.set_cons_succ, i64_w, i32_w]
         rfl
        refine pu_ 3 (some 18) (bt_ 37 15) (any_of HT_.out (by kernel_rfl)) ?_
        refine pu_ 4 (some 19) (bt_ 37 31) (any_of HT_.out (by kernel_rfl)) ?_
        refine pu_ 5 (some 20) (bt_ 37 63) (any_of HT_.out (by kernel_rfl)) ?_
        refine take_ (i := 6) (N := some 21) (v := ?_) (a' := ?_) (bt_ 37 127) rfl rfl (take_ofW HT_.out HW_.out (by kernel_rfl)) (fun _ _ _ h => h) (Or.inl ⟨by rfl, ?_⟩) hHeld ?_ ?_
        rotate_left
        ·rintro w' ⟨s0, s1, s2, s3⟩
         go_simp
         with_reducible rfl
        rotate_left
        ·simp only [Act.put, List.setIfInBounds_toArray, List.set_cons_zero, List.set_cons_succ, i64_w, i32_w]
         rfl
        refine one_ (i := 7) (N := some 22) (bt_ 37 255) rfl rfl (one_of HT_.out (by kernel_rfl)) (by decide) (fun K hK => ?_)
        refine goes_ Try.func44 (by kernel_rfl) rfl #[.int .i64 ((rd_T108 l0 x3_1).f1), .int .i64 1, .int .i64 99] (by rfl) rfl rfl (by (try simp only [List.map_toArray, List.map_cons, List.map_nil]); first | done | rfl | (simp only [List.length_drop, List.length_take]; rfl)) ?_
        with_reducible refine (spec_l6In.calls ((rd_T108 l0 x3_1).f1) 1 99 true _ A6.out).mono ?_
        rintro e w' ⟨rfl, ⟨nd, rfl⟩⟩
        refine ⟨_, rfl, ?_⟩
        refine hK.out _ _ ⟨(blk_cell BK730002.out 0).trans rfl, (blk_cell BK730002.out 1).trans rfl, (blk_cell BK730002.out 2).trans rfl, (blk_cell BK730002.out 3).trans rfl⟩ (fun hHeld => ?_)
        clear hK K
        refine norm_ (a' := ?_) ?_ ?_
        rotate_left
        ·show Act.put _ (some 22) _ = _
         simp only [Act.put, List.setIfInBounds_toArray, List.set_cons_zero, List.set_cons_succ, i64_w, i32_w]
         rfl
        refine pu_ 8 (some 23) (bt_ 37 511) (any_of HT_.out (by kernel_rfl)) ?_
        refine pu_ 9 (some 24) (bt_ 37 1023) (any_of HT_.out (by kernel_rfl)) ?_
        refine pu_ 10 (some 25) (bt_ 37 2047) (any_of HT_.out (by kernel_rfl)) ?_
        refine pu_ 11 (some 26) (bt_ 37 4095) (any_of HT_.out (by kernel_rfl)) ?_
        refine take_ (i := 12) (N := some 27) (v := ?_) (a' := ?_) (bt_ 37 8191) rfl rfl (take_ofW HT_.out HW_.out (by kernel_rfl)) (fun _ _ _ h => h) (Or.inl ⟨by rfl, ?_⟩) hHeld ?_ ?_
        rotate_left
        ·rintro w' ⟨s0, s1, s2, s3⟩
         go_simp
         with_reducible rfl
        rotate_left
        ·simp only [Act.put, List.setIfInBounds_toArray, List.set_cons_zero, List.set_cons_succ, i64_w, i32_w]
         rfl
        refine one_ (i := 13) (N := some 28) (bt_ 37 16383) rfl rfl (one_of HT_.out (by kernel_rfl)) (by decide) (fun K hK => ?_)
        refine goes_ Try.func44 (by kernel_rfl) rfl #[.int .i64 ((rd_T108 l0 x3_1).f2), .int .i64 0, .int .i64 9] (by rfl) rfl rfl (by (try simp only [List.map_toArray, List.map_cons, List.map_nil]); first | done | rfl | (simp only [List.length_drop, List.length_take]; rfl)) ?_
        with_reducible refine (spec_l6In.calls ((rd_T108 l0 x3_1).f2) 0 9 false _ A8.out).mono ?_
        rintro e w' ⟨rfl, ⟨nd, rfl⟩⟩
        refine ⟨_, rfl, ?_⟩
        refine hK.out _ _ ⟨(blk_cell BK730002.out 0).trans rfl, (blk_cell BK730002.out 1).trans rfl, (blk_cell BK730002.out 2).trans rfl, (blk_cell BK730002.out 3).trans rfl⟩ (fun hHeld => ?_)
        clear hK K
        refine norm_ (a' := ?_) ?_ ?_
        rotate_left
        ·show Act.put _ (some 28) _ = _
         simp only [Act.put, List.setIfInBounds_toArray, List.set_cons_zero, List.set_cons_succ, i64_w, i32_w]
         rfl
        refine pu_ 14 (some 29) (bt_ 37 32767) (any_of HT_.out (by kernel_rfl)) ?_
        refine pu_ 15 (some 30) (bt_ 37 65535) (any_of HT_.out (by kernel_rfl)) ?_
        refine pu_ 16 (some 31) (bt_ 37 131071) (any_of HT_.out (by kernel_rfl)) ?_
        refine pn_ 17 (some 32) (bt_ 37 262143) (any_of HT_.out (by kernel_rfl)) ?_
        refine pn_ 18 (some 33) (bt_ 37 524287) (any_of HT_.out (by kernel_rfl)) ?_
        refine pn_ 19 (some 34) (bt_ 37 1048575) (any_of HT_.out (by kernel_rfl)) ?_
        refine pn_ 20 (some 35) (bt_ 37 2097151) (any_of HT_.out (by kernel_rfl)) ?_
        refine pu_ 21 (some 36) (bt_ 37 4194303) (any_of HT_.out (by kernel_rfl)) ?_
        refine pu_ 22 (some 37) (bt_ 37 8388607) (any_of HT_.out (by kernel_rfl)) ?_
        refine pn_ 23 (some 38) (bt_ 37 16777215) (any_of HT_.out (by kernel_rfl)) ?_
        refine pn_ 24 (some 39) (bt_ 37 33554431) (any_of HT_.out (by kernel_rfl)) ?_
        refine pn_ 25 (some 40) (bt_ 37 67108863) (any_of HT_.out (by kernel_rfl)) ?_
        refine pn_ 26 (some 41) (bt_ 37 134217727) (any_of HT_.out (by kernel_rfl)) ?_
        refine pn_ 27 (some 42) (bt_ 37 268435455) (any_of HT_.out (by kernel_rfl)) ?_
        refine pn_ 28 (some 43) (bt_ 37 536870911) (any_of HT_.out (by kernel_rfl)) ?_
        refine pn_ 29 (some 44) (bt_ 37 1073741823) (any_of HT_.out (by kernel_rfl)) ?_
        refine pn_ 30 (some 45) (bt_ 37 2147483647) (any_of HT_.out (by kernel_rfl)) ?_
        refine pn_ 31 (some 46) (bt_ 37 4294967295) (any_of HT_.out (by kernel_rfl)) ?_
        refine pn_ 32 (some 47) (bt_ 37 8589934591) (any_of HT_.out (by kernel_rfl)) ?_
        refine pn_ 33 (some 48) (bt_ 37 17179869183) (any_of HT_.out (by kernel_rfl)) ?_
        refine pn_ 34 (some 49) (bt_ 37 34359738367) (any_of HT_.out (by kernel_rfl)) ?_
        refine pn_ 35 (some 50) (bt_ 37 68719476735) (any_of HT_.out (by kernel_rfl)) ?_
        refine pu_ 36 (some 51) (bt_ 37 137438953471) (any_of HT_.out (by kernel_rfl)) ?_
        refine done_ (done_of HT_.out (by kernel_rfl)) ?_
        try go_wp2
        go_ret
        exact ⟨by first | rfl | (simp [errW_none, errW_some] <;> rfl) | (simp [*, errW_none, errW_some] <;> rfl), by repeat (first | (with_reducible first | exact HB.out | apply below_alloc | apply pw_below_drewN | apply below_drew1 | refine below_set ?_ GE730002.out) | exact HB.out)⟩
      ·replace c7 := Bool.eq_false_iff.mpr c7
       subst c7
       have H1 : (some false) = some r := by rw [if_neg (show ¬ (false = true) by decide)] at H; exact H
       clear H
       have H := H1
       clear H1
       obtain rfl := Option.some.inj H
       have p730001 : 0 ≤ (x3_1 : Int) := of_decide_eq_true (by first | (with_reducible assumption) | assumption)
       have q730001 : x3_1 < (l0.length : Int) := of_decide_eq_true (by first | (with_reducible assumption) | assumption)
       obtain ⟨ad730001, A730001_3, c730001_3, e730001, hx730001_0, hx730001_1, hx730001_2, hx730001_3, hl730001_3, hi730001_3⟩ := at_T108 HR0.out x3_1 p730001 q730001
       cases e730001
       replace hx730001_0 := (HB.out.cell (World.block_lt_of_cell? w _ hx730001_0)).trans hx730001_0
       replace hx730001_1 := (HB.out.cell (World.block_lt_of_cell? w _ hx730001_1)).trans hx730001_1
       replace hx730001_2 := (HB.out.cell (World.block_lt_of_cell? w _ hx730001_2)).trans hx730001_2
       replace hx730001_3 := (HB.out.cell (World.block_lt_of_cell? w _ hx730001_3)).trans hx730001_3
       have HR730001_3 := Aside0.mk hi730001_3
       have HC730001_3 := Aside0.mk hl730001_3
       clear hi730001_3 hl730001_3
       replace p730001 := eq_true p730001
       replace q730001 := eq_true q730001
       try go_wp2_with (first | ((with_reducible refine gate_dst (N := 4) rfl ?_); refine box_event ?hg (N := 4) ?hd (cs := #[.int .i64 0, .int .i64 0, .int .i64 0, .slice none 0 0]) (t := 108) ?hr ?_; (case hd => rfl); (case hg => rfl); (case hr => first | (go_simp; done) | (go_simp; rfl)); intro gb730002 hg w37 hbox hb; have n0_ := Aside0.mk (below_step (by repeat (first | (with_reducible first | exact HB.out | apply below_alloc | apply pw_below_drewN | apply below_drew1) | exact HB.out)) hb); have n1_ := Aside0.mk (hbox); have n2_ := Aside0.mk ((by rw [hg]; exact (below_size (by repeat (first | (with_reducible first | exact HB.out | apply below_alloc | apply pw_below_drewN | apply below_drew1) | exact HB.out))) : w.heap.size ≤ gb730002)); have n3_ := Aside0.mk ((by rw [hg]; exact (below_size (by repeat (first | (with_reducible first | exact HB.out | apply below_alloc | apply pw_below_drewN | apply below_drew1) | exact HB.out))) : w.heap.size ≤ gb730002)); clear HB; have HB := n0_; have BK730002 := n1_; have GW730002 := n2_; have GE730002 := n3_; clear n0_ n1_ n2_ n3_; clear hb hbox hg; have hcz38_0 : w37.cell? ⟨gb730002, 0, none⟩ = some (.int .i64 0) := (blk_cell BK730002.out 0).trans rfl; have hcz38_1 : w37.cell? ⟨gb730002, 1, none⟩ = some (.int .i64 0) := (blk_cell BK730002.out 1).trans rfl; have hcz38_2 : w37.cell? ⟨gb730002, 2, none⟩ = some (.int .i64 0) := (blk_cell BK730002.out 2).trans rfl; have hcz38_3 : w37.cell? ⟨gb730002, 3, none⟩ = some (.slice none 0 0) := (blk_cell BK730002.out 3).trans rfl; have hfz38_0 := blk_frozen BK730002.out 0; have hfz38_1 := blk_frozen BK730002.out 1; have hfz38_2 := blk_frozen BK730002.out 2; have hfz38_3 := blk_frozen BK730002.out 3))
       have n0_ : Aside0 (((((w37.setCell ⟨gb730002, 0, none⟩ (.int .i64 ((rd_T108 l0 x3_1).f0))).setCell ⟨gb730002, 1, none⟩ (.int .i64 ((rd_T108 l0 x3_1).f1))).setCell ⟨gb730002, 2, none⟩ (.int .i64 ((rd_T108 l0 x3_1).f2))).setCell ⟨gb730002, 3, none⟩ (.slice A730001_3 ((rd_T108 l0 x3_1).f3).length c730001_3)).heap[gb730002]? = some (.cells #[.int .i64 ((rd_T108 l0 x3_1).f0), .int .i64 ((rd_T108 l0 x3_1).f1), .int .i64 ((rd_T108 l0 x3_1).f2), .slice A730001_3 ((rd_T108 l0 x3_1).f3).length c730001_3] 108 (0, 0))) := ⟨by (with_reducible repeat (first | refine blk_drewN ?_ _ | refine blk_drew ?_ | refine blk_alloc ?_ _)); refine blk_put (cs := #[.int .i64 ((rd_T108 l0 x3_1).f0), .int .i64 ((rd_T108 l0 x3_1).f1), .int .i64 ((rd_T108 l0 x3_1).f2), .slice none 0 0]) ?_ 3 _ rfl; (with_reducible repeat (first | refine blk_drewN ?_ _ | refine blk_drew ?_ | refine blk_alloc ?_ _)); refine blk_put (cs := #[.int .i64 ((rd_T108 l0 x3_1).f0), .int .i64 ((rd_T108 l0 x3_1).f1), .int .i64 0, .slice none 0 0]) ?_ 2 _ rfl; (with_reducible repeat (first | refine blk_drewN ?_ _ | refine blk_drew ?_ | refine blk_alloc ?_ _)); refine blk_put (cs := #[.int .i64 ((rd_T108 l0 x3_1).f0), .int .i64 0, .int .i64 0, .slice none 0 0]) ?_ 1 _ rfl; (with_reducible repeat (first | refine blk_drewN ?_ _ | refine blk_drew ?_ | refine blk_alloc ?_ _)); refine blk_put (cs := #[.int .i64 0, .int .i64 0, .int .i64 0, .slice none 0 0]) ?_ 0 _ rfl; (with_reducible repeat (first | refine blk_drewN ?_ _ | refine blk_drew ?_ | refine blk_alloc ?_ _)); exact BK730002.out⟩
       have n1_ : Aside0 (Below w.heap.size w ((((w37.setCell ⟨gb730002, 0, none⟩ (.int .i64 ((rd_T108 l0 x3_1).f0))).setCell ⟨gb730002, 1, none⟩ (.int .i64 ((rd_T108 l0 x3_1).f1))).setCell ⟨gb730002, 2, none⟩ (.int .i64 ((rd_T108 l0 x3_1).f2))).setCell ⟨gb730002, 3, none⟩ (.slice A730001_3 ((rd_T108 l0 x3_1).f3).length c730001_3))) := ⟨by repeat (first | (with_reducible first | exact HB.out | apply below_alloc | apply pw_below_drewN | apply below_drew1 | refine below_set ?_ GE730002.out) | exact HB.out)⟩
       (try clear BK730002)
       (try clear HB)
       generalize ((((w37.setCell ⟨gb730002, 0, none⟩ (.int .i64 ((rd_T108 l0 x3_1).f0))).setCell ⟨gb730002, 1, none⟩ (.int .i64 ((rd_T108 l0 x3_1).f1))).setCell ⟨gb730002, 2, none⟩ (.int .i64 ((rd_T108 l0 x3_1).f2))).setCell ⟨gb730002, 3, none⟩ (.slice A730001_3 ((rd_T108 l0 x3_1).f3).length c730001_3)) = w39 at n0_ n1_ ⊢
       have BK730002 := n0_
       have HB := n1_
       clear n0_ n1_
       have n0_ := Aside0.mk (blk_drew BK730002.out)
       have n1_ := Aside0.mk (below_drew1 HB.out)
       clear BK730002
       clear HB
       have BK730002 := n0_
       have HB := n1_
       clear n0_ n1_
       refine start_ (n := 37) (S := fun w' => w'.cell? ⟨gb730002, 0, none⟩ = some (.int .i64 ((rd_T108 l0 x3_1).f0)) ∧ w'.cell? ⟨gb730002, 1, none⟩ = some (.int .i64 ((rd_T108 l0 x3_1).f1)) ∧ w'.cell? ⟨gb730002, 2, none⟩ = some (.int .i64 ((rd_T108 l0 x3_1).f2)) ∧ w'.cell? ⟨gb730002, 3, none⟩ = some (.slice A730001_3 ((rd_T108 l0 x3_1).f3).length c730001_3)) (ds := []) (bt_ 37 0) (by kernel_rfl) rfl rfl ⟨(blk_cell BK730002.out 0).trans rfl, (blk_cell BK730002.out 1).trans rfl, (blk_cell BK730002.out 2).trans rfl, (blk_cell BK730002.out 3).trans rfl⟩ (fun hHeld => ?_); refine with_tabW spec_l3SaidOk.tab5 spec_l3SaidOk.bits5 (fun HT_ HW_ => ?_)
       generalize w39.drew = w40 at BK730002 HB hHeld ⊢
       refine pu_ 0 (some 15) (bt_ 37 1) (any_of HT_.out (by kernel_rfl)) ?_
       refine take_ (i := 1) (N := some 16) (v := ?_) (a' := ?_) (bt_ 37 3) rfl rfl (take_ofW HT_.out HW_.out (by kernel_rfl)) (fun _ _ _ h => h) (Or.inl ⟨by rfl, ?_⟩) hHeld ?_ ?_
       rotate_left
       ·rintro w' ⟨s0, s1, s2, s3⟩
        go_simp
        with_reducible rfl
       rotate_left
       ·simp only [Act.put, List.setIfInBounds_toArray, List.set_cons_zero, List.set_cons_succ, i64_w, i32_w]
        rfl
       refine one_ (i := 2) (N := some 17) (bt_ 37 7) rfl rfl (one_of HT_.out (by kernel_rfl)) (by decide) (fun K hK => ?_)
       refine goes_ Try.func44 (by kernel_rfl) rfl #[.int .i64 ((rd_T108 l0 x3_1).f0), .int .i64 0, .int .i64 2] (by rfl) rfl rfl (by (try simp only [List.map_toArray, List.map_cons, List.map_nil]); first | done | rfl | (simp only [List.length_drop, List.length_take]; rfl)) ?_
       with_reducible refine (spec_l6In.calls ((rd_T108 l0 x3_1).f0) 0 2 true _ A4.out).mono ?_
       rintro e w' ⟨rfl, ⟨nd, rfl⟩⟩
       refine ⟨_, rfl, ?_⟩
       refine hK.out _ _ ⟨(blk_cell BK730002.out 0).trans rfl, (blk_cell BK730002.out 1).trans rfl, (blk_cell BK730002.out 2).trans rfl, (blk_cell BK730002.out 3).trans rfl⟩ (fun hHeld => ?_)
       clear hK K
       refine norm_ (a' := ?_) ?_ ?_
       rotate_left
       ·show Act.put _ (some 17) _ = _
        simp only [Act.put, List.setIfInBounds_toArray, List.set_cons_zero, List.set_cons_succ, i64_w, i32_w]
        rfl
       refine pu_ 3 (some 18) (bt_ 37 15) (any_of HT_.out (by kernel_rfl)) ?_
       refine pu_ 4 (some 19) (bt_ 37 31) (any_of HT_.out (by kernel_rfl)) ?_
       refine pu_ 5 (some 20) (bt_ 37 63) (any_of HT_.out (by kernel_rfl)) ?_
       refine take_ (i := 6) (N := some 21) (v := ?_) (a' := ?_) (bt_ 37 127) rfl rfl (take_ofW HT_.out HW_.out (by kernel_rfl)) (fun _ _ _ h => h) (Or.inl ⟨by rfl, ?_⟩) hHeld ?_ ?_
       rotate_left
       ·rintro w' ⟨s0, s1, s2, s3⟩
        go_simp
        with_reducible rfl
       rotate_left
       ·simp only [Act.put, List.setIfInBounds_toArray, List.set_cons_zero, List.set_cons_succ, i64_w, i32_w]
        rfl
       refine one_ (i := 7) (N := some 22) (bt_ 37 255) rfl rfl (one_of HT_.out (by kernel_rfl)) (by decide) (fun K hK => ?_)
       refine goes_ Try.func44 (by kernel_rfl) rfl #[.int .i64 ((rd_T108 l0 x3_1).f1), .int .i64 1, .int .i64 99] (by rfl) rfl rfl (by (try simp only [List.map_toArray, List.map_cons, List.map_nil]); first | done | rfl | (simp only [List.length_drop, List.length_take]; rfl)) ?_
       with_reducible refine (spec_l6In.calls ((rd_T108 l0 x3_1).f1) 1 99 false _ A6.out).mono ?_
       rintro e w' ⟨rfl, ⟨nd, rfl⟩⟩
       refine ⟨_, rfl, ?_⟩
       refine hK.out _ _ ⟨(blk_cell BK730002.out 0).trans rfl, (blk_cell BK730002.out 1).trans rfl, (blk_cell BK730002.out 2).trans rfl, (blk_cell BK730002.out 3).trans rfl⟩ (fun hHeld => ?_)
       clear hK K
       refine norm_ (a' := ?_) ?_ ?_
       rotate_left
       ·show Act.put _ (some 22) _ = _
        simp only [Act.put, List.setIfInBounds_toArray, List.set_cons_zero, List.set_cons_succ, i64_w, i32_w]
        rfl
       refine pu_ 8 (some 23) (bt_ 37 511) (any_of HT_.out (by kernel_rfl)) ?_
       refine pu_ 9 (some 24) (bt_ 37 1023) (any_of HT_.out (by kernel_rfl)) ?_
       refine pu_ 10 (some 25) (bt_ 37 2047) (any_of HT_.out (by kernel_rfl)) ?_
       refine pn_ 11 (some 26) (bt_ 37 4095) (any_of HT_.out (by kernel_rfl)) ?_
       refine pn_ 12 (some 27) (bt_ 37 8191) (any_of HT_.out (by kernel_rfl)) ?_
       refine pn_ 13 (some 28) (bt_ 37 16383) (any_of HT_.out (by kernel_rfl)) ?_
       refine pn_ 14 (some 29) (bt_ 37 32767) (any_of HT_.out (by kernel_rfl)) ?_
       refine pu_ 15 (some 30) (bt_ 37 65535) (any_of HT_.out (by kernel_rfl)) ?_
       refine pu_ 16 (some 31) (bt_ 37 131071) (any_of HT_.out (by kernel_rfl)) ?_
       refine pn_ 17 (some 32) (bt_ 37 262143) (any_of HT_.out (by kernel_rfl)) ?_
       refine pn_ 18 (some 33) (bt_ 37 524287) (any_of HT_.out (by kernel_rfl)) ?_
       refine pn_ 19 (some 34) (bt_ 37 1048575) (any_of HT_.out (by kernel_rfl)) ?_
       refine pn_ 20 (some 35) (bt_ 37 2097151) (any_of HT_.out (by kernel_rfl)) ?_
       refine pu_ 21 (some 36) (bt_ 37 4194303) (any_of HT_.out (by kernel_rfl)) ?_
       refine pu_ 22 (some 37) (bt_ 37 8388607) (any_of HT_.out (by kernel_rfl)) ?_
       refine pn_ 23 (some 38) (bt_ 37 16777215) (any_of HT_.out (by kernel_rfl)) ?_
       refine pn_ 24 (some 39) (bt_ 37 33554431) (any_of HT_.out (by kernel_rfl)) ?_
       refine pn_ 25 (some 40) (bt_ 37 67108863) (any_of HT_.out (by kernel_rfl)) ?_
       refine pn_ 26 (some 41) (bt_ 37 134217727) (any_of HT_.out (by kernel_rfl)) ?_
       refine pn_ 27 (some 42) (bt_ 37 268435455) (any_of HT_.out (by kernel_rfl)) ?_
       refine pn_ 28 (some 43) (bt_ 37 536870911) (any_of HT_.out (by kernel_rfl)) ?_
       refine pn_ 29 (some 44) (bt_ 37 1073741823) (any_of HT_.out (by kernel_rfl)) ?_
       refine pn_ 30 (some 45) (bt_ 37 2147483647) (any_of HT_.out (by kernel_rfl)) ?_
       refine pn_ 31 (some 46) (bt_ 37 4294967295) (any_of HT_.out (by kernel_rfl)) ?_
       refine pn_ 32 (some 47) (bt_ 37 8589934591) (any_of HT_.out (by kernel_rfl)) ?_
       refine pn_ 33 (some 48) (bt_ 37 17179869183) (any_of HT_.out (by kernel_rfl)) ?_
       refine pn_ 34 (some 49) (bt_ 37 34359738367) (any_of HT_.out (by kernel_rfl)) ?_
       refine pn_ 35 (some 50) (bt_ 37 68719476735) (any_of HT_.out (by kernel_rfl)) ?_
       refine pu_ 36 (some 51) (bt_ 37 137438953471) (any_of HT_.out (by kernel_rfl)) ?_
       refine done_ (done_of HT_.out (by kernel_rfl)) ?_
       try go_wp2
       go_ret
       exact ⟨by first | rfl | (simp [errW_none, errW_some] <;> rfl) | (simp [*, errW_none, errW_some] <;> rfl), by repeat (first | (with_reducible first | exact HB.out | apply below_alloc | apply pw_below_drewN | apply below_drew1 | refine below_set ?_ GE730002.out) | exact HB.out)⟩
     ·replace c5 := Bool.eq_false_iff.mpr c5
      subst c5
      have H1 : (some false) = some r := by rw [if_neg (show ¬ (false = true) by decide)] at H; exact H
      clear H
      have H := H1
      clear H1
      obtain rfl := Option.some.inj H
      have p730001 : 0 ≤ (x3_1 : Int) := of_decide_eq_true (by first | (with_reducible assumption) | assumption)
      have q730001 : x3_1 < (l0.length : Int) := of_decide_eq_true (by first | (with_reducible assumption) | assumption)
      obtain ⟨ad730001, A730001_3, c730001_3, e730001, hx730001_0, hx730001_1, hx730001_2, hx730001_3, hl730001_3, hi730001_3⟩ := at_T108 HR0.out x3_1 p730001 q730001
      cases e730001
      replace hx730001_0 := (HB.out.cell (World.block_lt_of_cell? w _ hx730001_0)).trans hx730001_0
      replace hx730001_1 := (HB.out.cell (World.block_lt_of_cell? w _ hx730001_1)).trans hx730001_1
      replace hx730001_2 := (HB.out.cell (World.block_lt_of_cell? w _ hx730001_2)).trans hx730001_2
      replace hx730001_3 := (HB.out.cell (World.block_lt_of_cell? w _ hx730001_3)).trans hx730001_3
      have HR730001_3 := Aside0.mk hi730001_3
      have HC730001_3 := Aside0.mk hl730001_3
      clear hi730001_3 hl730001_3
      replace p730001 := eq_true p730001
      replace q730001 := eq_true q730001
      try go_wp2_with (first | ((with_reducible refine gate_dst (N := 4) rfl ?_); refine box_event ?hg (N := 4) ?hd (cs := #[.int .i64 0, .int .i64 0, .int .i64 0, .slice none 0 0]) (t := 108) ?hr ?_; (case hd => rfl); (case hg => rfl); (case hr => first | (go_simp; done) | (go_simp; rfl)); intro gb730002 hg w41 hbox hb; have n0_ := Aside0.mk (below_step (by repeat (first | (with_reducible first | exact HB.out | apply below_alloc | apply pw_below_drewN | apply below_drew1) | exact HB.out)) hb); have n1_ := Aside0.mk (hbox); have n2_ := Aside0.mk ((by rw [hg]; exact (below_size (by repeat (first | (with_reducible first | exact HB.out | apply below_alloc | apply pw_below_drewN | apply below_drew1) | exact HB.out))) : w.heap.size ≤ gb730002)); have n3_ := Aside0.mk ((by rw [hg]; exact (below_size (by repeat (first | (with_reducible first | exact HB.out | apply below_alloc | apply pw_below_drewN | apply below_drew1) | exact HB.out))) : w.heap.size ≤ gb730002)); clear HB; have HB := n0_; have BK730002 := n1_; have GW730002 := n2_; have GE730002 := n3_; clear n0_ n1_ n2_ n3_; clear hb hbox hg; have hcz42_0 : w41.cell? ⟨gb730002, 0, none⟩ = some (.int .i64 0) := (blk_cell BK730002.out 0).trans rfl; have hcz42_1 : w41.cell? ⟨gb730002, 1, none⟩ = some (.int .i64 0) := (blk_cell BK730002.out 1).trans rfl; have hcz42_2 : w41.cell? ⟨gb730002, 2, none⟩ = some (.int .i64 0) := (blk_cell BK730002.out 2).trans rfl; have hcz42_3 : w41.cell? ⟨gb730002, 3, none⟩ = some (.slice none 0 0) := (blk_cell BK730002.out 3).trans rfl; have hfz42_0 := blk_frozen BK730002.out 0; have hfz42_1 := blk_frozen BK730002.out 1; have hfz42_2 := blk_frozen BK730002.out 2; have hfz42_3 := blk_frozen BK730002.out 3))
      have n0_ : Aside0 (((((w41.setCell ⟨gb730002, 0, none⟩ (.int .i64 ((rd_T108 l0 x3_1).f0))).setCell ⟨gb730002, 1, none⟩ (.int .i64 ((rd_T108 l0 x3_1).f1))).setCell ⟨gb730002, 2, none⟩ (.int .i64 ((rd_T108 l0 x3_1).f2))).setCell ⟨gb730002, 3, none⟩ (.slice A730001_3 ((rd_T108 l0 x3_1).f3).length c730001_3)).heap[gb730002]? = some (.cells #[.int .i64 ((rd_T108 l0 x3_1).f0), .int .i64 ((rd_T108 l0 x3_1).f1), .int .i64 ((rd_T108 l0 x3_1).f2), .slice A730001_3 ((rd_T108 l0 x3_1).f3).length c730001_3] 108 (0, 0))) := ⟨by (with_reducible repeat (first | refine blk_drewN ?_ _ | refine blk_drew ?_ | refine blk_alloc ?_ _)); refine blk_put (cs := #[.int .i64 ((rd_T108 l0 x3_1).f0), .int .i64 ((rd_T108 l0 x3_1).f1), .int .i64 ((rd_T108 l0 x3_1).f2), .slice none 0 0]) ?_ 3 _ rfl; (with_reducible repeat (first | refine blk_drewN ?_ _ | refine blk_drew ?_ | refine blk_alloc ?_ _)); refine blk_put (cs := #[.int .i64 ((rd_T108 l0 x3_1).f0), .int .i64 ((rd_T108 l0 x3_1).f1), .int .i64 0, .slice none 0 0]) ?_ 2 _ rfl; (with_reducible repeat (first | refine blk_drewN ?_ _ | refine blk_drew ?_ | refine blk_alloc ?_ _)); refine blk_put (cs := #[.int .i64 ((rd_T108 l0 x3_1).f0), .int .i64 0, .int .i64 0, .slice none 0 0]) ?_ 1 _ rfl; (with_reducible repeat (first | refine blk_drewN ?_ _ | refine blk_drew ?_ | refine blk_alloc ?_ _)); refine blk_put (cs := #[.int .i64 0, .int .i64 0, .int .i64 0, .slice none 0 0]) ?_ 0 _ rfl; (with_reducible repeat (first | refine blk_drewN ?_ _ | refine blk_drew ?_ | refine blk_alloc ?_ _)); exact BK730002.out⟩
      have n1_ : Aside0 (Below w.heap.size w ((((w41.setCell ⟨gb730002, 0, none⟩ (.int .i64 ((rd_T108 l0 x3_1).f0))).setCell ⟨gb730002, 1, none⟩ (.int .i64 ((rd_T108 l0 x3_1).f1))).setCell ⟨gb730002, 2, none⟩ (.int .i64 ((rd_T108 l0 x3_1).f2))).setCell ⟨gb730002, 3, none⟩ (.slice A730001_3 ((rd_T108 l0 x3_1).f3).length c730001_3))) := ⟨by repeat (first | (with_reducible first | exact HB.out | apply below_alloc | apply pw_below_drewN | apply below_drew1 | refine below_set ?_ GE730002.out) | exact HB.out)⟩
      (try clear BK730002)
      (try clear HB)
      generalize ((((w41.setCell ⟨gb730002, 0, none⟩ (.int .i64 ((rd_T108 l0 x3_1).f0))).setCell ⟨gb730002, 1, none⟩ (.int .i64 ((rd_T108 l0 x3_1).f1))).setCell ⟨gb730002, 2, none⟩ (.int .i64 ((rd_T108 l0 x3_1).f2))).setCell ⟨gb730002, 3, none⟩ (.slice A730001_3 ((rd_T108 l0 x3_1).f3).length c730001_3)) = w43 at n0_ n1_ ⊢
      have BK730002 := n0_
      have HB := n1_
      clear n0_ n1_
      have n0_ := Aside0.mk (blk_drew BK730002.out)
      have n1_ := Aside0.mk (below_drew1 HB.out)
      clear BK730002
      clear HB
      have BK730002 := n0_
      have HB := n1_
      clear n0_ n1_
      refine start_ (n := 37) (S := fun w' => w'.cell? ⟨gb730002, 0, none⟩ = some (.int .i64 ((rd_T108 l0 x3_1).f0)) ∧ w'.cell? ⟨gb730002, 1, none⟩ = some (.int .i64 ((rd_T108 l0 x3_1).f1)) ∧ w'.cell? ⟨gb730002, 2, none⟩ = some (.int .i64 ((rd_T108 l0 x3_1).f2)) ∧ w'.cell? ⟨gb730002, 3, none⟩ = some (.slice A730001_3 ((rd_T108 l0 x3_1).f3).length c730001_3)) (ds := []) (bt_ 37 0) (by kernel_rfl) rfl rfl ⟨(blk_cell BK730002.out 0).trans rfl, (blk_cell BK730002.out 1).trans rfl, (blk_cell BK730002.out 2).trans rfl, (blk_cell BK730002.out 3).trans rfl⟩ (fun hHeld => ?_); refine with_tabW spec_l3SaidOk.tab5 spec_l3SaidOk.bits5 (fun HT_ HW_ => ?_)
      generalize w43.drew = w44 at BK730002 HB hHeld ⊢
      refine pu_ 0 (some 15) (bt_ 37 1) (any_of HT_.out (by kernel_rfl)) ?_
      refine take_ (i := 1) (N := some 16) (v := ?_) (a' := ?_) (bt_ 37 3) rfl rfl (take_ofW HT_.out HW_.out (by kernel_rfl)) (fun _ _ _ h => h) (Or.inl ⟨by rfl, ?_⟩) hHeld ?_ ?_
      rotate_left
      ·rintro w' ⟨s0, s1, s2, s3⟩
       go_simp
       with_reducible rfl
      rotate_left
      ·simp only [Act.put, List.setIfInBounds_toArray, List.set_cons_zero, List.set_cons_succ, i64_w, i32_w]
       rfl
      refine one_ (i := 2) (N := some 17) (bt_ 37 7) rfl rfl (one_of HT_.out (by kernel_rfl)) (by decide) (fun K hK => ?_)
      refine goes_ Try.func44 (by kernel_rfl) rfl #[.int .i64 ((rd_T108 l0 x3_1).f0), .int .i64 0, .int .i64 2] (by rfl) rfl rfl (by (try simp only [List.map_toArray, List.map_cons, List.map_nil]); first | done | rfl | (simp only [List.length_drop, List.length_take]; rfl)) ?_
      with_reducible refine (spec_l6In.calls ((rd_T108 l0 x3_1).f0) 0 2 false _ A4.out).mono ?_
      rintro e w' ⟨rfl, ⟨nd, rfl⟩⟩
      refine ⟨_, rfl, ?_⟩
      refine hK.out _ _ ⟨(blk_cell BK730002.out 0).trans rfl, (blk_cell BK730002.out 1).trans rfl, (blk_cell BK730002.out 2).trans rfl, (blk_cell BK730002.out 3).trans rfl⟩ (fun hHeld => ?_)
      clear hK K
      refine norm_ (a' := ?_) ?_ ?_
      rotate_left
      ·show Act.put _ (some 17) _ = _
       simp only [Act.put, List.setIfInBounds_toArray, List.set_cons_zero, List.set_cons_succ, i64_w, i32_w]
       rfl
      refine pu_ 3 (some 18) (bt_ 37 15) (any_of HT_.out (by kernel_rfl)) ?_
      refine pu_ 4 (some 19) (bt_ 37 31) (any_of HT_.out (by kernel_rfl)) ?_
      refine pn_ 5 (some 20) (bt_ 37 63) (any_of HT_.out (by kernel_rfl)) ?_
      refine pn_ 6 (some 21) (bt_ 37 127) (any_of HT_.out (by kernel_rfl)) ?_
      refine pn_ 7 (some 22) (bt_ 37 255) (any_of HT_.out (by kernel_rfl)) ?_
      refine pn_ 8 (some 23) (bt_ 37 511) (any_of HT_.out (by kernel_rfl)) ?_
      refine pu_ 9 (some 24) (bt_ 37 1023) (any_of HT_.out (by kernel_rfl)) ?_
      refine pu_ 10 (some 25) (bt_ 37 2047) (any_of HT_.out (by kernel_rfl)) ?_
      refine pn_ 11 (some 26) (bt_ 37 4095) (any_of HT_.out (by kernel_rfl)) ?_
      refine pn_ 12 (some 27) (bt_ 37 8191) (any_of HT_.out (by kernel_rfl)) ?_
      refine pn_ 13 (some 28) (bt_ 37 16383) (any_of HT_.out (by kernel_rfl)) ?_
      refine pn_ 14 (some 29) (bt_ 37 32767) (any_of HT_.out (by kernel_rfl)) ?_
      refine pu_ 15 (some 30) (bt_ 37 65535) (any_of HT_.out (by kernel_rfl)) ?_
      refine pu_ 16 (some 31) (bt_ 37 131071) (any_of HT_.out (by kernel_rfl)) ?_
      refine pn_ 17 (some 32) (bt_ 37 262143) (any_of HT_.out (by kernel_rfl)) ?_
      refine pn_ 18 (some 33) (bt_ 37 524287) (any_of HT_.out (by kernel_rfl)) ?_
      refine pn_ 19 (some 34) (bt_ 37 1048575) (any_of HT_.out (by kernel_rfl)) ?_
      refine pn_ 20 (some 35) (bt_ 37 2097151) (any_of HT_.out (by kernel_rfl)) ?_
      refine pu_ 21 (some 36) (bt_ 37 4194303) (any_of HT_.out (by kernel_rfl)) ?_
      refine pu_ 22 (some 37) (bt_ 37 8388607) (any_of HT_.out (by kernel_rfl)) ?_
      refine pn_ 23 (some 38) (bt_ 37 16777215) (any_of HT_.out (by kernel_rfl)) ?_
      refine pn_ 24 (some 39) (bt_ 37 33554431) (any_of HT_.out (by kernel_rfl)) ?_
      refine pn_ 25 (some 40) (bt_ 37 67108863) (any_of HT_.out (by kernel_rfl)) ?_
      refine pn_ 26 (some 41) (bt_ 37 134217727) (any_of HT_.out (by kernel_rfl)) ?_
      refine pn_ 27 (some 42) (bt_ 37 268435455) (any_of HT_.out (by kernel_rfl)) ?_
      refine pn_ 28 (some 43) (bt_ 37 536870911) (any_of HT_.out (by kernel_rfl)) ?_
      refine pn_ 29 (some 44) (bt_ 37 1073741823) (any_of HT_.out (by kernel_rfl)) ?_
      refine pn_ 30 (some 45) (bt_ 37 2147483647) (any_of HT_.out (by kernel_rfl)) ?_
      refine pn_ 31 (some 46) (bt_ 37 4294967295) (any_of HT_.out (by kernel_rfl)) ?_
      refine pn_ 32 (some 47) (bt_ 37 8589934591) (any_of HT_.out (by kernel_rfl)) ?_
      refine pn_ 33 (some 48) (bt_ 37 17179869183) (any_of HT_.out (by kernel_rfl)) ?_
      refine pn_ 34 (some 49) (bt_ 37 34359738367) (any_of HT_.out (by kernel_rfl)) ?_
      refine pn_ 35 (some 50) (bt_ 37 68719476735) (any_of HT_.out (by kernel_rfl)) ?_
      refine pu_ 36 (some 51) (bt_ 37 137438953471) (any_of HT_.out (by kernel_rfl)) ?_
      refine done_ (done_of HT_.out (by kernel_rfl)) ?_
      try go_wp2
      go_ret
      exact ⟨by first | rfl | (simp [errW_none, errW_some] <;> rfl) | (simp [*, errW_none, errW_some] <;> rfl), by repeat (first | (with_reducible first | exact HB.out | apply below_alloc | apply pw_below_drewN | apply below_drew1 | refine below_set ?_ GE730002.out) | exact HB.out)⟩
    ·rw [if_neg c3] at H
     exact absurd H (by simp)
   ·rw [if_neg c2] at H
    have c2b0 : decide (x3_1 < (l0.length : Int)) = false := decide_eq_false c2
    clear c2
    obtain rfl := Option.some.inj H
    go_wp2
    go_ret
    exact ⟨by first | rfl | (simp [errW_none, errW_some] <;> rfl) | (simp [*, errW_none, errW_some] <;> rfl), by repeat (first | (with_reducible first | exact HB.out | apply below_alloc | apply pw_below_drewN | apply below_drew1) | exact HB.out)⟩

end Go.Proofs.Ytdjiclhjficgfaa.PB
