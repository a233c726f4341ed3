import Derived.Test.YtbjdnfgalopfiaaPEx0
import Derived.Test.YtbjdnfgalopfiaaPEx31
namespace Go.Proofs.Ytbjdnfgalopfiaa.PE
open Go.RowKit Go.Proofs.YtbjdnfgalopfiaaW.PrintWords Go.Proofs.YtbjdnfgalopfiaaW.PrintLast Go.Proofs.YtbjdnfgalopfiaaW.PrintMore
attribute [local go_sem] max2_int min2_int max_two min_two max_three min_three max_four min_four
set_option linter.unusedVariables false
set_option linter.unusedSimpArgs false

def impl_pairsOk.l0 : Nat → List (S68) → List (S68) → Int → Int → Option (Bool)
 | 0, _, _, _, _ => none
 | k + 1, x0, x8, x9, x10 => if x10 < x9 then (if 0 ≤ x10 then (if x10 < (x8.length : Int) then ((impl_isKey.f ((rd_T68 x8 x10).f0)).bind fun t360003 => (if t360003 = true then ((impl_isVal.f ((rd_T68 x8 x10).f1)).bind fun t360004 => (if t360004 = true then (if x10 > 0 then (if 0 ≤ (wrap64 (x10 - 1)) then (if (wrap64 (x10 - 1)) < (x0.length : Int) then (if ((rd_T68 x0 (wrap64 (x10 - 1))).f0) ≥ ((rd_T68 x8 x10).f0) then (some false) else (impl_pairsOk.l0 k x0 x8 x9 (wrap64 (x10 + 1)))) else (none)) else (none)) else (impl_pairsOk.l0 k x0 x8 x9 (wrap64 (x10 + 1)))) else (some false))) else (some false))) else (none)) else (none)) else (some true)
def impl_pairsOk.f (k : Nat) (l0 : List (S68)) : Option (Bool) := if (l0.length : Int) > 32 then (some false) else (impl_pairsOk.l0 k l0 l0 (l0.length : Int) 0)
theorem impl_pairsOk.mono_l : ∀ k, (∀ y0 y1 y2 y3, LeO (impl_pairsOk.l0 k y0 y1 y2 y3) (impl_pairsOk.l0 (k + 1) y0 y1 y2 y3))
 | 0 => fun _ _ _ _ r h => by simp [impl_pairsOk.l0] at h
 | k + 1 => by
  have ih0 := impl_pairsOk.mono_l k
  ·intro y0 y1 y2 y3
   unfold impl_pairsOk.l0
   repeat' first
   | (with_reducible exact ih0 _ _ _ _)
   | (with_reducible exact LeO.refl _)
   | (with_reducible exact LeO.none _)
   | (with_reducible refine LeO.ite ?_ ?_)
   | (with_reducible refine LeO.bind ?_ (fun _ => ?_))
   | exact ih0 _ _ _ _
   | exact LeO.none _
   | refine LeO.ite ?_ ?_
   | refine LeO.bind ?_ (fun _ => ?_)
theorem impl_pairsOk.mono : ∀ a0 k, LeO (impl_pairsOk.f k a0) (impl_pairsOk.f (k + 1) a0) := by
 intro a0 k
 have ih0 := impl_pairsOk.mono_l k
 unfold impl_pairsOk.f
 repeat' first
  | (with_reducible exact ih0 _ _ _ _)
  | (with_reducible exact LeO.refl _)
  | (with_reducible exact LeO.none _)
  | (with_reducible refine LeO.ite ?_ ?_)
  | (with_reducible refine LeO.bind ?_ (fun _ => ?_))
  | exact ih0 _ _ _ _
  | exact LeO.none _
  | refine LeO.ite ?_ ?_
  | refine LeO.bind ?_ (fun _ => ?_)
set_option maxHeartbeats 8000000 in
set_option maxRecDepth 100000 in
theorem impl_pairsOk.calls (k : Nat) (A0 : Option Addr) (c0 : Nat) (l0 : List (S68)) (r : Bool) (w : World) (hr0 : Kd.C k68 w A0 l0.length l0) (hc0 : l0.length ≤ c0) (h : impl_pairsOk.f k l0 = some r) :
 Calls Try.prog 35 #[.slice A0 l0.length c0] w fun e w' => e = .returned (.bool r) ∧ Below w.heap.size w w' := by
 have hu68 := Try.underlying68
 have HR0 := Aside0.mk hr0
 have HC0 := Aside0.mk hc0
 clear hr0 hc0
 have HB := Aside0.mk (Below.refl w.heap.size w)
 have H : (if (l0.length : Int) > 32 then (some false) else (impl_pairsOk.l0 k l0 l0 (l0.length : Int) 0)) = some r := h
 clear h
 by_cases c2 : (l0.length : Int) > 32
 ·rw [if_pos c2] at H
  have c2b0 : decide (32 < (l0.length : Int)) = true := decide_eq_true c2
  have c2b1 : decide (32 < l0.length) = true := decide_eq_true (by omega)
  clear c2
  obtain rfl := Option.some.inj H
  go_enter Try.func35, Try.ntmps35
  go_wp2
  repeat (go_quiet (fail); try go_wp2)
  go_ret
  exact ⟨by first | rfl | (simp [errW_none, errW_some] <;> rfl) | (simp [*, errW_none, errW_some] <;> rfl), by repeat (first | (with_reducible first | exact HB.out | apply below_alloc | apply pw_below_drewN | apply below_drew1) | exact HB.out)⟩
 ·rw [if_neg c2] at H
  have c2b0 : decide (32 < (l0.length : Int)) = false := decide_eq_false c2
  have c2b1 : decide (32 < l0.length) = false := decide_eq_false (by omega)
  clear c2
  have H' := Aside0.mk H
  clear H
  go_enter Try.func35, Try.ntmps35
  go_wp2
  repeat (go_quiet (fail); try go_wp2)
  go_loopg [10] k (fun kq v10 w' => ∃ (x10_1 : Int), v10 = .int .i64 x10_1 ∧ Aside0 (impl_pairsOk.l0 kq l0 l0 (l0.length : Int) x10_1 = some r) ∧ Aside0 (kq ≤ k) ∧ Aside0 (Below w.heap.size w w'))
  case atStart => exact ⟨(0), (by first | rfl | (simp; done) | (simp [*]; done)), H', ⟨Nat.le_refl _⟩, ⟨hb_ HB.out⟩⟩
  case round =>
   clear H'
   try clear c2
   try clear c2b0
   try clear c2b1
   try clear p2
   obtain ⟨x10_1, rfl, HA, HK1, HB⟩ := hrel
   cases gk with
   | zero => exact absurd HA.out (by simp [impl_pairsOk.l0])
   | succ k1 =>
    have H := HA.out
    clear HA
    simp only [impl_pairsOk.l0] at H
    by_cases c3 : x10_1 < (l0.length : Int)
    ·rw [if_pos c3] at H
     have c3b0 : decide (x10_1 < (l0.length : Int)) = true := decide_eq_true c3
     clear c3
     by_cases c4 : 0 ≤ x10_1
     ·rw [if_pos c4] at H
      have c4b0 : decide (0 ≤ x10_1) = true := decide_eq_true c4
      clear c4
      by_cases c5 : x10_1 < (l0.length : Int)
      ·rw [if_pos c5] at H
       have c5b0 : decide (x10_1 < (l0.length : Int)) = true := decide_eq_true c5
       clear c5
       replace H := Option.bind_eq_some_iff.mp H
       obtain ⟨jv, A60, H⟩ := H
       replace H : (if jv = true then ((impl_isVal.f ((rd_T68 l0 x10_1).f1)).bind fun js => (if js = true then (if x10_1 > 0 then (if 0 ≤ (wrap64 (x10_1 - 1)) then (if (wrap64 (x10_1 - 1)) < (l0.length : Int) then (if ((rd_T68 l0 (wrap64 (x10_1 - 1))).f0) ≥ ((rd_T68 l0 x10_1).f0) then (some false) else (impl_pairsOk.l0 k1 l0 l0 (l0.length : Int) (wrap64 (x10_1 + 1)))) else (none)) else (none)) else (impl_pairsOk.l0 k1 l0 l0 (l0.length : Int) (wrap64 (x10_1 + 1)))) else (some false))) else (some false)) = some r := H
       have A6 := Aside0.mk A60
       clear A60
       by_cases c7 : jv = true
       ·subst c7
        have H1 : ((impl_isVal.f ((rd_T68 l0 x10_1).f1)).bind fun js => (if js = true then (if x10_1 > 0 then (if 0 ≤ (wrap64 (x10_1 - 1)) then (if (wrap64 (x10_1 - 1)) < (l0.length : Int) then (if ((rd_T68 l0 (wrap64 (x10_1 - 1))).f0) ≥ ((rd_T68 l0 x10_1).f0) then (some false) else (impl_pairsOk.l0 k1 l0 l0 (l0.length : Int) (wrap64 (x10_1 + 1)))) else (none)) else (none)) else (impl_pairsOk.l0 k1 l0 l0 (l0.length : Int) (wrap64 (x10_1 + 1)))) else (some false))) = some r := by rw [if_pos rfl] at H; exact H
        clear H
        have H := H1
        clear H1
        replace H := Option.bind_eq_some_iff.mp H
        obtain ⟨js, A80, H⟩ := H
        replace H : (if js = true then (if x10_1 > 0 then (if 0 ≤ (wrap64 (x10_1 - 1)) then (if (wrap64 (x10_1 - 1)) < (l0.length : Int) then (if ((rd_T68 l0 (wrap64 (x10_1 - 1))).f0) ≥ ((rd_T68 l0 x10_1).f0) then (some false) else (impl_pairsOk.l0 k1 l0 l0 (l0.length : Int) (wrap64 (x10_1 + 1)))) else (none)) else (none)) else (impl_pairsOk.l0 k1 l0 l0 (l0.length : Int) (wrap64 (x10_1 + 1)))) else (some false)) = some r := H
        have A8 := Aside0.mk A80
        clear A80
        by_cases c9 : js = true
        ·subst c9
         have H1 : (if x10_1 > 0 then (if 0 ≤ (wrap64 (x10_1 - 1)) then (if (wrap64 (x10_1 - 1)) < (l0.length : Int) then (if ((rd_T68 l0 (wrap64 (x10_1 - 1))).f0) ≥ ((rd_T68 l0 x10_1).f0) then (some false) else (impl_pairsOk.l0 k1 l0 l0 (l0.length : Int) (wrap64 (x10_1 + 1)))) else (none)) else (none)) else (impl_pairsOk.l0 k1 l0 l0 (l0.length : Int) (wrap64 (x10_1 + 1)))) = some r := by rw [if_pos rfl] at H; exact H
         clear H
         have H := H1
         clear H1
         by_cases c10 : x10_1 > 0
         ·rw [if_pos c10] at H
          have c10b0 : decide (0 < x10_1) = true := decide_eq_true c10
          clear c10
          obtain ⟨ji11, hji11⟩ : ∃ j_ : Int, (wrap64 (x10_1 - 1)) = j_ := ⟨_, rfl⟩
          replace H : (if 0 ≤ (ji11) then (if (ji11) < (l0.length : Int) then (if ((rd_T68 l0 (ji11)).f0) ≥ ((rd_T68 l0 x10_1).f0) then (some false) else (impl_pairsOk.l0 k1 l0 l0 (l0.length : Int) (wrap64 (x10_1 + 1)))) else (none)) else (none)) = some r := by first | (rw [hji11] at H; exact H) | (simp only [hji11] at H ⊢; exact H)
          (try rw [hji11] at A6)
          (try rw [hji11] at A8)
          have hji11w : (IntKind.i64.wrap (x10_1 - 1)) = ji11 := (i64_w _).trans hji11
          by_cases c12 : 0 ≤ (ji11)
          ·rw [if_pos c12] at H
           have c12b0 : decide (0 ≤ (ji11)) = true := decide_eq_true c12
           clear c12
           by_cases c13 : (ji11) < (l0.length : Int)
           ·rw [if_pos c13] at H
            have c13b0 : decide ((ji11) < (l0.length : Int)) = true := decide_eq_true c13
            clear c13
            by_cases c14 : ((rd_T68 l0 (ji11)).f0) ≥ ((rd_T68 l0 x10_1).f0)
            ·rw [if_pos c14] at H
             have c14b0 : decide (((rd_T68 l0 x10_1).f0) ≤ ((rd_T68 l0 (ji11)).f0)) = true := decide_eq_true c14
             clear c14
             obtain rfl := Option.some.inj H
             have jl : 0 ≤ (x10_1 : Int) := of_decide_eq_true (by first | (with_reducible assumption) | assumption)
             have jn : x10_1 < (l0.length : Int) := of_decide_eq_true (by first | (with_reducible assumption) | assumption)
             obtain ⟨jj, jr, jm, jk⟩ := at_T68 HR0.out x10_1 jl jn
             cases jr
             replace jm := (HB.out.cell (World.block_lt_of_cell? w _ jm)).trans jm
             replace jk := (HB.out.cell (World.block_lt_of_cell? w _ jk)).trans jk
             replace jl := eq_true jl
             replace jn := eq_true jn
             go_wp2_with (first | ((with_reducible refine gate_dst (N := 4) rfl ?_); refine box_event ?hg (N := 4) ?hd (cs := #[.int .i64 0, .int .i64 0]) (t := 68) ?hr ?_; (case hd => rfl); (case hg => rfl); (case hr => first | (go_simp; done) | (go_simp; rfl)); intro ja hg w15 hbox hb; have n0_ := Aside0.mk (below_step (hb_ HB.out) hb); have n1_ := Aside0.mk (hbox); have n2_ := Aside0.mk ((by rw [hg]; exact (below_size (hb_ HB.out)) : w.heap.size ≤ ja)); have n3_ := Aside0.mk ((by rw [hg]; exact (below_size (hb_ HB.out)) : w.heap.size ≤ ja)); clear HB; have HB := n0_; have jb := n1_; have jg := n2_; have jo := n3_; clear n0_ n1_ n2_ n3_; clear hb hbox hg; have hcz16_0 : w15.cell? ⟨ja, 0, none⟩ = some (.int .i64 0) := (blk_cell jb.out 0).trans rfl; have hcz16_1 : w15.cell? ⟨ja, 1, none⟩ = some (.int .i64 0) := (blk_cell jb.out 1).trans rfl; have hfz16_0 := blk_frozen jb.out 0; have hfz16_1 := blk_frozen jb.out 1) | (go_at_call 55; (with_reducible refine (impl_isKey.calls ((rd_T68 l0 x10_1).f0) true _ A6.out).mono ?_); rintro e w' ⟨rfl, ⟨nd, rfl⟩⟩; (try first | exact ⟨rfl, _, World.drewN_drewN _ _ _⟩ | exact ⟨rfl, _, Eq.trans (World.drewN_drewN _ _ _) (congrArg (World.drewN _) (Nat.add_assoc _ _ _))⟩)) | (go_at_call 56; (with_reducible refine (impl_isVal.calls ((rd_T68 l0 x10_1).f1) true _ A8.out).mono ?_); rintro e w' ⟨rfl, ⟨nd, rfl⟩⟩; (try first | exact ⟨rfl, _, World.drewN_drewN _ _ _⟩ | exact ⟨rfl, _, Eq.trans (World.drewN_drewN _ _ _) (congrArg (World.drewN _) (Nat.add_assoc _ _ _))⟩); have jh : 0 ≤ ((ji11) : Int) := of_decide_eq_true (by first | (with_reducible assumption) | assumption); have ji : (ji11) < (l0.length : Int) := of_decide_eq_true (by first | (with_reducible assumption) | assumption); obtain ⟨jq, jp, jc, jd⟩ := at_T68 HR0.out (ji11) jh ji; obtain rfl : jj = jq := (by injection jp); have jf : jj.block ≠ ja := Nat.ne_of_lt (Nat.lt_of_lt_of_le (by have := World.block_lt_of_cell? _ _ jc; first | rwa [add_block] at this | exact this) jg.out); have je : jj.block ≠ ja := Nat.ne_of_lt (Nat.lt_of_lt_of_le (by have := World.block_lt_of_cell? _ _ jc; first | rwa [add_block] at this | exact this) jg.out); replace jc := (HB.out.cell (World.block_lt_of_cell? w _ jc)).trans jc; replace jd := (HB.out.cell (World.block_lt_of_cell? w _ jd)).trans jd; replace jc := (cell_far (p := ⟨ja, 0, none⟩) (by first | (rw [add_block]; exact jf) | (show (Addr.add _ _).block ≠ _; rw [add_block]; exact jf) | exact jf) (.int .i64 ((rd_T68 l0 x10_1).f0))).trans jc; replace jd := (cell_far (p := ⟨ja, 0, none⟩) (by first | (rw [add_block]; exact jf) | (show (Addr.add _ _).block ≠ _; rw [add_block]; exact jf) | exact jf) (.int .i64 ((rd_T68 l0 x10_1).f0))).trans jd; replace jc := (cell_far (p := ⟨ja, 1, none⟩) (by first | (rw [add_block]; exact je) | (show (Addr.add _ _).block ≠ _; rw [add_block]; exact je) | exact je) (.int .i64 ((rd_T68 l0 x10_1).f1))).trans jc; replace jd := (cell_far (p := ⟨ja, 1, none⟩) (by first | (rw [add_block]; exact je) | (show (Addr.add _ _).block ≠ _; rw [add_block]; exact je) | exact je) (.int .i64 ((rd_T68 l0 x10_1).f1))).trans jd; (try have jt := fun (n_ : Nat) => (show ((((w15.drewN n_).setCell ⟨ja, 0, none⟩ (.int .i64 ((rd_T68 l0 x10_1).f0))).setCell ⟨ja, 1, none⟩ (.int .i64 ((rd_T68 l0 x10_1).f1)))).cell? _ = some _ from jc)); (try have ju := fun (n_ : Nat) => (show ((((w15.drewN n_).setCell ⟨ja, 0, none⟩ (.int .i64 ((rd_T68 l0 x10_1).f0))).setCell ⟨ja, 1, none⟩ (.int .i64 ((rd_T68 l0 x10_1).f1)))).cell? _ = some _ from jd)); clear jf; clear je; replace jh := eq_true jh; replace ji := eq_true ji))
             repeat (go_quiet (first | ((with_reducible refine gate_dst (N := 4) rfl ?_); refine box_event ?hg (N := 4) ?hd (cs := #[.int .i64 0, .int .i64 0]) (t := 68) ?hr ?_; (case hd => rfl); (case hg => rfl); (case hr => first | (go_simp; done) | (go_simp; rfl)); intro ja hg w15 hbox hb; have n0_ := Aside0.mk (below_step (hb_ HB.out) hb); have n1_ := Aside0.mk (hbox); have n2_ := Aside0.mk ((by rw [hg]; exact (below_size (hb_ HB.out)) : w.heap.size ≤ ja)); have n3_ := Aside0.mk ((by rw [hg]; exact (below_size (hb_ HB.out)) : w.heap.size ≤ ja)); clear HB; have HB := n0_; have jb := n1_; have jg := n2_; have jo := n3_; clear n0_ n1_ n2_ n3_; clear hb hbox hg; have hcz16_0 : w15.cell? ⟨ja, 0, none⟩ = some (.int .i64 0) := (blk_cell jb.out 0).trans rfl; have hcz16_1 : w15.cell? ⟨ja, 1, none⟩ = some (.int .i64 0) := (blk_cell jb.out 1).trans rfl; have hfz16_0 := blk_frozen jb.out 0; have hfz16_1 := blk_frozen jb.out 1) | (go_at_call 55; (with_reducible refine (impl_isKey.calls ((rd_T68 l0 x10_1).f0) true _ A6.out).mono ?_); rintro e w' ⟨rfl, ⟨nd, rfl⟩⟩; (try first | exact ⟨rfl, _, World.drewN_drewN _ _ _⟩ | exact ⟨rfl, _, Eq.trans (World.drewN_drewN _ _ _) (congrArg (World.drewN _) (Nat.add_assoc _ _ _))⟩)) | (go_at_call 56; (with_reducible refine (impl_isVal.calls ((rd_T68 l0 x10_1).f1) true _ A8.out).mono ?_); rintro e w' ⟨rfl, ⟨nd, rfl⟩⟩; (try first | exact ⟨rfl, _, World.drewN_drewN _ _ _⟩ | exact ⟨rfl, _, Eq.trans (World.drewN_drewN _ _ _) (congrArg (World.drewN _) (Nat.add_assoc _ _ _))⟩); have jh : 0 ≤ ((ji11) : Int) := of_decide_eq_true (by first | (with_reducible assumption) | assumption); have ji : (ji11) < (l0.length : Int) := of_decide_eq_true (by first | (with_reducible assumption) | assumption); obtain ⟨jq, jp, jc, jd⟩ := at_T68 HR0.out (ji11) jh ji; obtain rfl : jj = jq := (by injection jp); have jf : jj.block ≠ ja := Nat.ne_of_lt (Nat.lt_of_lt_of_le (by have := World.block_lt_of_cell? _ _ jc; first | rwa [add_block] at this | exact this) jg.out); have je : jj.block ≠ ja := Nat.ne_of_lt (Nat.lt_of_lt_of_le (by have := World.block_lt_of_cell? _ _ jc; first | rwa [add_block] at this | exact this) jg.out); replace jc := (HB.out.cell (World.block_lt_of_cell? w _ jc)).trans jc; replace jd := (HB.out.cell (World.block_lt_of_cell? w _ jd)).trans jd; replace jc := (cell_far (p := ⟨ja, 0, none⟩) (by first | (rw [add_block]; exact jf) | (show (Addr.add _ _).block ≠ _; rw [add_block]; exact jf) | exact jf) (.int .i64 ((rd_T68 l0 x10_1).f0))).trans jc; replace jd := (cell_far (p := ⟨ja, 0, none⟩) (by first | (rw [add_block]; exact jf) | (show (Addr.add _ _).block ≠ _; rw [add_block]; exact jf) | exact jf) (.int .i64 ((rd_T68 l0 x10_1).f0))).trans jd; replace jc := (cell_far (p := ⟨ja, 1, none⟩) (by first | (rw [add_block]; exact je) | (show (Addr.add _ _).block ≠ _; rw [add_block]; exact je) | exact je) (.int .i64 ((rd_T68 l0 x10_1).f1))).trans jc; replace jd := (cell_far (p := ⟨ja, 1, none⟩) (by first | (rw [add_block]; exact je) | (show (Addr.add _ _).block ≠ _; rw [add_block]; exact je) | exact je) (.int .i64 ((rd_T68 l0 x10_1).f1))).trans jd; (try have jt := fun (n_ : Nat) => (show ((((w15.drewN n_).setCell ⟨ja, 0, none⟩ (.int .i64 ((rd_T68 l0 x10_1).f0))).setCell ⟨ja, 1, none⟩ (.int .i64 ((rd_T68 l0 x10_1).f1)))).cell? _ = some _ from jc)); (try have ju := fun (n_ : Nat) => (show ((((w15.drewN n_).setCell ⟨ja, 0, none⟩ (.int .i64 ((rd_T68 l0 x10_1).f0))).setCell ⟨ja, 1, none⟩ (.int .i64 ((rd_T68 l0 x10_1).f1)))).cell? _ = some _ from jd)); clear jf; clear je; replace jh := eq_true jh; replace ji := eq_true ji)); try go_wp2_with (first | ((with_reducible refine gate_dst (N := 4) rfl ?_); refine box_event ?hg (N := 4) ?hd (cs := #[.int .i64 0, .int .i64 0]) (t := 68) ?hr ?_; (case hd => rfl); (case hg => rfl); (case hr => first | (go_simp; done) | (go_simp; rfl)); intro ja hg w15 hbox hb; have n0_ := Aside0.mk (below_step (hb_ HB.out) hb); have n1_ := Aside0.mk (hbox); have n2_ := Aside0.mk ((by rw [hg]; exact (below_size (hb_ HB.out)) : w.heap.size ≤ ja)); have n3_ := Aside0.mk ((by rw [hg]; exact (below_size (hb_ HB.out)) : w.heap.size ≤ ja)); clear HB; have HB := n0_; have jb := n1_; have jg := n2_; have jo := n3_; clear n0_ n1_ n2_ n3_; clear hb hbox hg; have hcz16_0 : w15.cell? ⟨ja, 0, none⟩ = some (.int .i64 0) := (blk_cell jb.out 0).trans rfl; have hcz16_1 : w15.cell? ⟨ja, 1, none⟩ = some (.int .i64 0) := (blk_cell jb.out 1).trans rfl; have hfz16_0 := blk_frozen jb.out 0; have hfz16_1 := blk_frozen jb.out 1) | (go_at_call 55; (with_reducible refine (impl_isKey.calls ((rd_T68 l0 x10_1).f0) true _ A6.out).mono ?_); rintro e w' ⟨rfl, ⟨nd, rfl⟩⟩; (try first | exact ⟨rfl, _, World.drewN_drewN _ _ _⟩ | exact ⟨rfl, _, Eq.trans (World.drewN_drewN _ _ _) (congrArg (World.drewN _) (Nat.add_assoc _ _ _))⟩)) | (go_at_call 56; (with_reducible refine (impl_isVal.calls ((rd_T68 l0 x10_1).f1) true _ A8.out).mono ?_); rintro e w' ⟨rfl, ⟨nd, rfl⟩⟩; (try first | exact ⟨rfl, _, World.drewN_drewN _ _ _⟩ | exact ⟨rfl, _, Eq.trans (World.drewN_drewN _ _ _) (congrArg (World.drewN _) (Nat.add_assoc _ _ _))⟩); have jh : 0 ≤ ((ji11) : Int) := of_decide_eq_true (by first | (with_reducible assumption) | assumption); have ji : (ji11) < (l0.length : Int) := of_decide_eq_true (by first | (with_reducible assumption) | assumption); obtain ⟨jq, jp, jc, jd⟩ := at_T68 HR0.out (ji11) jh ji; obtain rfl : jj = jq := (by injection jp); have jf : jj.block ≠ ja := Nat.ne_of_lt (Nat.lt_of_lt_of_le (by have := World.block_lt_of_cell? _ _ jc; first | rwa [add_block] at this | exact this) jg.out); have je : jj.block ≠ ja := Nat.ne_of_lt (Nat.lt_of_lt_of_le (by have := World.block_lt_of_cell? _ _ jc; first | rwa [add_block] at this | exact this) jg.out); replace jc := (HB.out.cell (World.block_lt_of_cell? w _ jc)).trans jc; replace jd := (HB.out.cell (World.block_lt_of_cell? w _ jd)).trans jd; replace jc := (cell_far (p := ⟨ja, 0, none⟩) (by first | (rw [add_block]; exact jf) | (show (Addr.add _ _).block ≠ _; rw [add_block]; exact jf) | exact jf) (.int .i64 ((rd_T68 l0 x10_1).f0))).trans jc; replace jd := (cell_far (p := ⟨ja, 0, none⟩) (by first | (rw [add_block]; exact jf) | (show (Addr.add _ _).block ≠ _; rw [add_block]; exact jf) | exact jf) (.int .i64 ((rd_T68 l0 x10_1).f0))).trans jd; replace jc := (cell_far (p := ⟨ja, 1, none⟩) (by first | (rw [add_block]; exact je) | (show (Addr.add _ _).block ≠ _; rw [add_block]; exact je) | exact je) (.int .i64 ((rd_T68 l0 x10_1).f1))).trans jc; replace jd := (cell_far (p := ⟨ja, 1, none⟩) (by first | (rw [add_block]; exact je) | (show (Addr.add _ _).block ≠ _; rw [add_block]; exact je) | exact je) (.int .i64 ((rd_T68 l0 x10_1).f1))).trans jd; (try have jt := fun (n_ : Nat) => (show ((((w15.drewN n_).setCell ⟨ja, 0, none⟩ (.int .i64 ((rd_T68 l0 x10_1).f0))).setCell ⟨ja, 1, none⟩ (.int .i64 ((rd_T68 l0 x10_1).f1)))).cell? _ = some _ from jc)); (try have ju := fun (n_ : Nat) => (show ((((w15.drewN n_).setCell ⟨ja, 0, none⟩ (.int .i64 ((rd_T68 l0 x10_1).f0))).setCell ⟨ja, 1, none⟩ (.int .i64 ((rd_T68 l0 x10_1).f1)))).cell? _ = some _ from jd)); clear jf; clear je; replace jh := eq_true jh; replace ji := eq_true ji)))
             go_ret
             exact ⟨by first | rfl | (simp [errW_none, errW_some] <;> rfl) | (simp only [← hji11]; first | rfl | (simp [errW_none, errW_some] <;> rfl)) | (simp [*, errW_none, errW_some] <;> rfl), by repeat (first | (with_reducible first | exact HB.out | apply below_alloc | apply pw_below_drewN | apply below_drew1 | refine below_set ?_ jo.out) | exact HB.out)⟩
            ·rw [if_neg c14] at H
             have c14b0 : decide (((rd_T68 l0 x10_1).f0) ≤ ((rd_T68 l0 (ji11)).f0)) = false := decide_eq_false c14
             clear c14
             have H' := Aside0.mk H
             clear H
             have jl : 0 ≤ (x10_1 : Int) := of_decide_eq_true (by first | (with_reducible assumption) | assumption)
             have jn : x10_1 < (l0.length : Int) := of_decide_eq_true (by first | (with_reducible assumption) | assumption)
             obtain ⟨jj, jr, jm, jk⟩ := at_T68 HR0.out x10_1 jl jn
             cases jr
             replace jm := (HB.out.cell (World.block_lt_of_cell? w _ jm)).trans jm
             replace jk := (HB.out.cell (World.block_lt_of_cell? w _ jk)).trans jk
             replace jl := eq_true jl
             replace jn := eq_true jn
             go_wp2_with (first | ((with_reducible refine gate_dst (N := 4) rfl ?_); refine box_event ?hg (N := 4) ?hd (cs := #[.int .i64 0, .int .i64 0]) (t := 68) ?hr ?_; (case hd => rfl); (case hg => rfl); (case hr => first | (go_simp; done) | (go_simp; rfl)); intro ja hg w17 hbox hb; have n0_ := Aside0.mk (below_step (hb_ HB.out) hb); have n1_ := Aside0.mk (hbox); have n2_ := Aside0.mk ((by rw [hg]; exact (below_size (hb_ HB.out)) : w.heap.size ≤ ja)); have n3_ := Aside0.mk ((by rw [hg]; exact (below_size (hb_ HB.out)) : w.heap.size ≤ ja)); clear HB; have HB := n0_; have jb := n1_; have jg := n2_; have jo := n3_; clear n0_ n1_ n2_ n3_; clear hb hbox hg; have hcz18_0 : w17.cell? ⟨ja, 0, none⟩ = some (.int .i64 0) := (blk_cell jb.out 0).trans rfl; have hcz18_1 : w17.cell? ⟨ja, 1, none⟩ = some (.int .i64 0) := (blk_cell jb.out 1).trans rfl; have hfz18_0 := blk_frozen jb.out 0; have hfz18_1 := blk_frozen jb.out 1) | (go_at_call 55; (with_reducible refine (impl_isKey.calls ((rd_T68 l0 x10_1).f0) true _ A6.out).mono ?_); rintro e w' ⟨rfl, ⟨nd, rfl⟩⟩; (try first | exact ⟨rfl, _, World.drewN_drewN _ _ _⟩ | exact ⟨rfl, _, Eq.trans (World.drewN_drewN _ _ _) (congrArg (World.drewN _) (Nat.add_assoc _ _ _))⟩)) | (go_at_call 56; (with_reducible refine (impl_isVal.calls ((rd_T68 l0 x10_1).f1) true _ A8.out).mono ?_); rintro e w' ⟨rfl, ⟨nd, rfl⟩⟩; (try first | exact ⟨rfl, _, World.drewN_drewN _ _ _⟩ | exact ⟨rfl, _, Eq.trans (World.drewN_drewN _ _ _) (congrArg (World.drewN _) (Nat.add_assoc _ _ _))⟩); have jh : 0 ≤ ((ji11) : Int) := of_decide_eq_true (by first | (with_reducible assumption) | assumption); have ji : (ji11) < (l0.length : Int) := of_decide_eq_true (by first | (with_reducible assumption) | assumption); obtain ⟨jq, jp, jc, jd⟩ := at_T68 HR0.out (ji11) jh ji; obtain rfl : jj = jq := (by injection jp); have jf : jj.block ≠ ja := Nat.ne_of_lt (Nat.lt_of_lt_of_le (by have := World.block_lt_of_cell? _ _ jc; first | rwa [add_block] at this | exact this) jg.out); have je : jj.block ≠ ja := Nat.ne_of_lt (Nat.lt_of_lt_of_le (by have := World.block_lt_of_cell? _ _ jc; first | rwa [add_block] at this | exact this) jg.out); replace jc := (HB.out.cell (World.block_lt_of_cell? w _ jc)).trans jc; replace jd := (HB.out.cell (World.block_lt_of_cell? w _ jd)).trans jd; replace jc := (cell_far (p := ⟨ja, 0, none⟩) (by first | (rw [add_block]; exact jf) | (show (Addr.add _ _).block ≠ _; rw [add_block]; exact jf) | exact jf) (.int .i64 ((rd_T68 l0 x10_1).f0))).trans jc; replace jd := (cell_far (p := ⟨ja, 0, none⟩) (by first | (rw [add_block]; exact jf) | (show (Addr.add _ _).block ≠ _; rw [add_block]; exact jf) | exact jf) (.int .i64 ((rd_T68 l0 x10_1).f0))).trans jd; replace jc := (cell_far (p := ⟨ja, 1, none⟩) (by first | (rw [add_block]; exact je) | (show (Addr.add _ _).block ≠ _; rw [add_block]; exact je) | exact je) (.int .i64 ((rd_T68 l0 x10_1).f1))).trans jc; replace jd := (cell_far (p := ⟨ja, 1, none⟩) (by first | (rw [add_block]; exact je) | (show (Addr.add _ _).block ≠ _; rw [add_block]; exact je) | exact je) (.int .i64 ((rd_T68 l0 x10_1).f1))).trans jd; (try have jt := fun (n_ : Nat) => (show ((((w17.drewN n_).setCell ⟨ja, 0, none⟩ (.int .i64 ((rd_T68 l0 x10_1).f0))).setCell ⟨ja, 1, none⟩ (.int .i64 ((rd_T68 l0 x10_1).f1)))).cell? _ = some _ from jc)); (try have ju := fun (n_ : Nat) => (show ((((w17.drewN n_).setCell ⟨ja, 0, none⟩ (.int .i64 ((rd_T68 l0 x10_1).f0))).setCell ⟨ja, 1, none⟩ (.int .i64 ((rd_T68 l0 x10_1).f1)))).cell? _ = some _ from jd)); clear jf; clear je; replace jh := eq_true jh; replace ji := eq_true ji))
             repeat (go_quiet (first | ((with_reducible refine gate_dst (N := 4) rfl ?_); refine box_event ?hg (N := 4) ?hd (cs := #[.int .i64 0, .int .i64 0]) (t := 68) ?hr ?_; (case hd => rfl); (case hg => rfl); (case hr => first | (go_simp; done) | (go_simp; rfl)); intro ja hg w17 hbox hb; have n0_ := Aside0.mk (below_step (hb_ HB.out) hb); have n1_ := Aside0.mk (hbox); have n2_ := Aside0.mk ((by rw [hg]; exact (below_size (hb_ HB.out)) : w.heap.size ≤ ja)); have n3_ := Aside0.mk ((by rw [hg]; exact (below_size (hb_ HB.out)) : w.heap.size ≤ ja)); clear HB; have HB := n0_; have jb := n1_; have jg := n2_; have jo := n3_; clear n0_ n1_ n2_ n3_; clear hb hbox hg; have hcz18_0 : w17.cell? ⟨ja, 0, none⟩ = some (.int .i64 0) := (blk_cell jb.out 0).trans rfl; have hcz18_1 : w17.cell? ⟨ja, 1, none⟩ = some (.int .i64 0) := (blk_cell jb.out 1).trans rfl; have hfz18_0 := blk_frozen jb.out 0; have hfz18_1 := blk_frozen jb.out 1) | (go_at_call 55; (with_reducible refine (impl_isKey.calls ((rd_T68 l0 x10_1).f0) true _ A6.out).mono ?_); rintro e w' ⟨rfl, ⟨nd, rfl⟩⟩; (try first | exact ⟨rfl, _, World.drewN_drewN _ _ _⟩ | exact ⟨rfl, _, Eq.trans (World.drewN_drewN _ _ _) (congrArg (World.drewN _) (Nat.add_assoc _ _ _))⟩)) | (go_at_call 56; (with_reducible refine (impl_isVal.calls ((rd_T68 l0 x10_1).f1) true _ A8.out).mono ?_); rintro e w' ⟨rfl, ⟨nd, rfl⟩⟩; (try first | exact ⟨rfl, _, World.drewN_drewN _ _ _⟩ | exact ⟨rfl, _, Eq.trans (World.drewN_drewN _ _ _) (congrArg (World.drewN _) (Nat.add_assoc _ _ _))⟩); have jh : 0 ≤ ((ji11) : Int) := of_decide_eq_true (by first | (with_reducible assumption) | assumption); have ji : (ji11) < (l0.length : Int) := of_decide_eq_true (by first | (with_reducible assumption) | assumption); obtain ⟨jq, jp, jc, jd⟩ := at_T68 HR0.out (ji11) jh ji; obtain rfl : jj = jq := (by injection jp); have jf : jj.block ≠ ja := Nat.ne_of_lt (Nat.lt_of_lt_of_le (by have := World.block_lt_of_cell? _ _ jc; first | rwa [add_block] at this | exact this) jg.out); have je : jj.block ≠ ja := Nat.ne_of_lt (Nat.lt_of_lt_of_le (by have := World.block_lt_of_cell? _ _ jc; first | rwa [add_block] at this | exact this) jg.out); replace jc := (HB.out.cell (World.block_lt_of_cell? w _ jc)).trans jc; replace jd := (HB.out.cell (World.block_lt_of_cell? w _ jd)).trans jd; replace jc := (cell_far (p := ⟨ja, 0, none⟩) (by first | (rw [add_block]; exact jf) | (show (Addr.add _ _).block ≠ _; rw [add_block]; exact jf) | exact jf) (.int .i64 ((rd_T68 l0 x10_1).f0))).trans jc; replace jd := (cell_far (p := ⟨ja, 0, none⟩) (by first | (rw [add_block]; exact jf) | (show (Addr.add _ _).block ≠ _; rw [add_block]; exact jf) | exact jf) (.int .i64 ((rd_T68 l0 x10_1).f0))).trans jd; replace jc := (cell_far (p := ⟨ja, 1, none⟩) (by first | (rw [add_block]; exact je) | (show (Addr.add _ _).block ≠ _; rw [add_block]; exact je) | exact je) (.int .i64 ((rd_T68 l0 x10_1).f1))).trans jc; replace jd := (cell_far (p := ⟨ja, 1, none⟩) (by first | (rw [add_block]; exact je) | (show (Addr.add _ _).block ≠ _; rw [add_block]; exact je) | exact je) (.int .i64 ((rd_T68 l0 x10_1).f1))).trans jd; (try have jt := fun (n_ : Nat) => (show ((((w17.drewN n_).setCell ⟨ja, 0, none⟩ (.int .i64 ((rd_T68 l0 x10_1).f0))).setCell ⟨ja, 1, none⟩ (.int .i64 ((rd_T68 l0 x10_1).f1)))).cell? _ = some _ from jc)); (try have ju := fun (n_ : Nat) => (show ((((w17.drewN n_).setCell ⟨ja, 0, none⟩ (.int .i64 ((rd_T68 l0 x10_1).f0))).setCell ⟨ja, 1, none⟩ (.int .i64 ((rd_T68 l0 x10_1).f1)))).cell? _ = some _ from jd)); clear jf; clear je; replace jh := eq_true jh; replace ji := eq_true ji)); try go_wp2_with (first | ((with_reducible refine gate_dst (N := 4) rfl ?_); refine box_event ?hg (N := 4) ?hd (cs := #[.int .i64 0, .int .i64 0]) (t := 68) ?hr ?_; (case hd => rfl); (case hg => rfl); (case hr => first | (go_simp; done) | (go_simp; rfl)); intro ja hg w17 hbox hb; have n0_ := Aside0.mk (below_step (hb_ HB.out) hb); have n1_ := Aside0.mk (hbox); have n2_ := Aside0.mk ((by rw [hg]; exact (below_size (hb_ HB.out)) : w.heap.size ≤ ja)); have n3_ := Aside0.mk ((by rw [hg]; exact (below_size (hb_ HB.out)) : w.heap.size ≤ ja)); clear HB; have HB := n0_; have jb := n1_; have jg := n2_; have jo := n3_; clear n0_ n1_ n2_ n3_; clear hb hbox hg; have hcz18_0 : w17.cell? ⟨ja, 0, none⟩ = some (.int .i64 0) := (blk_cell jb.out 0).trans rfl; have hcz18_1 : w17.cell? ⟨ja, 1, none⟩ = some (.int .i64 0) := (blk_cell jb.out 1).trans rfl; have hfz18_0 := blk_frozen jb.out 0; have hfz18_1 := blk_frozen jb.out 1) | (go_at_call 55; (with_reducible refine (impl_isKey.calls ((rd_T68 l0 x10_1).f0) true _ A6.out).mono ?_); rintro e w' ⟨rfl, ⟨nd, rfl⟩⟩; (try first | exact ⟨rfl, _, World.drewN_drewN _ _ _⟩ | exact ⟨rfl, _, Eq.trans (World.drewN_drewN _ _ _) (congrArg (World.drewN _) (Nat.add_assoc _ _ _))⟩)) | (go_at_call 56; (with_reducible refine (impl_isVal.calls ((rd_T68 l0 x10_1).f1) true _ A8.out).mono ?_); rintro e w' ⟨rfl, ⟨nd, rfl⟩⟩; (try first | exact ⟨rfl, _, World.drewN_drewN _ _ _⟩ | exact ⟨rfl, _, Eq.trans (World.drewN_drewN _ _ _) (congrArg (World.drewN _) (Nat.add_assoc _ _ _))⟩); have jh : 0 ≤ ((ji11) : Int) := of_decide_eq_true (by first | (with_reducible assumption) | assumption); have ji : (ji11) < (l0.length : Int) := of_decide_eq_true (by first | (with_reducible assumption) | assumption); obtain ⟨jq, jp, jc, jd⟩ := at_T68 HR0.out (ji11) jh ji; obtain rfl : jj = jq := (by injection jp); have jf : jj.block ≠ ja := Nat.ne_of_lt (Nat.lt_of_lt_of_le (by have := World.block_lt_of_cell? _ _ jc; first | rwa [add_block] at this | exact this) jg.out); have je : jj.block ≠ ja := Nat.ne_of_lt (Nat.lt_of_lt_of_le (by have := World.block_lt_of_cell? _ _ jc; first | rwa [add_block] at this | exact this) jg.out); replace jc := (HB.out.cell (World.block_lt_of_cell? w _ jc)).trans jc; replace jd := (HB.out.cell (World.block_lt_of_cell? w _ jd)).trans jd; replace jc := (cell_far (p := ⟨ja, 0, none⟩) (by first | (rw [add_block]; exact jf) | (show (Addr.add _ _).block ≠ _; rw [add_block]; exact jf) | exact jf) (.int .i64 ((rd_T68 l0 x10_1).f0))).trans jc; replace jd := (cell_far (p := ⟨ja, 0, none⟩) (by first | (rw [add_block]; exact jf) | (show (Addr.add _ _).block ≠ _; rw [add_block]; exact jf) | exact jf) (.int .i64 ((rd_T68 l0 x10_1).f0))).trans jd; replace jc := (cell_far (p := ⟨ja, 1, none⟩) (by first | (rw [add_block]; exact je) | (show (Addr.add _ _).block ≠ _; rw [add_block]; exact je) | exact je) (.int .i64 ((rd_T68 l0 x10_1).f1))).trans jc; replace jd := (cell_far (p := ⟨ja, 1, none⟩) (by first | (rw [add_block]; exact je) | (show (Addr.add _ _).block ≠ _; rw [add_block]; exact je) | exact je) (.int .i64 ((rd_T68 l0 x10_1).f1))).trans jd; (try have jt := fun (n_ : Nat) => (show ((((w17.drewN n_).setCell ⟨ja, 0, none⟩ (.int .i64 ((rd_T68 l0 x10_1).f0))).setCell ⟨ja, 1, none⟩ (.int .i64 ((rd_T68 l0 x10_1).f1)))).cell? _ = some _ from jc)); (try have ju := fun (n_ : Nat) => (show ((((w17.drewN n_).setCell ⟨ja, 0, none⟩ (.int .i64 ((rd_T68 l0 x10_1).f0))).setCell ⟨ja, 1, none⟩ (.int .i64 ((rd_T68 l0 x10_1).f1)))).cell? _ = some _ from jd)); clear jf; clear je; replace jh := eq_true jh; replace ji := eq_true ji)))
             go_roundg k1
             case measure => have := HK1.out; omega
             case rel => exact ⟨(wrap64 (x10_1 + 1)), (by first | rfl | (simp; done) | (simp [*]; done)), H', ⟨by have := HK1.out; omega⟩, ⟨hb_ HB.out⟩⟩
           ·rw [if_neg c13] at H
            exact absurd H (by simp)
          ·rw [if_neg c12] at H
           exact absurd H (by simp)
         ·rw [if_neg c10] at H
          have c10b0 : decide (0 < x10_1) = false := decide_eq_false c10
          clear c10
          have H' := Aside0.mk H
          clear H
          have jl : 0 ≤ (x10_1 : Int) := of_decide_eq_true (by first | (with_reducible assumption) | assumption)
          have jn : x10_1 < (l0.length : Int) := of_decide_eq_true (by first | (with_reducible assumption) | assumption)
          obtain ⟨jj, jr, jm, jk⟩ := at_T68 HR0.out x10_1 jl jn
          cases jr
          replace jm := (HB.out.cell (World.block_lt_of_cell? w _ jm)).trans jm
          replace jk := (HB.out.cell (World.block_lt_of_cell? w _ jk)).trans jk
          replace jl := eq_true jl
          replace jn := eq_true jn
          go_wp2_with (first | ((with_reducible refine gate_dst (N := 4) rfl ?_); refine box_event ?hg (N := 4) ?hd (cs := #[.int .i64 0, .int .i64 0]) (t := 68) ?hr ?_; (case hd => rfl); (case hg => rfl); (case hr => first | (go_simp; done) | (go_simp; rfl)); intro ja hg w19 hbox hb; have n0_ := Aside0.mk (below_step (hb_ HB.out) hb); have n1_ := Aside0.mk (hbox); have n2_ := Aside0.mk ((by rw [hg]; exact (below_size (hb_ HB.out)) : w.heap.size ≤ ja)); have n3_ := Aside0.mk ((by rw [hg]; exact (below_size (hb_ HB.out)) : w.heap.size ≤ ja)); clear HB; have HB := n0_; have jb := n1_; have jg := n2_; have jo := n3_; clear n0_ n1_ n2_ n3_; clear hb hbox hg; have hcz20_0 : w19.cell? ⟨ja, 0, none⟩ = some (.int .i64 0) := (blk_cell jb.out 0).trans rfl; have hcz20_1 : w19.cell? ⟨ja, 1, none⟩ = some (.int .i64 0) := (blk_cell jb.out 1).trans rfl; have hfz20_0 := blk_frozen jb.out 0; have hfz20_1 := blk_frozen jb.out 1) | (go_at_call 55; (with_reducible refine (impl_isKey.calls ((rd_T68 l0 x10_1).f0) true _ A6.out).mono ?_); rintro e w' ⟨rfl, ⟨nd, rfl⟩⟩; (try first | exact ⟨rfl, _, World.drewN_drewN _ _ _⟩ | exact ⟨rfl, _, Eq.trans (World.drewN_drewN _ _ _) (congrArg (World.drewN _) (Nat.add_assoc _ _ _))⟩)) | (go_at_call 56; (with_reducible refine (impl_isVal.calls ((rd_T68 l0 x10_1).f1) true _ A8.out).mono ?_); rintro e w' ⟨rfl, ⟨nd, rfl⟩⟩; (try first | exact ⟨rfl, _, World.drewN_drewN _ _ _⟩ | exact ⟨rfl, _, Eq.trans (World.drewN_drewN _ _ _) (congrArg (World.drewN _) (Nat.add_assoc _ _ _))⟩)))
          repeat (go_quiet (first | ((with_reducible refine gate_dst (N := 4) rfl ?_); refine box_event ?hg (N := 4) ?hd (cs := #[.int .i64 0, .int .i64 0]) (t := 68) ?hr ?_; (case hd => rfl); (case hg => rfl); (case hr => first | (go_simp; done) | (go_simp; rfl)); intro ja hg w19 hbox hb; have n0_ := Aside0.mk (below_step (hb_ HB.out) hb); have n1_ := Aside0.mk (hbox); have n2_ := Aside0.mk ((by rw [hg]; exact (below_size (hb_ HB.out)) : w.heap.size ≤ ja)); have n3_ := Aside0.mk ((by rw [hg]; exact (below_size (hb_ HB.out)) : w.heap.size ≤ ja)); clear HB; have HB := n0_; have jb := n1_; have jg := n2_; have jo := n3_; clear n0_ n1_ n2_ n3_; clear hb hbox hg; have hcz20_0 : w19.cell? ⟨ja, 0, none⟩ = some (.int .i64 0) := (blk_cell jb.out 0).trans rfl; have hcz20_1 : w19.cell? ⟨ja, 1, none⟩ = some (.int .i64 0) := (blk_cell jb.out 1).trans rfl; have hfz20_0 := blk_frozen jb.out 0; have hfz20_1 := blk_frozen jb.out 1) | (go_at_call 55; (with_reducible refine (impl_isKey.calls ((rd_T68 l0 x10_1).f0) true _ A6.out).mono ?_); rintro e w' ⟨rfl, ⟨nd, rfl⟩⟩; (try first | exact ⟨rfl, _, World.drewN_drewN _ _ _⟩ | exact ⟨rfl, _, Eq.trans (World.drewN_drewN _ _ _) (congrArg (World.drewN _) (Nat.add_assoc _ _ _))⟩)) | (go_at_call 56; (with_reducible refine (impl_isVal.calls ((rd_T68 l0 x10_1).f1) true _ A8.out).mono ?_); rintro e w' ⟨rfl, ⟨nd, rfl⟩⟩; (try first | exact ⟨rfl, _, World.drewN_drewN _ _ _⟩ | exact ⟨rfl, _, Eq.trans (World.drewN_drewN _ _ _) (congrArg (World.drewN _) (Nat.add_assoc _ _ _))⟩))); try go_wp2_with (first | ((with_reducible refine gate_dst (N := 4) rfl ?_); refine box_event ?hg (N := 4) ?hd (cs := #[.int .i64 0, .int .i64 0]) (t := 68) ?hr ?_; (case hd => rfl); (case hg => rfl); (case hr => first | (go_simp; done) | (go_simp; rfl)); intro ja hg w19 hbox hb; have n0_ := Aside0.mk (below_step (hb_ HB.out) hb); have n1_ := Aside0.mk (hbox); have n2_ := Aside0.mk ((by rw [hg]; exact (below_size (hb_ HB.out)) : w.heap.size ≤ ja)); have n3_ := Aside0.mk ((by rw [hg]; exact (below_size (hb_ HB.out)) : w.heap.size ≤ ja)); clear HB; have HB := n0_; have jb := n1_; have jg := n2_; have jo := n3_; clear n0_ n1_ n2_ n3_; clear hb hbox hg; have hcz20_0 : w19.cell? ⟨ja, 0, none⟩ = some (.int .i64 0) := (blk_cell jb.out 0).trans rfl; have hcz20_1 : w19.cell? ⟨ja, 1, none⟩ = some (.int .i64 0) := (blk_cell jb.out 1).trans rfl; have hfz20_0 := blk_frozen jb.out 0; have hfz20_1 := blk_frozen jb.out 1) | (go_at_call 55; (with_reducible refine (impl_isKey.calls ((rd_T68 l0 x10_1).f0) true _ A6.out).mono ?_); rintro e w' ⟨rfl, ⟨nd, rfl⟩⟩; (try first | exact ⟨rfl, _, World.drewN_drewN _ _ _⟩ | exact ⟨rfl, _, Eq.trans (World.drewN_drewN _ _ _) (congrArg (World.drewN _) (Nat.add_assoc _ _ _))⟩)) | (go_at_call 56; (with_reducible refine (impl_isVal.calls ((rd_T68 l0 x10_1).f1) true _ A8.out).mono ?_); rintro e w' ⟨rfl, ⟨nd, rfl⟩⟩; (try first | exact ⟨rfl, _, World.drewN_drewN _ _ _⟩ | exact ⟨rfl, _, Eq.trans (World.drewN_drewN _ _ _) (congrArg (World.drewN _) (Nat.add_assoc _ _ _))⟩))))
          go_roundg k1
          case measure => have := HK1.out; omega
          case rel => exact ⟨(wrap64 (x10_1 + 1)), (by first | rfl | (simp; done) | (simp [*]; done)), H', ⟨by have := HK1.out; omega⟩, ⟨hb_ HB.out⟩⟩
        ·replace c9 := Bool.eq_false_iff.mpr c9
         subst c9
         have H1 : (some false) = some r := by rw [if_neg (show ¬ (false = true) by decide)] at H; exact H
         clear H
         have H := H1
         clear H1
         obtain rfl := Option.some.inj H
         have jl : 0 ≤ (x10_1 : Int) := of_decide_eq_true (by first | (with_reducible assumption) | assumption)
         have jn : x10_1 < (l0.length : Int) := of_decide_eq_true (by first | (with_reducible assumption) | assumption)
         obtain ⟨jj, jr, jm, jk⟩ := at_T68 HR0.out x10_1 jl jn
         cases jr
         replace jm := (HB.out.cell (World.block_lt_of_cell? w _ jm)).trans jm
         replace jk := (HB.out.cell (World.block_lt_of_cell? w _ jk)).trans jk
         replace jl := eq_true jl
         replace jn := eq_true jn
         go_wp2_with (first | ((with_reducible refine gate_dst (N := 4) rfl ?_); refine box_event ?hg (N := 4) ?hd (cs := #[.int .i64 0, .int .i64 0]) (t := 68) ?hr ?_; (case hd => rfl); (case hg => rfl); (case hr => first | (go_simp; done) | (go_simp; rfl)); intro ja hg w21 hbox hb; have n0_ := Aside0.mk (below_step (hb_ HB.out) hb); have n1_ := Aside0.mk (hbox); have n2_ := Aside0.mk ((by rw [hg]; exact (below_size (hb_ HB.out)) : w.heap.size ≤ ja)); have n3_ := Aside0.mk ((by rw [hg]; exact (below_size (hb_ HB.out)) : w.heap.size ≤ ja)); clear HB; have HB := n0_; have jb := n1_; have jg := n2_; have jo := n3_; clear n0_ n1_ n2_ n3_; clear hb hbox hg; have hcz22_0 : w21.cell? ⟨ja, 0, none⟩ = some (.int .i64 0) := (blk_cell jb.out 0).trans rfl; have hcz22_1 : w21.cell? ⟨ja, 1, none⟩ = some (.int .i64 0) := (blk_cell jb.out 1).trans rfl; have hfz22_0 := blk_frozen jb.out 0; have hfz22_1 := blk_frozen jb.out 1) | (go_at_call 55; (with_reducible refine (impl_isKey.calls ((rd_T68 l0 x10_1).f0) true _ A6.out).mono ?_); rintro e w' ⟨rfl, ⟨nd, rfl⟩⟩; (try first | exact ⟨rfl, _, World.drewN_drewN _ _ _⟩ | exact ⟨rfl, _, Eq.trans (World.drewN_drewN _ _ _) (congrArg (World.drewN _) (Nat.add_assoc _ _ _))⟩)) | (go_at_call 56; (with_reducible refine (impl_isVal.calls ((rd_T68 l0 x10_1).f1) false _ A8.out).mono ?_); rintro e w' ⟨rfl, ⟨nd, rfl⟩⟩; (try first | exact ⟨rfl, _, World.drewN_drewN _ _ _⟩ | exact ⟨rfl, _, Eq.trans (World.drewN_drewN _ _ _) (congrArg (World.drewN _) (Nat.add_assoc _ _ _))⟩)))
         repeat (go_quiet (first | ((with_reducible refine gate_dst (N := 4) rfl ?_); refine box_event ?hg (N := 4) ?hd (cs := #[.int .i64 0, .int .i64 0]) (t := 68) ?hr ?_; (case hd => rfl); (case hg => rfl); (case hr => first | (go_simp; done) | (go_simp; rfl)); intro ja hg w21 hbox hb; have n0_ := Aside0.mk (below_step (hb_ HB.out) hb); have n1_ := Aside0.mk (hbox); have n2_ := Aside0.mk ((by rw [hg]; exact (below_size (hb_ HB.out)) : w.heap.size ≤ ja)); have n3_ := Aside0.mk ((by rw [hg]; exact (below_size (hb_ HB.out)) : w.heap.size ≤ ja)); clear HB; have HB := n0_; have jb := n1_; have jg := n2_; have jo := n3_; clear n0_ n1_ n2_ n3_; clear hb hbox hg; have hcz22_0 : w21.cell? ⟨ja, 0, none⟩ = some (.int .i64 0) := (blk_cell jb.out 0).trans rfl; have hcz22_1 : w21.cell? ⟨ja, 1, none⟩ = some (.int .i64 0) := (blk_cell jb.out 1).trans rfl; have hfz22_0 := blk_frozen jb.out 0; have hfz22_1 := blk_frozen jb.out 1) | (go_at_call 55; (with_reducible refine (impl_isKey.calls ((rd_T68 l0 x10_1).f0) true _ A6.out).mono ?_); rintro e w' ⟨rfl, ⟨nd, rfl⟩⟩; (try first | exact ⟨rfl, _, World.drewN_drewN _ _ _⟩ | exact ⟨rfl, _, Eq.trans (World.drewN_drewN _ _ _) (congrArg (World.drewN _) (Nat.add_assoc _ _ _))⟩)) | (go_at_call 56; (with_reducible refine (impl_isVal.calls ((rd_T68 l0 x10_1).f1) false _ A8.out).mono ?_); rintro e w' ⟨rfl, ⟨nd, rfl⟩⟩; (try first | exact ⟨rfl, _, World.drewN_drewN _ _ _⟩ | exact ⟨rfl, _, Eq.trans (World.drewN_drewN _ _ _) (congrArg (World.drewN _) (Nat.add_assoc _ _ _))⟩))); try go_wp2_with (first | ((with_reducible refine gate_dst (N := 4) rfl ?_); refine box_event ?hg (N := 4) ?hd (cs := #[.int .i64 0, .int .i64 0]) (t := 68) ?hr ?_; (case hd => rfl); (case hg => rfl); (case hr => first | (go_simp; done) | (go_simp; rfl)); intro ja hg w21 hbox hb; have n0_ := Aside0.mk (below_step (hb_ HB.out) hb); have n1_ := Aside0.mk (hbox); have n2_ := Aside0.mk ((by rw [hg]; exact (below_size (hb_ HB.out)) : w.heap.size ≤ ja)); have n3_ := Aside0.mk ((by rw [hg]; exact (below_size (hb_ HB.out)) : w.heap.size ≤ ja)); clear HB; have HB := n0_; have jb := n1_; have jg := n2_; have jo := n3_; clear n0_ n1_ n2_ n3_; clear hb hbox hg; have hcz22_0 : w21.cell? ⟨ja, 0, none⟩ = some (.int .i64 0) := (blk_cell jb.out 0).trans rfl; have hcz22_1 : w21.cell? ⟨ja, 1, none⟩ = some (.int .i64 0) := (blk_cell jb.out 1).trans rfl; have hfz22_0 := blk_frozen jb.out 0; have hfz22_1 := blk_frozen jb.out 1) | (go_at_call 55; (with_reducible refine (impl_isKey.calls ((rd_T68 l0 x10_1).f0) true _ A6.out).mono ?_); rintro e w' ⟨rfl, ⟨nd, rfl⟩⟩; (try first | exact ⟨rfl, _, World.drewN_drewN _ _ _⟩ | exact ⟨rfl, _, Eq.trans (World.drewN_drewN _ _ _) (congrArg (World.drewN _) (Nat.add_assoc _ _ _))⟩)) | (go_at_call 56; (with_reducible refine (impl_isVal.calls ((rd_T68 l0 x10_1).f1) false _ A8.out).mono ?_); rintro e w' ⟨rfl, ⟨nd, rfl⟩⟩; (try first | exact ⟨rfl, _, World.drewN_drewN _ _ _⟩ | exact ⟨rfl, _, Eq.trans (World.drewN_drewN _ _ _) (congrArg (World.drewN _) (Nat.add_assoc _ _ _))⟩))))
         go_ret
         exact ⟨by first | rfl | (simp [errW_none, errW_some] <;> rfl) | (simp [*, errW_none, errW_some] <;> rfl), by repeat (first | (with_reducible first | exact HB.out | apply below_alloc | apply pw_below_drewN | apply below_drew1 | refine below_set ?_ jo.out) | exact HB.out)⟩
       ·replace c7 := Bool.eq_false_iff.mpr c7
        subst c7
        have H1 : (some false) = some r := by rw [if_neg (show ¬ (false = true) by decide)] at H; exact H
        clear H
        have H := H1
        clear H1
        obtain rfl := Option.some.inj H
        have jl : 0 ≤ (x10_1 : Int) := of_decide_eq_true (by first | (with_reducible assumption) | assumption)
        have jn : x10_1 < (l0.length : Int) := of_decide_eq_true (by first | (with_reducible assumption) | assumption)
        obtain ⟨jj, jr, jm, jk⟩ := at_T68 HR0.out x10_1 jl jn
        cases jr
        replace jm := (HB.out.cell (World.block_lt_of_cell? w _ jm)).trans jm
        replace jk := (HB.out.cell (World.block_lt_of_cell? w _ jk)).trans jk
        replace jl := eq_true jl
        replace jn := eq_true jn
        go_wp2_with (first | ((with_reducible refine gate_dst (N := 4) rfl ?_); refine box_event ?hg (N := 4) ?hd (cs := #[.int .i64 0, .int .i64 0]) (t := 68) ?hr ?_; (case hd => rfl); (case hg => rfl); (case hr => first | (go_simp; done) | (go_simp; rfl)); intro ja hg w23 hbox hb; have n0_ := Aside0.mk (below_step (hb_ HB.out) hb); have n1_ := Aside0.mk (hbox); have n2_ := Aside0.mk ((by rw [hg]; exact (below_size (hb_ HB.out)) : w.heap.size ≤ ja)); have n3_ := Aside0.mk ((by rw [hg]; exact (below_size (hb_ HB.out)) : w.heap.size ≤ ja)); clear HB; have HB := n0_; have jb := n1_; have jg := n2_; have jo := n3_; clear n0_ n1_ n2_ n3_; clear hb hbox hg; have hcz24_0 : w23.cell? ⟨ja, 0, none⟩ = some (.int .i64 0) := (blk_cell jb.out 0).trans rfl; have hcz24_1 : w23.cell? ⟨ja, 1, none⟩ = some (.int .i64 0) := (blk_cell jb.out 1).trans rfl; have hfz24_0 := blk_frozen jb.out 0; have hfz24_1 := blk_frozen jb.out 1) | (go_at_call 55; (with_reducible refine (impl_isKey.calls ((rd_T68 l0 x10_1).f0) false _ A6.out).mono ?_); rintro e w' ⟨rfl, ⟨nd, rfl⟩⟩; (try first | exact ⟨rfl, _, World.drewN_drewN _ _ _⟩ | exact ⟨rfl, _, Eq.trans (World.drewN_drewN _ _ _) (congrArg (World.drewN _) (Nat.add_assoc _ _ _))⟩)))
        repeat (go_quiet (first | ((with_reducible refine gate_dst (N := 4) rfl ?_); refine box_event ?hg (N := 4) ?hd (cs := #[.int .i64 0, .int .i64 0]) (t := 68) ?hr ?_; (case hd => rfl); (case hg => rfl); (case hr => first | (go_simp; done) | (go_simp; rfl)); intro ja hg w23 hbox hb; have n0_ := Aside0.mk (below_step (hb_ HB.out) hb); have n1_ := Aside0.mk (hbox); have n2_ := Aside0.mk ((by rw [hg]; exact (below_size (hb_ HB.out)) : w.heap.size ≤ ja)); have n3_ := Aside0.mk ((by rw [hg]; exact (below_size (hb_ HB.out)) : w.heap.size ≤ ja)); clear HB; have HB := n0_; have jb := n1_; have jg := n2_; have jo := n3_; clear n0_ n1_ n2_ n3_; clear hb hbox hg; have hcz24_0 : w23.cell? ⟨ja, 0, none⟩ = some (.int .i64 0) := (blk_cell jb.out 0).trans rfl; have hcz24_1 : w23.cell? ⟨ja, 1, none⟩ = some (.int .i64 0) := (blk_cell jb.out 1).trans rfl; have hfz24_0 := blk_frozen jb.out 0; have hfz24_1 := blk_frozen jb.out 1) | (go_at_call 55; (with_reducible refine (impl_isKey.calls ((rd_T68 l0 x10_1).f0) false _ A6.out).mono ?_); rintro e w' ⟨rfl, ⟨nd, rfl⟩⟩; (try first | exact ⟨rfl, _, World.drewN_drewN _ _ _⟩ | exact ⟨rfl, _, Eq.trans (World.drewN_drewN _ _ _) (congrArg (World.drewN _) (Nat.add_assoc _ _ _))⟩))); try go_wp2_with (first | ((with_reducible refine gate_dst (N := 4) rfl ?_); refine box_event ?hg (N := 4) ?hd (cs := #[.int .i64 0, .int .i64 0]) (t := 68) ?hr ?_; (case hd => rfl); (case hg => rfl); (case hr => first | (go_simp; done) | (go_simp; rfl)); intro ja hg w23 hbox hb; have n0_ := Aside0.mk (below_step (hb_ HB.out) hb); have n1_ := Aside0.mk (hbox); have n2_ := Aside0.mk ((by rw [hg]; exact (below_size (hb_ HB.out)) : w.heap.size ≤ ja)); have n3_ := Aside0.mk ((by rw [hg]; exact (below_size (hb_ HB.out)) : w.heap.size ≤ ja)); clear HB; have HB := n0_; have jb := n1_; have jg := n2_; have jo := n3_; clear n0_ n1_ n2_ n3_; clear hb hbox hg; have hcz24_0 : w23.cell? ⟨ja, 0, none⟩ = some (.int .i64 0) := (blk_cell jb.out 0).trans rfl; have hcz24_1 : w23.cell? ⟨ja, 1, none⟩ = some (.int .i64 0) := (blk_cell jb.out 1).trans rfl; have hfz24_0 := blk_frozen jb.out 0; have hfz24_1 := blk_frozen jb.out 1) | (go_at_call 55; (with_reducible refine (impl_isKey.calls ((rd_T68 l0 x10_1).f0) false _ A6.out).mono ?_); rintro e w' ⟨rfl, ⟨nd, rfl⟩⟩; (try first | exact ⟨rfl, _, World.drewN_drewN _ _ _⟩ | exact ⟨rfl, _, Eq.trans (World.drewN_drewN _ _ _) (congrArg (World.drewN _) (Nat.add_assoc _ _ _))⟩))))
        go_ret
        exact ⟨by first | rfl | (simp [errW_none, errW_some] <;> rfl) | (simp [*, errW_none, errW_some] <;> rfl), by repeat (first | (with_reducible first | exact HB.out | apply below_alloc | apply pw_below_drewN | apply below_drew1 | refine below_set ?_ jo.out) | exact HB.out)⟩
      ·rw [if_neg c5] at H
       exact absurd H (by simp)
     ·rw [if_neg c4] at H
      exact absurd H (by simp)
    ·rw [if_neg c3] at H
     have c3b0 : decide (x10_1 < (l0.length : Int)) = false := decide_eq_false c3
     clear c3
     obtain rfl := Option.some.inj H
     go_wp2
     repeat (go_quiet (fail); try go_wp2)
     go_ret
     exact ⟨by first | rfl | (simp [errW_none, errW_some] <;> rfl) | (simp [*, errW_none, errW_some] <;> rfl), by repeat (first | (with_reducible first | exact HB.out | apply below_alloc | apply pw_below_drewN | apply below_drew1) | exact HB.out)⟩

end Go.Proofs.Ytbjdnfgalopfiaa.PE
