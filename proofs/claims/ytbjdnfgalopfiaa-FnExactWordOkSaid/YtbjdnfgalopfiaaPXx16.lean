import Derived.Test.YtbjdnfgalopfiaaPXx0
import Derived.Test.YtbjdnfgalopfiaaPXx15
namespace Go.Proofs.Ytbjdnfgalopfiaa.PX
open Go.RowKit Go.Proofs.YtbjdnfgalopfiaaW.PrintWords Go.Proofs.YtbjdnfgalopfiaaW.PrintLast Go.Proofs.YtbjdnfgalopfiaaW.PrintMore
attribute [local go_sem] max2_int min2_int max_two min_two max_three min_three max_four min_four
set_option linter.unusedVariables false
set_option linter.unusedSimpArgs false

def laws_eqPairS.l0 : Nat → List (S68) → List (S68) → Int → Option (Bool)
 | 0, _, _, _ => none
 | k + 1, x0, x1, x5 => if x5 < (x0.length : Int) then (if 0 ≤ x5 then (if x5 < (x1.length : Int) then ((laws_eqPair.f ((rd_T68 x0 x5).f0) ((rd_T68 x0 x5).f1) ((rd_T68 x1 x5).f0) ((rd_T68 x1 x5).f1)).bind fun t390003 => (if t390003 = true then (laws_eqPairS.l0 k x0 x1 (wrap64 (x5 + 1))) else (some false))) else (none)) else (none)) else (some true)
def laws_eqPairS.f (k : Nat) (l0 : List (S68)) (l1 : List (S68)) : Option (Bool) := if (l0.length : Int) = (l1.length : Int) then (laws_eqPairS.l0 k l0 l1 0) else (some false)
theorem laws_eqPairS.mono_l : ∀ k, (∀ y0 y1 y2, LeO (laws_eqPairS.l0 k y0 y1 y2) (laws_eqPairS.l0 (k + 1) y0 y1 y2))
 | 0 => fun _ _ _ r h => by simp [laws_eqPairS.l0] at h
 | k + 1 => by
  have ih0 := laws_eqPairS.mono_l k
  ·intro y0 y1 y2
   unfold laws_eqPairS.l0
   repeat' first
   | (with_reducible exact ih0 _ _ _)
   | (with_reducible exact LeO.refl _)
   | (with_reducible exact LeO.none _)
   | (with_reducible refine LeO.ite ?_ ?_)
   | (with_reducible refine LeO.bind ?_ (fun _ => ?_))
   | exact ih0 _ _ _
   | exact LeO.none _
   | refine LeO.ite ?_ ?_
   | refine LeO.bind ?_ (fun _ => ?_)
theorem laws_eqPairS.mono : ∀ a0 a1 k, LeO (laws_eqPairS.f k a0 a1) (laws_eqPairS.f (k + 1) a0 a1) := by
 intro a0 a1 k
 have ih0 := laws_eqPairS.mono_l k
 unfold laws_eqPairS.f
 repeat' first
  | (with_reducible exact ih0 _ _ _)
  | (with_reducible exact LeO.refl _)
  | (with_reducible exact LeO.none _)
  | (with_reducible refine LeO.ite ?_ ?_)
  | (with_reducible refine LeO.bind ?_ (fun _ => ?_))
  | exact ih0 _ _ _
  | exact LeO.none _
  | refine LeO.ite ?_ ?_
  | refine LeO.bind ?_ (fun _ => ?_)
def laws_eqPairS.T6 : Bool × List (List Nat × List Nat) := (true, [([], []), ([], []), ([0, 1], [0, 1]), ([2], [2]), ([], []), ([], []), ([4, 5], [4, 5]), ([6], [6]), ([3, 7], [3, 7]), ([8], [8])])
def laws_eqPairS.B6 : List Nat := [0, 0, 3, 7, 0, 0, 48, 112, 255, 511]
theorem laws_eqPairS.tab6 : rtab .any (opsOf Try.f38 6) = laws_eqPairS.T6 := by kernel_rfl
theorem laws_eqPairS.bits6 : waitsOk laws_eqPairS.T6.2 laws_eqPairS.B6 = true := by kernel_rfl
set_option maxHeartbeats 8000000 in
set_option maxRecDepth 100000 in
theorem laws_eqPairS.calls (k : Nat) (A0 : Option Addr) (c0 : Nat) (l0 : List (S68)) (A1 : Option Addr) (c1 : Nat) (l1 : List (S68)) (r : Bool) (w : World) (hr0 : Kd.C k68 w A0 l0.length l0) (hc0 : l0.length ≤ c0) (hr1 : Kd.C k68 w A1 l1.length l1) (hc1 : l1.length ≤ c1) (h : laws_eqPairS.f k l0 l1 = some r) :
 Calls Try.prog 38 #[.slice A0 l0.length c0, .slice A1 l1.length c1] w fun e w' => e = .returned (.bool r) ∧ Below w.heap.size w w' := by
 have hu68 := Try.underlying68
 have HR0 := Aside0.mk hr0
 have HC0 := Aside0.mk hc0
 clear hr0 hc0
 have HR1 := Aside0.mk hr1
 have HC1 := Aside0.mk hc1
 clear hr1 hc1
 have HB := Aside0.mk (Below.refl w.heap.size w)
 have H : (if (l0.length : Int) = (l1.length : Int) then (laws_eqPairS.l0 k l0 l1 0) else (some false)) = some r := h
 clear h
 by_cases c3 : (l0.length : Int) = (l1.length : Int)
 ·rw [if_pos c3] at H
  have c3b0 : ((l0.length : Int) == (l1.length : Int)) = true := beq_iff_eq.mpr c3
  have c3b1 : ((l0.length : Int) != (l1.length : Int)) = false := bne_eq_false_iff_eq.mpr c3
  have c3b2 : (l0.length == l1.length) = true := by first | simpa using c3 | (simp at c3 ⊢; omega)
  clear c3
  have H' := Aside0.mk H
  clear H
  go_enter Try.func38, Try.ntmps38
  go_wp2
  go_loopg [5] k (fun kq v5 w' => ∃ (x5_1 : Int), v5 = .int .i64 x5_1 ∧ Aside0 (laws_eqPairS.l0 kq l0 l1 x5_1 = some r) ∧ Aside0 (kq ≤ k) ∧ Aside0 (Below w.heap.size w w'))
  case atStart => exact ⟨(0), (by first | rfl | (simp; done) | (simp [*]; done)), H', ⟨Nat.le_refl _⟩, ⟨by repeat (first | (with_reducible first | exact HB.out | apply below_alloc | apply pw_below_drewN | apply below_drew1) | exact HB.out)⟩⟩
  case round =>
   clear H'
   try clear c1
   try clear p2
   try clear c3
   try clear c3b0
   try clear c3b1
   try clear c3b2
   obtain ⟨x5_1, rfl, HA, HK1, HB⟩ := hrel
   cases gk with
   | zero => exact absurd HA.out (by simp [laws_eqPairS.l0])
   | succ k1 =>
    have H := HA.out
    clear HA
    simp only [laws_eqPairS.l0] at H
    by_cases c4 : x5_1 < (l0.length : Int)
    ·rw [if_pos c4] at H
     have c4b0 : decide (x5_1 < (l0.length : Int)) = true := decide_eq_true c4
     clear c4
     by_cases c5 : 0 ≤ x5_1
     ·rw [if_pos c5] at H
      have c5b0 : decide (0 ≤ x5_1) = true := decide_eq_true c5
      clear c5
      by_cases c6 : x5_1 < (l1.length : Int)
      ·rw [if_pos c6] at H
       have c6b0 : decide (x5_1 < (l1.length : Int)) = true := decide_eq_true c6
       clear c6
       replace H := Option.bind_eq_some_iff.mp H
       obtain ⟨t390003, A70, H⟩ := H
       replace H : (if t390003 = true then (laws_eqPairS.l0 k1 l0 l1 (wrap64 (x5_1 + 1))) else (some false)) = some r := H
       have A7 := Aside0.mk A70
       clear A70
       by_cases c8 : t390003 = true
       ·subst c8
        have H1 : (laws_eqPairS.l0 k1 l0 l1 (wrap64 (x5_1 + 1))) = some r := by rw [if_pos rfl] at H; exact H
        clear H
        have H := H1
        clear H1
        have H' := Aside0.mk H
        clear H
        try go_wp2
        have n0_ := Aside0.mk (below_drew1 HB.out)
        clear HB
        have HB := n0_
        clear n0_
        have p390001 : 0 ≤ (x5_1 : Int) := of_decide_eq_true (by first | (with_reducible assumption) | assumption)
        have q390001 : x5_1 < (l0.length : Int) := of_decide_eq_true (by first | (with_reducible assumption) | assumption)
        obtain ⟨ad390001, e390001, hx390001_0, hx390001_1⟩ := at_T68 HR0.out x5_1 p390001 q390001
        have hw390001_1 := hx390001_1
        have hw390001_0 := hx390001_0
        cases e390001
        replace hx390001_0 := (HB.out.cell (World.block_lt_of_cell? w _ hx390001_0)).trans hx390001_0
        replace hx390001_1 := (HB.out.cell (World.block_lt_of_cell? w _ hx390001_1)).trans hx390001_1
        replace p390001 := eq_true p390001
        replace q390001 := eq_true q390001
        have p390002 : 0 ≤ (x5_1 : Int) := of_decide_eq_true (by first | (with_reducible assumption) | assumption)
        have q390002 : x5_1 < (l1.length : Int) := of_decide_eq_true (by first | (with_reducible assumption) | assumption)
        obtain ⟨ad390002, e390002, hx390002_0, hx390002_1⟩ := at_T68 HR1.out x5_1 p390002 q390002
        have hw390002_1 := hx390002_1
        have hw390002_0 := hx390002_0
        cases e390002
        replace hx390002_0 := (HB.out.cell (World.block_lt_of_cell? w _ hx390002_0)).trans hx390002_0
        replace hx390002_1 := (HB.out.cell (World.block_lt_of_cell? w _ hx390002_1)).trans hx390002_1
        replace p390002 := eq_true p390002
        replace q390002 := eq_true q390002
        refine start_ (n := 10) (S := fun w' => w'.cell? (ad390001.add ((x5_1).toNat * 2)) = some (.int .i64 ((rd_T68 l0 x5_1).f0)) ∧ w'.cell? ⟨(ad390001.add ((x5_1).toNat * 2)).block, (ad390001.add ((x5_1).toNat * 2)).off + 1, none⟩ = some (.int .i64 ((rd_T68 l0 x5_1).f1)) ∧ w'.cell? (ad390002.add ((x5_1).toNat * 2)) = some (.int .i64 ((rd_T68 l1 x5_1).f0)) ∧ w'.cell? ⟨(ad390002.add ((x5_1).toNat * 2)).block, (ad390002.add ((x5_1).toNat * 2)).off + 1, none⟩ = some (.int .i64 ((rd_T68 l1 x5_1).f1))) (ds := []) (bt_ 10 0) (by kernel_rfl) rfl rfl ⟨((HB.out.cell (World.block_lt_of_cell? w _ hw390001_0)).trans hw390001_0), ((HB.out.cell (World.block_lt_of_cell? w _ hw390001_1)).trans hw390001_1), ((HB.out.cell (World.block_lt_of_cell? w _ hw390002_0)).trans hw390002_0), ((HB.out.cell (World.block_lt_of_cell? w _ hw390002_1)).trans hw390002_1)⟩ (fun hHeld => ?_); refine with_tabW laws_eqPairS.tab6 laws_eqPairS.bits6 (fun HT_ HW_ => ?_)
        generalize wr.drew = w9 at HB hx390001_0 hx390001_1 hx390002_0 hx390002_1 hHeld ⊢
        refine pu_ 0 (some 17) (bt_ 10 1) (any_of HT_.out (by kernel_rfl)) ?_
        refine pu_ 1 (some 18) (bt_ 10 3) (any_of HT_.out (by kernel_rfl)) ?_
        refine pu_ 2 (some 19) (bt_ 10 7) (any_of HT_.out (by kernel_rfl)) ?_
        refine pu_ 4 (some 21) (bt_ 10 23) (any_of HT_.out (by kernel_rfl)) ?_
        refine pu_ 5 (some 22) (bt_ 10 55) (any_of HT_.out (by kernel_rfl)) ?_
        refine pu_ 6 (some 23) (bt_ 10 119) (any_of HT_.out (by kernel_rfl)) ?_
        refine tk_ 3 (some 20) (bt_ 10 127) (take_ofW HT_.out HW_.out (by kernel_rfl)) hHeld ?_
        refine tk_ 7 (some 24) (bt_ 10 255) (take_ofW HT_.out HW_.out (by kernel_rfl)) hHeld ?_
        refine one_ (i := 8) (N := some 25) (bt_ 10 511) rfl rfl (one_of HT_.out (by kernel_rfl)) (by decide) (fun K hK => ?_)
        refine goes_ Try.func57 (by kernel_rfl) rfl #[.agg #[.int .i64 ((rd_T68 l0 x5_1).f0), .int .i64 ((rd_T68 l0 x5_1).f1)], .agg #[.int .i64 ((rd_T68 l1 x5_1).f0), .int .i64 ((rd_T68 l1 x5_1).f1)]] (by rfl) rfl rfl (by (try simp only [List.map_toArray, List.map_cons, List.map_nil]); first | done | rfl | (simp only [List.length_drop, List.length_take]; rfl)) ?_
        with_reducible refine (laws_eqPair.calls ((rd_T68 l0 x5_1).f0) ((rd_T68 l0 x5_1).f1) ((rd_T68 l1 x5_1).f0) ((rd_T68 l1 x5_1).f1) true _ A7.out).mono ?_
        rintro e w10 ⟨rfl, hb⟩
        refine ⟨_, rfl, ?_⟩
        have n0_ := Aside0.mk (below_step (by repeat (first | (with_reducible first | exact HB.out | apply below_alloc | apply pw_below_drewN | apply below_drew1) | exact HB.out)) hb)
        clear HB
        have HB := n0_
        clear n0_
        (try clear hb)
        (try clear hb2)
        (try clear hk)
        (try clear hi)
        refine hK.out _ _ ⟨((HB.out.cell (World.block_lt_of_cell? w _ hw390001_0)).trans hw390001_0), ((HB.out.cell (World.block_lt_of_cell? w _ hw390001_1)).trans hw390001_1), ((HB.out.cell (World.block_lt_of_cell? w _ hw390002_0)).trans hw390002_0), ((HB.out.cell (World.block_lt_of_cell? w _ hw390002_1)).trans hw390002_1)⟩ (fun hHeld => ?_)
        clear hK K
        refine norm_ (a' := ?_) ?_ ?_
        rotate_left
        ·show Act.put _ (some 25) _ = _
         simp only [Act.put, List.setIfInBounds_toArray, List.set_cons_zero, List.set_cons_succ, i64_w, i32_w]
         rfl
        refine pu_ 9 (some 26) (bt_ 10 1023) (any_of HT_.out (by kernel_rfl)) ?_
        refine done_ (done_of HT_.out (by kernel_rfl)) ?_
        try go_wp2
        go_roundg k1
        case measure => have := HK1.out; omega
        case rel => exact ⟨(wrap64 (x5_1 + 1)), (by first | rfl | (simp; done) | (simp [*]; done)), H', ⟨by have := HK1.out; omega⟩, ⟨by repeat (first | (with_reducible first | exact HB.out | apply below_alloc | apply pw_below_drewN | apply below_drew1) | exact HB.out)⟩⟩
       ·replace c8 := Bool.eq_false_iff.mpr c8
        subst c8
        have H1 : (some false) = some r := by rw [if_neg (show ¬ (false = true) by decide)] at H; exact H
        clear H
        have H := H1
        clear H1
        obtain rfl := Option.some.inj H
        try go_wp2
        have n0_ := Aside0.mk (below_drew1 HB.out)
        clear HB
        have HB := n0_
        clear n0_
        have p390001 : 0 ≤ (x5_1 : Int) := of_decide_eq_true (by first | (with_reducible assumption) | assumption)
        have q390001 : x5_1 < (l0.length : Int) := of_decide_eq_true (by first | (with_reducible assumption) | assumption)
        obtain ⟨ad390001, e390001, hx390001_0, hx390001_1⟩ := at_T68 HR0.out x5_1 p390001 q390001
        have hw390001_1 := hx390001_1
        have hw390001_0 := hx390001_0
        cases e390001
        replace hx390001_0 := (HB.out.cell (World.block_lt_of_cell? w _ hx390001_0)).trans hx390001_0
        replace hx390001_1 := (HB.out.cell (World.block_lt_of_cell? w _ hx390001_1)).trans hx390001_1
        replace p390001 := eq_true p390001
        replace q390001 := eq_true q390001
        have p390002 : 0 ≤ (x5_1 : Int) := of_decide_eq_true (by first | (with_reducible assumption) | assumption)
        have q390002 : x5_1 < (l1.length : Int) := of_decide_eq_true (by first | (with_reducible assumption) | assumption)
        obtain ⟨ad390002, e390002, hx390002_0, hx390002_1⟩ := at_T68 HR1.out x5_1 p390002 q390002
        have hw390002_1 := hx390002_1
        have hw390002_0 := hx390002_0
        cases e390002
        replace hx390002_0 := (HB.out.cell (World.block_lt_of_cell? w _ hx390002_0)).trans hx390002_0
        replace hx390002_1 := (HB.out.cell (World.block_lt_of_cell? w _ hx390002_1)).trans hx390002_1
        replace p390002 := eq_true p390002
        replace q390002 := eq_true q390002
        refine start_ (n := 10) (S := fun w' => w'.cell? (ad390001.add ((x5_1).toNat * 2)) = some (.int .i64 ((rd_T68 l0 x5_1).f0)) ∧ w'.cell? ⟨(ad390001.add ((x5_1).toNat * 2)).block, (ad390001.add ((x5_1).toNat * 2)).off + 1, none⟩ = some (.int .i64 ((rd_T68 l0 x5_1).f1)) ∧ w'.cell? (ad390002.add ((x5_1).toNat * 2)) = some (.int .i64 ((rd_T68 l1 x5_1).f0)) ∧ w'.cell? ⟨(ad390002.add ((x5_1).toNat * 2)).block, (ad390002.add ((x5_1).toNat * 2)).off + 1, none⟩ = some (.int .i64 ((rd_T68 l1 x5_1).f1))) (ds := []) (bt_ 10 0) (by kernel_rfl) rfl rfl ⟨((HB.out.cell (World.block_lt_of_cell? w _ hw390001_0)).trans hw390001_0), ((HB.out.cell (World.block_lt_of_cell? w _ hw390001_1)).trans hw390001_1), ((HB.out.cell (World.block_lt_of_cell? w _ hw390002_0)).trans hw390002_0), ((HB.out.cell (World.block_lt_of_cell? w _ hw390002_1)).trans hw390002_1)⟩ (fun hHeld => ?_); refine with_tabW laws_eqPairS.tab6 laws_eqPairS.bits6 (fun HT_ HW_ => ?_)
        generalize wr.drew = w11 at HB hx390001_0 hx390001_1 hx390002_0 hx390002_1 hHeld ⊢
        refine pu_ 0 (some 17) (bt_ 10 1) (any_of HT_.out (by kernel_rfl)) ?_
        refine pu_ 1 (some 18) (bt_ 10 3) (any_of HT_.out (by kernel_rfl)) ?_
        refine pu_ 2 (some 19) (bt_ 10 7) (any_of HT_.out (by kernel_rfl)) ?_
        refine pu_ 4 (some 21) (bt_ 10 23) (any_of HT_.out (by kernel_rfl)) ?_
        refine pu_ 5 (some 22) (bt_ 10 55) (any_of HT_.out (by kernel_rfl)) ?_
        refine pu_ 6 (some 23) (bt_ 10 119) (any_of HT_.out (by kernel_rfl)) ?_
        refine tk_ 3 (some 20) (bt_ 10 127) (take_ofW HT_.out HW_.out (by kernel_rfl)) hHeld ?_
        refine tk_ 7 (some 24) (bt_ 10 255) (take_ofW HT_.out HW_.out (by kernel_rfl)) hHeld ?_
        refine one_ (i := 8) (N := some 25) (bt_ 10 511) rfl rfl (one_of HT_.out (by kernel_rfl)) (by decide) (fun K hK => ?_)
        refine goes_ Try.func57 (by kernel_rfl) rfl #[.agg #[.int .i64 ((rd_T68 l0 x5_1).f0), .int .i64 ((rd_T68 l0 x5_1).f1)], .agg #[.int .i64 ((rd_T68 l1 x5_1).f0), .int .i64 ((rd_T68 l1 x5_1).f1)]] (by rfl) rfl rfl (by (try simp only [List.map_toArray, List.map_cons, List.map_nil]); first | done | rfl | (simp only [List.length_drop, List.length_take]; rfl)) ?_
        with_reducible refine (laws_eqPair.calls ((rd_T68 l0 x5_1).f0) ((rd_T68 l0 x5_1).f1) ((rd_T68 l1 x5_1).f0) ((rd_T68 l1 x5_1).f1) false _ A7.out).mono ?_
        rintro e w12 ⟨rfl, hb⟩
        refine ⟨_, rfl, ?_⟩
        have n0_ := Aside0.mk (below_step (by repeat (first | (with_reducible first | exact HB.out | apply below_alloc | apply pw_below_drewN | apply below_drew1) | exact HB.out)) hb)
        clear HB
        have HB := n0_
        clear n0_
        (try clear hb)
        (try clear hb2)
        (try clear hk)
        (try clear hi)
        refine hK.out _ _ ⟨((HB.out.cell (World.block_lt_of_cell? w _ hw390001_0)).trans hw390001_0), ((HB.out.cell (World.block_lt_of_cell? w _ hw390001_1)).trans hw390001_1), ((HB.out.cell (World.block_lt_of_cell? w _ hw390002_0)).trans hw390002_0), ((HB.out.cell (World.block_lt_of_cell? w _ hw390002_1)).trans hw390002_1)⟩ (fun hHeld => ?_)
        clear hK K
        refine norm_ (a' := ?_) ?_ ?_
        rotate_left
        ·show Act.put _ (some 25) _ = _
         simp only [Act.put, List.setIfInBounds_toArray, List.set_cons_zero, List.set_cons_succ, i64_w, i32_w]
         rfl
        refine pu_ 9 (some 26) (bt_ 10 1023) (any_of HT_.out (by kernel_rfl)) ?_
        refine done_ (done_of HT_.out (by kernel_rfl)) ?_
        try go_wp2
        go_ret
        exact ⟨by first | rfl | (simp [errW_none, errW_some] <;> rfl) | (simp [*, errW_none, errW_some] <;> rfl), by repeat (first | (with_reducible first | exact HB.out | apply below_alloc | apply pw_below_drewN | apply below_drew1) | exact HB.out)⟩
      ·rw [if_neg c6] at H
       exact absurd H (by simp)
     ·rw [if_neg c5] at H
      exact absurd H (by simp)
    ·rw [if_neg c4] at H
     have c4b0 : decide (x5_1 < (l0.length : Int)) = false := decide_eq_false c4
     clear c4
     obtain rfl := Option.some.inj H
     go_wp2
     go_ret
     exact ⟨by first | rfl | (simp [errW_none, errW_some] <;> rfl) | (simp [*, errW_none, errW_some] <;> rfl), by repeat (first | (with_reducible first | exact HB.out | apply below_alloc | apply pw_below_drewN | apply below_drew1) | exact HB.out)⟩
 ·rw [if_neg c3] at H
  have c3b0 : ((l0.length : Int) == (l1.length : Int)) = false := beq_eq_false_iff_ne.mpr c3
  have c3b1 : ((l0.length : Int) != (l1.length : Int)) = true := bne_iff_ne.mpr c3
  have c3b2 : (l0.length == l1.length) = false := by first | simpa using c3 | (simp at c3 ⊢; omega)
  obtain rfl := Option.some.inj H
  go_enter Try.func38, Try.ntmps38
  go_wp2
  go_ret
  exact ⟨by first | rfl | (simp [errW_none, errW_some] <;> rfl) | (simp [*, errW_none, errW_some] <;> rfl), by repeat (first | (with_reducible first | exact HB.out | apply below_alloc | apply pw_below_drewN | apply below_drew1) | exact HB.out)⟩

def laws_eqCall.f (a0_0 : Int) (a0_1 : Int) (a0_2 : Int) (a0_3 : ByteArray) (a0_4 : Int) (a0_5 : Int) (a1_0 : Int) (a1_1 : Int) (a1_2 : Int) (a1_3 : ByteArray) (a1_4 : Int) (a1_5 : Int) : Option (Bool) := if a0_0 = a1_0 then (if a0_1 = a1_1 then (if a0_2 = a1_2 then (if a0_3.toList = a1_3.toList then (if a0_4 = a1_4 then (if a0_5 = a1_5 then (some true) else (some false)) else (some false)) else (some false)) else (some false)) else (some false)) else (some false)
set_option maxHeartbeats 8000000 in
set_option maxRecDepth 100000 in
theorem laws_eqCall.calls (a0_0 : Int) (a0_1 : Int) (a0_2 : Int) (a0_3 : ByteArray) (a0_4 : Int) (a0_5 : Int) (a1_0 : Int) (a1_1 : Int) (a1_2 : Int) (a1_3 : ByteArray) (a1_4 : Int) (a1_5 : Int) (r : Bool) (w : World) (h : laws_eqCall.f a0_0 a0_1 a0_2 a0_3 a0_4 a0_5 a1_0 a1_1 a1_2 a1_3 a1_4 a1_5 = some r) :
 Calls Try.prog 39 #[.agg #[.int .i64 a0_0, .int .i64 a0_1, .int .i64 a0_2, .string a0_3, .int .i64 a0_4, .int .i64 a0_5], .agg #[.int .i64 a1_0, .int .i64 a1_1, .int .i64 a1_2, .string a1_3, .int .i64 a1_4, .int .i64 a1_5]] w fun e w' => e = .returned (.bool r) ∧ Below w.heap.size w w' := by
 have hu31 := Try.underlying31
 have HB := Aside0.mk (Below.refl w.heap.size w)
 have H : (if a0_0 = a1_0 then (if a0_1 = a1_1 then (if a0_2 = a1_2 then (if a0_3.toList = a1_3.toList then (if a0_4 = a1_4 then (if a0_5 = a1_5 then (some true) else (some false)) else (some false)) else (some false)) else (some false)) else (some false)) else (some false)) = some r := h
 clear h
 by_cases c3 : a0_0 = a1_0
 ·rw [if_pos c3] at H
  have c3b0 : (a0_0 == a1_0) = true := beq_iff_eq.mpr c3
  have c3b1 : (a0_0 != a1_0) = false := bne_eq_false_iff_eq.mpr c3
  clear c3
  by_cases c4 : a0_1 = a1_1
  ·rw [if_pos c4] at H
   have c4b0 : (a0_1 == a1_1) = true := beq_iff_eq.mpr c4
   have c4b1 : (a0_1 != a1_1) = false := bne_eq_false_iff_eq.mpr c4
   clear c4
   by_cases c5 : a0_2 = a1_2
   ·rw [if_pos c5] at H
    have c5b0 : (a0_2 == a1_2) = true := beq_iff_eq.mpr c5
    have c5b1 : (a0_2 != a1_2) = false := bne_eq_false_iff_eq.mpr c5
    clear c5
    by_cases c6 : a0_3.toList = a1_3.toList
    ·rw [if_pos c6] at H
     have c6b0 : (a0_3.toList == a1_3.toList) = true := beq_iff_eq.mpr c6
     have c6b1 : (a0_3.toList != a1_3.toList) = false := bne_eq_false_iff_eq.mpr c6
     clear c6
     by_cases c7 : a0_4 = a1_4
     ·rw [if_pos c7] at H
      have c7b0 : (a0_4 == a1_4) = true := beq_iff_eq.mpr c7
      have c7b1 : (a0_4 != a1_4) = false := bne_eq_false_iff_eq.mpr c7
      clear c7
      by_cases c8 : a0_5 = a1_5
      ·rw [if_pos c8] at H
       have c8b0 : (a0_5 == a1_5) = true := beq_iff_eq.mpr c8
       have c8b1 : (a0_5 != a1_5) = false := bne_eq_false_iff_eq.mpr c8
       clear c8
       obtain rfl := Option.some.inj H
       go_enter Try.func39, Try.ntmps39
       go_wp2_with (first | ((with_reducible refine gate_dst (N := 2) rfl ?_); refine box_event ?hg (N := 2) ?hd (cs := #[.int .i64 a0_0, .int .i64 a0_1, .int .i64 a0_2, .string a0_3, .int .i64 a0_4, .int .i64 a0_5]) (t := 31) ?hr ?_; (case hd => rfl); (case hg => rfl); (case hr => first | (go_simp; done) | (go_simp; rfl)); intro gb400001 hg w9 hbox hb; have n0_ := Aside0.mk (below_step (by repeat (first | (with_reducible first | exact HB.out | apply below_alloc | apply pw_below_drewN | apply below_drew1) | exact HB.out)) hb); have n1_ := Aside0.mk (hbox); have n2_ := Aside0.mk ((by rw [hg]; exact (below_size (by repeat (first | (with_reducible first | exact HB.out | apply below_alloc | apply pw_below_drewN | apply below_drew1) | exact HB.out))) : w.heap.size ≤ gb400001)); have n3_ := Aside0.mk ((by rw [hg]; exact (below_size (by repeat (first | (with_reducible first | exact HB.out | apply below_alloc | apply pw_below_drewN | apply below_drew1) | exact HB.out))) : w.heap.size ≤ gb400001)); clear HB; have HB := n0_; have BK400001 := n1_; have GW400001 := n2_; have GE400001 := n3_; clear n0_ n1_ n2_ n3_; clear hb hbox hg) | ((with_reducible refine gate_dst (N := 3) rfl ?_); refine box_event ?hg (N := 3) ?hd (cs := #[.int .i64 a1_0, .int .i64 a1_1, .int .i64 a1_2, .string a1_3, .int .i64 a1_4, .int .i64 a1_5]) (t := 31) ?hr ?_; (case hd => rfl); (case hg => rfl); (case hr => first | (go_simp; done) | (go_simp; rfl)); intro gb400002 hg w10 hbox hb; have n0_ := Aside0.mk (blk_below (g := gb400001) (o := .cells #[.int .i64 a0_0, .int .i64 a0_1, .int .i64 a0_2, .string a0_3, .int .i64 a0_4, .int .i64 a0_5] 31 (0, 0)) (by (with_reducible repeat (first | refine blk_drewN ?_ _ | refine blk_drew ?_ | refine blk_alloc ?_ _)); exact BK400001.out) hb); have n1_ := Aside0.mk (below_step (by repeat (first | (with_reducible first | exact HB.out | apply below_alloc | apply pw_below_drewN | apply below_drew1 | refine below_set ?_ GE400001.out) | exact HB.out)) hb); have n2_ := Aside0.mk (hbox); have n3_ := Aside0.mk ((by rw [hg]; exact (below_size (by repeat (first | (with_reducible first | exact HB.out | apply below_alloc | apply pw_below_drewN | apply below_drew1 | refine below_set ?_ GE400001.out) | exact HB.out))) : w.heap.size ≤ gb400002)); have n4_ := Aside0.mk ((by rw [hg]; exact (below_size (by repeat (first | (with_reducible first | exact HB.out | apply below_alloc | apply pw_below_drewN | apply below_drew1 | refine below_set ?_ GE400001.out) | exact HB.out))) : w.heap.size ≤ gb400002)); have n5_ := Aside0.mk ((by rw [hg]; exact Nat.ne_of_lt (blk_lt (g := gb400001) (o := .cells #[.int .i64 a0_0, .int .i64 a0_1, .int .i64 a0_2, .string a0_3, .int .i64 a0_4, .int .i64 a0_5] 31 (0, 0)) (by (with_reducible repeat (first | refine blk_drewN ?_ _ | refine blk_drew ?_ | refine blk_alloc ?_ _)); exact BK400001.out)) : gb400001 ≠ gb400002)); have n6_ := Aside0.mk ((by rw [hg]; exact Nat.ne_of_gt (blk_lt (g := gb400001) (o := .cells #[.int .i64 a0_0, .int .i64 a0_1, .int .i64 a0_2, .string a0_3, .int .i64 a0_4, .int .i64 a0_5] 31 (0, 0)) (by (with_reducible repeat (first | refine blk_drewN ?_ _ | refine blk_drew ?_ | refine blk_alloc ?_ _)); exact BK400001.out)) : gb400002 ≠ gb400001)); clear BK400001; clear HB; have BK400001 := n0_; have HB := n1_; have BK400002 := n2_; have GW400002 := n3_; have GE400002 := n4_; have NB400001_400002 := n5_; have NB400002_400001 := n6_; clear n0_ n1_ n2_ n3_ n4_ n5_ n6_; clear hb hbox hg; have hnb11 := NB400001_400002.out; have hnc11 := NB400002_400001.out; have hcz12_0 : w10.cell? ⟨gb400001, 0, none⟩ = some (.int .i64 a0_0) := (blk_cell BK400001.out 0).trans rfl; have hcz12_1 : w10.cell? ⟨gb400001, 1, none⟩ = some (.int .i64 a0_1) := (blk_cell BK400001.out 1).trans rfl; have hcz12_2 : w10.cell? ⟨gb400001, 2, none⟩ = some (.int .i64 a0_2) := (blk_cell BK400001.out 2).trans rfl; have hcz12_3 : w10.cell? ⟨gb400001, 3, none⟩ = some (.string a0_3) := (blk_cell BK400001.out 3).trans rfl; have hcz12_4 : w10.cell? ⟨gb400001, 4, none⟩ = some (.int .i64 a0_4) := (blk_cell BK400001.out 4).trans rfl; have hcz12_5 : w10.cell? ⟨gb400001, 5, none⟩ = some (.int .i64 a0_5) := (blk_cell BK400001.out 5).trans rfl; have hfz12_0 := blk_frozen BK400001.out 0; have hfz12_1 := blk_frozen BK400001.out 1; have hfz12_2 := blk_frozen BK400001.out 2; have hfz12_3 := blk_frozen BK400001.out 3; have hfz12_4 := blk_frozen BK400001.out 4; have hfz12_5 := blk_frozen BK400001.out 5; have hcz13_0 : w10.cell? ⟨gb400002, 0, none⟩ = some (.int .i64 a1_0) := (blk_cell BK400002.out 0).trans rfl; have hcz13_1 : w10.cell? ⟨gb400002, 1, none⟩ = some (.int .i64 a1_1) := (blk_cell BK400002.out 1).trans rfl; have hcz13_2 : w10.cell? ⟨gb400002, 2, none⟩ = some (.int .i64 a1_2) := (blk_cell BK400002.out 2).trans rfl; have hcz13_3 : w10.cell? ⟨gb400002, 3, none⟩ = some (.string a1_3) := (blk_cell BK400002.out 3).trans rfl; have hcz13_4 : w10.cell? ⟨gb400002, 4, none⟩ = some (.int .i64 a1_4) := (blk_cell BK400002.out 4).trans rfl; have hcz13_5 : w10.cell? ⟨gb400002, 5, none⟩ = some (.int .i64 a1_5) := (blk_cell BK400002.out 5).trans rfl; have hfz13_0 := blk_frozen BK400002.out 0; have hfz13_1 := blk_frozen BK400002.out 1; have hfz13_2 := blk_frozen BK400002.out 2; have hfz13_3 := blk_frozen BK400002.out 3; have hfz13_4 := blk_frozen BK400002.out 4; have hfz13_5 := blk_frozen BK400002.out 5))
       go_ret
       exact ⟨by first | rfl | (simp [errW_none, errW_some] <;> rfl) | (simp [*, errW_none, errW_some] <;> rfl), by repeat (first | (with_reducible first | exact HB.out | apply below_alloc | apply pw_below_drewN | apply below_drew1 | refine below_set ?_ GE400001.out | refine below_set ?_ GE400002.out) | exact HB.out)⟩
      ·rw [if_neg c8] at H
       have c8b0 : (a0_5 == a1_5) = false := beq_eq_false_iff_ne.mpr c8
       have c8b1 : (a0_5 != a1_5) = true := bne_iff_ne.mpr c8
       obtain rfl := Option.some.inj H
       go_enter Try.func39, Try.ntmps39
       go_wp2_with (first | ((with_reducible refine gate_dst (N := 2) rfl ?_); refine box_event ?hg (N := 2) ?hd (cs := #[.int .i64 a0_0, .int .i64 a0_1, .int .i64 a0_2, .string a0_3, .int .i64 a0_4, .int .i64 a0_5]) (t := 31) ?hr ?_; (case hd => rfl); (case hg => rfl); (case hr => first | (go_simp; done) | (go_simp; rfl)); intro gb400001 hg w14 hbox hb; have n0_ := Aside0.mk (below_step (by repeat (first | (with_reducible first | exact HB.out | apply below_alloc | apply pw_below_drewN | apply below_drew1) | exact HB.out)) hb); have n1_ := Aside0.mk (hbox); have n2_ := Aside0.mk ((by rw [hg]; exact (below_size (by repeat (first | (with_reducible first | exact HB.out | apply below_alloc | apply pw_below_drewN | apply below_drew1) | exact HB.out))) : w.heap.size ≤ gb400001)); have n3_ := Aside0.mk ((by rw [hg]; exact (below_size (by repeat (first | (with_reducible first | exact HB.out | apply below_alloc | apply pw_below_drewN | apply below_drew1) | exact HB.out))) : w.heap.size ≤ gb400001)); clear HB; have HB := n0_; have BK400001 := n1_; have GW400001 := n2_; have GE400001 := n3_; clear n0_ n1_ n2_ n3_; clear hb hbox hg) | ((with_reducible refine gate_dst (N := 3) rfl ?_); refine box_event ?hg (N := 3) ?hd (cs := #[.int .i64 a1_0, .int .i64 a1_1, .int .i64 a1_2, .string a1_3, .int .i64 a1_4, .int .i64 a1_5]) (t := 31) ?hr ?_; (case hd => rfl); (case hg => rfl); (case hr => first | (go_simp; done) | (go_simp; rfl)); intro gb400002 hg w15 hbox hb; have n0_ := Aside0.mk (blk_below (g := gb400001) (o := .cells #[.int .i64 a0_0, .int .i64 a0_1, .int .i64 a0_2, .string a0_3, .int .i64 a0_4, .int .i64 a0_5] 31 (0, 0)) (by (with_reducible repeat (first | refine blk_drewN ?_ _ | refine blk_drew ?_ | refine blk_alloc ?_ _)); exact BK400001.out) hb); have n1_ := Aside0.mk (below_step (by repeat (first | (with_reducible first | exact HB.out | apply below_alloc | apply pw_below_drewN | apply below_drew1 | refine below_set ?_ GE400001.out) | exact HB.out)) hb); have n2_ := Aside0.mk (hbox); have n3_ := Aside0.mk ((by rw [hg]; exact (below_size (by repeat (first | (with_reducible first | exact HB.out | apply below_alloc | apply pw_below_drewN | apply below_drew1 | refine below_set ?_ GE400001.out) | exact HB.out))) : w.heap.size ≤ gb400002)); have n4_ := Aside0.mk ((by rw [hg]; exact (below_size (by repeat (first | (with_reducible first | exact HB.out | apply below_alloc | apply pw_below_drewN | apply below_drew1 | refine below_set ?_ GE400001.out) | exact HB.out))) : w.heap.size ≤ gb400002)); have n5_ := Aside0.mk ((by rw [hg]; exact Nat.ne_of_lt (blk_lt (g := gb400001) (o := .cells #[.int .i64 a0_0, .int .i64 a0_1, .int .i64 a0_2, .string a0_3, .int .i64 a0_4, .int .i64 a0_5] 31 (0, 0)) (by (with_reducible repeat (first | refine blk_drewN ?_ _ | refine blk_drew ?_ | refine blk_alloc ?_ _)); exact BK400001.out)) : gb400001 ≠ gb400002)); have n6_ := Aside0.mk ((by rw [hg]; exact Nat.ne_of_gt (blk_lt (g := gb400001) (o := .cells #[.int .i64 a0_0, .int .i64 a0_1, .int .i64 a0_2, .string a0_3, .int .i64 a0_4, .int .i64 a0_5] 31 (0, 0)) (by (with_reducible repeat (first | refine blk_drewN ?_ _ | refine blk_drew ?_ | refine blk_alloc ?_ _)); exact BK400001.out)) : gb400002 ≠ gb400001)); clear BK400001; clear HB; have BK400001 := n0_; have HB := n1_; have BK400002 := n2_; have GW400002 := n3_; have GE400002 := n4_; have NB400001_400002 := n5_; have NB400002_400001 := n6_; clear n0_ n1_ n2_ n3_ n4_ n5_ n6_; clear hb hbox hg; have hnb16 := NB400001_400002.out; have hnc16 := NB400002_400001.out; have hcz17_0 : w15.cell? ⟨gb400001, 0, none⟩ = some (.int .i64 a0_0) := (blk_cell BK400001.out 0).trans rfl; have hcz17_1 : w15.cell? ⟨gb400001, 1, none⟩ = some (.int .i64 a0_1) := (blk_cell BK400001.out 1).trans rfl; have hcz17_2 : w15.cell? ⟨gb400001, 2, none⟩ = some (.int .i64 a0_2) := (blk_cell BK400001.out 2).trans rfl; have hcz17_3 : w15.cell? ⟨gb400001, 3, none⟩ = some (.string a0_3) := (blk_cell BK400001.out 3).trans rfl; have hcz17_4 : w15.cell? ⟨gb400001, 4, none⟩ = some (.int .i64 a0_4) := (blk_cell BK400001.out 4).trans rfl; have hcz17_5 : w15.cell? ⟨gb400001, 5, none⟩ = some (.int .i64 a0_5) := (blk_cell BK400001.out 5).trans rfl; have hfz17_0 := blk_frozen BK400001.out 0; have hfz17_1 := blk_frozen BK400001.out 1; have hfz17_2 := blk_frozen BK400001.out 2; have hfz17_3 := blk_frozen BK400001.out 3; have hfz17_4 := blk_frozen BK400001.out 4; have hfz17_5 := blk_frozen BK400001.out 5; have hcz18_0 : w15.cell? ⟨gb400002, 0, none⟩ = some (.int .i64 a1_0) := (blk_cell BK400002.out 0).trans rfl; have hcz18_1 : w15.cell? ⟨gb400002, 1, none⟩ = some (.int .i64 a1_1) := (blk_cell BK400002.out 1).trans rfl; have hcz18_2 : w15.cell? ⟨gb400002, 2, none⟩ = some (.int .i64 a1_2) := (blk_cell BK400002.out 2).trans rfl; have hcz18_3 : w15.cell? ⟨gb400002, 3, none⟩ = some (.string a1_3) := (blk_cell BK400002.out 3).trans rfl; have hcz18_4 : w15.cell? ⟨gb400002, 4, none⟩ = some (.int .i64 a1_4) := (blk_cell BK400002.out 4).trans rfl; have hcz18_5 : w15.cell? ⟨gb400002, 5, none⟩ = some (.int .i64 a1_5) := (blk_cell BK400002.out 5).trans rfl; have hfz18_0 := blk_frozen BK400002.out 0; have hfz18_1 := blk_frozen BK400002.out 1; have hfz18_2 := blk_frozen BK400002.out 2; have hfz18_3 := blk_frozen BK400002.out 3; have hfz18_4 := blk_frozen BK400002.out 4; have hfz18_5 := blk_frozen BK400002.out 5))
       go_ret
       exact ⟨by first | rfl | (simp [errW_none, errW_some] <;> rfl) | (simp [*, errW_none, errW_some] <;> rfl), by repeat (first | (with_reducible first | exact HB.out | apply below_alloc | apply pw_below_drewN | apply below_drew1 | refine below_set ?_ GE400001.out | refine below_set ?_ GE400002.out) | exact HB.out)⟩
     ·rw [if_neg c7] at H
      have c7b0 : (a0_4 == a1_4) = false := beq_eq_false_iff_ne.mpr c7
      have c7b1 : (a0_4 != a1_4) = true := bne_iff_ne.mpr c7
      obtain rfl := Option.some.inj H
      go_enter Try.func39, Try.ntmps39
      go_wp2_with (first | ((with_reducible refine gate_dst (N := 2) rfl ?_); refine box_event ?hg (N := 2) ?hd (cs := #[.int .i64 a0_0, .int .i64 a0_1, .int .i64 a0_2, .string a0_3, .int .i64 a0_4, .int .i64 a0_5]) (t := 31) ?hr ?_; (case hd => rfl); (case hg => rfl); (case hr => first | (go_simp; done) | (go_simp; rfl)); intro gb400001 hg w19 hbox hb; have n0_ := Aside0.mk (below_step (by repeat (first | (with_reducible first | exact HB.out | apply below_alloc | apply pw_below_drewN | apply below_drew1) | exact HB.out)) hb); have n1_ := Aside0.mk (hbox); have n2_ := Aside0.mk ((by rw [hg]; exact (below_size (by repeat (first | (with_reducible first | exact HB.out | apply below_alloc | apply pw_below_drewN | apply below_drew1) | exact HB.out))) : w.heap.size ≤ gb400001)); have n3_ := Aside0.mk ((by rw [hg]; exact (below_size (by repeat (first | (with_reducible first | exact HB.out | apply below_alloc | apply pw_below_drewN | apply below_drew1) | exact HB.out))) : w.heap.size ≤ gb400001)); clear HB; have HB := n0_; have BK400001 := n1_; have GW400001 := n2_; have GE400001 := n3_; clear n0_ n1_ n2_ n3_; clear hb hbox hg) | ((with_reducible refine gate_dst (N := 3) rfl ?_); refine box_event ?hg (N := 3) ?hd (cs := #[.int .i64 a1_0, .int .i64 a1_1, .int .i64 a1_2, .string a1_3, .int .i64 a1_4, .int .i64 a1_5]) (t := 31) ?hr ?_; (case hd => rfl); (case hg => rfl); (case hr => first | (go_simp; done) | (go_simp; rfl)); intro gb400002 hg w20 hbox hb; have n0_ := Aside0.mk (blk_below (g := gb400001) (o := .cells #[.int .i64 a0_0, .int .i64 a0_1, .int .i64 a0_2, .string a0_3, .int .i64 a0_4, .int .i64 a0_5] 31 (0, 0)) (by (with_reducible repeat (first | refine blk_drewN ?_ _ | refine blk_drew ?_ | refine blk_alloc ?_ _)); exact BK400001.out) hb); have n1_ := Aside0.mk (below_step (by repeat (first | (with_reducible first | exact HB.out | apply below_alloc | apply pw_below_drewN | apply below_drew1 | refine below_set ?_ GE400001.out) | exact HB.out)) hb); have n2_ := Aside0.mk (hbox); have n3_ := Aside0.mk ((by rw [hg]; exact (below_size (by repeat (first | (with_reducible first | exact HB.out | apply below_alloc | apply pw_below_drewN | apply below_drew1 | refine below_set ?_ GE400001.out) | exact HB.out))) : w.heap.size ≤ gb400002)); have n4_ := Aside0.mk ((by rw [hg]; exact (below_size (by repeat (first | (with_reducible first | exact HB.out | apply below_alloc | apply pw_below_drewN | apply below_drew1 | refine below_set ?_ GE400001.out) | exact HB.out))) : w.heap.size ≤ gb400002)); have n5_ := Aside0.mk ((by rw [hg]; exact Nat.ne_of_lt (blk_lt (g := gb400001) (o := .cells #[.int .i64 a0_0, .int .i64 a0_1, .int .i64 a0_2, .string a0_3, .int .i64 a0_4, .int .i64 a0_5] 31 (0, 0)) (by (with_reducible repeat (first | refine blk_drewN ?_ _ | refine blk_drew ?_ | refine blk_alloc ?_ _)); exact BK400001.out)) : gb400001 ≠ gb400002)); have n6_ := Aside0.mk ((by rw [hg]; exact Nat.ne_of_gt (blk_lt (g := gb400001) (o := .cells #[.int .i64 a0_0, .int .i64 a0_1, .int .i64 a0_2, .string a0_3, .int .i64 a0_4, .int .i64 a0_5] 31 (0, 0)) (by (with_reducible repeat (first | refine blk_drewN ?_ _ | refine blk_drew ?_ | refine blk_alloc ?_ _)); exact BK400001.out)) : gb400002 ≠ gb400001)); clear BK400001; clear HB; have BK400001 := n0_; have HB := n1_; have BK400002 := n2_; have GW400002 := n3_; have GE400002 := n4_; have NB400001_400002 := n5_; have NB400002_400001 := n6_; clear n0_ n1_ n2_ n3_ n4_ n5_ n6_; clear hb hbox hg; have hnb21 := NB400001_400002.out; have hnc21 := NB400002_400001.out; have hcz22_0 : w20.cell? ⟨gb400001, 0, none⟩ = some (.int .i64 a0_0) := (blk_cell BK400001.out 0).trans rfl; have hcz22_1 : w20.cell? ⟨gb400001, 1, none⟩ = some (.int .i64 a0_1) := (blk_cell BK400001.out 1).trans rfl; have hcz22_2 : w20.cell? ⟨gb400001, 2, none⟩ = some (.int .i64 a0_2) := (blk_cell BK400001.out 2).trans rfl; have hcz22_3 : w20.cell? ⟨gb400001, 3, none⟩ = some (.string a0_3) := (blk_cell BK400001.out 3).trans rfl; have hcz22_4 : w20.cell? ⟨gb400001, 4, none⟩ = some (.int .i64 a0_4) := (blk_cell BK400001.out 4).trans rfl; have hcz22_5 : w20.cell? ⟨gb400001, 5, none⟩ = some (.int .i64 a0_5) := (blk_cell BK400001.out 5).trans rfl; have hfz22_0 := blk_frozen BK400001.out 0; have hfz22_1 := blk_frozen BK400001.out 1; have hfz22_2 := blk_frozen BK400001.out 2; have hfz22_3 := blk_frozen BK400001.out 3; have hfz22_4 := blk_frozen BK400001.out 4; have hfz22_5 := blk_frozen BK400001.out 5; have hcz23_0 : w20.cell? ⟨gb400002, 0, none⟩ = some (.int .i64 a1_0) := (blk_cell BK400002.out 0).trans rfl; have hcz23_1 : w20.cell? ⟨gb400002, 1, none⟩ = some (.int .i64 a1_1) := (blk_cell BK400002.out 1).trans rfl; have hcz23_2 : w20.cell? ⟨gb400002, 2, none⟩ = some (.int .i64 a1_2) := (blk_cell BK400002.out 2).trans rfl; have hcz23_3 : w20.cell? ⟨gb400002, 3, none⟩ = some (.string a1_3) := (blk_cell BK400002.out 3).trans rfl; have hcz23_4 : w20.cell? ⟨gb400002, 4, none⟩ = some (.int .i64 a1_4) := (blk_cell BK400002.out 4).trans rfl; have hcz23_5 : w20.cell? ⟨gb400002, 5, none⟩ = some (.int .i64 a1_5) := (blk_cell BK400002.out 5).trans rfl; have hfz23_0 := blk_frozen BK400002.out 0; have hfz23_1 := blk_frozen BK400002.out 1; have hfz23_2 := blk_frozen BK400002.out 2; have hfz23_3 := blk_frozen BK400002.out 3; have hfz23_4 := blk_frozen BK400002.out 4; have hfz23_5 := blk_frozen BK400002.out 5))
      go_ret
      exact ⟨by first | rfl | (simp [errW_none, errW_some] <;> rfl) | (simp [*, errW_none, errW_some] <;> rfl), by repeat (first | (with_reducible first | exact HB.out | apply below_alloc | apply pw_below_drewN | apply below_drew1 | refine below_set ?_ GE400001.out | refine below_set ?_ GE400002.out) | exact HB.out)⟩
    ·rw [if_neg c6] at H
     have c6b0 : (a0_3.toList == a1_3.toList) = false := beq_eq_false_iff_ne.mpr c6
     have c6b1 : (a0_3.toList != a1_3.toList) = true := bne_iff_ne.mpr c6
     obtain rfl := Option.some.inj H
     go_enter Try.func39, Try.ntmps39
     go_wp2_with (first | ((with_reducible refine gate_dst (N := 2) rfl ?_); refine box_event ?hg (N := 2) ?hd (cs := #[.int .i64 a0_0, .int .i64 a0_1, .int .i64 a0_2, .string a0_3, .int .i64 a0_4, .int .i64 a0_5]) (t := 31) ?hr ?_; (case hd => rfl); (case hg => rfl); (case hr => first | (go_simp; done) | (go_simp; rfl)); intro gb400001 hg w24 hbox hb; have n0_ := Aside0.mk (below_step (by repeat (first | (with_reducible first | exact HB.out | apply below_alloc | apply pw_below_drewN | apply below_drew1) | exact HB.out)) hb); have n1_ := Aside0.mk (hbox); have n2_ := Aside0.mk ((by rw [hg]; exact (below_size (by repeat (first | (with_reducible first | exact HB.out | apply below_alloc | apply pw_below_drewN | apply below_drew1) | exact HB.out))) : w.heap.size ≤ gb400001)); have n3_ := Aside0.mk ((by rw [hg]; exact (below_size (by repeat (first | (with_reducible first | exact HB.out | apply below_alloc | apply pw_below_drewN | apply below_drew1) | exact HB.out))) : w.heap.size ≤ gb400001)); clear HB; have HB := n0_; have BK400001 := n1_; have GW400001 := n2_; have GE400001 := n3_; clear n0_ n1_ n2_ n3_; clear hb hbox hg) | ((with_reducible refine gate_dst (N := 3) rfl ?_); refine box_event ?hg (N := 3) ?hd (cs := #[.int .i64 a1_0, .int .i64 a1_1, .int .i64 a1_2, .string a1_3, .int .i64 a1_4, .int .i64 a1_5]) (t := 31) ?hr ?_; (case hd => rfl); (case hg => rfl); (case hr => first | (go_simp; done) | (go_simp; rfl)); intro gb400002 hg w25 hbox hb; have n0_ := Aside0.mk (blk_below (g := gb400001) (o := .cells #[.int .i64 a0_0, .int .i64 a0_1, .int .i64 a0_2, .string a0_3, .int .i64 a0_4, .int .i64 a0_5] 31 (0, 0)) (by (with_reducible repeat (first | refine blk_drewN ?_ _ | refine blk_drew ?_ | refine blk_alloc ?_ _)); exact BK400001.out) hb); have n1_ := Aside0.mk (below_step (by repeat (first | (with_reducible first | exact HB.out | apply below_alloc | apply pw_below_drewN | apply below_drew1 | refine below_set ?_ GE400001.out) | exact HB.out)) hb); have n2_ := Aside0.mk (hbox); have n3_ := Aside0.mk ((by rw [hg]; exact (below_size (by repeat (first | (with_reducible first | exact HB.out | apply below_alloc | apply pw_below_drewN | apply below_drew1 | refine below_set ?_ GE400001.out) | exact HB.out))) : w.heap.size ≤ gb400002)); have n4_ := Aside0.mk ((by rw [hg]; exact (below_size (by repeat (first | (with_reducible first | exact HB.out | apply below_alloc | apply pw_below_drewN | apply below_drew1 | refine below_set ?_ GE400001.out) | exact HB.out))) : w.heap.size ≤ gb400002)); have n5_ := Aside0.mk ((by rw [hg]; exact Nat.ne_of_lt (blk_lt (g := gb400001) (o := .cells #[.int .i64 a0_0, .int .i64 a0_1, .int .i64 a0_2, .string a0_3, .int .i64 a0_4, .int .i64 a0_5] 31 (0, 0)) (by (with_reducible repeat (first | refine blk_drewN ?_ _ | refine blk_drew ?_ | refine blk_alloc ?_ _)); exact BK400001.out)) : gb400001 ≠ gb400002)); have n6_ := Aside0.mk ((by rw [hg]; exact Nat.ne_of_gt (blk_lt (g := gb400001) (o := .cells #[.int .i64 a0_0, .int .i64 a0_1, .int .i64 a0_2, .string a0_3, .int .i64 a0_4, .int .i64 a0_5] 31 (0, 0)) (by (with_reducible repeat (first | refine blk_drewN ?_ _ | refine blk_drew ?_ | refine blk_alloc ?_ _)); exact BK400001.out)) : gb400002 ≠ gb400001)); clear BK400001; clear HB; have BK400001 := n0_; have HB := n1_; have BK400002 := n2_; have GW400002 := n3_; have GE400002 := n4_; have NB400001_400002 := n5_; have NB400002_400001 := n6_; clear n0_ n1_ n2_ n3_ n4_ n5_ n6_; clear hb hbox hg; have hnb26 := NB400001_400002.out; have hnc26 := NB400002_400001.out; have hcz27_0 : w25.cell? ⟨gb400001, 0, none⟩ = some (.int .i64 a0_0) := (blk_cell BK400001.out 0).trans rfl; have hcz27_1 : w25.cell? ⟨gb400001, 1, none⟩ = some (.int .i64 a0_1) := (blk_cell BK400001.out 1).trans rfl; have hcz27_2 : w25.cell? ⟨gb400001, 2, none⟩ = some (.int .i64 a0_2) := (blk_cell BK400001.out 2).trans rfl; have hcz27_3 : w25.cell? ⟨gb400001, 3, none⟩ = some (.string a0_3) := (blk_cell BK400001.out 3).trans rfl; have hcz27_4 : w25.cell? ⟨gb400001, 4, none⟩ = some (.int .i64 a0_4) := (blk_cell BK400001.out 4).trans rfl; have hcz27_5 : w25.cell? ⟨gb400001, 5, none⟩ = some (.int .i64 a0_5) := (blk_cell BK400001.out 5).trans rfl; have hfz27_0 := blk_frozen BK400001.out 0; have hfz27_1 := blk_frozen BK400001.out 1; have hfz27_2 := blk_frozen BK400001.out 2; have hfz27_3 := blk_frozen BK400001.out 3; have hfz27_4 := blk_frozen BK400001.out 4; have hfz27_5 := blk_frozen BK400001.out 5; have hcz28_0 : w25.cell? ⟨gb400002, 0, none⟩ = some (.int .i64 a1_0) := (blk_cell BK400002.out 0).trans rfl; have hcz28_1 : w25.cell? ⟨gb400002, 1, none⟩ = some (.int .i64 a1_1) := (blk_cell BK400002.out 1).trans rfl; have hcz28_2 : w25.cell? ⟨gb400002, 2, none⟩ = some (.int .i64 a1_2) := (blk_cell BK400002.out 2).trans rfl; have hcz28_3 : w25.cell? ⟨gb400002, 3, none⟩ = some (.string a1_3) := (blk_cell BK400002.out 3).trans rfl; have hcz28_4 : w25.cell? ⟨gb400002, 4, none⟩ = some (.int .i64 a1_4) := (blk_cell BK400002.out 4).trans rfl; have hcz28_5 : w25.cell? ⟨gb400002, 5, none⟩ = some (.int .i64 a1_5) := (blk_cell BK400002.out 5).trans rfl; have hfz28_0 := blk_frozen BK400002.out 0; have hfz28_1 := blk_frozen BK400002.out 1; have hfz28_2 := blk_frozen BK400002.out 2; have hfz28_3 := blk_frozen BK400002.out 3; have hfz28_4 := blk_frozen BK400002.out 4; have hfz28_5 := blk_frozen BK400002.out 5))
     go_ret
     exact ⟨by first | rfl | (simp [errW_none, errW_some] <;> rfl) | (simp [*, errW_none, errW_some] <;> rfl), by repeat (first | (with_reducible first | exact HB.out | apply below_alloc | apply pw_below_drewN | apply below_drew1 | refine below_set ?_ GE400001.out | refine below_set ?_ GE400002.out) | exact HB.out)⟩
   ·rw [if_neg c5] at H
    have c5b0 : (a0_2 == a1_2) = false := beq_eq_false_iff_ne.mpr c5
    have c5b1 : (a0_2 != a1_2) = true := bne_iff_ne.mpr c5
    obtain rfl := Option.some.inj H
    go_enter Try.func39, Try.ntmps39
    go_wp2_with (first | ((with_reducible refine gate_dst (N := 2) rfl ?_); refine box_event ?hg (N := 2) ?hd (cs := #[.int .i64 a0_0, .int .i64 a0_1, .int .i64 a0_2, .string a0_3, .int .i64 a0_4, .int .i64 a0_5]) (t := 31) ?hr ?_; (case hd => rfl); (case hg => rfl); (case hr => first | (go_simp; done) | (go_simp; rfl)); intro gb400001 hg w29 hbox hb; have n0_ := Aside0.mk (below_step (by repeat (first | (with_reducible first | exact HB.out | apply below_alloc | apply pw_below_drewN | apply below_drew1) | exact HB.out)) hb); have n1_ := Aside0.mk (hbox); have n2_ := Aside0.mk ((by rw [hg]; exact (below_size (by repeat (first | (with_reducible first | exact HB.out | apply below_alloc | apply pw_below_drewN | apply below_drew1) | exact HB.out))) : w.heap.size ≤ gb400001)); have n3_ := Aside0.mk ((by rw [hg]; exact (below_size (by repeat (first | (with_reducible first | exact HB.out | apply below_alloc | apply pw_below_drewN | apply below_drew1) | exact HB.out))) : w.heap.size ≤ gb400001)); clear HB; have HB := n0_; have BK400001 := n1_; have GW400001 := n2_; have GE400001 := n3_; clear n0_ n1_ n2_ n3_; clear hb hbox hg) | ((with_reducible refine gate_dst (N := 3) rfl ?_); refine box_event ?hg (N := 3) ?hd (cs := #[.int .i64 a1_0, .int .i64 a1_1, .int .i64 a1_2, .string a1_3, .int .i64 a1_4, .int .i64 a1_5]) (t := 31) ?hr ?_; (case hd => rfl); (case hg => rfl); (case hr => first | (go_simp; done) | (go_simp; rfl)); intro gb400002 hg w30 hbox hb; have n0_ := Aside0.mk (blk_below (g := gb400001) (o := .cells #[.int .i64 a0_0, .int .i64 a0_1, .int .i64 a0_2, .string a0_3, .int .i64 a0_4, .int .i64 a0_5] 31 (0, 0)) (by (with_reducible repeat (first | refine blk_drewN ?_ _ | refine blk_drew ?_ | refine blk_alloc ?_ _)); exact BK400001.out) hb); have n1_ := Aside0.mk (below_step (by repeat (first | (with_reducible first | exact HB.out | apply below_alloc | apply pw_below_drewN | apply below_drew1 | refine below_set ?_ GE400001.out) | exact HB.out)) hb); have n2_ := Aside0.mk (hbox); have n3_ := Aside0.mk ((by rw [hg]; exact (below_size (by repeat (first | (with_reducible first | exact HB.out | apply below_alloc | apply pw_below_drewN | apply below_drew1 | refine below_set ?_ GE400001.out) | exact HB.out))) : w.heap.size ≤ gb400002)); have n4_ := Aside0.mk ((by rw [hg]; exact (below_size (by repeat (first | (with_reducible first | exact HB.out | apply below_alloc | apply pw_below_drewN | apply below_drew1 | refine below_set ?_ GE400001.out) | exact HB.out))) : w.heap.size ≤ gb400002)); have n5_ := Aside0.mk ((by rw [hg]; exact Nat.ne_of_lt (blk_lt (g := gb400001) (o := .cells #[.int .i64 a0_0, .int .i64 a0_1, .int .i64 a0_2, .string a0_3, .int .i64 a0_4, .int .i64 a0_5] 31 (0, 0)) (by (with_reducible repeat (first | refine blk_drewN ?_ _ | refine blk_drew ?_ | refine blk_alloc ?_ _)); exact BK400001.out)) : gb400001 ≠ gb400002)); have n6_ := Aside0.mk ((by rw [hg]; exact Nat.ne_of_gt (blk_lt (g := gb400001) (o := .cells #[.int .i64 a0_0, .int .i64 a0_1, .int .i64 a0_2, .string a0_3, .int .i64 a0_4, .int .i64 a0_5] 31 (0, 0)) (by (with_reducible repeat (first | refine blk_drewN ?_ _ | refine blk_drew ?_ | refine blk_alloc ?_ _)); exact BK400001.out)) : gb400002 ≠ gb400001)); clear BK400001; clear HB; have BK400001 := n0_; have HB := n1_; have BK400002 := n2_; have GW400002 := n3_; have GE400002 := n4_; have NB400001_400002 := n5_; have NB400002_400001 := n6_; clear n0_ n1_ n2_ n3_ n4_ n5_ n6_; clear hb hbox hg; have hnb31 := NB400001_400002.out; have hnc31 := NB400002_400001.out; have hcz32_0 : w30.cell? ⟨gb400001, 0, none⟩ = some (.int .i64 a0_0) := (blk_cell BK400001.out 0).trans rfl; have hcz32_1 : w30.cell? ⟨gb400001, 1, none⟩ = some (.int .i64 a0_1) := (blk_cell BK400001.out 1).trans rfl; have hcz32_2 : w30.cell? ⟨gb400001, 2, none⟩ = some (.int .i64 a0_2) := (blk_cell BK400001.out 2).trans rfl; have hcz32_3 : w30.cell? ⟨gb400001, 3, none⟩ = some (.string a0_3) := (blk_cell BK400001.out 3).trans rfl; have hcz32_4 : w30.cell? ⟨gb400001, 4, none⟩ = some (.int .i64 a0_4) := (blk_cell BK400001.out 4).trans rfl; have hcz32_5 : w30.cell? ⟨gb400001, 5, none⟩ = some (.int .i64 a0_5) := (blk_cell BK400001.out 5).trans rfl; have hfz32_0 := blk_frozen BK400001.out 0; have hfz32_1 := blk_frozen BK400001.out 1; have hfz32_2 := blk_frozen BK400001.out 2; have hfz32_3 := blk_frozen BK400001.out 3; have hfz32_4 := blk_frozen BK400001.out 4; have hfz32_5 := blk_frozen BK400001.out 5; have hcz33_0 : w30.cell? ⟨gb400002, 0, none⟩ = some (.int .i64 a1_0) := (blk_cell BK400002.out 0).trans rfl; have hcz33_1 : w30.cell? ⟨gb400002, 1, none⟩ = some (.int .i64 a1_1) := (blk_cell BK400002.out 1).trans rfl; have hcz33_2 : w30.cell? ⟨gb400002, 2, none⟩ = some (.int .i64 a1_2) := (blk_cell BK400002.out 2).trans rfl; have hcz33_3 : w30.cell? ⟨gb400002, 3, none⟩ = some (.string a1_3) := (blk_cell BK400002.out 3).trans rfl; have hcz33_4 : w30.cell? ⟨gb400002, 4, none⟩ = some (.int .i64 a1_4) := (blk_cell BK400002.out 4).trans rfl; have hcz33_5 : w30.cell? ⟨gb400002, 5, none⟩ = some (.int .i64 a1_5) := (blk_cell BK400002.out 5).trans rfl; have hfz33_0 := blk_frozen BK400002.out 0; have hfz33_1 := blk_frozen BK400002.out 1; have hfz33_2 := blk_frozen BK400002.out 2; have hfz33_3 := blk_frozen BK400002.out 3; have hfz33_4 := blk_frozen BK400002.out 4; have hfz33_5 := blk_frozen BK400002.out 5))
    go_ret
    exact ⟨by first | rfl | (simp [errW_none, errW_some] <;> rfl) | (simp [*, errW_none, errW_some] <;> rfl), by repeat (first | (with_reducible first | exact HB.out | apply below_alloc | apply pw_below_drewN | apply below_drew1 | refine below_set ?_ GE400001.out | refine below_set ?_ GE400002.out) | exact HB.out)⟩
  ·rw [if_neg c4] at H
   have c4b0 : (a0_1 == a1_1) = false := beq_eq_false_iff_ne.mpr c4
   have c4b1 : (a0_1 != a1_1) = true := bne_iff_ne.mpr c4
   obtain rfl := Option.some.inj H
   go_enter Try.func39, Try.ntmps39
   go_wp2_with (first | ((with_reducible refine gate_dst (N := 2) rfl ?_); refine box_event ?hg (N := 2) ?hd (cs := #[.int .i64 a0_0, .int .i64 a0_1, .int .i64 a0_2, .string a0_3, .int .i64 a0_4, .int .i64 a0_5]) (t := 31) ?hr ?_; (case hd => rfl); (case hg => rfl); (case hr => first | (go_simp; done) | (go_simp; rfl)); intro gb400001 hg w34 hbox hb; have n0_ := Aside0.mk (below_step (by repeat (first | (with_reducible first | exact HB.out | apply below_alloc | apply pw_below_drewN | apply below_drew1) | exact HB.out)) hb); have n1_ := Aside0.mk (hbox); have n2_ := Aside0.mk ((by rw [hg]; exact (below_size (by repeat (first | (with_reducible first | exact HB.out | apply below_alloc | apply pw_below_drewN | apply below_drew1) | exact HB.out))) : w.heap.size ≤ gb400001)); have n3_ := Aside0.mk ((by rw [hg]; exact (below_size (by repeat (first | (with_reducible first | exact HB.out | apply below_alloc | apply pw_below_drewN | apply below_drew1) | exact HB.out))) : w.heap.size ≤ gb400001)); clear HB; have HB := n0_; have BK400001 := n1_; have GW400001 := n2_; have GE400001 := n3_; clear n0_ n1_ n2_ n3_; clear hb hbox hg) | ((with_reducible refine gate_dst (N := 3) rfl ?_); refine box_event ?hg (N := 3) ?hd (cs := #[.int .i64 a1_0, .int .i64 a1_1, .int .i64 a1_2, .string a1_3, .int .i64 a1_4, .int .i64 a1_5]) (t := 31) ?hr ?_; (case hd => rfl); (case hg => rfl); (case hr => first | (go_simp; done) | (go_simp; rfl)); intro gb400002 hg w35 hbox hb; have n0_ := Aside0.mk (blk_below (g := gb400001) (o := .cells #[.int .i64 a0_0, .int .i64 a0_1, .int .i64 a0_2, .string a0_3, .int .i64 a0_4, .int .i64 a0_5] 31 (0, 0)) (by (with_reducible repeat (first | refine blk_drewN ?_ _ | refine blk_drew ?_ | refine blk_alloc ?_ _)); exact BK400001.out) hb); have n1_ := Aside0.mk (below_step (by repeat (first | (with_reducible first | exact HB.out | apply below_alloc | apply pw_below_drewN | apply below_drew1 | refine below_set ?_ GE400001.out) | exact HB.out)) hb); have n2_ := Aside0.mk (hbox); have n3_ := Aside0.mk ((by rw [hg]; exact (below_size (by repeat (first | (with_reducible first | exact HB.out | apply below_alloc | apply pw_below_drewN | apply below_drew1 | refine below_set ?_ GE400001.out) | exact HB.out))) : w.heap.size ≤ gb400002)); have n4_ := Aside0.mk ((by rw [hg]; exact (below_size (by repeat (first | (with_reducible first | exact HB.out | apply below_alloc | apply pw_below_drewN | apply below_drew1 | refine below_set ?_ GE400001.out) | exact HB.out))) : w.heap.size ≤ gb400002)); have n5_ := Aside0.mk ((by rw [hg]; exact Nat.ne_of_lt (blk_lt (g := gb400001) (o := .cells #[.int .i64 a0_0, .int .i64 a0_1, .int .i64 a0_2, .string a0_3, .int .i64 a0_4, .int .i64 a0_5] 31 (0, 0)) (by (with_reducible repeat (first | refine blk_drewN ?_ _ | refine blk_drew ?_ | refine blk_alloc ?_ _)); exact BK400001.out)) : gb400001 ≠ gb400002)); have n6_ := Aside0.mk ((by rw [hg]; exact Nat.ne_of_gt (blk_lt (g := gb400001) (o := .cells #[.int .i64 a0_0, .int .i64 a0_1, .int .i64 a0_2, .string a0_3, .int .i64 a0_4, .int .i64 a0_5] 31 (0, 0)) (by (with_reducible repeat (first | refine blk_drewN ?_ _ | refine blk_drew ?_ | refine blk_alloc ?_ _)); exact BK400001.out)) : gb400002 ≠ gb400001)); clear BK400001; clear HB; have BK400001 := n0_; have HB := n1_; have BK400002 := n2_; have GW400002 := n3_; have GE400002 := n4_; have NB400001_400002 := n5_; have NB400002_400001 := n6_; clear n0_ n1_ n2_ n3_ n4_ n5_ n6_; clear hb hbox hg; have hnb36 := NB400001_400002.out; have hnc36 := NB400002_400001.out; have hcz37_0 : w35.cell? ⟨gb400001, 0, none⟩ = some (.int .i64 a0_0) := (blk_cell BK400001.out 0).trans rfl; have hcz37_1 : w35.cell? ⟨gb400001, 1, none⟩ = some (.int .i64 a0_1) := (blk_cell BK400001.out 1).trans rfl; have hcz37_2 : w35.cell? ⟨gb400001, 2, none⟩ = some (.int .i64 a0_2) := (blk_cell BK400001.out 2).trans rfl; have hcz37_3 : w35.cell? ⟨gb400001, 3, none⟩ = some (.string a0_3) := (blk_cell BK400001.out 3).trans rfl; have hcz37_4 : w35.cell? ⟨gb400001, 4, none⟩ = some (.int .i64 a0_4) := (blk_cell BK400001.out 4).trans rfl; have hcz37_5 : w35.cell? ⟨gb400001, 5, none⟩ = some (.int .i64 a0_5) := (blk_cell BK400001.out 5).trans rfl; have hfz37_0 := blk_frozen BK400001.out 0; have hfz37_1 := blk_frozen BK400001.out 1; have hfz37_2 := blk_frozen BK400001.out 2; have hfz37_3 := blk_frozen BK400001.out 3; have hfz37_4 := blk_frozen BK400001.out 4; have hfz37_5 := blk_frozen BK400001.out 5; have hcz38_0 : w35.cell? ⟨gb400002, 0, none⟩ = some (.int .i64 a1_0) := (blk_cell BK400002.out 0).trans rfl; have hcz38_1 : w35.cell? ⟨gb400002, 1, none⟩ = some (.int .i64 a1_1) := (blk_cell BK400002.out 1).trans rfl; have hcz38_2 : w35.cell? ⟨gb400002, 2, none⟩ = some (.int .i64 a1_2) := (blk_cell BK400002.out 2).trans rfl; have hcz38_3 : w35.cell? ⟨gb400002, 3, none⟩ = some (.string a1_3) := (blk_cell BK400002.out 3).trans rfl; have hcz38_4 : w35.cell? ⟨gb400002, 4, none⟩ = some (.int .i64 a1_4) := (blk_cell BK400002.out 4).trans rfl; have hcz38_5 : w35.cell? ⟨gb400002, 5, none⟩ = some (.int .i64 a1_5) := (blk_cell BK400002.out 5).trans rfl; have hfz38_0 := blk_frozen BK400002.out 0; have hfz38_1 := blk_frozen BK400002.out 1; have hfz38_2 := blk_frozen BK400002.out 2; have hfz38_3 := blk_frozen BK400002.out 3; have hfz38_4 := blk_frozen BK400002.out 4; have hfz38_5 := blk_frozen BK400002.out 5))
   go_ret
   exact ⟨by first | rfl | (simp [errW_none, errW_some] <;> rfl) | (simp [*, errW_none, errW_some] <;> rfl), by repeat (first | (with_reducible first | exact HB.out | apply below_alloc | apply pw_below_drewN | apply below_drew1 | refine below_set ?_ GE400001.out | refine below_set ?_ GE400002.out) | exact HB.out)⟩
 ·rw [if_neg c3] at H
  have c3b0 : (a0_0 == a1_0) = false := beq_eq_false_iff_ne.mpr c3
  have c3b1 : (a0_0 != a1_0) = true := bne_iff_ne.mpr c3
  obtain rfl := Option.some.inj H
  go_enter Try.func39, Try.ntmps39
  go_wp2_with (first | ((with_reducible refine gate_dst (N := 2) rfl ?_); refine box_event ?hg (N := 2) ?hd (cs := #[.int .i64 a0_0, .int .i64 a0_1, .int .i64 a0_2, .string a0_3, .int .i64 a0_4, .int .i64 a0_5]) (t := 31) ?hr ?_; (case hd => rfl); (case hg => rfl); (case hr => first | (go_simp; done) | (go_simp; rfl)); intro gb400001 hg w39 hbox hb; have n0_ := Aside0.mk (below_step (by repeat (first | (with_reducible first | exact HB.out | apply below_alloc | apply pw_below_drewN | apply below_drew1) | exact HB.out)) hb); have n1_ := Aside0.mk (hbox); have n2_ := Aside0.mk ((by rw [hg]; exact (below_size (by repeat (first | (with_reducible first | exact HB.out | apply below_alloc | apply pw_below_drewN | apply below_drew1) | exact HB.out))) : w.heap.size ≤ gb400001)); have n3_ := Aside0.mk ((by rw [hg]; exact (below_size (by repeat (first | (with_reducible first | exact HB.out | apply below_alloc | apply pw_below_drewN | apply below_drew1) | exact HB.out))) : w.heap.size ≤ gb400001)); clear HB; have HB := n0_; have BK400001 := n1_; have GW400001 := n2_; have GE400001 := n3_; clear n0_ n1_ n2_ n3_; clear hb hbox hg) | ((with_reducible refine gate_dst (N := 3) rfl ?_); refine box_event ?hg (N := 3) ?hd (cs := #[.int .i64 a1_0, .int .i64 a1_1, .int .i64 a1_2, .string a1_3, .int .i64 a1_4, .int .i64 a1_5]) (t := 31) ?hr ?_; (case hd => rfl); (case hg => rfl); (case hr => first | (go_simp; done) | (go_simp; rfl)); intro gb400002 hg w40 hbox hb; have n0_ := Aside0.mk (blk_below (g := gb400001) (o := .cells #[.int .i64 a0_0, .int .i64 a0_1, .int .i64 a0_2, .string a0_3, .int .i64 a0_4, .int .i64 a0_5] 31 (0, 0)) (by (with_reducible repeat (first | refine blk_drewN ?_ _ | refine blk_drew ?_ | refine blk_alloc ?_ _)); exact BK400001.out) hb); have n1_ := Aside0.mk (below_step (by repeat (first | (with_reducible first | exact HB.out | apply below_alloc | apply pw_below_drewN | apply below_drew1 | refine below_set ?_ GE400001.out) | exact HB.out)) hb); have n2_ := Aside0.mk (hbox); have n3_ := Aside0.mk ((by rw [hg]; exact (below_size (by repeat (first | (with_reducible first | exact HB.out | apply below_alloc | apply pw_below_drewN | apply below_drew1 | refine below_set ?_ GE400001.out) | exact HB.out))) : w.heap.size ≤ gb400002)); have n4_ := Aside0.mk ((by rw [hg]; exact (below_size (by repeat (first | (with_reducible first | exact HB.out | apply below_alloc | apply pw_below_drewN | apply below_drew1 | refine below_set ?_ GE400001.out) | exact HB.out))) : w.heap.size ≤ gb400002)); have n5_ := Aside0.mk ((by rw [hg]; exact Nat.ne_of_lt (blk_lt (g := gb400001) (o := .cells #[.int .i64 a0_0, .int .i64 a0_1, .int .i64 a0_2, .string a0_3, .int .i64 a0_4, .int .i64 a0_5] 31 (0, 0)) (by (with_reducible repeat (first | refine blk_drewN ?_ _ | refine blk_drew ?_ | refine blk_alloc ?_ _)); exact BK400001.out)) : gb400001 ≠ gb400002)); have n6_ := Aside0.mk ((by rw [hg]; exact Nat.ne_of_gt (blk_lt (g := gb400001) (o := .cells #[.int .i64 a0_0, .int .i64 a0_1, .int .i64 a0_2, .string a0_3, .int .i64 a0_4, .int .i64 a0_5] 31 (0, 0)) (by (with_reducible repeat (first | refine blk_drewN ?_ _ | refine blk_drew ?_ | refine blk_alloc ?_ _)); exact BK400001.out)) : gb400002 ≠ gb400001)); clear BK400001; clear HB; have BK400001 := n0_; have HB := n1_; have BK400002 := n2_; have GW400002 := n3_; have GE400002 := n4_; have NB400001_400002 := n5_; have NB400002_400001 := n6_; clear n0_ n1_ n2_ n3_ n4_ n5_ n6_; clear hb hbox hg; have hnb41 := NB400001_400002.out; have hnc41 := NB400002_400001.out; have hcz42_0 : w40.cell? ⟨gb400001, 0, none⟩ = some (.int .i64 a0_0) := (blk_cell BK400001.out 0).trans rfl; have hcz42_1 : w40.cell? ⟨gb400001, 1, none⟩ = some (.int .i64 a0_1) := (blk_cell BK400001.out 1).trans rfl; have hcz42_2 : w40.cell? ⟨gb400001, 2, none⟩ = some (.int .i64 a0_2) := (blk_cell BK400001.out 2).trans rfl; have hcz42_3 : w40.cell? ⟨gb400001, 3, none⟩ = some (.string a0_3) := (blk_cell BK400001.out 3).trans rfl; have hcz42_4 : w40.cell? ⟨gb400001, 4, none⟩ = some (.int .i64 a0_4) := (blk_cell BK400001.out 4).trans rfl; have hcz42_5 : w40.cell? ⟨gb400001, 5, none⟩ = some (.int .i64 a0_5) := (blk_cell BK400001.out 5).trans rfl; have hfz42_0 := blk_frozen BK400001.out 0; have hfz42_1 := blk_frozen BK400001.out 1; have hfz42_2 := blk_frozen BK400001.out 2; have hfz42_3 := blk_frozen BK400001.out 3; have hfz42_4 := blk_frozen BK400001.out 4; have hfz42_5 := blk_frozen BK400001.out 5; have hcz43_0 : w40.cell? ⟨gb400002, 0, none⟩ = some (.int .i64 a1_0) := (blk_cell BK400002.out 0).trans rfl; have hcz43_1 : w40.cell? ⟨gb400002, 1, none⟩ = some (.int .i64 a1_1) := (blk_cell BK400002.out 1).trans rfl; have hcz43_2 : w40.cell? ⟨gb400002, 2, none⟩ = some (.int .i64 a1_2) := (blk_cell BK400002.out 2).trans rfl; have hcz43_3 : w40.cell? ⟨gb400002, 3, none⟩ = some (.string a1_3) := (blk_cell BK400002.out 3).trans rfl; have hcz43_4 : w40.cell? ⟨gb400002, 4, none⟩ = some (.int .i64 a1_4) := (blk_cell BK400002.out 4).trans rfl; have hcz43_5 : w40.cell? ⟨gb400002, 5, none⟩ = some (.int .i64 a1_5) := (blk_cell BK400002.out 5).trans rfl; have hfz43_0 := blk_frozen BK400002.out 0; have hfz43_1 := blk_frozen BK400002.out 1; have hfz43_2 := blk_frozen BK400002.out 2; have hfz43_3 := blk_frozen BK400002.out 3; have hfz43_4 := blk_frozen BK400002.out 4; have hfz43_5 := blk_frozen BK400002.out 5))
  go_ret
  exact ⟨by first | rfl | (simp [errW_none, errW_some] <;> rfl) | (simp [*, errW_none, errW_some] <;> rfl), by repeat (first | (with_reducible first | exact HB.out | apply below_alloc | apply pw_below_drewN | apply below_drew1 | refine below_set ?_ GE400001.out | refine below_set ?_ GE400002.out) | exact HB.out)⟩

end Go.Proofs.Ytbjdnfgalopfiaa.PX
