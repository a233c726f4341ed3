import Derived.Test.YthahadclegihaaaPXx0
namespace Go.Proofs.Ythahadclegihaaa.PX
open Go.RowKit Go.Proofs.YthahadclegihaaaW.PrintWords Go.Proofs.YthahadclegihaaaW.PrintLast Go.Proofs.YthahadclegihaaaW.PrintMore
attribute [local go_sem] max2_int min2_int max_two min_two max_three min_three max_four min_four
set_option linter.unusedVariables false
set_option linter.unusedSimpArgs false

def spec_l6In.f (a0 : Int) (a1 : Int) (a2 : Int) : Option (Bool) := if a0 ≥ a1 then (some (decide (a0 ≤ a2))) else (some false)
set_option maxHeartbeats 8000000 in
set_option maxRecDepth 100000 in
theorem spec_l6In.calls (a0 : Int) (a1 : Int) (a2 : Int) (r : Bool) (w : World) (h : spec_l6In.f a0 a1 a2 = some r) :
 Calls Try.prog 52 #[.int .i64 a0, .int .i64 a1, .int .i64 a2] w fun e w' => e = .returned (.bool r) ∧ Drawn0 w w' := by
 have H : (if a0 ≥ a1 then (some (decide (a0 ≤ a2))) else (some false)) = some r := h
 clear h
 by_cases c4 : a0 ≥ a1
 ·rw [if_pos c4] at H
  have c4b0 : decide (a1 ≤ a0) = true := decide_eq_true c4
  clear c4
  obtain rfl := Option.some.inj H
  go_enter Try.func52, Try.ntmps52
  go_wp2
  go_ret
  exact ⟨by first | rfl | (simp; done) | (simp [*]; done), by repeat (first | exact Drawn0.refl _ | apply Drawn0.step)⟩
 ·rw [if_neg c4] at H
  have c4b0 : decide (a1 ≤ a0) = false := decide_eq_false c4
  clear c4
  obtain rfl := Option.some.inj H
  go_enter Try.func52, Try.ntmps52
  go_wp2
  go_ret
  exact ⟨by first | rfl | (simp; done) | (simp [*]; done), by repeat (first | exact Drawn0.refl _ | apply Drawn0.step)⟩

def spec_l12House.f (a0 : Int) : Option (Bool) := (spec_l6In.f a0 0 2).bind fun t220001 => (some t220001)
set_option maxHeartbeats 8000000 in
set_option maxRecDepth 100000 in
theorem spec_l12House.calls (a0 : Int) (r : Bool) (w : World) (h : spec_l12House.f a0 = some r) :
 Calls Try.prog 21 #[.int .i64 a0] w fun e w' => e = .returned (.bool r) ∧ Drawn0 w w' := by
 have H : ((spec_l6In.f a0 0 2).bind fun t220001 => (some t220001)) = some r := h
 clear h
 replace H := Option.bind_eq_some_iff.mp H
 obtain ⟨t220001, A20, H⟩ := H
 replace H : (some t220001) = some r := H
 have A2 := Aside0.mk A20
 clear A20
 obtain rfl := Option.some.inj H
 go_enter Try.func21, Try.ntmps21
 go_wp2_with (first | ((with_reducible refine gate_callee (f := 52) rfl ?_); refine goesL_ (some 4) rfl rfl Try.func52 (by kernel_rfl) rfl #[.int .i64 a0, .int .i64 0, .int .i64 2] rfl (by (try simp only [List.map_toArray, List.map_cons, List.map_nil]); first | done | rfl | (simp only [List.length_drop, List.length_take]; rfl)) ?_; (with_reducible refine (spec_l6In.calls a0 0 2 t220001 _ A2.out).mono ?_); rintro e w' ⟨rfl, ⟨nd, rfl⟩⟩; refine ⟨_, rfl, ?_⟩))
 go_ret
 exact ⟨by first | rfl | (simp; done) | (simp [*]; done), by repeat (first | exact Drawn0.refl _ | apply Drawn0.step)⟩

def spec_l21Locks.l0 : Nat → List (S70) → Int → Option ((List (S70)))
 | 0, _, _ => none
 | k + 1, x1, x2 => if x2 < 8 then (if x1.length < 2513169434916 then (spec_l21Locks.l0 k (x1 ++ [(⟨x2, ([] : List (S109)), ([] : List (S109))⟩ : S70)]) (wrap64 (x2 + 1))) else (none)) else (some x1)
def spec_l21Locks.f (k : Nat)  : Option ((List (S70))) := spec_l21Locks.l0 k (([] : List (S70))) 0
theorem spec_l21Locks.mono_l : ∀ k, (∀ y0 y1, LeO (spec_l21Locks.l0 k y0 y1) (spec_l21Locks.l0 (k + 1) y0 y1))
 | 0 => fun _ _ r h => by simp [spec_l21Locks.l0] at h
 | k + 1 => by
  have ih0 := spec_l21Locks.mono_l k
  ·intro y0 y1
   unfold spec_l21Locks.l0
   repeat' first
   | (with_reducible exact ih0 _ _)
   | (with_reducible exact LeO.refl _)
   | (with_reducible exact LeO.none _)
   | (with_reducible refine LeO.ite ?_ ?_)
   | (with_reducible refine LeO.bind ?_ (fun _ => ?_))
   | exact ih0 _ _
   | exact LeO.none _
   | refine LeO.ite ?_ ?_
   | refine LeO.bind ?_ (fun _ => ?_)
theorem spec_l21Locks.mono : ∀ k, LeO (spec_l21Locks.f k ) (spec_l21Locks.f (k + 1) ) := by
 intro  k
 have ih0 := spec_l21Locks.mono_l k
 unfold spec_l21Locks.f
 repeat' first
  | (with_reducible exact ih0 _ _)
  | (with_reducible exact LeO.refl _)
  | (with_reducible exact LeO.none _)
  | (with_reducible refine LeO.ite ?_ ?_)
  | (with_reducible refine LeO.bind ?_ (fun _ => ?_))
  | exact ih0 _ _
  | exact LeO.none _
  | refine LeO.ite ?_ ?_
  | refine LeO.bind ?_ (fun _ => ?_)
set_option maxHeartbeats 8000000 in
set_option maxRecDepth 100000 in
theorem spec_l21Locks.calls (k : Nat)  (r : List (S70)) (w : World) (h : spec_l21Locks.f k  = some r) :
 Calls Try.prog 22 #[] w fun e w' => ∃ v0_ : Value, e = .returned (v0_) ∧ Kd.S k70 70 w' w.heap.size (fun _ => True) v0_ r ∧ Below w.heap.size w w' := by
 have hu70 := Try.underlying70
 have HB := Aside0.mk (Below.refl w.heap.size w)
 have H : (spec_l21Locks.l0 k (([] : List (S70))) 0) = some r := h
 clear h
 obtain ⟨y230001, hy230001⟩ : ∃ y_ : List (S70), y_ = (([] : List (S70))) := ⟨_, rfl⟩
 replace H : (spec_l21Locks.l0 k y230001 0) = some r := by first | (rw [hy230001]; with_reducible exact H) | (have H2_ := (Option.bind_some _ _).symm.trans H; rw [hy230001]; with_reducible exact H2_) | (have H2_ := (Option.bind_some _ _).symm.trans H; with_reducible exact H2_) | with_reducible exact H | (rw [hy230001]; exact H) | exact H
 have Ny230001 := Aside0.mk hy230001
 clear hy230001
 have H' := Aside0.mk H
 clear H
 go_enter Try.func22, Try.ntmps22
 go_wp2_with (first | ((with_reducible refine gate_dst (N := 3) rfl ?_); refine Kd.S_lit k70 _ 70 ?hg (N := 3) ?hd (xs := ([] : List (S70))) (inner := []) (ok := fun _ => True) (okp := fun _ => True) ?hr ?hp (fun _ hk => hk) trivial (Below.refl _ _) (Nat.le_refl _) (by simp) ?_; (case hd => rfl); (case hg => rfl); (case hr => first | (go_simp; done) | (go_simp; rfl)); (case hp => exact (Reps.none _ _)); intro v230002 w1 ho2 hb hg_ hnew_; clear hg_ hnew_; (first | rw [← Ny230001.out] at ho2 | (simp only [Int.reduceToNat] at ho2; rw [← Ny230001.out] at ho2)); have n0_ := Aside0.mk (Kd.S_lower ho2 (below_size (by repeat (first | (with_reducible first | exact HB.out | apply below_alloc | apply pw_below_drewN | apply below_drew1) | exact HB.out)))); have n1_ := Aside0.mk (below_step (by repeat (first | (with_reducible first | exact HB.out | apply below_alloc | apply pw_below_drewN | apply below_drew1) | exact HB.out)) hb); clear HB; have HO230003 := n0_; have HB := n1_; clear n0_ n1_; clear hb ho2))
 go_loopg [1, 2] k (fun kq v1 v2 w' => ∃ (x1_1 : List (S70)) (x2_1 : Int), v2 = .int .i64 x2_1 ∧ Aside0 (spec_l21Locks.l0 kq x1_1 x2_1 = some r) ∧ Aside0 (kq ≤ k) ∧ Aside0 (Kd.S k70 70 w' w.heap.size (fun _ => True) v1 x1_1) ∧ Aside0 (Below w.heap.size w w'))
 case atStart => exact ⟨(y230001), (0), (by first | rfl | (simp; done) | (simp [*]; done)), H', ⟨Nat.le_refl _⟩, ⟨by (with_reducible repeat (first | apply Kd.S_alloc | apply Kd.S_drewN | apply Kd.S_drew)); exact HO230003.out⟩, ⟨by repeat (first | (with_reducible first | exact HB.out | apply below_alloc | apply pw_below_drewN | apply below_drew1) | exact HB.out)⟩⟩
 case round =>
  clear H'
  try clear c2
  try clear p2
  obtain ⟨x1_1, x2_1, rfl, HA, HK1, HO_1, HB⟩ := hrel
  cases gk with
  | zero => exact absurd HA.out (by simp [spec_l21Locks.l0])
  | succ k1 =>
   have H := HA.out
   clear HA
   simp only [spec_l21Locks.l0] at H
   by_cases c3 : x2_1 < 8
   ·rw [if_pos c3] at H
    have c3b0 : decide (x2_1 < 8) = true := decide_eq_true c3
    clear c3
    by_cases c4 : x1_1.length < 2513169434916
    ·rw [if_pos c4] at H
     have LMc4 := Aside0.mk c4
     clear c4
     obtain ⟨y230004, hy230004⟩ : ∃ y_ : List (S70), y_ = (x1_1 ++ [(⟨x2_1, ([] : List (S109)), ([] : List (S109))⟩ : S70)]) := ⟨_, rfl⟩
     replace H : (spec_l21Locks.l0 k1 y230004 (wrap64 (x2_1 + 1))) = some r := by first | (rw [hy230004]; with_reducible exact H) | (have H2_ := (Option.bind_some _ _).symm.trans H; rw [hy230004]; with_reducible exact H2_) | (have H2_ := (Option.bind_some _ _).symm.trans H; with_reducible exact H2_) | with_reducible exact H | (rw [hy230004]; exact H) | exact H
     have Ny230004 := Aside0.mk hy230004
     clear hy230004
     have H' := Aside0.mk H
     clear H
     go_wp2_with (first | ((with_reducible refine gate_builtin (b := .append) (xs := #[.tmp 8, .tmp 11]) rfl ?_); at_builtin; refine Kd.S_append k70 (w0 := w) w.heap.size rfl (.tmp 8) (.tmp 11) 23 70 (.agg #[(.int .i64 0), (.slice none 0 0), (.slice none 0 0)]) 56 rfl Try.underlying23 info70 rfl (by decide) (by omega) u1 x1_1 (⟨x2_1, ([] : List (S109)), ([] : List (S109))⟩ : S70) [.int .i64 x2_1, .slice none 0 0, .slice none 0 0] (fun _ => True) (fun _ => False) rfl rfl ?aP (fun k_ hk_ => hk_.elim) ?aF ?aO ?aB ?aS ?aL ?_; (case aP => exact k70_mkM _ _ _ (⟨x2_1, ([] : List (S109)), ([] : List (S109))⟩ : S70) (Kd.R_nil _ _ _ _ _) (Kd.R_nil _ _ _ _ _)); (case aB => exact (by repeat (first | (with_reducible first | exact HB.out | apply below_alloc | apply pw_below_drewN | apply below_drew1) | exact HB.out))); (case aF => exact (fun _ _ => trivial)); (case aO => exact (by (with_reducible repeat (first | apply Kd.S_alloc | apply Kd.S_drewN | apply Kd.S_drew)); exact Kd.S_mono HO_1.out (fun k_ hk => ⟨trivial, fun e_ => e_⟩))); (case aS => exact (below_size (by repeat (first | (with_reducible first | exact HB.out | apply below_alloc | apply pw_below_drewN | apply below_drew1) | exact HB.out)))); (case aL => have := LMc4.out; omega); intro v230005 w5 ho hb hg hat; rw [← Ny230004.out] at ho; have n0_ := Aside0.mk (hb); have n1_ := Aside0.mk (ho); clear HB; clear HO_1; have HB := n0_; have HO230006 := n1_; clear n0_ n1_; clear ho hb hg hat))
     go_roundg k1
     case measure => have := HK1.out; omega
     case rel => exact ⟨(y230004), (wrap64 (x2_1 + 1)), (by first | rfl | (simp; done) | (simp [*]; done)), H', ⟨by have := HK1.out; omega⟩, ⟨by (with_reducible repeat (first | apply Kd.S_alloc | apply Kd.S_drewN | apply Kd.S_drew)); exact HO230006.out⟩, ⟨by repeat (first | (with_reducible first | exact HB.out | apply below_alloc | apply pw_below_drewN | apply below_drew1) | exact HB.out)⟩⟩
    ·rw [if_neg c4] at H
     exact absurd H (by simp)
   ·rw [if_neg c3] at H
    have c3b0 : decide (x2_1 < 8) = false := decide_eq_false c3
    clear c3
    obtain rfl := Option.some.inj H
    go_wp2
    go_ret
    exact ⟨_, by first | rfl | (simp [errW_none, errW_some] <;> rfl) | (simp [*, errW_none, errW_some] <;> rfl), by (with_reducible repeat (first | apply Kd.S_alloc | apply Kd.S_drewN | apply Kd.S_drew)); exact HO_1.out, by repeat (first | (with_reducible first | exact HB.out | apply below_alloc | apply pw_below_drewN | apply below_drew1) | exact HB.out)⟩

def spec_HouseStart.f (k : Nat) (a0 : Int) : Option (Int × Bool × (List (S75)) × Int × (List (S70)) × (List (S79))) := (spec_l12House.f a0).bind fun t70002 => (if t70002 = true then ((spec_l21Locks.f k).bind fun t70003 => (some (a0, true, ([] : List (S75)), 0, t70003, ([] : List (S79))))) else (some (0, false, ([] : List (S75)), 0, ([] : List (S70)), ([] : List (S79)))))
theorem spec_HouseStart.mono : ∀ a0 k, LeO (spec_HouseStart.f k a0) (spec_HouseStart.f (k + 1) a0) := by
 intro a0 k
 unfold spec_HouseStart.f
 repeat' first
  | (with_reducible exact spec_l21Locks.mono _)
  | (with_reducible exact LeO.refl _)
  | (with_reducible exact LeO.none _)
  | (with_reducible refine LeO.ite ?_ ?_)
  | (with_reducible refine LeO.bind ?_ (fun _ => ?_))
  | exact spec_l21Locks.mono _
  | exact LeO.none _
  | refine LeO.ite ?_ ?_
  | refine LeO.bind ?_ (fun _ => ?_)
set_option maxHeartbeats 8000000 in
set_option maxRecDepth 100000 in
theorem spec_HouseStart.calls (k : Nat) (a0 : Int) (r1 : Int) (r2 : Bool) (r3 : List (S75)) (r4 : Int) (r5 : List (S70)) (r6 : List (S79)) (w : World) (h : spec_HouseStart.f k a0 = some (r1, r2, r3, r4, r5, r6)) :
 Calls Try.prog 6 #[.int .i64 a0] w fun e w' => ∃ v2_ v4_ v5_ : Value, e = .returned (.agg #[.int .i64 r1, .bool r2, v2_, .int .i64 r4, v4_, v5_]) ∧ Kd.S k75 75 w' w.heap.size (fun _ => True) v2_ r3 ∧ Kd.S k70 70 w' w.heap.size (fun _ => True) v4_ r5 ∧ Kd.S k79 79 w' w.heap.size (fun _ => True) v5_ r6 ∧ Below w.heap.size w w' := by
 have hu26 := Try.underlying26
 have HB := Aside0.mk (Below.refl w.heap.size w)
 have H : ((spec_l12House.f a0).bind fun t70002 => (if t70002 = true then ((spec_l21Locks.f k).bind fun t70003 => (some (a0, true, ([] : List (S75)), 0, t70003, ([] : List (S79))))) else (some (0, false, ([] : List (S75)), 0, ([] : List (S70)), ([] : List (S79)))))) = some (r1, r2, r3, r4, r5, r6) := h
 clear h
 replace H := Option.bind_eq_some_iff.mp H
 obtain ⟨t70002, A20, H⟩ := H
 replace H : (if t70002 = true then ((spec_l21Locks.f k).bind fun t70003 => (some (a0, true, ([] : List (S75)), 0, t70003, ([] : List (S79))))) else (some (0, false, ([] : List (S75)), 0, ([] : List (S70)), ([] : List (S79))))) = some (r1, r2, r3, r4, r5, r6) := H
 have A2 := Aside0.mk A20
 clear A20
 by_cases c3 : t70002 = true
 ·subst c3
  have H1 : ((spec_l21Locks.f k).bind fun t70003 => (some (a0, true, ([] : List (S75)), 0, t70003, ([] : List (S79))))) = some (r1, r2, r3, r4, r5, r6) := by rw [if_pos rfl] at H; exact H
  clear H
  have H := H1
  clear H1
  replace H := Option.bind_eq_some_iff.mp H
  obtain ⟨t70003, A40, H⟩ := H
  replace H : (some (a0, true, ([] : List (S75)), 0, t70003, ([] : List (S79)))) = some (r1, r2, r3, r4, r5, r6) := H
  have A4 := Aside0.mk A40
  clear A40
  simp only [Option.some.injEq, Prod.mk.injEq] at H
  obtain ⟨rfl, rfl, rfl, rfl, rfl, rfl⟩ := H
  go_enter Try.func6, Try.ntmps6
  go_wp2_with (first | ((with_reducible refine gate_dst (N := 2) rfl ?_); refine box_event ?hg (N := 2) ?hd (cs := #[.int .i64 0, .bool false, .slice none 0 0, .int .i64 0, .slice none 0 0, .slice none 0 0]) (t := 26) ?hr ?_; (case hd => rfl); (case hg => rfl); (case hr => first | (go_simp; done) | (go_simp; rfl)); intro gb70001 hg w5 hbox hb; have n0_ := Aside0.mk (below_step (by repeat (first | (with_reducible first | exact HB.out | apply below_alloc | apply pw_below_drewN | apply below_drew1) | exact HB.out)) hb); have n1_ := Aside0.mk (hbox); have n2_ := Aside0.mk ((by rw [hg]; exact (below_size (by repeat (first | (with_reducible first | exact HB.out | apply below_alloc | apply pw_below_drewN | apply below_drew1) | exact HB.out))) : w.heap.size ≤ gb70001)); have n3_ := Aside0.mk ((by rw [hg]; exact (below_size (by repeat (first | (with_reducible first | exact HB.out | apply below_alloc | apply pw_below_drewN | apply below_drew1) | exact HB.out))) : w.heap.size ≤ gb70001)); clear HB; have HB := n0_; have BK70001 := n1_; have GW70001 := n2_; have GE70001 := n3_; clear n0_ n1_ n2_ n3_; clear hb hbox hg) | ((with_reducible refine gate_callee (f := 21) rfl ?_); refine goesL_ (some 4) rfl rfl Try.func21 (by kernel_rfl) rfl #[.int .i64 a0] rfl (by (try simp only [List.map_toArray, List.map_cons, List.map_nil]); first | done | rfl | (simp only [List.length_drop, List.length_take]; rfl)) ?_; (with_reducible refine (spec_l12House.calls a0 true _ A2.out).mono ?_); rintro e w' ⟨rfl, ⟨nd, rfl⟩⟩; refine ⟨_, rfl, ?_⟩; (try (rw [drewN_self w5]; generalize hq_ : World.drewN w5 _ = w5; have n0_ : Aside0 (w5.heap[gb70001]? = some (.cells #[.int .i64 0, .bool false, .slice none 0 0, .int .i64 0, .slice none 0 0, .slice none 0 0] 26 (0, 0))) := ⟨by rw [← hq_]; exact (by (with_reducible repeat (first | refine blk_drewN ?_ _ | refine blk_drew ?_ | refine blk_alloc ?_ _)); exact BK70001.out)⟩; have n1_ : Aside0 (Below w.heap.size w w5) := ⟨by rw [← hq_]; exact (by repeat (first | (with_reducible first | exact HB.out | apply below_alloc | apply pw_below_drewN | apply below_drew1 | refine below_set ?_ GE70001.out) | exact HB.out))⟩; clear BK70001 HB hq_; have BK70001 := n0_; have HB := n1_; clear n0_ n1_))) | ((with_reducible refine gate_callee (f := 22) rfl ?_); refine goesL_ (some 8) rfl rfl Try.func22 (by kernel_rfl) rfl #[] rfl (by (try simp only [List.map_toArray, List.map_cons, List.map_nil]); first | done | rfl | (simp only [List.length_drop, List.length_take]; rfl)) ?_; (with_reducible refine (spec_l21Locks.calls k  t70003 _ A4.out).mono ?_); rintro e w6 ⟨v70004, rfl, ho0, hb⟩; refine ⟨_, rfl, ?_⟩; have n0_ := Aside0.mk (Kd.S_lower ho0 (below_size (by repeat (first | (with_reducible first | exact HB.out | apply below_alloc | apply pw_below_drewN | apply below_drew1 | refine below_set ?_ GE70001.out) | exact HB.out)))); have n1_ := Aside0.mk (blk_below (g := gb70001) (o := .cells #[.int .i64 0, .bool false, .slice none 0 0, .int .i64 0, .slice none 0 0, .slice none 0 0] 26 (0, 0)) (by (with_reducible repeat (first | refine blk_drewN ?_ _ | refine blk_drew ?_ | refine blk_alloc ?_ _)); exact BK70001.out) hb); have n2_ := Aside0.mk (below_step (by repeat (first | (with_reducible first | exact HB.out | apply below_alloc | apply pw_below_drewN | apply below_drew1 | refine below_set ?_ GE70001.out) | exact HB.out)) hb); clear BK70001; clear HB; have HO70005 := n0_; have BK70001 := n1_; have HB := n2_; clear n0_ n1_ n2_; (try clear hb); (try clear hb2); (try clear hk); (try clear hi); (try clear ho0); obtain ⟨Ao7, co7, eo7⟩ := Kd.S_slice HO70005.out; subst eo7; have hcz8_0 : w6.cell? ⟨gb70001, 0, none⟩ = some (.int .i64 0) := (blk_cell BK70001.out 0).trans rfl; have hcz8_1 : w6.cell? ⟨gb70001, 1, none⟩ = some (.bool false) := (blk_cell BK70001.out 1).trans rfl; have hcz8_2 : w6.cell? ⟨gb70001, 2, none⟩ = some (.slice none 0 0) := (blk_cell BK70001.out 2).trans rfl; have hcz8_3 : w6.cell? ⟨gb70001, 3, none⟩ = some (.int .i64 0) := (blk_cell BK70001.out 3).trans rfl; have hcz8_4 : w6.cell? ⟨gb70001, 4, none⟩ = some (.slice none 0 0) := (blk_cell BK70001.out 4).trans rfl; have hcz8_5 : w6.cell? ⟨gb70001, 5, none⟩ = some (.slice none 0 0) := (blk_cell BK70001.out 5).trans rfl; have hfz8_0 := blk_frozen BK70001.out 0; have hfz8_1 := blk_frozen BK70001.out 1; have hfz8_2 := blk_frozen BK70001.out 2; have hfz8_3 := blk_frozen BK70001.out 3; have hfz8_4 := blk_frozen BK70001.out 4; have hfz8_5 := blk_frozen BK70001.out 5))
  refine bodyPost_ret (results_cell_row rfl _ _ gb70001 26 #[.int .i64 a0, .bool true, .slice none 0 0, .int .i64 0, .slice Ao7 t70003.length co7, .slice none 0 0] (0, 0) _ rfl (by (with_reducible repeat (first | refine blk_drewN ?_ _ | refine blk_drew ?_ | refine blk_alloc ?_ _)); refine blk_put (cs := #[.int .i64 a0, .bool true, .slice none 0 0, .int .i64 0, .slice Ao7 t70003.length co7, .slice none 0 0]) ?_ 5 _ rfl; (with_reducible repeat (first | refine blk_drewN ?_ _ | refine blk_drew ?_ | refine blk_alloc ?_ _)); refine blk_put (cs := #[.int .i64 a0, .bool true, .slice none 0 0, .int .i64 0, .slice none 0 0, .slice none 0 0]) ?_ 4 _ rfl; (with_reducible repeat (first | refine blk_drewN ?_ _ | refine blk_drew ?_ | refine blk_alloc ?_ _)); refine blk_put (cs := #[.int .i64 a0, .bool true, .slice none 0 0, .int .i64 0, .slice none 0 0, .slice none 0 0]) ?_ 3 _ rfl; (with_reducible repeat (first | refine blk_drewN ?_ _ | refine blk_drew ?_ | refine blk_alloc ?_ _)); refine blk_put (cs := #[.int .i64 a0, .bool true, .slice none 0 0, .int .i64 0, .slice none 0 0, .slice none 0 0]) ?_ 2 _ rfl; (with_reducible repeat (first | refine blk_drewN ?_ _ | refine blk_drew ?_ | refine blk_alloc ?_ _)); refine blk_put (cs := #[.int .i64 a0, .bool false, .slice none 0 0, .int .i64 0, .slice none 0 0, .slice none 0 0]) ?_ 1 _ rfl; (with_reducible repeat (first | refine blk_drewN ?_ _ | refine blk_drew ?_ | refine blk_alloc ?_ _)); refine blk_put (cs := #[.int .i64 0, .bool false, .slice none 0 0, .int .i64 0, .slice none 0 0, .slice none 0 0]) ?_ 0 _ rfl; (with_reducible repeat (first | refine blk_drewN ?_ _ | refine blk_drew ?_ | refine blk_alloc ?_ _)); exact BK70001.out) Try.underlying26 rfl (by kernel_rfl)) rfl ?_
  exact ⟨_, _, _, by first | rfl | (simp [errW_none, errW_some] <;> rfl) | (simp [*, errW_none, errW_some] <;> rfl), by first | exact Kd.S_nil _ _ _ _ _ | exact Kd.N_nil _ _ _ _ _ | exact Kd.V_nil _ _ _ _ _ | exact Kd.Q_nil _ _ _ _ _ | exact Kd.R_nil _ _ _ _ _, by (with_reducible repeat (first | apply Kd.S_alloc | apply Kd.S_drewN | apply Kd.S_drew)); exact Kd.S_mono (Kd.S_far (p := ⟨gb70001, 5, none⟩) (Kd.S_far (p := ⟨gb70001, 4, none⟩) (Kd.S_far (p := ⟨gb70001, 3, none⟩) (Kd.S_far (p := ⟨gb70001, 2, none⟩) (Kd.S_far (p := ⟨gb70001, 1, none⟩) (Kd.S_far (p := ⟨gb70001, 0, none⟩) (Kd.S_types HO70005.out BK70001.out (by decide)) (fun _ hk => hk.2) (.int .i64 a0)) (fun _ hk => hk.2) (.bool true)) (fun _ hk => hk.2) (.slice none 0 0)) (fun _ hk => hk.2) (.int .i64 0)) (fun _ hk => hk.2) (.slice Ao7 t70003.length co7)) (fun _ hk => hk.2) (.slice none 0 0)) (fun _ hk => trivial), by first | exact Kd.S_nil _ _ _ _ _ | exact Kd.N_nil _ _ _ _ _ | exact Kd.V_nil _ _ _ _ _ | exact Kd.Q_nil _ _ _ _ _ | exact Kd.R_nil _ _ _ _ _, by repeat (first | (with_reducible first | exact HB.out | apply below_alloc | apply pw_below_drewN | apply below_drew1 | refine below_set ?_ GE70001.out) | exact HB.out)⟩
 ·replace c3 := Bool.eq_false_iff.mpr c3
  subst c3
  have H1 : (some (0, false, ([] : List (S75)), 0, ([] : List (S70)), ([] : List (S79)))) = some (r1, r2, r3, r4, r5, r6) := by rw [if_neg (show ¬ (false = true) by decide)] at H; exact H
  clear H
  have H := H1
  clear H1
  simp only [Option.some.injEq, Prod.mk.injEq] at H
  obtain ⟨rfl, rfl, rfl, rfl, rfl, rfl⟩ := H
  go_enter Try.func6, Try.ntmps6
  go_wp2_with (first | ((with_reducible refine gate_dst (N := 2) rfl ?_); refine box_event ?hg (N := 2) ?hd (cs := #[.int .i64 0, .bool false, .slice none 0 0, .int .i64 0, .slice none 0 0, .slice none 0 0]) (t := 26) ?hr ?_; (case hd => rfl); (case hg => rfl); (case hr => first | (go_simp; done) | (go_simp; rfl)); intro gb70001 hg w9 hbox hb; have n0_ := Aside0.mk (below_step (by repeat (first | (with_reducible first | exact HB.out | apply below_alloc | apply pw_below_drewN | apply below_drew1) | exact HB.out)) hb); have n1_ := Aside0.mk (hbox); have n2_ := Aside0.mk ((by rw [hg]; exact (below_size (by repeat (first | (with_reducible first | exact HB.out | apply below_alloc | apply pw_below_drewN | apply below_drew1) | exact HB.out))) : w.heap.size ≤ gb70001)); have n3_ := Aside0.mk ((by rw [hg]; exact (below_size (by repeat (first | (with_reducible first | exact HB.out | apply below_alloc | apply pw_below_drewN | apply below_drew1) | exact HB.out))) : w.heap.size ≤ gb70001)); clear HB; have HB := n0_; have BK70001 := n1_; have GW70001 := n2_; have GE70001 := n3_; clear n0_ n1_ n2_ n3_; clear hb hbox hg) | ((with_reducible refine gate_callee (f := 21) rfl ?_); refine goesL_ (some 4) rfl rfl Try.func21 (by kernel_rfl) rfl #[.int .i64 a0] rfl (by (try simp only [List.map_toArray, List.map_cons, List.map_nil]); first | done | rfl | (simp only [List.length_drop, List.length_take]; rfl)) ?_; (with_reducible refine (spec_l12House.calls a0 false _ A2.out).mono ?_); rintro e w' ⟨rfl, ⟨nd, rfl⟩⟩; refine ⟨_, rfl, ?_⟩; (try (rw [drewN_self w9]; generalize hq_ : World.drewN w9 _ = w9; have n0_ : Aside0 (w9.heap[gb70001]? = some (.cells #[.int .i64 0, .bool false, .slice none 0 0, .int .i64 0, .slice none 0 0, .slice none 0 0] 26 (0, 0))) := ⟨by rw [← hq_]; exact (by (with_reducible repeat (first | refine blk_drewN ?_ _ | refine blk_drew ?_ | refine blk_alloc ?_ _)); exact BK70001.out)⟩; have n1_ : Aside0 (Below w.heap.size w w9) := ⟨by rw [← hq_]; exact (by repeat (first | (with_reducible first | exact HB.out | apply below_alloc | apply pw_below_drewN | apply below_drew1 | refine below_set ?_ GE70001.out) | exact HB.out))⟩; clear BK70001 HB hq_; have BK70001 := n0_; have HB := n1_; clear n0_ n1_)); have hcz10_0 : w9.cell? ⟨gb70001, 0, none⟩ = some (.int .i64 0) := (blk_cell BK70001.out 0).trans rfl; have hcz10_1 : w9.cell? ⟨gb70001, 1, none⟩ = some (.bool false) := (blk_cell BK70001.out 1).trans rfl; have hcz10_2 : w9.cell? ⟨gb70001, 2, none⟩ = some (.slice none 0 0) := (blk_cell BK70001.out 2).trans rfl; have hcz10_3 : w9.cell? ⟨gb70001, 3, none⟩ = some (.int .i64 0) := (blk_cell BK70001.out 3).trans rfl; have hcz10_4 : w9.cell? ⟨gb70001, 4, none⟩ = some (.slice none 0 0) := (blk_cell BK70001.out 4).trans rfl; have hcz10_5 : w9.cell? ⟨gb70001, 5, none⟩ = some (.slice none 0 0) := (blk_cell BK70001.out 5).trans rfl; have hfz10_0 := blk_frozen BK70001.out 0; have hfz10_1 := blk_frozen BK70001.out 1; have hfz10_2 := blk_frozen BK70001.out 2; have hfz10_3 := blk_frozen BK70001.out 3; have hfz10_4 := blk_frozen BK70001.out 4; have hfz10_5 := blk_frozen BK70001.out 5))
  refine bodyPost_ret (results_cell_row rfl _ _ gb70001 26 #[.int .i64 0, .bool false, .slice none 0 0, .int .i64 0, .slice none 0 0, .slice none 0 0] (0, 0) _ rfl (by (with_reducible repeat (first | refine blk_drewN ?_ _ | refine blk_drew ?_ | refine blk_alloc ?_ _)); refine blk_put (cs := #[.int .i64 0, .bool false, .slice none 0 0, .int .i64 0, .slice none 0 0, .slice none 0 0]) ?_ 5 _ rfl; (with_reducible repeat (first | refine blk_drewN ?_ _ | refine blk_drew ?_ | refine blk_alloc ?_ _)); refine blk_put (cs := #[.int .i64 0, .bool false, .slice none 0 0, .int .i64 0, .slice none 0 0, .slice none 0 0]) ?_ 4 _ rfl; (with_reducible repeat (first | refine blk_drewN ?_ _ | refine blk_drew ?_ | refine blk_alloc ?_ _)); refine blk_put (cs := #[.int .i64 0, .bool false, .slice none 0 0, .int .i64 0, .slice none 0 0, .slice none 0 0]) ?_ 3 _ rfl; (with_reducible repeat (first | refine blk_drewN ?_ _ | refine blk_drew ?_ | refine blk_alloc ?_ _)); refine blk_put (cs := #[.int .i64 0, .bool false, .slice none 0 0, .int .i64 0, .slice none 0 0, .slice none 0 0]) ?_ 2 _ rfl; (with_reducible repeat (first | refine blk_drewN ?_ _ | refine blk_drew ?_ | refine blk_alloc ?_ _)); refine blk_put (cs := #[.int .i64 0, .bool false, .slice none 0 0, .int .i64 0, .slice none 0 0, .slice none 0 0]) ?_ 1 _ rfl; (with_reducible repeat (first | refine blk_drewN ?_ _ | refine blk_drew ?_ | refine blk_alloc ?_ _)); refine blk_put (cs := #[.int .i64 0, .bool false, .slice none 0 0, .int .i64 0, .slice none 0 0, .slice none 0 0]) ?_ 0 _ rfl; (with_reducible repeat (first | refine blk_drewN ?_ _ | refine blk_drew ?_ | refine blk_alloc ?_ _)); exact BK70001.out) Try.underlying26 rfl (by kernel_rfl)) rfl ?_
  exact ⟨_, _, _, by first | rfl | (simp [errW_none, errW_some] <;> rfl) | (simp [*, errW_none, errW_some] <;> rfl), by first | exact Kd.S_nil _ _ _ _ _ | exact Kd.N_nil _ _ _ _ _ | exact Kd.V_nil _ _ _ _ _ | exact Kd.Q_nil _ _ _ _ _ | exact Kd.R_nil _ _ _ _ _, by first | exact Kd.S_nil _ _ _ _ _ | exact Kd.N_nil _ _ _ _ _ | exact Kd.V_nil _ _ _ _ _ | exact Kd.Q_nil _ _ _ _ _ | exact Kd.R_nil _ _ _ _ _, by first | exact Kd.S_nil _ _ _ _ _ | exact Kd.N_nil _ _ _ _ _ | exact Kd.V_nil _ _ _ _ _ | exact Kd.Q_nil _ _ _ _ _ | exact Kd.R_nil _ _ _ _ _, by repeat (first | (with_reducible first | exact HB.out | apply below_alloc | apply pw_below_drewN | apply below_drew1 | refine below_set ?_ GE70001.out) | exact HB.out)⟩

def impl_within.f (a0 : Int) (a1 : Int) (a2 : Int) : Option (Bool) := if a1 ≤ a0 then (some (decide (a0 ≤ a2))) else (some false)
set_option maxHeartbeats 8000000 in
set_option maxRecDepth 100000 in
theorem impl_within.calls (a0 : Int) (a1 : Int) (a2 : Int) (r : Bool) (w : World) (h : impl_within.f a0 a1 a2 = some r) :
 Calls Try.prog 53 #[.int .i64 a0, .int .i64 a1, .int .i64 a2] w fun e w' => e = .returned (.bool r) ∧ Drawn0 w w' := by
 have H : (if a1 ≤ a0 then (some (decide (a0 ≤ a2))) else (some false)) = some r := h
 clear h
 by_cases c4 : a1 ≤ a0
 ·rw [if_pos c4] at H
  have c4b0 : decide (a1 ≤ a0) = true := decide_eq_true c4
  clear c4
  obtain rfl := Option.some.inj H
  go_enter Try.func53, Try.ntmps53
  go_wp2
  go_ret
  exact ⟨by first | rfl | (simp; done) | (simp [*]; done), by repeat (first | exact Drawn0.refl _ | apply Drawn0.step)⟩
 ·rw [if_neg c4] at H
  have c4b0 : decide (a1 ≤ a0) = false := decide_eq_false c4
  clear c4
  obtain rfl := Option.some.inj H
  go_enter Try.func53, Try.ntmps53
  go_wp2
  go_ret
  exact ⟨by first | rfl | (simp; done) | (simp [*]; done), by repeat (first | exact Drawn0.refl _ | apply Drawn0.step)⟩

def impl_isHouse.f (a0 : Int) : Option (Bool) := (impl_within.f a0 0 2).bind fun t240001 => (some t240001)
set_option maxHeartbeats 8000000 in
set_option maxRecDepth 100000 in
theorem impl_isHouse.calls (a0 : Int) (r : Bool) (w : World) (h : impl_isHouse.f a0 = some r) :
 Calls Try.prog 23 #[.int .i64 a0] w fun e w' => e = .returned (.bool r) ∧ Drawn0 w w' := by
 have H : ((impl_within.f a0 0 2).bind fun t240001 => (some t240001)) = some r := h
 clear h
 replace H := Option.bind_eq_some_iff.mp H
 obtain ⟨t240001, A20, H⟩ := H
 replace H : (some t240001) = some r := H
 have A2 := Aside0.mk A20
 clear A20
 obtain rfl := Option.some.inj H
 go_enter Try.func23, Try.ntmps23
 go_wp2_with (first | ((with_reducible refine gate_callee (f := 53) rfl ?_); refine goesL_ (some 4) rfl rfl Try.func53 (by kernel_rfl) rfl #[.int .i64 a0, .int .i64 0, .int .i64 2] rfl (by (try simp only [List.map_toArray, List.map_cons, List.map_nil]); first | done | rfl | (simp only [List.length_drop, List.length_take]; rfl)) ?_; (with_reducible refine (impl_within.calls a0 0 2 t240001 _ A2.out).mono ?_); rintro e w' ⟨rfl, ⟨nd, rfl⟩⟩; refine ⟨_, rfl, ?_⟩))
 go_ret
 exact ⟨by first | rfl | (simp; done) | (simp [*]; done), by repeat (first | exact Drawn0.refl _ | apply Drawn0.step)⟩

def impl_freeLocks.l0 : Nat → List (S70) → Int → Int → Option ((List (S70)))
 | 0, _, _, _ => none
 | k + 1, x1, x5, x6 => if x6 < x5 then (if 0 ≤ x6 then (if x6 < (x1.length : Int) then (impl_freeLocks.l0 k (x1.set (x6 : Int).toNat (⟨x6, (rd_T70 x1 x6).f1, (rd_T70 x1 x6).f2⟩ : S70)) x5 (wrap64 (x6 + 1))) else (none)) else (none)) else (some x1)
def impl_freeLocks.f (k : Nat)  : Option ((List (S70))) := if 8 ≤ 5026338869833 then ((some (List.replicate 8 z70 : List (S70))).bind fun y250001 => (impl_freeLocks.l0 k y250001 (y250001.length : Int) 0)) else (none)
theorem impl_freeLocks.mono_l : ∀ k, (∀ y0 y1 y2, LeO (impl_freeLocks.l0 k y0 y1 y2) (impl_freeLocks.l0 (k + 1) y0 y1 y2))
 | 0 => fun _ _ _ r h => by simp [impl_freeLocks.l0] at h
 | k + 1 => by
  have ih0 := impl_freeLocks.mono_l k
  ·intro y0 y1 y2
   unfold impl_freeLocks.l0
   repeat' first
   | (with_reducible exact ih0 _ _ _)
   | (with_reducible exact LeO.refl _)
   | (with_reducible exact LeO.none _)
   | (with_reducible refine LeO.ite ?_ ?_)
   | (with_reducible refine LeO.bind ?_ (fun _ => ?_))
   | exact ih0 _ _ _
   | exact LeO.none _
   | refine LeO.ite ?_ ?_
   | refine LeO.bind ?_ (fun _ => ?_)
theorem impl_freeLocks.mono : ∀ k, LeO (impl_freeLocks.f k ) (impl_freeLocks.f (k + 1) ) := by
 intro  k
 have ih0 := impl_freeLocks.mono_l k
 unfold impl_freeLocks.f
 repeat' first
  | (with_reducible exact ih0 _ _ _)
  | (with_reducible exact LeO.refl _)
  | (with_reducible exact LeO.none _)
  | (with_reducible refine LeO.ite ?_ ?_)
  | (with_reducible refine LeO.bind ?_ (fun _ => ?_))
  | exact ih0 _ _ _
  | exact LeO.none _
  | refine LeO.ite ?_ ?_
  | refine LeO.bind ?_ (fun _ => ?_)
set_option maxHeartbeats 8000000 in
set_option maxRecDepth 100000 in
theorem impl_freeLocks.calls (k : Nat)  (r : List (S70)) (w : World) (h : impl_freeLocks.f k  = some r) :
 Calls Try.prog 24 #[] w fun e w' => ∃ v0_ : Value, e = .returned (v0_) ∧ Kd.S k70 70 w' w.heap.size (fun _ => True) v0_ r ∧ Below w.heap.size w w' := by
 have HB := Aside0.mk (Below.refl w.heap.size w)
 have H : (if 8 ≤ 5026338869833 then ((some (List.replicate 8 z70 : List (S70))).bind fun y250001 => (impl_freeLocks.l0 k y250001 (y250001.length : Int) 0)) else (none)) = some r := h
 clear h
 by_cases c1 : 8 ≤ 5026338869833
 ·rw [if_pos c1] at H
  have c1b0 := eq_true c1
  have c1b1 : decide (8 ≤ 5026338869833) = true := decide_eq_true c1
  clear c1
  obtain ⟨y250001, hy250001⟩ : ∃ y_ : List (S70), y_ = (List.replicate 8 z70) := ⟨_, rfl⟩
  replace H : (impl_freeLocks.l0 k y250001 (y250001.length : Int) 0) = some r := by first | (rw [hy250001]; with_reducible exact H) | (have H2_ := (Option.bind_some _ _).symm.trans H; rw [hy250001]; with_reducible exact H2_) | (have H2_ := (Option.bind_some _ _).symm.trans H; with_reducible exact H2_) | with_reducible exact H | (rw [hy250001]; exact H) | exact H
  have Ny250001 := Aside0.mk hy250001
  clear hy250001
  have H' := Aside0.mk H
  clear H
  go_enter Try.func24, Try.ntmps24
  go_wp2_with (first | ((with_reducible refine gate_dst (N := 3) rfl ?_); refine Kd.S_make k70 _ 70 rfl (N := 3) rfl 23 _ _ rfl 8 rfl rfl Try.underlying23 (.agg #[(.int .i64 0), (.slice none 0 0), (.slice none 0 0)]) 56 info70 rfl (by decide) (by omega) z70 (ok := fun _ => True) (okp := fun _ => True) (k70_mkM _ _ _ z70 (Kd.R_nil _ _ _ _ _) (Kd.R_nil _ _ _ _ _)) (fun _ hk => hk) trivial (by omega) (by omega) (Below.refl _ _) (Nat.le_refl _) ?_; intro v250002 w2 ho3 hb hg_ hnew_; clear hg_ hnew_; (first | rw [← Ny250001.out] at ho3 | (simp only [Int.reduceToNat] at ho3; rw [← Ny250001.out] at ho3)); have n0_ := Aside0.mk (Kd.S_lower ho3 (below_size (by repeat (first | (with_reducible first | exact HB.out | apply below_alloc | apply pw_below_drewN | apply below_drew1) | exact HB.out)))); have n1_ := Aside0.mk (below_step (by repeat (first | (with_reducible first | exact HB.out | apply below_alloc | apply pw_below_drewN | apply below_drew1) | exact HB.out)) hb); clear HB; have HO250003 := n0_; have HB := n1_; clear n0_ n1_; clear hb ho3; obtain ⟨Ao4, co4, eo4⟩ := Kd.S_slice HO250003.out; subst eo4))
  go_loopg [6] k (fun kq v6 w' => ∃ (x1_1 : List (S70)) (x6_1 : Int), v6 = .int .i64 x6_1 ∧ Aside0 (impl_freeLocks.l0 kq x1_1 (y250001.length : Int) x6_1 = some r) ∧ Aside0 (kq ≤ k) ∧ Aside0 (Kd.S k70 70 w' w.heap.size (fun _ => True) (.slice Ao4 y250001.length co4) x1_1) ∧ Aside0 (Below w.heap.size w w'))
  case atStart => exact ⟨(y250001), (0), (by first | rfl | (simp; done) | (simp [*]; done)), H', ⟨Nat.le_refl _⟩, ⟨by (with_reducible repeat (first | apply Kd.S_alloc | apply Kd.S_drewN | apply Kd.S_drew)); exact HO250003.out⟩, ⟨by repeat (first | (with_reducible first | exact HB.out | apply below_alloc | apply pw_below_drewN | apply below_drew1) | exact HB.out)⟩⟩
  case round =>
   clear H'
   try clear c1
   try clear c1b0
   try clear c1b1
   try clear c2
   try clear p2
   obtain ⟨x1_1, x6_1, rfl, HA, HK1, HO_1, HB⟩ := hrel
   have hl1_1 := (Kd.S_reads' HO_1.out).1
   rw [hl1_1] at HO_1
   (try simp only [hl1_1])
   cases gk with
   | zero => exact absurd HA.out (by simp [impl_freeLocks.l0])
   | succ k1 =>
    have H := HA.out
    clear HA
    simp only [impl_freeLocks.l0] at H
    by_cases c5 : x6_1 < (y250001.length : Int)
    ·rw [if_pos c5] at H
     have c5b0 : decide (x6_1 < (y250001.length : Int)) = true := decide_eq_true c5
     clear c5
     by_cases c6 : 0 ≤ x6_1
     ·rw [if_pos c6] at H
      have c6b0 : decide (0 ≤ x6_1) = true := decide_eq_true c6
      clear c6
      by_cases c7 : x6_1 < (x1_1.length : Int)
      ·rw [if_pos c7] at H
       have c7b0 : decide (x6_1 < (x1_1.length : Int)) = true := decide_eq_true c7
       clear c7
       obtain ⟨y250004, hy250004⟩ : ∃ y_ : List (S70), y_ = (x1_1.set (x6_1 : Int).toNat (⟨x6_1, (rd_T70 x1_1 x6_1).f1, (rd_T70 x1_1 x6_1).f2⟩ : S70)) := ⟨_, rfl⟩
       replace H : (impl_freeLocks.l0 k1 y250004 (y250001.length : Int) (wrap64 (x6_1 + 1))) = some r := by first | (rw [hy250004]; with_reducible exact H) | (have H2_ := (Option.bind_some _ _).symm.trans H; rw [hy250004]; with_reducible exact H2_) | (have H2_ := (Option.bind_some _ _).symm.trans H; with_reducible exact H2_) | with_reducible exact H | (rw [hy250004]; exact H) | exact H
       have Ny250004 := Aside0.mk hy250004
       clear hy250004
       have H' := Aside0.mk H
       clear H
       have p8 : 0 ≤ (x6_1 : Int) := of_decide_eq_true (by first | (with_reducible assumption) | assumption)
       have q8 : (x6_1 : Int) < ((x1_1.length : Int) : Int) := of_decide_eq_true (by first | (with_reducible assumption) | assumption)
       obtain ⟨go8, co8, eo8, gb8, gl8, cl8, HG8⟩ := Kd.S_form HO_1.out (by omega)
       (first | cases eo8 | (injection eo8 with ea_ en_ ec_; (first | subst ea_ | (injection ea_ with ea_; subst ea_)); subst ec_; clear en_))
       have GB8 := Aside0.mk gb8
       have GG8 := Aside0.mk HG8
       clear gb8 gl8 HG8
       obtain ⟨_, ce8, hcl8, hM8, hcc8, hfr8, _, _⟩ := Kd.S_elem HO_1.out z70 (x6_1 : Int) p8 q8
       obtain ⟨ve8_1, ve8_2, rfl, ge8_1, ge8_2⟩ := k70_openM hM8
       have hx8_0 : wr.cell? ⟨go8, (x6_1 : Int).toNat * 3, none⟩ = some (.int .i64 ((rd_T70 x1_1 x6_1).f0)) := hcc8 0 _ rfl
       have hx8_1 : wr.cell? ⟨go8, (x6_1 : Int).toNat * 3 + 1, none⟩ = some (ve8_1) := hcc8 1 _ rfl
       have hx8_2 : wr.cell? ⟨go8, (x6_1 : Int).toNat * 3 + 2, none⟩ = some (ve8_2) := hcc8 2 _ rfl
       have hf8_0 : wr.frozen? ⟨go8, (x6_1 : Int).toNat * 3, none⟩ = false := hfr8 0
       have hf8_1 : wr.frozen? ⟨go8, (x6_1 : Int).toNat * 3 + 1, none⟩ = false := hfr8 1
       have hf8_2 : wr.frozen? ⟨go8, (x6_1 : Int).toNat * 3 + 2, none⟩ = false := hfr8 2
       clear hcl8 hcc8 hfr8 hM8
       replace p8 := eq_true p8
       replace q8 := eq_true q8
       have HX9 := Aside0.mk (show Kd.S k70 70 wr w.heap.size (fun k_ => ((fun _ => True)) k_ ∧ ¬ ((fun _ => False)) k_) (.slice (some ⟨go8, 0, none⟩) x1_1.length co4) x1_1 from (by (with_reducible repeat (first | apply Kd.S_alloc | apply Kd.S_drewN | apply Kd.S_drew)); exact Kd.S_mono HO_1.out (fun k_ hk => ⟨trivial, fun e_ => e_⟩)))
       obtain ⟨oki9, ce9, hcl9, hM9, hcc9, hfr9, hoki9, hH9⟩ := Kd.S_elem HX9.out z70 (x6_1 : Int) (of_decide_eq_true (by first | (with_reducible assumption) | assumption)) (by have h_ : (x6_1 : Int) < ((x1_1.length : Int) : Int) := of_decide_eq_true (by first | (with_reducible assumption) | assumption); first | exact h_ | (have e_ := (Kd.S_reads' HO_1.out).1; omega) | simpa using h_)
       obtain ⟨ve9_1, ve9_2, rfl, ge9_1, ge9_2⟩ := k70_openM hM9
       have HP9 := Kd.S_seg hH9 (of_decide_eq_true (by first | (with_reducible assumption) | assumption)) (by have h_ : (x6_1 : Int) < ((x1_1.length : Int) : Int) := of_decide_eq_true (by first | (with_reducible assumption) | assumption); first | exact h_ | (have e_ := (Kd.S_reads' HO_1.out).1; omega) | simpa using h_) (seg := [.int .i64 x6_1]) (j := 0) (show 1 ≤ 3 from by decide) (x' := (⟨x6_1, (rd_T70 x1_1 x6_1).f1, (rd_T70 x1_1 x6_1).f2⟩ : S70)) (k70_mkM _ _ _ (⟨x6_1, (rd_T70 x1_1 x6_1).f1, (rd_T70 x1_1 x6_1).f2⟩ : S70) (Kd.R_mono ge9_1 (fun _ h_ => Or.inl h_)) (Kd.R_mono ge9_2 (fun _ h_ => Or.inl h_))) (fun _ hk => hk) (fun k_ hk_ => hk_.elim)
       have hx9_0 := hcc9 0 _ rfl
       (try simp only [show (k70).sz = 3 from rfl, Nat.mul_one, Nat.add_zero] at hx9_0)
       have hf9_0 := hfr9 0
       (try simp only [show (k70).sz = 3 from rfl, Nat.mul_one, Nat.add_zero] at hf9_0)
       clear hcl9 hcc9 hfr9 hM9 hoki9 hH9
       go_wp2_with (first | ((with_reducible refine gate_store (t := 3) (p := 13) rfl ?_); refine store_event (t := 3) (p := 13) (v := ?vo_w10) (w1 := (wr.setCell ⟨go8, (x6_1 : Int).toNat * 3, none⟩ (.int .i64 x6_1))) ?hg ?ho ?hn ?hr ?_; (case ho => rfl); (case hg => rfl); (case hn => rfl); (case hr => first | (go_simp; done) | (go_simp; rfl)); intro w10 hw; have hg : wr.grownBy w10 (some go8) := (by rw [hw]; exact HP9.2); have hp_ : Kd.S k70 70 w10 w.heap.size (fun _ => True) (.slice (some ⟨go8, 0, none⟩) x1_1.length co4) y250004 := (by rw [hw, Ny250004.out]; exact HP9.1); clear HP9; have n0_ := Aside0.mk (hp_); have n1_ := Aside0.mk ((by rw [hw]; exact below_set (HB.out) GB8.out : Below w.heap.size w w10)); clear HO_1; clear HB; have HO_1 := n0_; have HB := n1_; clear n0_ n1_; clear hg hw hp_))
       (try simp only [← hl1_1])
       go_roundg k1
       case measure => have := HK1.out; omega
       case rel => exact ⟨(y250004), (wrap64 (x6_1 + 1)), (by first | rfl | (simp; done) | (simp [*]; done)), H', ⟨by have := HK1.out; omega⟩, ⟨by (try simp only [hl1_1]); (with_reducible repeat (first | apply Kd.S_alloc | apply Kd.S_drewN | apply Kd.S_drew)); exact HO_1.out⟩, ⟨by repeat (first | (with_reducible first | exact HB.out | apply below_alloc | apply pw_below_drewN | apply below_drew1) | exact HB.out)⟩⟩
      ·rw [if_neg c7] at H
       exact absurd H (by simp)
     ·rw [if_neg c6] at H
      exact absurd H (by simp)
    ·rw [if_neg c5] at H
     have c5b0 : decide (x6_1 < (y250001.length : Int)) = false := decide_eq_false c5
     (try rw [hl1_1] at c5b0)
     clear c5
     obtain rfl := Option.some.inj H
     go_wp2
     go_ret
     exact ⟨_, by first | rfl | (simp [errW_none, errW_some] <;> rfl) | (simp [*, errW_none, errW_some] <;> rfl), by (with_reducible repeat (first | apply Kd.S_alloc | apply Kd.S_drewN | apply Kd.S_drew)); exact HO_1.out, by repeat (first | (with_reducible first | exact HB.out | apply below_alloc | apply pw_below_drewN | apply below_drew1) | exact HB.out)⟩
 ·rw [if_neg c1] at H
  exact absurd H (by simp)

def impl_HouseStart.f (k : Nat) (a0 : Int) : Option (Int × Bool × (List (S75)) × Int × (List (S70)) × (List (S79))) := (impl_isHouse.f a0).bind fun t80002 => (if t80002 = true then ((impl_freeLocks.f k).bind fun t80003 => (some (a0, true, ([] : List (S75)), 0, t80003, ([] : List (S79))))) else (some (0, false, ([] : List (S75)), 0, ([] : List (S70)), ([] : List (S79)))))
theorem impl_HouseStart.mono : ∀ a0 k, LeO (impl_HouseStart.f k a0) (impl_HouseStart.f (k + 1) a0) := by
 intro a0 k
 unfold impl_HouseStart.f
 repeat' first
  | (with_reducible exact impl_freeLocks.mono _)
  | (with_reducible exact LeO.refl _)
  | (with_reducible exact LeO.none _)
  | (with_reducible refine LeO.ite ?_ ?_)
  | (with_reducible refine LeO.bind ?_ (fun _ => ?_))
  | exact impl_freeLocks.mono _
  | exact LeO.none _
  | refine LeO.ite ?_ ?_
  | refine LeO.bind ?_ (fun _ => ?_)
set_option maxHeartbeats 8000000 in
set_option maxRecDepth 100000 in
theorem impl_HouseStart.calls (k : Nat) (a0 : Int) (r1 : Int) (r2 : Bool) (r3 : List (S75)) (r4 : Int) (r5 : List (S70)) (r6 : List (S79)) (w : World) (h : impl_HouseStart.f k a0 = some (r1, r2, r3, r4, r5, r6)) :
 Calls Try.prog 7 #[.int .i64 a0] w fun e w' => ∃ v2_ v4_ v5_ : Value, e = .returned (.agg #[.int .i64 r1, .bool r2, v2_, .int .i64 r4, v4_, v5_]) ∧ Kd.S k75 75 w' w.heap.size (fun _ => True) v2_ r3 ∧ Kd.S k70 70 w' w.heap.size (fun _ => True) v4_ r5 ∧ Kd.S k79 79 w' w.heap.size (fun _ => True) v5_ r6 ∧ Below w.heap.size w w' := by
 have hu26 := Try.underlying26
 have HB := Aside0.mk (Below.refl w.heap.size w)
 have H : ((impl_isHouse.f a0).bind fun t80002 => (if t80002 = true then ((impl_freeLocks.f k).bind fun t80003 => (some (a0, true, ([] : List (S75)), 0, t80003, ([] : List (S79))))) else (some (0, false, ([] : List (S75)), 0, ([] : List (S70)), ([] : List (S79)))))) = some (r1, r2, r3, r4, r5, r6) := h
 clear h
 replace H := Option.bind_eq_some_iff.mp H
 obtain ⟨t80002, A20, H⟩ := H
 replace H : (if t80002 = true then ((impl_freeLocks.f k).bind fun t80003 => (some (a0, true, ([] : List (S75)), 0, t80003, ([] : List (S79))))) else (some (0, false, ([] : List (S75)), 0, ([] : List (S70)), ([] : List (S79))))) = some (r1, r2, r3, r4, r5, r6) := H
 have A2 := Aside0.mk A20
 clear A20
 by_cases c3 : t80002 = true
 ·subst c3
  have H1 : ((impl_freeLocks.f k).bind fun t80003 => (some (a0, true, ([] : List (S75)), 0, t80003, ([] : List (S79))))) = some (r1, r2, r3, r4, r5, r6) := by rw [if_pos rfl] at H; exact H
  clear H
  have H := H1
  clear H1
  replace H := Option.bind_eq_some_iff.mp H
  obtain ⟨t80003, A40, H⟩ := H
  replace H : (some (a0, true, ([] : List (S75)), 0, t80003, ([] : List (S79)))) = some (r1, r2, r3, r4, r5, r6) := H
  have A4 := Aside0.mk A40
  clear A40
  simp only [Option.some.injEq, Prod.mk.injEq] at H
  obtain ⟨rfl, rfl, rfl, rfl, rfl, rfl⟩ := H
  go_enter Try.func7, Try.ntmps7
  go_wp2_with (first | ((with_reducible refine gate_dst (N := 2) rfl ?_); refine box_event ?hg (N := 2) ?hd (cs := #[.int .i64 0, .bool false, .slice none 0 0, .int .i64 0, .slice none 0 0, .slice none 0 0]) (t := 26) ?hr ?_; (case hd => rfl); (case hg => rfl); (case hr => first | (go_simp; done) | (go_simp; rfl)); intro gb80001 hg w5 hbox hb; have n0_ := Aside0.mk (below_step (by repeat (first | (with_reducible first | exact HB.out | apply below_alloc | apply pw_below_drewN | apply below_drew1) | exact HB.out)) hb); have n1_ := Aside0.mk (hbox); have n2_ := Aside0.mk ((by rw [hg]; exact (below_size (by repeat (first | (with_reducible first | exact HB.out | apply below_alloc | apply pw_below_drewN | apply below_drew1) | exact HB.out))) : w.heap.size ≤ gb80001)); have n3_ := Aside0.mk ((by rw [hg]; exact (below_size (by repeat (first | (with_reducible first | exact HB.out | apply below_alloc | apply pw_below_drewN | apply below_drew1) | exact HB.out))) : w.heap.size ≤ gb80001)); clear HB; have HB := n0_; have BK80001 := n1_; have GW80001 := n2_; have GE80001 := n3_; clear n0_ n1_ n2_ n3_; clear hb hbox hg) | ((with_reducible refine gate_callee (f := 23) rfl ?_); refine goesL_ (some 4) rfl rfl Try.func23 (by kernel_rfl) rfl #[.int .i64 a0] rfl (by (try simp only [List.map_toArray, List.map_cons, List.map_nil]); first | done | rfl | (simp only [List.length_drop, List.length_take]; rfl)) ?_; (with_reducible refine (impl_isHouse.calls a0 true _ A2.out).mono ?_); rintro e w' ⟨rfl, ⟨nd, rfl⟩⟩; refine ⟨_, rfl, ?_⟩; (try (rw [drewN_self w5]; generalize hq_ : World.drewN w5 _ = w5; have n0_ : Aside0 (w5.heap[gb80001]? = some (.cells #[.int .i64 0, .bool false, .slice none 0 0, .int .i64 0, .slice none 0 0, .slice none 0 0] 26 (0, 0))) := ⟨by rw [← hq_]; exact (by (with_reducible repeat (first | refine blk_drewN ?_ _ | refine blk_drew ?_ | refine blk_alloc ?_ _)); exact BK80001.out)⟩; have n1_ : Aside0 (Below w.heap.size w w5) := ⟨by rw [← hq_]; exact (by repeat (first | (with_reducible first | exact HB.out | apply below_alloc | apply pw_below_drewN | apply below_drew1 | refine below_set ?_ GE80001.out) | exact HB.out))⟩; clear BK80001 HB hq_; have BK80001 := n0_; have HB := n1_; clear n0_ n1_))) | ((with_reducible refine gate_callee (f := 24) rfl ?_); refine goesL_ (some 8) rfl rfl Try.func24 (by kernel_rfl) rfl #[] rfl (by (try simp only [List.map_toArray, List.map_cons, List.map_nil]); first | done | rfl | (simp only [List.length_drop, List.length_take]; rfl)) ?_; (with_reducible refine (impl_freeLocks.calls k  t80003 _ A4.out).mono ?_); rintro e w6 ⟨v80004, rfl, ho0, hb⟩; refine ⟨_, rfl, ?_⟩; have n0_ := Aside0.mk (Kd.S_lower ho0 (below_size (by repeat (first | (with_reducible first | exact HB.out | apply below_alloc | apply pw_below_drewN | apply below_drew1 | refine below_set ?_ GE80001.out) | exact HB.out)))); have n1_ := Aside0.mk (blk_below (g := gb80001) (o := .cells #[.int .i64 0, .bool false, .slice none 0 0, .int .i64 0, .slice none 0 0, .slice none 0 0] 26 (0, 0)) (by (with_reducible repeat (first | refine blk_drewN ?_ _ | refine blk_drew ?_ | refine blk_alloc ?_ _)); exact BK80001.out) hb); have n2_ := Aside0.mk (below_step (by repeat (first | (with_reducible first | exact HB.out | apply below_alloc | apply pw_below_drewN | apply below_drew1 | refine below_set ?_ GE80001.out) | exact HB.out)) hb); clear BK80001; clear HB; have HO80005 := n0_; have BK80001 := n1_; have HB := n2_; clear n0_ n1_ n2_; (try clear hb); (try clear hb2); (try clear hk); (try clear hi); (try clear ho0); obtain ⟨Ao7, co7, eo7⟩ := Kd.S_slice HO80005.out; subst eo7; have hcz8_0 : w6.cell? ⟨gb80001, 0, none⟩ = some (.int .i64 0) := (blk_cell BK80001.out 0).trans rfl; have hcz8_1 : w6.cell? ⟨gb80001, 1, none⟩ = some (.bool false) := (blk_cell BK80001.out 1).trans rfl; have hcz8_2 : w6.cell? ⟨gb80001, 2, none⟩ = some (.slice none 0 0) := (blk_cell BK80001.out 2).trans rfl; have hcz8_3 : w6.cell? ⟨gb80001, 3, none⟩ = some (.int .i64 0) := (blk_cell BK80001.out 3).trans rfl; have hcz8_4 : w6.cell? ⟨gb80001, 4, none⟩ = some (.slice none 0 0) := (blk_cell BK80001.out 4).trans rfl; have hcz8_5 : w6.cell? ⟨gb80001, 5, none⟩ = some (.slice none 0 0) := (blk_cell BK80001.out 5).trans rfl; have hfz8_0 := blk_frozen BK80001.out 0; have hfz8_1 := blk_frozen BK80001.out 1; have hfz8_2 := blk_frozen BK80001.out 2; have hfz8_3 := blk_frozen BK80001.out 3; have hfz8_4 := blk_frozen BK80001.out 4; have hfz8_5 := blk_frozen BK80001.out 5))
  refine bodyPost_ret (results_cell_row rfl _ _ gb80001 26 #[.int .i64 a0, .bool true, .slice none 0 0, .int .i64 0, .slice Ao7 t80003.length co7, .slice none 0 0] (0, 0) _ rfl (by (with_reducible repeat (first | refine blk_drewN ?_ _ | refine blk_drew ?_ | refine blk_alloc ?_ _)); refine blk_put (cs := #[.int .i64 a0, .bool true, .slice none 0 0, .int .i64 0, .slice Ao7 t80003.length co7, .slice none 0 0]) ?_ 5 _ rfl; (with_reducible repeat (first | refine blk_drewN ?_ _ | refine blk_drew ?_ | refine blk_alloc ?_ _)); refine blk_put (cs := #[.int .i64 a0, .bool true, .slice none 0 0, .int .i64 0, .slice none 0 0, .slice none 0 0]) ?_ 4 _ rfl; (with_reducible repeat (first | refine blk_drewN ?_ _ | refine blk_drew ?_ | refine blk_alloc ?_ _)); refine blk_put (cs := #[.int .i64 a0, .bool true, .slice none 0 0, .int .i64 0, .slice none 0 0, .slice none 0 0]) ?_ 3 _ rfl; (with_reducible repeat (first | refine blk_drewN ?_ _ | refine blk_drew ?_ | refine blk_alloc ?_ _)); refine blk_put (cs := #[.int .i64 a0, .bool true, .slice none 0 0, .int .i64 0, .slice none 0 0, .slice none 0 0]) ?_ 2 _ rfl; (with_reducible repeat (first | refine blk_drewN ?_ _ | refine blk_drew ?_ | refine blk_alloc ?_ _)); refine blk_put (cs := #[.int .i64 a0, .bool false, .slice none 0 0, .int .i64 0, .slice none 0 0, .slice none 0 0]) ?_ 1 _ rfl; (with_reducible repeat (first | refine blk_drewN ?_ _ | refine blk_drew ?_ | refine blk_alloc ?_ _)); refine blk_put (cs := #[.int .i64 0, .bool false, .slice none 0 0, .int .i64 0, .slice none 0 0, .slice none 0 0]) ?_ 0 _ rfl; (with_reducible repeat (first | refine blk_drewN ?_ _ | refine blk_drew ?_ | refine blk_alloc ?_ _)); exact BK80001.out) Try.underlying26 rfl (by kernel_rfl)) rfl ?_
  exact ⟨_, _, _, by first | rfl | (simp [errW_none, errW_some] <;> rfl) | (simp [*, errW_none, errW_some] <;> rfl), by first | exact Kd.S_nil _ _ _ _ _ | exact Kd.N_nil _ _ _ _ _ | exact Kd.V_nil _ _ _ _ _ | exact Kd.Q_nil _ _ _ _ _ | exact Kd.R_nil _ _ _ _ _, by (with_reducible repeat (first | apply Kd.S_alloc | apply Kd.S_drewN | apply Kd.S_drew)); exact Kd.S_mono (Kd.S_far (p := ⟨gb80001, 5, none⟩) (Kd.S_far (p := ⟨gb80001, 4, none⟩) (Kd.S_far (p := ⟨gb80001, 3, none⟩) (Kd.S_far (p := ⟨gb80001, 2, none⟩) (Kd.S_far (p := ⟨gb80001, 1, none⟩) (Kd.S_far (p := ⟨gb80001, 0, none⟩) (Kd.S_types HO80005.out BK80001.out (by decide)) (fun _ hk => hk.2) (.int .i64 a0)) (fun _ hk => hk.2) (.bool true)) (fun _ hk => hk.2) (.slice none 0 0)) (fun _ hk => hk.2) (.int .i64 0)) (fun _ hk => hk.2) (.slice Ao7 t80003.length co7)) (fun _ hk => hk.2) (.slice none 0 0)) (fun _ hk => trivial), by first | exact Kd.S_nil _ _ _ _ _ | exact Kd.N_nil _ _ _ _ _ | exact Kd.V_nil _ _ _ _ _ | exact Kd.Q_nil _ _ _ _ _ | exact Kd.R_nil _ _ _ _ _, by repeat (first | (with_reducible first | exact HB.out | apply below_alloc | apply pw_below_drewN | apply below_drew1 | refine below_set ?_ GE80001.out) | exact HB.out)⟩
 ·replace c3 := Bool.eq_false_iff.mpr c3
  subst c3
  have H1 : (some (0, false, ([] : List (S75)), 0, ([] : List (S70)), ([] : List (S79)))) = some (r1, r2, r3, r4, r5, r6) := by rw [if_neg (show ¬ (false = true) by decide)] at H; exact H
  clear H
  have H := H1
  clear H1
  simp only [Option.some.injEq, Prod.mk.injEq] at H
  obtain ⟨rfl, rfl, rfl, rfl, rfl, rfl⟩ := H
  go_enter Try.func7, Try.ntmps7
  go_wp2_with (first | ((with_reducible refine gate_dst (N := 2) rfl ?_); refine box_event ?hg (N := 2) ?hd (cs := #[.int .i64 0, .bool false, .slice none 0 0, .int .i64 0, .slice none 0 0, .slice none 0 0]) (t := 26) ?hr ?_; (case hd => rfl); (case hg => rfl); (case hr => first | (go_simp; done) | (go_simp; rfl)); intro gb80001 hg w9 hbox hb; have n0_ := Aside0.mk (below_step (by repeat (first | (with_reducible first | exact HB.out | apply below_alloc | apply pw_below_drewN | apply below_drew1) | exact HB.out)) hb); have n1_ := Aside0.mk (hbox); have n2_ := Aside0.mk ((by rw [hg]; exact (below_size (by repeat (first | (with_reducible first | exact HB.out | apply below_alloc | apply pw_below_drewN | apply below_drew1) | exact HB.out))) : w.heap.size ≤ gb80001)); have n3_ := Aside0.mk ((by rw [hg]; exact (below_size (by repeat (first | (with_reducible first | exact HB.out | apply below_alloc | apply pw_below_drewN | apply below_drew1) | exact HB.out))) : w.heap.size ≤ gb80001)); clear HB; have HB := n0_; have BK80001 := n1_; have GW80001 := n2_; have GE80001 := n3_; clear n0_ n1_ n2_ n3_; clear hb hbox hg) | ((with_reducible refine gate_callee (f := 23) rfl ?_); refine goesL_ (some 4) rfl rfl Try.func23 (by kernel_rfl) rfl #[.int .i64 a0] rfl (by (try simp only [List.map_toArray, List.map_cons, List.map_nil]); first | done | rfl | (simp only [List.length_drop, List.length_take]; rfl)) ?_; (with_reducible refine (impl_isHouse.calls a0 false _ A2.out).mono ?_); rintro e w' ⟨rfl, ⟨nd, rfl⟩⟩; refine ⟨_, rfl, ?_⟩; (try (rw [drewN_self w9]; generalize hq_ : World.drewN w9 _ = w9; have n0_ : Aside0 (w9.heap[gb80001]? = some (.cells #[.int .i64 0, .bool false, .slice none 0 0, .int .i64 0, .slice none 0 0, .slice none 0 0] 26 (0, 0))) := ⟨by rw [← hq_]; exact (by (with_reducible repeat (first | refine blk_drewN ?_ _ | refine blk_drew ?_ | refine blk_alloc ?_ _)); exact BK80001.out)⟩; have n1_ : Aside0 (Below w.heap.size w w9) := ⟨by rw [← hq_]; exact (by repeat (first | (with_reducible first | exact HB.out | apply below_alloc | apply pw_below_drewN | apply below_drew1 | refine below_set ?_ GE80001.out) | exact HB.out))⟩; clear BK80001 HB hq_; have BK80001 := n0_; have HB := n1_; clear n0_ n1_)); have hcz10_0 : w9.cell? ⟨gb80001, 0, none⟩ = some (.int .i64 0) := (blk_cell BK80001.out 0).trans rfl; have hcz10_1 : w9.cell? ⟨gb80001, 1, none⟩ = some (.bool false) := (blk_cell BK80001.out 1).trans rfl; have hcz10_2 : w9.cell? ⟨gb80001, 2, none⟩ = some (.slice none 0 0) := (blk_cell BK80001.out 2).trans rfl; have hcz10_3 : w9.cell? ⟨gb80001, 3, none⟩ = some (.int .i64 0) := (blk_cell BK80001.out 3).trans rfl; have hcz10_4 : w9.cell? ⟨gb80001, 4, none⟩ = some (.slice none 0 0) := (blk_cell BK80001.out 4).trans rfl; have hcz10_5 : w9.cell? ⟨gb80001, 5, none⟩ = some (.slice none 0 0) := (blk_cell BK80001.out 5).trans rfl; have hfz10_0 := blk_frozen BK80001.out 0; have hfz10_1 := blk_frozen BK80001.out 1; have hfz10_2 := blk_frozen BK80001.out 2; have hfz10_3 := blk_frozen BK80001.out 3; have hfz10_4 := blk_frozen BK80001.out 4; have hfz10_5 := blk_frozen BK80001.out 5))
  refine bodyPost_ret (results_cell_row rfl _ _ gb80001 26 #[.int .i64 0, .bool false, .slice none 0 0, .int .i64 0, .slice none 0 0, .slice none 0 0] (0, 0) _ rfl (by (with_reducible repeat (first | refine blk_drewN ?_ _ | refine blk_drew ?_ | refine blk_alloc ?_ _)); refine blk_put (cs := #[.int .i64 0, .bool false, .slice none 0 0, .int .i64 0, .slice none 0 0, .slice none 0 0]) ?_ 5 _ rfl; (with_reducible repeat (first | refine blk_drewN ?_ _ | refine blk_drew ?_ | refine blk_alloc ?_ _)); refine blk_put (cs := #[.int .i64 0, .bool false, .slice none 0 0, .int .i64 0, .slice none 0 0, .slice none 0 0]) ?_ 4 _ rfl; (with_reducible repeat (first | refine blk_drewN ?_ _ | refine blk_drew ?_ | refine blk_alloc ?_ _)); refine blk_put (cs := #[.int .i64 0, .bool false, .slice none 0 0, .int .i64 0, .slice none 0 0, .slice none 0 0]) ?_ 3 _ rfl; (with_reducible repeat (first | refine blk_drewN ?_ _ | refine blk_drew ?_ | refine blk_alloc ?_ _)); refine blk_put (cs := #[.int .i64 0, .bool false, .slice none 0 0, .int .i64 0, .slice none 0 0, .slice none 0 0]) ?_ 2 _ rfl; (with_reducible repeat (first | refine blk_drewN ?_ _ | refine blk_drew ?_ | refine blk_alloc ?_ _)); refine blk_put (cs := #[.int .i64 0, .bool false, .slice none 0 0, .int .i64 0, .slice none 0 0, .slice none 0 0]) ?_ 1 _ rfl; (with_reducible repeat (first | refine blk_drewN ?_ _ | refine blk_drew ?_ | refine blk_alloc ?_ _)); refine blk_put (cs := #[.int .i64 0, .bool false, .slice none 0 0, .int .i64 0, .slice none 0 0, .slice none 0 0]) ?_ 0 _ rfl; (with_reducible repeat (first | refine blk_drewN ?_ _ | refine blk_drew ?_ | refine blk_alloc ?_ _)); exact BK80001.out) Try.underlying26 rfl (by kernel_rfl)) rfl ?_
  exact ⟨_, _, _, by first | rfl | (simp [errW_none, errW_some] <;> rfl) | (simp [*, errW_none, errW_some] <;> rfl), by first | exact Kd.S_nil _ _ _ _ _ | exact Kd.N_nil _ _ _ _ _ | exact Kd.V_nil _ _ _ _ _ | exact Kd.Q_nil _ _ _ _ _ | exact Kd.R_nil _ _ _ _ _, by first | exact Kd.S_nil _ _ _ _ _ | exact Kd.N_nil _ _ _ _ _ | exact Kd.V_nil _ _ _ _ _ | exact Kd.Q_nil _ _ _ _ _ | exact Kd.R_nil _ _ _ _ _, by first | exact Kd.S_nil _ _ _ _ _ | exact Kd.N_nil _ _ _ _ _ | exact Kd.V_nil _ _ _ _ _ | exact Kd.Q_nil _ _ _ _ _ | exact Kd.R_nil _ _ _ _ _, by repeat (first | (with_reducible first | exact HB.out | apply below_alloc | apply pw_below_drewN | apply below_drew1 | refine below_set ?_ GE80001.out) | exact HB.out)⟩

end Go.Proofs.Ythahadclegihaaa.PX
