/- eqHouseS on two worlds' houses at first. -/
import Derived.Test.YthahadclegihaaaTB
import Derived.Deep.Cut
namespace Go.Proofs.Ythahadclegihaaa.PX
open Go.RowKit Go.Proofs.YthahadclegihaaaW.PrintWords Go.Proofs.YthahadclegihaaaW.PrintLast Go.Proofs.YthahadclegihaaaW.PrintMore
attribute [local go_sem] max2_int min2_int max_two min_two max_three min_three max_four min_four
set_option linter.unusedVariables false
set_option linter.unusedSimpArgs false
theorem lk {W : World} {base : Nat} {ok : Nat → Prop} {A : Option Addr} {c : Nat} {l : List S70} (h : Kd.S k70 70 W base ok (.slice A 8 c) l) : 8 = l.length ∧ l.length ≤ c ∧ Kd.C k70 W A l.length l := by
 have q := Kd.S_reads' h
 exact ⟨q.1, q.1 ▸ q.2.1, q.2.2⟩
set_option maxHeartbeats 8000000 in
set_option maxRecDepth 100000 in
theorem eqHouseS_ (base1 base2 : Nat) (A : Option Addr) (c : Nat) (h : Nat → HV) (I : Nat → Nat → Prop) (B : Option Addr) (d : Nat) (y : Nat → HV) (J : Nat → Nat → Prop) (w : World) (ha : HS base1 w 3 (.slice A 3 c) h I) (hb : HS base2 w 3 (.slice B 3 d) y J) : Calls Try.prog 34 #[.slice A 3 c, .slice B 3 d] w fun e w' => e = .returned (.bool true) ∧ Below w.heap.size w w' := by
 obtain ⟨g, rfl, a1, _, _⟩ := ha.at_
 obtain ⟨m, rfl, a2, _, _⟩ := hb.at_
 have AT1 := Aside0.mk a1
 have AT2 := Aside0.mk a2
 clear a1 a2
 have SA0 := Aside0.mk (ha.2.1 0 (by omega))
 have SB0 := Aside0.mk (hb.2.1 0 (by omega))
 have SA1 := Aside0.mk (ha.2.1 1 (by omega))
 have SB1 := Aside0.mk (hb.2.1 1 (by omega))
 have SA2 := Aside0.mk (ha.2.1 2 (by omega))
 have SB2 := Aside0.mk (hb.2.1 2 (by omega))
 clear ha hb
 have hu26 := Try.underlying26
 have HB := Aside0.mk (Below.refl w.heap.size w)
 go_enter Try.func34, Try.ntmps34
 go_wp2_with (fail)
 refine wp_loop_rounds 4 ?_
 rw [rounds_succ]
 go_wp2_with (fail)
 have AT1 := Aside0.mk (At.below AT1.out (below_drew (Below.refl _ _)))
 have AT2 := Aside0.mk (At.below AT2.out (below_drew (Below.refl _ _)))
 have SA0 := Aside0.mk (Kd.S_below SA0.out (below_drew (Below.refl _ _)))
 have SB0 := Aside0.mk (Kd.S_below SB0.out (below_drew (Below.refl _ _)))
 have SA1 := Aside0.mk (Kd.S_below SA1.out (below_drew (Below.refl _ _)))
 have SB1 := Aside0.mk (Kd.S_below SB1.out (below_drew (Below.refl _ _)))
 have SA2 := Aside0.mk (Kd.S_below SA2.out (below_drew (Below.refl _ _)))
 have SB2 := Aside0.mk (Kd.S_below SB2.out (below_drew (Below.refl _ _)))
 have HB := Aside0.mk (below_drew1 HB.out)
 have HSS := (show (w.drew).cell? ⟨g, 0, none⟩ = some (.int .i64 0) ∧ (w.drew).cell? ⟨g, 1, none⟩ = some (.bool true) ∧ (w.drew).cell? ⟨g, 2, none⟩ = some (.slice (h 0).a2 0 (h 0).c2) ∧ (w.drew).cell? ⟨g, 3, none⟩ = some (.int .i64 0) ∧ (w.drew).cell? ⟨g, 4, none⟩ = some (.slice (h 0).a4 8 (h 0).c4) ∧ (w.drew).cell? ⟨g, 5, none⟩ = some (.slice (h 0).a5 0 (h 0).c5) ∧ (w.drew).cell? ⟨m, 0, none⟩ = some (.int .i64 0) ∧ (w.drew).cell? ⟨m, 1, none⟩ = some (.bool true) ∧ (w.drew).cell? ⟨m, 2, none⟩ = some (.slice (y 0).a2 0 (y 0).c2) ∧ (w.drew).cell? ⟨m, 3, none⟩ = some (.int .i64 0) ∧ (w.drew).cell? ⟨m, 4, none⟩ = some (.slice (y 0).a4 8 (y 0).c4) ∧ (w.drew).cell? ⟨m, 5, none⟩ = some (.slice (y 0).a5 0 (y 0).c5) ∧ True from ⟨AT1.out.cell 0 rfl, AT1.out.cell 1 rfl, AT1.out.cell 2 rfl, AT1.out.cell 3 rfl, AT1.out.cell 4 rfl, AT1.out.cell 5 rfl, AT2.out.cell 0 rfl, AT2.out.cell 1 rfl, AT2.out.cell 2 rfl, AT2.out.cell 3 rfl, AT2.out.cell 4 rfl, AT2.out.cell 5 rfl, trivial⟩)
 refine start_ (n := 10) (S := fun w' => w'.cell? ⟨g, 0, none⟩ = some (.int .i64 0) ∧ w'.cell? ⟨g, 1, none⟩ = some (.bool true) ∧ w'.cell? ⟨g, 2, none⟩ = some (.slice (h 0).a2 0 (h 0).c2) ∧ w'.cell? ⟨g, 3, none⟩ = some (.int .i64 0) ∧ w'.cell? ⟨g, 4, none⟩ = some (.slice (h 0).a4 8 (h 0).c4) ∧ w'.cell? ⟨g, 5, none⟩ = some (.slice (h 0).a5 0 (h 0).c5) ∧ w'.cell? ⟨m, 0, none⟩ = some (.int .i64 0) ∧ w'.cell? ⟨m, 1, none⟩ = some (.bool true) ∧ w'.cell? ⟨m, 2, none⟩ = some (.slice (y 0).a2 0 (y 0).c2) ∧ w'.cell? ⟨m, 3, none⟩ = some (.int .i64 0) ∧ w'.cell? ⟨m, 4, none⟩ = some (.slice (y 0).a4 8 (y 0).c4) ∧ w'.cell? ⟨m, 5, none⟩ = some (.slice (y 0).a5 0 (y 0).c5) ∧ True) (ds := []) (bt_ 10 0) (by kernel_rfl) rfl rfl HSS (fun hHeld => ?_)
 clear HSS
 generalize w.drew = W1 at AT1 AT2 SA0 SB0 SA1 SB1 SA2 SB2 HB hHeld ⊢
 refine pu_ 0 (some 17) (bt_ 10 1) (by kernel_rfl) ?_
 refine pu_ 1 (some 18) (bt_ 10 3) (by kernel_rfl) ?_
 refine pu_ 2 (some 19) (bt_ 10 7) (by kernel_rfl) ?_
 refine tk_ 3 (some 20) (bt_ 10 15) (by kernel_rfl) hHeld ?_
 refine pu_ 4 (some 21) (bt_ 10 31) (by kernel_rfl) ?_
 refine pu_ 5 (some 22) (bt_ 10 63) (by kernel_rfl) ?_
 refine pu_ 6 (some 23) (bt_ 10 127) (by kernel_rfl) ?_
 refine tk_ 7 (some 24) (bt_ 10 255) (by kernel_rfl) hHeld ?_
 clear hHeld
 refine one_ (i := 8) (N := some 25) (bt_ 10 511) rfl rfl (by kernel_rfl) (by decide) (fun K hK => ?_)
 refine goes_ Try.func8 (by kernel_rfl) rfl #[.agg #[.int .i64 0, .bool true, .slice (h 0).a2 0 (h 0).c2, .int .i64 0, .slice (h 0).a4 8 (h 0).c4, .slice (h 0).a5 0 (h 0).c5], .agg #[.int .i64 0, .bool true, .slice (y 0).a2 0 (y 0).c2, .int .i64 0, .slice (y 0).a4 8 (y 0).c4, .slice (y 0).a5 0 (y 0).c5]] (by rfl) rfl rfl (by simp only [List.map_toArray, List.map_cons, List.map_nil]; rfl) ?_
 have hh := laws_eqHouse.calls 40 0 true (h 0).a2 (h 0).c2 [] 0 (h 0).a4 (h 0).c4 (lmarks 0 8) (h 0).a5 (h 0).c5 [] 0 true (y 0).a2 (y 0).c2 [] 0 (y 0).a4 (y 0).c4 (lmarks 0 8) (y 0).a5 (y 0).c5 [] true W1 (C_nil _ _ _) (Nat.zero_le _) (lk SA0.out).2.2 (lk SA0.out).2.1 (C_nil _ _ _) (Nat.zero_le _) (C_nil _ _ _) (Nat.zero_le _) (lk SB0.out).2.2 (lk SB0.out).2.1 (C_nil _ _ _) (Nat.zero_le _) (by kernel_rfl)
 rw [lmarks_length] at hh
 refine hh.mono ?_
 clear hh
 rintro e W2 ⟨rfl, hb⟩
 refine ⟨_, rfl, ?_⟩
 have AT1 := Aside0.mk (At.below AT1.out (hb))
 have AT2 := Aside0.mk (At.below AT2.out (hb))
 have SA0 := Aside0.mk (Kd.S_below SA0.out (hb))
 have SB0 := Aside0.mk (Kd.S_below SB0.out (hb))
 have SA1 := Aside0.mk (Kd.S_below SA1.out (hb))
 have SB1 := Aside0.mk (Kd.S_below SB1.out (hb))
 have SA2 := Aside0.mk (Kd.S_below SA2.out (hb))
 have SB2 := Aside0.mk (Kd.S_below SB2.out (hb))
 have HB := Aside0.mk (below_step HB.out (hb))
 clear hb
 refine hK.out _ _ ⟨AT1.out.cell 0 rfl, AT1.out.cell 1 rfl, AT1.out.cell 2 rfl, AT1.out.cell 3 rfl, AT1.out.cell 4 rfl, AT1.out.cell 5 rfl, AT2.out.cell 0 rfl, AT2.out.cell 1 rfl, AT2.out.cell 2 rfl, AT2.out.cell 3 rfl, AT2.out.cell 4 rfl, AT2.out.cell 5 rfl, trivial⟩ (fun hHeld => ?_)
 clear hK K
 refine norm_ (a' := ?_) ?_ ?_
 rotate_left
 ·show Act.put _ (some 25) _ = _
  simp only [Act.put, List.setIfInBounds_toArray, List.set_cons_zero, List.set_cons_succ, i64_w, i32_w]
  rfl
 clear hHeld
 refine pu_ 9 (some 26) (bt_ 10 1023) (by kernel_rfl) ?_
 refine done_ (by kernel_rfl) ?_
 go_wp2_with (fail)
 rw [rounds_succ]
 go_wp2_with (fail)
 have AT1 := Aside0.mk (At.below AT1.out (below_drew (Below.refl _ _)))
 have AT2 := Aside0.mk (At.below AT2.out (below_drew (Below.refl _ _)))
 have SA0 := Aside0.mk (Kd.S_below SA0.out (below_drew (Below.refl _ _)))
 have SB0 := Aside0.mk (Kd.S_below SB0.out (below_drew (Below.refl _ _)))
 have SA1 := Aside0.mk (Kd.S_below SA1.out (below_drew (Below.refl _ _)))
 have SB1 := Aside0.mk (Kd.S_below SB1.out (below_drew (Below.refl _ _)))
 have SA2 := Aside0.mk (Kd.S_below SA2.out (below_drew (Below.refl _ _)))
 have SB2 := Aside0.mk (Kd.S_below SB2.out (below_drew (Below.refl _ _)))
 have HB := Aside0.mk (below_drew1 HB.out)
 have HSS := (show (W2.drew).cell? ⟨g, 6, none⟩ = some (.int .i64 1) ∧ (W2.drew).cell? ⟨g, 7, none⟩ = some (.bool true) ∧ (W2.drew).cell? ⟨g, 8, none⟩ = some (.slice (h 1).a2 0 (h 1).c2) ∧ (W2.drew).cell? ⟨g, 9, none⟩ = some (.int .i64 0) ∧ (W2.drew).cell? ⟨g, 10, none⟩ = some (.slice (h 1).a4 8 (h 1).c4) ∧ (W2.drew).cell? ⟨g, 11, none⟩ = some (.slice (h 1).a5 0 (h 1).c5) ∧ (W2.drew).cell? ⟨m, 6, none⟩ = some (.int .i64 1) ∧ (W2.drew).cell? ⟨m, 7, none⟩ = some (.bool true) ∧ (W2.drew).cell? ⟨m, 8, none⟩ = some (.slice (y 1).a2 0 (y 1).c2) ∧ (W2.drew).cell? ⟨m, 9, none⟩ = some (.int .i64 0) ∧ (W2.drew).cell? ⟨m, 10, none⟩ = some (.slice (y 1).a4 8 (y 1).c4) ∧ (W2.drew).cell? ⟨m, 11, none⟩ = some (.slice (y 1).a5 0 (y 1).c5) ∧ True from ⟨AT1.out.cell 6 rfl, AT1.out.cell 7 rfl, AT1.out.cell 8 rfl, AT1.out.cell 9 rfl, AT1.out.cell 10 rfl, AT1.out.cell 11 rfl, AT2.out.cell 6 rfl, AT2.out.cell 7 rfl, AT2.out.cell 8 rfl, AT2.out.cell 9 rfl, AT2.out.cell 10 rfl, AT2.out.cell 11 rfl, trivial⟩)
 refine start_ (n := 10) (S := fun w' => w'.cell? ⟨g, 6, none⟩ = some (.int .i64 1) ∧ w'.cell? ⟨g, 7, none⟩ = some (.bool true) ∧ w'.cell? ⟨g, 8, none⟩ = some (.slice (h 1).a2 0 (h 1).c2) ∧ w'.cell? ⟨g, 9, none⟩ = some (.int .i64 0) ∧ w'.cell? ⟨g, 10, none⟩ = some (.slice (h 1).a4 8 (h 1).c4) ∧ w'.cell? ⟨g, 11, none⟩ = some (.slice (h 1).a5 0 (h 1).c5) ∧ w'.cell? ⟨m, 6, none⟩ = some (.int .i64 1) ∧ w'.cell? ⟨m, 7, none⟩ = some (.bool true) ∧ w'.cell? ⟨m, 8, none⟩ = some (.slice (y 1).a2 0 (y 1).c2) ∧ w'.cell? ⟨m, 9, none⟩ = some (.int .i64 0) ∧ w'.cell? ⟨m, 10, none⟩ = some (.slice (y 1).a4 8 (y 1).c4) ∧ w'.cell? ⟨m, 11, none⟩ = some (.slice (y 1).a5 0 (y 1).c5) ∧ True) (ds := []) (bt_ 10 0) (by kernel_rfl) rfl rfl HSS (fun hHeld => ?_)
 clear HSS
 generalize W2.drew = W3 at AT1 AT2 SA0 SB0 SA1 SB1 SA2 SB2 HB hHeld ⊢
 refine pu_ 0 (some 17) (bt_ 10 1) (by kernel_rfl) ?_
 refine pu_ 1 (some 18) (bt_ 10 3) (by kernel_rfl) ?_
 refine pu_ 2 (some 19) (bt_ 10 7) (by kernel_rfl) ?_
 refine tk_ 3 (some 20) (bt_ 10 15) (by kernel_rfl) hHeld ?_
 refine pu_ 4 (some 21) (bt_ 10 31) (by kernel_rfl) ?_
 refine pu_ 5 (some 22) (bt_ 10 63) (by kernel_rfl) ?_
 refine pu_ 6 (some 23) (bt_ 10 127) (by kernel_rfl) ?_
 refine tk_ 7 (some 24) (bt_ 10 255) (by kernel_rfl) hHeld ?_
 clear hHeld
 refine one_ (i := 8) (N := some 25) (bt_ 10 511) rfl rfl (by kernel_rfl) (by decide) (fun K hK => ?_)
 refine goes_ Try.func8 (by kernel_rfl) rfl #[.agg #[.int .i64 1, .bool true, .slice (h 1).a2 0 (h 1).c2, .int .i64 0, .slice (h 1).a4 8 (h 1).c4, .slice (h 1).a5 0 (h 1).c5], .agg #[.int .i64 1, .bool true, .slice (y 1).a2 0 (y 1).c2, .int .i64 0, .slice (y 1).a4 8 (y 1).c4, .slice (y 1).a5 0 (y 1).c5]] (by rfl) rfl rfl (by simp only [List.map_toArray, List.map_cons, List.map_nil]; rfl) ?_
 have hh := laws_eqHouse.calls 40 1 true (h 1).a2 (h 1).c2 [] 0 (h 1).a4 (h 1).c4 (lmarks 0 8) (h 1).a5 (h 1).c5 [] 1 true (y 1).a2 (y 1).c2 [] 0 (y 1).a4 (y 1).c4 (lmarks 0 8) (y 1).a5 (y 1).c5 [] true W3 (C_nil _ _ _) (Nat.zero_le _) (lk SA1.out).2.2 (lk SA1.out).2.1 (C_nil _ _ _) (Nat.zero_le _) (C_nil _ _ _) (Nat.zero_le _) (lk SB1.out).2.2 (lk SB1.out).2.1 (C_nil _ _ _) (Nat.zero_le _) (by kernel_rfl)
 rw [lmarks_length] at hh
 refine hh.mono ?_
 clear hh
 rintro e W4 ⟨rfl, hb⟩
 refine ⟨_, rfl, ?_⟩
 have AT1 := Aside0.mk (At.below AT1.out (hb))
 have AT2 := Aside0.mk (At.below AT2.out (hb))
 have SA0 := Aside0.mk (Kd.S_below SA0.out (hb))
 have SB0 := Aside0.mk (Kd.S_below SB0.out (hb))
 have SA1 := Aside0.mk (Kd.S_below SA1.out (hb))
 have SB1 := Aside0.mk (Kd.S_below SB1.out (hb))
 have SA2 := Aside0.mk (Kd.S_below SA2.out (hb))
 have SB2 := Aside0.mk (Kd.S_below SB2.out (hb))
 have HB := Aside0.mk (below_step HB.out (hb))
 clear hb
 refine hK.out _ _ ⟨AT1.out.cell 6 rfl, AT1.out.cell 7 rfl, AT1.out.cell 8 rfl, AT1.out.cell 9 rfl, AT1.out.cell 10 rfl, AT1.out.cell 11 rfl, AT2.out.cell 6 rfl, AT2.out.cell 7 rfl, AT2.out.cell 8 rfl, AT2.out.cell 9 rfl, AT2.out.cell 10 rfl, AT2.out.cell 11 rfl, trivial⟩ (fun hHeld => ?_)
 clear hK K
 refine norm_ (a' := ?_) ?_ ?_
 rotate_left
 ·show Act.put _ (some 25) _ = _
  simp only [Act.put, List.setIfInBounds_toArray, List.set_cons_zero, List.set_cons_succ, i64_w, i32_w]
  rfl
 clear hHeld
 refine pu_ 9 (some 26) (bt_ 10 1023) (by kernel_rfl) ?_
 refine done_ (by kernel_rfl) ?_
 go_wp2_with (fail)
 rw [rounds_succ]
 go_wp2_with (fail)
 have AT1 := Aside0.mk (At.below AT1.out (below_drew (Below.refl _ _)))
 have AT2 := Aside0.mk (At.below AT2.out (below_drew (Below.refl _ _)))
 have SA0 := Aside0.mk (Kd.S_below SA0.out (below_drew (Below.refl _ _)))
 have SB0 := Aside0.mk (Kd.S_below SB0.out (below_drew (Below.refl _ _)))
 have SA1 := Aside0.mk (Kd.S_below SA1.out (below_drew (Below.refl _ _)))
 have SB1 := Aside0.mk (Kd.S_below SB1.out (below_drew (Below.refl _ _)))
 have SA2 := Aside0.mk (Kd.S_below SA2.out (below_drew (Below.refl _ _)))
 have SB2 := Aside0.mk (Kd.S_below SB2.out (below_drew (Below.refl _ _)))
 have HB := Aside0.mk (below_drew1 HB.out)
 have HSS := (show (W4.drew).cell? ⟨g, 12, none⟩ = some (.int .i64 2) ∧ (W4.drew).cell? ⟨g, 13, none⟩ = some (.bool true) ∧ (W4.drew).cell? ⟨g, 14, none⟩ = some (.slice (h 2).a2 0 (h 2).c2) ∧ (W4.drew).cell? ⟨g, 15, none⟩ = some (.int .i64 0) ∧ (W4.drew).cell? ⟨g, 16, none⟩ = some (.slice (h 2).a4 8 (h 2).c4) ∧ (W4.drew).cell? ⟨g, 17, none⟩ = some (.slice (h 2).a5 0 (h 2).c5) ∧ (W4.drew).cell? ⟨m, 12, none⟩ = some (.int .i64 2) ∧ (W4.drew).cell? ⟨m, 13, none⟩ = some (.bool true) ∧ (W4.drew).cell? ⟨m, 14, none⟩ = some (.slice (y 2).a2 0 (y 2).c2) ∧ (W4.drew).cell? ⟨m, 15, none⟩ = some (.int .i64 0) ∧ (W4.drew).cell? ⟨m, 16, none⟩ = some (.slice (y 2).a4 8 (y 2).c4) ∧ (W4.drew).cell? ⟨m, 17, none⟩ = some (.slice (y 2).a5 0 (y 2).c5) ∧ True from ⟨AT1.out.cell 12 rfl, AT1.out.cell 13 rfl, AT1.out.cell 14 rfl, AT1.out.cell 15 rfl, AT1.out.cell 16 rfl, AT1.out.cell 17 rfl, AT2.out.cell 12 rfl, AT2.out.cell 13 rfl, AT2.out.cell 14 rfl, AT2.out.cell 15 rfl, AT2.out.cell 16 rfl, AT2.out.cell 17 rfl, trivial⟩)
 refine start_ (n := 10) (S := fun w' => w'.cell? ⟨g, 12, none⟩ = some (.int .i64 2) ∧ w'.cell? ⟨g, 13, none⟩ = some (.bool true) ∧ w'.cell? ⟨g, 14, none⟩ = some (.slice (h 2).a2 0 (h 2).c2) ∧ w'.cell? ⟨g, 15, none⟩ = some (.int .i64 0) ∧ w'.cell? ⟨g, 16, none⟩ = some (.slice (h 2).a4 8 (h 2).c4) ∧ w'.cell? ⟨g, 17, none⟩ = some (.slice (h 2).a5 0 (h 2).c5) ∧ w'.cell? ⟨m, 12, none⟩ = some (.int .i64 2) ∧ w'.cell? ⟨m, 13, none⟩ = some (.bool true) ∧ w'.cell? ⟨m, 14, none⟩ = some (.slice (y 2).a2 0 (y 2).c2) ∧ w'.cell? ⟨m, 15, none⟩ = some (.int .i64 0) ∧ w'.cell? ⟨m, 16, none⟩ = some (.slice (y 2).a4 8 (y 2).c4) ∧ w'.cell? ⟨m, 17, none⟩ = some (.slice (y 2).a5 0 (y 2).c5) ∧ True) (ds := []) (bt_ 10 0) (by kernel_rfl) rfl rfl HSS (fun hHeld => ?_)
 clear HSS
 generalize W4.drew = W5 at AT1 AT2 SA0 SB0 SA1 SB1 SA2 SB2 HB hHeld ⊢
 refine pu_ 0 (some 17) (bt_ 10 1) (by kernel_rfl) ?_
 refine pu_ 1 (some 18) (bt_ 10 3) (by kernel_rfl) ?_
 refine pu_ 2 (some 19) (bt_ 10 7) (by kernel_rfl) ?_
 refine tk_ 3 (some 20) (bt_ 10 15) (by kernel_rfl) hHeld ?_
 refine pu_ 4 (some 21) (bt_ 10 31) (by kernel_rfl) ?_
 refine pu_ 5 (some 22) (bt_ 10 63) (by kernel_rfl) ?_
 refine pu_ 6 (some 23) (bt_ 10 127) (by kernel_rfl) ?_
 refine tk_ 7 (some 24) (bt_ 10 255) (by kernel_rfl) hHeld ?_
 clear hHeld
 refine one_ (i := 8) (N := some 25) (bt_ 10 511) rfl rfl (by kernel_rfl) (by decide) (fun K hK => ?_)
 refine goes_ Try.func8 (by kernel_rfl) rfl #[.agg #[.int .i64 2, .bool true, .slice (h 2).a2 0 (h 2).c2, .int .i64 0, .slice (h 2).a4 8 (h 2).c4, .slice (h 2).a5 0 (h 2).c5], .agg #[.int .i64 2, .bool true, .slice (y 2).a2 0 (y 2).c2, .int .i64 0, .slice (y 2).a4 8 (y 2).c4, .slice (y 2).a5 0 (y 2).c5]] (by rfl) rfl rfl (by simp only [List.map_toArray, List.map_cons, List.map_nil]; rfl) ?_
 have hh := laws_eqHouse.calls 40 2 true (h 2).a2 (h 2).c2 [] 0 (h 2).a4 (h 2).c4 (lmarks 0 8) (h 2).a5 (h 2).c5 [] 2 true (y 2).a2 (y 2).c2 [] 0 (y 2).a4 (y 2).c4 (lmarks 0 8) (y 2).a5 (y 2).c5 [] true W5 (C_nil _ _ _) (Nat.zero_le _) (lk SA2.out).2.2 (lk SA2.out).2.1 (C_nil _ _ _) (Nat.zero_le _) (C_nil _ _ _) (Nat.zero_le _) (lk SB2.out).2.2 (lk SB2.out).2.1 (C_nil _ _ _) (Nat.zero_le _) (by kernel_rfl)
 rw [lmarks_length] at hh
 refine hh.mono ?_
 clear hh
 rintro e W6 ⟨rfl, hb⟩
 refine ⟨_, rfl, ?_⟩
 have AT1 := Aside0.mk (At.below AT1.out (hb))
 have AT2 := Aside0.mk (At.below AT2.out (hb))
 have SA0 := Aside0.mk (Kd.S_below SA0.out (hb))
 have SB0 := Aside0.mk (Kd.S_below SB0.out (hb))
 have SA1 := Aside0.mk (Kd.S_below SA1.out (hb))
 have SB1 := Aside0.mk (Kd.S_below SB1.out (hb))
 have SA2 := Aside0.mk (Kd.S_below SA2.out (hb))
 have SB2 := Aside0.mk (Kd.S_below SB2.out (hb))
 have HB := Aside0.mk (below_step HB.out (hb))
 clear hb
 refine hK.out _ _ ⟨AT1.out.cell 12 rfl, AT1.out.cell 13 rfl, AT1.out.cell 14 rfl, AT1.out.cell 15 rfl, AT1.out.cell 16 rfl, AT1.out.cell 17 rfl, AT2.out.cell 12 rfl, AT2.out.cell 13 rfl, AT2.out.cell 14 rfl, AT2.out.cell 15 rfl, AT2.out.cell 16 rfl, AT2.out.cell 17 rfl, trivial⟩ (fun hHeld => ?_)
 clear hK K
 refine norm_ (a' := ?_) ?_ ?_
 rotate_left
 ·show Act.put _ (some 25) _ = _
  simp only [Act.put, List.setIfInBounds_toArray, List.set_cons_zero, List.set_cons_succ, i64_w, i32_w]
  rfl
 clear hHeld
 refine pu_ 9 (some 26) (bt_ 10 1023) (by kernel_rfl) ?_
 refine done_ (by kernel_rfl) ?_
 go_wp2_with (fail)
 rw [rounds_succ]
 go_wp2_with (fail)
 go_ret
 exact ⟨rfl, HB.out⟩
end Go.Proofs.Ythahadclegihaaa.PX
