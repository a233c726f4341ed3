-- Written by a program of this workplace (wip/xprint.py over the kit's print.py) out of the translation.
import Derived.Test.YtnpmepaiigbhlaaPXx0
import Derived.Test.YtnpmepaiigbhlaaPXx8
import Derived.Test.YtnpmepaiigbhlaaPXx10
namespace Go.Proofs.Ytnpmepaiigbhlaa.PX
open Go.RowKit Go.Proofs.YtnpmepaiigbhlaaW.PrintWords Go.Proofs.YtnpmepaiigbhlaaW.PrintLast Go.Proofs.YtnpmepaiigbhlaaW.PrintMore
attribute [local go_sem] max2_int min2_int max_two min_two max_three min_three max_four min_four   -- for this text's walks alone
set_option linter.unusedVariables false
set_option linter.unusedSimpArgs false

/-! ### spec_MapHouse: function 26 -/
def spec_MapHouse.f (k : Nat) (a0_0 : Int) (l0_1 : List Int) (a1 : Int) : Option (Int) := (spec_MapOk.f k a0_0 l0_1).bind fun ok => (if ok = true then ((spec_MapSlot.f a1).bind fun s => (if s < 0 then some (-1) else (if s < (l0_1.length : Int) then some (rd l0_1 s) else none))) else some (-1))
theorem spec_MapHouse.mono : ∀ a0 a1 a2 k, LeO (spec_MapHouse.f k a0 a1 a2) (spec_MapHouse.f (k + 1) a0 a1 a2) := by
  intro a0 a1 a2 k
  unfold spec_MapHouse.f
  repeat' first
      | (with_reducible exact spec_MapOk.mono _ _ _)
      | (with_reducible exact LeO.refl _)
      | (with_reducible exact LeO.none _)
      | (with_reducible refine LeO.ite ?_ ?_)
      | (with_reducible refine LeO.bind ?_ (fun _ => ?_))
      | exact spec_MapOk.mono _ _ _
      | exact LeO.none _
      | refine LeO.ite ?_ ?_
      | refine LeO.bind ?_ (fun _ => ?_)
set_option maxHeartbeats 8000000 in
set_option maxRecDepth 100000 in
theorem spec_MapHouse.calls (k : Nat) (a0_0 : Int) (A0_1 : Option Addr) (c0_1 : Nat) (l0_1 : List Int) (a1 : Int) (r : Int) (w : World) (hr0_1 : Kd.C (Kd.int .i64) w A0_1 l0_1.length l0_1) (hc0_1 : l0_1.length ≤ c0_1) (h : spec_MapHouse.f k a0_0 l0_1 a1 = some r) :
    Calls Try.prog 26 #[.agg #[.int .i64 a0_0, .slice A0_1 l0_1.length c0_1], .int .i64 a1] w fun e w' => e = .returned (.int .i64 r) ∧ Below w.heap.size w w' := by
  have hu27 := Try.underlying27
  have HR := Aside0.mk hr0_1
  have HC := Aside0.mk hc0_1
  clear hr0_1 hc0_1
  unfold spec_MapHouse.f at h
  obtain ⟨ok, A1, h⟩ := Option.bind_eq_some_iff.mp h
  have A1 := Aside0.mk A1
  have HB0 := Aside0.mk (Below.refl w.heap.size w)
  cases ok with
  | false =>
    rw [if_neg (by decide)] at h
    obtain rfl := Option.some.inj h
    clear h
    go_enter Try.func26, Try.ntmps26
    go_wp2_with (go_at_call 23; (with_reducible refine (spec_MapOk.calls k a0_0 _ _ l0_1 false _ ?s1 HC.out A1.out).mono ?_); (case s1 => exact Kd.C_below HR.out (below_alloc (Below.refl _ _) _)); rintro e w1 ⟨rfl, hb⟩; have HB := Aside0.mk (below_then (below_alloc (Below.refl _ _) _) (by simp) hb); clear hb)
    go_ret
    exact ⟨rfl, HB.out⟩
  | true =>
    rw [if_pos rfl] at h
    obtain ⟨s, A2, h⟩ := Option.bind_eq_some_iff.mp h
    have A2 := Aside0.mk A2
    by_cases c : s < 0
    · rw [if_pos c] at h
      obtain rfl := Option.some.inj h
      have cb : decide (s < 0) = true := decide_eq_true c
      clear h c
      go_enter Try.func26, Try.ntmps26
      go_wp2_with (fail)
      refine (spec_MapOk.calls k a0_0 _ _ l0_1 true _ (Kd.C_below HR.out (below_alloc (Below.refl _ _) _)) HC.out A1.out).mono ?_
      rintro e w1 ⟨rfl, hb⟩
      have HB := Aside0.mk (below_then (below_alloc (Below.refl _ _) _) (by simp) hb)
      clear hb
      go_wp2_with (fail)
      refine (spec_MapSlot.calls a1 s _ A2.out).mono ?_
      rintro e w2 ⟨rfl, ⟨nd, rfl⟩⟩
      go_wp2
      go_ret
      exact ⟨rfl, pw_below_drewN HB.out _⟩
    · rw [if_neg c] at h
      have cb : decide (s < 0) = false := decide_eq_false c
      by_cases c2 : s < (l0_1.length : Int)
      · rw [if_pos c2] at h
        obtain rfl := Option.some.inj h
        clear h
        obtain ⟨ad, e, hx⟩ := Kd.at_int HR.out s (by omega) c2
        subst e
        have HX := Aside0.mk hx
        have p : (0 ≤ s) = True := eq_true (by omega)
        have q : (s < (l0_1.length : Int)) = True := eq_true c2
        clear c c2 hx
        go_enter Try.func26, Try.ntmps26
        go_wp2_with (fail)
        refine (spec_MapOk.calls k a0_0 _ _ l0_1 true _ (Kd.C_below HR.out (below_alloc (Below.refl _ _) _)) HC.out A1.out).mono ?_
        rintro e w1 ⟨rfl, hb⟩
        have BK := Aside0.mk (blk_below (blk_new w _) hb)
        have HB := Aside0.mk (below_then (below_alloc (Below.refl _ _) _) (by simp) hb)
        clear hb
        go_wp2_with (fail)
        refine (spec_MapSlot.calls a1 s _ A2.out).mono ?_
        rintro e w2 ⟨rfl, ⟨nd, rfl⟩⟩
        have hx := (HB.out.cell (World.block_lt_of_cell? w _ HX.out)).trans HX.out
        have hc0 : w1.cell? ⟨w.heap.size, 0, none⟩ = some (.int .i64 a0_0) := (blk_cell BK.out 0).trans rfl
        have hc1 : w1.cell? ⟨w.heap.size, 1, none⟩ = some (.slice (some ad) l0_1.length c0_1) := (blk_cell BK.out 1).trans rfl
        go_wp2_with (fail)
        go_quiet ((go_at_call 15; (with_reducible refine (spec_MapSlot.calls a1 s _ A2.out).mono ?_); rintro e w' ⟨rfl, ⟨nd, rfl⟩⟩; (first | exact ⟨rfl, _, World.drewN_drewN _ _ _⟩ | exact ⟨rfl, _, Eq.trans (World.drewN_drewN _ _ _) (congrArg (World.drewN _) (Nat.add_assoc _ _ _))⟩)))
        go_wp2
        go_ret
        exact ⟨rfl, by repeat (first | exact HB.out | apply pw_below_drewN)⟩
      · rw [if_neg c2] at h
        cases h

end Go.Proofs.Ytnpmepaiigbhlaa.PX
