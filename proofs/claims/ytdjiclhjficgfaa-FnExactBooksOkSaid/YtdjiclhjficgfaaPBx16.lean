import Derived.Test.YtdjiclhjficgfaaPBx0
namespace Go.Proofs.Ytdjiclhjficgfaa.PB
open Go.RowKit Go.Proofs.YtdjiclhjficgfaaW.PrintWords Go.Proofs.YtdjiclhjficgfaaW.PrintLast Go.Proofs.YtdjiclhjficgfaaW.PrintMore
attribute [local go_sem] max2_int min2_int max_two min_two max_three min_three max_four min_four
set_option linter.unusedVariables false
set_option linter.unusedSimpArgs false

set_option maxHeartbeats 8000000 in
set_option maxRecDepth 100000 in
theorem store1_yes (a : Int) (w : World) : Calls Try.prog 95 #[.agg #[.int .i64 a, .int .i64 0]] w fun e w' => e = .returned (.bool true) ∧ Below w.heap.size w w' := by
 have hu := Try.underlying48
 have HB := Aside0.mk (Below.refl w.heap.size w)
 go_enter Try.func95, Try.ntmps95
 go_wp2
 go_ret
 exact ⟨rfl, by repeat (first | exact HB.out | apply below_alloc | apply pw_below_drewN)⟩
set_option maxHeartbeats 8000000 in
set_option maxRecDepth 100000 in
theorem store1_no (a b : Int) (hb : b ≠ 0) (w : World) : Calls Try.prog 95 #[.agg #[.int .i64 a, .int .i64 b]] w fun e w' => e = .returned (.bool false) ∧ Below w.heap.size w w' := by
 have hu := Try.underlying48
 have HB := Aside0.mk (Below.refl w.heap.size w)
 have p : (b = 0) = False := eq_false hb
 have q : decide (b = 0) = false := decide_eq_false hb
 have q2 : (b == 0) = false := beq_eq_false_iff_ne.mpr hb
 clear hb
 go_enter Try.func95, Try.ntmps95
 go_wp2
 go_ret
 exact ⟨rfl, by repeat (first | exact HB.out | apply below_alloc | apply pw_below_drewN)⟩
set_option maxHeartbeats 8000000 in
set_option maxRecDepth 100000 in
theorem idx_zero (A0 : Option Addr) (c0 : Nat) (l0 : List S48) (w : World) (hr0 : Kd.C k48 w A0 l0.length l0) (hc0 : l0.length ≤ c0) :
 Calls Try.prog 100 #[.slice A0 l0.length c0, .func (.func 95) #[] #[]] w fun e w' => ∃ i : Int, e = .returned (.int .i64 i) ∧ decide (0 ≤ i) = l0.any (fun p => decide (p.f1 = 0)) ∧ Below w.heap.size w w' := by
 have HR := Aside0.mk hr0
 have HC := Aside0.mk hc0
 have HM := Aside0.mk (show l0.length ≤ 9223372036854775807 from hr0.2.1)
 clear hr0 hc0
 go_enter Try.func100, Try.ntmps100
 go_wp2_with (fail)
 go_loopw [8] (fun i wr => ∃ x : Int, Aside0 (0 ≤ x ∧ x ≤ l0.length) ∧ i = .int .i64 x ∧ Aside0 (∀ j : Nat, (j : Int) < x → (rd_T48 l0 (j : Int)).f1 ≠ 0) ∧ Aside0 (Below w.heap.size w wr)) (fun i _ => l0.length - (intOf i).toNat)
 case atStart => exact ⟨0, ⟨by omega⟩, rfl, ⟨fun j hj => absurd hj (by omega)⟩, ⟨by first | exact Below.refl _ _ | exact pw_below_drewN (Below.refl _ _) _⟩⟩
 case round =>
  obtain ⟨x, HX, rfl, HP, HB⟩ := hrel
  by_cases hlt : x < (l0.length : Int)
  ·have hdl : decide (x < (l0.length : Int)) = true := decide_eq_true hlt
   have HLT := Aside0.mk hlt
   obtain ⟨ad, hA, hx0, hx1⟩ := at_T48 HR.out x HX.out.1 hlt
   subst hA
   have hy0 := (HB.out.cell (World.block_lt_of_cell? w _ hx0)).trans hx0
   have hy1 := (HB.out.cell (World.block_lt_of_cell? w _ hx1)).trans hx1
   clear hx0 hx1
   have p : (0 ≤ x) = True := eq_true HX.out.1
   have q : (x < (l0.length : Int)) = True := eq_true hlt
   have hw : wrap64 (x + 1) = x + 1 := by have := HM.out; have := HX.out; unfold wrap64; omega
   clear hlt
   by_cases hz : (rd_T48 l0 x).f1 = 0
   ·have HY := Aside0.mk (show decide (0 ≤ x) = l0.any (fun p => decide (p.f1 = 0)) by
     rw [decide_eq_true HX.out.1, eq_comm, List.any_eq_true]
     have hxl : x.toNat < l0.length := by have := HX.out; have := HLT.out; omega
     refine ⟨l0[x.toNat], List.getElem_mem hxl, ?_⟩
     have : rd_T48 l0 x = l0[x.toNat] := by simp [rd_T48, List.getD_eq_getElem?_getD, List.getElem?_eq_getElem hxl]
     rw [← this]
     exact decide_eq_true hz)
    rw [hz] at hy1
    clear hz
    go_wp2_with (fail)
    refine (store1_yes _ _).mono ?_
    rintro e w2 ⟨rfl, hb⟩
    go_wp2_with (fail)
    go_ret
    exact ⟨x, rfl, HY.out, by first | exact below_step HB.out hb | (obtain ⟨nd, rfl⟩ := hb; exact pw_below_drewN HB.out _)⟩
   ·have HZ := Aside0.mk hz
    have HN := Aside0.mk (show ∀ j : Nat, (j : Int) < x + 1 → (rd_T48 l0 (j : Int)).f1 ≠ 0 by
     intro j hj
     by_cases hjk : (j : Int) = x
     ·rw [hjk]; exact hz
     ·exact HP.out j (by omega))
    clear hz
    go_wp2_with (fail)
    refine (store1_no _ _ HZ.out _).mono ?_
    rintro e w2 ⟨rfl, hb⟩
    go_wp2_with (fail)
    go_roundw
    case rel => exact ⟨x + 1, ⟨by have := HX.out; have := HLT.out; omega⟩, by first | rfl | (rw [hw]) | (simp [hw]), HN, ⟨by first | exact below_step HB.out hb | (obtain ⟨nd, rfl⟩ := hb; exact pw_below_drewN HB.out _)⟩⟩
    case measure => have := HX.out; have := HLT.out; simp [intOf, hw]; omega
  ·have hdl : decide (x < (l0.length : Int)) = false := decide_eq_false hlt
   have q : (x < (l0.length : Int)) = False := eq_false hlt
   have HY := Aside0.mk (show decide ((0 : Int) ≤ -1) = l0.any (fun p => decide (p.f1 = 0)) by
    rw [eq_comm, show decide ((0 : Int) ≤ -1) = false by decide, List.any_eq_false]
    intro y hy
    obtain ⟨j, hj, rfl⟩ := List.getElem_of_mem hy
    have hne := HP.out j (by omega)
    have : rd_T48 l0 (j : Int) = l0[j] := by simp [rd_T48, List.getD_eq_getElem?_getD, List.getElem?_eq_getElem hj]
    rw [this] at hne
    simpa using hne)
   clear hlt
   go_wp2_with (fail)
   go_ret
   exact ⟨-1, rfl, HY.out, HB.out⟩
def impl_Pair_94.f (l0 : List (S48)) : Option (Bool) := some (l0.any (fun p => decide (p.f1 = 0)))
set_option maxHeartbeats 8000000 in
set_option maxRecDepth 100000 in
theorem impl_Pair_94.calls (A0 : Option Addr) (c0 : Nat) (l0 : List S48) (r : Bool) (w : World) (hr0 : Kd.C k48 w A0 l0.length l0) (hc0 : l0.length ≤ c0) (h : impl_Pair_94.f l0 = some r) :
 Calls Try.prog 94 #[.slice A0 l0.length c0, .func (.func 95) #[] #[]] w fun e w' => e = .returned (.bool r) ∧ Below w.heap.size w w' := by
 have HE := Aside0.mk (show r = l0.any (fun p => decide (p.f1 = 0)) from (Option.some.inj h).symm)
 have HR := Aside0.mk hr0
 have HC := Aside0.mk hc0
 clear h hr0 hc0
 go_enter Try.func94, Try.ntmps94
 go_wp2_with (fail)
 refine (idx_zero A0 c0 l0 _ HR.out HC.out).mono ?_
 rintro e w1 ⟨i, rfl, hi, hb⟩
 have HB := Aside0.mk hb
 have HI := Aside0.mk (HE.out.trans hi.symm)
 clear hi hb
 by_cases h0 : 0 ≤ i
 ·have p : (0 ≤ i) = True := eq_true h0
  have pd : decide (0 ≤ i) = true := decide_eq_true h0
  have HI := Aside0.mk (HI.out.trans pd)
  obtain rfl := HI.out
  go_wp2_with (fail)
  go_ret
  exact ⟨rfl, HB.out⟩
 ·have p : (0 ≤ i) = False := eq_false h0
  have pd : decide (0 ≤ i) = false := decide_eq_false h0
  have HI := Aside0.mk (HI.out.trans pd)
  obtain rfl := HI.out
  go_wp2_with (fail)
  go_ret
  exact ⟨rfl, HB.out⟩

end Go.Proofs.Ytdjiclhjficgfaa.PB
